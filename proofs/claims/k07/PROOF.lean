import PyProof.Rows.All
import Wide.All
import OpenK.AllK
import Wide.FinOn
import KE.KStateDown
import Lean
import HandS.Base
import HandS.Call
import HandS.Ends
import HandS.More
import HandS.Words
import HandS.WordsExc
import HandS.Codes
import HandS.Defaults
import HandS.Head0
import HandS.Head1
import HandS.Head2
import HandS.HeadEnd
import HandS.HeadHook1
import HandS.HeadHook2
import HandS.CallSlots
import HandS.Comp
import HandS.Conv
import HandS.Deep
import HandS.Dict
import HandS.DictComp
import HandS.DictSubView
import HandS.DictTup
import HandS.ForExc
import HandS.ForMost
import HandS.IsInst
import HandS.Iter
import HandS.List
import HandS.SortKw
import HandS.Style
import HandS.TupAny
import HandS.Walk
import HandS.Wide
import KE.DataCmp
import KE.DataMinMax
import KE.GoesEnum
import KE.GoesZip
import KE.KDictKeyed
import KE.KDictList
import KE.KDictSum
import KE.KDictWalk
import KE.KEqDict
import KE.KeyNested
import KE.SortData
import PyProof.DictRoadsH
import PyProof.P3Eq
import PySem.Challenge.RW_galleyward_k07_whole_least_minutes
set_option Elab.async false
set_option linter.all false
set_option maxRecDepth 100000
set_option maxHeartbeats 0
set_option exponentiation.threshold 2000
/-! GA: abstract values over the hand layer: data are PyData, a frame owns its cells. -/
namespace G
open PySem PySem.Spec PyProof.Rows L2

/-! ### values, cells, frames, results -/
inductive AV where
  /-- data that nobody writes -/
  | dat (x : PyData)
  /-- a dict that nobody writes -/
  | dct (tp : Bool) (kvs : List (PyData × PyData))
  /-- the frame's own cell -/
  | cel (i : Nat)
  /-- the law's script -/
  | scr (ns : List Int)
inductive Cell where
  | lst (xs : List PyData)
  | dct (tp : Bool) (kvs : List (PyData × PyData))
  | gone
structure Fr where
  vars : List (Option AV)
  cells : List Cell
  /-- how many cells were handed in -/
  base : Nat
inductive Res (α : Type) where
  | ok (a : α) (f : Fr)
  | exc (c : Str) (fs : List (Str × PyData)) (f : Fr)
  | err

/-! ### how the heap bears them -/
/-- a list of the written part -/
def KL (K : PySem.W.Frag) (a : Addr) (xs : List V) : Prop := SqL K (fun _ => none) a xs
theorem KL.sql {K : PySem.W.Frag} {a : Addr} {xs : List V} (h : KL K a xs) (H : Hp) : SqL K H a xs := by
  rcases h with (h | ⟨_, h⟩) | h
  · cases h
  · cases h
  · exact .inr h
mutual
inductive Rep (K : PySem.W.Frag) (H : Hp) (ok : Addr → Prop) : V → PyData → Prop
  | non : Rep K H ok .non .none
  | bl (b : Bool) : Rep K H ok (.bl b) (.bool b)
  | int (i : Int) : Rep K H ok (.int i) (.int i)
  | str (x : Str) (h : PyData.strOk x = true) : Rep K H ok (.str x) (.str x)
  | lst {a : Addr} {xs : List V} {ds : List PyData} : ok a → H a = some (.lst xs) → ds.length ≤ sizeLine → RepL K H ok xs ds → Rep K H ok (.ref a) (.list ds)
  | tup {a : Addr} {xs : List V} {ds : List PyData} : SqT K H a xs → ds.length ≤ sizeLine → RepL K H ok xs ds → Rep K H ok (.ref a) (.tuple ds)
inductive RepL (K : PySem.W.Frag) (H : Hp) (ok : Addr → Prop) : List V → List PyData → Prop
  | nil : RepL K H ok [] []
  | cons {v : V} {vs : List V} {d : PyData} {ds : List PyData} : Rep K H ok v d → RepL K H ok vs ds → RepL K H ok (v :: vs) (d :: ds)
end

/-- what is kept from a heap to a later one -/
structure Keep (H H' : Hp) (ok ok' : Addr → Prop) : Prop where
  l : ∀ a o, ok a → H a = some o → ok' a ∧ H' a = some o
  t : ∀ a xs, Rd H a (.tup xs) → Rd H' a (.tup xs)
theorem Keep.refl {H : Hp} {ok : Addr → Prop} : Keep H H ok ok := ⟨fun _ _ h e => ⟨h, e⟩, fun _ _ h => h⟩
theorem Keep.rdl {H H' : Hp} {ok ok' : Addr → Prop} (k : Keep H H' ok ok') {a : Addr} {xs : List V} (h : ok a) (r : Rd H a (.lst xs)) : ok' a ∧ Rd H' a (.lst xs) := by
  rcases r with r | ⟨o, r⟩
  · exact ⟨(k.l a _ h r).1, .inl (k.l a _ h r).2⟩
  · exact ⟨(k.l a _ h r).1, .inr ⟨o, (k.l a _ h r).2⟩⟩
theorem Keep.sqt {K : PySem.W.Frag} {H H' : Hp} {ok ok' : Addr → Prop} (k : Keep H H' ok ok') {a : Addr} {xs : List V} (r : SqT K H a xs) : SqT K H' a xs := by
  rcases r with r | r
  · exact .inl (k.t a xs r)
  · exact .inr r
mutual
theorem Rep.keep {K : PySem.W.Frag} {H H' : Hp} {ok ok' : Addr → Prop} (k : Keep H H' ok ok') : ∀ {v : V} {x : PyData}, Rep K H ok v x → Rep K H' ok' v x
  | _, _, .non => .non
  | _, _, .bl b => .bl b
  | _, _, .int i => .int i
  | _, _, .str x h => .str x h
  | _, _, .lst o r l rs => .lst (k.l _ _ o r).1 (k.l _ _ o r).2 l (RepL.keep k rs)
  | _, _, .tup r l rs => .tup (k.sqt r) l (RepL.keep k rs)
theorem RepL.keep {K : PySem.W.Frag} {H H' : Hp} {ok ok' : Addr → Prop} (k : Keep H H' ok ok') : ∀ {vs : List V} {xs : List PyData}, RepL K H ok vs xs → RepL K H' ok' vs xs
  | _, _, .nil => .nil
  | _, _, .cons r rs => .cons (Rep.keep k r) (RepL.keep k rs)
end
theorem RepL.length {K : PySem.W.Frag} {H : Hp} {ok : Addr → Prop} : ∀ {vs : List V} {xs : List PyData}, RepL K H ok vs xs → vs.length = xs.length
  | _, _, .nil => rfl
  | _, _, .cons _ rs => by rw [List.length_cons, List.length_cons, RepL.length rs]
theorem RepL.get {K : PySem.W.Frag} {H : Hp} {ok : Addr → Prop} : ∀ {vs : List V} {xs : List PyData} {i : Nat} {x : PyData}, RepL K H ok vs xs → xs[i]? = some x → ∃ v, vs[i]? = some v ∧ Rep K H ok v x
  | _, _, _, _, .nil, e => by simp at e
  | _, _, 0, _, .cons r _, e => by simp at e; subst e; exact ⟨_, rfl, r⟩
  | _, _, i + 1, x, .cons _ rs, e => by
    obtain ⟨v, h1, h2⟩ := RepL.get (i := i) (x := x) rs (by simpa using e)
    exact ⟨v, by simpa using h1, h2⟩
theorem RepL.getV {K : PySem.W.Frag} {H : Hp} {ok : Addr → Prop} : ∀ {vs : List V} {xs : List PyData} {i : Nat} {v : V}, RepL K H ok vs xs → vs[i]? = some v → ∃ x, xs[i]? = some x ∧ Rep K H ok v x
  | _, _, _, _, .nil, e => by simp at e
  | _, _, 0, _, .cons r _, e => by simp at e; subst e; exact ⟨_, rfl, r⟩
  | _, _, i + 1, v, .cons _ rs, e => by
    obtain ⟨x, h1, h2⟩ := RepL.getV (i := i) (v := v) rs (by simpa using e)
    exact ⟨x, by simpa using h1, h2⟩
theorem RepL.append {K : PySem.W.Frag} {H : Hp} {ok : Addr → Prop} : ∀ {vs ws : List V} {xs ys : List PyData}, RepL K H ok vs xs → RepL K H ok ws ys → RepL K H ok (vs ++ ws) (xs ++ ys)
  | _, _, _, _, .nil, s => s
  | _, _, _, _, .cons r rs, s => .cons r (RepL.append rs s)
theorem RepL.take {K : PySem.W.Frag} {H : Hp} {ok : Addr → Prop} : ∀ {vs : List V} {xs : List PyData} (n : Nat), RepL K H ok vs xs → RepL K H ok (vs.take n) (xs.take n)
  | _, _, 0, _ => .nil
  | _, _, _ + 1, .nil => .nil
  | _, _, n + 1, .cons r rs => .cons r (RepL.take n rs)
theorem RepL.drop {K : PySem.W.Frag} {H : Hp} {ok : Addr → Prop} : ∀ {vs : List V} {xs : List PyData} (n : Nat), RepL K H ok vs xs → RepL K H ok (vs.drop n) (xs.drop n)
  | _, _, 0, r => r
  | _, _, _ + 1, .nil => .nil
  | _, _, n + 1, .cons _ rs => RepL.drop n rs
theorem RepL.set {K : PySem.W.Frag} {H : Hp} {ok : Addr → Prop} {v : V} {x : PyData} (r : Rep K H ok v x) : ∀ {vs : List V} {xs : List PyData} (i : Nat), RepL K H ok vs xs → RepL K H ok (vs.set i v) (xs.set i x)
  | _, _, _, .nil => .nil
  | _, _, 0, .cons _ t => .cons r t
  | _, _, i + 1, .cons q t => .cons q (RepL.set r i t)
theorem RepL.ints {K : PySem.W.Frag} {H : Hp} {ok : Addr → Prop} : ∀ ns : List Int, RepL K H ok (ns.map V.int) (ns.map PyData.int)
  | [] => .nil
  | _ :: ns => .cons (.int _) (RepL.ints ns)
theorem RepL.reverse {K : PySem.W.Frag} {H : Hp} {ok : Addr → Prop} : ∀ {vs : List V} {xs : List PyData}, RepL K H ok vs xs → RepL K H ok vs.reverse xs.reverse
  | _, _, .nil => .nil
  | _, _, .cons r rs => by
    rw [List.reverse_cons, List.reverse_cons]
    exact RepL.append (RepL.reverse rs) (.cons r .nil)
theorem RepL.rep {K : PySem.W.Frag} {H : Hp} {ok : Addr → Prop} {vs : List V} {xs : List PyData} (h : RepL K H ok vs xs) : ∀ k : Nat, RepL K H ok (List.replicate k vs).flatten (List.replicate k xs).flatten
  | 0 => .nil
  | k + 1 => by
    rw [List.replicate_succ, List.replicate_succ, List.flatten_cons, List.flatten_cons]
    exact RepL.append h (RepL.rep h k)

/-- to be read: data, or a list whose items are data -/
def RepB (K : PySem.W.Frag) (H : Hp) (ok : Addr → Prop) (v : V) (x : PyData) : Prop :=
  Rep K H ok v x ∨ ∃ a xs ds, v = .ref a ∧ x = .list ds ∧ SqL K H a xs ∧ ds.length ≤ sizeLine ∧ RepL K H ok xs ds
theorem Rep.b {K : PySem.W.Frag} {H : Hp} {ok : Addr → Prop} {v : V} {x : PyData} (r : Rep K H ok v x) : RepB K H ok v x := .inl r
/-- a list that is read -/
theorem RepB.list {K : PySem.W.Frag} {H : Hp} {ok : Addr → Prop} {v : V} {ds : List PyData} (r : RepB K H ok v (.list ds)) : ∃ a xs, v = .ref a ∧ SqL K H a xs ∧ ds.length ≤ sizeLine ∧ RepL K H ok xs ds := by
  rcases r with r | ⟨a, xs, ds', rfl, e, h1, h2, h3⟩
  · cases r with
    | lst o r l rs => exact ⟨_, _, rfl, SqL.of r, l, rs⟩
  · injection e with e
    subst e
    exact ⟨a, xs, rfl, h1, h2, h3⟩
theorem RepB.tuple {K : PySem.W.Frag} {H : Hp} {ok : Addr → Prop} {v : V} {ds : List PyData} (r : RepB K H ok v (.tuple ds)) : ∃ a xs, v = .ref a ∧ SqT K H a xs ∧ ds.length ≤ sizeLine ∧ RepL K H ok xs ds := by
  rcases r with r | ⟨a, xs, ds', _, e, _⟩
  · cases r with
    | tup r l rs => exact ⟨_, _, rfl, r, l, rs⟩
  · cases e
theorem RepB.int {K : PySem.W.Frag} {H : Hp} {ok : Addr → Prop} {v : V} {i : Int} (r : RepB K H ok v (.int i)) : v = .int i := by
  rcases r with r | ⟨_, _, _, _, e, _⟩
  · cases r; rfl
  · cases e
theorem RepB.bool {K : PySem.W.Frag} {H : Hp} {ok : Addr → Prop} {v : V} {i : Bool} (r : RepB K H ok v (.bool i)) : v = .bl i := by
  rcases r with r | ⟨_, _, _, _, e, _⟩
  · cases r; rfl
  · cases e
theorem RepB.str {K : PySem.W.Frag} {H : Hp} {ok : Addr → Prop} {v : V} {i : Str} (r : RepB K H ok v (.str i)) : v = .str i ∧ PyData.strOk i = true := by
  rcases r with r | ⟨_, _, _, _, e, _⟩
  · cases r with
    | str _ h => exact ⟨rfl, h⟩
  · cases e
theorem RepB.none {K : PySem.W.Frag} {H : Hp} {ok : Addr → Prop} {v : V} (r : RepB K H ok v .none) : v = .non := by
  rcases r with r | ⟨_, _, _, _, e, _⟩
  · cases r; rfl
  · cases e

mutual
theorem Rep.dp {K : PySem.W.Frag} {H : Hp} {ok : Addr → Prop} : ∀ {v : V} {x : PyData}, Rep K H ok v x → Dp K H v x
  | _, _, .non => .non
  | _, _, .bl b => .bl b
  | _, _, .int i => .int i
  | _, _, .str x _ => .str x
  | _, _, .lst _ r _ rs => .lst (SqL.of r) (RepL.dp rs)
  | _, _, .tup r _ rs => .tup r (RepL.dp rs)
theorem RepL.dp {K : PySem.W.Frag} {H : Hp} {ok : Addr → Prop} : ∀ {vs : List V} {xs : List PyData}, RepL K H ok vs xs → DpAll K H vs xs
  | _, _, .nil => .nil
  | _, _, .cons r rs => .cons (Rep.dp r) (RepL.dp rs)
end
theorem RepB.dp {K : PySem.W.Frag} {H : Hp} {ok : Addr → Prop} {v : V} {x : PyData} (r : RepB K H ok v x) : Dp K H v x := by
  rcases r with r | ⟨a, xs, ds, rfl, rfl, h1, _, h2⟩
  · exact r.dp
  · exact .lst h1 h2.dp
mutual
theorem Rep.lay {K : PySem.W.Frag} {H : Hp} {ok : Addr → Prop} : ∀ {v : V} {x : PyData}, Rep K H ok v x → x.canLay0 = true
  | _, _, .non => rfl
  | _, _, .bl b => rfl
  | _, _, .int i => rfl
  | _, _, .str x h => h
  | _, _, .lst _ _ _ rs => RepL.lay rs
  | _, _, .tup _ _ rs => RepL.lay rs
theorem RepL.lay {K : PySem.W.Frag} {H : Hp} {ok : Addr → Prop} : ∀ {vs : List V} {xs : List PyData}, RepL K H ok vs xs → PyData.canLayAll0 xs = true
  | _, _, .nil => rfl
  | _, _, .cons r rs => by
    show (PyData.canLay0 _ && PyData.canLayAll0 _) = true
    rw [Rep.lay r, RepL.lay rs]; rfl
end
theorem RepB.lay {K : PySem.W.Frag} {H : Hp} {ok : Addr → Prop} {v : V} {x : PyData} (r : RepB K H ok v x) : x.canLay0 = true := by
  rcases r with r | ⟨a, xs, ds, rfl, rfl, h1, _, h2⟩
  · exact r.lay
  · exact h2.lay

/-! ### a heap that has only grown -/
def Grow (H H' : Hp) : Prop := ∀ b o, H b = some o → H' b = some o
theorem Grow.refl {H : Hp} : Grow H H := fun _ _ e => e
theorem Grow.new {H : Hp} {p : Addr} {o : HO} (n : H p = none) : Grow H (upd H p o) := fun b u e => by rw [upd_ne (ne_of_none e n)]; exact e
theorem Grow.keep {H H' : Hp} {ok : Addr → Prop} (g : Grow H H') : Keep H H' ok ok where
  l := fun a o h e => ⟨h, g a o e⟩
  t := fun a xs r => by
    rcases r with r | ⟨o, r⟩
    · exact .inl (g a _ r)
    · exact .inr ⟨o, g a _ r⟩
end G
/-! GB: frames over the hand layer, what a frame's function says of an expression. -/
namespace G
open PySem PySem.Spec PyProof.Rows L2

structure Par where
  P : Program
  w : World
  K : PySem.W.Frag
/-- what a body began with: the heap, the old lists that it may hold, the cells that it was handed -/
structure Ent where
  He : Hp
  S : Addr → Prop
  W0 : List Addr
  /-- what a loop walks -/
  gh : List (V × AV) := []
  /-- lists that a comprehension is filling -/
  prot : List Addr := []

/-! ### dicts -/
def keyD : Key → PyData
  | .inl i => .int i
  | .inr x => .str x
def keyS : Key → Prop
  | .inl _ => True
  | .inr x => PyData.strOk x = true
mutual
def nkD : NestedKey → PyData
  | .none => .none
  | .num i => .int i
  | .text x => .str x
  | .tup ks => .tuple (nkDs ks)
def nkDs : List NestedKey → List PyData
  | [] => []
  | k :: ks => nkD k :: nkDs ks
end
/-- the dict object at a, whole -/
def dTh (a : Addr) (es : Array DictEntry) (ep : Nat) : HO := .ext fun h => ∃ o, h.get? a = some o ∧ o.ExactDict ∧ o.data = .dict es ep
def DctAt (p : Par) (H : Hp) (ok : Addr → Prop) (a : Addr) : Bool → List (PyData × PyData) → Prop
  | false, kvs => ∃ ks : List (Key × V), H a = some (.dK ks) ∧ Paired (fun (x : Key × V) (q : PyData × PyData) => q.1 = keyD x.1 ∧ keyS x.1 ∧ Rep p.K H ok x.2 q.2) ks kvs
  | true, kvs => ∃ (es : Array DictEntry) (ep : Nat) (xs : List (NestedKey × Addr × Value)), H a = some (dTh a es ep) ∧ es.toList = xs.map (entryOfKey (nestedKind p.P p.w)) ∧ (xs.map (·.1)).Nodup ∧ (a == sysModules) = false ∧ kvs.length ≤ sizeLine ∧
      Paired (fun (x : NestedKey × Addr × Value) (q : PyData × PyData) => q.1 = nkD x.1 ∧ x.1.depth ≤ 8 ∧ Rep p.K H ok (.ref x.2.1) q.1 ∧ ∃ v, RelV v x.2.2 ∧ Rep p.K H ok v q.2) xs kvs
theorem DctAt.keep {p : Par} {H H' : Hp} {ok ok' : Addr → Prop} {a : Addr} (k : Keep H H' ok ok') (ha : ∀ o, H a = some o → H' a = some o) : ∀ {tp : Bool} {kvs : List (PyData × PyData)}, DctAt p H ok a tp kvs → DctAt p H' ok' a tp kvs
  | false, _, ⟨ks, e, r⟩ => ⟨ks, ha _ e, Paired.mapP r fun _ _ ⟨h1, h2, h3⟩ => ⟨h1, h2, h3.keep k⟩⟩
  | true, _, ⟨es, ep, xs, e, h1, h2, h3, h4, r⟩ => ⟨es, ep, xs, ha _ e, h1, h2, h3, h4, Paired.mapP r fun _ _ ⟨q1, q2, q3, v, q4, q5⟩ => ⟨q1, q2, q3.keep k, v, q4, q5.keep k⟩⟩
theorem DctAt.there {p : Par} {H : Hp} {ok : Addr → Prop} {a : Addr} : ∀ {tp : Bool} {kvs : List (PyData × PyData)}, DctAt p H ok a tp kvs → ∃ o, H a = some o ∧ ∀ xs, ¬ Rd H a (.tup xs)
  | false, _, ⟨ks, e, _⟩ => ⟨_, e, fun xs r => by rcases r with r | ⟨_, r⟩ <;> (rw [e] at r; cases r)⟩
  | true, _, ⟨es, ep, xs, e, _⟩ => ⟨_, e, fun xs r => by
      rcases r with r | ⟨_, r⟩
      · rw [e] at r
        have r' : dTh a es ep = HO.tup xs := Option.some.inj r
        cases r'
      · rename_i o
        rw [e] at r
        have r' : dTh a es ep = HO.frz o (.tup xs) := Option.some.inj r
        cases r'⟩

/-! ### values and cells -/
def RepA (p : Par) (H : Hp) (ok : Addr → Prop) (ad : List (Option Addr)) (v : V) : AV → Prop
  | .dat x => Rep p.K H ok v x
  | .dct tp kvs => ∃ a, v = .ref a ∧ ok a ∧ DctAt p H ok a tp kvs
  | .cel i => ∃ a : Addr, v = .ref a ∧ ad[i]? = some (some a)
  | .scr ns => ns.length ≤ sizeLine ∧ ∃ a, v = .ref a ∧ ((∃ o, H a = some (.frz o (.lst (ns.map V.int)))) ∨ KL p.K a (ns.map V.int))
def CellAt (p : Par) (H : Hp) (ok : Addr → Prop) (a : Addr) : Cell → Prop
  | .lst ds => ∃ xs, H a = some (.lst xs) ∧ ds.length ≤ sizeLine ∧ RepL p.K H ok xs ds
  | .dct tp kvs => DctAt p H ok a tp kvs
  | .gone => False
def isDat : AV → Bool
  | .dat _ => true
  | .dct _ _ => true
  | _ => false
def okP (c : Ent) (ad : List (Option Addr)) (a : Addr) : Prop := ((c.He a = none ∨ c.S a) ∧ a ∉ c.prot) ∧ some a ∉ ad

structure FR (p : Par) (c : Ent) (fr : Fr) (ad : List (Option Addr)) (σ : L2.St) (H : Hp) : Prop where
  len : fr.vars.length = σ.length
  var : ∀ (i : Nat) (av : AV), fr.vars[i]? = some (some av) → ∃ v, σ[i]? = some (some v) ∧ RepA p H (okP c ad) ad v av
  clen : fr.cells.length = ad.length
  cel : ∀ (i : Nat) (a : Addr), ad[i]? = some (some a) → ∃ cl, fr.cells[i]? = some cl ∧ CellAt p H (okP c ad) a cl
  nd : ∀ (i j : Nat) (a : Addr), ad[i]? = some (some a) → ad[j]? = some (some a) → i = j
  old : ∀ b o, c.He b = some o → b ∉ c.W0 → H b = some o
  sub : ∀ (i : Nat) (a : Addr), c.W0[i]? = some a → ad[i]? = some (some a)
  adw : ∀ a, some a ∈ ad → a ∈ c.W0 ∨ c.He a = none
  gh : ∀ q ∈ c.gh, isDat q.2 = true ∧ RepA p H (okP c ad) ad q.1 q.2
  pr : ∀ a ∈ c.prot, some a ∉ ad ∧ ∃ vs, H a = some vs
  bs : fr.base = c.W0.length

/-- an expression has gone: what is not a cell stands, cells stand by their places, new ones are new -/
structure Mv (H : Hp) (ad : List (Option Addr)) (H' : Hp) (ad' : List (Option Addr)) : Prop where
  keep : ∀ b o, H b = some o → some b ∉ ad → H' b = some o
  pre : ∀ (i : Nat) (x : Option Addr), ad[i]? = some x → ad'[i]? = some x
  new : ∀ a, some a ∈ ad' → some a ∈ ad ∨ H a = none
  there : ∀ b, H b ≠ none → H' b ≠ none

section
variable {p : Par} {c : Ent} {fr fr' : Fr} {ad ad' ad2 : List (Option Addr)} {σ : L2.St} {H H' H2 : Hp}
theorem Mv.refl : Mv H ad H ad := ⟨fun _ _ e _ => e, fun _ _ e => e, fun _ h => .inl h, fun _ h => h⟩
theorem Mv.grow (g : Grow H H') : Mv H ad H' ad := ⟨fun b o e _ => g b o e, fun _ _ e => e, fun _ h => .inl h, fun b h => by
  cases q : H b with
  | none => exact absurd q h
  | some o => rw [g b o q]; simp⟩
theorem mem_at {α : Type} {l : List α} {x : α} (h : x ∈ l) : ∃ i : Nat, l[i]? = some x := by
  obtain ⟨i, hi, e⟩ := List.getElem_of_mem h
  exact ⟨i, by rw [List.getElem?_eq_getElem hi, e]⟩
theorem Mv.sub (m : Mv H ad H' ad') {a : Addr} (h : some a ∈ ad) : some a ∈ ad' := by
  obtain ⟨i, e⟩ := mem_at h
  exact List.mem_of_getElem? (m.pre i _ e)
theorem FR.track (F : FR p c fr ad σ H) {a : Addr} (h : some a ∈ ad) : ∃ o, H a = some o ∧ ∀ xs, ¬ Rd H a (.tup xs) := by
  obtain ⟨i, e⟩ := mem_at h
  obtain ⟨cl, _, q⟩ := F.cel i a e
  cases cl with
  | lst ds =>
    obtain ⟨xs, e2, _⟩ := q
    exact ⟨_, e2, fun ys r => by rcases r with r | ⟨_, r⟩ <;> (rw [e2] at r; cases r)⟩
  | dct tp kvs => exact DctAt.there q
  | gone => exact q.elim
theorem Mv.trans (F : FR p c fr ad σ H) (m : Mv H ad H' ad') (m2 : Mv H' ad' H2 ad2) : Mv H ad H2 ad2 where
  keep := fun b o e n => m2.keep b o (m.keep b o e n) fun h => by
    rcases m.new b h with q | q
    · exact n q
    · rw [e] at q; cases q
  pre := fun i x e => m2.pre i x (m.pre i x e)
  new := fun a h => by
    rcases m2.new a h with q | q
    · exact m.new a q
    · refine .inr ?_
      cases z : H a with
      | none => rfl
      | some o => exact absurd q (m.there a (by rw [z]; simp))
  there := fun b h => m2.there b (m.there b h)
theorem okP_new (F : FR p c fr ad σ H) {a : Addr} (n : H a = none) : okP c ad a := by
  refine ⟨⟨.inl ?_, fun h => by obtain ⟨_, vs, e⟩ := F.pr a h; rw [n] at e; cases e⟩, fun h => ?_⟩
  · cases q : c.He a with
    | none => rfl
    | some o =>
      by_cases hw : a ∈ c.W0
      · obtain ⟨i, e⟩ := mem_at hw
        obtain ⟨o', e', _⟩ := F.track (List.mem_of_getElem? (F.sub i a e))
        rw [n] at e'; cases e'
      · have := F.old a o q hw
        rw [n] at this; cases this
  · obtain ⟨o', e', _⟩ := F.track h
    rw [n] at e'; cases e'
/-- what data lean on is kept over a move -/
theorem Mv.kp (F : FR p c fr ad σ H) (m : Mv H ad H' ad') : Keep H H' (okP c ad) (okP c ad') where
  l := fun a o h e => ⟨⟨h.1, fun q => by
    rcases m.new a q with z | z
    · exact h.2 z
    · rw [e] at z; cases z⟩, m.keep a o e h.2⟩
  t := fun a xs r => by
    have n : some a ∉ ad := fun h => by
      obtain ⟨o, e, z⟩ := F.track h
      exact z xs r
    rcases r with r | ⟨o, r⟩
    · exact .inl (m.keep a _ r n)
    · exact .inr ⟨o, m.keep a _ r n⟩
theorem RepA.mv (F : FR p c fr ad σ H) (m : Mv H ad H' ad') {v : V} : ∀ {av : AV}, RepA p H (okP c ad) ad v av → RepA p H' (okP c ad') ad' v av
  | .dat x, r => Rep.keep (m.kp F) r
  | .dct tp kvs, ⟨a, e, h, d⟩ => ⟨a, e, by
      obtain ⟨o, q, _⟩ := d.there
      exact ((m.kp F).l a o h q).1, d.keep (m.kp F) fun o q => m.keep a o q h.2⟩
  | .cel i, ⟨a, e, q⟩ => ⟨a, e, m.pre i _ q⟩
  | .scr ns, ⟨hl, a, e, q⟩ => ⟨hl, a, e, by
      rcases q with ⟨o, q⟩ | q
      · refine .inl ⟨o, m.keep a _ q fun h => ?_⟩
        obtain ⟨i, e2⟩ := mem_at h
        obtain ⟨cl, _, z⟩ := F.cel i a e2
        cases cl with
        | lst ds =>
          obtain ⟨xs, e3, _⟩ := z
          rw [q] at e3; cases e3
        | dct tp kvs =>
          cases tp with
          | false =>
            obtain ⟨ks, e3, _⟩ := z
            rw [q] at e3; cases e3
          | true =>
            obtain ⟨es, ep, xs, e3, _⟩ := z
            rw [q] at e3
            have r' : HO.frz o (.lst (ns.map V.int)) = dTh a es ep := Option.some.inj e3
            cases r'
        | gone => exact z.elim
      · exact .inr q⟩
theorem Mv.prs (F : FR p c fr ad σ H) (m : Mv H ad H' ad') : ∀ a ∈ c.prot, some a ∉ ad' ∧ ∃ vs, H' a = some vs := fun a ha => by
  obtain ⟨n, vs, e⟩ := F.pr a ha
  refine ⟨fun h => ?_, vs, m.keep a _ e n⟩
  rcases m.new a h with z | z
  · exact n z
  · rw [e] at z; cases z
/-- only grown: the frame stands -/
theorem FR.grow (F : FR p c fr ad σ H) (g : Grow H H') : FR p c fr ad σ H' where
  len := F.len
  var := fun i av e => by
    obtain ⟨v, h1, h2⟩ := F.var i av e
    exact ⟨v, h1, RepA.mv F (Mv.grow g) h2⟩
  clen := F.clen
  cel := fun i a e => by
    obtain ⟨cl, h1, h2⟩ := F.cel i a e
    refine ⟨cl, h1, ?_⟩
    cases cl with
    | lst ds =>
      obtain ⟨xs, h3, hz, h4⟩ := h2
      exact ⟨xs, g _ _ h3, hz, h4.keep (Mv.kp F (Mv.grow g))⟩
    | dct tp kvs => exact DctAt.keep (Mv.kp F (Mv.grow g)) (fun o q => g _ _ q) h2
    | gone => exact h2
  nd := F.nd
  old := fun b o e n => g _ _ (F.old b o e n)
  sub := F.sub
  adw := F.adw
  gh := fun q hq => ⟨(F.gh q hq).1, RepA.mv F (Mv.grow g) (F.gh q hq).2⟩
  pr := fun a ha => ⟨(F.pr a ha).1, by obtain ⟨vs, e⟩ := (F.pr a ha).2; exact ⟨vs, g _ _ e⟩⟩
  bs := F.bs
end

/-! ### results -/
/-- an exception of the class c (its address cA) with the fields fs; set by the layer above -/
structure XW where
  /-- the wish -/
  W : WX
  /-- where the classes stand, how the fields lie -/
  C : Str → List (Str × PyData) → Hp → Value → Option Addr → Prop
def Out {α : Type} (p : Par) (x : XW) (c : Ent) (ad : List (Option Addr)) (σ : L2.St) (H : Hp) (r : Res α) (k : α → Fr → List (Option Addr) → Hp → Prop) : Prop :=
  match r with
  | .ok a fr' => ∀ ad' H', FR p c fr' ad' σ H' → Mv H ad H' ad' → k a fr' ad' H'
  | .exc cl fs fr' => ∀ ad' H' C d, FR p c fr' ad' σ H' → Mv H ad H' ad' → x.C cl fs H' C d → x.W C d σ H'
  | .err => False
@[simp] def Res.bind {α β : Type} (r : Res α) (g : α → Fr → Res β) : Res β := match r with
  | .ok a f => g a f
  | .exc c fs f => .exc c fs f
  | .err => .err
section
variable {α β : Type} {p : Par} {x : XW} {c : Ent} {ad : List (Option Addr)} {σ : L2.St} {H : Hp} {r : Res α} {g : α → Fr → Res β} {k : β → Fr → List (Option Addr) → Hp → Prop} {k1 k2 : α → Fr → List (Option Addr) → Hp → Prop}
theorem Out.mono (o : Out p x c ad σ H r k1) (h : ∀ a fr' ad' H', FR p c fr' ad' σ H' → Mv H ad H' ad' → k1 a fr' ad' H' → k2 a fr' ad' H') : Out p x c ad σ H r k2 := by
  cases r with
  | ok a fr' => exact fun ad' H' F m => h _ _ _ _ F m (o ad' H' F m)
  | exc cl fs fr' => exact o
  | err => exact o
theorem Out.bind {fr : Fr} (F : FR p c fr ad σ H) (o : Out p x c ad σ H (r.bind g) k) : Out p x c ad σ H r fun a fr' ad' H' => Out p x c ad' σ H' (g a fr') k := by
  cases r with
  | ok a fr' =>
    intro ad' H' F' m
    have o' : Out p x c ad σ H (g a fr') k := o
    cases q : g a fr' with
    | ok b fr2 => rw [q] at o'; exact fun ad2 H2 F2 m2 => o' ad2 H2 F2 (m.trans F m2)
    | exc cl fs fr2 => rw [q] at o'; exact fun ad2 H2 C d F2 m2 h => o' ad2 H2 C d F2 (m.trans F m2) h
    | err => rw [q] at o'; exact o'
  | exc cl fs fr' => exact o
  | err => exact o
end
/-- an expression's reading: the frame's function f -/
def tE (p : Par) (x : XW) (f : Fr → Res AV) : TE := fun σ H Q => ∃ c fr ad, FR p c fr ad σ H ∧ Out p x c ad σ H (f fr) fun a _ ad' H' => ∀ v, RepA p H' (okP c ad') ad' v a → Q v H'
/-- a list of arguments -/
def RepAs (p : Par) (H : Hp) (ok : Addr → Prop) (ad : List (Option Addr)) : List V → List AV → Prop := Paired fun v a => RepA p H ok ad v a
def tA (p : Par) (x : XW) (f : Fr → Res (List AV)) : TA := fun σ H Q => ∃ c fr ad, FR p c fr ad σ H ∧ Out p x c ad σ H (f fr) fun a _ ad' H' => ∀ v, RepAs p H' (okP c ad') ad' v a → Q v H'
/-- a test -/
def tT (p : Par) (x : XW) (f : Fr → Res Bool) : TT := fun σ H Q => ∃ c fr ad, FR p c fr ad σ H ∧ Out p x c ad σ H (f fr) fun a _ _ H' => Q a H'
abbrev pX (X : Cx) : Par := ⟨X.prog, X.w, X.K⟩
abbrev AE (X : Cx) (x : XW) (e : Expr) (f : Fr → Res AV) : Prop := PE X e (tE (pX X) x f)
abbrev AA (X : Cx) (x : XW) (es : List Expr) (f : Fr → Res (List AV)) : Prop := PA X es (tA (pX X) x f)
abbrev AT (X : Cx) (x : XW) (e : Expr) (f : Fr → Res Bool) : Prop := PT X e (tT (pX X) x f)
abbrev AW (X : Cx) (x : XW) (e : Expr) (f : Fr → Res Bool) : Prop := PW X e (tT (pX X) x f)
theorem _root_.L2.PE.imp {X : Cx} {e : Expr} {t t' : TE} (h : PE X e t) (hi : ∀ σ H Q, t' σ H Q → t σ H Q) : PE X e t' := ⟨fun pins s σ H Q I q => h.run pins s σ H Q I (hi σ H Q q)⟩
theorem _root_.L2.PA.imp {X : Cx} {e : List Expr} {t t' : TA} (h : PA X e t) (hi : ∀ σ H Q, t' σ H Q → t σ H Q) : PA X e t' := ⟨fun pos pins s σ H Q I q => h.run pos pins s σ H Q I (hi σ H Q q)⟩
theorem _root_.L2.PT.imp {X : Cx} {e : Expr} {t t' : TT} (h : PT X e t) (hi : ∀ σ H Q, t' σ H Q → t σ H Q) : PT X e t' := ⟨fun pins s σ H Q I q => h.run pins s σ H Q I (hi σ H Q q)⟩
theorem _root_.L2.PW.imp {X : Cx} {e : Expr} {t t' : TT} (h : PW X e t) (hi : ∀ σ H Q, t' σ H Q → t σ H Q) : PW X e t' := ⟨fun wh pins s σ H Q I q => h.run wh pins s σ H Q I (hi σ H Q q)⟩
theorem _root_.L2.PS.imp {X : Cx} {e : Stmt} {t t' : TS} (h : PS X e t) (hi : ∀ D σ H, t' D σ H → t D σ H) : PS X e t' := ⟨fun pins s σ H D I q => h.run pins s σ H D I (hi D σ H q)⟩
theorem _root_.L2.PSs.imp {X : Cx} {e : List Stmt} {t t' : TS} (h : PSs X e t) (hi : ∀ D σ H, t' D σ H → t D σ H) : PSs X e t' := ⟨fun pins s σ H D I q => h.run pins s σ H D I (hi D σ H q)⟩
end G
/-! GC: expressions. -/
namespace G
open PySem PySem.Spec PyProof.Rows L2

/-! ### what is to be read of a value -/
@[simp] def Fr.view (fr : Fr) : AV → Option PyData
  | .dat x => some x
  | .scr ns => some (.list (ns.map PyData.int))
  | .cel i => match fr.cells[i]? with
    | some (.lst xs) => some (.list xs)
    | _ => none
  | .dct _ _ => none
section
variable {p : Par} {c : Ent} {fr fr' : Fr} {ad ad' : List (Option Addr)} {σ : L2.St} {H H' : Hp}
theorem view_rep (F : FR p c fr ad σ H) {v : V} {a : AV} {x : PyData} (r : RepA p H (okP c ad) ad v a) (e : fr.view a = some x) : RepB p.K H (okP c ad) v x := by
  cases a with
  | dat y => cases e; exact .inl r
  | dct tp kvs => cases e
  | scr ns =>
    cases e
    obtain ⟨hl, a, rfl, q⟩ := r
    refine .inr ⟨a, ns.map V.int, _, rfl, rfl, ?_, by simpa using hl, RepL.ints ns⟩
    rcases q with ⟨o, q⟩ | q
    · exact .inl (.inr ⟨o, q⟩)
    · exact q.sql H
  | cel i =>
    obtain ⟨a, rfl, q⟩ := r
    obtain ⟨cl, h1, h2⟩ := F.cel i a q
    unfold Fr.view at e
    simp only [h1] at e
    cases cl with
    | lst xs =>
      cases e
      obtain ⟨vs, h3, hz, h4⟩ := h2
      exact .inr ⟨a, vs, _, rfl, rfl, SqL.of h3, hz, h4⟩
    | dct tp kvs => cases e
    | gone => cases e
end

/-! ### combinators of expressions -/
@[simp] def xVar (i : Nat) : Fr → Res AV := fun fr => match fr.vars[i]? with
  | some (some a) => .ok a fr
  | _ => .err
@[simp] def xC (x : PyData) : Fr → Res AV := fun fr => .ok (.dat x) fr
/-- of what is read of a value -/
def rd (fr : Fr) (a : AV) (k : PyData → Fr → Res AV) : Res AV := match fr.view a with
  | some x => k x fr
  | none => .err
@[simp] def ofO (fr : Fr) (o : Option PyData) : Res AV := match o with
  | some r => .ok (.dat r) fr
  | none => .err
@[simp] def xOp2 (sem : PyData → PyData → Option PyData) (f g : Fr → Res AV) : Fr → Res AV := fun fr => (f fr).bind fun a fr1 => (g fr1).bind fun b fr2 => match fr2.view a, fr2.view b with
  | some x, some y => ofO fr2 (sem x y)
  | _, _ => .err
@[simp] def xOp1 (sem : PyData → Option PyData) (f : Fr → Res AV) : Fr → Res AV := fun fr => (f fr).bind fun a fr1 => match fr1.view a with
  | some x => ofO fr1 (sem x)
  | none => .err
@[simp] def xNil : Fr → Res (List AV) := fun fr => .ok [] fr
@[simp] def xCons (f : Fr → Res AV) (g : Fr → Res (List AV)) : Fr → Res (List AV) := fun fr => (f fr).bind fun a fr1 => (g fr1).bind fun as fr2 => .ok (a :: as) fr2
@[simp] def views (fr : Fr) : List AV → Option (List PyData)
  | [] => some []
  | a :: as => match fr.view a, views fr as with
    | some x, some xs => some (x :: xs)
    | _, _ => none
/-- data alone -/
@[simp] def dats : List AV → Option (List PyData)
  | [] => some []
  | .dat x :: as => match dats as with
    | some xs => some (x :: xs)
    | none => none
  | _ :: _ => none
@[simp] def xTup (g : Fr → Res (List AV)) : Fr → Res AV := fun fr => (g fr).bind fun as fr1 => match dats as with
  | some xs => .ok (.dat (.tuple xs)) fr1
  | none => .err
@[simp] def xLst (g : Fr → Res (List AV)) : Fr → Res AV := fun fr => (g fr).bind fun as fr1 => match dats as with
  | some xs => .ok (.dat (.list xs)) fr1
  | none => .err
/-- a test by a value -/
@[simp] def xB (f : Fr → Res AV) : Fr → Res Bool := fun fr => (f fr).bind fun a fr1 => match a with
  | .dat (.bool b) => .ok b fr1
  | _ => .err
@[simp] def xV (f : Fr → Res Bool) : Fr → Res AV := fun fr => (f fr).bind fun b fr1 => .ok (.dat (.bool b)) fr1
@[simp] def xAnd (f g : Fr → Res Bool) : Fr → Res Bool := fun fr => (f fr).bind fun b fr1 => if b = true then g fr1 else .ok false fr1
@[simp] def xOr (f g : Fr → Res Bool) : Fr → Res Bool := fun fr => (f fr).bind fun b fr1 => if b = true then .ok true fr1 else g fr1
@[simp] def xNot (f : Fr → Res Bool) : Fr → Res Bool := fun fr => (f fr).bind fun b fr1 => .ok (!b) fr1
@[simp] def xIf (t : Fr → Res Bool) (f g : Fr → Res AV) : Fr → Res AV := fun fr => (t fr).bind fun b fr1 => if b = true then f fr1 else g fr1

/-! ### operators by values -/
def rOp2 (K : PySem.W.Frag) (sem : PyData → PyData → Option PyData) : R2 := fun x y H Q => ∃ (ok : Addr → Prop) (dx dy r : PyData), (∀ p, H p = none → ok p) ∧ RepB K H ok x dx ∧ RepB K H ok y dy ∧ sem dx dy = some r ∧ ∀ v H', Grow H H' → Rep K H' ok v r → Q v H'
def rOp1 (K : PySem.W.Frag) (sem : PyData → Option PyData) : V → Hp → VK → Prop := fun x H Q => ∃ (ok : Addr → Prop) (dx r : PyData), (∀ p, H p = none → ok p) ∧ RepB K H ok x dx ∧ sem dx = some r ∧ ∀ v H', Grow H H' → Rep K H' ok v r → Q v H'
inductive RepBs (K : PySem.W.Frag) (H : Hp) (ok : Addr → Prop) : List V → List PyData → Prop
  | nil : RepBs K H ok [] []
  | cons {v : V} {vs : List V} {d : PyData} {ds : List PyData} : RepB K H ok v d → RepBs K H ok vs ds → RepBs K H ok (v :: vs) (d :: ds)
def rCall (K : PySem.W.Frag) (sem : List PyData → Option PyData) : List V → Hp → VK → Prop := fun xs H Q => ∃ (ok : Addr → Prop) (ds : List PyData) (r : PyData), (∀ p, H p = none → ok p) ∧ RepBs K H ok xs ds ∧ sem ds = some r ∧ ∀ v H', Grow H H' → Rep K H' ok v r → Q v H'

section
variable {X : Cx} {x : XW} {a b d : Expr} {f g h : Fr → Res AV} {pos : Pos}

theorem ae_var {i : Nat} {n : Str} (hN : X.N[i]? = some n) (hv : Vis X.env.scope n) (hd : (n == ("__debug__" : Str)) = false := by decide) (hcd : (n == ("__classdict__" : Str)) = false := by decide) : AE X x (.Name n pos) (xVar i) := by
  refine (pe_var hN hv hd hcd).imp fun σ H Q ⟨c, fr, ad, F, o⟩ => ?_
  unfold xVar at o
  cases q : fr.vars[i]? with
  | none => rw [q] at o; exact o.elim
  | some w =>
    rw [q] at o
    cases w with
    | none => exact o.elim
    | some av =>
      obtain ⟨v, h1, h2⟩ := F.var i av q
      exact ⟨v, h1, o ad H F Mv.refl v h2⟩
theorem ae_int {i : Int} {j : Nat} : AE X x (.Constant (.int i) j pos) (xC (.int i)) :=
  pe_int.imp fun σ H Q ⟨c, fr, ad, F, o⟩ => o ad H F Mv.refl _ (.int i)
theorem ae_bl {i : Bool} {j : Nat} : AE X x (.Constant (.bool i) j pos) (xC (.bool i)) :=
  pe_bl.imp fun σ H Q ⟨c, fr, ad, F, o⟩ => o ad H F Mv.refl _ (.bl i)
theorem ae_non {j : Nat} : AE X x (.Constant .none j pos) (xC .none) :=
  pe_non.imp fun σ H Q ⟨c, fr, ad, F, o⟩ => o ad H F Mv.refl _ .non
theorem ae_str {i : Str} {j : Nat} (h : PyData.strOk i = true := by decide +kernel) : AE X x (.Constant (.str i) j pos) (xC (.str i)) :=
  pe_str.imp fun σ H Q ⟨c, fr, ad, F, o⟩ => o ad H F Mv.refl _ (.str i h)
/-- a constant of the module -/
theorem ae_gint {n : Str} {i : Int} {t : Tok} (hg : Gl X n) (hm : X.mg n = some (.int i t)) (hd : (n == ("__debug__" : Str)) = false := by decide) : AE X x (.Name n pos) (xC (.int i)) :=
  (pe_glob (v := .int i) hg hm ⟨t, rfl⟩ hd).imp fun σ H Q ⟨c, fr, ad, F, o⟩ => o ad H F Mv.refl _ (.int i)
theorem ae_gstr {n i : Str} {t : Tok} (hg : Gl X n) (hm : X.mg n = some (.str i t)) (h : PyData.strOk i = true := by decide +kernel) (hd : (n == ("__debug__" : Str)) = false := by decide) : AE X x (.Name n pos) (xC (.str i)) :=
  (pe_glob (v := .str i) hg hm ⟨t, rfl⟩ hd).imp fun σ H Q ⟨c, fr, ad, F, o⟩ => o ad H F Mv.refl _ (.str i h)

/-- two parts in a row, then an operator -/
theorem tE_op2 {sem : PyData → PyData → Option PyData} {σ : L2.St} {H : Hp} {Q : VK} (h : tE (pX X) x (xOp2 sem f g) σ H Q) : tOp (rOp2 X.K sem) (tE (pX X) x f) (tE (pX X) x g) σ H Q := by
  obtain ⟨c, fr, ad, F, o⟩ := h
  refine ⟨c, fr, ad, F, (Out.bind F o).mono fun av fr1 ad1 H1 F1 m1 o1 v rv => ?_⟩
  refine ⟨c, fr1, ad1, F1, (Out.bind F1 o1).mono fun bv fr2 ad2 H2 F2 m2 o2 u ru => ?_⟩
  have rv2 := RepA.mv F1 m2 rv
  cases q1 : fr2.view av with
  | none => rw [q1] at o2; exact o2.elim
  | some dx =>
    cases q2 : fr2.view bv with
    | none => rw [q1, q2] at o2; exact o2.elim
    | some dy =>
      rw [q1, q2] at o2
      simp only [ofO] at o2
      cases q3 : sem dx dy with
      | none => rw [q3] at o2; exact o2.elim
      | some r =>
        rw [q3] at o2
        exact ⟨okP c ad2, dx, dy, r, fun p hp => okP_new F2 hp, view_rep F2 rv2 q1, view_rep F2 ru q2, q3, fun w H3 gr rw => o2 ad2 H3 (F2.grow gr) (Mv.grow gr) w rw⟩
theorem ae_bin {op : Operator} {sem : PyData → PyData → Option PyData} (ho : OpR X (binaryOp op) (rOp2 X.K sem)) (ha : AE X x a f) (hb : AE X x b g) : AE X x (.BinOp a op b pos) (xOp2 sem f g) :=
  (pe_op ho ha hb).imp fun _ _ _ h => tE_op2 h
theorem ae_cmp {op : CmpOp} {sem : PyData → PyData → Option PyData} (ho : OpR X (compareOp op) (rOp2 X.K sem)) (ha : AE X x a f) (hb : AE X x b g) (hm : behindInMarks op b = false) : AE X x (.Compare a [op] [b] pos) (xOp2 sem f g) :=
  (pe_cmpR ho ha hb hm).imp fun _ _ _ h => tE_op2 h
theorem tE_op1 {sem : PyData → Option PyData} {σ : L2.St} {H : Hp} {Q : VK} (h : tE (pX X) x (xOp1 sem f) σ H Q) : tE (pX X) x f σ H fun v H1 => rOp1 X.K sem v H1 Q := by
  obtain ⟨c, fr, ad, F, o⟩ := h
  refine ⟨c, fr, ad, F, (Out.bind F o).mono fun av fr1 ad1 H1 F1 m1 o1 v rv => ?_⟩
  cases q1 : fr1.view av with
  | none => rw [q1] at o1; exact o1.elim
  | some dx =>
    rw [q1] at o1
    simp only [ofO] at o1
    cases q3 : sem dx with
    | none => rw [q3] at o1; exact o1.elim
    | some r =>
      rw [q3] at o1
      exact ⟨okP c ad1, dx, r, fun p hp => okP_new F1 hp, view_rep F1 rv q1, q3, fun w H3 gr rw => o1 ad1 H3 (F1.grow gr) (Mv.grow gr) w rw⟩
theorem ae_un {op : UnaryOp} {sem : PyData → Option PyData} (ho : UnR X (unaryOp op) (rOp1 X.K sem)) (ha : AE X x a f) : AE X x (.UnaryOp op a pos) (xOp1 sem f) :=
  (pe_un ho ha).imp fun _ _ _ h => tE_op1 h

/-! ### tests -/
theorem tT_tB {f : Fr → Res AV} {σ : L2.St} {H : Hp} {Q : Bool → Hp → Prop} (h : tT (pX X) x (xB f) σ H Q) : tB (tE (pX X) x f) σ H Q := by
  obtain ⟨c, fr, ad, F, o⟩ := h
  refine ⟨c, fr, ad, F, (Out.bind F o).mono fun av fr1 ad1 H1 F1 m1 o1 v rv => ?_⟩
  cases av with
  | dat y =>
    cases y with
    | bool k =>
      have e : v = .bl k := RepB.bool (.inl rv)
      subst e
      exact ⟨k, rfl, o1 ad1 H1 F1 Mv.refl⟩
    | _ => exact o1.elim
  | _ => exact o1.elim
theorem at_val (ha : AE X x a f) (he : ∀ whole, isTrue a X.env whole = (do let v ← whole; standAt a.pos; holding [v] (truthy v)) := by intro _; rfl) : AT X x a (xB f) :=
  (pt_val ha he).imp fun _ _ _ h => tT_tB h
theorem at_cmp {op : CmpOp} {sem : PyData → PyData → Option PyData} (ho : OpR X (compareOp op) (rOp2 X.K sem)) (ha : AE X x a f) (hb : AE X x b g) (hm : behindInMarks op b = false) : AT X x (.Compare a [op] [b] pos) (xB (xOp2 sem f g)) := by
  refine (pt_cmpR ho ha hb hm).imp fun σ H Q h => ?_
  have h1 := tT_tB h
  exact tE_op2 h1
theorem at_not {t : Fr → Res Bool} (ha : AT X x a t) : AT X x (.UnaryOp .Not a pos) (xNot t) :=
  (pt_not ha).imp fun σ H Q ⟨c, fr, ad, F, o⟩ => ⟨c, fr, ad, F, (Out.bind F o).mono fun b fr1 ad1 H1 F1 m1 o1 => o1 ad1 H1 F1 Mv.refl⟩
theorem aw_and1 {t : Fr → Res Bool} (ha : AT X x a t) : AW X x (.BoolOp .And [a] pos) t := pw_and1 ha
theorem aw_or1 {t : Fr → Res Bool} (ha : AT X x a t) : AW X x (.BoolOp .Or [a] pos) t := pw_or1 ha
theorem aw_and {t u : Fr → Res Bool} {rest : List Expr} (ha : AT X x a t) (hb : AW X x (.BoolOp .And (b :: rest) pos) u) : AW X x (.BoolOp .And (a :: b :: rest) pos) (xAnd t u) := by
  refine (pw_and ha hb).imp fun σ H Q ⟨c, fr, ad, F, o⟩ => ⟨c, fr, ad, F, (Out.bind F o).mono fun k fr1 ad1 H1 F1 m1 o1 => ?_⟩
  cases k with
  | true => exact ⟨c, fr1, ad1, F1, o1⟩
  | false => exact o1 ad1 H1 F1 Mv.refl
theorem aw_or {t u : Fr → Res Bool} {rest : List Expr} (ha : AT X x a t) (hb : AW X x (.BoolOp .Or (b :: rest) pos) u) : AW X x (.BoolOp .Or (a :: b :: rest) pos) (xOr t u) := by
  refine (pw_or ha hb).imp fun σ H Q ⟨c, fr, ad, F, o⟩ => ⟨c, fr, ad, F, (Out.bind F o).mono fun k fr1 ad1 H1 F1 m1 o1 => ?_⟩
  cases k with
  | false => exact ⟨c, fr1, ad1, F1, o1⟩
  | true => exact o1 ad1 H1 F1 Mv.refl
theorem at_w {t : Fr → Res Bool} (h : AW X x a t) : AT X x a t := PW.pt h
/-- and, or, not as values (of truths) -/
theorem ae_one {op : BoolOp} {t : Fr → Res Bool} (ha : AE X x a (xV t)) : AE X x (.BoolOp op [a] pos) (xV t) := pe_one ha
theorem ae_and {t u : Fr → Res Bool} {rest : List Expr} (ha : AE X x a (xV t)) (hb : AE X x (.BoolOp .And (b :: rest) pos) (xV u)) : AE X x (.BoolOp .And (a :: b :: rest) pos) (xV (xAnd t u)) := by
  refine (pe_and ha hb).imp fun σ H Q ⟨c, fr, ad, F, o⟩ => ⟨c, fr, ad, F, ?_⟩
  have o2 : Out (pX X) x c ad σ H (xV (xAnd t u) fr) _ := o
  unfold xV xAnd at o2
  have o3 := Out.bind F o2
  have o4 := Out.bind F o3
  show Out (pX X) x c ad σ H ((t fr).bind _) _
  cases q : t fr with
  | ok k fr1 =>
    rw [q] at o4
    intro ad1 H1 F1 m1 v rv
    have o5 := o4 ad1 H1 F1 m1
    have e : v = .bl k := RepB.bool (.inl rv)
    subst e
    refine ⟨k, rfl, ?_⟩
    cases k with
    | true => exact ⟨c, fr1, ad1, F1, by
        unfold xV
        cases q2 : u fr1 with
        | ok k2 fr2 =>
          rw [if_pos rfl, q2] at o5
          intro ad2 H2 F2 m2 w rw
          exact o5 ad2 H2 F2 m2 ad2 H2 F2 Mv.refl w rw
        | exc cl fs fr2 => rw [if_pos rfl, q2] at o5; exact o5
        | err => rw [if_pos rfl, q2] at o5; exact o5⟩
    | false => exact o5 ad1 H1 F1 Mv.refl ad1 H1 F1 Mv.refl _ (.bl false)
  | exc cl fs fr1 => rw [q] at o4; exact o4
  | err => rw [q] at o4; exact o4
theorem ae_or {t u : Fr → Res Bool} {rest : List Expr} (ha : AE X x a (xV t)) (hb : AE X x (.BoolOp .Or (b :: rest) pos) (xV u)) : AE X x (.BoolOp .Or (a :: b :: rest) pos) (xV (xOr t u)) := by
  refine (pe_or ha hb).imp fun σ H Q ⟨c, fr, ad, F, o⟩ => ⟨c, fr, ad, F, ?_⟩
  have o2 : Out (pX X) x c ad σ H (xV (xOr t u) fr) _ := o
  unfold xV xOr at o2
  have o4 := Out.bind F (Out.bind F o2)
  show Out (pX X) x c ad σ H ((t fr).bind _) _
  cases q : t fr with
  | ok k fr1 =>
    rw [q] at o4
    intro ad1 H1 F1 m1 v rv
    have o5 := o4 ad1 H1 F1 m1
    have e : v = .bl k := RepB.bool (.inl rv)
    subst e
    refine ⟨k, rfl, ?_⟩
    cases k with
    | false => exact ⟨c, fr1, ad1, F1, by
        unfold xV
        cases q2 : u fr1 with
        | ok k2 fr2 =>
          rw [if_neg (by decide), q2] at o5
          intro ad2 H2 F2 m2 w rw
          exact o5 ad2 H2 F2 m2 ad2 H2 F2 Mv.refl w rw
        | exc cl fs fr2 => rw [if_neg (by decide), q2] at o5; exact o5
        | err => rw [if_neg (by decide), q2] at o5; exact o5⟩
    | true => exact o5 ad1 H1 F1 Mv.refl ad1 H1 F1 Mv.refl _ (.bl true)
  | exc cl fs fr1 => rw [q] at o4; exact o4
  | err => rw [q] at o4; exact o4
/-- a value that is a truth, by its test's function -/
theorem ae_tv (ha : AE X x a f) : AE X x a (xV (xB f)) := by
  refine L2.PE.imp ha fun σ H Q ⟨c, fr, ad, F, o⟩ => ⟨c, fr, ad, F, ?_⟩
  unfold xV xB at o
  refine (Out.bind F (Out.bind F o)).mono fun av fr1 ad1 H1 F1 m1 o1 v rv => ?_
  cases av with
  | dat y =>
    cases y with
    | bool k => exact o1 ad1 H1 F1 Mv.refl ad1 H1 F1 Mv.refl v rv
    | _ => exact o1.elim
  | _ => exact o1.elim
theorem ae_not {t : Fr → Res Bool} (ha : AE X x a (xV t)) : AE X x (.UnaryOp .Not a pos) (xV (xNot t)) := by
  refine (pe_not ha).imp fun σ H Q ⟨c, fr, ad, F, o⟩ => ⟨c, fr, ad, F, ?_⟩
  unfold xV xNot at o
  have o4 := Out.bind F (Out.bind F o)
  show Out (pX X) x c ad σ H ((t fr).bind _) _
  cases q : t fr with
  | ok k fr1 =>
    rw [q] at o4
    intro ad1 H1 F1 m1 v rv
    have e : v = .bl k := RepB.bool (.inl rv)
    subst e
    exact ⟨k, rfl, o4 ad1 H1 F1 m1 ad1 H1 F1 Mv.refl ad1 H1 F1 Mv.refl _ (.bl _)⟩
  | exc cl fs fr1 => rw [q] at o4; exact o4
  | err => rw [q] at o4; exact o4
theorem ae_if {t : Fr → Res Bool} (hc : AT X x d t) (ha : AE X x a f) (hb : AE X x b g) : AE X x (.IfExp d a b pos) (xIf t f g) := by
  refine (pe_ifExp hc ha hb).imp fun σ H Q ⟨c, fr, ad, F, o⟩ => ⟨c, fr, ad, F, (Out.bind F o).mono fun k fr1 ad1 H1 F1 m1 o1 => ?_⟩
  cases k with
  | true => exact ⟨c, fr1, ad1, F1, o1⟩
  | false => exact ⟨c, fr1, ad1, F1, o1⟩

/-! ### argument lists, displays -/
theorem aa_nil : AA X x [] xNil := pa_nil.imp fun σ H Q ⟨c, fr, ad, F, o⟩ => o ad H F Mv.refl [] .nil
theorem aa_cons {es : List Expr} {gs : Fr → Res (List AV)} (ha : AE X x a f) (hr : AA X x es gs) (hs : starEach (a :: es) X.env = (false, eval a X.env) :: starEach es X.env := by rfl) : AA X x (a :: es) (xCons f gs) := by
  refine (pa_cons ha hr hs).imp fun σ H Q ⟨c, fr, ad, F, o⟩ => ⟨c, fr, ad, F, (Out.bind F o).mono fun av fr1 ad1 H1 F1 m1 o1 v rv => ?_⟩
  exact ⟨c, fr1, ad1, F1, (Out.bind F1 o1).mono fun as fr2 ad2 H2 F2 m2 o2 vs rvs => o2 ad2 H2 F2 Mv.refl _ (.cons (RepA.mv F1 m2 rv) rvs)⟩
theorem dats_rep {p : Par} {H : Hp} {ok : Addr → Prop} {ad : List (Option Addr)} : ∀ {vs : List V} {as : List AV} {xs : List PyData}, RepAs p H ok ad vs as → dats as = some xs → RepL p.K H ok vs xs
  | _, _, _, .nil, e => by cases e; exact .nil
  | _, .dat y :: as, _, .cons r rs, e => by
    unfold dats at e
    cases q : dats as with
    | none => rw [q] at e; cases e
    | some ys => rw [q] at e; cases e; exact .cons r (dats_rep rs q)
  | _, .dct _ _ :: as, _, .cons r rs, e => by cases e
  | _, .cel _ :: as, _, .cons r rs, e => by cases e
  | _, .scr _ :: as, _, .cons r rs, e => by cases e
theorem ae_tup {es : List Expr} {k : Nat} {gs : Fr → Res (List AV)} (h : AA X x es gs) (hl : es.length ≤ 1000 := by decide) (hn : ∀ fr as fr', gs fr = .ok as fr' → as.length = es.length) : AE X x (.Tuple es k pos) (xTup gs) := by
  refine (pe_tup h).imp fun σ H Q ⟨c, fr, ad, F, o⟩ => ⟨c, fr, ad, F, ?_⟩
  have o4 := Out.bind F o
  cases q : gs fr with
  | ok as fr1 =>
    rw [q] at o4
    intro ad1 H1 F1 m1 vs rvs
    have o5 := o4 ad1 H1 F1 m1
    have hlen := hn fr as fr1 q
    cases q2 : dats as with
    | none => simp only [q2] at o5; exact o5.elim
    | some xs =>
      simp only [q2] at o5
      have rl := dats_rep rvs q2
      have e1 : vs.length = as.length := Paired.length rvs
      have e2 := rl.length
      have z : vs.length ≤ sizeLine := by rw [sizeLine_eq]; omega
      refine ⟨z, fun p hp => ?_⟩
      have gr : Grow H1 (upd H1 p (.tup vs)) := Grow.new hp
      exact o5 ad1 _ (F1.grow gr) (Mv.grow gr) _ (.tup (SqT.of upd_same) (by rw [← e2]; exact z) (rl.keep gr.keep))
  | exc cl fs fr1 => rw [q] at o4; exact o4
  | err => rw [q] at o4; exact o4
theorem ae_lst {es : List Expr} {gs : Fr → Res (List AV)} (h : AA X x es gs) (hl : es.length ≤ 1000 := by decide) (hn : ∀ fr as fr', gs fr = .ok as fr' → as.length = es.length) : AE X x (.List es pos) (xLst gs) := by
  refine (pe_lst h).imp fun σ H Q ⟨c, fr, ad, F, o⟩ => ⟨c, fr, ad, F, ?_⟩
  have o4 := Out.bind F o
  cases q : gs fr with
  | ok as fr1 =>
    rw [q] at o4
    intro ad1 H1 F1 m1 vs rvs
    have o5 := o4 ad1 H1 F1 m1
    have hlen := hn fr as fr1 q
    cases q2 : dats as with
    | none => simp only [q2] at o5; exact o5.elim
    | some xs =>
      simp only [q2] at o5
      have rl := dats_rep rvs q2
      have e1 : vs.length = as.length := Paired.length rvs
      have e2 := rl.length
      have z : vs.length ≤ sizeLine := by rw [sizeLine_eq]; omega
      refine ⟨z, fun p hp => ?_⟩
      have gr : Grow H1 (upd H1 p (.lst vs)) := Grow.new hp
      exact o5 ad1 _ (F1.grow gr) (Mv.grow gr) _ (.lst (okP_new F1 hp) upd_same (by rw [← e2]; exact z) (rl.keep gr.keep))
  | exc cl fs fr1 => rw [q] at o4; exact o4
  | err => rw [q] at o4; exact o4
theorem n_nil : ∀ fr as fr', xNil fr = .ok as fr' → as.length = ([] : List Expr).length := fun fr as fr' h => by cases h; rfl
theorem n_cons {es : List Expr} {gs : Fr → Res (List AV)} (h : ∀ fr as fr', gs fr = .ok as fr' → as.length = es.length) : ∀ fr as fr', xCons f gs fr = .ok as fr' → as.length = (a :: es).length := fun fr as fr' e => by
  unfold xCons at e
  cases q : f fr with
  | ok av fr1 =>
    rw [q] at e
    have e' : (gs fr1).bind (fun as fr2 => Res.ok (av :: as) fr2) = .ok as fr' := e
    cases q2 : gs fr1 with
    | ok bs fr2 =>
      rw [q2] at e'
      have e2 : Res.ok (av :: bs) fr2 = Res.ok as fr' := e'
      injection e2 with e3 _
      subst e3
      simp [h _ _ _ q2]
    | exc cl fs fr2 => rw [q2] at e'; cases e'
    | err => rw [q2] at e'; cases e'
  | exc cl fs fr1 => rw [q] at e; cases e
  | err => rw [q] at e; cases e
end
end G
/-! GD: operators, comparisons, subscripts on data. -/
namespace G
open PySem PySem.Spec PyProof.Rows L2

/-! ### what they do -/
abbrev CMulP (i j : Int) : Prop := i.natAbs.log2 + j.natAbs.log2 < 1000000
abbrev CDivP (j : Int) : Prop := 0 < j ∧ j.natAbs.log2 < 9000
abbrev CPowP (i j : Int) : Prop := 0 ≤ j ∧ j ≤ 1000000 ∧ i.natAbs < 2 ^ 64
def mulOk (i j : Int) : Bool := decide (CMulP i j)
def divOk (j : Int) : Bool := decide (CDivP j)
def powOk (i j : Int) : Bool := decide (CPowP i j)
def dAdd : PyData → PyData → Option PyData
  | .int i, .int j => some (.int (i + j))
  | .str a, .str b => if a.length + b.length ≤ 1000000 then some (.str (a ++ b)) else none
  | .list a, .list b => if a.length + b.length ≤ 1000000 then some (.list (a ++ b)) else none
  | .tuple a, .tuple b => if a.length + b.length ≤ 1000000 then some (.tuple (a ++ b)) else none
  | _, _ => none
def dSub : PyData → PyData → Option PyData
  | .int i, .int j => some (.int (i - j))
  | _, _ => none
def dMul : PyData → PyData → Option PyData
  | .int i, .int j => if mulOk i j = true then some (.int (i * j)) else none
  | _, _ => none
def dFdiv : PyData → PyData → Option PyData
  | .int i, .int j => if divOk j = true then some (.int (i / j)) else none
  | _, _ => none
def dMod : PyData → PyData → Option PyData
  | .int i, .int j => if 0 < j then some (.int (i % j)) else none
  | _, _ => none
def dPow : PyData → PyData → Option PyData
  | .int i, .int j => if powOk i j = true then some (.int (i ^ j.toNat)) else none
  | _, _ => none
def dNeg : PyData → Option PyData
  | .int i => some (.int (-i))
  | _ => none
def eqOk (x y : PyData) : Bool := decide (min x.depth y.depth ≤ 64)
def dEq (x y : PyData) : Option PyData := if eqOk x y = true then some (.bool (PyData.eqv x y)) else none
def dNe (x y : PyData) : Option PyData := if eqOk x y = true then some (.bool (!PyData.eqv x y)) else none
/-- two tuples that can be compared -/
def cmpOk (x y : PyData) : Bool := PySem.W.alike x y && decide (min x.depth y.depth ≤ 32)
def dLt : PyData → PyData → Option PyData
  | .int i, .int j => some (.bool (decide (i < j)))
  | .str a, .str b => some (.bool (decide (a.cps.toList < b.cps.toList)))
  | .tuple a, .tuple b => if cmpOk (.tuple a) (.tuple b) = true then some (.bool (PySem.W.dataLt (.tuple a) (.tuple b))) else none
  | _, _ => none
def dLe : PyData → PyData → Option PyData
  | .int i, .int j => some (.bool (decide (i ≤ j)))
  | .str a, .str b => some (.bool (!decide (b.cps.toList < a.cps.toList)))
  | .tuple a, .tuple b => if cmpOk (.tuple a) (.tuple b) = true then some (.bool (!PySem.W.dataLt (.tuple b) (.tuple a))) else none
  | _, _ => none
def dGt : PyData → PyData → Option PyData
  | .int i, .int j => some (.bool (decide (j < i)))
  | _, _ => none
def dGe : PyData → PyData → Option PyData
  | .int i, .int j => some (.bool (decide (j ≤ i)))
  | _, _ => none
def isNonB : PyData → Bool
  | .none => true
  | _ => false
def dIsN : PyData → PyData → Option PyData
  | x, .none => some (.bool (isNonB x))
  | _, _ => none
def dNotN : PyData → PyData → Option PyData
  | x, .none => some (.bool (!isNonB x))
  | _, _ => none
/-- x in a list, a tuple -/
def inOk (x : PyData) (ds : List PyData) : Bool := decide (min (PyData.depthAll ds) x.depth ≤ 64)
def dIn : PyData → PyData → Option PyData
  | x, .list ds => if inOk x ds = true then some (.bool (ds.any fun z => PyData.eqv z x)) else none
  | x, .tuple ds => if inOk x ds = true then some (.bool (ds.any fun z => PyData.eqv z x)) else none
  | _, _ => none
def dNotIn : PyData → PyData → Option PyData
  | x, .list ds => if inOk x ds = true then some (.bool (!ds.any fun z => PyData.eqv z x)) else none
  | x, .tuple ds => if inOk x ds = true then some (.bool (!ds.any fun z => PyData.eqv z x)) else none
  | _, _ => none
def dIx : PyData → PyData → Option PyData
  | .list ds, .int i => atI ds i
  | .tuple ds, .int i => atI ds i
  | _, _ => none
/-- a slice with its bounds -/
def cutD (xs : List PyData) (lo hi : Option Int) : List PyData := (xs.drop (HT.sIx xs.length 0 lo)).take (HT.sIx xs.length xs.length hi - HT.sIx xs.length 0 lo)
def dSl (x : PyData) (lo hi : Option Int) : Option PyData := match x with
  | .list ds => some (.list (cutD ds lo hi))
  | .tuple ds => some (.tuple (cutD ds lo hi))
  | _ => none
@[simp] def dLen : List PyData → Option PyData
  | [.list ds] => some (.int ds.length)
  | [.tuple ds] => some (.int ds.length)
  | [.str z] => if z.length ≤ 1000000 then some (.int z.length) else none
  | _ => none
@[simp] def dAbs : List PyData → Option PyData
  | [.int i] => some (.int (if i < 0 then -i else i))
  | _ => none
def dMin2 : List PyData → Option PyData
  | [.int i, .int j] => some (.int (if j < i then j else i))
  | _ => none
def dMax2 : List PyData → Option PyData
  | [.int i, .int j] => some (.int (if j > i then j else i))
  | _ => none
@[simp] def dList : List PyData → Option PyData
  | [.list ds] => some (.list ds)
  | [.tuple ds] => some (.list ds)
  | _ => none
@[simp] def dTuple : List PyData → Option PyData
  | [.list ds] => some (.tuple ds)
  | [.tuple ds] => some (.tuple ds)
  | _ => none

/-! ### they are sound -/
section
variable {X : Cx}
theorem strOk_append {a b : Str} (h1 : PyData.strOk a = true) (h2 : PyData.strOk b = true) : PyData.strOk (a ++ b) = true := by
  unfold PyData.strOk at *
  show (a.cps ++ b.cps).all _ = true
  rw [Array.all_append, h1, h2]; rfl
theorem sz6 {n : Nat} (h : n ≤ 1000000) : n ≤ sizeLine := by rw [sizeLine_eq]; omega
theorem lists_cat {pins : List (Addr × Obj)} {σ : L2.St} {H : Hp} {s : Shared} {a b : Addr} {xs ys : List V} {Q : VK} (I : Inv X pins σ H s) (ha : SqL X.K H a xs) (hb : SqL X.K H b ys) (hz : xs.length + ys.length ≤ sizeLine)
    (q : ∀ p, H p = none → Q (.ref p) (upd H p (.lst (xs ++ ys)))) : wpAny (model X.prog X.w) X.A (binaryOp .Add (.ref a) (.ref b)) (EP X pins σ Q) X.xe s := by
  obtain ⟨its, r1, p1, _⟩ := I.list ha
  obtain ⟨its2, r2, p2, _⟩ := I.list hb
  obtain ⟨o1, n1, e1, c1, d1, t1⟩ := p1
  obtain ⟨o2, n2, e2, c2, d2, t2⟩ := p2
  obtain ⟨cls1, dd1, data1, sl1⟩ := o1
  obtain ⟨cls2, dd2, data2, sl2⟩ := o2
  simp only at c1 c2 d1 d2 t1 t2
  subst c1 c2 d1 d2 t1 t2
  refine concat_meets ⟨_, e1, rfl⟩ ⟨_, e2, rfl⟩ noFill_list_add seq_list_add F.slot_list_add F.entry_list_add (F.args_list_add_2 _ _)
    (list_addW a b its.toArray its2.toArray n1 n2 none none sl1 sl2 (by rw [List.size_toArray, List.size_toArray, ← r1.length, ← r2.length]; exact hz)) ⟨e1, e2, ?_⟩
  rw [show its.toArray ++ its2.toArray = (its ++ its2).toArray by simp]
  exact ⟨.ref _, _, I.lnew (t' := s.toks) (r1.append r2) (by rw [List.length_append]; exact hz), rfl, q _ I.fresh⟩
theorem o_add : OpR X (binaryOp .Add) (rOp2 X.K dAdd) := by
  intro pins s σ H xv yv v u Q I rx ry ⟨ok, dx, dy, r, hok, hx, hy, e, q⟩
  cases dx with
  | int i =>
    cases dy with
    | int j =>
      cases e; cases hx.int; cases hy.int
      exact op_add pins s σ H _ _ v u Q I rx ry ⟨i, j, rfl, rfl, q _ H Grow.refl (.int _)⟩
    | _ => cases e
  | str a =>
    cases dy with
    | str b =>
      simp only [dAdd] at e
      split at e
      · rename_i hz
        cases e
        obtain ⟨rfl, s1⟩ := hx.str
        obtain ⟨rfl, s2⟩ := hy.str
        exact op_add_str pins s σ H _ _ v u Q I rx ry ⟨a, b, rfl, rfl, sz6 hz, q _ H Grow.refl (.str _ (strOk_append s1 s2))⟩
      · cases e
    | _ => cases e
  | list a =>
    cases dy with
    | list b =>
      simp only [dAdd] at e
      split at e
      · rename_i hz
        cases e
        obtain ⟨l, xs, rfl, h1, z1, r1⟩ := hx.list
        obtain ⟨m, ys, rfl, h2, z2, r2⟩ := hy.list
        cases rx; cases ry
        have e1 := r1.length
        have e2 := r2.length
        refine lists_cat I h1 h2 (sz6 (by omega)) fun p hp => q _ _ (Grow.new hp) (.lst (hok p hp) upd_same (by rw [List.length_append]; exact sz6 hz) (RepL.keep (Grow.new hp).keep (r1.append r2)))
      · cases e
    | _ => cases e
  | tuple a =>
    cases dy with
    | tuple b =>
      simp only [dAdd] at e
      split at e
      · rename_i hz
        cases e
        obtain ⟨l, xs, rfl, h1, z1, r1⟩ := hx.tuple
        obtain ⟨m, ys, rfl, h2, z2, r2⟩ := hy.tuple
        have e1 := r1.length
        have e2 := r2.length
        refine op_catA pins s σ H _ _ v u Q I rx ry ⟨l, m, xs, ys, rfl, rfl, h1, h2, sz6 (by omega), fun hn => ?_, fun hn hm => ?_, fun hn hm p hp => ?_⟩
        · subst hn
          cases r1
          exact q _ H Grow.refl (.tup h2 z2 r2)
        · subst hm
          cases r2
          rw [List.append_nil] at q
          exact q _ H Grow.refl (.tup h1 z1 r1)
        · exact q _ _ (Grow.new hp) (.tup (SqT.of upd_same) (by rw [List.length_append]; exact sz6 hz) (RepL.keep (Grow.new hp).keep (r1.append r2)))
      · cases e
    | _ => cases e
  | _ => cases e
/-- an operator on two ints -/
theorem o_int2 {f : Value → Value → Sem Value} {C : Int → Int → Prop} {g : Int → Int → Int} {sem : PyData → PyData → Option PyData} (ho : OpR X f (rI C fun i j => .int (g i j)))
    (hs : ∀ x y r, sem x y = some r → ∃ i j, x = .int i ∧ y = .int j ∧ r = .int (g i j) ∧ C i j) : OpR X f (rOp2 X.K sem) := by
  intro pins s σ H xv yv v u Q I rx ry ⟨ok, dx, dy, r, hok, hx, hy, e, q⟩
  obtain ⟨i, j, rfl, rfl, rfl, hc⟩ := hs _ _ _ e
  cases hx.int; cases hy.int
  exact ho pins s σ H _ _ v u Q I rx ry ⟨i, j, rfl, rfl, hc, q _ H Grow.refl (.int _)⟩
theorem o_sub : OpR X (binaryOp .Sub) (rOp2 X.K dSub) := by
  refine o_int2 (C := fun _ _ => True) (g := fun i j => i - j) (fun pins s σ H x y v u Q I rx ry ⟨i, j, h1, h2, _, q⟩ => op_sub pins s σ H x y v u Q I rx ry ⟨i, j, h1, h2, q⟩) fun x y r e => ?_
  cases x <;> cases y <;> first | cases e | skip
  exact ⟨_, _, rfl, rfl, rfl, trivial⟩
theorem o_mul : OpR X (binaryOp .Mult) (rOp2 X.K dMul) := by
  refine o_int2 (g := fun i j => i * j) op_mulW fun x y r e => ?_
  cases x <;> cases y <;> first | cases e | skip
  simp only [dMul] at e
  split at e
  · rename_i h
    cases e
    exact ⟨_, _, rfl, rfl, rfl, by first | exact of_decide_eq_true (p := CMulP _ _) h | exact of_decide_eq_true (p := CDivP _) h | exact of_decide_eq_true (p := CPowP _ _) h⟩
  · cases e
theorem o_fdiv : OpR X (binaryOp .FloorDiv) (rOp2 X.K dFdiv) := by
  refine o_int2 (g := fun i j => i / j) op_fdivW fun x y r e => ?_
  cases x <;> cases y <;> first | cases e | skip
  simp only [dFdiv] at e
  split at e
  · rename_i h
    cases e
    exact ⟨_, _, rfl, rfl, rfl, by first | exact of_decide_eq_true (p := CMulP _ _) h | exact of_decide_eq_true (p := CDivP _) h | exact of_decide_eq_true (p := CPowP _ _) h⟩
  · cases e
theorem o_mod : OpR X (binaryOp .Mod) (rOp2 X.K dMod) := by
  refine o_int2 (g := fun i j => i % j) op_mod fun x y r e => ?_
  cases x <;> cases y <;> first | cases e | skip
  simp only [dMod] at e
  split at e
  · rename_i h
    cases e
    exact ⟨_, _, rfl, rfl, rfl, h⟩
  · cases e
theorem o_pow : OpR X (binaryOp .Pow) (rOp2 X.K dPow) := by
  refine o_int2 (g := fun i j => i ^ j.toNat) op_pow fun x y r e => ?_
  cases x <;> cases y <;> first | cases e | skip
  simp only [dPow] at e
  split at e
  · rename_i h
    cases e
    exact ⟨_, _, rfl, rfl, rfl, by first | exact of_decide_eq_true (p := CMulP _ _) h | exact of_decide_eq_true (p := CDivP _) h | exact of_decide_eq_true (p := CPowP _ _) h⟩
  · cases e
theorem o_neg : UnR X (unaryOp .USub) (rOp1 X.K dNeg) := by
  intro pins s σ H xv v Q I rx ⟨ok, dx, r, hok, hx, e, q⟩
  cases dx with
  | int i =>
    cases e; cases hx.int
    exact un_neg pins s σ H _ v Q I rx ⟨i, rfl, q _ H Grow.refl (.int _)⟩
  | _ => cases e
theorem eq_room {x y : PyData} {n : Nat} (h : eqOk x y = true) (hu : n + 64 < cLine) : n + min x.depth y.depth < cLine := by
  have := of_decide_eq_true h
  omega
theorem o_eq (hu : X.A.units + 64 < cLine) : OpR X (compareOp .Eq) (rOp2 X.K dEq) := by
  intro pins s σ H xv yv v u Q I rx ry ⟨ok, dx, dy, r, hok, hx, hy, e, q⟩
  unfold dEq at e
  split at e
  · rename_i h
    cases e
    obtain ⟨as, r1⟩ := Dp.reads I dx xv v hx.dp rx
    obtain ⟨bs, r2⟩ := Dp.reads I dy yv u hy.dp ry
    exact SeqAt.compareEq_reads r1 r2 hx.lay hy.lay (eq_room h hu) ⟨.bl _, H, I, rfl, q _ H Grow.refl (.bl _)⟩
  · cases e
theorem o_ne (hu : X.A.units + 64 < cLine) : OpR X (compareOp .NotEq) (rOp2 X.K dNe) := by
  intro pins s σ H xv yv v u Q I rx ry ⟨ok, dx, dy, r, hok, hx, hy, e, q⟩
  unfold dNe at e
  split at e
  · rename_i h
    cases e
    obtain ⟨as, r1⟩ := Dp.reads I dx xv v hx.dp rx
    obtain ⟨bs, r2⟩ := Dp.reads I dy yv u hy.dp ry
    exact SeqAt.compareNe_reads r1 r2 hx.lay hy.lay (eq_room h hu) ⟨.bl _, H, I, rfl, q _ H Grow.refl (.bl _)⟩
  · cases e
theorem o_lt (hu : X.A.units + 64 < cLine) : OpR X (compareOp .Lt) (rOp2 X.K dLt) := by
  intro pins s σ H xv yv v u Q I rx ry ⟨ok, dx, dy, r, hok, hx, hy, e, q⟩
  cases dx with
  | int i =>
    cases dy with
    | int j =>
      cases e; cases hx.int; cases hy.int
      exact op_lt pins s σ H _ _ v u Q I rx ry ⟨i, j, rfl, rfl, q _ H Grow.refl (.bl _)⟩
    | _ => cases e
  | str a =>
    cases dy with
    | str b =>
      cases e
      obtain ⟨rfl, _⟩ := hx.str
      obtain ⟨rfl, _⟩ := hy.str
      exact op_lt_str pins s σ H _ _ v u Q I rx ry ⟨a, b, rfl, rfl, q _ H Grow.refl (.bl _)⟩
    | _ => cases e
  | tuple a =>
    cases dy with
    | tuple b =>
      simp only [dLt] at e
      split at e
      · rename_i h
        cases e
        unfold cmpOk at h
        rw [Bool.and_eq_true, decide_eq_true_eq] at h
        obtain ⟨as, r1⟩ := Dp.reads I _ xv v hx.dp rx
        obtain ⟨bs, r2⟩ := Dp.reads I _ yv u hy.dp ry
        exact PySem.W.lt_data r1 r2 h.1 (fun z => nomatch z) (by have := h.2; omega) ⟨.bl _, H, I, rfl, q _ H Grow.refl (.bl _)⟩
      · cases e
    | _ => cases e
  | _ => cases e
theorem o_le (hu : X.A.units + 64 < cLine) : OpR X (compareOp .LtE) (rOp2 X.K dLe) := by
  intro pins s σ H xv yv v u Q I rx ry ⟨ok, dx, dy, r, hok, hx, hy, e, q⟩
  cases dx with
  | int i =>
    cases dy with
    | int j =>
      cases e; cases hx.int; cases hy.int
      exact op_le pins s σ H _ _ v u Q I rx ry ⟨i, j, rfl, rfl, q _ H Grow.refl (.bl _)⟩
    | _ => cases e
  | str a =>
    cases dy with
    | str b =>
      cases e
      obtain ⟨rfl, _⟩ := hx.str
      obtain ⟨rfl, _⟩ := hy.str
      exact op_le_str pins s σ H _ _ v u Q I rx ry ⟨a, b, rfl, rfl, q _ H Grow.refl (.bl _)⟩
    | _ => cases e
  | tuple a =>
    cases dy with
    | tuple b =>
      simp only [dLe] at e
      split at e
      · rename_i h
        cases e
        unfold cmpOk at h
        rw [Bool.and_eq_true, decide_eq_true_eq] at h
        obtain ⟨as, r1⟩ := Dp.reads I _ xv v hx.dp rx
        obtain ⟨bs, r2⟩ := Dp.reads I _ yv u hy.dp ry
        exact PySem.W.le_data r1 r2 h.1 (fun z => nomatch z) (by have := h.2; omega) ⟨.bl _, H, I, rfl, q _ H Grow.refl (.bl _)⟩
      · cases e
    | _ => cases e
  | _ => cases e
theorem o_gt : OpR X (compareOp .Gt) (rOp2 X.K dGt) := by
  intro pins s σ H xv yv v u Q I rx ry ⟨ok, dx, dy, r, hok, hx, hy, e, q⟩
  cases dx with
  | int i =>
    cases dy with
    | int j =>
      cases e; cases hx.int; cases hy.int
      exact op_gt pins s σ H _ _ v u Q I rx ry ⟨i, j, rfl, rfl, q _ H Grow.refl (.bl _)⟩
    | _ => cases e
  | _ => cases e
theorem o_ge : OpR X (compareOp .GtE) (rOp2 X.K dGe) := by
  intro pins s σ H xv yv v u Q I rx ry ⟨ok, dx, dy, r, hok, hx, hy, e, q⟩
  cases dx with
  | int i =>
    cases dy with
    | int j =>
      cases e; cases hx.int; cases hy.int
      exact op_ge pins s σ H _ _ v u Q I rx ry ⟨i, j, rfl, rfl, q _ H Grow.refl (.bl _)⟩
    | _ => cases e
  | _ => cases e
theorem Rep.isNon {K : PySem.W.Frag} {H : Hp} {ok : Addr → Prop} {v : V} {x : PyData} (r : RepB K H ok v x) : decide (v = .non) = isNonB x := by
  rcases r with r | ⟨a, xs, ds, rfl, rfl, _⟩
  · cases r <;> simp [isNonB]
  · simp [isNonB]
theorem o_isN : OpR X (compareOp .Is) (rOp2 X.K dIsN) := by
  intro pins s σ H xv yv v u Q I rx ry ⟨ok, dx, dy, r, hok, hx, hy, e, q⟩
  cases dy with
  | none =>
    cases e; cases hy.none
    refine op_isN pins s σ H _ _ v u Q I rx ry ⟨rfl, ?_⟩
    rw [Rep.isNon hx]
    exact q _ H Grow.refl (.bl _)
  | _ => cases e
theorem o_notN : OpR X (compareOp .IsNot) (rOp2 X.K dNotN) := by
  intro pins s σ H xv yv v u Q I rx ry ⟨ok, dx, dy, r, hok, hx, hy, e, q⟩
  cases dy with
  | none =>
    cases e; cases hy.none
    refine op_notN pins s σ H _ _ v u Q I rx ry ⟨rfl, ?_⟩
    rw [Rep.isNon hx]
    exact q _ H Grow.refl (.bl _)
  | _ => cases e
theorem in_room {x : PyData} {ds : List PyData} {n : Nat} (h : inOk x ds = true) (hu : n + 65 < cLine) : n + 1 + min (PyData.depthAll ds) x.depth < cLine := by
  have := of_decide_eq_true h
  omega
theorem o_in (hu : X.A.units + 65 < cLine) : OpR X (compareOp .In) (rOp2 X.K dIn) := by
  intro pins s σ H xv yv v u Q I rx ry ⟨ok, dx, dy, r, hok, hx, hy, e, q⟩
  obtain ⟨as, r1⟩ := Dp.reads I dx xv v hx.dp rx
  obtain ⟨bs, r2⟩ := Dp.reads I dy yv u hy.dp ry
  cases dy with
  | list ds =>
    simp only [dIn] at e
    split at e
    · rename_i h
      cases e
      exact SeqAt.in_list_reads r2 r1 hy.lay hx.lay (in_room h hu) ⟨.bl _, H, I, rfl, q _ H Grow.refl (.bl _)⟩
    · cases e
  | tuple ds =>
    simp only [dIn] at e
    split at e
    · rename_i h
      cases e
      exact SeqAt.in_tuple_reads r2 r1 hy.lay hx.lay (in_room h hu) ⟨.bl _, H, I, rfl, q _ H Grow.refl (.bl _)⟩
    · cases e
  | _ => cases e
theorem o_notIn (hu : X.A.units + 65 < cLine) : OpR X (compareOp .NotIn) (rOp2 X.K dNotIn) := by
  intro pins s σ H xv yv v u Q I rx ry ⟨ok, dx, dy, r, hok, hx, hy, e, q⟩
  obtain ⟨as, r1⟩ := Dp.reads I dx xv v hx.dp rx
  obtain ⟨bs, r2⟩ := Dp.reads I dy yv u hy.dp ry
  cases dy with
  | list ds =>
    simp only [dNotIn] at e
    split at e
    · rename_i h
      cases e
      exact SeqAt.notIn_list_reads r2 r1 hy.lay hx.lay (in_room h hu) ⟨.bl _, H, I, rfl, q _ H Grow.refl (.bl _)⟩
    · cases e
  | tuple ds =>
    simp only [dNotIn] at e
    split at e
    · rename_i h
      cases e
      exact SeqAt.notIn_tuple_reads r2 r1 hy.lay hx.lay (in_room h hu) ⟨.bl _, H, I, rfl, q _ H Grow.refl (.bl _)⟩
    · cases e
  | _ => cases e
theorem atI_rep {K : PySem.W.Frag} {H : Hp} {ok : Addr → Prop} {vs : List V} {ds : List PyData} {i : Int} {r : PyData} (rl : RepL K H ok vs ds) (e : atI ds i = some r) : ∃ v, atI vs i = some v ∧ Rep K H ok v r := by
  unfold atI at *
  rw [rl.length]
  cases q : ixN ds.length i with
  | none => rw [q] at e; cases e
  | some j =>
    rw [q] at e
    exact rl.get (i := j) e
theorem o_ix : IxR X (rOp2 X.K dIx) := by
  intro ea eb pins s σ H xv yv v u Q I rx ry h hsub
  obtain ⟨ok, dx, dy, r, hok, hx, hy, e, q⟩ := h
  cases dx with
  | list ds =>
    cases dy with
    | int i =>
      obtain ⟨l, xs, rfl, h1, z1, r1⟩ := hx.list
      cases hy.int
      obtain ⟨w, e1, rw⟩ := atI_rep r1 e
      exact ix_list ea eb pins s σ H _ _ v u Q I rx ry ⟨l, xs, i, w, rfl, rfl, h1, e1, q _ H Grow.refl rw⟩ hsub
    | _ => cases e
  | tuple ds =>
    cases dy with
    | int i =>
      obtain ⟨l, xs, rfl, h1, z1, r1⟩ := hx.tuple
      cases hy.int
      obtain ⟨w, e1, rw⟩ := atI_rep r1 e
      exact ix_tup ea eb pins s σ H _ _ v u Q I rx ry ⟨l, xs, i, w, rfl, rfl, h1, e1, q _ H Grow.refl rw⟩ hsub
    | _ => cases e
  | _ => cases e
theorem cut_rep {K : PySem.W.Frag} {H : Hp} {ok : Addr → Prop} {vs : List V} {ds : List PyData} (rl : RepL K H ok vs ds) (lo hi : Option Int) : RepL K H ok (cutV vs lo hi) (cutD ds lo hi) := by
  unfold cutV cutD
  rw [rl.length]
  exact (rl.drop _).take _
theorem cut_len (ds : List PyData) (lo hi : Option Int) : (cutD ds lo hi).length ≤ ds.length := by
  unfold cutD
  rw [List.length_take, List.length_drop]
  omega
theorem cut_whole {K : PySem.W.Frag} {H : Hp} {ok : Addr → Prop} {vs : List V} {ds : List PyData} (rl : RepL K H ok vs ds) {lo hi : Option Int} (h : HT.sIx vs.length 0 lo = 0 ∧ HT.sIx vs.length vs.length hi = vs.length) : cutD ds lo hi = ds := by
  unfold cutD
  rw [← rl.length, h.1, h.2, List.drop_zero, Nat.sub_zero, rl.length, List.take_length]
def rSl (K : PySem.W.Frag) : V → Option Int → Option Int → Hp → VK → Prop := fun xv lo hi H Q => ∃ (ok : Addr → Prop) (dx r : PyData), (∀ p, H p = none → ok p) ∧ RepB K H ok xv dx ∧ dSl dx lo hi = some r ∧ ∀ v H', Grow H H' → Rep K H' ok v r → Q v H'
theorem o_sl : SlR X (rSl X.K) := by
  intro pins s σ H xv v vl vu lo hi sl Q I rx hs pl pu h
  obtain ⟨ok, dx, r, hok, hx, e, q⟩ := h
  cases dx with
  | list ds =>
    cases e
    obtain ⟨l, xs, rfl, h1, z1, r1⟩ := hx.list
    exact sl_list pins s σ H _ v vl vu lo hi sl Q I rx hs pl pu ⟨l, xs, rfl, h1, fun p hp =>
      q _ _ (Grow.new hp) (.lst (hok p hp) upd_same (Nat.le_trans (cut_len ds lo hi) z1) (RepL.keep (Grow.new hp).keep (cut_rep r1 lo hi)))⟩
  | tuple ds =>
    cases e
    obtain ⟨l, xs, rfl, h1, z1, r1⟩ := hx.tuple
    refine sl_tupA pins s σ H _ v vl vu lo hi sl Q I rx hs pl pu ⟨l, xs, rfl, h1, fun w => ?_, fun _ p hp => ?_⟩
    · rw [cut_whole r1 w] at q
      exact q _ H Grow.refl (.tup h1 z1 r1)
    · exact q _ _ (Grow.new hp) (.tup (SqT.of upd_same) (Nat.le_trans (cut_len ds lo hi) z1) (RepL.keep (Grow.new hp).keep (cut_rep r1 lo hi)))
  | _ => cases e

/-! ### built-in functions -/
theorem RepBs.one {K : PySem.W.Frag} {H : Hp} {ok : Addr → Prop} {vs : List V} {d : PyData} (r : RepBs K H ok vs [d]) : ∃ v, vs = [v] ∧ RepB K H ok v d := by
  cases r with
  | cons h t => cases t; exact ⟨_, rfl, h⟩
theorem RepBs.two {K : PySem.W.Frag} {H : Hp} {ok : Addr → Prop} {vs : List V} {d d2 : PyData} (r : RepBs K H ok vs [d, d2]) : ∃ v v2, vs = [v, v2] ∧ RepB K H ok v d ∧ RepB K H ok v2 d2 := by
  cases r with
  | cons h t =>
    cases t with
    | cons h2 t2 => cases t2; exact ⟨_, _, rfl, h, h2⟩
theorem c_len : CallR X (.builtin "len") (rCall X.K dLen) := by
  intro pins s σ H xs us Q I rx ⟨ok, ds, r, hok, hx, e, q⟩
  match ds, e with
  | [.list ds], e =>
    cases e
    obtain ⟨v, rfl, h⟩ := hx.one
    obtain ⟨l, ys, rfl, h1, z1, r1⟩ := h.list
    rw [← r1.length] at q
    exact call_len_seq pins s σ H _ us Q I rx ⟨l, ys, rfl, .inl h1, q _ H Grow.refl (.int _)⟩
  | [.tuple ds], e =>
    cases e
    obtain ⟨v, rfl, h⟩ := hx.one
    obtain ⟨l, ys, rfl, h1, z1, r1⟩ := h.tuple
    rw [← r1.length] at q
    exact call_len_seq pins s σ H _ us Q I rx ⟨l, ys, rfl, .inr h1, q _ H Grow.refl (.int _)⟩
  | [.str z], e =>
    simp only [dLen] at e
    split at e
    · rename_i hz
      cases e
      obtain ⟨v, rfl, h⟩ := hx.one
      obtain ⟨rfl, _⟩ := h.str
      exact call_len_str pins s σ H _ us Q I rx ⟨z, rfl, sz6 hz, q _ H Grow.refl (.int _)⟩
    · cases e
theorem c_abs : CallR X (.builtin "abs") (rCall X.K dAbs) := by
  intro pins s σ H xs us Q I rx ⟨ok, ds, r, hok, hx, e, q⟩
  match ds, e with
  | [.int i], e =>
    cases e
    obtain ⟨v, rfl, h⟩ := hx.one
    cases h.int
    exact call_abs pins s σ H _ us Q I rx ⟨i, rfl, q _ H Grow.refl (.int _)⟩
theorem c_min (hc : X.calm = true) : CallR X (.builtin "min") (rCall X.K dMin2) := by
  intro pins s σ H xs us Q I rx ⟨ok, ds, r, hok, hx, e, q⟩
  match ds, e with
  | [.int i, .int j], e =>
    cases e
    obtain ⟨v, v2, rfl, h, h2⟩ := hx.two
    cases h.int; cases h2.int
    exact call_min2 hc pins s σ H _ us Q I rx ⟨i, j, rfl, q _ H Grow.refl (.int _)⟩
theorem c_max (hc : X.calm = true) : CallR X (.builtin "max") (rCall X.K dMax2) := by
  intro pins s σ H xs us Q I rx ⟨ok, ds, r, hok, hx, e, q⟩
  match ds, e with
  | [.int i, .int j], e =>
    cases e
    obtain ⟨v, v2, rfl, h, h2⟩ := hx.two
    cases h.int; cases h2.int
    exact call_max2 hc pins s σ H _ us Q I rx ⟨i, j, rfl, q _ H Grow.refl (.int _)⟩
theorem c_list : CallR X (.type "list") (rCall X.K dList) := by
  intro pins s σ H xs us Q I rx ⟨ok, ds, r, hok, hx, e, q⟩
  match ds, e with
  | [.list ds], e =>
    cases e
    obtain ⟨v, rfl, h⟩ := hx.one
    obtain ⟨l, ys, rfl, h1, z1, r1⟩ := h.list
    exact call_list_of pins s σ H _ us Q I rx ⟨l, ys, rfl, .inl h1, fun p hp => q _ _ (Grow.new hp) (.lst (hok p hp) upd_same z1 (RepL.keep (Grow.new hp).keep r1))⟩
  | [.tuple ds], e =>
    cases e
    obtain ⟨v, rfl, h⟩ := hx.one
    obtain ⟨l, ys, rfl, h1, z1, r1⟩ := h.tuple
    exact call_list_of pins s σ H _ us Q I rx ⟨l, ys, rfl, .inr h1, fun p hp => q _ _ (Grow.new hp) (.lst (hok p hp) upd_same z1 (RepL.keep (Grow.new hp).keep r1))⟩
theorem c_tuple : CallR X (.type "tuple") (rCall X.K dTuple) := by
  intro pins s σ H xs us Q I rx ⟨ok, ds, r, hok, hx, e, q⟩
  match ds, e with
  | [.list ds], e =>
    cases e
    obtain ⟨v, rfl, h⟩ := hx.one
    obtain ⟨l, ys, rfl, h1, z1, r1⟩ := h.list
    exact call_tuple_of pins s σ H _ us Q I rx ⟨l, ys, rfl, .inl ⟨h1, fun p hp => q _ _ (Grow.new hp) (.tup (SqT.of upd_same) z1 (RepL.keep (Grow.new hp).keep r1))⟩⟩
  | [.tuple ds], e =>
    cases e
    obtain ⟨v, rfl, h⟩ := hx.one
    obtain ⟨l, ys, rfl, h1, z1, r1⟩ := h.tuple
    exact call_tuple_of pins s σ H _ us Q I rx ⟨l, ys, rfl, .inr ⟨h1, q _ H Grow.refl (.tup h1 z1 r1)⟩⟩
end
end G
/-! GE: calls of built-in functions, isinstance, subscripts, slices. -/
namespace G
open PySem PySem.Spec PyProof.Rows L2

@[simp] def xIx (f g : Fr → Res AV) : Fr → Res AV := xOp2 dIx f g
/-- a bound of a slice -/
@[simp] def xNo : Fr → Res (Option Int) := fun fr => .ok none fr
@[simp] def xSo (f : Fr → Res AV) : Fr → Res (Option Int) := fun fr => (f fr).bind fun a fr1 => match a with
  | .dat (.int i) => .ok (some i) fr1
  | _ => .err
@[simp] def xSl (f : Fr → Res AV) (l u : Fr → Res (Option Int)) : Fr → Res AV := fun fr => (f fr).bind fun a fr1 => (l fr1).bind fun lo fr2 => (u fr2).bind fun hi fr3 => match fr3.view a with
  | some x => ofO fr3 (dSl x lo hi)
  | none => .err
@[simp] def xB1 (sem : List PyData → Option PyData) (gs : Fr → Res (List AV)) : Fr → Res AV := fun fr => (gs fr).bind fun as fr1 => match views fr1 as with
  | some ds => ofO fr1 (sem ds)
  | none => .err

section
variable {X : Cx} {x : XW} {a b d : Expr} {f g h : Fr → Res AV} {pos : Pos}
theorem ae_ix (ha : AE X x a f) (hb : AE X x b g) (hs : PlainIx b := by intro _ _; rfl) : AE X x (.Subscript a b pos) (xIx f g) :=
  (pe_ix o_ix ha hb hs).imp fun _ _ _ h => tE_op2 h
/-- a part of a slice -/
abbrev AO (X : Cx) (x : XW) (o : Option Expr) (l : Fr → Res (Option Int)) : Prop :=
  PO X o fun σ H Q => ∃ c fr ad, FR (pX X) c fr ad σ H ∧ Out (pX X) x c ad σ H (l fr) fun i _ _ H' => Q i H'
theorem _root_.L2.PO.imp {X : Cx} {o : Option Expr} {t t' : TO} (h : PO X o t) (hi : ∀ σ H Q, t' σ H Q → t σ H Q) : PO X o t' := ⟨fun pins s σ H Q I q => h.run pins s σ H Q I (hi σ H Q q)⟩
theorem ao_none : AO X x none xNo := (po_none).imp fun σ H Q ⟨c, fr, ad, F, o⟩ => o ad H F Mv.refl
theorem ao_some (ha : AE X x a f) : AO X x (some a) (xSo f) := by
  refine (po_some ha).imp fun σ H Q ⟨c, fr, ad, F, o⟩ => ⟨c, fr, ad, F, (Out.bind F o).mono fun av fr1 ad1 H1 F1 m1 o1 v rv => ?_⟩
  cases av with
  | dat y =>
    cases y with
    | int i =>
      cases RepB.int (.inl rv)
      exact ⟨i, rfl, o1 ad1 H1 F1 Mv.refl⟩
    | _ => exact o1.elim
  | _ => exact o1.elim
theorem ae_sl {lo hi : Option Expr} {l u : Fr → Res (Option Int)} {p2 : Pos} (ha : AE X x a f) (hl : AO X x lo l) (hu : AO X x hi u) : AE X x (.Subscript a (.Slice lo hi none p2) pos) (xSl f l u) := by
  refine (pe_slice o_sl ha hl hu).imp fun σ H Q ⟨c, fr, ad, F, o⟩ => ⟨c, fr, ad, F, (Out.bind F o).mono fun av fr1 ad1 H1 F1 m1 o1 v rv => ?_⟩
  refine ⟨c, fr1, ad1, F1, (Out.bind F1 o1).mono fun i fr2 ad2 H2 F2 m2 o2 => ?_⟩
  refine ⟨c, fr2, ad2, F2, (Out.bind F2 o2).mono fun j fr3 ad3 H3 F3 m3 o3 => ?_⟩
  have r3 := RepA.mv F2 m3 (RepA.mv F1 m2 rv)
  cases q1 : fr3.view av with
  | none => rw [q1] at o3; exact o3.elim
  | some dx =>
    rw [q1] at o3
    simp only [ofO] at o3
    cases q3 : dSl dx i j with
    | none => rw [q3] at o3; exact o3.elim
    | some r =>
      rw [q3] at o3
      exact ⟨okP c ad3, dx, r, fun p hp => okP_new F3 hp, view_rep F3 r3 q1, q3, fun w H4 gr rw => o3 ad3 H4 (F3.grow gr) (Mv.grow gr) w rw⟩
theorem views_rep {p : Par} {c : Ent} {fr : Fr} {ad : List (Option Addr)} {σ : L2.St} {H : Hp} (F : FR p c fr ad σ H) : ∀ {vs : List V} {as : List AV} {ds : List PyData}, RepAs p H (okP c ad) ad vs as → views fr as = some ds → RepBs p.K H (okP c ad) vs ds
  | _, _, _, .nil, e => by cases e; exact .nil
  | _, a :: as, ds, .cons r rs, e => by
    unfold views at e
    cases q1 : fr.view a with
    | none => rw [q1] at e; cases e
    | some y =>
      cases q2 : views fr as with
      | none => rw [q1, q2] at e; cases e
      | some ys =>
        rw [q1, q2] at e
        cases e
        exact .cons (view_rep F r q1) (views_rep F rs q2)
theorem tA_call {sem : List PyData → Option PyData} {gs : Fr → Res (List AV)} {σ : L2.St} {H : Hp} {Q : VK} (h : tE (pX X) x (xB1 sem gs) σ H Q) : tA (pX X) x gs σ H fun vs H1 => rCall X.K sem vs H1 Q := by
  obtain ⟨c, fr, ad, F, o⟩ := h
  refine ⟨c, fr, ad, F, (Out.bind F o).mono fun as fr1 ad1 H1 F1 m1 o1 vs rvs => ?_⟩
  cases q1 : views fr1 as with
  | none => rw [q1] at o1; exact o1.elim
  | some ds =>
    rw [q1] at o1
    simp only [ofO] at o1
    cases q3 : sem ds with
    | none => rw [q3] at o1; exact o1.elim
    | some r =>
      rw [q3] at o1
      exact ⟨okP c ad1, ds, r, fun p hp => okP_new F1 hp, views_rep F1 rvs q1, q3, fun w H3 gr rw => o1 ad1 H3 (F1.grow gr) (Mv.grow gr) w rw⟩
/-- a built-in function, a built-in class, called -/
theorem ae_callB {id : String} {n : Str} {sem : List PyData → Option PyData} {gs : Fr → Res (List AV)} {es : List Expr} {p1 : Pos} (hc : CallR X (.builtin id) (rCall X.K sem)) (hg : Gl X n) (hm : X.mg n = none) (hv : bootBuiltins n = some (.builtin id)) (ha : AA X x (a :: es) gs)
    (hn : n ≠ "__name__" := by decide) (hdb : (n == ("__debug__" : Str)) = false := by decide) (he : starEach (a :: es) X.env = (false, eval a X.env) :: starEach es X.env := by rfl) (hpl : (backTo pos (starEach es X.env)).any (·.1) = false := by rfl) :
    AE X x (.Call (.Name n p1) (a :: es) [] pos) (xB1 sem gs) :=
  (pe_callB hc hg hm hv ha hn hdb he hpl).imp fun _ _ _ h => tA_call h
theorem ae_callT {T : String} {n : Str} {sem : List PyData → Option PyData} {gs : Fr → Res (List AV)} {es : List Expr} {p1 : Pos} (hc : CallR X (.type T) (rCall X.K sem)) (hg : Gl X n) (hm : X.mg n = none) (hv : bootBuiltins n = some (.type T)) (ha : AA X x (a :: es) gs)
    (hn : n ≠ "__name__" := by decide) (hdb : (n == ("__debug__" : Str)) = false := by decide) (he : starEach (a :: es) X.env = (false, eval a X.env) :: starEach es X.env := by rfl) (hpl : (backTo pos (starEach es X.env)).any (·.1) = false := by rfl) :
    AE X x (.Call (.Name n p1) (a :: es) [] pos) (xB1 sem gs) :=
  (pe_callTy hc hg hm hv ha hn hdb he hpl).imp fun _ _ _ h => tA_call h

/-! ### isinstance -/
def tyN : PyData → String
  | .none => "NoneType"
  | .bool _ => "bool"
  | .int _ => "int"
  | .str _ => "str"
  | .list _ => "list"
  | .tuple _ => "tuple"
  | .dict _ => "dict"
def isiN (T n : String) : Bool := n == T || (T == "int" && n == "bool")
def isi (T : String) (d : PyData) : Bool := isiN T (tyN d)
def kinds : List String := ["NoneType", "bool", "int", "str", "list", "tuple"]
def TyOk (T : String) : Prop := ∀ n ∈ kinds, kitB n T = some (isiN T n)
theorem tyOk_int : TyOk "int" := by unfold TyOk kinds; decide +kernel
theorem tyOk_bool : TyOk "bool" := by unfold TyOk kinds; decide +kernel
theorem tyOk_str : TyOk "str" := by unfold TyOk kinds; decide +kernel
theorem tyOk_list : TyOk "list" := by unfold TyOk kinds; decide +kernel
theorem tyOk_tuple : TyOk "tuple" := by unfold TyOk kinds; decide +kernel
theorem kind_mem {K : PySem.W.Frag} {H : Hp} {ok : Addr → Prop} {v : V} {y : PyData} (r : RepB K H ok v y) : tyN y ∈ kinds := by
  have hl := r.lay
  cases y <;> first | (simp [tyN, kinds]; done) | cases hl
/-- what the library's isinstance asks of a value -/
theorem kit_rep {pins : List (Addr × Obj)} {σ : L2.St} {H : Hp} {s : Shared} {ok : Addr → Prop} {v : V} {u : Value} {y : PyData} (I : Inv X pins σ H s) (rv : RelV v u) (r : RepB X.K H ok v y) :
    ∃ P : Heap → Prop, PySem.W.KitX X.K u (.type (tyN y)) P ∧ P s.heap ∧ u ≠ .builtin "__main__.__loader__#opaque" := by
  cases y with
  | none => cases r.none; cases rv; exact ⟨_, PySem.W.kitx_none, True.intro, fun z => nomatch z⟩
  | bool k => cases r.bool; cases rv; exact ⟨_, PySem.W.kitx_bool, True.intro, fun z => nomatch z⟩
  | int i => cases r.int; obtain ⟨t, rfl⟩ := rv; exact ⟨_, PySem.W.kitx_int, True.intro, fun z => nomatch z⟩
  | str z => obtain ⟨rfl, _⟩ := r.str; obtain ⟨t, rfl⟩ := rv; exact ⟨_, PySem.W.kitx_str, True.intro, fun z => nomatch z⟩
  | list ds =>
    obtain ⟨l, xs, rfl, h1, _, _⟩ := r.list
    cases rv
    obtain ⟨its, _, ⟨o, n, e, hc, _⟩, _⟩ := I.list h1
    exact ⟨_, PySem.W.kitx_list, ⟨o, e, hc⟩, fun z => nomatch z⟩
  | tuple ds =>
    obtain ⟨l, xs, rfl, h1, _, _⟩ := r.tuple
    cases rv
    obtain ⟨its, _, ⟨o, e, hc, _⟩, _⟩ := I.tuple h1
    exact ⟨_, PySem.W.kitx_tuple, ⟨o, e, hc⟩, fun z => nomatch z⟩
  | dict kvs => have z := r.lay; cases z
def rIs1 (K : PySem.W.Frag) (T : String) : List V → Hp → VK → Prop := fun xs H Q => ∃ (ok : Addr → Prop) (v : V) (y : PyData), xs = [v, .ty T] ∧ RepB K H ok v y ∧ Q (.bl (isi T y)) H
theorem c_is1 {T : String} (ht : TyOk T) : CallR X (.builtin "isinstance") (rIs1 X.K T) := by
  intro pins s σ H xs us Q I r h
  obtain ⟨ok, v, y, rfl, ry, q⟩ := h
  obtain ⟨u1, u2, rfl, r1, r2⟩ := vals2 r
  cases (show u2 = Value.type T from r2)
  obtain ⟨P, Z, p, hx⟩ := kit_rep I r1 ry
  exact PySem.W.kia_one Z I.kIn p (kit_ty (ht _ (kind_mem ry))) hx fun tk => ⟨.bl _, H, I.tok tk, rfl, q⟩
def rIs2 (K : PySem.W.Frag) (T U : String) : List V → Hp → VK → Prop := fun xs H Q => ∃ (ok : Addr → Prop) (v : V) (y : PyData) (tp : Addr), xs = [v, .ref tp] ∧ H tp = some (.tup [.ty T, .ty U]) ∧ RepB K H ok v y ∧ Q (.bl (isi T y || isi U y)) H
theorem c_is2 {T U : String} (ht : TyOk T) (hu : TyOk U) : CallR X (.builtin "isinstance") (rIs2 X.K T U) := by
  intro pins s σ H xs us Q I r h
  obtain ⟨ok, v, y, tp, rfl, hT, ry, q⟩ := h
  obtain ⟨u1, u2, rfl, r1, r2⟩ := vals2 r
  cases (show u2 = Value.ref tp from r2)
  obtain ⟨P, Z, p, hx⟩ := kit_rep I r1 ry
  obtain ⟨_, its, rv, o, h1, h2, n, h3⟩ := (show ObjOk X.prog X.w H s.heap tp (.tup [.ty T, .ty U]) from I.hok tp _ hT)
  obtain ⟨w1, w2, rfl, q1, q2⟩ := vals2 rv
  cases (show w1 = Value.type T from q1)
  cases (show w2 = Value.type U from q2)
  obtain ⟨oc, od, dt, sl⟩ := o
  simp only at h2 h3
  subst h2 h3
  have e : PySem.W.kitAny X.K (.type (tyN y)) [.type T, .type U] = some (isi T y || isi U y) := by
    refine kitAny_cons (kit_ty (ht _ (kind_mem ry))) (fun h => ?_) fun h => ?_
    · have h' : isi T y = false := h
      rw [h', Bool.false_or]
      refine kitAny_cons (kit_ty (hu _ (kind_mem ry))) (fun h2 => ?_) fun h2 => h2
      have h2' : isi U y = false := h2
      rw [h2']
      exact kitAny_nil
    · have h' : isi T y = true := h
      rw [h', Bool.true_or]
  exact PySem.W.kia_tup Z I.kIn p h1 e hx fun tk => ⟨.bl _, H, I.tok tk, rfl, q⟩
@[simp] def xIsi (k : PyData → Bool) (f : Fr → Res AV) : Fr → Res AV := fun fr => (f fr).bind fun a fr1 => match fr1.view a with
  | some y => .ok (.dat (.bool (k y))) fr1
  | none => .err
theorem ae_is1 {T : String} {n : Str} {p1 p2 : Pos} (ht : TyOk T) (hi : Gl X "isinstance") (mi : X.mg "isinstance" = none) (hg : Gl X n) (hm : X.mg n = none) (hv : bootBuiltins n = some (.type T)) (ha : AE X x a f)
    (hn : n ≠ "__name__" := by decide) (hdb : (n == ("__debug__" : Str)) = false := by decide) (hst : starEach [a, .Name n p2] X.env = (false, eval a X.env) :: starEach [.Name n p2] X.env := by rfl) :
    AE X x (.Call (.Name "isinstance" p1) [a, .Name n p2] [] pos) (xIsi (isi T) f) := by
  refine (pe_callB (c_is1 ht) hi mi (by decide +kernel) (pa_cons ha (pa_cons (pe_bltn (v := .ty T) hg hm hv rfl hn hdb) pa_nil) hst) (by decide) (by decide) hst).imp fun σ H Q ⟨c, fr, ad, F, o⟩ => ?_
  refine ⟨c, fr, ad, F, (Out.bind F o).mono fun av fr1 ad1 H1 F1 m1 o1 v rv => ?_⟩
  cases q1 : fr1.view av with
  | none => rw [q1] at o1; exact o1.elim
  | some y =>
    rw [q1] at o1
    exact ⟨okP c ad1, v, y, rfl, view_rep F1 rv q1, o1 ad1 H1 F1 Mv.refl _ (.bl _)⟩
theorem ae_is2 {T U : String} {n m : Str} {k : Nat} {p1 p2 p3 p4 : Pos} (ht : TyOk T) (hu : TyOk U) (hi : Gl X "isinstance") (mi : X.mg "isinstance" = none) (hg : Gl X n) (hm : X.mg n = none) (hv : bootBuiltins n = some (.type T)) (hg2 : Gl X m) (hm2 : X.mg m = none) (hv2 : bootBuiltins m = some (.type U)) (ha : AE X x a f)
    (hn : n ≠ "__name__" := by decide) (hdb : (n == ("__debug__" : Str)) = false := by decide) (hn2 : m ≠ "__name__" := by decide) (hdb2 : (m == ("__debug__" : Str)) = false := by decide) (hst : starEach [a, .Tuple [.Name n p2, .Name m p3] k p4] X.env = (false, eval a X.env) :: starEach [.Tuple [.Name n p2, .Name m p3] k p4] X.env := by rfl) :
    AE X x (.Call (.Name "isinstance" p1) [a, .Tuple [.Name n p2, .Name m p3] k p4] [] pos) (xIsi (fun y => isi T y || isi U y) f) := by
  refine (pe_callB (c_is2 ht hu) hi mi (by decide +kernel) (pa_cons ha (pa_cons (pe_tup (pa_cons (pe_bltn (v := .ty T) hg hm hv rfl hn hdb) (pa_cons (pe_bltn (v := .ty U) hg2 hm2 hv2 rfl hn2 hdb2) pa_nil))) pa_nil) hst) (by decide) (by decide) hst).imp fun σ H Q ⟨c, fr, ad, F, o⟩ => ?_
  refine ⟨c, fr, ad, F, (Out.bind F o).mono fun av fr1 ad1 H1 F1 m1 o1 v rv => ?_⟩
  cases q1 : fr1.view av with
  | none => rw [q1] at o1; exact o1.elim
  | some y =>
    rw [q1] at o1
    refine ⟨by show 2 ≤ sizeLine; rw [sizeLine_eq]; decide, fun p hp => ?_⟩
    have gr : Grow H1 (upd H1 p (.tup [.ty T, .ty U])) := Grow.new hp
    refine ⟨okP c ad1, v, y, p, rfl, upd_same, ?_, o1 ad1 _ (F1.grow gr) (Mv.grow gr) _ (.bl _)⟩
    exact view_rep (F1.grow gr) (RepA.mv F1 (Mv.grow gr) rv) q1
end
end G
/-! GF: statements; what a def says; calls. -/
namespace G
open PySem PySem.Spec PyProof.Rows L2

inductive SRes where
  | nx (f : Fr)
  | ret (a : AV) (f : Fr)
  | bk (f : Fr)
  | ct (f : Fr)
  | exc (c : Str) (fs : List (Str × PyData)) (f : Fr)
  | err
def SOut (p : Par) (x : XW) (c : Ent) (r : SRes) (D : Ends) : Prop := match r with
  | .nx fr' => ∀ ad' σ' H', FR p c fr' ad' σ' H' → D.nx σ' H'
  | .ret a fr' => ∀ ad' σ' H' v, FR p c fr' ad' σ' H' → RepA p H' (okP c ad') ad' v a → D.rt v H'
  | .bk fr' => ∀ ad' σ' H', FR p c fr' ad' σ' H' → D.bk σ' H'
  | .ct fr' => ∀ ad' σ' H', FR p c fr' ad' σ' H' → D.ct σ' H'
  | .exc cl fs fr' => ∀ ad' σ' H' C d, FR p c fr' ad' σ' H' → x.C cl fs H' C d → x.W C d σ' H'
  | .err => False
def tS (p : Par) (x : XW) (f : Fr → SRes) : TS := fun D σ H => ∃ c fr ad, FR p c fr ad σ H ∧ SOut p x c (f fr) D
abbrev AS (X : Cx) (x : XW) (st : Stmt) (f : Fr → SRes) : Prop := PS X st (tS (pX X) x f)
abbrev ASs (X : Cx) (x : XW) (st : List Stmt) (f : Fr → SRes) : Prop := PSs X st (tS (pX X) x f)
/-- from an expression's result to a statement's -/
@[simp] def Res.toS {α : Type} (r : Res α) (k : α → Fr → SRes) : SRes := match r with
  | .ok a f => k a f
  | .exc c fs f => .exc c fs f
  | .err => .err
@[simp] def SRes.then (r : SRes) (k : Fr → SRes) : SRes := match r with
  | .nx f => k f
  | r => r

/-! ### the frame changes -/
section
variable {p : Par} {c : Ent} {fr : Fr} {ad : List (Option Addr)} {σ : L2.St} {H H' : Hp}
@[simp] def Fr.setv (fr : Fr) (i : Nat) (a : Option AV) : Fr := ⟨fr.vars.set i a, fr.cells, fr.base⟩
theorem FR.setv (F : FR p c fr ad σ H) {i : Nat} {v : V} {a : AV} (r : RepA p H (okP c ad) ad v a) : FR p c (fr.setv i (some a)) ad (σ.set i (some v)) H where
  len := by simp [Fr.setv, F.len]
  var := fun j av e => by
    by_cases h : i = j
    · subst h
      by_cases hl : i < fr.vars.length
      · rw [Fr.setv, List.getElem?_set_self hl] at e
        cases e
        exact ⟨v, List.getElem?_set_self (by rw [← F.len]; exact hl), r⟩
      · rw [Fr.setv, List.getElem?_eq_none (by simpa using hl)] at e
        cases e
    · rw [Fr.setv, List.getElem?_set_ne h] at e
      obtain ⟨w, h1, h2⟩ := F.var j av e
      exact ⟨w, by rw [List.getElem?_set_ne h]; exact h1, h2⟩
  clen := F.clen
  cel := F.cel
  nd := F.nd
  old := F.old
  sub := F.sub
  adw := F.adw
  gh := F.gh
  pr := F.pr
  bs := F.bs
/-- slots forgotten -/
@[simp] def kill : List Nat → List (Option AV) → List (Option AV)
  | [], vs => vs
  | i :: is, vs => (kill is vs).set i none
theorem kill_len (vs : List (Option AV)) : ∀ is : List Nat, (kill is vs).length = vs.length
  | [] => rfl
  | i :: is => by rw [kill, List.length_set, kill_len vs is]
theorem kill_some {vs : List (Option AV)} {j : Nat} {a : AV} : ∀ {is : List Nat}, (kill is vs)[j]? = some (some a) → vs[j]? = some (some a) ∧ j ∉ is
  | [], h => ⟨h, by simp⟩
  | i :: is, h => by
    rw [kill] at h
    by_cases hi : i = j
    · subst hi
      by_cases hl : i < (kill is vs).length
      · rw [List.getElem?_set_self hl] at h; cases h
      · rw [List.getElem?_eq_none (by simpa using hl)] at h; cases h
    · rw [List.getElem?_set_ne hi] at h
      obtain ⟨h1, h2⟩ := kill_some h
      exact ⟨h1, by simp only [List.mem_cons, not_or]; exact ⟨fun e => hi e.symm, h2⟩⟩
@[simp] def Fr.kill (fr : Fr) (is : List Nat) : Fr := ⟨G.kill is fr.vars, fr.cells, fr.base⟩
theorem FR.kill (F : FR p c fr ad σ H) (is : List Nat) : FR p c (fr.kill is) ad σ H where
  len := by rw [Fr.kill, kill_len]; exact F.len
  var := fun j av e => F.var j av (kill_some e).1
  clen := F.clen
  cel := F.cel
  nd := F.nd
  old := F.old
  sub := F.sub
  adw := F.adw
  gh := F.gh
  pr := F.pr
  bs := F.bs
/-- a new cell, at a new place -/
@[simp] def Fr.newc (fr : Fr) (cl : Cell) : Fr := ⟨fr.vars, fr.cells ++ [cl], fr.base⟩
theorem snoc_at {α : Type} {l : List α} {x y : α} {i : Nat} (h : (l ++ [x])[i]? = some y) : l[i]? = some y ∨ (i = l.length ∧ y = x) := by
  by_cases hi : i < l.length
  · rw [List.getElem?_append_left hi] at h; exact .inl h
  · rw [List.getElem?_append_right (Nat.le_of_not_lt hi)] at h
    cases hk : i - l.length with
    | zero => rw [hk] at h; simp at h; exact .inr ⟨by omega, h.symm⟩
    | succ n => rw [hk] at h; simp at h
theorem snoc_pre {α : Type} {l : List α} {x y : α} {i : Nat} (h : l[i]? = some y) : (l ++ [x])[i]? = some y := by
  have hi : i < l.length := by
    rcases Nat.lt_or_ge i l.length with q | q
    · exact q
    · rw [List.getElem?_eq_none q] at h; cases h
  rw [List.getElem?_append_left hi]; exact h
theorem mv_new {a : Addr} {o : HO} (n : H a = none) : Mv H ad (upd H a o) (ad ++ [some a]) where
  keep := fun b u e _ => Grow.new n b u e
  pre := fun i x e => snoc_pre e
  new := fun b h => by
    rcases List.mem_append.mp h with q | q
    · exact .inl q
    · have e : b = a := by simpa using q
      exact .inr (by rw [e]; exact n)
  there := fun b h => by
    by_cases e : b = a
    · subst e; rw [upd_same]; simp
    · rw [upd_ne e]; exact h
theorem he_new (F : FR p c fr ad σ H) {a : Addr} (n : H a = none) : c.He a = none := by
  cases q : c.He a with
  | none => rfl
  | some o =>
    by_cases hw : a ∈ c.W0
    · obtain ⟨i, e⟩ := mem_at hw
      obtain ⟨o', e', _⟩ := F.track (List.mem_of_getElem? (F.sub i a e))
      rw [n] at e'; cases e'
    · have := F.old a o q hw
      rw [n] at this; cases this
theorem FR.newc (F : FR p c fr ad σ H) {a : Addr} {o : HO} {cl : Cell} (n : H a = none) (q : ∀ ok : Addr → Prop, (∀ b u, okP c ad b → H b = some u → ok b) → CellAt p (upd H a o) ok a cl) : FR p c (fr.newc cl) (ad ++ [some a]) σ (upd H a o) := by
  have m : Mv H ad (upd H a o) (ad ++ [some a]) := mv_new n
  refine ⟨F.len, fun i av e => ?_, by simp [Fr.newc, F.clen], fun i b e => ?_, fun i j b e1 e2 => ?_, fun b u e h => ?_, fun i b e => snoc_pre (F.sub i b e), fun b h => ?_, fun g hg => ⟨(F.gh g hg).1, RepA.mv F m (F.gh g hg).2⟩, m.prs F, F.bs⟩
  · obtain ⟨v, h1, h2⟩ := F.var i av e
    exact ⟨v, h1, RepA.mv F m h2⟩
  · rcases snoc_at e with e | ⟨hi, e⟩
    · obtain ⟨cl', h1, h2⟩ := F.cel i b e
      refine ⟨cl', snoc_pre h1, ?_⟩
      have g : Grow H (upd H a o) := Grow.new n
      cases cl' with
      | lst ds =>
        obtain ⟨xs, h3, hz, h4⟩ := h2
        exact ⟨xs, g _ _ h3, hz, h4.keep (m.kp F)⟩
      | dct tp kvs => exact DctAt.keep (m.kp F) (fun u z => g _ _ z) h2
      | gone => exact h2
    · cases e
      refine ⟨cl, ?_, q _ fun b u h1 h2 => ((m.kp F).l b u h1 h2).1⟩
      rw [Fr.newc, hi, ← F.clen]
      simp
  · rcases snoc_at e1 with z1 | ⟨i1, z1⟩
    · rcases snoc_at e2 with z2 | ⟨i2, z2⟩
      · exact F.nd i j b z1 z2
      · cases z2
        obtain ⟨o', e', _⟩ := F.track (List.mem_of_getElem? z1)
        rw [n] at e'; cases e'
    · cases z1
      rcases snoc_at e2 with z2 | ⟨i2, z2⟩
      · obtain ⟨o', e', _⟩ := F.track (List.mem_of_getElem? z2)
        rw [n] at e'; cases e'
      · omega
  · exact Grow.new n b u (F.old b u e h)
  · rcases List.mem_append.mp h with z | z
    · exact F.adw b z
    · have e : b = a := by simpa using z
      subst e
      exact .inr (he_new F n)
/-- a cell is written -/
@[simp] def Fr.putc (fr : Fr) (i : Nat) (cl : Cell) : Fr := ⟨fr.vars, fr.cells.set i cl, fr.base⟩
theorem FR.putc (F : FR p c fr ad σ H) {i : Nat} {a : Addr} {o : HO} {cl : Cell} (e : ad[i]? = some (some a)) (ht : ∀ b xs, Rd H b (.tup xs) → Rd (upd H a o) b (.tup xs)) (q : CellAt p (upd H a o) (okP c ad) a cl) : FR p c (fr.putc i cl) ad σ (upd H a o) := by
  have hm : some a ∈ ad := List.mem_of_getElem? e
  have kp : Keep H (upd H a o) (okP c ad) (okP c ad) := ⟨fun b u h hb => ⟨h, by
    have ne : b ≠ a := fun z => h.2 (by rw [z]; exact hm)
    rw [upd_ne ne]; exact hb⟩, ht⟩
  have hne : ∀ j b, ad[j]? = some (some b) → j ≠ i → b ≠ a := fun j b hb hj z => hj (F.nd j i a (by rw [← z]; exact hb) e)
  have rep : ∀ {v : V} {av : AV}, RepA p H (okP c ad) ad v av → RepA p (upd H a o) (okP c ad) ad v av := fun {v av} h2 => by
    cases av with
    | dat y => exact Rep.keep kp h2
    | dct tp kvs =>
      obtain ⟨b, rfl, hb, d⟩ := h2
      have ne : b ≠ a := fun z => hb.2 (by rw [z]; exact hm)
      exact ⟨b, rfl, hb, d.keep kp fun u z => by rw [upd_ne ne]; exact z⟩
    | cel k => exact h2
    | scr ns =>
      obtain ⟨hl, b, rfl, z⟩ := h2
      refine ⟨hl, b, rfl, ?_⟩
      rcases z with ⟨u, z⟩ | z
      · refine .inl ⟨u, ?_⟩
        have ne : b ≠ a := fun w => by
          obtain ⟨cl', _, y⟩ := F.cel i a e
          rw [w] at z
          cases cl' with
          | lst ds =>
            obtain ⟨xs, e3, _⟩ := y
            rw [z] at e3; cases e3
          | dct tp kvs =>
            cases tp with
            | false =>
              obtain ⟨ks, e3, _⟩ := y
              rw [z] at e3; cases e3
            | true =>
              obtain ⟨es, ep, xs, e3, _⟩ := y
              rw [z] at e3
              have r' : HO.frz u (.lst (ns.map V.int)) = dTh a es ep := Option.some.inj e3
              cases r'
          | gone => exact y.elim
        rw [upd_ne ne]; exact z
      · exact .inr z
  refine ⟨F.len, fun j av e2 => ?_, by simp [Fr.putc, F.clen], fun j b e2 => ?_, F.nd, fun b u h1 h2 => ?_, F.sub, F.adw, fun g hg => ⟨(F.gh g hg).1, rep (F.gh g hg).2⟩, fun b hb => ⟨(F.pr b hb).1, by
    obtain ⟨n, vs, z⟩ := F.pr b hb
    exact ⟨vs, by rw [upd_ne fun w => n (by rw [w]; exact hm)]; exact z⟩⟩, F.bs⟩
  · obtain ⟨v, h1, h2⟩ := F.var j av e2
    exact ⟨v, h1, rep h2⟩
  · by_cases hj : j = i
    · subst hj
      rw [e] at e2; cases e2
      obtain ⟨cl', h1, _⟩ := F.cel j a e
      have hi : j < fr.cells.length := by
        rcases Nat.lt_or_ge j fr.cells.length with z | z
        · exact z
        · rw [List.getElem?_eq_none z] at h1; cases h1
      exact ⟨cl, List.getElem?_set_self hi, q⟩
    · obtain ⟨cl', h1, h2⟩ := F.cel j b e2
      have ne := hne j b e2 hj
      refine ⟨cl', by rw [Fr.putc, List.getElem?_set_ne (Ne.symm hj)]; exact h1, ?_⟩
      cases cl' with
      | lst ds =>
        obtain ⟨xs, h3, hz, h4⟩ := h2
        exact ⟨xs, by rw [upd_ne ne]; exact h3, hz, h4.keep kp⟩
      | dct tp kvs => exact DctAt.keep kp (fun u z => by rw [upd_ne ne]; exact z) h2
      | gone => exact h2
  · by_cases hb : b = a
    · subst hb
      rcases F.adw b hm with z | z
      · exact absurd z h2
      · rw [z] at h1; cases h1
    · rw [upd_ne hb]; exact F.old b u h1 h2
/-- a cell is given up: its names hold what it held -/
@[simp] def frzv (i : Nat) (a : AV) : Option AV → Option AV
  | some (.cel j) => if j = i then some a else some (.cel j)
  | v => v
@[simp] def celv : Cell → Option AV
  | .lst xs => some (.dat (.list xs))
  | .dct tp kvs => some (.dct tp kvs)
  | .gone => none
/-- only a cell of one's own -/
@[simp] def Fr.frz (fr : Fr) (i : Nat) : Option Fr := if fr.base ≤ i then (match fr.cells[i]? with
  | some cl => (match celv cl with
    | some a => some ⟨fr.vars.map (frzv i a), fr.cells.set i .gone, fr.base⟩
    | none => none)
  | none => none) else none
end
theorem RepL.mono {K : PySem.W.Frag} {H : Hp} {ok ok' : Addr → Prop} (h : ∀ a, ok a → ok' a) {vs : List V} {xs : List PyData} (r : RepL K H ok vs xs) : RepL K H ok' vs xs := r.keep ⟨fun a o ha e => ⟨h a ha, e⟩, fun _ _ z => z⟩
theorem Rep.mono {K : PySem.W.Frag} {H : Hp} {ok ok' : Addr → Prop} (h : ∀ a, ok a → ok' a) {v : V} {y : PyData} (r : Rep K H ok v y) : Rep K H ok' v y := r.keep ⟨fun a o ha e => ⟨h a ha, e⟩, fun _ _ z => z⟩
theorem DctAt.mono {p : Par} {H : Hp} {ok ok' : Addr → Prop} (h : ∀ a, ok a → ok' a) {a : Addr} {tp : Bool} {kvs : List (PyData × PyData)} (r : DctAt p H ok a tp kvs) : DctAt p H ok' a tp kvs := r.keep ⟨fun a o ha e => ⟨h a ha, e⟩, fun _ _ z => z⟩ fun _ z => z
section
variable {p : Par} {c : Ent} {fr fr2 : Fr} {ad : List (Option Addr)} {σ : L2.St} {H H' : Hp}
theorem FR.frz (F : FR p c fr ad σ H) {i : Nat} (h : fr.frz i = some fr2) : ∃ ad', FR p c fr2 ad' σ H := by
  unfold Fr.frz at h
  split at h
  rotate_left
  · cases h
  rename_i hk
  rw [F.bs] at hk
  cases q1 : fr.cells[i]? with
  | none => rw [q1] at h; cases h
  | some cl =>
    rw [q1] at h
    simp only at h
    cases q2 : celv cl with
    | none => rw [q2] at h; cases h
    | some av =>
      rw [q2] at h
      cases h
      refine ⟨ad.set i none, ?_⟩
      have hi : i < ad.length := by
        rw [← F.clen]
        rcases Nat.lt_or_ge i fr.cells.length with z | z
        · exact z
        · rw [List.getElem?_eq_none z] at q1; cases q1
      have mono : ∀ b, okP c ad b → okP c (ad.set i none) b := fun b hb => ⟨hb.1, fun hm => by
        obtain ⟨j, e⟩ := mem_at hm
        by_cases hj : i = j
        · subst hj; rw [List.getElem?_set_self hi] at e; cases e
        · rw [List.getElem?_set_ne hj] at e; exact hb.2 (List.mem_of_getElem? e)⟩
      have okA : ∀ a, ad[i]? = some (some a) → okP c (ad.set i none) a := fun a ha => by
        refine ⟨⟨.inl ?_, fun hp => (F.pr a hp).1 (List.mem_of_getElem? ha)⟩, fun hm => ?_⟩
        · rcases F.adw a (List.mem_of_getElem? ha) with z | z
          · obtain ⟨j, e⟩ := mem_at z
            have := F.nd j i a (F.sub j a e) ha
            have hj : j < c.W0.length := by
              rcases Nat.lt_or_ge j c.W0.length with y | y
              · exact y
              · rw [List.getElem?_eq_none y] at e; cases e
            omega
          · exact z
        · obtain ⟨j, e⟩ := mem_at hm
          by_cases hj : i = j
          · subst hj; rw [List.getElem?_set_self hi] at e; cases e
          · rw [List.getElem?_set_ne hj] at e; exact hj (F.nd i j a ha e)
      have repA : ∀ a, ad[i]? = some (some a) → RepA p H (okP c (ad.set i none)) (ad.set i none) (.ref a) av := fun a ha => by
        obtain ⟨cl', h1, h2⟩ := F.cel i a ha
        rw [q1] at h1; cases h1
        cases cl with
        | lst ds =>
          cases q2
          obtain ⟨xs, h3, hz, h4⟩ := h2
          exact .lst (okA a ha) h3 hz (h4.mono mono)
        | dct tp kvs =>
          cases q2
          exact ⟨a, rfl, okA a ha, h2.mono mono⟩
        | gone => exact h2.elim
      refine ⟨by simp [F.len], fun j bv e => ?_, by simp [F.clen], fun j b e => ?_, fun j k b e1 e2 => ?_, F.old, fun j b e => ?_, fun b hm => ?_, fun g hg => ⟨(F.gh g hg).1, ?_⟩, fun b hb => ⟨fun hm => ?_, (F.pr b hb).2⟩, F.bs⟩
      · rw [List.getElem?_map] at e
        cases q3 : fr.vars[j]? with
        | none => rw [q3] at e; cases e
        | some w =>
          rw [q3] at e
          have e' : frzv i av w = some bv := Option.some.inj e
          cases w with
          | none => cases e'
          | some w =>
            obtain ⟨v, h1, h2⟩ := F.var j w q3
            refine ⟨v, h1, ?_⟩
            cases w with
            | dat y => cases e'; exact Rep.mono mono h2
            | dct tp kvs =>
              cases e'
              obtain ⟨b, hb, h3, h4⟩ := h2
              exact ⟨b, hb, mono b h3, h4.mono mono⟩
            | scr ns => cases e'; exact h2
            | cel k =>
              obtain ⟨b, rfl, h3⟩ := h2
              have e'' : (if k = i then some av else some (.cel k)) = some bv := e'
              split at e''
              · rename_i hki
                subst hki
                cases e''
                exact repA b h3
              · rename_i hki
                cases e''
                exact ⟨b, rfl, by rw [List.getElem?_set_ne (Ne.symm hki)]; exact h3⟩
      · by_cases hj : i = j
        · subst hj; rw [List.getElem?_set_self hi] at e; cases e
        · rw [List.getElem?_set_ne hj] at e
          obtain ⟨cl', h1, h2⟩ := F.cel j b e
          refine ⟨cl', by rw [List.getElem?_set_ne hj]; exact h1, ?_⟩
          cases cl' with
          | lst ds =>
            obtain ⟨xs, h3, hz, h4⟩ := h2
            exact ⟨xs, h3, hz, h4.mono mono⟩
          | dct tp kvs => exact DctAt.mono mono h2
          | gone => exact h2
      · by_cases hj : i = j
        · subst hj; rw [List.getElem?_set_self hi] at e1; cases e1
        · by_cases hk : i = k
          · subst hk; rw [List.getElem?_set_self hi] at e2; cases e2
          · rw [List.getElem?_set_ne hj] at e1
            rw [List.getElem?_set_ne hk] at e2
            exact F.nd j k b e1 e2
      · have hj : i ≠ j := fun z => by
          subst z
          rw [List.getElem?_eq_none hk] at e; cases e
        rw [List.getElem?_set_ne hj]; exact F.sub j b e
      · obtain ⟨j, e⟩ := mem_at hm
        by_cases hj : i = j
        · subst hj; rw [List.getElem?_set_self hi] at e; cases e
        · rw [List.getElem?_set_ne hj] at e; exact F.adw b (List.mem_of_getElem? e)
      · obtain ⟨h1, h2⟩ := F.gh g hg
        revert h1 h2
        cases g.2 with
        | dat y => exact fun _ h2 => Rep.mono mono h2
        | dct tp kvs => exact fun _ ⟨b, hb, h3, h4⟩ => ⟨b, hb, mono b h3, h4.mono mono⟩
        | cel k => exact fun h1 _ => nomatch h1
        | scr ns => exact fun h1 _ => nomatch h1
      · obtain ⟨j, e⟩ := mem_at hm
        by_cases hj : i = j
        · subst hj; rw [List.getElem?_set_self hi] at e; cases e
        · rw [List.getElem?_set_ne hj] at e; exact (F.pr b hb).1 (List.mem_of_getElem? e)
end
end G
/-! GG: statements, defs, calls of defs. -/
namespace G
open PySem PySem.Spec PyProof.Rows L2

/-! ### combinators -/
@[simp] def sRet (f : Fr → Res AV) : Fr → SRes := fun fr => (f fr).toS fun a fr1 => .ret a fr1
@[simp] def sRetN : Fr → SRes := fun fr => .ret (.dat .none) fr
@[simp] def sDrop (f : Fr → Res AV) : Fr → SRes := fun fr => (f fr).toS fun _ fr1 => .nx fr1
@[simp] def sSet (i : Nat) (f : Fr → Res AV) : Fr → SRes := fun fr => (f fr).toS fun a fr1 => .nx (fr1.setv i (some a))
@[simp] def sNx : Fr → SRes := fun fr => .nx fr
@[simp] def sCt : Fr → SRes := fun fr => .ct fr
@[simp] def sSeq (f g : Fr → SRes) : Fr → SRes := fun fr => (f fr).then g
@[simp] def sIf (t : Fr → Res Bool) (f g : Fr → SRes) : Fr → SRes := fun fr => (t fr).toS fun b fr1 => if b = true then f fr1 else g fr1
/-- slots are forgotten first -/
@[simp] def sKill (is : List Nat) (f : Fr → SRes) : Fr → SRes := fun fr => f (fr.kill is)
/-- a cell of one's own is given up first (k: how many were handed in) -/
def sFrz (i : Nat) (f : Fr → SRes) : Fr → SRes := fun fr => match fr.vars[i]? with
  | some (some (.cel j)) => (match fr.frz j with
    | some fr1 => f fr1
    | none => .err)
  | _ => .err
/-- name = [..], to be written -/
def sNewL (i : Nat) (gs : Fr → Res (List AV)) : Fr → SRes := fun fr => (gs fr).toS fun as fr1 => match dats as with
  | some xs => .nx ((fr1.newc (.lst xs)).setv i (some (.cel fr1.cells.length)))
  | none => .err
@[simp] def sApp (i : Nat) (f : Fr → Res AV) : Fr → SRes := fun fr => match fr.vars[i]? with
  | some (some (.cel k)) => (match fr.cells[k]? with
    | some (.lst _) => (f fr).toS fun a fr1 => (match a, fr1.cells[k]? with
      | .dat y, some (.lst xs) => if xs.length < 1000000 then .nx (fr1.putc k (.lst (xs ++ [y]))) else .err
      | _, _ => .err)
    | _ => .err)
  | _ => .err
/-- name[..] = ..: the value first -/
@[simp] def sSetIx (i : Nat) (fi fv : Fr → Res AV) : Fr → SRes := fun fr => (fv fr).toS fun a fr1 => match fr1.vars[i]? with
  | some (some (.cel k)) => (fi fr1).toS fun b fr2 => (match a, b, fr2.cells[k]? with
    | .dat y, .dat (.int n), some (.lst xs) => (match ixN xs.length n with
      | some j => .nx (fr2.putc k (.lst (xs.set j y)))
      | none => .err)
    | _, _, _ => .err)
  | _ => .err

section
variable {α : Type} {p : Par} {x : XW} {c : Ent} {ad : List (Option Addr)} {σ : L2.St} {H : Hp} {r : Res α} {k : α → Fr → SRes} {D : Ends}
theorem SOut.of {fr : Fr} (F : FR p c fr ad σ H) (o : SOut p x c (r.toS k) D) : Out p x c ad σ H r fun a fr1 _ _ => SOut p x c (k a fr1) D := by
  cases r with
  | ok a fr' => exact fun ad' H' F' m => o
  | exc cl fs fr' => exact fun ad' H' C d F' m h => o ad' σ H' C d F' h
  | err => exact o
end

section
variable {X : Cx} {x : XW} {a b d : Expr} {f g h : Fr → Res AV} {pos : Pos} {st : Stmt} {s t u : Fr → SRes}
theorem as_ret (ha : AE X x a f) : AS X x (.Return (some a) pos) (sRet f) :=
  (ps_ret ha).imp fun D σ H ⟨c, fr, ad, F, o⟩ => ⟨c, fr, ad, F, (SOut.of F o).mono fun av fr1 ad1 H1 F1 m1 o1 v rv => o1 ad1 σ H1 v F1 rv⟩
theorem as_retN : AS X x (.Return none pos) sRetN :=
  ps_retN.imp fun D σ H ⟨c, fr, ad, F, o⟩ => o ad σ H _ F .non
theorem as_drop (ha : AE X x a f) (hs : swapsWith a none pos.line X.env = pure false := by rfl) : AS X x (.Expr a pos) (sDrop f) :=
  (ps_expr ha hs).imp fun D σ H ⟨c, fr, ad, F, o⟩ => ⟨c, fr, ad, F, (SOut.of F o).mono fun av fr1 ad1 H1 F1 m1 o1 v rv => o1 ad1 σ H1 F1⟩
theorem as_set {i : Nat} {n : Str} {p1 : Pos} (hN : X.N.Nodup) (hi : X.N[i]? = some n) (hx : Loc X.env.scope n) (ha : AE X x a f) (hs : swapsWith a (some (.Name n p1)) pos.line X.env = pure false := by rfl)
    (hf : X.fn n = true ∨ X.env.scope.names.lookup n = some .local := by first | exact .inl rfl | exact .inr rfl | assumption) : AS X x (.Assign [.Name n p1] a pos) (sSet i f) :=
  (ps_set hN hi hx ha hs hf).imp fun D σ H ⟨c, fr, ad, F, o⟩ => ⟨c, fr, ad, F, (SOut.of F o).mono fun av fr1 ad1 H1 F1 m1 o1 v rv => o1 ad1 _ H1 (F1.setv rv)⟩
theorem as_nil : ASs X x [] sNx := pss_nil.imp fun D σ H ⟨c, fr, ad, F, o⟩ => o ad σ H F
theorem as_pass : AS X x (.Pass pos) sNx := ps_pass.imp fun D σ H ⟨c, fr, ad, F, o⟩ => o ad σ H F
theorem as_cont : AS X x (.Continue pos) sCt := ps_continue.imp fun D σ H ⟨c, fr, ad, F, o⟩ => o ad σ H F
theorem SOut.seq {p : Par} {c : Ent} {fr : Fr} {D : Ends} (o : SOut p x c ((s fr).then t) D) : SOut p x c (s fr) { D with nx := tS p x t D } := by
  cases q : s fr with
  | nx fr1 => rw [q] at o; exact fun ad' σ' H' F => ⟨c, fr1, ad', F, o⟩
  | ret a fr1 => rw [q] at o; exact o
  | bk fr1 => rw [q] at o; exact o
  | ct fr1 => rw [q] at o; exact o
  | exc cl fs fr1 => rw [q] at o; exact o
  | err => rw [q] at o; exact o
theorem as_cons {rest : List Stmt} (h1 : AS X x st s) (h2 : ASs X x rest t) : ASs X x (st :: rest) (sSeq s t) :=
  (pss_cons h1 h2).imp fun D σ H ⟨c, fr, ad, F, o⟩ => ⟨c, fr, ad, F, SOut.seq o⟩
theorem as_one (h1 : AS X x st s) : ASs X x [st] s := pss_one h1
theorem as_if {tt : Fr → Res Bool} {as bs : List Stmt} (hc : AT X x a tt) (ha : ASs X x as s) (hb : ASs X x bs t) : AS X x (.If a as bs pos) (sIf tt s t) := by
  refine (ps_if hc ha hb).imp fun D σ H ⟨c, fr, ad, F, o⟩ => ⟨c, fr, ad, F, (SOut.of F o).mono fun k fr1 ad1 H1 F1 m1 o1 => ?_⟩
  cases k with
  | true => exact ⟨c, fr1, ad1, F1, o1⟩
  | false => exact ⟨c, fr1, ad1, F1, o1⟩
theorem as_kill (is : List Nat) (h1 : AS X x st s) : AS X x st (sKill is s) := h1.imp fun D σ H ⟨c, fr, ad, F, o⟩ => ⟨c, _, ad, F.kill is, o⟩
theorem ass_kill (is : List Nat) {ss : List Stmt} (h1 : ASs X x ss s) : ASs X x ss (sKill is s) := L2.PSs.imp h1 fun D σ H ⟨c, fr, ad, F, o⟩ => ⟨c, _, ad, F.kill is, o⟩
/-- k: the number of the cells handed in; it is seen by the slots' kinds at the entry, so it is asked here -/
def KAll (k : Nat) (s : Fr → SRes) : Fr → SRes := s
theorem as_newL {i : Nat} {n : Str} {p1 p2 : Pos} {es : List Expr} {gs : Fr → Res (List AV)} (hN : X.N.Nodup) (hi : X.N[i]? = some n) (hx : Loc X.env.scope n) (ha : AA X x es gs) (hl : es.length ≤ 1000 := by decide) (hn : ∀ fr as fr', gs fr = .ok as fr' → as.length = es.length)
    (hs : swapsWith (.List es p2) (some (.Name n p1)) pos.line X.env = pure false := by rfl) (hf : X.fn n = true ∨ X.env.scope.names.lookup n = some .local := by first | exact .inl rfl | exact .inr rfl | assumption) : AS X x (.Assign [.Name n p1] (.List es p2) pos) (sNewL i gs) := by
  refine (ps_set hN hi hx (pe_lst ha) hs hf).imp fun D σ H ⟨c, fr, ad, F, o⟩ => ⟨c, fr, ad, F, ?_⟩
  have o4 := SOut.of F o
  cases q : gs fr with
  | ok as fr1 =>
    rw [q] at o4
    intro ad1 H1 F1 m1 vs rvs
    have o5 := o4 ad1 H1 F1 m1
    have hlen := hn fr as fr1 q
    cases q2 : dats as with
    | none => simp only [q2] at o5; exact o5.elim
    | some xs =>
      simp only [q2] at o5
      have rl := dats_rep rvs q2
      have e1 : vs.length = as.length := Paired.length rvs
      have e2 := rl.length
      have z : vs.length ≤ sizeLine := by rw [sizeLine_eq]; omega
      refine ⟨z, fun p hp => ?_⟩
      have F2 := F1.newc (o := .lst vs) (cl := .lst xs) hp fun ok hok => ⟨vs, upd_same, by rw [← e2]; exact z, rl.keep ⟨fun b u h1 h2 => ⟨hok b u h1 h2, Grow.new hp b u h2⟩, (Grow.new hp).keep (ok := okP c ad1) |>.t⟩⟩
      exact o5 _ _ _ (F2.setv (a := .cel fr1.cells.length) ⟨p, rfl, by rw [F1.clen]; simp⟩)
  | exc cl fs fr1 => rw [q] at o4; exact o4
  | err => rw [q] at o4; exact o4
theorem cell_lst {p : Par} {c : Ent} {fr : Fr} {ad : List (Option Addr)} {σ : L2.St} {H : Hp} (F : FR p c fr ad σ H) {k : Nat} {l : Addr} {xs : List PyData} (e : ad[k]? = some (some l)) (q : fr.cells[k]? = some (.lst xs)) : ∃ vs, H l = some (.lst vs) ∧ xs.length ≤ sizeLine ∧ RepL p.K H (okP c ad) vs xs := by
  obtain ⟨cl, h1, h2⟩ := F.cel k l e
  rw [q] at h1; cases h1
  exact h2
/-- a list that is written: what else is said stands -/
theorem wr_t {H : Hp} {l : Addr} {vs : List V} {o : HO} (e : H l = some (.lst vs)) : ∀ b xs, Rd H b (.tup xs) → Rd (upd H l o) b (.tup xs) := fun b xs r => by
  have ne : b ≠ l := fun z => by
    subst z
    rcases r with r | ⟨_, r⟩ <;> (rw [e] at r; cases r)
  rcases r with r | ⟨u, r⟩
  · exact .inl (by rw [upd_ne ne]; exact r)
  · exact .inr ⟨u, by rw [upd_ne ne]; exact r⟩
theorem wr_k {c : Ent} {ad : List (Option Addr)} {H : Hp} {l : Addr} {vs : List V} {o : HO} (m : some l ∈ ad) (e : H l = some (.lst vs)) : Keep H (upd H l o) (okP c ad) (okP c ad) :=
  ⟨fun b u h hb => ⟨h, by rw [upd_ne fun z => h.2 (by rw [z]; exact m)]; exact hb⟩, wr_t e⟩
theorem as_app {i : Nat} {n : Str} {p1 p2 p3 : Pos} (hN : X.N[i]? = some n) (hv : Vis X.env.scope n) (ha : AE X x a f) (hd : (n == ("__debug__" : Str)) = false := by decide) (hcd : (n == ("__classdict__" : Str)) = false := by decide)
    (hst : starEach [a] X.env = (false, eval a X.env) :: starEach [] X.env := by rfl)
    (hfew : ((backTo p3 (starEach [a] X.env)).all (fun z => !z.1) && (backToKw p3 (keywordEach [] X.env)).all (fun z => z.1.isSome) && decide ([a].length + ([] : List Keyword).length + (if ([] : List Keyword).isEmpty then 0 else 1) < 30)) = true := by rfl)
    (hline : (p2.endLine == p3.line) = true := by rfl)
    (hs : swapsWith (.Call (.Attribute (.Name n p1) "append" p2) [a] [] p3) none pos.line X.env = pure false := by rfl) : AS X x (.Expr (.Call (.Attribute (.Name n p1) "append" p2) [a] [] p3) pos) (sApp i f) := by
  refine (ps_expr (pe_bm PySem.F.plainAttrs_list PySem.F.slot_list_append PySem.F.type_list_append mt_append (pe_var hN hv hd hcd) (pa_cons ha pa_nil hst) rfl hfew hline hst) hs).imp fun D σ H ⟨c, fr, ad, F, o⟩ => ?_
  unfold sApp at o
  cases q : fr.vars[i]? with
  | none => rw [q] at o; exact o.elim
  | some w =>
    rw [q] at o
    cases w with
    | none => exact o.elim
    | some av =>
      obtain ⟨v, h1, h2⟩ := F.var i av q
      cases av with
      | cel k =>
        obtain ⟨l, rfl, hl⟩ := h2
        obtain ⟨cl, hc, hcl⟩ := F.cel k l hl
        simp only [hc] at o
        cases cl with
        | dct tp kvs => exact o.elim
        | gone => exact o.elim
        | lst ds =>
          simp only at o
          obtain ⟨xs0, h0, _⟩ := hcl
          refine ⟨_, h1, .inl ⟨rfl, xs0, SqL.of h0⟩, c, fr, ad, F, ?_⟩
          refine (SOut.of F o).mono fun av fr1 ad1 H1 F1 m1 o1 w rw_ => ?_
          cases av with
          | dat y =>
            cases q2 : fr1.cells[k]? with
            | none => simp only [q2] at o1; exact o1.elim
            | some cl1 =>
              cases cl1 with
              | lst xs =>
                simp only [q2] at o1
                split at o1
                · rename_i hz
                  have e1 := m1.pre k _ hl
                  obtain ⟨vs, h3, hz3, h4⟩ := cell_lst F1 e1 q2
                  have e2 := h4.length
                  refine ⟨l, vs, w, rfl, rfl, h3, by rw [sizeLine_eq]; omega, ?_⟩
                  have m := List.mem_of_getElem? e1
                  exact o1 _ _ _ (F1.putc e1 (wr_t h3) ⟨_, upd_same, by rw [List.length_append]; exact sz6 (by simp; omega), RepL.append (h4.keep (wr_k m h3)) (.cons (Rep.keep (wr_k m h3) rw_) .nil)⟩)
                · exact o1.elim
              | _ => simp only [q2] at o1; exact o1.elim
          | _ => exact o1.elim
      | _ => exact o.elim
end
end G
/-! GH: what a def says, its proof by its body, its call. -/
namespace G
open PySem PySem.Spec PyProof.Rows L2

inductive CRes where
  | ok (r : AV) (cs : List Cell)
  | exc (c : Str) (fs : List (Str × PyData)) (cs : List Cell)
  | err
abbrev AFun := List AV → List Cell → CRes
def okF (H : Hp) (S : Addr → Prop) (W0 : List Addr) (a : Addr) : Prop := (H a = none ∨ S a) ∧ a ∉ W0
structure PostF (p : Par) (H : Hp) (S : Addr → Prop) (W0 : List Addr) (cs : List Cell) (H' : Hp) : Prop where
  keep : ∀ b o, H b = some o → b ∉ W0 → H' b = some o
  there : ∀ b, H b ≠ none → H' b ≠ none
  cel : ∀ (i : Nat) (a : Addr), W0[i]? = some a → ∃ cl, cs[i]? = some cl ∧ CellAt p H' (okF H S W0) a cl
abbrev ok0 (S : Addr → Prop) (W0 : List Addr) (a : Addr) : Prop := S a ∧ a ∉ W0
abbrev CExc := Str → List (Str × PyData) → Hp → Value → Option Addr → Prop
def spF (p : Par) (C : CExc) (m : AFun) (n : Nat) : Sp := fun vs H Q E => vs.length = n ∧ ∃ (S : Addr → Prop) (W0 : List Addr) (as : List AV) (cells : List Cell),
  RepAs p H (ok0 S W0) (W0.map some) vs as ∧ W0.Nodup ∧ cells.length = W0.length ∧ (∀ (i : Nat) (a : Addr), W0[i]? = some a → ∃ cl, cells[i]? = some cl ∧ CellAt p H (ok0 S W0) a cl) ∧
  match m as cells with
  | .ok r cs => ∀ v H', PostF p H S W0 cs H' → RepA p H' (okF H S W0) [] v r → Q v H'
  | .exc cl fs cs => ∀ Cv d H', PostF p H S W0 cs H' → C cl fs H' Cv d → E Cv d H'
  | .err => False

/-- what a body hands back -/
@[simp] def outv (k : Nat) (fr : Fr) : AV → Option AV
  | .dat y => some (.dat y)
  | .dct tp kvs => some (.dct tp kvs)
  | .cel i => if k ≤ i then (match fr.cells[i]? with
    | some cl => celv cl
    | none => none) else none
  | .scr _ => none
@[simp] def finish (k : Nat) : SRes → CRes
  | .nx f => .ok (.dat .none) (f.cells.take k)
  | .ret a f => match outv k f a with
    | some r => .ok r (f.cells.take k)
    | none => .err
  | .exc c fs f => .exc c fs (f.cells.take k)
  | _ => .err
@[simp] def mkFun (N n : Nat) (b : Fr → SRes) : AFun := fun as cells => if as.length = n then finish cells.length (b ⟨as.map some ++ List.replicate (N - n) none, cells, cells.length⟩) else .err

section
variable {p : Par} {c : Ent} {fr : Fr} {ad : List (Option Addr)} {σ : L2.St} {H H' : Hp}
theorem take_at {α : Type} {l : List α} {k i : Nat} {y : α} (hk : i < k) (h : l[i]? = some y) : (l.take k)[i]? = some y := by
  rw [List.getElem?_take, if_pos hk]; exact h
theorem lt_of_at {α : Type} {l : List α} {i : Nat} {y : α} (h : l[i]? = some y) : i < l.length := by
  rcases Nat.lt_or_ge i l.length with q | q
  · exact q
  · rw [List.getElem?_eq_none q] at h; cases h
theorem okP_okF {S : Addr → Prop} {W0 : List Addr} (F : FR p ⟨H, S, W0, [], []⟩ fr ad σ H') : ∀ a, okP ⟨H, S, W0, [], []⟩ ad a → okF H S W0 a := fun a h => ⟨h.1.1, fun m => by
  obtain ⟨i, e⟩ := mem_at m
  exact h.2 (List.mem_of_getElem? (F.sub i a e))⟩
theorem FR.post {S : Addr → Prop} {W0 : List Addr} (F : FR p ⟨H, S, W0, [], []⟩ fr ad σ H') : PostF p H S W0 (fr.cells.take W0.length) H' where
  keep := fun b o e n => F.old b o e n
  there := fun b h => by
    by_cases hb : b ∈ W0
    · obtain ⟨i, e⟩ := mem_at hb
      obtain ⟨o, q, _⟩ := F.track (List.mem_of_getElem? (F.sub i b e))
      rw [q]; simp
    · cases q : H b with
      | none => exact absurd q h
      | some o => rw [F.old b o q hb]; simp
  cel := fun i a e => by
    obtain ⟨cl, h1, h2⟩ := F.cel i a (F.sub i a e)
    refine ⟨cl, take_at (lt_of_at e) h1, ?_⟩
    cases cl with
    | lst ds =>
      obtain ⟨xs, h3, hz, h4⟩ := h2
      exact ⟨xs, h3, hz, h4.mono (okP_okF F)⟩
    | dct tp kvs => exact DctAt.mono (okP_okF F) h2
    | gone => exact h2
theorem FR.out {S : Addr → Prop} {W0 : List Addr} (F : FR p ⟨H, S, W0, [], []⟩ fr ad σ H') {v : V} {a r : AV} (h : RepA p H' (okP ⟨H, S, W0, [], []⟩ ad) ad v a) (e : outv W0.length fr a = some r) : RepA p H' (okF H S W0) [] v r := by
  cases a with
  | dat y => cases e; exact Rep.mono (okP_okF F) h
  | dct tp kvs =>
    cases e
    obtain ⟨b, e, h1, h2⟩ := h
    exact ⟨b, e, okP_okF F b h1, h2.mono (okP_okF F)⟩
  | scr ns => cases e
  | cel i =>
    unfold outv at e
    simp only at e
    split at e
    · rename_i hk
      obtain ⟨b, rfl, hb⟩ := h
      obtain ⟨cl, h1, h2⟩ := F.cel i b hb
      rw [h1] at e
      have okb : okF H S W0 b := by
        have n : b ∉ W0 := fun m => by
          obtain ⟨j, e2⟩ := mem_at m
          have := F.nd j i b (F.sub j b e2) hb
          have := lt_of_at e2
          omega
        refine ⟨.inl ?_, n⟩
        rcases F.adw b (List.mem_of_getElem? hb) with z | z
        · exact absurd z n
        · exact z
      cases cl with
      | lst ds =>
        cases e
        obtain ⟨xs, h3, hz, h4⟩ := h2
        exact .lst okb h3 hz (h4.mono (okP_okF F))
      | dct tp kvs => cases e; exact ⟨b, rfl, okb, h2.mono (okP_okF F)⟩
      | gone => cases e
    · cases e
end

/-- THE RULE of a def -/
theorem fn_g {P : Program} {w : World} {K : PySem.W.Frag} {mg : Str → Option Value} {base : Heap} {CX : CXT} {n qual : Str} {params : Arguments} {body : List Stmt} {scope : Scope} {dvs : List V} {kws : List (Str × V)} {f : Addr} {fd : FuncData} {N ps : List Str} {k : Nat} {C : CExc} {b : Fr → SRes}
    (F : FunD K n qual params body scope dvs kws f fd) (S : FnScope N ps scope)
    (hb : ∀ (cdv : Value) (A : Around) (outer : List Env) (s : Shared) (H : Hp) (E : XK), Room k (A.deeper (envOfC qual scope s.heap.objs.size f cdv)) →
      ASs (cxOf CX P w K mg base N qual scope f cdv A outer s H E) ⟨fun cl d _ H' => E cl d H', C⟩ body b) :
    FnOk P w K mg base CX (k + 1) f fd ps (spF ⟨P, w, K⟩ C (mkFun N.length ps.length b) ps.length) := by
  refine F.ok S (fun vs H Q E h => h.1) fun cdv A outer s H vs Q E hr hsp => ⟨_, hb cdv A outer s H E hr, ?_⟩
  obtain ⟨hlen, S0, W0, as, cells, ra, nd, cl, hc, hm⟩ := hsp
  have e1 : vs.length = as.length := Paired.length ra
  unfold mkFun at hm
  rw [if_pos (by omega)] at hm
  have mono : ∀ a, ok0 S0 W0 a → okP ⟨H, S0, W0, [], []⟩ (W0.map some) a := fun a h => ⟨⟨.inr h.1, fun z => nomatch z⟩, fun m => by
    obtain ⟨y, hy, e⟩ := List.mem_map.mp m
    cases e; exact h.2 hy⟩
  refine ⟨⟨H, S0, W0, [], []⟩, ⟨as.map some ++ List.replicate (N.length - ps.length) none, cells, cells.length⟩, W0.map some, ⟨?_, fun i av e => ?_, by simp [cl], fun i a e => ?_, fun i j a h1 h2 => ?_, fun b o e _ => e, fun i a e => by rw [List.getElem?_map, e]; rfl, fun a h => ?_, (fun q hq => nomatch hq), (fun q hq => nomatch hq), cl⟩, ?_⟩
  · simp only [L2.start, List.length_append, List.length_map, List.length_replicate]
    omega
  · have hi : i < as.length := by
      rcases Nat.lt_or_ge i as.length with q | q
      · exact q
      · rw [List.getElem?_append_right (by simpa using q)] at e
        rw [List.getElem?_replicate] at e
        split at e <;> cases e
    rw [List.getElem?_append_left (by simpa using hi), List.getElem?_map] at e
    have e' : as[i]? = some av := by
      cases q : as[i]? with
      | none => rw [q] at e; cases e
      | some y => rw [q] at e; cases e; rfl
    have get : ∀ {vs : List V} {as : List AV} {i : Nat} {av : AV}, RepAs ⟨P, w, K⟩ H (ok0 S0 W0) (W0.map some) vs as → as[i]? = some av → ∃ v, vs[i]? = some v ∧ RepA ⟨P, w, K⟩ H (ok0 S0 W0) (W0.map some) v av := by
      intro vs as i av h
      induction h generalizing i with
      | nil => intro e; simp at e
      | cons r _ ih =>
        intro e
        cases i with
        | zero => simp at e; subst e; exact ⟨_, rfl, r⟩
        | succ j =>
          obtain ⟨v, q1, q2⟩ := ih (i := j) (by simpa using e)
          exact ⟨v, by simpa using q1, q2⟩
    obtain ⟨v, h1, h2⟩ := get ra e'
    refine ⟨v, ?_, ?_⟩
    · show (vs.map some ++ List.replicate (N.length - vs.length) none)[i]? = _
      rw [List.getElem?_append_left (by simp; omega), List.getElem?_map, h1]; rfl
    · cases av with
      | dat y => exact Rep.mono mono h2
      | dct tp kvs =>
        obtain ⟨b, q1, q2, q3⟩ := h2
        exact ⟨b, q1, mono b q2, q3.mono mono⟩
      | cel j => exact h2
      | scr ns => exact h2
  · rw [List.getElem?_map] at e
    cases q : W0[i]? with
    | none => rw [q] at e; cases e
    | some y =>
      rw [q] at e
      cases e
      obtain ⟨cl', h1, h2⟩ := hc i a q
      refine ⟨cl', h1, ?_⟩
      cases cl' with
      | lst ds =>
        obtain ⟨xs, h3, hz, h4⟩ := h2
        exact ⟨xs, h3, hz, h4.mono mono⟩
      | dct tp kvs => exact DctAt.mono mono h2
      | gone => exact h2
  · rw [List.getElem?_map] at h1 h2
    cases q1 : W0[i]? with
    | none => rw [q1] at h1; cases h1
    | some y =>
      cases q2 : W0[j]? with
      | none => rw [q2] at h2; cases h2
      | some z =>
        rw [q1] at h1; rw [q2] at h2
        cases h1; cases h2
        exact (List.getElem?_inj (lt_of_at q1) nd).mp (q1.trans q2.symm)
  · obtain ⟨y, hy, e⟩ := List.mem_map.mp h
    cases e
    exact .inl hy
  · cases q : b ⟨as.map some ++ List.replicate (N.length - ps.length) none, cells, cells.length⟩ with
    | nx fr1 =>
      rw [q] at hm
      intro ad' σ' H' F1
      have hm' : ∀ v H', PostF ⟨P, w, K⟩ H S0 W0 (fr1.cells.take cells.length) H' → RepA ⟨P, w, K⟩ H' (okF H S0 W0) [] v (.dat .none) → Q v H' := hm
      rw [cl] at hm'
      exact hm' _ H' F1.post .non
    | ret a fr1 =>
      rw [q] at hm
      intro ad' σ' H' v F1 rv
      unfold finish at hm
      simp only at hm
      rw [cl] at hm
      cases q2 : outv W0.length fr1 a with
      | none => rw [q2] at hm; exact hm.elim
      | some r =>
        rw [q2] at hm
        exact hm v H' F1.post (F1.out rv q2)
    | bk fr1 => rw [q] at hm; exact hm.elim
    | ct fr1 => rw [q] at hm; exact hm.elim
    | exc cl' fs fr1 =>
      rw [q] at hm
      intro ad' σ' H' Cv d F1 hx
      have hm' : ∀ Cv d H', PostF ⟨P, w, K⟩ H S0 W0 (fr1.cells.take cells.length) H' → C cl' fs H' Cv d → E Cv d H' := hm
      rw [cl] at hm'
      exact hm' Cv d H' F1.post hx
    | err => rw [q] at hm; exact hm.elim
end G
/-! GI: calls of defs. -/
namespace G
open PySem PySem.Spec PyProof.Rows L2

@[simp] def celsOf : List AV → List Nat
  | [] => []
  | .cel i :: r => i :: celsOf r
  | _ :: r => celsOf r
/-- the arguments as the callee has them: its cells in the order of the arguments -/
@[simp] def relab : Nat → List AV → List AV
  | _, [] => []
  | n, .cel _ :: r => .cel n :: relab (n + 1) r
  | n, a :: r => a :: relab n r
@[simp] def noScr : List AV → Bool
  | [] => true
  | .scr _ :: _ => false
  | _ :: r => noScr r
@[simp] def getAll (cs : List Cell) : List Nat → Option (List Cell)
  | [] => some []
  | i :: is => match cs[i]?, getAll cs is with
    | some .gone, _ => none
    | some cl, some r => some (cl :: r)
    | _, _ => none
@[simp] def putAll (cs : List Cell) : List Nat → List Cell → List Cell
  | i :: is, cl :: r => (putAll cs is r).set i cl
  | _, _ => cs
@[simp] def callM (m : AFun) (as : List AV) : Fr → Res AV := fun fr => if (decide (celsOf as).Nodup && noScr as) = true then (match getAll fr.cells (celsOf as) with
  | some cs => (match m (relab 0 as) cs with
    | .ok r cs' => .ok r ⟨fr.vars, putAll fr.cells (celsOf as) cs', fr.base⟩
    | .exc c fs cs' => .exc c fs ⟨fr.vars, putAll fr.cells (celsOf as) cs', fr.base⟩
    | .err => .err)
  | none => .err) else .err
@[simp] def xCall (m : AFun) (gs : Fr → Res (List AV)) : Fr → Res AV := fun fr => (gs fr).bind fun as fr1 => callM m as fr1

def celAds : List V → List AV → List Addr
  | .ref a :: vs, .cel _ :: as => a :: celAds vs as
  | _ :: vs, _ :: as => celAds vs as
  | _, _ => []
section
variable {p : Par} {c : Ent} {fr : Fr} {ad : List (Option Addr)} {σ : L2.St} {H H' : Hp}
theorem celAds_at {ok : Addr → Prop} : ∀ {vs : List V} {as : List AV}, RepAs p H ok ad vs as → (celAds vs as).length = (celsOf as).length ∧ ∀ (j i : Nat), (celsOf as)[j]? = some i → ∃ a, (celAds vs as)[j]? = some a ∧ ad[i]? = some (some a)
  | _, _, .nil => ⟨rfl, fun j i e => by simp [celsOf] at e⟩
  | v :: vs, .cel k :: as, .cons ⟨a, e, h⟩ rs => by
    subst e
    obtain ⟨h1, h2⟩ := celAds_at rs
    refine ⟨by simp [celAds, celsOf, h1], fun j i e => ?_⟩
    cases j with
    | zero => simp [celsOf] at e; subst e; exact ⟨a, rfl, h⟩
    | succ j => exact h2 j i (by simpa [celsOf] using e)
  | v :: vs, .dat y :: as, .cons r rs => by
    have z := celAds_at rs
    cases v <;> exact z
  | v :: vs, .dct tp kvs :: as, .cons r rs => by
    have z := celAds_at rs
    cases v <;> exact z
  | v :: vs, .scr ns :: as, .cons r rs => by
    have z := celAds_at rs
    cases v <;> exact z
theorem relab_rep {ok ok' : Addr → Prop} {W : List Addr} (mono : ∀ a, ok a → ok' a) : ∀ {vs : List V} {as : List AV} {n : Nat}, RepAs p H ok ad vs as → noScr as = true → (∀ (j : Nat) (a : Addr), (celAds vs as)[j]? = some a → W[n + j]? = some a) → RepAs p H ok' (W.map some) vs (relab n as)
  | _, _, _, .nil, _, _ => .nil
  | v :: vs, .cel k :: as, n, .cons ⟨a, e, h⟩ rs, hs, hw => by
    subst e
    refine .cons ⟨a, rfl, by rw [List.getElem?_map, show W[n]? = some a from hw 0 a rfl]; rfl⟩ (relab_rep mono rs hs fun j b e => ?_)
    have := hw (j + 1) b (by simpa [celAds] using e)
    rw [show n + 1 + j = n + (j + 1) by omega]
    exact this
  | v :: vs, .dat y :: as, n, .cons r rs, hs, hw => .cons (Rep.mono mono r) (relab_rep mono rs hs fun j b e => hw j b (by cases v <;> exact e))
  | v :: vs, .dct tp kvs :: as, n, .cons ⟨b, e, h1, h2⟩ rs, hs, hw => .cons ⟨b, e, mono b h1, h2.mono mono⟩ (relab_rep mono rs hs fun j b2 e2 => hw j b2 (by subst e; exact e2))
  | v :: vs, .scr ns :: as, n, .cons r rs, hs, hw => by cases hs
theorem getAll_at {cs : List Cell} : ∀ {is : List Nat} {r : List Cell}, getAll cs is = some r → r.length = is.length ∧ ∀ (j i : Nat), is[j]? = some i → ∃ cl, cs[i]? = some cl ∧ r[j]? = some cl
  | [], r, e => by cases e; exact ⟨rfl, fun j i h => by simp at h⟩
  | i :: is, r, e => by
    unfold getAll at e
    cases q1 : cs[i]? with
    | none => rw [q1] at e; cases e
    | some cl =>
      cases q2 : getAll cs is with
      | none => rw [q1, q2] at e; cases cl <;> cases e
      | some r' =>
        rw [q1, q2] at e
        obtain ⟨h1, h2⟩ := getAll_at q2
        have fin : r = cl :: r' := by cases cl <;> first | (cases e; rfl) | cases e
        subst fin
        refine ⟨by simp [h1], fun j k h => ?_⟩
        cases j with
        | zero => simp at h; subst h; exact ⟨cl, q1, rfl⟩
        | succ j => exact h2 j k (by simpa using h)
theorem putAll_len {cs : List Cell} : ∀ {is : List Nat} {r : List Cell}, (putAll cs is r).length = cs.length
  | [], _ => rfl
  | _ :: _, [] => rfl
  | i :: is, cl :: r => by rw [putAll, List.length_set, putAll_len]
theorem putAll_out {cs : List Cell} {k : Nat} : ∀ {is : List Nat} {r : List Cell}, k ∉ is → (putAll cs is r)[k]? = cs[k]?
  | [], _, _ => rfl
  | _ :: _, [], _ => rfl
  | i :: is, cl :: r, h => by
    rw [putAll, List.getElem?_set_ne (by intro e; exact h (by simp [e]))]
    exact putAll_out fun m => h (List.mem_cons_of_mem _ m)
theorem putAll_in {cs : List Cell} : ∀ {is : List Nat} {r : List Cell} {j i : Nat} {cl : Cell}, is.Nodup → is[j]? = some i → r[j]? = some cl → i < cs.length → (putAll cs is r)[i]? = some cl
  | [], _, _, _, _, _, h, _, _ => by simp at h
  | _ :: _, [], _, _, _, _, _, h, _ => by simp at h
  | k :: is, cl' :: r, j, i, cl, nd, h1, h2, hl => by
    cases j with
    | zero =>
      simp at h1 h2
      subst h1 h2
      rw [putAll, List.getElem?_set_self (by rw [putAll_len]; exact hl)]
    | succ j =>
      have h1' : is[j]? = some i := by simpa using h1
      have ne : k ≠ i := fun e => (List.nodup_cons.mp nd).1 (by rw [e]; exact List.mem_of_getElem? h1')
      rw [putAll, List.getElem?_set_ne ne]
      exact putAll_in (List.nodup_cons.mp nd).2 h1' (by simpa using h2) hl

/-- behind a call -/
theorem call_end {S : Addr → Prop} {W : List Addr} {ids : List Nat} {cs' : List Cell} (F : FR p c fr ad σ H) (nd : ids.Nodup) (hW : ∀ (j i : Nat), ids[j]? = some i → ∃ a, W[j]? = some a ∧ ad[i]? = some (some a)) (hl : W.length = ids.length)
    (hS : ∀ a, S a → a ∉ W → okP c ad a) (P : PostF p H S W cs' H') : FR p c ⟨fr.vars, putAll fr.cells ids cs', fr.base⟩ ad σ H' ∧ Mv H ad H' ad ∧ ∀ a, okF H S W a → okP c ad a := by
  have wad : ∀ a, a ∈ W → ∃ j i, ids[j]? = some i ∧ W[j]? = some a ∧ ad[i]? = some (some a) := fun a m => by
    obtain ⟨j, e⟩ := mem_at m
    have hj : j < ids.length := by rw [← hl]; exact lt_of_at e
    obtain ⟨b, h1, h2⟩ := hW j ids[j] (by rw [List.getElem?_eq_getElem hj])
    rw [e] at h1; cases h1
    exact ⟨j, ids[j], by rw [List.getElem?_eq_getElem hj], e, h2⟩
  have m : Mv H ad H' ad := ⟨fun b o e n => P.keep b o e fun hm => by
    obtain ⟨j, i, _, _, h⟩ := wad b hm
    exact n (List.mem_of_getElem? h), fun _ _ e => e, fun _ h => .inl h, P.there⟩
  have okk : ∀ a, okF H S W a → okP c ad a := fun a ⟨h1, h2⟩ => by
    rcases h1 with h1 | h1
    · exact okP_new F h1
    · exact hS a h1 h2
  refine ⟨⟨F.len, fun i av e => ?_, by rw [putAll_len]; exact F.clen, fun i a e => ?_, F.nd, fun b o e n => ?_, F.sub, F.adw, fun q hq => ⟨(F.gh q hq).1, RepA.mv F m (F.gh q hq).2⟩, m.prs F, F.bs⟩, m, okk⟩
  · obtain ⟨v, h1, h2⟩ := F.var i av e
    exact ⟨v, h1, RepA.mv F m h2⟩
  · by_cases hm : i ∈ ids
    · obtain ⟨j, hj⟩ := mem_at hm
      obtain ⟨b, h1, h2⟩ := hW j i hj
      rw [e] at h2; cases h2
      obtain ⟨cl, h3, h4⟩ := P.cel j a h1
      refine ⟨cl, putAll_in nd hj h3 (by rw [F.clen]; exact lt_of_at e), ?_⟩
      cases cl with
      | lst ds =>
        obtain ⟨xs, q1, q2, q3⟩ := h4
        exact ⟨xs, q1, q2, q3.mono okk⟩
      | dct tp kvs => exact DctAt.mono okk h4
      | gone => exact h4
    · obtain ⟨cl, h1, h2⟩ := F.cel i a e
      have na : a ∉ W := fun hw => by
        obtain ⟨j, k, h3, _, h4⟩ := wad a hw
        have := F.nd k i a h4 e
        subst this
        exact hm (List.mem_of_getElem? h3)
      refine ⟨cl, by rw [putAll_out hm]; exact h1, ?_⟩
      have kp : ∀ o, H a = some o → H' a = some o := fun o z => P.keep a o z na
      cases cl with
      | lst ds =>
        obtain ⟨xs, q1, q2, q3⟩ := h2
        exact ⟨xs, kp _ q1, q2, q3.keep (m.kp F)⟩
      | dct tp kvs => exact DctAt.keep (m.kp F) kp h2
      | gone => exact h2
  · refine P.keep b o (F.old b o e n) fun hw => ?_
    obtain ⟨j, k, _, _, h4⟩ := wad b hw
    rcases F.adw b (List.mem_of_getElem? h4) with z | z
    · exact n z
    · rw [z] at e; cases e
end

section
variable {X : Cx} {x : XW} {a : Expr} {f g h : Fr → Res AV} {pos : Pos}
theorem tE_call {m : AFun} {n : Nat} {gs : Fr → Res (List AV)} {σ : L2.St} {H : Hp} {Q : VK} (hn : ∀ fr as fr', gs fr = .ok as fr' → as.length = n) (h : tE (pX X) x (xCall m gs) σ H Q) : tA (pX X) x gs σ H fun vs H1 => spF (pX X) x.C m n vs H1 Q fun C d H' => x.W C d σ H' := by
  obtain ⟨c, fr, ad, F, o⟩ := h
  refine ⟨c, fr, ad, F, ?_⟩
  have o2 := Out.bind F o
  cases qg : gs fr with
  | exc cl fs fr1 => rw [qg] at o2; exact o2
  | err => rw [qg] at o2; exact o2
  | ok as fr1 =>
    rw [qg] at o2
    intro ad1 H1 F1 m1 vs rvs
    have o1 : Out (pX X) x c ad1 σ H1 (callM m as fr1) _ := o2 ad1 H1 F1 m1
    refine ⟨by rw [Paired.length rvs]; exact hn fr as fr1 qg, ?_⟩
    unfold callM at o1
    split at o1
    rotate_left
    · exact o1.elim
    rename_i hcond
    obtain ⟨hnd, hsc⟩ := Bool.and_eq_true_iff.mp hcond
    have nd := of_decide_eq_true hnd
    cases q1 : getAll fr1.cells (celsOf as) with
    | none => rw [q1] at o1; exact o1.elim
    | some cs =>
      rw [q1] at o1
      simp only at o1
      obtain ⟨lW, hW⟩ := celAds_at rvs
      obtain ⟨lc, hcs⟩ := getAll_at q1
      have inW : ∀ b, b ∈ celAds vs as → some b ∈ ad1 := fun b hb => by
        obtain ⟨j, e⟩ := mem_at hb
        have hj : j < (celsOf as).length := by rw [← lW]; exact lt_of_at e
        obtain ⟨b', h1, h2⟩ := hW j (celsOf as)[j] (by rw [List.getElem?_eq_getElem hj])
        rw [e] at h1; cases h1
        exact List.mem_of_getElem? h2
      have mono : ∀ b, okP c ad1 b → ok0 (okP c ad1) (celAds vs as) b := fun b hb => ⟨hb, fun z => hb.2 (inW b z)⟩
      have hS : ∀ b, okP c ad1 b → b ∉ celAds vs as → okP c ad1 b := fun b hb _ => hb
      have ndW : (celAds vs as).Nodup := by
        unfold List.Nodup
        rw [List.pairwise_iff_getElem]
        intro j k hj hk hjk e
        have hk' : k < (celsOf as).length := by rw [← lW]; exact hk
        have hj' : j < (celsOf as).length := by omega
        obtain ⟨b1, h1, h2⟩ := hW j (celsOf as)[j] (by rw [List.getElem?_eq_getElem hj'])
        obtain ⟨b2, h3, h4⟩ := hW k (celsOf as)[k] (by rw [List.getElem?_eq_getElem hk'])
        rw [List.getElem?_eq_getElem hj] at h1
        rw [List.getElem?_eq_getElem hk] at h3
        have eb : b1 = b2 := by rw [← Option.some.inj h1, ← Option.some.inj h3]; exact e
        subst eb
        have := F1.nd _ _ _ h2 h4
        have := (List.getElem_inj nd).mp this
        omega
      refine ⟨okP c ad1, celAds vs as, relab 0 as, cs, relab_rep mono rvs hsc fun j b e => by rw [Nat.zero_add]; exact e, ndW, by rw [lc, lW], fun i b e => ?_, ?_⟩
      · have hi : i < (celsOf as).length := by rw [← lW]; exact lt_of_at e
        obtain ⟨b', h1, h2⟩ := hW i (celsOf as)[i] (by rw [List.getElem?_eq_getElem hi])
        rw [e] at h1; cases h1
        obtain ⟨cl, h3, h4⟩ := hcs i (celsOf as)[i] (by rw [List.getElem?_eq_getElem hi])
        obtain ⟨cl', h5, h6⟩ := F1.cel _ b h2
        rw [h3] at h5; cases h5
        refine ⟨cl, h4, ?_⟩
        cases cl with
        | lst ds =>
          obtain ⟨xs, z1, z2, z3⟩ := h6
          exact ⟨xs, z1, z2, z3.mono mono⟩
        | dct tp kvs => exact DctAt.mono mono h6
        | gone => exact h6
      · cases q2 : m (relab 0 as) cs with
        | ok r cs' =>
          rw [q2] at o1
          intro v H2 P rv
          obtain ⟨F2, m2, okk⟩ := call_end F1 nd hW lW hS P
          refine o1 ad1 H2 F2 m2 v ?_
          cases r with
          | dat y => exact Rep.mono okk rv
          | dct tp kvs =>
            obtain ⟨b, z1, z2, z3⟩ := rv
            exact ⟨b, z1, okk b z2, z3.mono okk⟩
          | cel i => obtain ⟨b, _, z⟩ := rv; simp at z
          | scr ns => exact rv
        | exc cl fs cs' =>
          rw [q2] at o1
          intro Cv d H2 P hx
          obtain ⟨F2, m2, okk⟩ := call_end F1 nd hW lW hS P
          exact o1 ad1 H2 Cv d F2 m2 hx
        | err => rw [q2] at o1; exact o1.elim
/-- a call of a def: facts about it -/
structure DefF (P : Program) (w : World) (K : PySem.W.Frag) (mg : Str → Option Value) (base : Heap) (CX : CXT) (C : CExc) (k : Nat) (n : Str) (np : Nat) (m : AFun) : Prop where
  ex : ∃ (f : Addr) (fd : FuncData) (ps : List Str), FnOk P w K mg base CX k f fd ps (spF ⟨P, w, K⟩ C m np) ∧ mg n = some (.ref f) ∧ PySem.W.keepIn K (.ref f) = true ∧ Binds K fd ps []
theorem ae_call {CX : CXT} {k j : Nat} {n : Str} {m : AFun} {es : List Expr} {gs : Fr → Res (List AV)} {p1 : Pos} {np : Nat} (D : DefF X.prog X.w X.K X.mg X.base CX x.C k n np m) (hr : Room j X.A) (hk : k ≤ j) (hx : ∀ σ, PassesAt CX X σ fun C d H' => x.W C d σ H') (hg : Gl X n) (ha : AA X x (a :: es) gs) (hn : ∀ fr as fr', gs fr = .ok as fr' → as.length = np)
    (hdb : (n == ("__debug__" : Str)) = false := by decide) (he : starEach (a :: es) X.env = (false, eval a X.env) :: starEach es X.env := by rfl) (hpl : (backTo pos (starEach es X.env)).any (·.1) = false := by rfl) :
    AE X x (.Call (.Name n p1) (a :: es) [] pos) (xCall m gs) := by
  obtain ⟨f, fd, ps, F, hm, kp, b⟩ := D.ex
  refine (pe_callSD F (hr.mono hk) hg hm kp b .nil (E := fun σ C d H' => x.W C d σ H') hx ha hdb he hpl).imp fun σ H Q h => ?_
  have z := tE_call hn h
  unfold tCallSD
  simpa only [List.append_nil] using z
theorem pass_0 {W : WX} : ∀ σ, PassesAt CX0 X σ fun C d H' => W C d σ H' := fun _ _ _ _ _ _ _ z => z.elim
end
end G
/-! GJ: targets, what is walked, for, while. -/
namespace G
open PySem PySem.Spec PyProof.Rows L2

/-! ### targets -/
abbrev Tg := PyData → Fr → Option Fr
@[simp] def tName (i : Nat) : Tg := fun y fr => some (fr.setv i (some (.dat y)))
@[simp] def setAll : List Nat → List PyData → Fr → Option Fr
  | [], [], fr => some fr
  | i :: is, y :: ys, fr => setAll is ys (fr.setv i (some (.dat y)))
  | _, _, _ => none
@[simp] def tNames (is : List Nat) : Tg := fun y fr => match y with
  | .tuple ys => setAll is ys fr
  | _ => none
/-- the slots that a target writes -/
def OnlyAt (is : List Nat) (σ σ' : L2.St) : Prop := ∀ vs : List Nat, (∀ i ∈ is, i ∈ vs) → wipe σ' vs = wipe σ vs
def tG (p : Par) (is : List Nat) (g : Tg) : TG := fun v σ H Q => ∃ c fr ad y fr', FR p c fr ad σ H ∧ Rep p.K H (okP c ad) v y ∧ g y fr = some fr' ∧ ∀ σ', FR p c fr' ad σ' H → OnlyAt is σ σ' → Q σ' H
abbrev AG (X : Cx) (tg : Expr) (is : List Nat) (g : Tg) : Prop := PG X tg (tG (pX X) is g)
theorem _root_.L2.PG.imp {X : Cx} {e : Expr} {t t' : TG} (h : PG X e t) (hi : ∀ v σ H Q, t' v σ H Q → t v σ H Q) : PG X e t' := ⟨fun pins s σ H v u Q I r q => h.run pins s σ H v u Q I r (hi v σ H Q q)⟩
theorem wipe_set {σ : L2.St} {i : Nat} {x : Option V} : ∀ {vs : List Nat}, i ∈ vs → wipe (σ.set i x) vs = wipe σ vs
  | [], h => by simp at h
  | v :: vs, h => by
    unfold wipe
    by_cases hv : i ∈ vs
    · rw [wipe_set hv]
    · have e : i = v := by
        rcases List.mem_cons.mp h with e | e
        · exact e
        · exact absurd e hv
      subst e
      have step : ∀ {vs : List Nat}, i ∉ vs → wipe (σ.set i x) vs = (wipe σ vs).set i x := by
        intro vs
        induction vs with
        | nil => intro _; rfl
        | cons w ws ih =>
          intro hn
          simp only [List.mem_cons, not_or] at hn
          unfold wipe
          rw [ih hn.2, List.set_comm _ _ (Ne.symm hn.1)]
      rw [step hv, List.set_set]
theorem OnlyAt.set {σ : L2.St} {i : Nat} {x : Option V} {is : List Nat} (h : i ∈ is) : OnlyAt is σ (σ.set i x) := fun vs hv => wipe_set (hv i h)
section
variable {X : Cx} {pos : Pos}
theorem ag_name {i : Nat} {n : Str} (hN : X.N.Nodup) (hi : X.N[i]? = some n) (hx : Loc X.env.scope n) (hf : X.fn n = true ∨ X.env.scope.names.lookup n = some .local := by first | exact .inl rfl | exact .inr rfl | assumption) : AG X (.Name n pos) [i] (tName i) :=
  (pg_name hN hi hx hf).imp fun v σ H Q ⟨c, fr, ad, y, fr', F, r, e, q⟩ => by
    cases e
    exact q _ (F.setv (a := .dat y) r) (OnlyAt.set (by simp))
/-- several names, one after another -/
def tGs (p : Par) (is : List Nat) : TGs := fun vs σ H Q => ∃ c fr ad ys fr', FR p c fr ad σ H ∧ RepL p.K H (okP c ad) vs ys ∧ setAll is ys fr = some fr' ∧ ∀ σ', FR p c fr' ad σ' H → OnlyAt is σ σ' → Q σ' H
theorem _root_.L2.PGs.imp {X : Cx} {e : List Expr} {t t' : TGs} (h : PGs X e t) (hi : ∀ v σ H Q, t' v σ H Q → t v σ H Q) : PGs X e t' := ⟨fun pins s σ H v u Q I r q => h.run pins s σ H v u Q I r (hi v σ H Q q)⟩
theorem ags_nil : PGs X [] (tGs (pX X) []) := (pgs_nil).imp fun vs σ H Q ⟨c, fr, ad, ys, fr', F, r, e, q⟩ => by
  cases r with
  | nil => cases e; exact ⟨rfl, q σ F fun _ _ => rfl⟩
  | cons => cases e
theorem ags_cons {n : Str} {p1 : Pos} {es : List Expr} {i : Nat} {is : List Nat} (hN : X.N.Nodup) (hi : X.N[i]? = some n) (hx : Loc X.env.scope n) (hr : PGs X es (tGs (pX X) is)) (hf : X.fn n = true ∨ X.env.scope.names.lookup n = some .local := by first | exact .inl rfl | exact .inr rfl | assumption)
    (hs : (assignEach (.Name n p1 :: es) X.env).map (·.2) = assign (.Name n p1) X.env :: (assignEach es X.env).map (·.2) := by rfl) : PGs X (.Name n p1 :: es) (tGs (pX X) (i :: is)) :=
  (pgs_cons (pg_name hN hi hx hf) hr hs).imp fun vs σ H Q ⟨c, fr, ad, ys, fr', F, r, e, q⟩ => by
    cases r with
    | nil => cases e
    | cons r rs =>
      refine ⟨_, _, rfl, c, _, ad, _, fr', F.setv (a := .dat _) r, rs, e, fun σ' F' oa => q σ' F' fun vs hv => ?_⟩
      rw [oa vs fun j hj => hv j (List.mem_cons_of_mem _ hj)]
      exact wipe_set (hv i (by simp))
theorem ag_tup {es : List Expr} {k : Nat} {is : List Nat} (hc : X.calm = true) (h : PGs X es (tGs (pX X) is)) (hl : is.length = es.length)
    (hn : (assignEach es X.env).length = es.length := by rfl) (hst : (assignEach es X.env).findIdx? (·.1) = none := by rfl) : AG X (.Tuple es k pos) is (tNames is) :=
  (pg_tup hc h hn hst).imp fun v σ H Q ⟨c, fr, ad, y, fr', F, r, e, q⟩ => by
    cases y with
    | tuple ys =>
      obtain ⟨a, xs, rfl, h1, _, h2⟩ := RepB.tuple (.inl r)
      refine ⟨a, xs, rfl, h1, ?_, c, fr, ad, ys, fr', F, h2, e, q⟩
      have len : ∀ {is : List Nat} {ys : List PyData} {fr fr' : Fr}, setAll is ys fr = some fr' → is.length = ys.length := by
        intro is
        induction is with
        | nil => intro ys fr fr' e; cases ys with
          | nil => rfl
          | cons => cases e
        | cons i is ih => intro ys fr fr' e; cases ys with
          | nil => cases e
          | cons y ys => rw [List.length_cons, List.length_cons, ih e]
      rw [h2.length, ← len e, hl]
    | _ => cases e
end

/-! ### what is walked -/
structure Wk (p : Par) (J : It) (qs : List (V × AV)) (items : List PyData) : Prop where
  go : ∀ (ok : Addr → Prop) (H : Hp) (i : Nat) (y : PyData), (∀ q ∈ qs, RepA p H ok [] q.1 q.2) → items[i]? = some y → J.go i H ∧ ∀ v H', J.yld i H v H' → Grow H H' ∧ Rep p.K H' ok v y
  stop : ∀ (ok : Addr → Prop) (H : Hp), (∀ q ∈ qs, RepA p H ok [] q.1 q.2) → J.stop items.length H
def tI (p : Par) (x : XW) (f : Fr → Res (List PyData)) : TI := fun σ H R => ∃ c fr ad, FR p c fr ad σ H ∧ Out p x c ad σ H (f fr) fun items _ ad' H' => ∀ J qs, (∀ q ∈ qs, isDat q.2 = true ∧ RepA p H' (okP c ad') ad' q.1 q.2) → Wk p J qs items → R J H'
abbrev AI (X : Cx) (x : XW) (tg e : Expr) (f : Fr → Res (List PyData)) : Prop := PI X tg e (tI (pX X) x f)
@[simp] def xItems (f : Fr → Res AV) : Fr → Res (List PyData) := fun fr => (f fr).bind fun a fr1 => match a with
  | .dat (.list ys) => .ok ys fr1
  | .dat (.tuple ys) => .ok ys fr1
  | _ => .err
section
variable {X : Cx} {x : XW} {tg e : Expr} {f : Fr → Res AV}
theorem it_tup {pins : List (Addr × Obj)} {σ : L2.St} {H : Hp} {s1 : Shared} {R : It → Hp → Prop} {a : Addr} {xs : List V} (I : Inv X pins σ H s1) (h : SqT X.K H a xs) (q : R (Itt X.K a) H) : wpAny (model X.prog X.w) X.A (pyIter (.ref a)) (PIE X pins σ tg R) X.xe s1 := by
  obtain ⟨its, rv, ht, _⟩ := I.tuple h
  have hn := I.hok.fresh (Nat.le_refl s1.heap.objs.size)
  refine wpAny_pyIter_tuple (show s1.heap.IsTuple a its.toArray from ht) ⟨s1.heap.objs.size, [s1.heap.objs.size], _, _, H, rfl, I.kept (t' := s1.toks) fun b o z => Heap.get?_push_of_some _ z, turn_tuple a _, ⟨_, Heap.get?_push_size _ rfl, rfl, rfl⟩, fun b hb => ?_, q⟩
  cases List.mem_singleton.mp hb
  exact I.fpOk (Nat.le_refl _) hn
theorem it_lst {pins : List (Addr × Obj)} {σ : L2.St} {H : Hp} {s1 : Shared} {R : It → Hp → Prop} {a : Addr} {xs : List V} (I : Inv X pins σ H s1) (h : SqL X.K H a xs) (q : R (Itl X.K a) H) : wpAny (model X.prog X.w) X.A (pyIter (.ref a)) (PIE X pins σ tg R) X.xe s1 := by
  obtain ⟨its, rv, hl, _⟩ := I.list h
  have hn := I.hok.fresh (Nat.le_refl s1.heap.objs.size)
  refine wpAny_pyIter_list hl.isList ⟨s1.heap.objs.size, [s1.heap.objs.size], _, _, H, rfl, I.kept (t' := s1.toks) fun b o z => Heap.get?_push_of_some _ z, turn_list a _, ⟨_, Heap.get?_push_size _ rfl, rfl, rfl⟩, fun b hb => ?_, q⟩
  cases List.mem_singleton.mp hb
  exact I.fpOk (Nat.le_refl _) hn
theorem sqt_det {K : PySem.W.Frag} {H : Hp} {ok : Addr → Prop} {a : Addr} {xs : List V} {ys : List PyData} (r : Rep K H ok (.ref a) (.tuple ys)) : ∃ xs, SqT K H a xs ∧ RepL K H ok xs ys := by
  obtain ⟨b, xs, e, h1, _, h2⟩ := RepB.tuple (.inl r)
  cases e
  exact ⟨xs, h1, h2⟩
theorem wk_lst {p : Par} {a : Addr} {ys : List PyData} : Wk p (Itl p.K a) [(.ref a, .dat (.list ys))] ys where
  go := fun ok H i y hq e => by
    have r : Rep p.K H ok (.ref a) (.list ys) := hq (.ref a, .dat (.list ys)) (by simp)
    obtain ⟨b, xs, z, h1, _, h2⟩ := RepB.list (.inl r)
    cases z
    obtain ⟨v, h3, h4⟩ := h2.get e
    refine ⟨⟨xs, v, h1, h3⟩, fun w H' hy => ?_⟩
    obtain ⟨rfl, hy⟩ := hy
    have h5 := hy xs h1
    rw [h3] at h5; cases h5
    exact ⟨Grow.refl, h4⟩
  stop := fun ok H hq => by
    have r : Rep p.K H ok (.ref a) (.list ys) := hq (.ref a, .dat (.list ys)) (by simp)
    obtain ⟨b, xs, z, h1, _, h2⟩ := RepB.list (.inl r)
    cases z
    exact ⟨xs, h1, by rw [h2.length]; exact Nat.le_refl _⟩
theorem wk_tup {p : Par} {a : Addr} {ys : List PyData} : Wk p (Itt p.K a) [(.ref a, .dat (.tuple ys))] ys where
  go := fun ok H i y hq e => by
    have r : Rep p.K H ok (.ref a) (.tuple ys) := hq (.ref a, .dat (.tuple ys)) (by simp)
    obtain ⟨b, xs, z, h1, _, h2⟩ := RepB.tuple (.inl r)
    cases z
    obtain ⟨v, h3, h4⟩ := h2.get e
    refine ⟨⟨xs, v, h1, h3⟩, fun w H' hy => ?_⟩
    obtain ⟨rfl, hy⟩ := hy
    have h5 := hy xs h1
    rw [h3] at h5; cases h5
    exact ⟨Grow.refl, h4⟩
  stop := fun ok H hq => by
    have r : Rep p.K H ok (.ref a) (.tuple ys) := hq (.ref a, .dat (.tuple ys)) (by simp)
    obtain ⟨b, xs, z, h1, _, h2⟩ := RepB.tuple (.inl r)
    cases z
    exact ⟨xs, h1, by rw [h2.length]; exact Nat.le_refl _⟩
/-- a list or a tuple -/
theorem ai_seq (ha : AE X x e f) : AI X x tg e (xItems f) := by
  refine ⟨fun pins s σ H R I h => ?_⟩
  obtain ⟨c, fr, ad, F, o⟩ := h
  have h2 : tE (pX X) x f σ H fun v H1 => ∃ c fr1 ad1 av, FR (pX X) c fr1 ad1 σ H1 ∧ RepA (pX X) H1 (okP c ad1) ad1 v av ∧ (match av with
      | .dat (.list ys) => ∀ J qs, (∀ q ∈ qs, isDat q.2 = true ∧ RepA (pX X) H1 (okP c ad1) ad1 q.1 q.2) → Wk (pX X) J qs ys → R J H1
      | .dat (.tuple ys) => ∀ J qs, (∀ q ∈ qs, isDat q.2 = true ∧ RepA (pX X) H1 (okP c ad1) ad1 q.1 q.2) → Wk (pX X) J qs ys → R J H1
      | _ => False) := by
    refine ⟨c, fr, ad, F, (Out.bind F o).mono fun av fr1 ad1 H1 F1 m1 o1 v rv => ⟨c, fr1, ad1, av, F1, rv, ?_⟩⟩
    cases av with
    | dat y =>
      cases y with
      | list ys => exact o1 ad1 H1 F1 Mv.refl
      | tuple ys => exact o1 ad1 H1 F1 Mv.refl
      | _ => exact o1.elim
    | _ => exact o1.elim
  refine thn (ha.run pins s σ H _ I h2) fun u s1 hq => ?_
  obtain ⟨v, H1, I1, r1, c1, fr1, ad1, av, F1, rv, q⟩ := hq
  cases av with
  | dat y =>
    cases y with
    | list ys =>
      obtain ⟨a, xs, rfl, h1, _, h3⟩ := RepB.list (.inl rv)
      cases r1
      exact it_lst I1 h1 (q _ [(.ref a, .dat (.list ys))] (fun z hz => by cases List.mem_singleton.mp hz; exact ⟨rfl, rv⟩) wk_lst)
    | tuple ys =>
      obtain ⟨a, xs, rfl, h1, _, h3⟩ := RepB.tuple (.inl rv)
      cases r1
      exact it_tup I1 h1 (q _ [(.ref a, .dat (.tuple ys))] (fun z hz => by cases List.mem_singleton.mp hz; exact ⟨rfl, rv⟩) wk_tup)
    | _ => exact q.elim
  | _ => exact q.elim
end

/-! ### for -/
def forA (g : Tg) (b : Fr → SRes) : List PyData → Fr → SRes
  | [], fr => .nx fr
  | y :: ys, fr => match g y fr with
    | some fr1 => (match b fr1 with
      | .nx f2 => forA g b ys f2
      | .ct f2 => forA g b ys f2
      | .bk f2 => .nx f2
      | r => r)
    | none => .err
@[simp] def sFor (f : Fr → Res (List PyData)) (g : Tg) (b : Fr → SRes) : Fr → SRes := fun fr => (f fr).toS fun ys fr1 => forA g b ys fr1
section
variable {p : Par} {c : Ent} {fr : Fr} {ad : List (Option Addr)} {σ : L2.St} {H : Hp}
abbrev Ent.plus (c : Ent) (qs : List (V × AV)) : Ent := { c with gh := qs ++ c.gh }
theorem FR.plus (F : FR p c fr ad σ H) {qs : List (V × AV)} (h : ∀ q ∈ qs, isDat q.2 = true ∧ RepA p H (okP c ad) ad q.1 q.2) : FR p (c.plus qs) fr ad σ H :=
  ⟨F.len, F.var, F.clen, F.cel, F.nd, F.old, F.sub, F.adw, fun q hq => (List.mem_append.mp hq).elim (h q) (F.gh q), F.pr, F.bs⟩
theorem FR.less {qs : List (V × AV)} (F : FR p (c.plus qs) fr ad σ H) : FR p c fr ad σ H :=
  ⟨F.len, F.var, F.clen, F.cel, F.nd, F.old, F.sub, F.adw, fun q hq => F.gh q (List.mem_append_right _ hq), F.pr, F.bs⟩
theorem FR.ghs {qs : List (V × AV)} (F : FR p (c.plus qs) fr ad σ H) : ∀ q ∈ qs, RepA p H (okP c ad) [] q.1 q.2 := fun q hq => by
  obtain ⟨h1, h2⟩ := F.gh q (List.mem_append_left _ hq)
  revert h1 h2
  cases q.2 with
  | dat y => exact fun _ h => h
  | dct tp kvs => exact fun _ h => h
  | cel i => exact fun h => nomatch h
  | scr ns => exact fun h => nomatch h
end
section
variable {X : Cx} {x : XW} {tg e : Expr} {f : Fr → Res (List PyData)} {g : Tg} {b : Fr → SRes} {is : List Nat} {body : List Stmt} {pos : Pos}
theorem as_for (hp : PassesOwn (model X.prog X.w) X.A X.env X.xe) (hc : X.calm = true) (hi : AI X x tg e f) (hg : AG X tg is g) (hb : ASs X x body b)
    (hs : ∀ z, foldedSetIterable e X.env z = pure z := by intro _; rfl) : AS X x (.For tg e body [] pos) (sFor f g b) := by
  refine (ps_for hp hc hi hg hb hs).imp fun D σ H ⟨c, fr, ad, F, o⟩ => ⟨c, fr, ad, F, (SOut.of F o).mono fun ys fr1 ad1 H1 F1 m1 o1 J qs hq wk => ?_⟩
  refine ⟨fun i m σ H => i ≤ ys.length ∧ m = ys.length - i ∧ ∃ fr ad, FR (pX X) (c.plus qs) fr ad σ H ∧ SOut (pX X) x c (forA g b (ys.drop i) fr) D, ⟨ys.length, Nat.zero_le _, by simp, fr1, ad1, F1.plus hq, o1⟩, ?_⟩
  rintro i m σ2 H2 ⟨hi2, rfl, fr2, ad2, F2, o2⟩
  by_cases hlt : i < ys.length
  · right
    have ey : ys[i]? = some ys[i] := by rw [List.getElem?_eq_getElem hlt]
    obtain ⟨h1, h2⟩ := wk.go _ H2 i _ F2.ghs ey
    refine ⟨h1, fun σ' H' => ∃ fr ad, FR (pX X) (c.plus qs) fr ad σ' H' ∧ SOut (pX X) x c (forA g b (ys.drop (i + 1)) fr) D, fun σ' H' h => ⟨ys.length - (i + 1), by omega, hlt, rfl, h⟩, fun v H3 hy => ?_⟩
    obtain ⟨gr, rv⟩ := h2 v H3 hy
    rw [List.drop_eq_getElem_cons hlt] at o2
    unfold forA at o2
    cases q1 : g ys[i] fr2 with
    | none => rw [q1] at o2; exact o2.elim
    | some fr3 =>
      rw [q1] at o2
      simp only at o2
      refine ⟨c.plus qs, fr2, ad2, _, fr3, F2.grow gr, rv, q1, fun σ3 F3 _ => ⟨c.plus qs, fr3, ad2, F3, ?_⟩⟩
      cases q2 : b fr3 with
      | nx f4 => rw [q2] at o2; exact fun ad4 σ4 H4 F4 => ⟨f4, ad4, F4, o2⟩
      | ct f4 => rw [q2] at o2; exact fun ad4 σ4 H4 F4 => ⟨f4, ad4, F4, o2⟩
      | bk f4 => rw [q2] at o2; exact fun ad4 σ4 H4 F4 => o2 ad4 σ4 H4 F4.less
      | ret a f4 => rw [q2] at o2; exact fun ad4 σ4 H4 v4 F4 r4 => o2 ad4 σ4 H4 v4 F4.less r4
      | exc cl fs f4 => rw [q2] at o2; exact fun ad4 σ4 H4 C d F4 hx => o2 ad4 σ4 H4 C d F4.less hx
      | err => rw [q2] at o2; exact o2.elim
  · have e1 : i = ys.length := by omega
    subst e1
    left
    refine ⟨wk.stop _ H2 F2.ghs, ?_⟩
    rw [List.drop_length] at o2
    exact o2 ad2 σ2 H2 F2.less
end

/-! ### while: by a bound of its turns -/
def whA (t : Fr → Res Bool) (b : Fr → SRes) : Nat → Fr → SRes
  | 0, _ => .err
  | n + 1, fr => (t fr).toS fun k fr1 => if k = true then (match b fr1 with
    | .nx f2 => whA t b n f2
    | .ct f2 => whA t b n f2
    | .bk f2 => .nx f2
    | r => r) else .nx fr1
section
variable {X : Cx} {x : XW} {t : Fr → Res Bool} {b : Fr → SRes} {tst : Expr} {body : List Stmt} {pos : Pos}
theorem as_while (m : Fr → Nat) (hp : PassesOwn (model X.prog X.w) X.A X.env X.xe) (hc : AT X x tst t) (hb : ASs X x body b) : AS X x (.While tst body [] pos) (fun fr => whA t b (m fr) fr) := by
  refine (ps_while hp hc hb).imp fun D σ H ⟨c, fr, ad, F, o⟩ => ?_
  refine ⟨fun n σ H => ∃ fr ad, FR (pX X) c fr ad σ H ∧ SOut (pX X) x c (whA t b n fr) D, ⟨m fr, fr, ad, F, o⟩, ?_⟩
  rintro n σ1 H1 ⟨fr1, ad1, F1, o1⟩
  cases n with
  | zero => exact o1.elim
  | succ n =>
    refine ⟨c, fr1, ad1, F1, (SOut.of F1 o1).mono fun k fr2 ad2 H2 F2 m2 o2 => ?_⟩
    cases k with
    | false => exact o2 ad2 σ1 H2 F2
    | true =>
      simp only [if_true] at o2 ⊢
      refine ⟨fun σ' H' => ∃ fr ad, FR (pX X) c fr ad σ' H' ∧ SOut (pX X) x c (whA t b n fr) D, fun σ' H' h => ⟨n, by omega, h⟩, c, fr2, ad2, F2, ?_⟩
      cases q2 : b fr2 with
      | nx f4 => rw [q2] at o2; exact fun ad4 σ4 H4 F4 => ⟨f4, ad4, F4, o2⟩
      | ct f4 => rw [q2] at o2; exact fun ad4 σ4 H4 F4 => ⟨f4, ad4, F4, o2⟩
      | bk f4 => rw [q2] at o2; exact fun ad4 σ4 H4 F4 => o2 ad4 σ4 H4 F4
      | ret a f4 => rw [q2] at o2; exact fun ad4 σ4 H4 v4 F4 r4 => o2 ad4 σ4 H4 v4 F4 r4
      | exc cl fs f4 => rw [q2] at o2; exact fun ad4 σ4 H4 C d F4 hx => o2 ad4 σ4 H4 C d F4 hx
      | err => rw [q2] at o2; exact o2.elim
end
end G
/-! GK: list comprehensions of one clause. -/
namespace G
open PySem PySem.Spec PyProof.Rows L2

/-- the turns of a comprehension: the list so far, the cells -/
def compA (own : List Nat) (g : Tg) (t : Fr → Res Bool) (f : Fr → Res AV) (vars : List (Option AV)) (bs : Nat) : List PyData → List PyData → List Cell → Option (List PyData × List Cell)
  | [], acc, cs => some (acc, cs)
  | y :: ys, acc, cs => match g y ⟨kill own vars, cs, bs⟩ with
    | some fr1 => (match t fr1 with
      | .ok b fr2 => if b = true then (match f fr2 with
        | .ok (.dat z) fr3 => compA own g t f vars bs ys (acc ++ [z]) fr3.cells
        | _ => none) else compA own g t f vars bs ys acc fr2.cells
      | _ => none)
    | none => none
def xComp (own : List Nat) (e : Fr → Res (List PyData)) (g : Tg) (t : Fr → Res Bool) (f : Fr → Res AV) : Fr → Res AV := fun fr => (e fr).bind fun ys fr1 => if ys.length ≤ 1000000 then (match compA own g t f fr1.vars fr1.base ys [] fr1.cells with
  | some (acc, cs) => .ok (.dat (.list acc)) ⟨fr1.vars, cs, fr1.base⟩
  | none => .err) else .err
@[simp] def xYes : Fr → Res Bool := fun fr => .ok true fr

section
variable {p : Par} {c : Ent} {fr : Fr} {ad ad' : List (Option Addr)} {σ σ2 : L2.St} {H H' : Hp}
theorem wipe_at {σ : L2.St} {i : Nat} : ∀ {vs : List Nat}, i ∉ vs → (wipe σ vs)[i]? = σ[i]?
  | [], _ => rfl
  | v :: vs, h => by
    simp only [List.mem_cons, not_or] at h
    unfold wipe
    rw [List.getElem?_set_ne (Ne.symm h.1)]
    exact wipe_at h.2
theorem wipe_sub {σ : L2.St} {vs : List Nat} : ∀ {ws : List Nat}, (∀ i ∈ ws, i ∈ vs) → L2.wipe (L2.wipe σ ws) vs = L2.wipe σ vs
  | [], _ => rfl
  | w :: ws, h => by
    show L2.wipe ((L2.wipe σ ws).set w none) vs = _
    rw [wipe_set (h w (by simp))]
    exact wipe_sub fun i hi => h i (List.mem_cons_of_mem _ hi)
theorem FR.wipe (F : FR p c fr ad σ H) (own : List Nat) : FR p c ⟨G.kill own fr.vars, fr.cells, fr.base⟩ ad (L2.wipe σ own) H :=
  ⟨by rw [kill_len, wipe_length]; exact F.len, fun i av e => by
    obtain ⟨h1, h2⟩ := kill_some e
    obtain ⟨v, h3, h4⟩ := F.var i av h1
    exact ⟨v, by rw [wipe_at h2]; exact h3, h4⟩, F.clen, F.cel, F.nd, F.old, F.sub, F.adw, F.gh, F.pr, F.bs⟩
/-- the names as they were, the cells as they are -/
theorem FR.back (F : FR p c fr ad σ H) (m : Mv H ad H' ad') {fr' : Fr} (F' : FR p c fr' ad' σ2 H') : FR p c ⟨fr.vars, fr'.cells, fr.base⟩ ad' σ H' :=
  ⟨F.len, fun i av e => by
    obtain ⟨v, h1, h2⟩ := F.var i av e
    exact ⟨v, h1, RepA.mv F m h2⟩, F'.clen, F'.cel, F'.nd, F'.old, F'.sub, F'.adw, F'.gh, F'.pr, F.bs⟩
abbrev Ent.hold (c : Ent) (D : Addr) : Ent := { c with prot := D :: c.prot }
theorem okP_hold {D : Addr} : ∀ a, okP (c.hold D) ad a → okP c ad a := fun a h => ⟨⟨h.1.1, fun z => h.1.2 (List.mem_cons_of_mem _ z)⟩, h.2⟩
theorem RepA.mono {ok ok' : Addr → Prop} (h : ∀ a, ok a → ok' a) {v : V} : ∀ {av : AV}, RepA p H ok ad v av → RepA p H ok' ad v av
  | .dat y, r => Rep.mono h r
  | .dct tp kvs, ⟨b, e, h1, h2⟩ => ⟨b, e, h b h1, h2.mono h⟩
  | .cel i, r => r
  | .scr ns, r => r
theorem CellAt.mono {ok ok' : Addr → Prop} (h : ∀ a, ok a → ok' a) {a : Addr} : ∀ {cl : Cell}, CellAt p H ok a cl → CellAt p H ok' a cl
  | .lst ds, ⟨xs, h1, h2, h3⟩ => ⟨xs, h1, h2, h3.mono h⟩
  | .dct tp kvs, r => DctAt.mono h r
  | .gone, r => r.elim
theorem FR.unhold {D : Addr} (F : FR p (c.hold D) fr ad σ H) : FR p c fr ad σ H :=
  ⟨F.len, fun i av e => by
    obtain ⟨v, h1, h2⟩ := F.var i av e
    exact ⟨v, h1, RepA.mono okP_hold h2⟩, F.clen, fun i a e => by
    obtain ⟨cl, h1, h2⟩ := F.cel i a e
    exact ⟨cl, h1, CellAt.mono okP_hold h2⟩, F.nd, F.old, F.sub, F.adw, fun q hq => ⟨(F.gh q hq).1, RepA.mono okP_hold (F.gh q hq).2⟩, fun a ha => F.pr a (List.mem_cons_of_mem _ ha), F.bs⟩
/-- a new list, protected -/
theorem FR.hold (F : FR p c fr ad σ H) {D : Addr} {vs : List V} (n : H D = none) : FR p (c.hold D) fr ad σ (upd H D (.lst vs)) := by
  have gr : Grow H (upd H D (.lst vs)) := Grow.new n
  have kp : Keep H (upd H D (.lst vs)) (okP c ad) (okP (c.hold D) ad) := ⟨fun a o h e => ⟨⟨⟨h.1.1, fun z => by
    rcases List.mem_cons.mp z with z | z
    · subst z; rw [n] at e; cases e
    · exact h.1.2 z⟩, h.2⟩, gr a o e⟩, (gr.keep (ok := okP c ad)).t⟩
  have nD : some D ∉ ad := fun m => by
    obtain ⟨o, e, _⟩ := F.track m
    rw [n] at e; cases e
  have rep : ∀ {v : V} {av : AV}, RepA p H (okP c ad) ad v av → RepA p (upd H D (.lst vs)) (okP (c.hold D) ad) ad v av := fun {v av} r => by
    cases av with
    | dat y => exact Rep.keep kp r
    | dct tp kvs =>
      obtain ⟨b, e, h1, h2⟩ := r
      obtain ⟨o, z, _⟩ := h2.there
      exact ⟨b, e, (kp.l b o h1 z).1, h2.keep kp fun o z => gr b o z⟩
    | cel i => exact r
    | scr ns => exact RepA.mv F (Mv.grow gr) r
  refine ⟨F.len, fun i av e => ?_, F.clen, fun i a e => ?_, F.nd, fun b o e h => gr _ _ (F.old b o e h), F.sub, F.adw, fun q hq => ⟨(F.gh q hq).1, rep (F.gh q hq).2⟩, fun a ha => ?_, F.bs⟩
  · obtain ⟨v, h1, h2⟩ := F.var i av e
    exact ⟨v, h1, rep h2⟩
  · obtain ⟨cl, h1, h2⟩ := F.cel i a e
    refine ⟨cl, h1, ?_⟩
    cases cl with
    | lst ds =>
      obtain ⟨xs, h3, hz, h4⟩ := h2
      exact ⟨xs, gr _ _ h3, hz, h4.keep kp⟩
    | dct tp kvs => exact DctAt.keep kp (fun o z => gr _ _ z) h2
    | gone => exact h2
  · rcases List.mem_cons.mp ha with e | e
    · subst e; exact ⟨nD, _, upd_same⟩
    · obtain ⟨h1, ws, h2⟩ := F.pr a e
      exact ⟨h1, ws, gr _ _ h2⟩
/-- a protected list grows -/
theorem FR.fill {D : Addr} (F : FR p (c.hold D) fr ad σ H) (hD : c.He D = none) {vs ws : List V} (e : H D = some (.lst vs)) : FR p (c.hold D) fr ad σ (upd H D (.lst ws)) ∧ Keep H (upd H D (.lst ws)) (okP (c.hold D) ad) (okP (c.hold D) ad) := by
  have nD : some D ∉ ad := (F.pr D (List.mem_cons_self ..)).1
  have ne : ∀ a, okP (c.hold D) ad a → a ≠ D := fun a h z => h.1.2 (by rw [z]; exact List.mem_cons_self ..)
  have kp : Keep H (upd H D (.lst ws)) (okP (c.hold D) ad) (okP (c.hold D) ad) := ⟨fun a o h q => ⟨h, by rw [upd_ne (ne a h)]; exact q⟩, wr_t e⟩
  have rep : ∀ {v : V} {av : AV}, RepA p H (okP (c.hold D) ad) ad v av → RepA p (upd H D (.lst ws)) (okP (c.hold D) ad) ad v av := fun {v av} r => by
    cases av with
    | dat y => exact Rep.keep kp r
    | dct tp kvs =>
      obtain ⟨b, e, h1, h2⟩ := r
      exact ⟨b, e, h1, h2.keep kp fun o z => by rw [upd_ne (ne b h1)]; exact z⟩
    | cel i => exact r
    | scr ns =>
      obtain ⟨hl, b, rfl, z⟩ := r
      refine ⟨hl, b, rfl, ?_⟩
      rcases z with ⟨u, z⟩ | z
      · exact .inl ⟨u, by rw [upd_ne (by rintro rfl; rw [e] at z; cases z)]; exact z⟩
      · exact .inr z
  refine ⟨⟨F.len, fun i av q => ?_, F.clen, fun i a q => ?_, F.nd, fun b o q h => ?_, F.sub, F.adw, fun q hq => ⟨(F.gh q hq).1, rep (F.gh q hq).2⟩, fun a ha => ?_, F.bs⟩, kp⟩
  · obtain ⟨v, h1, h2⟩ := F.var i av q
    exact ⟨v, h1, rep h2⟩
  · obtain ⟨cl, h1, h2⟩ := F.cel i a q
    have na : a ≠ D := fun z => nD (by rw [← z]; exact List.mem_of_getElem? q)
    refine ⟨cl, h1, ?_⟩
    cases cl with
    | lst ds =>
      obtain ⟨xs, h3, hz, h4⟩ := h2
      exact ⟨xs, by rw [upd_ne na]; exact h3, hz, h4.keep kp⟩
    | dct tp kvs => exact DctAt.keep kp (fun o z => by rw [upd_ne na]; exact z) h2
    | gone => exact h2
  · have nb : b ≠ D := by
      intro z
      have q' : c.He b = some o := q
      rw [z, hD] at q'
      cases q'
    rw [upd_ne nb]; exact F.old b o q h
  · by_cases z : a = D
    · subst z; exact ⟨nD, _, upd_same⟩
    · obtain ⟨h1, us, h2⟩ := F.pr a ha
      exact ⟨h1, us, by rw [upd_ne z]; exact h2⟩
end
section
variable {X : Cx} {x : XW} {tg e elt : Expr} {ef : Fr → Res (List PyData)} {g : Tg} {t : Fr → Res Bool} {f : Fr → Res AV} {is : List Nat} {pos : Pos} {ifs : List Expr} {scope : Scope} {own : List (Str × Nat)}
/-- within a block nothing may be raised -/
abbrev xb (x : XW) : XW := ⟨fun _ _ _ _ => False, x.C⟩
abbrev Blk (X : Cx) (scope : Scope) (P : Cx → Prop) : Prop := ∀ (s : Shared) (H : Hp) (C : Addr) (cl : List (Str × Addr)) (fp : List Addr), P (X.blk s H scope (compEnvC scope cl C X.env) fp)
abbrev ATs (X : Cx) (x : XW) (ifs : List Expr) (t : Fr → Res Bool) : Prop := PTs X ifs (tT (pX X) x t)
theorem ats_nil : ATs X x [] xYes := ⟨fun pins s σ H Q I ⟨c, fr, ad, F, o⟩ => pts_nil.run pins s σ H Q I (o ad H F Mv.refl)⟩
theorem ats_one {a : Expr} (h : AT X x a t) : ATs X x [a] t := pts_one h
theorem lc_read {σ : L2.St} {H : Hp} {Q : VK} (hsub : ∀ i ∈ is, i ∈ own.map (·.2)) (h : tE (pX X) x (xComp (own.map (·.2)) ef g t f) σ H Q) :
    tLc (tI (pX X) x ef) (tG (pX X) is g) (tT (pX X) (xb x) t) (tE (pX X) (xb x) f) (own.map (·.2)) σ H Q := by
  obtain ⟨c, fr, ad, F, o⟩ := h
  refine ⟨c, fr, ad, F, (Out.bind F o).mono fun ys fr1 ad1 H1 F1 m1 o1 J qs hq wk D hD => ?_⟩
  split at o1
  rotate_left
  · exact o1.elim
  rename_i hlen
  have hDe := he_new F1 hD
  have gr1 : Grow H1 (upd H1 D (.lst [])) := Grow.new hD
  have F1h := (F1.plus hq).hold (vs := []) hD
  have Dad : some D ∉ ad1 := (F1h.pr D (List.mem_cons_self ..)).1
  generalize hown : own.map (·.2) = ow at *
  refine ⟨fun i m H => i ≤ ys.length ∧ m = ys.length - i ∧ ∃ (acc : List PyData) (cs : List Cell) (ad : List (Option Addr)) (vs : List V), FR (pX X) ((c.plus qs).hold D) ⟨fr1.vars, cs, fr1.base⟩ ad σ H ∧ H D = some (.lst vs) ∧ RepL X.K H (okP ((c.plus qs).hold D) ad) vs acc ∧ acc.length ≤ i ∧ Mv H1 ad1 H ad ∧
      (match compA ow g t f fr1.vars fr1.base (ys.drop i) acc cs with
        | some (r, cs') => ∀ ad' H', FR (pX X) c ⟨fr1.vars, cs', fr1.base⟩ ad' σ H' → Mv H1 ad1 H' ad' → ∀ v, Rep X.K H' (okP c ad') v (.list r) → Q v H'
        | none => False), ⟨ys.length, Nat.zero_le _, by simp, [], fr1.cells, ad1, [], F1h, upd_same, .nil, Nat.le_refl _, Mv.grow gr1, ?_⟩, ?_⟩
  · rw [List.drop_zero]
    cases q : compA ow g t f fr1.vars fr1.base ys [] fr1.cells with
    | none => rw [q] at o1; exact o1.elim
    | some r =>
      obtain ⟨r, cs'⟩ := r
      rw [q] at o1
      exact fun ad' H' F' m' v rv => o1 ad' H' F' m' v rv
  · rintro i m H2 ⟨hi2, rfl, acc, cs, ad2, vs, F2, hD2, racc, hacc, m2, o2⟩
    by_cases hlt : i < ys.length
    · right
      have ey : ys[i]? = some ys[i] := by rw [List.getElem?_eq_getElem hlt]
      obtain ⟨h1, h2⟩ := wk.go _ H2 i _ (FR.ghs (c := c.hold D) ⟨F2.len, F2.var, F2.clen, F2.cel, F2.nd, F2.old, F2.sub, F2.adw, F2.gh, F2.pr, F2.bs⟩) ey
      refine ⟨h1, _, fun H' h => ⟨ys.length - (i + 1), by omega, hlt, rfl, h⟩, fun v H3 hy => ?_⟩
      obtain ⟨gr, rv⟩ := h2 v H3 hy
      rw [List.drop_eq_getElem_cons hlt] at o2
      unfold compA at o2
      have F3 := F2.grow gr
      have D3 := gr D _ hD2
      have r3 := racc.keep (gr.keep (ok := okP ((c.plus qs).hold D) ad2))
      cases q1 : g ys[i] ⟨kill ow fr1.vars, cs, fr1.base⟩ with
      | none => rw [q1] at o2; exact o2.elim
      | some fr4 =>
        rw [q1] at o2
        simp only at o2
        refine ⟨(c.plus qs).hold D, ⟨kill ow fr1.vars, cs, fr1.base⟩, ad2, _, fr4, F3.wipe ow, rv, q1, fun σ4 F4 oa => ⟨?_, (c.plus qs).hold D, fr4, ad2, F4, ?_⟩⟩
        · rw [oa ow hsub]
          exact wipe_sub fun _ h => h
        · cases q2 : t fr4 with
          | exc cl fs fr5 => rw [q2] at o2; exact o2.elim
          | err => rw [q2] at o2; exact o2.elim
          | ok b fr5 =>
            rw [q2] at o2
            simp only at o2
            intro ad5 H5 F5 m5
            have B5 := F3.back m5 F5
            have M5 : Mv H1 ad1 H5 ad5 := (m2.trans F1 (Mv.grow gr)).trans F1 m5
            have D5 := m5.keep D _ D3 (F3.pr D (List.mem_cons_self ..)).1
            have r5 := r3.keep (m5.kp F3)
            cases b with
            | false =>
              simp only [Bool.false_eq_true, if_false] at o2 ⊢
              exact ⟨acc, fr5.cells, ad5, vs, B5, D5, r5, by omega, M5, o2⟩
            | true =>
              simp only [if_true] at o2 ⊢
              refine ⟨(c.plus qs).hold D, fr5, ad5, F5, ?_⟩
              cases q3 : f fr5 with
              | exc cl fs fr6 => rw [q3] at o2; exact o2.elim
              | err => rw [q3] at o2; exact o2.elim
              | ok av fr6 =>
                rw [q3] at o2
                intro ad6 H6 F6 m6 w rw_
                cases av with
                | dat z =>
                  simp only at o2
                  have B6 := B5.back m6 F6
                  have M6 := M5.trans F1 m6
                  have D6 := m6.keep D _ D5 (B5.pr D (List.mem_cons_self ..)).1
                  have r6 := r5.keep (m6.kp B5)
                  have len := r6.length
                  obtain ⟨F7, k7⟩ := B6.fill hDe (ws := vs ++ [w]) D6
                  refine ⟨vs, D6, by rw [sizeLine_eq]; omega, acc ++ [z], fr6.cells, ad6, vs ++ [w], F7, upd_same, RepL.append (r6.keep k7) (.cons (Rep.keep k7 rw_) .nil), by simp; omega, ?_, o2⟩
                  refine ⟨fun b u e n => ?_, M6.pre, M6.new, fun b h => ?_⟩
                  · have nb : b ≠ D := fun z => by rw [z, hD] at e; cases e
                    rw [upd_ne nb]; exact M6.keep b u e n
                  · by_cases z : b = D
                    · subst z; rw [upd_same]; simp
                    · rw [upd_ne z]; exact M6.there b h
                | _ => exact o2.elim
    · have e1 : i = ys.length := by omega
      subst e1
      left
      refine ⟨wk.stop _ H2 (FR.ghs (c := c.hold D) ⟨F2.len, F2.var, F2.clen, F2.cel, F2.nd, F2.old, F2.sub, F2.adw, F2.gh, F2.pr, F2.bs⟩), ?_⟩
      rw [List.drop_length] at o2
      have o3 : ∀ ad' H', FR (pX X) c ⟨fr1.vars, cs, fr1.base⟩ ad' σ H' → Mv H1 ad1 H' ad' → ∀ v, Rep X.K H' (okP c ad') v (.list acc) → Q v H' := o2
      refine o3 ad2 H2 F2.unhold.less m2 (.ref D) (.lst ⟨⟨.inl hDe, fun z => ?_⟩, (F2.pr D (List.mem_cons_self ..)).1⟩ hD2 (by rw [sizeLine_eq]; omega) (racc.mono okP_hold))
      obtain ⟨_, us, e⟩ := F1.pr D z
      rw [hD] at e; cases e
/-- as a value -/
theorem ae_lc (hc : X.calm = true) (hN : X.N.Nodup) (hi : AI X x tg e ef) (ok : BlkOk X.N X.env.scope scope own) (hg : Blk X scope fun Y => AG Y tg is g) (ht : Blk X scope fun Y => ATs Y (xb x) ifs t) (he : Blk X scope fun Y => AE Y (xb x) elt f)
    (hsub : ∀ i ∈ is, i ∈ own.map (·.2)) (hs : ∀ z, foldedSetIterable e X.env z = pure z := by intro _; rfl) : AE X x (.ListComp elt [⟨tg, e, ifs, 0⟩] scope pos) (xComp (own.map (·.2)) ef g t f) :=
  (pe_lc hc hN hi ok hg ht he hs).imp fun σ H Q h => lc_read hsub h
/-- name = [..] on one line -/
theorem as_setLc {i : Nat} {n : Str} {p1 spos : Pos} (hc : X.calm = true) (hN : X.N.Nodup) (hy : X.N[i]? = some n) (hyl : X.env.scope.names.lookup n = some .local) (hsw : swapsWith (.ListComp elt [⟨tg, e, ifs, 0⟩] scope pos) (some (.Name n p1)) spos.line X.env = pure true)
    (hi : AI X x tg e ef) (ok : BlkOk X.N X.env.scope scope own) (hg : Blk X scope fun Y => AG Y tg is g) (ht : Blk X scope fun Y => ATs Y (xb x) ifs t) (he : Blk X scope fun Y => AE Y (xb x) elt f)
    (hsub : ∀ i ∈ is, i ∈ own.map (·.2)) (hs : ∀ z, foldedSetIterable e X.env z = pure z := by intro _; rfl) : AS X x (.Assign [.Name n p1] (.ListComp elt [⟨tg, e, ifs, 0⟩] scope pos) spos) (sSet i (xComp (own.map (·.2)) ef g t f)) :=
  (ps_setLc hc hN hy hyl hsw hi ok hg ht he hs).imp fun D σ H ⟨c, fr, ad, F, o⟩ => lc_read hsub ⟨c, fr, ad, F, (SOut.of F o).mono fun av fr1 ad1 H1 F1 m1 o1 v rv => o1 ad1 _ H1 (F1.setv rv)⟩
end
end G
/-! GL: cells given up, written by place, grown; ranges. -/
namespace G
open PySem PySem.Spec PyProof.Rows L2
section
variable {X : Cx} {x : XW} {a b d : Expr} {f g h : Fr → Res AV} {pos : Pos} {st : Stmt} {ss : List Stmt} {s t u : Fr → SRes}
theorem frz_read {p : Par} {D : Ends} {σ : L2.St} {H : Hp} {i : Nat} (hh : tS p x (sFrz i s) D σ H) : tS p x s D σ H := by
  obtain ⟨c, fr, ad, F, o⟩ := hh
  unfold sFrz at o
  cases q : fr.vars[i]? with
  | none => rw [q] at o; exact o.elim
  | some w =>
    rw [q] at o
    cases w with
    | none => exact o.elim
    | some av =>
      cases av with
      | cel j =>
        simp only at o
        cases q2 : fr.frz j with
        | none => rw [q2] at o; exact o.elim
        | some fr2 =>
          rw [q2] at o
          obtain ⟨ad', F'⟩ := F.frz q2
          exact ⟨c, fr2, ad', F', o⟩
      | _ => exact o.elim
theorem as_frz (i : Nat) (h1 : AS X x st s) : AS X x st (sFrz i s) := L2.PS.imp h1 fun D σ H z => frz_read z
theorem ass_frz (i : Nat) (h1 : ASs X x ss s) : ASs X x ss (sFrz i s) := L2.PSs.imp h1 fun D σ H z => frz_read z
/-- name[i] = value, the name a list of one's own -/
theorem as_setIx {i : Nat} {n : Str} {p1 p2 : Pos} (hN : X.N[i]? = some n) (hv : Vis X.env.scope n) (hb : AE X x b g) (ha : AE X x a f) (hd : (n == ("__debug__" : Str)) = false := by decide) (hcd : (n == ("__classdict__" : Str)) = false := by decide)
    (hsub : ∀ v, assign (.Subscript (.Name n p1) b p2) X.env v = (do
      let ov ← holding [v] (eval (.Name n p1) X.env)
      let iv ← holding [v, ov] (eval b X.env)
      standAt p2
      holding [v, ov, iv] (setItem ov iv v)
      release [v, ov, iv] []) := by intro _; rfl)
    (hs : swapsWithSole [.Subscript (.Name n p1) b p2] a pos.line X.env = pure false := by rfl) (hw : swappedStores [.Subscript (.Name n p1) b p2] a X.env = pure none := by rfl)
    (h1 : (assignEach [.Subscript (.Name n p1) b p2] X.env).map (·.2) = [assign (.Subscript (.Name n p1) b p2) X.env] := by rfl) : AS X x (.Assign [.Subscript (.Name n p1) b p2] a pos) (sSetIx i g f) := by
  refine (ps_asg ha (pg_sub (pe_var hN hv hd hcd) hb set_list hsub) hs hw h1).imp fun D σ H ⟨c, fr, ad, F, o⟩ => ⟨c, fr, ad, F, (SOut.of F o).mono fun av fr1 ad1 H1 F1 m1 o1 v rv => ?_⟩
  cases q : fr1.vars[i]? with
  | none => rw [q] at o1; exact o1.elim
  | some w =>
    rw [q] at o1
    cases w with
    | none => exact o1.elim
    | some aw =>
      obtain ⟨vw, e1, e2⟩ := F1.var i aw q
      cases aw with
      | cel k =>
        obtain ⟨l, rfl, hl⟩ := e2
        refine ⟨_, e1, c, fr1, ad1, F1, (SOut.of F1 o1).mono fun bv fr2 ad2 H2 F2 m2 o2 w rw_ => ?_⟩
        have rv2 := RepA.mv F1 m2 rv
        cases av with
        | dat y =>
          cases bv with
          | dat yb =>
            cases yb with
            | int n =>
              cases RepB.int (.inl rw_)
              cases q2 : fr2.cells[k]? with
              | none => simp only [q2] at o2; exact o2.elim
              | some cl =>
                cases cl with
                | lst xs =>
                  simp only [q2] at o2
                  cases q3 : ixN xs.length n with
                  | none => simp only [q3] at o2; exact o2.elim
                  | some j =>
                    simp only [q3] at o2
                    have e3 := m2.pre k _ hl
                    obtain ⟨vs, h3, hz, h4⟩ := cell_lst F2 e3 q2
                    have m := List.mem_of_getElem? e3
                    refine ⟨l, vs, n, j, rfl, rfl, h3, by rw [h4.length]; exact q3, ?_⟩
                    exact o2 _ _ _ (F2.putc e3 (wr_t h3) ⟨_, upd_same, by rw [List.length_set]; exact hz, RepL.set (Rep.keep (wr_k m h3) rv2) j (h4.keep (wr_k m h3))⟩)
                | _ => simp only [q2] at o2; exact o2.elim
            | _ => exact o2.elim
          | _ => exact o2.elim
        | _ => exact o2.elim
      | _ => exact o1.elim
/-- name += value, by values -/
@[simp] def sAug (i : Nat) (sem : PyData → PyData → Option PyData) (f : Fr → Res AV) : Fr → SRes := fun fr => match fr.vars[i]? with
  | some (some (.dat y)) => (f fr).toS fun av fr1 => (match fr1.view av with
    | some z => (match sem y z with
      | some r => .nx (fr1.setv i (some (.dat r)))
      | none => .err)
    | none => .err)
  | _ => .err
theorem as_aug {op : Operator} {sem : PyData → PyData → Option PyData} {i : Nat} {n : Str} {p1 : Pos} (hN : X.N.Nodup) (hi : X.N[i]? = some n) (hx : Loc X.env.scope n) (ho : OpR X (inplaceOp op) (rOp2 X.K sem)) (ha : AE X x a f)
    (hf : X.fn n = true ∨ X.env.scope.names.lookup n = some .local := by first | exact .inl rfl | exact .inr rfl | assumption) : AS X x (.AugAssign (.Name n p1) op a pos) (sAug i sem f) := by
  have hp : PIp X op (rOp2 X.K sem) := fun pins s σ H xv yv v u Q I r1 r2 h => ho pins s σ H xv yv v u Q I r1 r2 h
  refine (ps_aug hN hi hx ha hp hf).imp fun D σ H ⟨c, fr, ad, F, o⟩ => ?_
  unfold sAug at o
  cases q : fr.vars[i]? with
  | none => rw [q] at o; exact o.elim
  | some w =>
    rw [q] at o
    cases w with
    | none => exact o.elim
    | some aw =>
      obtain ⟨vw, e1, e2⟩ := F.var i aw q
      cases aw with
      | dat y =>
        refine ⟨vw, e1, c, fr, ad, F, (SOut.of F o).mono fun av fr1 ad1 H1 F1 m1 o1 v rv => ?_⟩
        have r2 : Rep X.K H1 (okP c ad1) vw y := Rep.keep (m1.kp F) e2
        cases q1 : fr1.view av with
        | none => rw [q1] at o1; exact o1.elim
        | some z =>
          rw [q1] at o1
          simp only at o1
          cases q2 : sem y z with
          | none => rw [q2] at o1; exact o1.elim
          | some r =>
            rw [q2] at o1
            exact ⟨okP c ad1, y, z, r, fun p hp => okP_new F1 hp, .inl r2, view_rep F1 rv q1, q2, fun w H2 gr rw_ => o1 ad1 _ H2 ((F1.grow gr).setv (a := .dat r) rw_)⟩
      | _ => exact o.elim
end

/-! ### ranges -/
def rangeD (lo : Int) (n : Nat) : List PyData := (List.range n).map fun i => .int (lo + (i : Nat))
def rgOk (i : Int) : Bool := decide (-(2 ^ 62) ≤ i ∧ i < 2 ^ 62)
@[simp] def xRange1 (f : Fr → Res AV) : Fr → Res (List PyData) := fun fr => (f fr).bind fun a fr1 => match a with
  | .dat (.int j) => if rgOk j = true then .ok (rangeD 0 j.toNat) fr1 else .err
  | _ => .err
@[simp] def xRange2 (f g : Fr → Res AV) : Fr → Res (List PyData) := fun fr => (f fr).bind fun a fr1 => (g fr1).bind fun b fr2 => match a, b with
  | .dat (.int i), .dat (.int j) => if rgOk i = true ∧ rgOk j = true then .ok (rangeD i (j - i).toNat) fr2 else .err
  | _, _ => .err
theorem wk_range {p : Par} {lo : Int} {n : Nat} : Wk p (Itr lo n) [] (rangeD lo n) where
  go := fun ok H i y _ e => by
    unfold rangeD at e
    rw [List.getElem?_map] at e
    have hi : i < n := by
      rcases Nat.lt_or_ge i n with q | q
      · exact q
      · rw [List.getElem?_eq_none (by simpa using q)] at e; cases e
    rw [List.getElem?_range hi] at e
    cases e
    refine ⟨hi, fun v H' hy => ?_⟩
    obtain ⟨rfl, rfl⟩ := hy
    exact ⟨Grow.refl, .int _⟩
  stop := fun ok H _ => by
    show n ≤ (rangeD lo n).length
    unfold rangeD
    simp
section
variable {X : Cx} {x : XW} {tg a b : Expr} {f g : Fr → Res AV}
theorem ai_range1 {p1 pos : Pos} (hg : Gl X "range") (hm : X.mg "range" = none) (ha : AE X x a f) (hst : starEach [a] X.env = [(false, eval a X.env)] := by rfl) : AI X x tg (.Call (.Name "range" p1) [a] [] pos) (xRange1 f) := by
  have hw := pi_range1 (tg := tg) (p := p1) (pos := pos) hg hm (pa_cons ha pa_nil hst) hst
  refine ⟨fun pins s σ H R I hh => hw.run pins s σ H R I ?_⟩
  obtain ⟨c, fr, ad, F, o⟩ := hh
  refine ⟨c, fr, ad, F, (Out.bind F o).mono fun av fr1 ad1 H1 F1 m1 o1 v rv => ?_⟩
  cases av with
  | dat y =>
    cases y with
    | int j =>
      cases RepB.int (.inl rv)
      simp only at o1
      split at o1
      · rename_i hj
        have hj2 := of_decide_eq_true hj
        exact ⟨j, rfl, hj2.1, hj2.2, o1 ad1 H1 F1 Mv.refl _ [] (fun q hq => nomatch hq) wk_range⟩
      · exact o1.elim
    | _ => exact o1.elim
  | _ => exact o1.elim
theorem ai_range2 {p1 pos : Pos} (hg : Gl X "range") (hm : X.mg "range" = none) (ha : AE X x a f) (hb : AE X x b g) (hst : starEach [a, b] X.env = [(false, eval a X.env), (false, eval b X.env)] := by rfl) (hst2 : starEach [b] X.env = [(false, eval b X.env)] := by rfl) : AI X x tg (.Call (.Name "range" p1) [a, b] [] pos) (xRange2 f g) := by
  have hw := pi_range2 (tg := tg) (p := p1) (pos := pos) hg hm (pa_cons ha (pa_cons hb pa_nil hst2) (by rw [hst, hst2])) hst hst2
  refine ⟨fun pins s σ H R I hh => hw.run pins s σ H R I ?_⟩
  obtain ⟨c, fr, ad, F, o⟩ := hh
  refine ⟨c, fr, ad, F, (Out.bind F o).mono fun av fr1 ad1 H1 F1 m1 o1 v rv => ?_⟩
  refine ⟨c, fr1, ad1, F1, (Out.bind F1 o1).mono fun bv fr2 ad2 H2 F2 m2 o2 w rw_ => ?_⟩
  cases av with
  | dat y =>
    cases y with
    | int i =>
      cases bv with
      | dat z =>
        cases z with
        | int j =>
          cases RepB.int (.inl rv)
          cases RepB.int (.inl rw_)
          simp only at o2
          split at o2
          · rename_i hj
            have h1 := of_decide_eq_true hj.1
            have h2 := of_decide_eq_true hj.2
            exact ⟨i, j, rfl, ⟨h1.1, h1.2, h2.1, h2.2⟩, o2 ad2 H2 F2 Mv.refl _ [] (fun q hq => nomatch hq) wk_range⟩
          · exact o2.elim
        | _ => exact o2.elim
      | _ => exact o2.elim
    | _ => cases bv <;> exact o2.elim
  | _ => cases bv <;> exact o2.elim
end
end G
/-! GM: dicts: what they hold, reading and writing them. -/
namespace G
open PySem PySem.Spec PyProof.Rows L2

mutual
def nkO : PyData → Option NestedKey
  | .none => some .none
  | .int i => some (.num i)
  | .str x => some (.text x)
  | .tuple xs => match nkOs xs with
    | some ks => some (.tup ks)
    | none => none
  | .bool _ => none
  | .list _ => none
  | .dict _ => none
def nkOs : List PyData → Option (List NestedKey)
  | [] => some []
  | x :: xs => match nkO x, nkOs xs with
    | some k, some ks => some (k :: ks)
    | _, _ => none
end
mutual
theorem nkO_eq : ∀ {k : PyData} {n : NestedKey}, nkO k = some n → k = nkD n
  | .none, n, e => by simp [nkO] at e; subst e; rfl
  | .int i, n, e => by simp [nkO] at e; subst e; rfl
  | .str x, n, e => by simp [nkO] at e; subst e; rfl
  | .tuple xs, n, e => by
    simp only [nkO] at e
    cases q : nkOs xs with
    | none => rw [q] at e; cases e
    | some ks => rw [q] at e; cases e; rw [nkOs_eq q]; rfl
  | .bool _, _, e => by simp [nkO] at e
  | .list _, _, e => by simp [nkO] at e
  | .dict _, _, e => by simp [nkO] at e
theorem nkOs_eq : ∀ {k : List PyData} {n : List NestedKey}, nkOs k = some n → k = nkDs n
  | [], n, e => by simp [nkOs] at e; subst e; rfl
  | x :: xs, n, e => by
    simp only [nkOs] at e
    cases q1 : nkO x with
    | none => rw [q1] at e; cases e
    | some k =>
      cases q2 : nkOs xs with
      | none => rw [q1, q2] at e; cases e
      | some ks => rw [q1, q2] at e; cases e; rw [nkO_eq q1, nkOs_eq q2]; rfl
end
mutual
theorem eqv_nk : ∀ a b : NestedKey, PyData.eqv (nkD a) (nkD b) = NestedKey.beq a b
  | .none, .none => rfl
  | .num a, .num b => by simp [nkD, PyData.eqv, NestedKey.beq]; exact Bool.beq_eq_decide_eq _ _
  | .text a, .text b => by simp [nkD, PyData.eqv, NestedKey.beq]; exact Bool.beq_eq_decide_eq _ _
  | .tup a, .tup b => by simp only [nkD, PyData.eqv, NestedKey.beq]; exact eqv_nks a b
  | .none, .num _ | .none, .text _ | .none, .tup _ => rfl
  | .num _, .none | .num _, .text _ | .num _, .tup _ => rfl
  | .text _, .none | .text _, .num _ | .text _, .tup _ => rfl
  | .tup _, .none | .tup _, .num _ | .tup _, .text _ => rfl
theorem eqv_nks : ∀ a b : List NestedKey, PyData.eqvAll (nkDs a) (nkDs b) = NestedKey.beqAll a b
  | [], [] => rfl
  | a :: as, b :: bs => by simp only [nkDs, PyData.eqvAll, NestedKey.beqAll]; rw [eqv_nk a b, eqv_nks as bs]
  | [], _ :: _ => rfl
  | _ :: _, [] => rfl
end
theorem beq_dec (a b : NestedKey) : NestedKey.beq a b = decide (a = b) := by
  by_cases h : a = b
  · subst h; simp [NestedKey.beq_self]
  · rw [decide_eq_false h]
    cases q : NestedKey.beq a b with
    | false => rfl
    | true => exact absurd (NestedKey.eq_of_beq a b q) h
theorem eqv_key (a b : Key) : PyData.eqv (keyD a) (keyD b) = decide (a = b) := by
  cases a <;> cases b
  · rw [key_ll]; rfl
  · rw [key_lr]; rfl
  · rw [key_rl]; rfl
  · rw [key_rr]
    simp only [keyD, PyData.eqv]
    exact Bool.beq_eq_decide_eq _ _

/-! ### on data -/
def kfind (kvs : List (PyData × PyData)) (k : PyData) : Option PyData := (kvs.find? fun q => PyData.eqv q.1 k).map (·.2)
def kput (kvs : List (PyData × PyData)) (k v : PyData) : List (PyData × PyData) :=
  if (kfind kvs k).isSome = true then kvs.map fun q => if PyData.eqv q.1 k = true then (q.1, v) else q else kvs ++ [(k, v)]
/-- what may be a key of such a dict -/
def kOk : Bool → PyData → Bool
  | false, .int _ => true
  | false, .str _ => true
  | true, .tuple xs => match nkO (.tuple xs) with
    | some n => decide (n.depth ≤ 8)
    | none => false
  | _, _ => false
theorem kOk_f {k : PyData} (h : kOk false k = true) : ∃ n : Key, k = keyD n := by
  cases k with
  | int i => exact ⟨.inl i, rfl⟩
  | str x => exact ⟨.inr x, rfl⟩
  | _ => cases h
theorem kOk_t {k : PyData} (h : kOk true k = true) : ∃ ks : List NestedKey, k = nkD (.tup ks) ∧ (NestedKey.tup ks).depth ≤ 8 := by
  cases k with
  | tuple xs =>
    simp only [kOk] at h
    cases q : nkO (.tuple xs) with
    | none => rw [q] at h; cases h
    | some n =>
      rw [q] at h
      have e := nkO_eq q
      cases n with
      | tup ks => exact ⟨ks, e, of_decide_eq_true h⟩
      | none => cases e
      | num i => cases e
      | text x => cases e
  | _ => cases h

section
variable {X : Cx} {pins : List (Addr × Obj)} {σ : L2.St} {H : Hp} {s : Shared} {ok : Addr → Prop}
theorem rep_key {v : V} {n : Key} (r : Rep X.K H ok v (keyD n)) : v = kV n ∧ keyS n := by
  cases n with
  | inl i => exact ⟨RepB.int (.inl r), trivial⟩
  | inr x => exact ⟨(RepB.str (.inl r)).1, (RepB.str (.inl r)).2⟩
mutual
theorem nested_is (I : Inv X pins σ H s) : ∀ (n : NestedKey) (v : V) (u : Value), Rep X.K H ok v (nkD n) → RelV v u → NestedIs s.heap n u
  | .none, v, u, r, rv => by cases RepB.none (.inl r); cases rv; exact .none
  | .num i, v, u, r, rv => by cases RepB.int (.inl r); obtain ⟨t, rfl⟩ := rv; exact .int i t
  | .text x, v, u, r, rv => by cases (RepB.str (.inl r)).1; obtain ⟨t, rfl⟩ := rv; exact .text x t
  | .tup ks, v, u, r, rv => by
    obtain ⟨a, xs, rfl, h1, _, h2⟩ := RepB.tuple (.inl r)
    cases rv
    obtain ⟨its, rvs, ⟨o, ho, hc, n, hd⟩, _⟩ := I.tuple h1
    exact .tup ho hc hd (nested_all I ks xs its h2 rvs)
theorem nested_all (I : Inv X pins σ H s) : ∀ (ks : List NestedKey) (vs : List V) (us : List Value), RepL X.K H ok vs (nkDs ks) → Vals vs us → NestedAll s.heap ks us
  | [], _, _, .nil, .nil => .nil
  | k :: ks, _, _, .cons r rs, .cons q qs => .cons (nested_is I k _ _ r q) (nested_all I ks _ _ rs qs)
end
abbrev nK (X : Cx) := nestedKind X.prog X.w
abbrev PrT (p : Par) (H : Hp) (ok : Addr → Prop) (x : NestedKey × Addr × Value) (q : PyData × PyData) : Prop := q.1 = nkD x.1 ∧ x.1.depth ≤ 8 ∧ Rep p.K H ok (.ref x.2.1) q.1 ∧ ∃ v, RelV v x.2.2 ∧ Rep p.K H ok v q.2
abbrev PrF (p : Par) (H : Hp) (ok : Addr → Prop) (x : Key × V) (q : PyData × PyData) : Prop := q.1 = keyD x.1 ∧ keyS x.1 ∧ Rep p.K H ok x.2 q.2
/-- the dict's object as the library wants it -/
theorem dct_h (I : Inv X pins σ H s) {a : Addr} {es : Array DictEntry} {ep : Nat} {xs : List (NestedKey × Addr × Value)} {kvs : List (PyData × PyData)} (e : H a = some (dTh a es ep)) (h1 : es.toList = xs.map (entryOfKey (nK X))) (h2 : (xs.map (·.1)).Nodup) (r : Paired (PrT (pX X) H ok) xs kvs) : s.heap.DictOfH (nK X) a xs := by
  have hk : ObjOk X.prog X.w H s.heap a (dTh a es ep) := I.hok a _ e
  obtain ⟨⟨o, ho, hx, hd⟩, _⟩ := hk
  refine ⟨o, es, ep, ho, hx, hd, h1, fun x hx => ?_, h2⟩
  have : ∀ {xs : List (NestedKey × Addr × Value)} {kvs : List (PyData × PyData)}, Paired (PrT (pX X) H ok) xs kvs → ∀ x ∈ xs, (nK X).is s.heap x.1 x.2.1 := by
    intro xs kvs r
    induction r with
    | nil => intro x hx; simp at hx
    | cons q _ ih =>
      intro x hx
      rcases List.mem_cons.mp hx with e | e
      · subst e
        obtain ⟨q1, q2, q3, _⟩ := q
        rw [q1] at q3
        exact ⟨nested_is I _ _ _ q3 rfl, q2⟩
      · exact ih x e
  exact this r x hx
theorem find_t {p : Par} {n : NestedKey} : ∀ {xs : List (NestedKey × Addr × Value)} {kvs : List (PyData × PyData)}, Paired (PrT p H ok) xs kvs → (kfind kvs (nkD n) = none ∧ atKey xs n = none) ∨ ∃ y q, kfind kvs (nkD n) = some y ∧ atKey xs n = some q ∧ ∃ v, RelV v q.2 ∧ Rep p.K H ok v y
  | _, _, .nil => .inl ⟨rfl, rfl⟩
  | x :: xs, q :: kvs, .cons r rs => by
    obtain ⟨q1, q2, q3, v, q4, q5⟩ := r
    have e : PyData.eqv q.1 (nkD n) = decide (x.1 = n) := by rw [q1, eqv_nk, beq_dec]
    unfold kfind atKey
    rw [List.find?_cons, List.find?_cons, e]
    by_cases h : x.1 = n
    · rw [decide_eq_true h]
      exact .inr ⟨q.2, x.2, rfl, rfl, v, q4, q5⟩
    · rw [decide_eq_false h]
      exact find_t rs
theorem find_f {p : Par} {n : Key} : ∀ {xs : List (Key × V)} {kvs : List (PyData × PyData)}, Paired (PrF p H ok) xs kvs → (kfind kvs (keyD n) = none ∧ valV xs n = none) ∨ ∃ y v, kfind kvs (keyD n) = some y ∧ valV xs n = some v ∧ Rep p.K H ok v y
  | _, _, .nil => .inl ⟨rfl, rfl⟩
  | x :: xs, q :: kvs, .cons r rs => by
    obtain ⟨q1, q2, q3⟩ := r
    have e : PyData.eqv q.1 (keyD n) = decide (x.1 = n) := by rw [q1, eqv_key]
    unfold kfind valV
    rw [List.find?_cons, List.find?_cons, e]
    by_cases h : x.1 = n
    · rw [decide_eq_true h]
      exact .inr ⟨q.2, x.2, rfl, rfl, q3⟩
    · rw [decide_eq_false h]
      exact find_f rs
theorem room8 {n : Nat} (h : n + 64 < cLine) : n + 1 + 8 < cLine := by omega
/-- d[k], where it is -/
theorem g_get {Q : VK} {a : Addr} {tp : Bool} {kvs : List (PyData × PyData)} {y : V} {u : Value} {k r : PyData} (hu : X.A.units + 64 < cLine) (I : Inv X pins σ H s) (d : DctAt (pX X) H ok a tp kvs) (ry : Rep X.K H ok y k) (rv : RelV y u) (hk : kOk tp k = true) (hf : kfind kvs k = some r)
    (q : ∀ v, Rep X.K H ok v r → Q v H) : wpAny (model X.prog X.w) X.A (getItem (.ref a) u) (EP X pins σ Q) X.xe s := by
  cases tp with
  | false =>
    obtain ⟨ks, e, r1⟩ := d
    obtain ⟨n, rfl⟩ := kOk_f hk
    obtain ⟨rfl, _⟩ := rep_key ry
    rcases find_f (n := n) r1 with ⟨z, _⟩ | ⟨z, v, h1, h2, h3⟩
    · rw [hf] at z; cases z
    · rw [hf] at h1; cases h1
      exact d_getItem (v := v) (by omega) I (by rw [← h2]; exact DGet.k e) rv fun w' s' I' rw' => ⟨v, H, I', rw', q v h3⟩
  | true =>
    obtain ⟨es, ep, xs, e, h1, h2, h3, h4, r1⟩ := d
    obtain ⟨ks, rfl, hd⟩ := kOk_t hk
    obtain ⟨b, ys, rfl, _⟩ := RepB.tuple (.inl ry)
    cases rv
    rcases find_t (n := .tup ks) r1 with ⟨z, _⟩ | ⟨z, w, g1, g2, v, g3, g4⟩
    · rw [hf] at z; cases z
    · rw [hf] at g1; cases g1
      exact wpAny_getItem_heap (knd := nK X) (room8 hu) ⟨nested_is I _ _ _ ry rfl, hd⟩ (dct_h I e h1 h2 r1) g2 ⟨v, H, I.tok _, g3, q v g4⟩
theorem g_in {Q : VK} {a : Addr} {tp : Bool} {kvs : List (PyData × PyData)} {y : V} {u : Value} {k : PyData} (hu : X.A.units + 64 < cLine) (I : Inv X pins σ H s) (d : DctAt (pX X) H ok a tp kvs) (ry : Rep X.K H ok y k) (rv : RelV y u) (hk : kOk tp k = true)
    (q : Q (.bl (kfind kvs k).isSome) H) : wpAny (model X.prog X.w) X.A (compareOp .In u (.ref a)) (EP X pins σ Q) X.xe s := by
  cases tp with
  | false =>
    obtain ⟨ks, e, r1⟩ := d
    obtain ⟨n, rfl⟩ := kOk_f hk
    obtain ⟨rfl, _⟩ := rep_key ry
    refine d_in (by omega) I (DGet.k (k := n) e) rv fun s' I' => ⟨.bl _, H, I', rfl, ?_⟩
    rcases find_f (n := n) r1 with ⟨z, w⟩ | ⟨z, v, h1, h2, h3⟩
    · rw [w]; rw [z] at q; exact q
    · rw [h2]; rw [h1] at q; exact q
  | true =>
    obtain ⟨es, ep, xs, e, h1, h2, h3, h4, r1⟩ := d
    obtain ⟨ks, rfl, hd⟩ := kOk_t hk
    obtain ⟨b, ys, rfl, _⟩ := RepB.tuple (.inl ry)
    cases rv
    refine wpAny_in_heap (knd := nK X) (room8 hu) ⟨nested_is I _ _ _ ry rfl, hd⟩ h3 (dct_h I e h1 h2 r1) ⟨.bl _, H, I.tok _, rfl, ?_⟩
    rcases find_t (n := .tup ks) r1 with ⟨z, w⟩ | ⟨z, w, g1, g2, v, g3, g4⟩
    · rw [w]; rw [z] at q; exact q
    · rw [g2]; rw [g1] at q; exact q
theorem g_notIn {Q : VK} {a : Addr} {tp : Bool} {kvs : List (PyData × PyData)} {y : V} {u : Value} {k : PyData} (hu : X.A.units + 64 < cLine) (I : Inv X pins σ H s) (d : DctAt (pX X) H ok a tp kvs) (ry : Rep X.K H ok y k) (rv : RelV y u) (hk : kOk tp k = true)
    (q : Q (.bl (!(kfind kvs k).isSome)) H) : wpAny (model X.prog X.w) X.A (compareOp .NotIn u (.ref a)) (EP X pins σ Q) X.xe s := by
  cases tp with
  | false =>
    obtain ⟨ks, e, r1⟩ := d
    obtain ⟨n, rfl⟩ := kOk_f hk
    obtain ⟨rfl, _⟩ := rep_key ry
    refine d_notIn (by omega) I (DGet.k (k := n) e) rv fun s' I' => ⟨.bl _, H, I', rfl, ?_⟩
    rcases find_f (n := n) r1 with ⟨z, w⟩ | ⟨z, v, h1, h2, h3⟩
    · rw [w]; rw [z] at q; exact q
    · rw [h2]; rw [h1] at q; exact q
  | true =>
    obtain ⟨es, ep, xs, e, h1, h2, h3, h4, r1⟩ := d
    obtain ⟨ks, rfl, hd⟩ := kOk_t hk
    obtain ⟨b, ys, rfl, _⟩ := RepB.tuple (.inl ry)
    cases rv
    refine wpAny_notIn_heap (knd := nK X) (room8 hu) ⟨nested_is I _ _ _ ry rfl, hd⟩ h3 (dct_h I e h1 h2 r1) ⟨.bl _, H, I.tok _, rfl, ?_⟩
    rcases find_t (n := .tup ks) r1 with ⟨z, w⟩ | ⟨z, w, g1, g2, v, g3, g4⟩
    · rw [w]; rw [z] at q; exact q
    · rw [g2]; rw [g1] at q; exact q
/-- d.get(k, z) -/
theorem g_getD {Q : VK} {a : Addr} {tp : Bool} {kvs : List (PyData × PyData)} {y z : V} {u uz : Value} {k dz : PyData} (hu : X.A.units + 64 < cLine) (I : Inv X pins σ H s) (d : DctAt (pX X) H ok a tp kvs) (ry : Rep X.K H ok y k) (rv : RelV y u) (rz : Rep X.K H ok z dz) (ruz : RelV z uz) (hk : kOk tp k = true)
    (q : ∀ v, Rep X.K H ok v ((kfind kvs k).getD dz) → Q v H) : wpAny (model X.prog X.w) X.A (call (.builtin "dict.get") [.ref a, u, uz]) (EP X pins σ Q) X.xe s := by
  cases tp with
  | false =>
    obtain ⟨ks, e, r1⟩ := d
    obtain ⟨n, rfl⟩ := kOk_f hk
    obtain ⟨rfl, _⟩ := rep_key ry
    refine d_get2 (by omega) I (DGet.k (k := n) e) rv ruz fun w' s' I' rw' => ⟨_, H, I', rw', q _ ?_⟩
    rcases find_f (n := n) r1 with ⟨z1, w⟩ | ⟨z1, v, h1, h2, h3⟩
    · rw [w, z1]; exact rz
    · rw [h2, h1]; exact h3
  | true =>
    obtain ⟨es, ep, xs, e, h1, h2, h3, h4, r1⟩ := d
    obtain ⟨ks, rfl, hd⟩ := kOk_t hk
    obtain ⟨b, ys, rfl, _⟩ := RepB.tuple (.inl ry)
    cases rv
    have dd := dct_h I e h1 h2 r1
    refine call_meetsIn PySem.F.slot_dict_get dd.typeIs PySem.F.entry_dict_get (PySem.F.args_dict_get_3 _ _ _) (meetsH_dict_get_default (nK X) a b h3 uz) ⟨room8 hu, .tup ks, xs, ⟨nested_is I _ _ _ ry rfl, hd⟩, dd, ?_⟩
    rcases find_t (n := .tup ks) r1 with ⟨z1, w⟩ | ⟨z1, w, g1, g2, v, g3, g4⟩
    · rw [w]; rw [z1] at q
      exact ⟨z, H, I.tok _, ruz, q z rz⟩
    · rw [g2]; rw [g1] at q
      exact ⟨v, H, I.tok _, g3, q v g4⟩
end
end G
/-! GN: dicts: written, new; as expressions and statements. -/
namespace G
open PySem PySem.Spec PyProof.Rows L2

section
variable {p : Par} {H : Hp} {ok : Addr → Prop}
theorem find_isSome {α : Type} {f : α → Bool} {l : List α} : (l.find? f).isSome = l.any f := by
  induction l with
  | nil => rfl
  | cons a l ih =>
    rw [List.find?_cons, List.any_cons]
    cases f a <;> simp [ih]
theorem kfind_any (kvs : List (PyData × PyData)) (k : PyData) : (kfind kvs k).isSome = kvs.any fun q => PyData.eqv q.1 k := by
  unfold kfind
  rw [Option.isSome_map, find_isSome]
theorem Paired.mapB {α β γ δ : Type} {R : α → β → Prop} {S : γ → δ → Prop} {f : α → γ} {g : β → δ} (h : ∀ a b, R a b → S (f a) (g b)) : ∀ {l : List α} {m : List β}, Paired R l m → Paired S (l.map f) (m.map g)
  | _, _, .nil => .nil
  | _, _, .cons r rs => .cons (h _ _ r) (Paired.mapB h rs)
theorem Paired.snoc {α β : Type} {R : α → β → Prop} {a : α} {b : β} (h : R a b) : ∀ {l : List α} {m : List β}, Paired R l m → Paired R (l ++ [a]) (m ++ [b])
  | _, _, .nil => .cons h .nil
  | _, _, .cons r rs => .cons r (Paired.snoc h rs)
theorem put_f {n : Key} {v : V} {y : PyData} {xs : List (Key × V)} {kvs : List (PyData × PyData)} (r : Paired (PrF p H ok) xs kvs) (hs : keyS n) (rv : Rep p.K H ok v y) : Paired (PrF p H ok) (putK xs n v) (kput kvs (keyD n) y) := by
  unfold putK kput
  have e : (xs.any fun kv => decide (kv.1 = n)) = (kfind kvs (keyD n)).isSome := by
    rw [valV_any]
    rcases find_f (n := n) r with ⟨h1, h2⟩ | ⟨_, _, h1, h2, _⟩ <;> rw [h1, h2] <;> rfl
  rw [e]
  split
  · refine Paired.mapB (fun a b h => ?_) r
    obtain ⟨q1, q2, q3⟩ := h
    have e : PyData.eqv b.1 (keyD n) = decide (a.1 = n) := by rw [q1, eqv_key]
    rw [e]
    by_cases ha : a.1 = n
    · rw [if_pos ha, if_pos (decide_eq_true ha)]; exact ⟨q1, q2, rv⟩
    · rw [if_neg ha, if_neg (by rw [decide_eq_false ha]; decide)]; exact ⟨q1, q2, q3⟩
  · exact Paired.snoc ⟨rfl, hs, rv⟩ r
theorem put_t {n : NestedKey} {b : Addr} {u : Value} {v : V} {y : PyData} {xs : List (NestedKey × Addr × Value)} {kvs : List (PyData × PyData)} (r : Paired (PrT p H ok) xs kvs) (hd : n.depth ≤ 8) (rk : Rep p.K H ok (.ref b) (nkD n)) (ru : RelV v u) (rv : Rep p.K H ok v y) : Paired (PrT p H ok) (storedH xs n b u) (kput kvs (nkD n) y) := by
  unfold storedH kput
  have e : (atKey xs n).isSome = (kfind kvs (nkD n)).isSome := by
    rcases find_t (n := n) r with ⟨h1, h2⟩ | ⟨_, _, h1, h2, _⟩ <;> rw [h1, h2] <;> rfl
  rw [e]
  split
  · refine Paired.mapB (fun a c h => ?_) r
    obtain ⟨q1, q2, q3, w, q4, q5⟩ := h
    have e : PyData.eqv c.1 (nkD n) = decide (a.1 = n) := by rw [q1, eqv_nk, beq_dec]
    rw [e]
    unfold putAt
    by_cases ha : a.1 = n
    · rw [if_pos ha, if_pos (decide_eq_true ha)]; exact ⟨q1, q2, q3, v, ru, rv⟩
    · rw [if_neg ha, if_neg (by rw [decide_eq_false ha]; decide)]; exact ⟨q1, q2, q3, w, q4, q5⟩
  · exact Paired.snoc ⟨rfl, hd, rk, v, ru, rv⟩ r
theorem kput_len (kvs : List (PyData × PyData)) (k v : PyData) : (kput kvs k v).length ≤ kvs.length + 1 := by
  unfold kput
  split
  · rw [List.length_map]; omega
  · simp
end
/-- a dict that is written: tuples stand -/
theorem wr_td {p : Par} {H : Hp} {ok : Addr → Prop} {a : Addr} {tp : Bool} {kvs : List (PyData × PyData)} {o : HO} (d : DctAt p H ok a tp kvs) : ∀ b xs, Rd H b (.tup xs) → Rd (upd H a o) b (.tup xs) := fun b xs r => by
  obtain ⟨_, _, z⟩ := d.there
  have ne : b ≠ a := fun e => z xs (by rw [← e]; exact r)
  rcases r with r | ⟨u, r⟩
  · exact .inl (by rw [upd_ne ne]; exact r)
  · exact .inr ⟨u, by rw [upd_ne ne]; exact r⟩
section
variable {X : Cx} {pins : List (Addr × Obj)} {σ : L2.St} {H : Hp} {s : Shared} {ok : Addr → Prop}
theorem g_set {Q : Hp → Prop} {a : Addr} {tp : Bool} {kvs : List (PyData × PyData)} {y v : V} {u r : Value} {k dv : PyData} (hu : X.A.units + 64 < cLine) (I : Inv X pins σ H s) (d : DctAt (pX X) H ok a tp kvs) (hne : ∀ b, ok b → b ≠ a) (ry : Rep X.K H ok y k) (ru : RelV y u) (rv : Rep X.K H ok v dv) (rr : RelV v r) (hk : kOk tp k = true) (hl : kvs.length < 1000000)
    (q : ∀ o, Keep H (upd H a o) ok ok → DctAt (pX X) (upd H a o) ok a tp (kput kvs k dv) → Q (upd H a o)) : wpAny (model X.prog X.w) X.A (setItem (.ref a) u r) (fun _ s' => ∃ H', Inv X pins σ H' s' ∧ Q H') X.xe s := by
  have kp : ∀ o, Keep H (upd H a o) ok ok := fun o => ⟨fun b w hb e => ⟨hb, by rw [upd_ne (hne b hb)]; exact e⟩, wr_td d⟩
  cases tp with
  | false =>
    obtain ⟨ks, e, r1⟩ := d
    obtain ⟨n, rfl⟩ := kOk_f hk
    obtain ⟨rfl, hs⟩ := rep_key ry
    have l1 : ks.length = kvs.length := Paired.length r1
    refine d_setItem (by omega) I (DPut.k (k := n) (v := v) e (by rw [sizeLine_eq]; omega)) ru rr fun s' I' => ⟨_, I', q _ (kp _) ⟨_, upd_same, ?_⟩⟩
    exact Paired.mapP (put_f r1 hs rv) fun _ _ ⟨h1, h2, h3⟩ => ⟨h1, h2, h3.keep (kp _)⟩
  | true =>
    obtain ⟨es, ep, xs, e, h1, h2, h3, h4, r1⟩ := d
    obtain ⟨ks, rfl, hd⟩ := kOk_t hk
    obtain ⟨b, ys, rfl, _⟩ := RepB.tuple (.inl ry)
    cases ru
    have l1 : xs.length = kvs.length := Paired.length r1
    refine wpAny_setItem_heap (knd := nK X) (hsz := by rw [l1]; exact h4) (room8 hu) ⟨nested_is I _ _ _ ry rfl, hd⟩ (dct_h I e h1 h2 r1) fun h' dd hs => ?_
    obtain ⟨o, es', ep', ho, hx, hda, he, _, hnd⟩ := dd
    have p1 := put_t r1 hd ry rr rv
    have l2 : (storedH xs (.tup ks) b r).length = (kput kvs (nkD (.tup ks)) dv).length := Paired.length p1
    refine ⟨upd H a (dTh a es' ep'), ?_, q _ (kp _) ⟨es', ep', _, upd_same, he, hnd, h3, ?_, ?_⟩⟩
    · refine I.write (t' := _) (x := a) (e := a) (by rw [e]; exact True.intro) (.inl rfl) (fun c w hc z => (hs.2 c hc).trans z) ⟨o, ho⟩ ?_
      exact ⟨⟨o, ho, hx, hda⟩, ⟨o, ho⟩, fun g1 g2 ⟨o1, z1, z2⟩ kk => ⟨o1, kk _ z1, z2⟩⟩
    · have := kput_len kvs (nkD (.tup ks)) dv
      rw [sizeLine_eq]; omega
    · exact Paired.mapP p1 fun _ _ ⟨g1, g2, g3, w, g4, g5⟩ => ⟨g1, g2, g3.keep (kp _), w, g4, g5.keep (kp _)⟩
end

/-! ### {} -/
def tNewT (a : Addr) : HO := dTh a #[] 0
section
variable {X : Cx} {x : XW} {a b d : Expr} {f g h : Fr → Res AV} {pos : Pos}
theorem pe_newT : PE X (.Dict [] [] pos) (fun _ H Q => ∀ p, H p = none → (p == sysModules) = false → Q (.ref p) (upd H p (dTh p #[] 0))) := ⟨fun pins s σ H Q I hh => by
  have hb : (s.heap.objs.size == sysModules) = false := beq_eq_false_iff_ne.mpr (Ne.symm (Nat.ne_of_lt I.big))
  refine wpAny_Dict_empty ⟨.ref s.heap.objs.size, _, I.laid (a := s.heap.objs.size) (o := dTh s.heap.objs.size #[] 0) (t' := s.toks) (fun _ _ q => Heap.get?_push_of_some _ q) (Nat.le_refl _) ?_, rfl, hh _ (I.hok.fresh (Nat.le_refl _)) hb⟩
  refine ⟨⟨_, Heap.get?_push_size _ rfl, ⟨rfl, rfl, rfl⟩, rfl⟩, ⟨_, Heap.get?_push_size _ rfl⟩, fun g1 g2 ⟨o1, z1, z2⟩ kk => ⟨o1, kk _ z1, z2⟩⟩⟩
/-- name = {}, to be written; tp: its keys are tuples -/
def sNewD (i : Nat) (tp : Bool) : Fr → SRes := fun fr => .nx ((fr.newc (.dct tp [])).setv i (some (.cel fr.cells.length)))
theorem as_newD {i : Nat} {n : Str} {p1 p2 : Pos} (tp : Bool) (hN : X.N.Nodup) (hi : X.N[i]? = some n) (hx : Loc X.env.scope n) (hs : swapsWith (.Dict [] [] p2) (some (.Name n p1)) pos.line X.env = pure false := by rfl)
    (hf : X.fn n = true ∨ X.env.scope.names.lookup n = some .local := by first | exact .inl rfl | exact .inr rfl | assumption) : AS X x (.Assign [.Name n p1] (.Dict [] [] p2) pos) (sNewD i tp) := by
  cases tp with
  | false =>
    refine (ps_set hN hi hx pe_dnewK hs hf).imp fun D σ H ⟨c, fr, ad, F, o⟩ p hp => ?_
    have F2 := F.newc (o := .dK []) (cl := .dct false []) hp fun ok hok => ⟨[], upd_same, .nil⟩
    exact o _ _ _ (F2.setv (a := .cel fr.cells.length) ⟨p, rfl, by rw [F.clen]; simp⟩)
  | true =>
    refine (ps_set hN hi hx pe_newT hs hf).imp fun D σ H ⟨c, fr, ad, F, o⟩ p hp hm => ?_
    have F2 := F.newc (o := dTh p #[] 0) (cl := .dct true []) hp fun ok hok => ⟨#[], 0, [], upd_same, rfl, List.nodup_nil, hm, Nat.zero_le _, .nil⟩
    exact o _ _ _ (F2.setv (a := .cel fr.cells.length) ⟨p, rfl, by rw [F.clen]; simp⟩)

/-! ### as expressions -/
/-- a dict that is read -/
@[simp] def Fr.dview (fr : Fr) : AV → Option (Bool × List (PyData × PyData))
  | .dct tp kvs => some (tp, kvs)
  | .cel i => match fr.cells[i]? with
    | some (.dct tp kvs) => some (tp, kvs)
    | _ => none
  | _ => none
theorem dview_rep {p : Par} {c : Ent} {fr : Fr} {ad : List (Option Addr)} {σ : L2.St} {H : Hp} (F : FR p c fr ad σ H) {v : V} {av : AV} {tp : Bool} {kvs : List (PyData × PyData)} (r : RepA p H (okP c ad) ad v av) (e : fr.dview av = some (tp, kvs)) : ∃ l, v = .ref l ∧ DctAt p H (okP c ad) l tp kvs := by
  cases av with
  | dct tp' kvs' => cases e; obtain ⟨l, rfl, _, d⟩ := r; exact ⟨l, rfl, d⟩
  | cel i =>
    obtain ⟨l, rfl, q⟩ := r
    obtain ⟨cl, h1, h2⟩ := F.cel i l q
    unfold Fr.dview at e
    simp only [h1] at e
    cases cl with
    | dct tp' kvs' => cases e; exact ⟨l, rfl, h2⟩
    | _ => cases e
  | _ => cases e
def dget (tp : Bool) (kvs : List (PyData × PyData)) (k : PyData) : Option PyData := if kOk tp k = true then kfind kvs k else none
@[simp] def xDGet (f g : Fr → Res AV) : Fr → Res AV := fun fr => (f fr).bind fun a fr1 => (g fr1).bind fun b fr2 => match fr2.dview a, b with
  | some (tp, kvs), .dat k => ofO fr2 (dget tp kvs k)
  | _, _ => .err
theorem dct_ty {pins : List (Addr × Obj)} {σ : L2.St} {H : Hp} {s : Shared} {ok : Addr → Prop} {l : Addr} {tp : Bool} {kvs : List (PyData × PyData)} (I : Inv X pins σ H s) (hd : DctAt (pX X) H ok l tp kvs) : s.TypeIs (.ref l) "dict" := by
  cases tp with
  | false =>
    obtain ⟨ks, e, _⟩ := hd
    obtain ⟨_, _, vs, _, o, es, ep, h1, h2, _⟩ := I.hok l _ e
    exact ⟨o, h1, h2.1⟩
  | true =>
    obtain ⟨es, ep, xs, e, _⟩ := hd
    obtain ⟨⟨o, h1, h2, _⟩, _⟩ := (show ObjOk X.prog X.w H s.heap l (dTh l es ep) from I.hok l _ e)
    exact ⟨o, h1, h2.1⟩
def rDG (X : Cx) : R2 := fun xv yv H Q => ∃ (ok : Addr → Prop) (l : Addr) (tp : Bool) (kvs : List (PyData × PyData)) (k r : PyData), xv = .ref l ∧ DctAt (pX X) H ok l tp kvs ∧ Rep X.K H ok yv k ∧ kOk tp k = true ∧ kfind kvs k = some r ∧ ∀ v, Rep X.K H ok v r → Q v H
theorem pe_gd {td ty : TE} (hu : X.A.units + 64 < cLine) (ho : PE X a td) (hi : PE X b ty) (hs : NoSl b) : PE X (.Subscript a b pos) (tOp (rDG X) td ty) := by
  refine ⟨fun pins s σ H Q I hh => ?_⟩
  refine subD_of PySem.F.slot_dict_getitem.lookup hs (thn (ho.run pins s σ H _ I hh) fun u s1 ⟨xv, H1, I1, rx, q1⟩ => thn (hi.run pins s1 σ H1 _ I1 q1) fun iv s2 ⟨yv, H2, I2, ry, ok, l, tp, kvs, k, r, ex, hd, hr, hk, hf, q⟩ => ?_)
  subst ex
  cases rx
  exact ⟨dct_ty I2 hd, g_get hu I2 hd hr ry hk hf q⟩
theorem ae_dget (hu : X.A.units + 64 < cLine) (ha : AE X x a f) (hb : AE X x b g) (hs : NoSl b := by intro _ _; rfl) : AE X x (.Subscript a b pos) (xDGet f g) := by
  refine (pe_gd hu ha hb hs).imp fun σ H Q ⟨c, fr, ad, F, o⟩ => ⟨c, fr, ad, F, (Out.bind F o).mono fun av fr1 ad1 H1 F1 m1 o1 v rv => ?_⟩
  refine ⟨c, fr1, ad1, F1, (Out.bind F1 o1).mono fun bv fr2 ad2 H2 F2 m2 o2 w rw_ => ?_⟩
  have rv2 := RepA.mv F1 m2 rv
  cases q1 : fr2.dview av with
  | none => rw [q1] at o2; exact o2.elim
  | some z =>
    obtain ⟨tp, kvs⟩ := z
    cases bv with
    | dat k =>
      rw [q1] at o2
      simp only [dget] at o2
      split at o2
      · rename_i hk
        cases q3 : kfind kvs k with
        | none => rw [q3] at o2; exact o2.elim
        | some r =>
          rw [q3] at o2
          obtain ⟨l, rfl, dd⟩ := dview_rep F2 rv2 q1
          exact ⟨okP c ad2, l, tp, kvs, k, r, rfl, dd, rw_, hk, q3, fun v2 r2 => o2 ad2 H2 F2 Mv.refl v2 r2⟩
      · exact o2.elim
    | _ => rw [q1] at o2; exact o2.elim
/-- k in d, k not in d -/
@[simp] def xDIn (neg : Bool) (f g : Fr → Res AV) : Fr → Res AV := fun fr => (f fr).bind fun a fr1 => (g fr1).bind fun b fr2 => match fr2.dview b, a with
  | some (tp, kvs), .dat k => if kOk tp k = true then .ok (.dat (.bool (if neg = true then !(kfind kvs k).isSome else (kfind kvs k).isSome))) fr2 else .err
  | _, _ => .err
def rDI (X : Cx) (neg : Bool) : R2 := fun yv xv H Q => ∃ (ok : Addr → Prop) (l : Addr) (tp : Bool) (kvs : List (PyData × PyData)) (k : PyData), xv = .ref l ∧ DctAt (pX X) H ok l tp kvs ∧ Rep X.K H ok yv k ∧ kOk tp k = true ∧ Q (.bl (if neg = true then !(kfind kvs k).isSome else (kfind kvs k).isSome)) H
theorem o_din (hu : X.A.units + 64 < cLine) : OpR X (compareOp .In) (rDI X false) := by
  intro pins s σ H yv xv u v Q I ry rx hh
  obtain ⟨ok, l, tp, kvs, k, rfl, hd, hr, hk, q⟩ := hh
  cases rx
  exact g_in hu I hd hr ry hk (by simpa using q)
theorem o_dnotin (hu : X.A.units + 64 < cLine) : OpR X (compareOp .NotIn) (rDI X true) := by
  intro pins s σ H yv xv u v Q I ry rx hh
  obtain ⟨ok, l, tp, kvs, k, rfl, hd, hr, hk, q⟩ := hh
  cases rx
  exact g_notIn hu I hd hr ry hk (by simpa using q)
theorem tE_din {neg : Bool} {σ : L2.St} {H : Hp} {Q : VK} (hh : tE (pX X) x (xDIn neg f g) σ H Q) : tOp (rDI X neg) (tE (pX X) x f) (tE (pX X) x g) σ H Q := by
  obtain ⟨c, fr, ad, F, o⟩ := hh
  refine ⟨c, fr, ad, F, (Out.bind F o).mono fun av fr1 ad1 H1 F1 m1 o1 v rv => ?_⟩
  refine ⟨c, fr1, ad1, F1, (Out.bind F1 o1).mono fun bv fr2 ad2 H2 F2 m2 o2 w rw_ => ?_⟩
  have rv2 := RepA.mv F1 m2 rv
  cases q1 : fr2.dview bv with
  | none => rw [q1] at o2; exact o2.elim
  | some z =>
    obtain ⟨tp, kvs⟩ := z
    cases av with
    | dat k =>
      rw [q1] at o2
      simp only at o2
      split at o2
      · rename_i hk
        obtain ⟨l, rfl, dd⟩ := dview_rep F2 rw_ q1
        exact ⟨okP c ad2, l, tp, kvs, k, rfl, dd, rv2, hk, o2 ad2 H2 F2 Mv.refl _ (.bl _)⟩
      · exact o2.elim
    | _ => rw [q1] at o2; exact o2.elim
theorem ae_din (hu : X.A.units + 64 < cLine) (ha : AE X x a f) (hb : AE X x b g) (hm : behindInMarks .In b = false) : AE X x (.Compare a [.In] [b] pos) (xDIn false f g) := (pe_cmpR (o_din hu) ha hb hm).imp fun _ _ _ h => tE_din h
theorem ae_dnotin (hu : X.A.units + 64 < cLine) (ha : AE X x a f) (hb : AE X x b g) (hm : behindInMarks .NotIn b = false) : AE X x (.Compare a [.NotIn] [b] pos) (xDIn true f g) := (pe_cmpR (o_dnotin hu) ha hb hm).imp fun _ _ _ h => tE_din h
theorem at_din (hu : X.A.units + 64 < cLine) (ha : AE X x a f) (hb : AE X x b g) (hm : behindInMarks .In b = false) : AT X x (.Compare a [.In] [b] pos) (xB (xDIn false f g)) := (pt_cmpR (o_din hu) ha hb hm).imp fun _ _ _ h => tE_din (tT_tB h)
theorem at_dnotin (hu : X.A.units + 64 < cLine) (ha : AE X x a f) (hb : AE X x b g) (hm : behindInMarks .NotIn b = false) : AT X x (.Compare a [.NotIn] [b] pos) (xB (xDIn true f g)) := (pt_cmpR (o_dnotin hu) ha hb hm).imp fun _ _ _ h => tE_din (tT_tB h)
/-- d.get(k, z) -/
@[simp] def xDGetD (f g h : Fr → Res AV) : Fr → Res AV := fun fr => (f fr).bind fun a fr1 => match fr1.dview a with
  | some _ => (g fr1).bind fun b fr2 => (h fr2).bind fun z fr3 => (match fr3.dview a, b, z with
    | some (tp, kvs), .dat k, .dat dz => if kOk tp k = true then .ok (.dat ((kfind kvs k).getD dz)) fr3 else .err
    | _, _, _ => .err)
  | none => .err
def tGD (X : Cx) (td ty tz : TE) : TE := fun σ H Q => td σ H fun xv H1 => ∃ l ok tp kvs, xv = .ref l ∧ DctAt (pX X) H1 ok l tp kvs ∧ ty σ H1 fun yv H2 => tz σ H2 fun zv H3 => ∃ (ok : Addr → Prop) (tp : Bool) (kvs : List (PyData × PyData)) (k dz : PyData), DctAt (pX X) H3 ok l tp kvs ∧ Rep X.K H3 ok yv k ∧ Rep X.K H3 ok zv dz ∧ kOk tp k = true ∧ ∀ v, Rep X.K H3 ok v ((kfind kvs k).getD dz) → Q v H3
theorem dct_nod {pins : List (Addr × Obj)} {σ : L2.St} {H : Hp} {s : Shared} {ok : Addr → Prop} {l : Addr} {tp : Bool} {kvs : List (PyData × PyData)} (I : Inv X pins σ H s) (hd : DctAt (pX X) H ok l tp kvs) : ∃ o, s.heap.get? l = some o ∧ o.dict = none := by
  cases tp with
  | false =>
    obtain ⟨ks, e, _⟩ := hd
    obtain ⟨_, _, vs, _, o, es, ep, h1, h2, _⟩ := I.hok l _ e
    exact ⟨o, h1, h2.2.1⟩
  | true =>
    obtain ⟨es, ep, xs, e, _⟩ := hd
    obtain ⟨⟨o, h1, h2, _⟩, _⟩ := (show ObjOk X.prog X.w H s.heap l (dTh l es ep) from I.hok l _ e)
    exact ⟨o, h1, h2.2.1⟩
theorem pe_gD {td ty tz : TE} {p1 : Pos} (hu : X.A.units + 64 < cLine) (ho : PE X a td) (he : PE X b ty) (hf : PE X d tz) (m : M2 X a "get" p1 b d pos) : PE X (.Call (.Attribute a "get" p1) [b, d] [] pos) (tGD X td ty tz) := by
  refine ⟨fun pins s σ H Q I hh => ?_⟩
  refine wpAny_Call_method m.base m.few m.line PySem.F.plainAttrs_dict PySem.F.slot_dict_get PySem.F.type_dict_get (thn (ho.run pins s σ H _ I hh) fun u s1 hq => ?_)
  obtain ⟨xv, H1, I1, rx, l, ok, tp, kvs, rfl, hd, q1⟩ := hq
  cases rx
  refine ⟨dct_ty I1 hd, fun b0 e0 => by cases e0; exact dct_nod I1 hd, ?_⟩
  rw [m.trees]
  refine Calls.callWith_builtin rfl (Calls.evalArgs_plain (Calls.spliced_cons (thn (he.run pins s1 σ H1 _ I1 q1) fun iv s2 hq2 => ?_)))
  obtain ⟨yv, H2, I2, ry, q2⟩ := hq2
  refine Calls.spliced_cons (thn (hf.run pins s2 σ H2 _ I2 q2) fun fv s3 hq3 => Calls.spliced_nil ?_)
  obtain ⟨zv, H3, I3, rz, ok3, tp3, kvs3, k, dz, hd3, hr, hz, hk, q⟩ := hq3
  exact g_getD hu I3 hd3 hr ry hz rz hk q
theorem ae_dgetD {p1 : Pos} (hu : X.A.units + 64 < cLine) (ha : AE X x a f) (hb : AE X x b g) (hd : AE X x d h) (m : M2 X a "get" p1 b d pos) : AE X x (.Call (.Attribute a "get" p1) [b, d] [] pos) (xDGetD f g h) := by
  refine (pe_gD hu ha hb hd m).imp fun σ H Q ⟨c, fr, ad, F, o⟩ => ⟨c, fr, ad, F, (Out.bind F o).mono fun av fr1 ad1 H1 F1 m1 o1 v rv => ?_⟩
  cases q1 : fr1.dview av with
  | none => rw [q1] at o1; exact o1.elim
  | some z =>
    obtain ⟨tp, kvs⟩ := z
    rw [q1] at o1
    obtain ⟨l, rfl, dd⟩ := dview_rep F1 rv q1
    refine ⟨l, _, tp, kvs, rfl, dd, c, fr1, ad1, F1, (Out.bind F1 o1).mono fun bv fr2 ad2 H2 F2 m2 o2 w rw_ => ?_⟩
    refine ⟨c, fr2, ad2, F2, (Out.bind F2 o2).mono fun zv fr3 ad3 H3 F3 m3 o3 y ry => ?_⟩
    have rv3 := RepA.mv F2 m3 (RepA.mv F1 m2 rv)
    have rw3 := RepA.mv F2 m3 rw_
    cases q3 : fr3.dview av with
    | none => rw [q3] at o3; exact o3.elim
    | some z3 =>
      obtain ⟨tp3, kvs3⟩ := z3
      rw [q3] at o3
      cases bv with
      | dat k =>
        cases zv with
        | dat dz =>
          simp only at o3
          split at o3
          · rename_i hk
            obtain ⟨l3, e3, dd3⟩ := dview_rep F3 rv3 q3
            cases e3
            exact ⟨okP c ad3, tp3, kvs3, k, dz, dd3, rw3, ry, hk, fun v4 r4 => o3 ad3 H3 F3 Mv.refl v4 r4⟩
          · exact o3.elim
        | _ => exact o3.elim
      | _ => exact o3.elim
end
end G
/-! GO: enumerate and zip over lists and tuples. -/
namespace G
open PySem PySem.Spec PyProof.Rows L2

def SqB (K : PySem.W.Frag) : Bool → Hp → Addr → List V → Prop
  | true, H, a, xs => SqL K H a xs
  | false, H, a, xs => SqT K H a xs
def IterB : Bool → Heap → Addr → Addr → Nat → Prop
  | true, h, it, a, i => h.IsListIter it a i
  | false, h, it, a, i => h.IsTupleIter it a i
def IsB : Bool → Heap → Addr → Array Value → Prop
  | true, h, a, items => h.IsList a items
  | false, h, a, items => h.IsTuple a items
section
variable {prog : Program} {w : World} {A : Around} {h h' : Heap} {it a : Addr} {i : Nat} {l : Bool}
theorem IterB.at (st : IterB l h it a i) (k : ∀ o, h.get? it = some o → h'.get? it = some o) : IterB l h' it a i := by
  cases l with
  | true => exact Heap.IsListIter.at st k
  | false => exact Heap.IsTupleIter.at st k
theorem IterB.there (st : IterB l h it a i) : ∃ o, h.get? it = some o ∧ ∀ v, o.data ≠ .cell v := by
  cases l with
  | true => obtain ⟨o, e, c, d⟩ := st; exact ⟨o, e, fun v z => by rw [d] at z; cases z⟩
  | false => obtain ⟨o, e, c, d⟩ := st; exact ⟨o, e, fun v z => by rw [d] at z; cases z⟩
theorem drawsB (l : Bool) (hh : A.handled = none) (it a : Addr) (hne : a ≠ it) (items : Array Value) :
    Draws prog w A it [it, a] items.size (fun i v => items[i]? = some v) (fun i h => IterB l h it a i ∧ IsB l h a items) := by
  cases l with
  | true => exact Draws.list hh it a hne items
  | false => exact Draws.tuple hh it a hne items
def objB (l : Bool) (a : Addr) : Obj := if l = true then { cls := .type "list_iterator", data := .fields #[.ref a, .int 0 0] } else { cls := .type "tuple_iterator", data := .fields #[.ref a, .int 0 0] }
theorem beginsB (l : Bool) (a : Addr) (items : Array Value) : Begins (.ref a) (objB l a) fun h => IsB l h a items := by
  cases l with
  | true => exact begins_list a items
  | false => exact begins_tuple a items
theorem iterB_new (l : Bool) (a : Addr) (e : h.get? it = some (objB l a)) : IterB l h it a 0 := by
  cases l with
  | true => exact ⟨_, e, rfl, rfl⟩
  | false => exact ⟨_, e, rfl, rfl⟩
end
section
variable {X : Cx} {pins : List (Addr × Obj)} {σ : L2.St} {H : Hp} {s : Shared} {l : Bool} {a : Addr} {xs ys : List V}
theorem seqB (I : Inv X pins σ H s) (h : SqB X.K l H a xs) : ∃ its, Vals xs its ∧ IsB l s.heap a its.toArray ∧ a < s.heap.objs.size := by
  cases l with
  | true =>
    obtain ⟨its, r, p, _⟩ := I.list h
    exact ⟨its, r, p.isList, p.lt⟩
  | false =>
    obtain ⟨its, r, p, _⟩ := I.tuple h
    refine ⟨its, r, p, ?_⟩
    obtain ⟨o, e, _⟩ := p
    exact Heap.lt_size e
theorem injB (I : Inv X pins σ H s) (h : SqB X.K l H a xs) (h2 : SqB X.K l H a ys) : xs = ys := by
  cases l with
  | true => exact I.list_inj h h2
  | false => exact I.tuple_inj h h2
end

/-! ### enumerate -/
theorem meets_enum1 {v : Value} {o : Obj} {H : Heap → Prop} (B : Begins v o H) :
    Meets (Builtin.«enumerate.__new__» ⟨[.type "enumerate", v], []⟩) (fun _ R s => H s.heap ∧
      R (.ok (.ret (.ref (s.heap.push o).objs.size))) { s with heap := (s.heap.push o).push { cls := .type "enumerate", data := .fields #[.none, .bool false, .ref s.heap.objs.size, rawInt 0, .none, .none] } }) :=
  .of_wp fun prog w A R s h => by
    obtain ⟨hp, g, d, tk, os⟩ := s; obtain ⟨h1, h⟩ := h
    have hsub := sub_enumerate
    have q1 : ∀ {A' : Around} {E : Value → Shared → Prop} {Q : Value → Shared → Prop}, Q (.ref hp.objs.size) ⟨hp.push o, g, d, tk, os⟩ → wpAny (model prog w) A' (pyIter v) Q E ⟨hp, g, d, tk, os⟩ :=
      fun q => B.iter prog w _ _ ⟨hp, g, d, tk, os⟩ _ h1 q
    wp_walk using q1
    refine wpAny_stack_any fun st => wpAny_pure ?_
    split
    · rename_i c _ _ _ _ _
      cases (c == Value.type "enumerate")
      · wp_walk using q1
        exact ⟨_, rfl, h⟩
      · wp_walk using q1
        exact ⟨_, rfl, h⟩
    · wp_walk using q1
      exact ⟨_, rfl, h⟩
theorem call_enum1 {prog : Program} {w : World} {A : Around} {E : Value → Shared → Prop} {s : Shared} {v : Value} {o : Obj} {H : Heap → Prop} {Q : Value → Shared → Prop} (B : Begins v o H) (h1 : H s.heap)
    (h : ∀ h', IsEnum h' (s.heap.objs.size + 1) s.heap.objs.size 0 .none → h'.get? s.heap.objs.size = some o → h'.objs.size = s.heap.objs.size + 2 →
      (∀ b o, s.heap.get? b = some o → h'.get? b = some o) → Q (.ref (s.heap.objs.size + 1)) { s with heap := h' }) :
    wpAny (model prog w) A (call (.type "enumerate") [v]) Q E s := by
  refine callType_new F.called_enumerate (by decide) (F.typeCall_enumerate_1 _) (F.newCall_enumerate_1 _) (fun obj => F.args_object_init_2 obj _) F.entry_enumerate_new
    (meets_enum1 B) ⟨h1, ?_⟩
  have hz : (s.heap.push o).objs.size = s.heap.objs.size + 1 := Heap.size_push ..
  show _ ∧ _
  rw [hz]
  have he : IsEnum ((s.heap.push o).push { cls := .type "enumerate", data := .fields #[.none, .bool false, .ref s.heap.objs.size, rawInt 0, .none, .none] }) (s.heap.objs.size + 1) s.heap.objs.size 0 .none := by
    have := Heap.get?_push_size (s.heap.push o) (o := { cls := .type "enumerate", data := .fields #[.none, .bool false, .ref s.heap.objs.size, rawInt 0, .none, .none] }) rfl
    rw [hz] at this; exact this
  refine ⟨⟨_, he, rfl⟩, h _ he (Heap.get?_push_of_some _ (Heap.get?_push_size _ B.free)) (by rw [Heap.size_push, hz]) fun b o x => Heap.get?_push_of_some _ (Heap.get?_push_of_some _ x)⟩
def IteB (K : PySem.W.Frag) (l : Bool) (a : Addr) : It :=
  ⟨fun i H => ∃ (xs : List V) (x : V), SqB K l H a xs ∧ xs[i]? = some x, fun i H v H' => ∃ T x, v = .ref T ∧ H T = none ∧ H' = upd H T (.tup [.int (i : Nat), x]) ∧ ∀ xs, SqB K l H a xs → xs[i]? = some x, fun i H => ∃ xs : List V, SqB K l H a xs ∧ xs.length = i⟩
theorem turn_enumB {P : Program} {w : World} {K : PySem.W.Frag} {elts : List Expr} {kk : Nat} {tpos : Pos} (l : Bool) (a e it : Addr) :
    Turn P w K (.Tuple elts kk tpos) (IteB K l a) [e, it] e (fun i h => (∃ old, IsEnum h e it ((i : Nat) : Int) old) ∧ IterB l h it a i ∧ e ≠ it ∧ e ≠ a ∧ a ≠ it) where
  mem := by simp
  obj := fun i h st b hb => by
    obtain ⟨⟨old, he⟩, hi, _⟩ := st
    have e' : b = e ∨ b = it := by simpa using hb
    rcases e' with z | z
    · rw [z]; exact ⟨_, he, fun v q => nomatch q⟩
    · rw [z]; exact hi.there
  keep := fun i h h' st k => let ⟨⟨old, he⟩, hi, hne⟩ := st; ⟨⟨old, k e (by simp) _ he⟩, hi.at fun o q => k it (by simp) o q, hne⟩
  item := by
    intro X hP hw hK hc i pins s σ H E I hf st hg
    subst hP hw hK
    obtain ⟨⟨old, he⟩, hit, hne, hea, hai⟩ := st
    obtain ⟨xs, x, hq, hx⟩ := hg
    obtain ⟨its, rv, p, hz⟩ := seqB I hq
    obtain ⟨u0, hu, ru⟩ := rv.get hx
    have hel : e < s.heap.objs.size := Heap.lt_size he
    have hil : it < s.heap.objs.size := by obtain ⟨_, q, _⟩ := hit.there; exact Heap.lt_size q
    have D := drawsB (prog := X.prog) (w := X.w) (A := X.A.in1) l (I.ok.hd hc) it a hai its.toArray
    have hlt : i < its.toArray.size := by
      have := lt_of_at hu
      simpa using this
    refine wpAny_pyNext_enum_itemC D he ⟨hit, p⟩ hlt hne (by simp [hne, hea]) fun u h' tk hPx ho hit' hT hsz hk => ?_
    have eu : u = u0 := by
      have : its[i]? = some u := by simpa using hPx
      rw [hu] at this; exact (Option.some.inj this).symm
    subst eu
    refine ⟨_, rfl, wpAny_letOwnedTupleGo_enum (s := { s with heap := h', toks := tk + 1 }) ho fun h'' he' sb => ?_⟩
    have hT2 : h''.get? s.heap.objs.size = some { cls := .type "tuple", data := .seq #[.int i tk, u] } := (sb.2 _ (Nat.ne_of_gt hel)).trans hT
    have new : ObjOk X.prog X.w (upd H s.heap.objs.size (.tup [.int (i : Nat), x])) h'' s.heap.objs.size (.tup [.int (i : Nat), x]) :=
      ⟨by show 2 ≤ sizeLine; decide, [.int i tk, u], .cons ⟨_, rfl⟩ (.cons ru .nil), ⟨_, hT2, rfl, _, rfl⟩⟩
    have I1 : Inv X pins σ (upd H s.heap.objs.size (.tup [.int (i : Nat), x])) { s with heap := h'', toks := tk + 1 } :=
      I.turnedNew (ch := [e, it]) (fun b ob hb q => (sb.2 b (fun z => hb (by simp [z]))).trans (hk b ob (fun z => hb (by simp [z])) (fun z => hb (by simp [z])) q)) hf (Nat.le_refl _) new
    refine ⟨.ref s.heap.objs.size, _, I1, rfl, ⟨_, x, rfl, I.hok.fresh (Nat.le_refl _), rfl, fun ys hy => by rw [injB I hy hq]; exact hx⟩, ⟨⟨u, ?_⟩, hit'.1.at fun o q => (sb.2 it (Ne.symm hne)).trans q, hne, hea, hai⟩, fun b hb => ?_⟩
    · have e1 : ((i + 1 : Nat) : Int) = (i : Int) + 1 := by omega
      rw [e1]; exact he'
    · have hb' : b < s.heap.objs.size := by
        have e' : b = e ∨ b = it := by simpa using hb
        rcases e' with z | z
        · rw [z]; exact hel
        · rw [z]; exact hil
      rw [upd_ne (Nat.ne_of_lt hb')]
      exact (hf b hb).1
  done := by
    intro X hP hw hK hc i pins s σ H E I hf st hg
    subst hP hw hK
    obtain ⟨⟨old, he⟩, hit, hne, hea, hai⟩ := st
    obtain ⟨xs, hq, hx⟩ := hg
    obtain ⟨its, rv, p, hz⟩ := seqB I hq
    obtain ⟨f0, f1, f2, f3, f4, f5⟩ := hf it (by simp)
    have hl := rv.length
    have D := drawsB (prog := X.prog) (w := X.w) (A := X.A.in1) l (I.ok.hd hc) it a hai its.toArray
    have en : its.toArray.size = i := by simp; omega
    refine wpAny_pyNext_enum_endD D he (by rw [en]; exact ⟨hit, p⟩) fun h' eb => ⟨rfl, I.turned (t' := s.toks) (fun b o hb q => eb b o hb q) f0 f1 f3 f4 f5⟩
  self := fun A i s Q E st h => let ⟨⟨_, he⟩, _⟩ := st; wpAny_pyIter_enum he h
/-- a list or a tuple, by its data -/
@[simp] def seqD : PyData → Option (Bool × List PyData)
  | .list ys => some (true, ys)
  | .tuple ys => some (false, ys)
  | _ => none
theorem seqD_rep {K : PySem.W.Frag} {H : Hp} {ok : Addr → Prop} {v : V} {y : PyData} {l : Bool} {ys : List PyData} (r : Rep K H ok v y) (e : seqD y = some (l, ys)) : ∃ a xs, v = .ref a ∧ SqB K l H a xs ∧ RepL K H ok xs ys := by
  cases y with
  | list zs => cases e; obtain ⟨a, xs, h1, h2, _, h3⟩ := RepB.list (.inl r); exact ⟨a, xs, h1, h2, h3⟩
  | tuple zs => cases e; obtain ⟨a, xs, h1, h2, _, h3⟩ := RepB.tuple (.inl r); exact ⟨a, xs, h1, h2, h3⟩
  | _ => cases e
def enumD (ys : List PyData) : List PyData := ys.zipIdx.map fun q => .tuple [.int (q.2 : Nat), q.1]
theorem enumD_at {ys : List PyData} {i : Nat} {y : PyData} (e : (enumD ys)[i]? = some y) : ∃ x, ys[i]? = some x ∧ y = .tuple [.int (i : Nat), x] := by
  unfold enumD at e
  rw [List.getElem?_map, List.getElem?_zipIdx] at e
  cases q : ys[i]? with
  | none => rw [q] at e; cases e
  | some x => rw [q] at e; simp at e; exact ⟨x, rfl, e.symm⟩
theorem enumD_len {ys : List PyData} : (enumD ys).length = ys.length := by simp [enumD]
theorem two_ok : 2 ≤ sizeLine := by rw [sizeLine_eq]; decide
theorem sqB_inj {K : PySem.W.Frag} {H : Hp} {ok : Addr → Prop} {a : Addr} {y : PyData} {l : Bool} {ys : List PyData} (r : Rep K H ok (.ref a) y) (e : seqD y = some (l, ys)) : ∃ xs, SqB K l H a xs ∧ RepL K H ok xs ys := by
  obtain ⟨b, xs, h1, h2, h3⟩ := seqD_rep r e
  cases h1
  exact ⟨xs, h2, h3⟩
theorem wk_enum {p : Par} {a : Addr} {y : PyData} {l : Bool} {ys : List PyData} (e : seqD y = some (l, ys)) : Wk p (IteB p.K l a) [(.ref a, .dat y)] (enumD ys) where
  go := fun ok H i z hq e2 => by
    obtain ⟨xs, h1, h2⟩ := sqB_inj (hq (.ref a, .dat y) (by simp)) e
    obtain ⟨x, h3, rfl⟩ := enumD_at e2
    obtain ⟨v, h4, h5⟩ := h2.get h3
    refine ⟨⟨xs, v, h1, h4⟩, fun w H' hy => ?_⟩
    obtain ⟨T, v2, rfl, hn, rfl, hy⟩ := hy
    have h6 := hy xs h1
    rw [h4] at h6; cases h6
    have gr : Grow H (upd H T (.tup [.int (i : Nat), v])) := Grow.new hn
    exact ⟨gr, .tup (SqT.of upd_same) two_ok (.cons (.int _) (.cons (h5.keep gr.keep) .nil))⟩
  stop := fun ok H hq => by
    obtain ⟨xs, h1, h2⟩ := sqB_inj (hq (.ref a, .dat y) (by simp)) e
    exact ⟨xs, h1, by rw [h2.length, enumD_len]⟩
@[simp] def xEnum (f : Fr → Res AV) : Fr → Res (List PyData) := fun fr => (f fr).bind fun a fr1 => match a with
  | .dat y => (match seqD y with
    | some (_, ys) => .ok (enumD ys) fr1
    | none => .err)
  | _ => .err
section
variable {X : Cx} {x : XW} {e : Expr} {f : Fr → Res AV}
def iEnumB (X : Cx) (ta : TA) : TI := fun σ H R => ta σ H fun vs H1 => ∃ a l xs, vs = [.ref a] ∧ SqB X.K l H1 a xs ∧ R (IteB X.K l a) H1
theorem pi_enumB {ta : TA} {p pos tpos : Pos} {elts : List Expr} {kk : Nat} (hg : Gl X "enumerate") (hm : X.mg "enumerate" = none) (ha : PA X [e] ta) (hs : starEach [e] X.env = [(false, eval e X.env)] := by rfl) :
    PI X (.Tuple elts kk tpos) (.Call (.Name "enumerate" p) [e] [] pos) (iEnumB X ta) := by
  refine ⟨fun pins s σ H R I h => ?_⟩
  refine Call_ (ld_blt I hg hm boot_enumerate (PyProof.Rows.callWith_type1 (thn (ha.run pos pins s σ H _ I h) fun us s1 ⟨vs, H1, I1, r1, q1⟩ => ?_) hs rfl))
  obtain ⟨a, l, xs, ex, hq, q⟩ := q1
  subst ex
  cases r1 with
  | cons r rr =>
    cases rr
    cases r
    obtain ⟨its, rv, p', hz⟩ := seqB I1 hq
    refine call_enum1 (beginsB l a its.toArray) p' fun h' he hit hsz hk => wpAny_pyIter_enum he ?_
    have I2 : Inv X pins σ H1 { s1 with heap := h' } := I1.kept (t' := s1.toks) hk
    have ha : a ≠ s1.heap.objs.size := Nat.ne_of_lt hz
    have ha1 : s1.heap.objs.size + 1 ≠ a := Nat.ne_of_gt (Nat.lt_succ_of_lt hz)
    refine ⟨s1.heap.objs.size + 1, [s1.heap.objs.size + 1, s1.heap.objs.size], _, _, H1, rfl, I2, turn_enumB l a (s1.heap.objs.size + 1) s1.heap.objs.size, ⟨⟨.none, he⟩, iterB_new l a hit, Nat.succ_ne_self _, ha1, ha⟩, fun b hb => ?_, q⟩
    have e' : b = s1.heap.objs.size + 1 ∨ b = s1.heap.objs.size := by simpa using hb
    have hle : s1.heap.objs.size ≤ b := by
      rcases e' with z | z
      · rw [z]; exact Nat.le_add_right _ _
      · rw [z]; exact Nat.le_refl _
    exact I1.fpOk hle (I1.hok.fresh hle)
theorem ai_enum {p pos tpos : Pos} {elts : List Expr} {kk : Nat} (hg : Gl X "enumerate") (hm : X.mg "enumerate" = none) (ha : AE X x e f) (hs : starEach [e] X.env = [(false, eval e X.env)] := by rfl) :
    AI X x (.Tuple elts kk tpos) (.Call (.Name "enumerate" p) [e] [] pos) (xEnum f) := by
  have hw := pi_enumB (elts := elts) (kk := kk) (tpos := tpos) (p := p) (pos := pos) hg hm (pa_cons ha pa_nil hs) hs
  refine ⟨fun pins s σ H R I hh => hw.run pins s σ H R I ?_⟩
  obtain ⟨c, fr, ad, F, o⟩ := hh
  refine ⟨c, fr, ad, F, (Out.bind F o).mono fun av fr1 ad1 H1 F1 m1 o1 v rv => ?_⟩
  cases av with
  | dat y =>
    cases q : seqD y with
    | none => simp only [q] at o1; exact o1.elim
    | some z =>
      obtain ⟨l, ys⟩ := z
      simp only [q] at o1
      obtain ⟨a, xs, rfl, h1, h2⟩ := seqD_rep rv q
      exact ⟨a, l, xs, rfl, h1, o1 ad1 H1 F1 Mv.refl _ [(.ref a, .dat y)] (fun z hz => by cases List.mem_singleton.mp hz; exact ⟨rfl, rv⟩) (wk_enum q)⟩
  | _ => exact o1.elim
end

/-! ### zip -/
def ItzB (K : PySem.W.Frag) (l m : Bool) (a b : Addr) : It :=
  ⟨fun i H => ∃ (xs ys : List V) (x y : V), SqB K l H a xs ∧ SqB K m H b ys ∧ xs[i]? = some x ∧ ys[i]? = some y,
    fun i H v H' => ∃ T x y, v = .ref T ∧ H T = none ∧ H' = upd H T (.tup [x, y]) ∧ (∀ xs, SqB K l H a xs → xs[i]? = some x) ∧ ∀ ys, SqB K m H b ys → ys[i]? = some y,
    fun i H => ∃ xs ys : List V, SqB K l H a xs ∧ SqB K m H b ys ∧ i ≤ xs.length ∧ i ≤ ys.length ∧ (i = xs.length ∨ i = ys.length)⟩
theorem turn_zipB {P : Program} {w : World} {K : PySem.W.Frag} {elts : List Expr} {kk : Nat} {tpos : Pos} {l m : Bool} {a b z TI TO i1 i2 : Addr} (S : ZipSep2 z TI TO i1 i2 [i1, a] [i2, b]) (ha : a ≠ i1) (hb : b ≠ i2) :
    Turn P w K (.Tuple elts kk tpos) (ItzB K l m a b) [z, TI, TO, i1, i2] z (fun i h => IsZip h z TI TO .none ∧ IsTupOf2 h TI (.ref i1) (.ref i2) ∧ (∃ x y, IsTupOf2 h TO x y) ∧ IterB l h i1 a i ∧ IterB m h i2 b i) where
  mem := by simp
  obj := fun i h st c hc => by
    obtain ⟨hz, hTI, ⟨x, y, hTO⟩, h1, h2⟩ := st
    have e' : c = z ∨ c = TI ∨ c = TO ∨ c = i1 ∨ c = i2 := by simpa using hc
    rcases e' with q | q | q | q | q
    · rw [q]; exact ⟨_, hz, fun v q => nomatch q⟩
    · rw [q]; exact ⟨_, hTI, fun v q => nomatch q⟩
    · rw [q]; exact ⟨_, hTO, fun v q => nomatch q⟩
    · rw [q]; exact h1.there
    · rw [q]; exact h2.there
  keep := fun i h h' st k => by
    obtain ⟨hz, hTI, ⟨x, y, hTO⟩, h1, h2⟩ := st
    exact ⟨k z (by simp) _ hz, k TI (by simp) _ hTI, ⟨x, y, k TO (by simp) _ hTO⟩, h1.at fun o q => k i1 (by simp) o q, h2.at fun o q => k i2 (by simp) o q⟩
  item := by
    intro X hP hw hK hc i pins s σ H E I hf st hg
    subst hP hw hK
    obtain ⟨hz, hTI, ⟨x0, y0, hTO⟩, h1, h2⟩ := st
    obtain ⟨xs, ys, x, y, hqx, hqy, hx, hy⟩ := hg
    obtain ⟨its, rv, p, _⟩ := seqB I hqx
    obtain ⟨its2, rv2, p2, _⟩ := seqB I hqy
    obtain ⟨u0, hu, ru⟩ := rv.get hx
    obtain ⟨u20, hu2, ru2⟩ := rv2.get hy
    have hzl : z < s.heap.objs.size := Heap.lt_size hz
    have D1 := drawsB (prog := X.prog) (w := X.w) (A := X.A.in1) l (I.ok.hd hc) i1 a ha its.toArray
    have D2 := drawsB (prog := X.prog) (w := X.w) (A := X.A.in1) m (I.ok.hd hc) i2 b hb its2.toArray
    refine wpAny_pyNext_zipD2_item S D1 D2 hz hTI hTO ⟨h1, p⟩ ⟨h2, p2⟩ (by simpa using lt_of_at hu) (by simpa using lt_of_at hu2) fun u u2 h' tk e1 e2 z' TO' h1' h2' hT hsz hk => ?_
    have eu : u = u0 := by
      have : its[i]? = some u := by simpa using e1
      rw [hu] at this; exact (Option.some.inj this).symm
    have eu2 : u2 = u20 := by
      have : its2[i]? = some u2 := by simpa using e2
      rw [hu2] at this; exact (Option.some.inj this).symm
    subst eu eu2
    refine ⟨_, rfl, wpAny_letOwnedTupleGo_zip (s := { s with heap := h', toks := tk }) z' fun h'' z'' sb => ?_⟩
    have hT2 : h''.get? s.heap.objs.size = some { cls := .type "tuple", data := .seq #[u, u2] } := (sb.2 _ (Nat.ne_of_gt hzl)).trans hT
    have new : ObjOk X.prog X.w (upd H s.heap.objs.size (.tup [x, y])) h'' s.heap.objs.size (.tup [x, y]) :=
      ⟨by show 2 ≤ sizeLine; decide, [u, u2], .cons ru (.cons ru2 .nil), ⟨_, hT2, rfl, _, rfl⟩⟩
    have I1 : Inv X pins σ (upd H s.heap.objs.size (.tup [x, y])) { s with heap := h'', toks := tk } :=
      I.turnedNew (ch := [z, TI, TO, i1, i2]) (fun c o hb q => (sb.2 c (fun q' => hb (by simp [q']))).trans (hk c o (fun q' => hb (by simp [q'])) (fun q' => hb (by simp [q'])) (fun q' => hb (by simp [q'])) (fun q' => hb (by simp [q'])) q)) hf (Nat.le_refl _) new
    have i1z : i1 ≠ z := fun e => S.zf1 (by simp [e])
    have i2z : i2 ≠ z := fun e => S.zf2 (by simp [e])
    refine ⟨.ref s.heap.objs.size, _, I1, rfl, ⟨_, x, y, rfl, I.hok.fresh (Nat.le_refl _), rfl, fun l hl => by rw [injB I hl hqx]; exact hx, fun l hl => by rw [injB I hl hqy]; exact hy⟩, ⟨z'', ?_, ⟨u, u2, ?_⟩, ?_, ?_⟩, fun c hcm => ?_⟩
    · exact (sb.2 _ S.TIz).trans (hk _ _ S.TIz S.TITO S.TIi1 S.TIi2 hTI)
    · exact (sb.2 _ S.TOz).trans TO'
    · exact h1'.1.at fun o q => (sb.2 _ i1z).trans q
    · exact h2'.1.at fun o q => (sb.2 _ i2z).trans q
    · have hlt : c < s.heap.objs.size := by
        have e' : c = z ∨ c = TI ∨ c = TO ∨ c = i1 ∨ c = i2 := by simpa using hcm
        rcases e' with q | q | q | q | q
        · rw [q]; exact hzl
        · rw [q]; exact Heap.lt_size hTI
        · rw [q]; exact Heap.lt_size hTO
        · rw [q]; obtain ⟨_, e1, _⟩ := h1.there; exact Heap.lt_size e1
        · rw [q]; obtain ⟨_, e2, _⟩ := h2.there; exact Heap.lt_size e2
      rw [upd_ne (Nat.ne_of_lt hlt)]
      exact (hf c hcm).1
  done := by
    intro X hP hw hK hc i pins s σ H E I hf st hg
    subst hP hw hK
    obtain ⟨hz, hTI, ⟨x0, y0, hTO⟩, h1, h2⟩ := st
    obtain ⟨xs, ys, hqx, hqy, b1, b2, hend⟩ := hg
    obtain ⟨its, rv, p, _⟩ := seqB I hqx
    obtain ⟨its2, rv2, p2, _⟩ := seqB I hqy
    have l1 := rv.length
    have l2 := rv2.length
    have D1 := drawsB (prog := X.prog) (w := X.w) (A := X.A.in1) l (I.ok.hd hc) i1 a ha its.toArray
    have D2 := drawsB (prog := X.prog) (w := X.w) (A := X.A.in1) m (I.ok.hd hc) i2 b hb its2.toArray
    exact wpAny_pyNext_zipD2_end S D1 D2 hz hTI hTO ⟨h1, p⟩ ⟨h2, p2⟩ (by simp; omega) (by simp; omega) (by simp; omega) fun h' tk hk => ⟨rfl, I.turnedL (t' := tk) (ch := [z, TI, TO, i1, i2]) (fun c o hb q =>
      hk c o (fun q' => hb (by simp [q'])) (fun q' => hb (by simp [q'])) (fun q' => hb (by simp [q'])) (fun q' => hb (by simp [q'])) q) hf⟩
  self := fun A i s Q E st h => wpAny_pyIter_zip st.1 h
def zipD (xs ys : List PyData) : List PyData := (xs.zip ys).map fun q => .tuple [q.1, q.2]
theorem zipD_at {xs ys : List PyData} {i : Nat} {y : PyData} (e : (zipD xs ys)[i]? = some y) : ∃ x z, xs[i]? = some x ∧ ys[i]? = some z ∧ y = .tuple [x, z] := by
  unfold zipD at e
  rw [List.getElem?_map] at e
  cases q : (xs.zip ys)[i]? with
  | none => rw [q] at e; cases e
  | some z =>
    rw [q] at e
    obtain ⟨h1, h2⟩ := List.getElem?_zip_eq_some.mp q
    exact ⟨_, _, h1, h2, (Option.some.inj e).symm⟩
theorem zipD_len {xs ys : List PyData} : (zipD xs ys).length = min xs.length ys.length := by simp [zipD]
theorem wk_zip {p : Par} {a b : Addr} {y z : PyData} {l m : Bool} {ys zs : List PyData} (e : seqD y = some (l, ys)) (e2 : seqD z = some (m, zs)) : Wk p (ItzB p.K l m a b) [(.ref a, .dat y), (.ref b, .dat z)] (zipD ys zs) where
  go := fun ok H i u hq eu => by
    obtain ⟨xs, h1, h2⟩ := sqB_inj (hq (.ref a, .dat y) (by simp)) e
    obtain ⟨xs2, g1, g2⟩ := sqB_inj (hq (.ref b, .dat z) (by simp)) e2
    obtain ⟨x, x2, h3, g3, rfl⟩ := zipD_at eu
    obtain ⟨v, h4, h5⟩ := h2.get h3
    obtain ⟨v2, g4, g5⟩ := g2.get g3
    refine ⟨⟨xs, xs2, v, v2, h1, g1, h4, g4⟩, fun w H' hy => ?_⟩
    obtain ⟨T, w1, w2, rfl, hn, rfl, hy1, hy2⟩ := hy
    have h6 := hy1 xs h1
    have g6 := hy2 xs2 g1
    rw [h4] at h6; cases h6
    rw [g4] at g6; cases g6
    have gr : Grow H (upd H T (.tup [v, v2])) := Grow.new hn
    exact ⟨gr, .tup (SqT.of upd_same) two_ok (.cons (h5.keep gr.keep) (.cons (g5.keep gr.keep) .nil))⟩
  stop := fun ok H hq => by
    obtain ⟨xs, h1, h2⟩ := sqB_inj (hq (.ref a, .dat y) (by simp)) e
    obtain ⟨xs2, g1, g2⟩ := sqB_inj (hq (.ref b, .dat z) (by simp)) e2
    have e1 := h2.length
    have e2 := g2.length
    refine ⟨xs, xs2, h1, g1, ?_, ?_, ?_⟩ <;> rw [zipD_len] <;> omega
@[simp] def xZip (f g : Fr → Res AV) : Fr → Res (List PyData) := fun fr => (f fr).bind fun a fr1 => (g fr1).bind fun b fr2 => match a, b with
  | .dat y, .dat z => (match seqD y, seqD z with
    | some (_, ys), some (_, zs) => .ok (zipD ys zs) fr2
    | _, _ => .err)
  | _, _ => .err
section
variable {X : Cx} {x : XW} {e e2 : Expr} {f g : Fr → Res AV}
def iZipB (X : Cx) (ta : TA) : TI := fun σ H R => ta σ H fun vs H1 => ∃ a b l m xs ys, vs = [.ref a, .ref b] ∧ SqB X.K l H1 a xs ∧ SqB X.K m H1 b ys ∧ R (ItzB X.K l m a b) H1
theorem pi_zipB {ta : TA} {p pos tpos : Pos} {elts : List Expr} {kk : Nat} (hg : Gl X "zip") (hm : X.mg "zip" = none) (ha : PA X [e, e2] ta)
    (hs : starEach [e, e2] X.env = (false, eval e X.env) :: starEach [e2] X.env := by rfl) (hpl : (backTo pos (starEach [e2] X.env)).any (·.1) = false := by rfl) :
    PI X (.Tuple elts kk tpos) (.Call (.Name "zip" p) [e, e2] [] pos) (iZipB X ta) := by
  refine ⟨fun pins s σ H R I h => ?_⟩
  refine Call_ (ld_blt I hg hm PyProof.Rows.boot_zip (PyProof.Rows.callWith_type1 (thn (ha.run pos pins s σ H _ I h) fun us s1 ⟨vs, H1, I1, r1, q1⟩ => ?_) hs hpl))
  obtain ⟨a, b, l, m, xs, ys, ex, hqx, hqy, q⟩ := q1
  subst ex
  cases r1 with
  | cons r rr =>
    cases rr with
    | cons r' rr =>
      cases rr
      cases r
      cases r'
      obtain ⟨its, rv, p1, la⟩ := seqB I1 hqx
      obtain ⟨its2, rv2, p2, lb⟩ := seqB I1 hqy
      refine zip_begins2 (beginsB l a its.toArray) (beginsB m b its2.toArray) p1 p2 fun h' hz hTI hTO h1 h2 hsz hk => wpAny_pyIter_zip hz ?_
      have I2 : Inv X pins σ H1 { s1 with heap := h' } := I1.kept (t' := s1.toks) hk
      have la' : (a : Nat) < s1.heap.objs.size := la
      have lb' : (b : Nat) < s1.heap.objs.size := lb
      refine ⟨s1.heap.objs.size + 4, [s1.heap.objs.size + 4, s1.heap.objs.size + 2, s1.heap.objs.size + 3, s1.heap.objs.size, s1.heap.objs.size + 1], _, _, H1, rfl, I2,
        turn_zipB (zip_sep2 (N := s1.heap.objs.size) (fp1 := [a]) (fp2 := [b]) (fun c hc => by cases List.mem_singleton.mp hc; exact la) (fun c hc => by cases List.mem_singleton.mp hc; exact lb)) (Nat.ne_of_lt la') (Nat.ne_of_lt (Nat.lt_succ_of_lt lb')),
        ⟨hz, hTI, ⟨_, _, hTO⟩, iterB_new l a h1, iterB_new m b h2⟩, fun c hcm => ?_, q⟩
      have e' : c = s1.heap.objs.size + 4 ∨ c = s1.heap.objs.size + 2 ∨ c = s1.heap.objs.size + 3 ∨ c = s1.heap.objs.size ∨ c = s1.heap.objs.size + 1 := by simpa using hcm
      have hle : s1.heap.objs.size ≤ c := by
        rcases e' with z | z | z | z | z
        · rw [z]; exact Nat.le_add_right _ _
        · rw [z]; exact Nat.le_add_right _ _
        · rw [z]; exact Nat.le_add_right _ _
        · rw [z]; exact Nat.le_refl _
        · rw [z]; exact Nat.le_add_right _ _
      exact I1.fpOk hle (I1.hok.fresh hle)
theorem ai_zip {p pos tpos : Pos} {elts : List Expr} {kk : Nat} (hg : Gl X "zip") (hm : X.mg "zip" = none) (ha : AE X x e f) (hb : AE X x e2 g)
    (hs : starEach [e, e2] X.env = (false, eval e X.env) :: starEach [e2] X.env := by rfl) (hs2 : starEach [e2] X.env = [(false, eval e2 X.env)] := by rfl) (hpl : (backTo pos (starEach [e2] X.env)).any (·.1) = false := by rfl) :
    AI X x (.Tuple elts kk tpos) (.Call (.Name "zip" p) [e, e2] [] pos) (xZip f g) := by
  have hw := pi_zipB (elts := elts) (kk := kk) (tpos := tpos) (p := p) (pos := pos) hg hm (pa_cons ha (pa_cons hb pa_nil hs2) hs) hs hpl
  refine ⟨fun pins s σ H R I hh => hw.run pins s σ H R I ?_⟩
  obtain ⟨c, fr, ad, F, o⟩ := hh
  refine ⟨c, fr, ad, F, (Out.bind F o).mono fun av fr1 ad1 H1 F1 m1 o1 v rv => ?_⟩
  refine ⟨c, fr1, ad1, F1, (Out.bind F1 o1).mono fun bv fr2 ad2 H2 F2 m2 o2 u ru => ?_⟩
  cases av with
  | dat y =>
    cases bv with
    | dat z =>
      have rv2 : Rep X.K H2 (okP c ad2) v y := Rep.keep (m2.kp F1) rv
      cases q : seqD y with
      | none => simp only [q] at o2; exact o2.elim
      | some qy =>
        cases q2 : seqD z with
        | none => simp only [q, q2] at o2; exact o2.elim
        | some qz =>
          obtain ⟨l, ys⟩ := qy
          obtain ⟨m, zs⟩ := qz
          simp only [q, q2] at o2
          obtain ⟨a, xs, rfl, h1, h2⟩ := seqD_rep rv2 q
          obtain ⟨b, xs2, rfl, g1, g2⟩ := seqD_rep ru q2
          exact ⟨a, b, l, m, xs, xs2, rfl, h1, g1, o2 ad2 H2 F2 Mv.refl _ [(.ref a, .dat y), (.ref b, .dat z)] (fun z hz => by
            rcases List.mem_cons.mp hz with e | e
            · cases e; exact ⟨rfl, rv2⟩
            · cases List.mem_singleton.mp e; exact ⟨rfl, ru⟩) (wk_zip q q2)⟩
    | _ => exact o2.elim
  | _ => cases bv <;> exact o2.elim
end
end G
/-! GP: new cells as values, lists from calls, several names at once, dicts written. -/
namespace G
open PySem PySem.Spec PyProof.Rows L2

/-! ### new cells -/
@[simp] def xNewL (gs : Fr → Res (List AV)) : Fr → Res AV := fun fr => (gs fr).bind fun as fr1 => match dats as with
  | some xs => .ok (.cel fr1.cells.length) (fr1.newc (.lst xs))
  | none => .err
@[simp] def xNewD (tp : Bool) : Fr → Res AV := fun fr => .ok (.cel fr.cells.length) (fr.newc (.dct tp []))
section
variable {X : Cx} {x : XW} {a b d : Expr} {f g h : Fr → Res AV} {pos : Pos}
theorem newc_at {p : Par} {c : Ent} {fr : Fr} {ad : List (Option Addr)} {σ : L2.St} {H H2 : Hp} {cl : Cell} (F : FR p c fr ad σ H) {l : Addr} : RepA p H2 (okP c (ad ++ [some l])) (ad ++ [some l]) (.ref l) (.cel fr.cells.length) :=
  ⟨l, rfl, by rw [F.clen]; simp⟩
theorem ae_newL {es : List Expr} {gs : Fr → Res (List AV)} (ha : AA X x es gs) (hl : es.length ≤ 1000 := by decide) (hn : ∀ fr as fr', gs fr = .ok as fr' → as.length = es.length) : AE X x (.List es pos) (xNewL gs) := by
  refine (pe_lst ha).imp fun σ H Q ⟨c, fr, ad, F, o⟩ => ⟨c, fr, ad, F, ?_⟩
  have o4 := Out.bind F o
  cases q : gs fr with
  | ok as fr1 =>
    rw [q] at o4
    intro ad1 H1 F1 m1 vs rvs
    have o5 := o4 ad1 H1 F1 m1
    have hlen := hn fr as fr1 q
    cases q2 : dats as with
    | none => simp only [q2] at o5; exact o5.elim
    | some xs =>
      simp only [q2] at o5
      have rl := dats_rep rvs q2
      have e1 : vs.length = as.length := Paired.length rvs
      have e2 := rl.length
      have z : vs.length ≤ sizeLine := by rw [sizeLine_eq]; omega
      refine ⟨z, fun p hp => ?_⟩
      have F2 := F1.newc (o := .lst vs) (cl := .lst xs) hp fun ok hok => ⟨vs, upd_same, by rw [← e2]; exact z, rl.keep ⟨fun b u h1 h2 => ⟨hok b u h1 h2, Grow.new hp b u h2⟩, (Grow.new hp).keep (ok := okP c ad1) |>.t⟩⟩
      exact o5 _ _ F2 (mv_new hp) _ (newc_at (cl := .gone) F1)
  | exc cl fs fr1 => rw [q] at o4; exact o4
  | err => rw [q] at o4; exact o4
theorem ae_newD (tp : Bool) : AE X x (.Dict [] [] pos) (xNewD tp) := by
  cases tp with
  | false =>
    refine pe_dnewK.imp fun σ H Q ⟨c, fr, ad, F, o⟩ p hp => ?_
    have F2 := F.newc (o := .dK []) (cl := .dct false []) hp fun ok hok => ⟨[], upd_same, .nil⟩
    exact o _ _ F2 (mv_new hp) _ (newc_at (cl := .gone) F)
  | true =>
    refine pe_newT.imp fun σ H Q ⟨c, fr, ad, F, o⟩ p hp hm => ?_
    have F2 := F.newc (o := dTh p #[] 0) (cl := .dct true []) hp fun ok hok => ⟨#[], 0, [], upd_same, rfl, List.nodup_nil, hm, Nat.zero_le _, .nil⟩
    exact o _ _ F2 (mv_new hp) _ (newc_at (cl := .gone) F)

/-! ### data without lists -/
mutual
def noL : PyData → Bool
  | .tuple xs => noLs xs
  | .list _ => false
  | .dict _ => false
  | _ => true
def noLs : List PyData → Bool
  | [] => true
  | x :: xs => noL x && noLs xs
end
mutual
theorem Rep.any {K : PySem.W.Frag} {H : Hp} {ok ok' : Addr → Prop} : ∀ {v : V} {y : PyData}, Rep K H ok v y → noL y = true → Rep K H ok' v y
  | _, _, .non, _ => .non
  | _, _, .bl b, _ => .bl b
  | _, _, .int i, _ => .int i
  | _, _, .str z h, _ => .str z h
  | _, _, .lst _ _ _ _, e => by simp [noL] at e
  | _, _, .tup r l rs, e => .tup r l (RepL.any rs (by simpa [noL] using e))
theorem RepL.any {K : PySem.W.Frag} {H : Hp} {ok ok' : Addr → Prop} : ∀ {vs : List V} {ys : List PyData}, RepL K H ok vs ys → noLs ys = true → RepL K H ok' vs ys
  | _, _, .nil, _ => .nil
  | _, _, .cons r rs, e => by
    simp only [noLs, Bool.and_eq_true] at e
    exact .cons (Rep.any r e.1) (RepL.any rs e.2)
end
@[simp] def noLA : AV → Bool
  | .dat y => noL y
  | .cel _ => true
  | _ => false
def noLC : Cell → Bool
  | .lst xs => noLs xs
  | .dct _ kvs => kvs.all fun q => noL q.1 && noL q.2
  | .gone => false
theorem CellAt.any {p : Par} {H : Hp} {ok ok' : Addr → Prop} {a : Addr} : ∀ {cl : Cell}, CellAt p H ok a cl → noLC cl = true → CellAt p H ok' a cl
  | .lst ds, ⟨xs, h1, h2, h3⟩, e => ⟨xs, h1, h2, h3.any e⟩
  | .dct false kvs, ⟨ks, e, r⟩, hn => by
    refine ⟨ks, e, ?_⟩
    have hn' : kvs.all (fun q => noL q.1 && noL q.2) = true := hn
    clear e hn
    induction r with
    | nil => exact .nil
    | cons h _ ih =>
      rw [List.all_cons, Bool.and_eq_true] at hn'
      exact .cons ⟨h.1, h.2.1, h.2.2.any (Bool.and_eq_true_iff.mp hn'.1).2⟩ (ih hn'.2)
  | .dct true kvs, ⟨es, ep, xs, e, h1, h2, h3, h4, r⟩, hn => by
    have hn' : kvs.all (fun q => noL q.1 && noL q.2) = true := hn
    refine ⟨es, ep, xs, e, h1, h2, h3, h4, ?_⟩
    clear e h1 h2 h3 h4 hn
    induction r with
    | nil => exact .nil
    | cons h _ ih =>
      rw [List.all_cons, Bool.and_eq_true] at hn'
      obtain ⟨q1, q2, q3, v, q4, q5⟩ := h
      have z := Bool.and_eq_true_iff.mp hn'.1
      exact .cons ⟨q1, q2, q3.any z.1, v, q4, q5.any z.2⟩ (ih hn'.2)
  | .gone, r, _ => r.elim

/-! ### a list that a call hands out, to be written on -/
@[simp] def xCallF (m : AFun) (gs : Fr → Res (List AV)) : Fr → Res AV := fun fr => (gs fr).bind fun as fr1 => if as.all noLA = true ∧ (celsOf as).Nodup then (match getAll fr1.cells (celsOf as) with
  | some cs => if cs.all noLC = true then (match m (relab 0 as) cs with
    | .ok (.dat (.list ys)) cs' => if noLs ys = true ∧ cs'.all noLC = true then .ok (.cel fr1.cells.length) ((⟨fr1.vars, putAll fr1.cells (celsOf as) cs', fr1.base⟩ : Fr).newc (.lst ys)) else .err
    | .ok (.dat .none) cs' => .ok (.dat .none) ⟨fr1.vars, putAll fr1.cells (celsOf as) cs', fr1.base⟩
    | .ok _ _ => .err
    | .exc c fs cs' => .exc c fs ⟨fr1.vars, putAll fr1.cells (celsOf as) cs', fr1.base⟩
    | .err => .err) else .err
  | none => .err) else .err
theorem noScr_of : ∀ {as : List AV}, as.all noLA = true → noScr as = true
  | [], _ => rfl
  | .dat y :: as, e => noScr_of (as := as) (by rw [List.all_cons, Bool.and_eq_true] at e; exact e.2)
  | .cel k :: as, e => noScr_of (as := as) (by rw [List.all_cons, Bool.and_eq_true] at e; exact e.2)
  | .dct _ _ :: as, e => by cases e
  | .scr _ :: as, e => by cases e
theorem relab_any {p : Par} {H : Hp} {ok ok' : Addr → Prop} {ad : List (Option Addr)} : ∀ {vs : List V} {as : List AV}, RepAs p H ok ad vs as → as.all noLA = true → RepAs p H ok' ad vs as
  | _, _, .nil, _ => .nil
  | _, .dat y :: as, .cons r rs, e => by
    rw [List.all_cons, Bool.and_eq_true] at e
    exact .cons (Rep.any r e.1) (relab_any rs e.2)
  | _, .cel k :: as, .cons r rs, e => by
    rw [List.all_cons, Bool.and_eq_true] at e
    exact .cons r (relab_any rs e.2)
  | _, .dct _ _ :: as, .cons r rs, e => by cases e
  | _, .scr _ :: as, .cons r rs, e => by cases e
theorem call_adopt {p : Par} {c : Ent} {fr : Fr} {ad : List (Option Addr)} {σ : L2.St} {H H' : Hp} {W : List Addr} {ids : List Nat} {cs' : List Cell} {la : Addr} {xs : List V} {ys : List PyData} {ok : Addr → Prop} (F : FR p c fr ad σ H) (nd : ids.Nodup) (hW : ∀ (j i : Nat), ids[j]? = some i → ∃ a, W[j]? = some a ∧ ad[i]? = some (some a)) (hl : W.length = ids.length)
    (P : PostF p H (fun _ => False) W cs' H') (hc : cs'.all noLC = true) (e : H' la = some (.lst xs)) (hfree : H la = none) (rl : RepL p.K H' ok xs ys) (hn : noLs ys = true) (hz : ys.length ≤ sizeLine) :
    FR p c ((⟨fr.vars, putAll fr.cells ids cs', fr.base⟩ : Fr).newc (.lst ys)) (ad ++ [some la]) σ H' ∧ Mv H ad H' (ad ++ [some la]) := by
  obtain ⟨F2, m2, _⟩ := call_end F nd hW hl (S := fun _ => False) (fun b hb _ => hb.elim) P
  have nad : some la ∉ ad := fun z => by
    obtain ⟨u, e, _⟩ := F.track z
    rw [hfree] at e; cases e
  have M3 : Mv H ad H' (ad ++ [some la]) := ⟨m2.keep, fun i x e => snoc_pre e, fun a h => by
    rcases List.mem_append.mp h with z | z
    · exact .inl z
    · have q : a = la := by simpa using z
      exact .inr (by rw [q]; exact hfree), m2.there⟩
  refine ⟨⟨F.len, fun i av q => ?_, by simp [Fr.newc, putAll_len, F.clen], fun i a q => ?_, fun i j a q1 q2 => ?_, F2.old, fun i a q => snoc_pre (F.sub i a q), fun a h => ?_, fun g hg => ⟨(F.gh g hg).1, RepA.mv F M3 (F.gh g hg).2⟩, M3.prs F, F.bs⟩, M3⟩
  · obtain ⟨v, h1, h2⟩ := F.var i av q
    exact ⟨v, h1, RepA.mv F M3 h2⟩
  · rcases snoc_at q with q | ⟨hi, q⟩
    · by_cases hm : i ∈ ids
      · obtain ⟨cl, h1, h2⟩ := F2.cel i a q
        refine ⟨cl, snoc_pre h1, CellAt.any h2 ?_⟩
        obtain ⟨j, hj⟩ := mem_at hm
        obtain ⟨b, g1, g2⟩ := hW j i hj
        obtain ⟨cl2, g3, _⟩ := P.cel j b g1
        have g4 := putAll_in (cs := fr.cells) nd hj g3 (by rw [F.clen]; exact lt_of_at q)
        have h1' : (putAll fr.cells ids cs')[i]? = some cl := h1
        rw [g4] at h1'
        cases h1'
        exact List.all_eq_true.mp hc _ (List.mem_of_getElem? g3)
      · obtain ⟨cl, h1, h2⟩ := F.cel i a q
        refine ⟨cl, snoc_pre (by rw [show (⟨fr.vars, putAll fr.cells ids cs', fr.base⟩ : Fr).cells = putAll fr.cells ids cs' from rfl, putAll_out hm]; exact h1), ?_⟩
        have na : a ∉ W := fun hw => by
          obtain ⟨j, e1⟩ := mem_at hw
          have hj : j < ids.length := by rw [← hl]; exact lt_of_at e1
          obtain ⟨b, h3, h4⟩ := hW j ids[j] (by rw [List.getElem?_eq_getElem hj])
          rw [e1] at h3; cases h3
          have := F.nd _ i a h4 q
          exact hm (by rw [← this]; exact List.getElem_mem hj)
        have kp : ∀ o, H a = some o → H' a = some o := fun o z => P.keep a o z na
        cases cl with
        | lst ds =>
          obtain ⟨xs, q1, q2, q3⟩ := h2
          exact ⟨xs, kp _ q1, q2, q3.keep (M3.kp F)⟩
        | dct tp kvs => exact DctAt.keep (M3.kp F) kp h2
        | gone => exact h2
    · cases q
      refine ⟨.lst ys, ?_, xs, e, hz, rl.any hn⟩
      rw [Fr.newc, hi, ← F.clen]
      have : (putAll fr.cells ids cs').length = fr.cells.length := putAll_len
      rw [← this]
      simp
  · rcases snoc_at q1 with z1 | ⟨i1, z1⟩
    · rcases snoc_at q2 with z2 | ⟨i2, z2⟩
      · exact F.nd i j a z1 z2
      · cases z2; exact absurd (List.mem_of_getElem? z1) nad
    · cases z1
      rcases snoc_at q2 with z2 | ⟨i2, z2⟩
      · exact absurd (List.mem_of_getElem? z2) nad
      · omega
  · rcases List.mem_append.mp h with z | z
    · exact F.adw a z
    · have q : a = la := by simpa using z
      subst q
      exact .inr (he_new F hfree)
theorem tE_callF {m : AFun} {n : Nat} {gs : Fr → Res (List AV)} {σ : L2.St} {H : Hp} {Q : VK} (hn : ∀ fr as fr', gs fr = .ok as fr' → as.length = n) (h : tE (pX X) x (xCallF m gs) σ H Q) : tA (pX X) x gs σ H fun vs H1 => spF (pX X) x.C m n vs H1 Q fun C d H' => x.W C d σ H' := by
  obtain ⟨c, fr, ad, F, o⟩ := h
  refine ⟨c, fr, ad, F, ?_⟩
  unfold xCallF at o
  cases qg : gs fr with
  | exc cl fs fr1 => rw [qg] at o; exact o
  | err => rw [qg] at o; exact o
  | ok as fr1 =>
    have o2 := Out.bind F o
    rw [qg] at o2
    intro ad1 H1 F1 m1 vs rvs
    have o0 := o2 ad1 H1 F1 m1
    refine ⟨by rw [Paired.length rvs]; exact hn fr as fr1 qg, ?_⟩
    simp only at o0
    split at o0
    rotate_left
    · exact o0.elim
    rename_i hnl
    obtain ⟨hnl, nd⟩ := hnl
    have hsc := noScr_of hnl
    cases q1 : getAll fr1.cells (celsOf as) with
    | none => rw [q1] at o0; exact o0.elim
    | some cs =>
      rw [q1] at o0
      simp only at o0
      split at o0
      rotate_left
      · exact o0.elim
      rename_i hncs
      obtain ⟨lW, hW⟩ := celAds_at rvs
      obtain ⟨lc, hcs⟩ := getAll_at q1
      have ndW : (celAds vs as).Nodup := by
        unfold List.Nodup
        rw [List.pairwise_iff_getElem]
        intro j k hj hk hjk e
        have hk' : k < (celsOf as).length := by rw [← lW]; exact hk
        have hj' : j < (celsOf as).length := by omega
        obtain ⟨b1, h1, h2⟩ := hW j (celsOf as)[j] (by rw [List.getElem?_eq_getElem hj'])
        obtain ⟨b2, h3, h4⟩ := hW k (celsOf as)[k] (by rw [List.getElem?_eq_getElem hk'])
        rw [List.getElem?_eq_getElem hj] at h1
        rw [List.getElem?_eq_getElem hk] at h3
        have eb : b1 = b2 := by rw [← Option.some.inj h1, ← Option.some.inj h3]; exact e
        subst eb
        have := F1.nd _ _ _ h2 h4
        have := (List.getElem_inj nd).mp this
        omega
      refine ⟨fun _ => False, celAds vs as, relab 0 as, cs, relab_rep (ok := fun _ => False) (fun a z => z.elim) (relab_any rvs hnl) hsc fun j b e => by rw [Nat.zero_add]; exact e, ndW, by rw [lc, lW], fun i b e => ?_, ?_⟩
      · have hi : i < (celsOf as).length := by rw [← lW]; exact lt_of_at e
        obtain ⟨b', h1, h2⟩ := hW i (celsOf as)[i] (by rw [List.getElem?_eq_getElem hi])
        rw [e] at h1; cases h1
        obtain ⟨cl, h3, h4⟩ := hcs i (celsOf as)[i] (by rw [List.getElem?_eq_getElem hi])
        obtain ⟨cl', h5, h6⟩ := F1.cel _ b h2
        rw [h3] at h5; cases h5
        exact ⟨cl, h4, h6.any (List.all_eq_true.mp hncs cl (List.mem_of_getElem? h4))⟩
      · cases q2 : m (relab 0 as) cs with
        | ok r cs' =>
          rw [q2] at o0
          intro v H2 P rv
          cases r with
          | dat y =>
            cases y with
            | list ys =>
              simp only at o0
              split at o0
              rotate_left
              · exact o0.elim
              rename_i hny
              have rv' : Rep X.K H2 (okF H1 (fun _ => False) (celAds vs as)) v (.list ys) := rv
              cases rv' with
              | @lst la xs _ okl hl hz rl =>
                have hfree : H1 la = none := by
                  rcases okl.1 with z | z
                  · exact z
                  · exact z.elim
                obtain ⟨F3, M3⟩ := call_adopt F1 nd hW lW P hny.2 hl hfree rl hny.1 hz
                exact o0 _ _ F3 M3 _ (newc_at (cl := .gone) F1)
            | none =>
              obtain ⟨F2, m2, okk⟩ := call_end F1 nd hW lW (S := fun _ => False) (fun b hb _ => hb.elim) P
              have rv' : Rep X.K H2 (okF H1 (fun _ => False) (celAds vs as)) v .none := rv
              cases rv'
              exact o0 ad1 H2 F2 m2 _ .non
            | _ => exact o0.elim
          | _ => exact o0.elim
        | exc cl fs cs' =>
          rw [q2] at o0
          intro Cv d H2 P hx
          obtain ⟨F2, m2, okk⟩ := call_end F1 nd hW lW (S := fun _ => False) (fun b hb _ => hb.elim) P
          exact o0 ad1 H2 Cv d F2 m2 hx
        | err => rw [q2] at o0; exact o0.elim
theorem ae_callF {CX : CXT} {k j : Nat} {n : Str} {m : AFun} {es : List Expr} {gs : Fr → Res (List AV)} {p1 : Pos} {np : Nat} (D : DefF X.prog X.w X.K X.mg X.base CX x.C k n np m) (hr : Room j X.A) (hk : k ≤ j) (hx : ∀ σ, PassesAt CX X σ fun C d H' => x.W C d σ H') (hg : Gl X n) (ha : AA X x (a :: es) gs) (hn : ∀ fr as fr', gs fr = .ok as fr' → as.length = np)
    (hdb : (n == ("__debug__" : Str)) = false := by decide) (he : starEach (a :: es) X.env = (false, eval a X.env) :: starEach es X.env := by rfl) (hpl : (backTo pos (starEach es X.env)).any (·.1) = false := by rfl) :
    AE X x (.Call (.Name n p1) (a :: es) [] pos) (xCallF m gs) := by
  obtain ⟨f, fd, ps, F, hm, kp, b⟩ := D.ex
  refine (pe_callSD F (hr.mono hk) hg hm kp b .nil (E := fun σ C d H' => x.W C d σ H') hx ha hdb he hpl).imp fun σ H Q h => ?_
  have z := tE_callF hn h
  unfold tCallSD
  simpa only [List.append_nil] using z

/-! ### several names at once -/
@[simp] def sPar (i j : Nat) (gs : Fr → Res (List AV)) : Fr → SRes := fun fr => (gs fr).toS fun as fr1 => match as with
  | [a, b] => .nx ((fr1.setv i (some a)).setv j (some b))
  | _ => .err
@[simp] def sPar3 (i j l : Nat) (gs : Fr → Res (List AV)) : Fr → SRes := fun fr => (gs fr).toS fun as fr1 => match as with
  | [a, b, c] => .nx (((fr1.setv i (some a)).setv j (some b)).setv l (some c))
  | _ => .err
theorem as_par {i j : Nat} {n m : Str} {gs : Fr → Res (List AV)} {px py pt : Pos} {kt k2 pt2} (hc : X.calm = true) (hN : X.N.Nodup) (hi : X.N[i]? = some n) (hj : X.N[j]? = some m) (hij : i ≠ j)
    (hx : X.env.scope.names.lookup n = some .local) (hy : X.env.scope.names.lookup m = some .local) (ha : AA X x [a, b] gs)
    (hw : swappedStores [.Tuple [.Name n px, .Name m py] kt pt] (.Tuple [a, b] k2 pt2) X.env = pure (some [n, m]))
    (hs : swapsWithSole [.Tuple [.Name n px, .Name m py] kt pt] (.Tuple [a, b] k2 pt2) pos.line X.env = pure false := by rfl) :
    AS X x (.Assign [.Tuple [.Name n px, .Name m py] kt pt] (.Tuple [a, b] k2 pt2) pos) (sPar i j gs) := by
  refine (ps_par hc hN hi hj hij hx hy ha hw hs).imp fun D σ H ⟨c, fr, ad, F, o⟩ => ⟨c, fr, ad, F, (SOut.of F o).mono fun as fr1 ad1 H1 F1 m1 o1 vs rvs => ?_⟩
  match as, o1, rvs with
  | [a1, b1], o1, .cons r1 (.cons r2 .nil) => exact ⟨_, _, rfl, o1 ad1 _ H1 ((F1.setv r1).setv r2)⟩
  | [], o1, _ => exact o1.elim
  | [_], o1, _ => exact o1.elim
  | _ :: _ :: _ :: _, o1, _ => exact o1.elim
theorem as_par3 {i j l : Nat} {n m k : Str} {e1 e2 e3 : Expr} {gs : Fr → Res (List AV)} {px py pz pt : Pos} {kt k2 pt2} (hc : X.calm = true) (hN : X.N.Nodup) (hi : X.N[i]? = some n) (hj : X.N[j]? = some m) (hl : X.N[l]? = some k) (hij : i ≠ j) (hil : i ≠ l) (hjl : j ≠ l)
    (hx : X.env.scope.names.lookup n = some .local) (hy : X.env.scope.names.lookup m = some .local) (hz : X.env.scope.names.lookup k = some .local) (ha : AA X x [e1, e2, e3] gs)
    (hw : swappedStores [.Tuple [.Name n px, .Name m py, .Name k pz] kt pt] (.Tuple [e1, e2, e3] k2 pt2) X.env = pure (some [n, m, k]))
    (hs : swapsWithSole [.Tuple [.Name n px, .Name m py, .Name k pz] kt pt] (.Tuple [e1, e2, e3] k2 pt2) pos.line X.env = pure false := by rfl) :
    AS X x (.Assign [.Tuple [.Name n px, .Name m py, .Name k pz] kt pt] (.Tuple [e1, e2, e3] k2 pt2) pos) (sPar3 i j l gs) := by
  refine (ps_par3 hc hN hi hj hl hij hil hjl hx hy hz ha hw hs).imp fun D σ H ⟨c, fr, ad, F, o⟩ => ⟨c, fr, ad, F, (SOut.of F o).mono fun as fr1 ad1 H1 F1 m1 o1 vs rvs => ?_⟩
  match as, o1, rvs with
  | [a1, b1, c1], o1, .cons r1 (.cons r2 (.cons r3 .nil)) => exact ⟨_, _, _, rfl, o1 ad1 _ H1 (((F1.setv r1).setv r2).setv r3)⟩
  | [], o1, _ => exact o1.elim
  | [_], o1, _ => exact o1.elim
  | [_, _], o1, _ => exact o1.elim
  | _ :: _ :: _ :: _ :: _, o1, _ => exact o1.elim
/-- a target that takes a value apart -/
@[simp] def sAsg (g : Tg) (f : Fr → Res AV) : Fr → SRes := fun fr => (f fr).toS fun a fr1 => match a with
  | .dat y => (match g y fr1 with
    | some fr2 => .nx fr2
    | none => .err)
  | _ => .err
theorem as_asg {tg e : Expr} {is : List Nat} {g : Tg} (ha : AE X x e f) (hg : AG X tg is g) (hs : swapsWithSole [tg] e pos.line X.env = pure false := by rfl) (hw : swappedStores [tg] e X.env = pure none := by rfl)
    (h1 : (assignEach [tg] X.env).map (·.2) = [assign tg X.env] := by rfl) : AS X x (.Assign [tg] e pos) (sAsg g f) := by
  refine (ps_asg ha hg hs hw h1).imp fun D σ H ⟨c, fr, ad, F, o⟩ => ⟨c, fr, ad, F, (SOut.of F o).mono fun av fr1 ad1 H1 F1 m1 o1 v rv => ?_⟩
  cases av with
  | dat y =>
    cases q : g y fr1 with
    | none => simp only [q] at o1; exact o1.elim
    | some fr2 =>
      simp only [q] at o1
      exact ⟨c, fr1, ad1, y, fr2, F1, rv, q, fun σ' F' _ => o1 ad1 σ' H1 F'⟩
  | _ => exact o1.elim

/-! ### d[k] = v, the dict one's own -/
@[simp] def sDSet (i : Nat) (fi fv : Fr → Res AV) : Fr → SRes := fun fr => (fv fr).toS fun a fr1 => match fr1.vars[i]? with
  | some (some (.cel k)) => (fi fr1).toS fun b fr2 => (match a, b, fr2.cells[k]? with
    | .dat y, .dat z, some (.dct tp kvs) => if kOk tp z = true ∧ kvs.length < 1000000 then .nx (fr2.putc k (.dct tp (kput kvs z y))) else .err
    | _, _, _ => .err)
  | _ => .err
def rSetD (X : Cx) : TSet := fun o i v H Q => ∃ (ok : Addr → Prop) (l : Addr) (tp : Bool) (kvs : List (PyData × PyData)) (k dv : PyData), o = .ref l ∧ DctAt (pX X) H ok l tp kvs ∧ (∀ b, ok b → b ≠ l) ∧ Rep X.K H ok i k ∧ Rep X.K H ok v dv ∧ kOk tp k = true ∧ kvs.length < 1000000 ∧
  ∀ o, Keep H (upd H l o) ok ok → DctAt (pX X) (upd H l o) ok l tp (kput kvs k dv) → Q (upd H l o)
theorem set_dict (hu : X.A.units + 64 < cLine) : PSet X (rSetD X) := by
  intro pins s σ H o i v ov iv u Q I ro ri rv hh
  obtain ⟨ok, l, tp, kvs, k, dv, rfl, hd, hne, hk, hv, ho, hl, q⟩ := hh
  cases ro
  exact g_set hu I hd hne hk ri hv rv ho hl q
theorem cell_dct {p : Par} {c : Ent} {fr : Fr} {ad : List (Option Addr)} {σ : L2.St} {H : Hp} (F : FR p c fr ad σ H) {k : Nat} {l : Addr} {tp : Bool} {kvs : List (PyData × PyData)} (e : ad[k]? = some (some l)) (q : fr.cells[k]? = some (.dct tp kvs)) : DctAt p H (okP c ad) l tp kvs := by
  obtain ⟨cl, h1, h2⟩ := F.cel k l e
  rw [q] at h1; cases h1
  exact h2
theorem as_dset {i : Nat} {n : Str} {p1 p2 : Pos} (hu : X.A.units + 64 < cLine) (hN : X.N[i]? = some n) (hv : Vis X.env.scope n) (hb : AE X x b g) (ha : AE X x a f) (hd : (n == ("__debug__" : Str)) = false := by decide) (hcd : (n == ("__classdict__" : Str)) = false := by decide)
    (hsub : ∀ v, assign (.Subscript (.Name n p1) b p2) X.env v = (do
      let ov ← holding [v] (eval (.Name n p1) X.env)
      let iv ← holding [v, ov] (eval b X.env)
      standAt p2
      holding [v, ov, iv] (setItem ov iv v)
      release [v, ov, iv] []) := by intro _; rfl)
    (hs : swapsWithSole [.Subscript (.Name n p1) b p2] a pos.line X.env = pure false := by rfl) (hw : swappedStores [.Subscript (.Name n p1) b p2] a X.env = pure none := by rfl)
    (h1 : (assignEach [.Subscript (.Name n p1) b p2] X.env).map (·.2) = [assign (.Subscript (.Name n p1) b p2) X.env] := by rfl) : AS X x (.Assign [.Subscript (.Name n p1) b p2] a pos) (sDSet i g f) := by
  refine (ps_asg ha (pg_sub (pe_var hN hv hd hcd) hb (set_dict hu) hsub) hs hw h1).imp fun D σ H ⟨c, fr, ad, F, o⟩ => ⟨c, fr, ad, F, (SOut.of F o).mono fun av fr1 ad1 H1 F1 m1 o1 v rv => ?_⟩
  cases q : fr1.vars[i]? with
  | none => rw [q] at o1; exact o1.elim
  | some w =>
    rw [q] at o1
    cases w with
    | none => exact o1.elim
    | some aw =>
      obtain ⟨vw, e1, e2⟩ := F1.var i aw q
      cases aw with
      | cel k =>
        obtain ⟨l, rfl, hl⟩ := e2
        refine ⟨_, e1, c, fr1, ad1, F1, (SOut.of F1 o1).mono fun bv fr2 ad2 H2 F2 m2 o2 w rw_ => ?_⟩
        have rv2 := RepA.mv F1 m2 rv
        cases av with
        | dat y =>
          cases bv with
          | dat yb =>
            cases q2 : fr2.cells[k]? with
            | none => simp only [q2] at o2; exact o2.elim
            | some cl =>
              cases cl with
              | dct tp kvs =>
                simp only [q2] at o2
                split at o2
                rotate_left
                · exact o2.elim
                rename_i hh
                have e3 := m2.pre k _ hl
                have dd := cell_dct F2 e3 q2
                have m := List.mem_of_getElem? e3
                refine ⟨okP c ad2, l, tp, kvs, yb, y, rfl, dd, fun b hb z => hb.2 (by rw [z]; exact m), rw_, rv2, hh.1, hh.2, fun o kp d2 => ?_⟩
                exact o2 _ _ _ (F2.putc e3 (wr_td dd) d2)
              | _ => simp only [q2] at o2; exact o2.elim
          | _ => exact o2.elim
        | _ => cases bv <;> exact o2.elim
      | _ => exact o1.elim
end
end G
/-! GQ: sorted. -/
namespace G
open PySem PySem.Spec PyProof.Rows L2

abbrev srtLe : PyData → PyData → Bool := PySem.W.dataLe false (fun d : PyData => d)
def allAlike (ds : List PyData) : Bool := ds.all fun x => ds.all fun y => PySem.W.alike x y
def tupB : PyData → Bool
  | .tuple (_ :: _) => true
  | _ => false
def plainB : PyData → Bool
  | .tuple _ => false
  | .none => false
  | _ => true
def sortOk (ds : List PyData) : Bool := decide (ds.length ≤ 1000000) && allAlike ds && (ds.all tupB || ds.all plainB) && ds.all fun d => decide (d.depth ≤ 32)
def dSortL (ds : List PyData) : Option PyData := if sortOk ds = true then some (.list (ds.mergeSort srtLe)) else none
theorem allAlike_of {ds : List PyData} (h : allAlike ds = true) : PySem.W.AllAlike ds := fun x hx y hy => List.all_eq_true.mp (List.all_eq_true.mp h x hx) y hy
theorem sortable_of {ds : List PyData} (h : (ds.all tupB || ds.all plainB) = true) : PySem.W.Sortable ds := by
  rcases Bool.or_eq_true_iff.mp h with h | h
  · left
    intro d hd
    have := List.all_eq_true.mp h d hd
    cases d with
    | tuple xs => cases xs with
      | nil => cases this
      | cons x r => exact ⟨x, r, rfl⟩
    | _ => cases this
  · right
    intro d hd
    have := List.all_eq_true.mp h d hd
    refine ⟨fun e => ?_, fun xs e => ?_⟩
    · subst e; cases this
    · subst e; cases this
section
variable {X : Cx}
theorem each_of {K : PySem.W.Frag} {H : Hp} {ok : Addr → Prop} : ∀ {ws : List V} {vs : List Value} {ds : List PyData}, Vals ws vs → RepL K H ok ws ds → PySem.W.EachIs (fun v d => ∃ w, RelV w v ∧ Rep K H ok w d) vs ds
  | _, _, _, .nil, .nil => .nil
  | _, _, _, .cons r rs, .cons q qs => .cons ⟨_, r, q⟩ (each_of rs qs)
theorem of_each {K : PySem.W.Frag} {H : Hp} {ok : Addr → Prop} : ∀ {vs : List Value} {ds : List PyData}, PySem.W.EachIs (fun v d => ∃ w, RelV w v ∧ Rep K H ok w d) vs ds → ∃ ws, Vals ws vs ∧ RepL K H ok ws ds
  | _, _, .nil => ⟨[], .nil, .nil⟩
  | _, _, .cons ⟨w, r, q⟩ es => by
    obtain ⟨ws, h1, h2⟩ := of_each es
    exact ⟨w :: ws, .cons r h1, .cons q h2⟩
theorem sorted_inv {pins : List (Addr × Obj)} {σ : L2.St} {H : Hp} {s : Shared} {v : Value} {ds : List PyData} {Q : VK} (hu : X.A.units + 64 < cLine) (hok : sortOk ds = true) (I : Inv X pins σ H s)
    (hcol : wpAny (model X.prog X.w) X.A.in1 (collect v) (fun vs s1 => ∃ H1 ok1 ws, Inv X pins σ H1 s1 ∧ Vals ws vs ∧ RepL X.K H1 ok1 ws ds ∧ ∀ ws' p, H1 p = none → RepL X.K H1 ok1 ws' (ds.mergeSort srtLe) → Q (.ref p) (upd H1 p (.lst ws'))) X.xe s) :
    wpAny (model X.prog X.w) X.A (call (.builtin "sorted") [v]) (EP X pins σ Q) X.xe s := by
  unfold sortOk at hok
  simp only [Bool.and_eq_true] at hok
  obtain ⟨⟨⟨h1, h2⟩, h3⟩, h4⟩ := hok
  have hl := of_decide_eq_true h1
  refine Calls.call_function_entry PyProof.Rows.kind_sorted PyProof.Rows.plain_sorted PyProof.Rows.entry_sorted (PyProof.Rows.args_sorted1 _) ?_
  unfold Builtin.«sorted»
  refine wpAny_bind (m := checkCount "sorted" 1 1 _) (wpAny_pure ?_)
  refine wpAny_bind (thn hcol fun vs s1 hq => ?_)
  obtain ⟨H1, ok1, ws, I1, rv, rl, q⟩ := hq
  have lv : vs.length = ds.length := by rw [← rv.length, rl.length]
  have hz : vs.length ≤ sizeLine := by rw [sizeLine_eq]; omega
  refine wpAny_bind (wpAny_newList ?_ hz)
  have hoL : (s1.heap.push (seqObj "list" vs.toArray 0)).get? s1.heap.objs.size = some (seqObj "list" vs.toArray 0) := Heap.get?_push_size _ rfl
  show wpAny _ _ _ _ _ { s1 with heap := s1.heap.push (seqObj "list" vs.toArray 0) }
  have er : PySem.W.EachIs (fun v d => ∃ as, Reads (PySem.W.sortingHeap (s1.heap.push (seqObj "list" vs.toArray 0)) s1.heap.objs.size vs) v d as) vs ds := by
    refine (each_of rv rl).mono fun v d ⟨w, r1, r2⟩ => ?_
    obtain ⟨as, r⟩ := Dp.reads I1 d w v r2.dp r1
    exact ⟨as, PyProof.Rows.Reads.keeps (fun b o e => PySem.W.sortingHeap_old (Nat.ne_of_lt (Heap.lt_size e)) (Heap.get?_push_of_some _ e)) r⟩
  have S := PySem.W.SortsAt.data (prog := X.prog) (w := X.w) (A := X.A.in1.in1) (s := { s1 with heap := PySem.W.sortingHeap (s1.heap.push (seqObj "list" vs.toArray 0)) s1.heap.objs.size vs }) er (allAlike_of h2) (sortable_of h3) (fun d hd => by
    have e := of_decide_eq_true (List.all_eq_true.mp h4 d hd)
    show X.A.units + 1 + 1 + d.depth < cLine
    omega)
  refine wpAny_bind (wpAny_holding (wpAny_call_entry PyProof.Rows.slot_list_sort ⟨_, hoL, rfl⟩ PyProof.Rows.entry_list_sort
    (PySem.W.list_sort_vals (s := { s1 with heap := s1.heap.push (seqObj "list" vs.toArray 0) }) hoL S hz ⟨_, rfl, ?_⟩) (PyProof.Rows.args_list_sort _)))
  have eo : PySem.W.EachIs (fun v d => ∃ w, RelV w v ∧ Rep X.K H1 ok1 w d) (PySem.W.sortVals (PySem.W.dataKind (PySem.W.sortingHeap (s1.heap.push (seqObj "list" vs.toArray 0)) s1.heap.objs.size vs) ds) false vs vs) (ds.mergeSort srtLe) := by
    have z := PySem.W.sortVals_data (enc := fun d : PyData => d) false (each_of rv rl) er (by simpa using allAlike_of h2)
    simpa using z
  obtain ⟨ws', g1, g2⟩ := of_each eo
  obtain ⟨e', he'⟩ := PyProof.Rows.sortedHeap_at (vs := vs) (out := (PySem.W.sortVals (PySem.W.dataKind (PySem.W.sortingHeap (s1.heap.push (seqObj "list" vs.toArray 0)) s1.heap.objs.size vs) ds) false vs vs).toArray) hoL
  have hlen : ws'.length ≤ sizeLine := by
    rw [g2.length, List.length_mergeSort]
    rw [sizeLine_eq]; omega
  refine wpAny_pure ⟨_, rfl, .ref s1.heap.objs.size, upd H1 s1.heap.objs.size (.lst ws'), I1.laid (t' := s1.toks) (fun b u e => ?_) (Nat.le_refl _)
    (show ObjOk X.prog X.w _ _ _ (.lst ws') from ⟨hlen, _, e', g1, he'⟩), rfl, q _ _ (I1.hok.fresh (Nat.le_refl _)) g2⟩
  have hb : b < s1.heap.objs.size := Heap.lt_size e
  rw [PyProof.Rows.sortedHeap_old (Nat.ne_of_lt hb) (by rw [size_push']; exact Nat.lt_succ_of_lt hb)]
  exact Heap.get?_push_of_some _ e

/-- a list, a tuple -/
def dSorted : List PyData → Option PyData
  | [y] => (match seqD y with
    | some (_, ds) => dSortL ds
    | none => none)
  | _ => none
theorem seqB_rep {K : PySem.W.Frag} {H : Hp} {ok : Addr → Prop} {v : V} {y : PyData} {l : Bool} {ys : List PyData} (r : RepB K H ok v y) (e : seqD y = some (l, ys)) : ∃ a xs, v = .ref a ∧ SqB K l H a xs ∧ RepL K H ok xs ys ∧ ys.length ≤ sizeLine := by
  cases y with
  | list zs => cases e; obtain ⟨a, xs, h1, h2, h4, h3⟩ := r.list; exact ⟨a, xs, h1, h2, h3, h4⟩
  | tuple zs => cases e; obtain ⟨a, xs, h1, h2, h4, h3⟩ := r.tuple; exact ⟨a, xs, h1, h2, h3, h4⟩
  | _ => cases e
theorem collect_B {pins : List (Addr × Obj)} {σ : L2.St} {H : Hp} {s : Shared} {a : Addr} {l : Bool} {xs : List V} {A : Around} {R : List Value → Shared → Prop} {E : Value → Shared → Prop} (I : Inv X pins σ H s) (h : SqB X.K l H a xs) (hz : xs.length ≤ sizeLine)
    (q : ∀ h' vs, Inv X pins σ H { s with heap := h' } → Vals xs vs → R vs { s with heap := h' }) : wpAny (model X.prog X.w) A (collect (.ref a)) R E s := by
  obtain ⟨its, rv, p, _⟩ := seqB I h
  have hs : its.toArray.size ≤ sizeLine := by simpa [← rv.length] using hz
  cases l with
  | true =>
    obtain ⟨o, e, c, n, d⟩ := p
    refine wpAny_collect_seq a (T := "list") (.inl rfl) e c d (fun h' k => ?_) hs
    exact q h' _ (I.kept (t' := s.toks) k) (by simpa using rv)
  | false =>
    obtain ⟨o, e, c, n, d⟩ := p
    refine wpAny_collect_seq a (T := "tuple") (.inr rfl) e c d (fun h' k => ?_) hs
    exact q h' _ (I.kept (t' := s.toks) k) (by simpa using rv)
theorem c_sorted (hu : X.A.units + 64 < cLine) : CallR X (.builtin "sorted") (rCall X.K dSorted) := by
  intro pins s σ H xs us Q I rx hh
  obtain ⟨ok, ds, r, hok, hx, e, q⟩ := hh
  match ds, e with
  | [y], e =>
    simp only [dSorted] at e
    cases q1 : seqD y with
    | none => rw [q1] at e; cases e
    | some z =>
      obtain ⟨l, ys⟩ := z
      rw [q1] at e
      simp only [dSortL] at e
      split at e
      · rename_i hs
        cases e
        obtain ⟨v, rfl, h⟩ := hx.one
        obtain ⟨a, xs, rfl, h1, h2, hz⟩ := seqB_rep h q1
        obtain ⟨u, rfl, ru⟩ := vals1 rx
        cases ru
        refine sorted_inv hu hs I (collect_B I h1 (by rw [h2.length]; exact hz) fun h' vs I1 rv => ⟨H, ok, xs, I1, rv, h2, fun ws' p hp rl => q _ _ (Grow.new hp) (.lst (hok p hp) upd_same ?_ (RepL.keep (Grow.new hp).keep rl))⟩)
        rw [List.length_mergeSort]
        exact hz
      · cases e
end
end G
/-! GR: dicts as rows of keys, items, values. -/
namespace G
open PySem PySem.Spec PyProof.Rows L2

section
variable {X : Cx} {pins : List (Addr × Obj)} {σ : L2.St} {H : Hp} {s : Shared} {ok : Addr → Prop}
/-- an entry as data -/
def EntOk (K : PySem.W.Frag) (H : Hp) (ok : Addr → Prop) (en : DictEntry) (q : PyData × PyData) : Prop := ∃ k v, RelV k en.key ∧ Rep K H ok k q.1 ∧ RelV v en.val ∧ Rep K H ok v q.2
structure DRaw (X : Cx) (H : Hp) (ok : Addr → Prop) (s : Shared) (a : Addr) (kvs : List (PyData × PyData)) (es : Array DictEntry) (ep : Nat) : Prop where
  raw : s.heap.DictRaw a es ep
  lo : (a == sysModules) = false
  len : es.size = kvs.length
  le : kvs.length ≤ sizeLine
  at_ : ∀ (i : Nat) (en : DictEntry), es[i]? = some en → ∃ q, kvs[i]? = some q ∧ EntOk X.K H ok en q
theorem key_rep {n : Key} {u : Value} (hs : keyS n) (h : keyIs n u = true) : ∃ v, RelV v u ∧ Rep X.K H ok v (keyD n) := by
  refine ⟨kV n, relV_key h, ?_⟩
  cases n with
  | inl i => exact .int i
  | inr x => exact .str x hs
theorem dct_raw (I : Inv X pins σ H s) {a : Addr} {tp : Bool} {kvs : List (PyData × PyData)} (d : DctAt (pX X) H ok a tp kvs) : ∃ es ep, DRaw X H ok s a kvs es ep := by
  cases tp with
  | false =>
    obtain ⟨ks, e, r1⟩ := d
    obtain ⟨z, lo, vs, rel, dd⟩ := dk_rd I.hok (.inl e)
    obtain ⟨es, ep, hr, hz, hat⟩ := dd.raw
    have l1 : ks.length = kvs.length := Paired.length r1
    have l2 : ks.length = vs.length := rel.length
    refine ⟨es, ep, hr, lo, by omega, by omega, fun i en he => ?_⟩
    have hi : i < es.size := by
      rcases Nat.lt_or_ge i es.size with q | q
      · exact q
      · rw [Array.getElem?_eq_none q] at he; cases he
    obtain ⟨x, hx⟩ : ∃ x, ks[i]? = some x := ⟨ks[i]'(by omega), List.getElem?_eq_getElem (by omega)⟩
    obtain ⟨q, hq1, hq2, hq3, hq4⟩ : ∃ q, kvs[i]? = some q ∧ q.1 = keyD x.1 ∧ keyS x.1 ∧ Rep X.K H ok x.2 q.2 := by
      have : ∀ {ks : List (Key × V)} {kvs : List (PyData × PyData)} {i : Nat} {x : Key × V}, Paired (PrF (pX X) H ok) ks kvs → ks[i]? = some x → ∃ q, kvs[i]? = some q ∧ PrF (pX X) H ok x q := by
        intro ks kvs i x r
        induction r generalizing i with
        | nil => intro e; simp at e
        | cons h _ ih =>
          intro e
          cases i with
          | zero => simp at e; subst e; exact ⟨_, rfl, h⟩
          | succ j => obtain ⟨q, h1, h2⟩ := ih (i := j) (by simpa using e); exact ⟨q, by simpa using h1, h2⟩
      obtain ⟨q, h1, h2⟩ := this r1 hx
      exact ⟨q, h1, h2⟩
    obtain ⟨u, hu, ru⟩ := kv_get rel (k := x.1) (v := x.2) hx
    have z2 := hat i hi x.1 u hu
    have een : es[i] = en := by
      rw [Array.getElem?_eq_getElem hi] at he; exact Option.some.inj he
    rw [een] at z2
    obtain ⟨w, hw1, hw2⟩ := key_rep (X := X) (H := H) (ok := ok) hq3 (show keyIs x.1 en.key = true from z2.1)
    refine ⟨q, hq1, w, x.2, hw1, by rw [hq2]; exact hw2, by rw [z2.2]; exact ru, hq4⟩
  | true =>
    obtain ⟨es, ep, xs, e, h1, h2, h3, h4, r1⟩ := d
    obtain ⟨⟨o, ho, hx, hd⟩, _⟩ := (show ObjOk X.prog X.w H s.heap a (dTh a es ep) from I.hok a _ e)
    have l1 : xs.length = kvs.length := Paired.length r1
    have l2 : es.size = xs.length := by rw [← Array.length_toList, h1, List.length_map]
    refine ⟨es, ep, ⟨o, ho, hx, hd⟩, h3, by omega, h4, fun i en he => ?_⟩
    have he' : es.toList[i]? = some en := by rw [Array.getElem?_toList]; exact he
    rw [h1, List.getElem?_map] at he'
    cases q : xs[i]? with
    | none => rw [q] at he'; cases he'
    | some x =>
      rw [q] at he'
      have een : entryOfKey (nestedKind X.prog X.w) x = en := Option.some.inj he'
      have : ∀ {xs : List (NestedKey × Addr × Value)} {kvs : List (PyData × PyData)} {i : Nat} {x : NestedKey × Addr × Value}, Paired (PrT (pX X) H ok) xs kvs → xs[i]? = some x → ∃ q, kvs[i]? = some q ∧ PrT (pX X) H ok x q := by
        intro ks kvs i x r
        induction r generalizing i with
        | nil => intro e; simp at e
        | cons h _ ih =>
          intro e
          cases i with
          | zero => simp at e; subst e; exact ⟨_, rfl, h⟩
          | succ j => obtain ⟨q, h1, h2⟩ := ih (i := j) (by simpa using e); exact ⟨q, by simpa using h1, h2⟩
      obtain ⟨p, g1, g2, g3, g4, v, g5, g6⟩ := this r1 q
      refine ⟨p, g1, .ref x.2.1, v, ?_, g4, ?_, g6⟩
      · rw [← een]; rfl
      · rw [← een]; exact g5
theorem kdl_rawKeys {prog : Program} {w : World} {d : Addr} {es : Array DictEntry} {ep : Nat} (lo : (d == sysModules) = false) : PySem.W.KdlSrc prog w "dict" d d es.size (fun i v => ∃ hi : i < es.size, v = es[i].key) (fun h => h.DictRaw d es ep) where
  type := fun _ hm => hm.typeIs
  there := fun _ hm => let ⟨_, ho, _⟩ := hm; ⟨Heap.lt_size ho, Heap.lt_size ho⟩
  keep := fun _ _ hm hk => hm.at fun o e => hk d (.inl rfl) o e
  notList := by decide
  notTuple := by decide
  hint := fun _ _ _ _ hm hq => PySem.W.kdl_hint_dict hm.typeIs hq
  iter := fun _ s hh hm => ⟨_, _, (fun _ _ hq => wpAny_pyIter_dict_raw lo hm hq), Walks.rawKeys hh _ d (Nat.ne_of_lt (let ⟨_, ho, _⟩ := hm; Heap.lt_size ho)) es ep, ⟨⟨_, Heap.get?_push_size _ rfl, rfl, rfl⟩, hm.at fun o e => Heap.get?_push_of_some _ e⟩⟩
theorem keys_rep {a : Addr} {kvs : List (PyData × PyData)} {es : Array DictEntry} {ep : Nat} (D : DRaw X H ok s a kvs es ep) {acc : List Value} (hl : acc.length = es.size) (h : ∀ (i : Nat) (v : Value), acc[i]? = some v → ∃ hi : i < es.size, v = es[i].key) : ∃ ws, Vals ws acc ∧ RepL X.K H ok ws (kvs.map (·.1)) := by
  have go : ∀ (n : Nat) (acc : List Value) (kv : List (PyData × PyData)), acc.length = kv.length → (∀ (i : Nat) (v : Value), acc[i]? = some v → ∃ w q, kv[i]? = some q ∧ RelV w v ∧ Rep X.K H ok w q.1) → ∃ ws, Vals ws acc ∧ RepL X.K H ok ws (kv.map (·.1)) := by
    intro _ acc
    induction acc with
    | nil =>
      intro kv e _
      cases kv with
      | nil => exact ⟨[], .nil, .nil⟩
      | cons => cases e
    | cons v acc ih =>
      intro kv e h
      cases kv with
      | nil => cases e
      | cons q kv =>
        obtain ⟨w, q', h1, h2, h3⟩ := h 0 v rfl
        cases h1
        obtain ⟨ws, g1, g2⟩ := ih kv (by simpa using e) fun i v e => by
          obtain ⟨w, q, z1, z2, z3⟩ := h (i + 1) v (by simpa using e)
          exact ⟨w, q, by simpa using z1, z2, z3⟩
        exact ⟨w :: ws, .cons h2 g1, .cons h3 g2⟩
  refine go 0 acc kvs (by rw [hl, D.len]) fun i v e => ?_
  obtain ⟨hi, rfl⟩ := h i v e
  obtain ⟨q, h1, k, v, h2, h3, _⟩ := D.at_ i es[i] (by rw [Array.getElem?_eq_getElem hi])
  exact ⟨k, q, h1, h2, h3⟩
end
/-- a call with one dict -/
def rCD (X : Cx) (sem : List (PyData × PyData) → Option PyData) : List V → Hp → VK → Prop := fun xs H Q => ∃ (ok : Addr → Prop) (l : Addr) (tp : Bool) (kvs : List (PyData × PyData)) (r : PyData), (∀ p, H p = none → ok p) ∧ xs = [.ref l] ∧ DctAt (pX X) H ok l tp kvs ∧ sem kvs = some r ∧ ∀ v H', Grow H H' → Rep X.K H' ok v r → Q v H'
def dSortedK (kvs : List (PyData × PyData)) : Option PyData := dSortL (kvs.map (·.1))
def dListK (kvs : List (PyData × PyData)) : Option PyData := some (.list (kvs.map (·.1)))
def dLenK (kvs : List (PyData × PyData)) : Option PyData := some (.int kvs.length)
section
variable {X : Cx}
theorem c_sortedK (hc : X.calm = true) (hu : X.A.units + 64 < cLine) : CallR X (.builtin "sorted") (rCD X dSortedK) := by
  intro pins s σ H xs us Q I rx hh
  obtain ⟨ok, l, tp, kvs, r, hok, rfl, hd, e, q⟩ := hh
  obtain ⟨u, rfl, ru⟩ := vals1 rx
  cases ru
  simp only [dSortedK, dSortL] at e
  split at e
  rotate_left
  · cases e
  rename_i hs
  cases e
  obtain ⟨es, ep, D⟩ := dct_raw I hd
  refine sorted_inv hu hs I ?_
  refine PySem.W.kdu_collect (A := X.A.in1) (kdl_rawKeys D.lo) (I.ok.hd hc) D.raw (by rw [D.len]; exact D.le) fun h' tk acc hk hacc => ?_
  obtain ⟨ws, g1, g2⟩ := keys_rep D (acc := acc.toList) (by rw [Array.length_toList]; exact hacc.1) fun i v e => hacc.2 i v (by rw [← Array.getElem?_toList]; exact e)
  refine ⟨H, ok, ws, I.kept (t' := tk) hk, g1, g2, fun ws' p hp rl => q _ _ (Grow.new hp) (.lst (hok p hp) upd_same ?_ (RepL.keep (Grow.new hp).keep rl))⟩
  rw [List.length_mergeSort, List.length_map]
  exact D.le
theorem c_listK (hc : X.calm = true) : CallR X (.type "list") (rCD X dListK) := by
  intro pins s σ H xs us Q I rx hh
  obtain ⟨ok, l, tp, kvs, r, hok, rfl, hd, e, q⟩ := hh
  obtain ⟨u, rfl, ru⟩ := vals1 rx
  cases ru
  cases e
  obtain ⟨es, ep, D⟩ := dct_raw I hd
  refine PySem.W.kdl_call (kdl_rawKeys D.lo) (I.ok.hd hc) D.raw (by rw [D.len]; exact D.le) fun h' tk acc c' hk hD hacc => ?_
  obtain ⟨ws, g1, g2⟩ := keys_rep D (acc := acc.toList) (by rw [Array.length_toList]; exact hacc.1) fun i v e => hacc.2 i v (by rw [← Array.getElem?_toList]; exact e)
  have hp := I.hok.fresh (Nat.le_refl s.heap.objs.size)
  have hz : (kvs.map (·.1)).length ≤ sizeLine := by rw [List.length_map]; exact D.le
  refine ⟨.ref s.heap.objs.size, upd H s.heap.objs.size (.lst ws), I.laid (t' := tk) hk (Nat.le_refl _)
    (show ObjOk X.prog X.w _ _ _ (.lst ws) from ⟨by rw [g2.length]; exact hz, acc.toList, c', g1, by rw [Array.toArray_toList]; exact hD⟩), rfl, q _ _ (Grow.new hp) (.lst (hok _ hp) upd_same hz (RepL.keep (Grow.new hp).keep g2))⟩

/-- of a dict that is read -/
@[simp] def xD1 (sem : List (PyData × PyData) → Option PyData) (f : Fr → Res AV) : Fr → Res AV := fun fr => (f fr).bind fun a fr1 => match fr1.dview a with
  | some (_, kvs) => ofO fr1 (sem kvs)
  | none => .err
variable {x : XW} {a b d : Expr} {f g h : Fr → Res AV} {pos : Pos}
theorem tA_D1 {sem : List (PyData × PyData) → Option PyData} {σ : L2.St} {H : Hp} {Q : VK} (hh : tE (pX X) x (xD1 sem f) σ H Q) : tCons (tE (pX X) x f) tNil σ H fun vs H1 => rCD X sem vs H1 Q := by
  obtain ⟨c, fr, ad, F, o⟩ := hh
  refine ⟨c, fr, ad, F, (Out.bind F o).mono fun av fr1 ad1 H1 F1 m1 o1 v rv => ?_⟩
  cases q1 : fr1.dview av with
  | none => rw [q1] at o1; exact o1.elim
  | some z =>
    obtain ⟨tp, kvs⟩ := z
    rw [q1] at o1
    simp only [ofO] at o1
    cases q3 : sem kvs with
    | none => rw [q3] at o1; exact o1.elim
    | some r =>
      rw [q3] at o1
      obtain ⟨l, rfl, dd⟩ := dview_rep F1 rv q1
      exact ⟨okP c ad1, l, tp, kvs, r, fun p hp => okP_new F1 hp, rfl, dd, q3, fun w H3 gr rw_ => o1 ad1 H3 (F1.grow gr) (Mv.grow gr) w rw_⟩
theorem ae_callBD {id : String} {n : Str} {sem : List (PyData × PyData) → Option PyData} {p1 : Pos} (hc : CallR X (.builtin id) (rCD X sem)) (hg : Gl X n) (hm : X.mg n = none) (hv : bootBuiltins n = some (.builtin id)) (ha : AE X x a f)
    (hn : n ≠ "__name__" := by decide) (hdb : (n == ("__debug__" : Str)) = false := by decide) (he : starEach [a] X.env = (false, eval a X.env) :: starEach [] X.env := by rfl) (hpl : (backTo pos (starEach [] X.env)).any (·.1) = false := by rfl) :
    AE X x (.Call (.Name n p1) [a] [] pos) (xD1 sem f) :=
  (pe_callB hc hg hm hv (pa_cons ha pa_nil he) hn hdb he hpl).imp fun _ _ _ h => tA_D1 h
theorem ae_callTD {T : String} {n : Str} {sem : List (PyData × PyData) → Option PyData} {p1 : Pos} (hc : CallR X (.type T) (rCD X sem)) (hg : Gl X n) (hm : X.mg n = none) (hv : bootBuiltins n = some (.type T)) (ha : AE X x a f)
    (hn : n ≠ "__name__" := by decide) (hdb : (n == ("__debug__" : Str)) = false := by decide) (he : starEach [a] X.env = (false, eval a X.env) :: starEach [] X.env := by rfl) (hpl : (backTo pos (starEach [] X.env)).any (·.1) = false := by rfl) :
    AE X x (.Call (.Name n p1) [a] [] pos) (xD1 sem f) :=
  (pe_callTy hc hg hm hv (pa_cons ha pa_nil he) hn hdb he hpl).imp fun _ _ _ h => tA_D1 h

/-! ### d.items(), as it is handed to a built-in function -/
def rCI (X : Cx) (sem : List (PyData × PyData) → Option PyData) : List V → Hp → VK → Prop := fun xs H Q => ∃ (ok : Addr → Prop) (p l : Addr) (tp : Bool) (kvs : List (PyData × PyData)) (r : PyData), (∀ p, H p = none → ok p) ∧ xs = [.ref p] ∧ H p = some (DX.itemsO p l) ∧ DctAt (pX X) H ok l tp kvs ∧ sem kvs = some r ∧ ∀ v H', Grow H H' → Rep X.K H' ok v r → Q v H'
def itemsD (kvs : List (PyData × PyData)) : List PyData := kvs.map fun q => .tuple [q.1, q.2]
def dSortedI (kvs : List (PyData × PyData)) : Option PyData := dSortL (itemsD kvs)
/-- new tuples, one after another -/
theorem take_items {pins : List (Addr × Obj)} {σ : L2.St} {s : Shared} {ok : Addr → Prop} {H0 : Hp} {h' : Heap} {tk : Nat} (I0 : Inv X pins σ H0 s) : ∀ (as : List Addr) (kv : List (PyData × PyData)) (H : Hp), Inv X pins σ H { s with heap := h', toks := tk } → as.Nodup → (∀ a ∈ as, s.heap.objs.size ≤ a ∧ H a = none) → as.length = kv.length →
    (∀ (j : Nat) (a : Addr), as[j]? = some a → ∃ q en, kv[j]? = some q ∧ EntOk X.K H ok en q ∧ h'.get? a = some { cls := .type "tuple", data := .seq #[en.key, en.val] }) →
    ∃ H', Inv X pins σ H' { s with heap := h', toks := tk } ∧ Grow H H' ∧ RepL X.K H' ok (as.map V.ref) (itemsD kv)
  | [], [], H, I, _, _, _, _ => ⟨H, I, Grow.refl, .nil⟩
  | [], _ :: _, _, _, _, _, e, _ => by cases e
  | _ :: _, [], _, _, _, _, e, _ => by cases e
  | a :: as, q :: kv, H, I, nd, hb, hl, hp => by
    obtain ⟨q', en, e1, ⟨k, v, r1, r2, r3, r4⟩, e2⟩ := hp 0 a rfl
    cases e1
    obtain ⟨b1, b2⟩ := hb a (List.mem_cons_self ..)
    rw [List.nodup_cons] at nd
    have okO : ObjOk X.prog X.w (upd H a (.tup [k, v])) h' a (.tup [k, v]) := ⟨two_ok, [en.key, en.val], .cons r1 (.cons r3 .nil), ⟨_, e2, rfl, _, rfl⟩⟩
    have I2 : Inv X pins σ (upd H a (.tup [k, v])) { s with heap := h', toks := tk } := I.take (h' := h') (t' := tk) (fun b ob _ e => e) (I0.fpOk b1 b2) okO
    have gr : Grow H (upd H a (.tup [k, v])) := Grow.new b2
    obtain ⟨H', I3, g, rl⟩ := take_items I0 as kv _ I2 nd.2 (fun c hc => by
      obtain ⟨c1, c2⟩ := hb c (List.mem_cons_of_mem _ hc)
      exact ⟨c1, by rw [upd_ne (fun z => nd.1 (by rw [← z]; exact hc))]; exact c2⟩) (by simpa using hl) (fun j c hj => by
      obtain ⟨q, en, z1, ⟨k, v, y1, y2, y3, y4⟩, z2⟩ := hp (j + 1) c (by simpa using hj)
      exact ⟨q, en, by simpa using z1, ⟨k, v, y1, y2.keep gr.keep, y3, y4.keep gr.keep⟩, z2⟩)
    refine ⟨H', I3, fun b o e => g b o (gr b o e), .cons (.tup (SqT.of (g _ _ upd_same)) two_ok (.cons (r2.keep (Grow.keep (ok := ok) fun b o e => g b o (gr b o e))) (.cons (r4.keep (Grow.keep (ok := ok) fun b o e => g b o (gr b o e))) .nil))) rl⟩
theorem collect_items {pins : List (Addr × Obj)} {σ : L2.St} {H : Hp} {s : Shared} {ok : Addr → Prop} {p l : Addr} {kvs : List (PyData × PyData)} {tp : Bool} {R : List Value → Shared → Prop} {A : Around} {E : Value → Shared → Prop} (hh : A.handled = none) (I : Inv X pins σ H s) (hp : H p = some (DX.itemsO p l)) (hd : DctAt (pX X) H ok l tp kvs)
    (q : ∀ s1 vs H1 ws, Inv X pins σ H1 s1 → Grow H H1 → Vals ws vs → RepL X.K H1 ok ws (itemsD kvs) → R vs s1) : wpAny (model X.prog X.w) A (collect (.ref p)) R E s := by
  have view : s.heap.IsItemsView p l := (show ObjOk X.prog X.w H s.heap p (DX.itemsO p l) from I.hok p _ hp).1
  obtain ⟨es, ep, D⟩ := dct_raw I hd
  refine DT.collectI (es := es) (ep := ep) hh view D.raw (by rw [D.len]; exact D.le) fun h' tk as hk hlt hl hG => ?_
  have nd : as.Nodup := List.Pairwise.imp (fun h => Nat.ne_of_lt h) hG.rise
  obtain ⟨H1, I1, g, rl⟩ := take_items (ok := ok) I as kvs H (I.kept (t' := tk) hk) nd (fun a ha => ⟨Nat.le_of_lt (hG.above a ha), I.hok.fresh (Nat.le_of_lt (hG.above a ha))⟩) (by rw [hl, D.len]) fun j a hj => by
    obtain ⟨en, e1, e2⟩ := hG.pairs j a hj
    obtain ⟨q, h1, h2⟩ := D.at_ j en e1
    exact ⟨q, en, h1, h2, e2⟩
  refine q _ _ H1 _ I1 g ?_ rl
  have : ∀ as : List Addr, Vals (as.map V.ref) (as.map Value.ref) := by
    intro as
    induction as with
    | nil => exact .nil
    | cons a as ih => exact .cons rfl ih
  exact this as
theorem c_sortedI (hc : X.calm = true) (hu : X.A.units + 64 < cLine) : CallR X (.builtin "sorted") (rCI X dSortedI) := by
  intro pins s σ H xs us Q I rx hh
  obtain ⟨ok, p, l, tp, kvs, r, hok, rfl, hp, hd, e, q⟩ := hh
  obtain ⟨u, rfl, ru⟩ := vals1 rx
  cases ru
  simp only [dSortedI, dSortL] at e
  split at e
  rotate_left
  · cases e
  rename_i hs
  cases e
  have hle : kvs.length ≤ sizeLine := by
    obtain ⟨es, ep, D⟩ := dct_raw I hd
    exact D.le
  refine sorted_inv hu hs I (collect_items (I.ok.hd hc) I hp hd fun s1 vs H1 ws I1 g r1 r2 => ⟨H1, ok, ws, I1, r1, r2, fun ws' p' hp' rl => q _ _ (fun b o e => Grow.new hp' b o (g b o e)) (.lst (hok p' ?_) upd_same ?_ (RepL.keep (Grow.new hp').keep rl))⟩)
  · cases z : H p' with
    | none => rfl
    | some o => rw [g p' o z] at hp'; cases hp'
  · rw [List.length_mergeSort]
    unfold itemsD
    rw [List.length_map]
    exact hle
/-- d.items() -/
def tItems (X : Cx) (td : TE) : TE := fun σ H Q => td σ H fun v H1 => ∃ (ok : Addr → Prop) (l : Addr) (tp : Bool) (kvs : List (PyData × PyData)), v = .ref l ∧ DctAt (pX X) H1 ok l tp kvs ∧ ∀ p, H1 p = none → Q (.ref p) (upd H1 p (DX.itemsO p l))
theorem pe_items {td : TE} {p1 : Pos} (ho : PE X a td) (hbase : attributeBase a "items" X.env (eval a X.env) = eval a X.env := by rfl) (hline : (p1.endLine == pos.line) = true := by rfl) : PE X (.Call (.Attribute a "items" p1) [] [] pos) (tItems X td) := by
  refine ⟨fun pins s σ H Q I h => ?_⟩
  refine wpAny_Call_method0_late hbase hline (thn (ho.run pins s σ H _ I h) fun v s1 ⟨y, H1, I1, r1, ok, l, tp, kvs, e, hd, q⟩ => ?_)
  subst e
  cases r1
  refine ⟨"dict", "dict.items", PySem.F.plainAttrs_dict, PySem.F.slot_dict_items, PySem.F.type_dict_items, dct_ty I1 hd, fun b0 e0 => by cases e0; exact dct_nod I1 hd, Calls.callWith_builtin rfl (PySem.evalArgs_none ?_)⟩
  obtain ⟨es, ep, D⟩ := dct_raw I1 hd
  refine DT.callItems (es := es) (ep := ep) D.lo D.raw ?_
  have hf : H1 s1.heap.objs.size = none := I1.hok.fresh (Nat.le_refl _)
  exact ⟨.ref s1.heap.objs.size, upd H1 s1.heap.objs.size (DX.itemsO s1.heap.objs.size l), I1.laid (t' := s1.toks) (fun b u e => Heap.get?_push_of_some _ e) (Nat.le_refl _) (DX.itemsO_ok (Heap.get?_push_size _ rfl)), rfl, q _ hf⟩
theorem tA_DI {sem : List (PyData × PyData) → Option PyData} {σ : L2.St} {H : Hp} {Q : VK} (hh : tE (pX X) x (xD1 sem f) σ H Q) : tCons (tItems X (tE (pX X) x f)) tNil σ H fun vs H1 => rCI X sem vs H1 Q := by
  obtain ⟨c, fr, ad, F, o⟩ := hh
  refine ⟨c, fr, ad, F, (Out.bind F o).mono fun av fr1 ad1 H1 F1 m1 o1 v rv => ?_⟩
  cases q1 : fr1.dview av with
  | none => rw [q1] at o1; exact o1.elim
  | some z =>
    obtain ⟨tp, kvs⟩ := z
    rw [q1] at o1
    simp only [ofO] at o1
    cases q3 : sem kvs with
    | none => rw [q3] at o1; exact o1.elim
    | some r =>
      rw [q3] at o1
      obtain ⟨l, rfl, dd⟩ := dview_rep F1 rv q1
      refine ⟨okP c ad1, l, tp, kvs, rfl, dd, fun p hp => ?_⟩
      have gr : Grow H1 (upd H1 p (DX.itemsO p l)) := Grow.new hp
      refine ⟨okP c ad1, p, l, tp, kvs, r, fun b hb => okP_new (F1.grow gr) hb, rfl, upd_same, dd.keep gr.keep (fun o e => gr _ o e), q3, fun w H3 g3 rw_ => ?_⟩
      exact o1 ad1 H3 ((F1.grow gr).grow g3) (Mv.grow fun b o e => g3 b o (gr b o e)) w rw_
theorem ae_callBI {id : String} {n : Str} {sem : List (PyData × PyData) → Option PyData} {p1 p2 p3 : Pos} (hc : CallR X (.builtin id) (rCI X sem)) (hg : Gl X n) (hm : X.mg n = none) (hv : bootBuiltins n = some (.builtin id)) (ha : AE X x a f)
    (hbase : attributeBase a "items" X.env (eval a X.env) = eval a X.env := by rfl) (hline : (p2.endLine == p3.line) = true := by rfl)
    (hn : n ≠ "__name__" := by decide) (hdb : (n == ("__debug__" : Str)) = false := by decide) (he : starEach [.Call (.Attribute a "items" p2) [] [] p3] X.env = (false, eval (.Call (.Attribute a "items" p2) [] [] p3) X.env) :: starEach [] X.env := by rfl) (hpl : (backTo pos (starEach [] X.env)).any (·.1) = false := by rfl) :
    AE X x (.Call (.Name n p1) [.Call (.Attribute a "items" p2) [] [] p3] [] pos) (xD1 sem f) :=
  (pe_callB hc hg hm hv (pa_cons (pe_items ha hbase hline) pa_nil he) hn hdb he hpl).imp fun _ _ _ h => tA_DI h
end
end G
/-! GS: cells dropped, cells lent, defs that call themselves, chains of comparisons. -/
namespace G
open PySem PySem.Spec PyProof.Rows L2

/-! ### cells that no name holds any more -/
@[simp] def maxcel : List (Option AV) → Nat
  | [] => 0
  | some (.cel i) :: r => max (i + 1) (maxcel r)
  | _ :: r => maxcel r
@[simp] def Fr.gc (fr : Fr) : Fr := ⟨fr.vars, fr.cells.take (max fr.base (maxcel fr.vars)), fr.base⟩
theorem maxcel_at : ∀ {vs : List (Option AV)} {j i : Nat}, vs[j]? = some (some (.cel i)) → i < maxcel vs
  | [], _, _, e => by simp at e
  | v :: vs, 0, i, e => by
    simp at e; subst e
    unfold maxcel; omega
  | v :: vs, j + 1, i, e => by
    have ih := maxcel_at (vs := vs) (j := j) (i := i) (by simpa using e)
    unfold maxcel
    split
    · rename_i h
      cases h
    · rename_i k r h
      cases h
      omega
    · rename_i r h1 h
      cases h
      exact ih
section
variable {p : Par} {c : Ent} {fr : Fr} {ad : List (Option Addr)} {σ : L2.St} {H : Hp}
theorem FR.gc (F : FR p c fr ad σ H) : ∃ ad', FR p c fr.gc ad' σ H := by
  generalize hm : max fr.base (maxcel fr.vars) = m
  refine ⟨ad.take m, ?_⟩
  have sub : ∀ a, some a ∈ ad.take m → some a ∈ ad := fun a h => List.mem_of_mem_take h
  have mono : ∀ a, okP c ad a → okP c (ad.take m) a := fun a h => ⟨h.1, fun z => h.2 (sub a z)⟩
  have at' : ∀ (i : Nat) (a : Addr), (ad.take m)[i]? = some (some a) → i < m ∧ ad[i]? = some (some a) := fun i a e => by
    have hi : i < m := by
      have := lt_of_at e
      rw [List.length_take] at this; omega
    rw [List.getElem?_take, if_pos hi] at e
    exact ⟨hi, e⟩
  have rep : ∀ {v : V} {av : AV}, (∀ i, av = .cel i → i < m) → RepA p H (okP c ad) ad v av → RepA p H (okP c (ad.take m)) (ad.take m) v av := fun {v av} hc r => by
    cases av with
    | dat y => exact Rep.mono mono r
    | dct tp kvs => obtain ⟨b, e, h1, h2⟩ := r; exact ⟨b, e, mono b h1, h2.mono mono⟩
    | cel i => obtain ⟨b, e, h⟩ := r; exact ⟨b, e, by rw [List.getElem?_take, if_pos (hc i rfl)]; exact h⟩
    | scr ns => exact r
  have hcells : fr.gc.cells = fr.cells.take m := by unfold Fr.gc; rw [hm]
  refine ⟨F.len, fun i av e => ?_, by rw [hcells, List.length_take, List.length_take, F.clen], fun i a e => ?_, fun i j a e1 e2 => F.nd i j a (at' i a e1).2 (at' j a e2).2, F.old, fun i a e => ?_, fun a h => F.adw a (sub a h), fun q hq => ⟨(F.gh q hq).1, rep (fun i e => ?_) (F.gh q hq).2⟩, fun a ha => ⟨fun z => (F.pr a ha).1 (sub a z), (F.pr a ha).2⟩, F.bs⟩
  · obtain ⟨v, h1, h2⟩ := F.var i av e
    refine ⟨v, h1, rep (fun j ej => ?_) h2⟩
    subst ej
    have z := maxcel_at (show fr.vars[i]? = some (some (.cel j)) from e)
    rw [← hm]; omega
  · obtain ⟨hi, e'⟩ := at' i a e
    obtain ⟨cl, h1, h2⟩ := F.cel i a e'
    exact ⟨cl, by rw [hcells, List.getElem?_take, if_pos hi]; exact h1, h2.mono mono⟩
  · have hi := lt_of_at e
    rw [List.getElem?_take, if_pos (by rw [← hm, F.bs]; omega)]
    exact F.sub i a e
  · have := (F.gh q hq).1
    rw [e] at this; cases this
end
@[simp] def sGc (f : Fr → SRes) : Fr → SRes := fun fr => f fr.gc
section
variable {X : Cx} {x : XW} {st : Stmt} {ss : List Stmt} {s : Fr → SRes}
theorem as_gc (h1 : AS X x st s) : AS X x st (sGc s) := L2.PS.imp h1 fun D σ H ⟨c, fr, ad, F, o⟩ => by
  obtain ⟨ad', F'⟩ := F.gc
  exact ⟨c, _, ad', F', o⟩
theorem ass_gc (h1 : ASs X x ss s) : ASs X x ss (sGc s) := L2.PSs.imp h1 fun D σ H ⟨c, fr, ad, F, o⟩ => by
  obtain ⟨ad', F'⟩ := F.gc
  exact ⟨c, _, ad', F', o⟩
end

/-! ### cells lent to a call: it reads them as data -/
@[simp] def lend1 (fr : Fr) : AV → Option AV
  | .cel i => match fr.cells[i]? with
    | some (.lst xs) => some (.dat (.list xs))
    | some (.dct tp kvs) => some (.dct tp kvs)
    | _ => none
  | a => some a
@[simp] def lend (fr : Fr) : List Bool → List AV → Option (List AV)
  | [], [] => some []
  | b :: bs, a :: as => match (if b = true then lend1 fr a else some a), lend fr bs as with
    | some a', some as' => some (a' :: as')
    | _, _ => none
  | _, _ => none
@[simp] def lentOf : List Bool → List AV → List Nat
  | true :: bs, .cel i :: as => i :: lentOf bs as
  | _ :: bs, _ :: as => lentOf bs as
  | _, _ => []
@[simp] def xCallL (fl : List Bool) (m : AFun) (gs : Fr → Res (List AV)) : Fr → Res AV := fun fr => (gs fr).bind fun as0 fr1 => match lend fr1 fl as0 with
  | some as => if (celsOf as).Nodup ∧ noScr as = true ∧ ∀ i ∈ lentOf fl as0, i ∉ celsOf as then (match getAll fr1.cells (celsOf as) with
    | some cs => (match m (relab 0 as) cs with
      | .ok (.dat y) cs' => if noL y = true ∧ cs'.all noLC = true then .ok (.dat y) ⟨fr1.vars, putAll fr1.cells (celsOf as) cs', fr1.base⟩ else .err
      | _ => .err)
    | none => .err) else .err
  | none => .err
section
variable {p : Par} {c : Ent} {fr : Fr} {ad : List (Option Addr)} {σ : L2.St} {H H' : Hp}
theorem call_end2 {S : Addr → Prop} {W : List Addr} {ids : List Nat} {cs' : List Cell} (F : FR p c fr ad σ H) (nd : ids.Nodup) (hW : ∀ (j i : Nat), ids[j]? = some i → ∃ a, W[j]? = some a ∧ ad[i]? = some (some a)) (hl : W.length = ids.length)
    (P : PostF p H S W cs' H') (hc : cs'.all noLC = true) : FR p c ⟨fr.vars, putAll fr.cells ids cs', fr.base⟩ ad σ H' ∧ Mv H ad H' ad := by
  have wad : ∀ a, a ∈ W → ∃ j i, ids[j]? = some i ∧ W[j]? = some a ∧ ad[i]? = some (some a) := fun a m => by
    obtain ⟨j, e⟩ := mem_at m
    have hj : j < ids.length := by rw [← hl]; exact lt_of_at e
    obtain ⟨b, h1, h2⟩ := hW j ids[j] (by rw [List.getElem?_eq_getElem hj])
    rw [e] at h1; cases h1
    exact ⟨j, ids[j], by rw [List.getElem?_eq_getElem hj], e, h2⟩
  have m : Mv H ad H' ad := ⟨fun b o e n => P.keep b o e fun hm => by
    obtain ⟨j, i, _, _, h⟩ := wad b hm
    exact n (List.mem_of_getElem? h), fun _ _ e => e, fun _ h => .inl h, P.there⟩
  refine ⟨⟨F.len, fun i av e => ?_, by rw [putAll_len]; exact F.clen, fun i a e => ?_, F.nd, fun b o e n => ?_, F.sub, F.adw, fun q hq => ⟨(F.gh q hq).1, RepA.mv F m (F.gh q hq).2⟩, m.prs F, F.bs⟩, m⟩
  · obtain ⟨v, h1, h2⟩ := F.var i av e
    exact ⟨v, h1, RepA.mv F m h2⟩
  · by_cases hm : i ∈ ids
    · obtain ⟨j, hj⟩ := mem_at hm
      obtain ⟨b, h1, h2⟩ := hW j i hj
      rw [e] at h2; cases h2
      obtain ⟨cl, h3, h4⟩ := P.cel j a h1
      exact ⟨cl, putAll_in nd hj h3 (by rw [F.clen]; exact lt_of_at e), CellAt.any h4 (List.all_eq_true.mp hc _ (List.mem_of_getElem? h3))⟩
    · obtain ⟨cl, h1, h2⟩ := F.cel i a e
      have na : a ∉ W := fun hw => by
        obtain ⟨j, k, h3, _, h4⟩ := wad a hw
        have := F.nd k i a h4 e
        subst this
        exact hm (List.mem_of_getElem? h3)
      refine ⟨cl, by rw [putAll_out hm]; exact h1, ?_⟩
      have kp : ∀ o, H a = some o → H' a = some o := fun o z => P.keep a o z na
      cases cl with
      | lst ds =>
        obtain ⟨xs, q1, q2, q3⟩ := h2
        exact ⟨xs, kp _ q1, q2, q3.keep (m.kp F)⟩
      | dct tp kvs => exact DctAt.keep (m.kp F) kp h2
      | gone => exact h2
  · refine P.keep b o (F.old b o e n) fun hw => ?_
    obtain ⟨j, k, _, _, h4⟩ := wad b hw
    rcases F.adw b (List.mem_of_getElem? h4) with z | z
    · exact n z
    · rw [z] at e; cases e
/-- what the call may hold: besides the caller's own, the cells that are lent -/
def lentS (c : Ent) (ad : List (Option Addr)) (ls : List Nat) (a : Addr) : Prop := okP c ad a ∨ ∃ i ∈ ls, ad[i]? = some (some a)
theorem lend_rep (F : FR p c fr ad σ H) {ls : List Nat} : ∀ {fl : List Bool} {vs : List V} {as0 as : List AV}, RepAs p H (okP c ad) ad vs as0 → lend fr fl as0 = some as → (∀ i ∈ lentOf fl as0, i ∈ ls) → RepAs p H (lentS c ad ls) ad vs as
  | [], [], [], as, .nil, e, _ => by cases e; exact .nil
  | [], _ :: _, _ :: _, as, .cons _ _, e, _ => by cases e
  | b :: bs, [], [], as, .nil, e, _ => by cases e
  | b :: bs, v :: vs, a :: as0, as, .cons r rs, e, hm => by
    have mono : ∀ b, okP c ad b → lentS c ad ls b := fun b hb => .inl hb
    unfold lend at e
    cases q1 : (if b = true then lend1 fr a else some a) with
    | none => rw [q1] at e; cases e
    | some a' =>
      cases q2 : lend fr bs as0 with
      | none => rw [q1, q2] at e; cases e
      | some as' =>
        rw [q1, q2] at e
        cases e
        have hm2 : ∀ i ∈ lentOf bs as0, i ∈ ls := fun i hi => hm i (by cases b <;> cases a <;> first | exact hi | exact List.mem_cons_of_mem _ hi)
        refine .cons ?_ (lend_rep F rs q2 hm2)
        cases b with
        | false =>
          cases q1
          exact RepA.mono mono r
        | true =>
          rw [if_pos rfl] at q1
          cases a with
          | dat y => cases q1; exact RepA.mono mono r
          | dct tp kvs => cases q1; exact RepA.mono mono r
          | scr ns => cases q1; exact RepA.mono mono r
          | cel i =>
            obtain ⟨l, rfl, hl⟩ := r
            obtain ⟨cl, h1, h2⟩ := F.cel i l hl
            unfold lend1 at q1
            simp only [h1] at q1
            have okl : lentS c ad ls l := .inr ⟨i, hm i (by simp [lentOf]), hl⟩
            cases cl with
            | lst xs =>
              cases q1
              obtain ⟨ws, g1, g2, g3⟩ := h2
              exact .lst okl g1 g2 (g3.mono mono)
            | dct tp kvs => cases q1; exact ⟨l, rfl, okl, h2.mono mono⟩
            | gone => exact h2.elim
end
section
variable {X : Cx} {x : XW} {a : Expr} {f g h : Fr → Res AV} {pos : Pos}
theorem tE_callL {fl : List Bool} {m : AFun} {n : Nat} {gs : Fr → Res (List AV)} {σ : L2.St} {H : Hp} {Q : VK} (hn : ∀ fr as fr', gs fr = .ok as fr' → as.length = n) (h : tE (pX X) x (xCallL fl m gs) σ H Q) : tA (pX X) x gs σ H fun vs H1 => spF (pX X) x.C m n vs H1 Q fun C d H' => x.W C d σ H' := by
  obtain ⟨c, fr, ad, F, o⟩ := h
  refine ⟨c, fr, ad, F, ?_⟩
  unfold xCallL at o
  cases qg : gs fr with
  | exc cl fs fr1 => rw [qg] at o; exact o
  | err => rw [qg] at o; exact o
  | ok as0 fr1 =>
    have o2 := Out.bind F o
    rw [qg] at o2
    intro ad1 H1 F1 m1 vs rvs0
    have o0 := o2 ad1 H1 F1 m1
    refine ⟨by rw [Paired.length rvs0]; exact hn fr as0 fr1 qg, ?_⟩
    simp only at o0
    cases qL : lend fr1 fl as0 with
    | none => rw [qL] at o0; exact o0.elim
    | some as =>
      rw [qL] at o0
      simp only at o0
      split at o0
      rotate_left
      · exact o0.elim
      rename_i hnl
      obtain ⟨nd, hsc, hap⟩ := hnl
      have rvs := lend_rep F1 (ls := lentOf fl as0) rvs0 qL fun i hi => hi
      cases q1 : getAll fr1.cells (celsOf as) with
      | none => rw [q1] at o0; exact o0.elim
      | some cs =>
        rw [q1] at o0
        simp only at o0
        obtain ⟨lW, hW⟩ := celAds_at rvs
        obtain ⟨lc, hcs⟩ := getAll_at q1
        have ndW : (celAds vs as).Nodup := by
          unfold List.Nodup
          rw [List.pairwise_iff_getElem]
          intro j k hj hk hjk e
          have hk' : k < (celsOf as).length := by rw [← lW]; exact hk
          have hj' : j < (celsOf as).length := by omega
          obtain ⟨b1, h1, h2⟩ := hW j (celsOf as)[j] (by rw [List.getElem?_eq_getElem hj'])
          obtain ⟨b2, h3, h4⟩ := hW k (celsOf as)[k] (by rw [List.getElem?_eq_getElem hk'])
          rw [List.getElem?_eq_getElem hj] at h1
          rw [List.getElem?_eq_getElem hk] at h3
          have eb : b1 = b2 := by rw [← Option.some.inj h1, ← Option.some.inj h3]; exact e
          subst eb
          have := F1.nd _ _ _ h2 h4
          have := (List.getElem_inj nd).mp this
          omega
        have notW : ∀ b, lentS c ad1 (lentOf fl as0) b → b ∉ celAds vs as := fun b hb hw => by
          obtain ⟨j, e⟩ := mem_at hw
          have hj : j < (celsOf as).length := by rw [← lW]; exact lt_of_at e
          obtain ⟨b', h1, h2⟩ := hW j (celsOf as)[j] (by rw [List.getElem?_eq_getElem hj])
          rw [e] at h1; cases h1
          rcases hb with hb | ⟨i, hi, hb⟩
          · exact hb.2 (List.mem_of_getElem? h2)
          · have := F1.nd _ _ _ hb h2
            exact hap i hi (by rw [this]; exact List.getElem_mem hj)
        have mono : ∀ b, lentS c ad1 (lentOf fl as0) b → ok0 (lentS c ad1 (lentOf fl as0)) (celAds vs as) b := fun b hb => ⟨hb, notW b hb⟩
        have mono2 : ∀ b, okP c ad1 b → ok0 (lentS c ad1 (lentOf fl as0)) (celAds vs as) b := fun b hb => mono b (.inl hb)
        refine ⟨lentS c ad1 (lentOf fl as0), celAds vs as, relab 0 as, cs, relab_rep mono rvs hsc fun j b e => by rw [Nat.zero_add]; exact e, ndW, by rw [lc, lW], fun i b e => ?_, ?_⟩
        · have hi : i < (celsOf as).length := by rw [← lW]; exact lt_of_at e
          obtain ⟨b', h1, h2⟩ := hW i (celsOf as)[i] (by rw [List.getElem?_eq_getElem hi])
          rw [e] at h1; cases h1
          obtain ⟨cl, h3, h4⟩ := hcs i (celsOf as)[i] (by rw [List.getElem?_eq_getElem hi])
          obtain ⟨cl', h5, h6⟩ := F1.cel _ b h2
          rw [h3] at h5; cases h5
          exact ⟨cl, h4, CellAt.mono mono2 h6⟩
        · cases q2 : m (relab 0 as) cs with
          | ok r cs' =>
            rw [q2] at o0
            intro v H2 P rv
            cases r with
            | dat y =>
              simp only at o0
              split at o0
              rotate_left
              · exact o0.elim
              rename_i hny
              obtain ⟨F2, m2⟩ := call_end2 F1 nd hW lW P hny.2
              exact o0 ad1 H2 F2 m2 v (Rep.any rv hny.1)
            | _ => exact o0.elim
          | exc cl fs cs' => rw [q2] at o0; exact o0.elim
          | err => rw [q2] at o0; exact o0.elim
theorem ae_callL {CX : CXT} {k j : Nat} {n : Str} {m : AFun} {es : List Expr} {gs : Fr → Res (List AV)} {p1 : Pos} {np : Nat} (fl : List Bool) (D : DefF X.prog X.w X.K X.mg X.base CX x.C k n np m) (hr : Room j X.A) (hk : k ≤ j) (hx : ∀ σ, PassesAt CX X σ fun C d H' => x.W C d σ H') (hg : Gl X n) (ha : AA X x (a :: es) gs) (hn : ∀ fr as fr', gs fr = .ok as fr' → as.length = np)
    (hdb : (n == ("__debug__" : Str)) = false := by decide) (he : starEach (a :: es) X.env = (false, eval a X.env) :: starEach es X.env := by rfl) (hpl : (backTo pos (starEach es X.env)).any (·.1) = false := by rfl) :
    AE X x (.Call (.Name n p1) (a :: es) [] pos) (xCallL fl m gs) := by
  obtain ⟨f, fd, ps, F, hm, kp, b⟩ := D.ex
  refine (pe_callSD F (hr.mono hk) hg hm kp b .nil (E := fun σ C d H' => x.W C d σ H') hx ha hdb he hpl).imp fun σ H Q h => ?_
  have z := tE_callL hn h
  unfold tCallSD
  simpa only [List.append_nil] using z

/-! ### chains -/
@[simp] def xChain (s1 s2 : PyData → PyData → Option PyData) (f g h : Fr → Res AV) : Fr → Res AV := fun fr => (f fr).bind fun a fr1 => (g fr1).bind fun b fr2 => match fr2.view a, fr2.view b with
  | some y, some z => (match s1 y z with
    | some (.bool k) => if k = true then (h fr2).bind (fun e fr3 => match fr3.view b, fr3.view e with
      | some z', some w => ofO fr3 (s2 z' w)
      | _, _ => .err) else .ok (.dat (.bool false)) fr2
    | _ => .err)
  | _, _ => .err
theorem tE_chain {s1 s2 : PyData → PyData → Option PyData} {σ : L2.St} {H : Hp} {Q : VK} (hh : tE (pX X) x (xChain s1 s2 f g h) σ H Q) : tChain (rOp2 X.K s1) (rOp2 X.K s2) (tE (pX X) x f) (tE (pX X) x g) (tE (pX X) x h) σ H Q := by
  obtain ⟨c, fr, ad, F, o⟩ := hh
  refine ⟨c, fr, ad, F, (Out.bind F o).mono fun av fr1 ad1 H1 F1 m1 o1 v rv => ?_⟩
  refine ⟨c, fr1, ad1, F1, (Out.bind F1 o1).mono fun bv fr2 ad2 H2 F2 m2 o2 u ru => ?_⟩
  have rv2 := RepA.mv F1 m2 rv
  cases q1 : fr2.view av with
  | none => rw [q1] at o2; exact o2.elim
  | some dx =>
    cases q2 : fr2.view bv with
    | none => rw [q1, q2] at o2; exact o2.elim
    | some dy =>
      rw [q1, q2] at o2
      simp only at o2
      cases q3 : s1 dx dy with
      | none => rw [q3] at o2; exact o2.elim
      | some r =>
        rw [q3] at o2
        cases r with
        | bool k =>
          simp only at o2
          refine ⟨okP c ad2, dx, dy, .bool k, fun p hp => okP_new F2 hp, view_rep F2 rv2 q1, view_rep F2 ru q2, q3, fun w H3 gr rw_ => ?_⟩
          refine ⟨k, RepB.bool (.inl rw_), ?_⟩
          have F3 := F2.grow gr
          cases k with
          | false =>
            rw [if_neg (by decide)] at o2 ⊢
            exact o2 ad2 H3 F3 (Mv.grow gr) _ (.bl _)
          | true =>
            rw [if_pos rfl] at o2 ⊢
            have o3 := Out.bind F2 o2
            refine ⟨c, fr2, ad2, F3, ?_⟩
            cases qh : h fr2 with
            | err => rw [qh] at o3; exact o3
            | exc cl fs fr3 =>
              rw [qh] at o3
              intro ad3 H4 C d F4 m4 hx
              exact o3 ad3 H4 C d F4 ((Mv.grow gr).trans F2 m4) hx
            | ok ev fr3 =>
              rw [qh] at o3
              intro ad3 H4 F4 m4 t rt
              have m5 := (Mv.grow (ad := ad2) gr).trans F2 m4
              have o4 := o3 ad3 H4 F4 m5
              have ru3 := RepA.mv F2 m5 ru
              cases q4 : fr3.view bv with
              | none => simp only [q4] at o4; exact o4.elim
              | some z' =>
                cases q5 : fr3.view ev with
                | none => simp only [q4, q5] at o4; exact o4.elim
                | some w' =>
                  simp only [q4, q5, ofO] at o4
                  cases q6 : s2 z' w' with
                  | none => rw [q6] at o4; exact o4.elim
                  | some r2 =>
                    rw [q6] at o4
                    exact ⟨okP c ad3, z', w', r2, fun p hp => okP_new F4 hp, view_rep F4 ru3 q4, view_rep F4 rt q5, q6, fun y H5 gr5 ry => o4 ad3 H5 (F4.grow gr5) (Mv.grow gr5) y ry⟩
        | _ => exact o2.elim
theorem ae_chain {b d : Expr} {op op' : CmpOp} {s1 s2 : PyData → PyData → Option PyData} (ho : OpR X (compareOp op) (rOp2 X.K s1)) (ho2 : OpR X (compareOp op') (rOp2 X.K s2)) (ha : AE X x a f) (hb : AE X x b g) (hd : AE X x d h) (hm : lastMarks [op, op'] [b, d] = false := by rfl) : AE X x (.Compare a [op, op'] [b, d] pos) (xChain s1 s2 f g h) :=
  (pe_chain ho ho2 ha hb hd hm).imp fun _ _ _ z => tE_chain z
theorem at_chain {b d : Expr} {op op' : CmpOp} {s1 s2 : PyData → PyData → Option PyData} (ho : OpR X (compareOp op) (rOp2 X.K s1)) (ho2 : OpR X (compareOp op') (rOp2 X.K s2)) (ha : AE X x a f) (hb : AE X x b g) (hd : AE X x d h) (hm : lastMarks [op, op'] [b, d] = false := by rfl) : AT X x (.Compare a [op, op'] [b, d] pos) (xB (xChain s1 s2 f g h)) :=
  (pt_chain ho ho2 ha hb hd hm).imp fun _ _ _ z => tE_chain (tT_tB z)

/-! ### a def that calls itself: nothing is promised of no turns -/
theorem fn_err {P : Program} {w : World} {K : PySem.W.Frag} {mg : Str → Option Value} {base : Heap} {CX : CXT} {n qual : Str} {params : Arguments} {body : List Stmt} {scope : Scope} {dvs : List V} {kws : List (Str × V)} {f : Addr} {fd : FuncData} {N ps : List Str} {k : Nat} {C : CExc}
    (F : FunD K n qual params body scope dvs kws f fd) (S : FnScope N ps scope) : FnOk P w K mg base CX (k + 1) f fd ps (spF ⟨P, w, K⟩ C (fun _ _ => .err) ps.length) :=
  F.ok S (fun vs H Q E h => h.1) fun cdv A outer s H vs Q E hr hsp => by
    obtain ⟨_, S0, W0, as, cells, _, _, _, _, hm⟩ := hsp
    exact hm.elim
end
end G
/-! GT: small helps for printed proofs. -/
namespace G
open PySem PySem.Spec PyProof.Rows L2
/-- given up where it is a cell -/
@[simp] def sFrzM (i : Nat) (f : Fr → SRes) : Fr → SRes := fun fr => match fr.vars[i]? with
  | some (some (.cel j)) => (match fr.frz j with
    | some fr1 => f fr1
    | none => .err)
  | _ => f fr
section
variable {X : Cx} {x : XW} {st : Stmt} {ss : List Stmt} {s : Fr → SRes}
theorem frzM_read {p : Par} {D : Ends} {σ : L2.St} {H : Hp} {i : Nat} (hh : tS p x (sFrzM i s) D σ H) : tS p x s D σ H := by
  obtain ⟨c, fr, ad, F, o⟩ := hh
  unfold sFrzM at o
  split at o
  · rename_i j q
    cases q2 : fr.frz j with
    | none => rw [q2] at o; exact o.elim
    | some fr2 =>
      rw [q2] at o
      obtain ⟨ad', F'⟩ := F.frz q2
      exact ⟨c, fr2, ad', F', o⟩
  · exact ⟨c, fr, ad, F, o⟩
theorem as_frzM (i : Nat) (h1 : AS X x st s) : AS X x st (sFrzM i s) := L2.PS.imp h1 fun D σ H z => frzM_read z
theorem ass_frzM (i : Nat) (h1 : ASs X x ss s) : ASs X x ss (sFrzM i s) := L2.PSs.imp h1 fun D σ H z => frzM_read z
end
/-- a slot's int, as a measure -/
def natOf (i : Nat) (fr : Fr) : Nat := match fr.vars[i]? with
  | some (some (.dat (.int n))) => n.natAbs
  | _ => 0
theorem room65 {k : Nat} {A : Around} (r : Room k A) : A.units + 65 < cLine := by have := r.un; omega
theorem nc_nil : ∀ fr as fr', xNil fr = .ok as fr' → as.length = 0 := fun fr as fr' h => by cases h; rfl
theorem nc_cons {f : Fr → Res AV} {gs : Fr → Res (List AV)} {n : Nat} (h : ∀ fr as fr', gs fr = .ok as fr' → as.length = n) : ∀ fr as fr', xCons f gs fr = .ok as fr' → as.length = n + 1 := fun fr as fr' e => by
  unfold xCons at e
  cases q : f fr with
  | ok av fr1 =>
    rw [q] at e
    have e' : (gs fr1).bind (fun as fr2 => Res.ok (av :: as) fr2) = .ok as fr' := e
    cases q2 : gs fr1 with
    | ok bs fr2 =>
      rw [q2] at e'
      have e2 : Res.ok (av :: bs) fr2 = Res.ok as fr' := e'
      injection e2 with e3 _
      subst e3
      simp [h _ _ _ q2]
    | exc cl fs fr2 => rw [q2] at e'; cases e'
    | err => rw [q2] at e'; cases e'
  | exc cl fs fr1 => rw [q] at e; cases e
  | err => rw [q] at e; cases e
@[simp] def sWh (t : Fr → Res Bool) (b : Fr → SRes) (m : Fr → Nat) : Fr → SRes := fun fr => whA t b (m fr) fr
abbrev C0 : CExc := fun _ _ _ _ _ => False
theorem boot_isinstance : bootBuiltins "isinstance" = some (.builtin "isinstance") := by kernel_rfl
theorem boot_len' : bootBuiltins "len" = some (.builtin "len") := by kernel_rfl
theorem boot_abs' : bootBuiltins "abs" = some (.builtin "abs") := by kernel_rfl
theorem boot_min' : bootBuiltins "min" = some (.builtin "min") := by kernel_rfl
theorem boot_max' : bootBuiltins "max" = some (.builtin "max") := by kernel_rfl
theorem boot_sorted' : bootBuiltins "sorted" = some (.builtin "sorted") := by kernel_rfl
theorem boot_all' : bootBuiltins "all" = some (.builtin "all") := by kernel_rfl
theorem boot_any' : bootBuiltins "any" = some (.builtin "any") := by kernel_rfl
theorem boot_sum' : bootBuiltins "sum" = some (.builtin "sum") := by kernel_rfl
theorem boot_int' : bootBuiltins "int" = some (.type "int") := by kernel_rfl
theorem boot_bool' : bootBuiltins "bool" = some (.type "bool") := by kernel_rfl
theorem boot_str' : bootBuiltins "str" = some (.type "str") := by kernel_rfl
theorem boot_list' : bootBuiltins "list" = some (.type "list") := by kernel_rfl
theorem boot_tuple' : bootBuiltins "tuple" = some (.type "tuple") := by kernel_rfl
theorem boot_dict' : bootBuiltins "dict" = some (.type "dict") := by kernel_rfl
theorem boot_set' : bootBuiltins "set" = some (.type "set") := by kernel_rfl
end G
/-! GU: all, any, turned round, lists made to be written on. -/
namespace G
open PySem PySem.Spec PyProof.Rows L2

/-! ### all, any -/
def boolsD : List PyData → Option (List Bool)
  | [] => some []
  | .bool b :: ds => match boolsD ds with
    | some bs => some (b :: bs)
    | none => none
  | _ :: _ => none
def dAll : List PyData → Option PyData
  | [.list ds] => match boolsD ds with
    | some bs => some (.bool (bs.all id))
    | none => none
  | _ => none
def dAny : List PyData → Option PyData
  | [.list ds] => match boolsD ds with
    | some bs => some (.bool (bs.any id))
    | none => none
  | _ => none
theorem bools_rep {K : PySem.W.Frag} {H : Hp} {ok : Addr → Prop} : ∀ {vs : List V} {ds : List PyData} {bs : List Bool}, RepL K H ok vs ds → boolsD ds = some bs → vs = bs.map V.bl
  | _, _, _, .nil, e => by cases e; rfl
  | _, .bool b :: ds, _, .cons r rs, e => by
    unfold boolsD at e
    cases q : boolsD ds with
    | none => rw [q] at e; cases e
    | some cs =>
      rw [q] at e
      cases e
      rw [RepB.bool (.inl r), bools_rep rs q]
      rfl
  | _, .int _ :: _, _, .cons _ _, e => by cases e
  | _, .str _ :: _, _, .cons _ _, e => by cases e
  | _, .none :: _, _, .cons _ _, e => by cases e
  | _, .list _ :: _, _, .cons _ _, e => by cases e
  | _, .tuple _ :: _, _, .cons _ _, e => by cases e
  | _, .dict _ :: _, _, .cons _ _, e => by cases e
section
variable {X : Cx}
theorem c_all (hc : X.calm = true) : CallR X (.builtin "all") (rCall X.K dAll) := by
  intro pins s σ H xs us Q I rx hh
  obtain ⟨ok, ds, r, hok, hx, e, q⟩ := hh
  match ds, e with
  | [.list ds], e =>
    simp only [dAll] at e
    cases q1 : boolsD ds with
    | none => rw [q1] at e; cases e
    | some bs =>
      rw [q1] at e
      cases e
      obtain ⟨v, rfl, h⟩ := hx.one
      obtain ⟨l, ys, rfl, h1, z1, r1⟩ := h.list
      rw [bools_rep r1 q1] at h1
      exact cr_all hc pins s σ H _ us Q I rx ⟨l, bs, rfl, h1, q _ H Grow.refl (.bl _)⟩
theorem c_any (hc : X.calm = true) : CallR X (.builtin "any") (rCall X.K dAny) := by
  intro pins s σ H xs us Q I rx hh
  obtain ⟨ok, ds, r, hok, hx, e, q⟩ := hh
  match ds, e with
  | [.list ds], e =>
    simp only [dAny] at e
    cases q1 : boolsD ds with
    | none => rw [q1] at e; cases e
    | some bs =>
      rw [q1] at e
      cases e
      obtain ⟨v, rfl, h⟩ := hx.one
      obtain ⟨l, ys, rfl, h1, z1, r1⟩ := h.list
      rw [bools_rep r1 q1] at h1
      exact cr_any hc pins s σ H _ us Q I rx ⟨l, bs, rfl, h1, q _ H Grow.refl (.bl _)⟩
end

/-! ### turned round -/
theorem rev_adjust (n : Nat) : Builtin.Slice.sliceAdjust none none (-1) (n : Int) = ((n : Int) - 1, -1) := by
  unfold Builtin.Slice.sliceAdjust
  simp
theorem rev_places (n : Nat) : Builtin.Slice.slicePlaces ((n : Int) - 1) (-1) (-1) = n := by
  unfold Builtin.Slice.slicePlaces
  rw [if_neg (by decide)]
  split
  · rw [show (-(-1) : Int) = 1 by decide, Int.ediv_one]; omega
  · omega
theorem fm_congr {α β : Type} {f g : α → Option β} : ∀ {l : List α}, (∀ a ∈ l, f a = g a) → l.filterMap f = l.filterMap g
  | [], _ => rfl
  | a :: l, h => by rw [List.filterMap_cons, List.filterMap_cons, h a (List.mem_cons_self ..), fm_congr fun b hb => h b (List.mem_cons_of_mem _ hb)]
theorem rev_pick (xs : Array Value) : ((List.range xs.size).filterMap fun (m : Nat) => xs[(((xs.size : Int) - 1) + (m : Int) * (-1)).toNat]?).toArray = xs.toList.reverse.toArray := by
  have e : (List.range xs.size).filterMap (fun (m : Nat) => xs[(((xs.size : Int) - 1) + (m : Int) * (-1)).toNat]?) = (List.range xs.size).reverse.filterMap (xs[·]?) := by
    rw [← PySem.W.krv_range, List.filterMap_map]
    refine fm_congr fun m hm => ?_
    have := List.mem_range.mp hm
    show xs[_]? = xs[xs.size - 1 - m]?
    congr 1
    omega
  rw [e, List.filterMap_reverse, PySem.W.krv_all]
section
variable {prog : Program} {w : World} {A : Around} {E : Value → Shared → Prop} {s : Shared}
theorem applied_rev {sl : Addr} {vl vu vs : Value} {n : Nat} {Q : Int × Int × Nat → Shared → Prop} (hs : s.heap.IsSliceOf sl vl vu vs) (pl : IsPart vl none) (pu : IsPart vu none) (ps : IsPart vs (some (-1)))
    (h : Q ((n : Int) - 1, -1, n) s) : wpAny (model prog w) A (Builtin.Slice.sliceApplied (.ref sl) (pure (n : Int))) Q E s := by
  obtain ⟨os, hos, hcs, hds⟩ := id hs
  unfold Builtin.Slice.sliceApplied Builtin.Slice.sliceFields
  refine wpAny_bind (wpAny_bind (wpAny_field hos hds (x := vl) rfl (wpAny_bind (wpAny_field hos hds (x := vu) rfl (wpAny_bind (wpAny_field hos hds (x := vs) rfl (wpAny_pure ?_)))))))
  refine wpAny_bind (HT.slicePart_ ps ?_)
  show wpAny _ _ (if ((-1 : Int) == 0) = true then _ else _) _ _ s
  rw [if_neg (by decide)]
  refine wpAny_bind (HT.slicePart_ pl (wpAny_bind (HT.slicePart_ pu (wpAny_bind (wpAny_pure ?_)))))
  show wpAny _ _ (match Builtin.Slice.sliceAdjust none none (-1) (n : Int) with | (lo, hi) => pure (lo, (-1 : Int), Builtin.Slice.slicePlaces lo hi (-1))) _ _ s
  rw [rev_adjust]
  show wpAny _ _ (pure ((n : Int) - 1, (-1 : Int), Builtin.Slice.slicePlaces ((n : Int) - 1) (-1) (-1))) _ _ s
  rw [rev_places]
  exact wpAny_pure h
theorem getItem_tup_rev {t sl : Addr} {items : Array Value} {vl vu vs : Value} {Q : Value → Shared → Prop} (ht : IsTup s.heap t items) (hs : s.heap.IsSliceOf sl vl vu vs) (pl : IsPart vl none) (pu : IsPart vu none) (ps : IsPart vs (some (-1)))
    (h : Q (.ref s.heap.objs.size) { s with heap := s.heap.push { cls := .type "tuple", data := .seq items.toList.reverse.toArray } })
    (hsz : items.size ≤ sizeLine) : wpAny (model prog w) A (getItem (.ref t) (.ref sl)) Q E s := by
  have htake : sizeOk (.seq items.toList.reverse.toArray) := by
    show items.toList.reverse.toArray.size ≤ sizeLine
    simpa using hsz
  obtain ⟨os, hos, hcs, hds⟩ := id hs
  have hTs : s.TypeIs (.ref sl) "slice" := ⟨os, hos, hcs⟩
  unfold getItem
  try with_reducible refine wpAny_holding ?_
  first | refine wpAny_bind (wpAny_pure ?_) | skip
  refine wpAny_bind (wpAny_sequenceKey ht.typeIs (by decide) ?_)
  refine wpAny_bind (wpAny_callSpecial?_slot (name := Str.ofString "__getitem__") ht.typeIs PyProof.Rows.slot_tuple_getitem
    (wpAny_call_entry PyProof.Rows.slot_tuple_getitem ht.typeIs entry_tuple_getitem ?_ (args_tuple_getitem _ _)))
  show wpAny _ _ (Builtin.Tuple.tupleItemsOf (.ref t) >>= _) _ _ s
  refine wpAny_bind (tupleItemsOf_ ht ?_)
  refine wpAny_bind (wpAny_typeOf hTs ?_)
  rw [if_pos (by decide)]
  refine wpAny_bind (applied_rev hs pl pu ps ?_)
  have hno : ¬ ((((items.size : Int) - 1) == 0 && (-1 : Int) == 1 && items.size == items.size) = true) := by
    intro q
    rw [Bool.and_eq_true, Bool.and_eq_true] at q
    exact absurd q.1.2 (by decide)
  show wpAny _ _ (if (((items.size : Int) - 1) == 0 && (-1 : Int) == 1 && items.size == items.size) = true then _ else _) _ _ s
  rw [if_neg hno, rev_pick]
  first
    | exact wpAny_bind (m := Builtin.Tuple.tupleExact _) (wpAny_newObj_type (wpAny_pure ⟨_, rfl, wpAny_pure h⟩) htake)
    | exact wpAny_bind (m := Builtin.Tuple.tupleExact _) (wpAny_newObj_type (wpAny_bind (wpAny_pure (wpAny_pure ⟨_, rfl, wpAny_pure h⟩))) htake)
    | exact wpAny_bind (wpAny_bind (m := Builtin.Tuple.tupleExact _) (wpAny_newObj_type (wpAny_pure (wpAny_pure ⟨_, rfl, wpAny_pure h⟩)) htake))
    | exact wpAny_bind (wpAny_bind (m := Builtin.Tuple.tupleExact _) (wpAny_newObj_type (wpAny_pure ⟨_, rfl, wpAny_pure h⟩) htake))
end
/-- e[::-1] -/
def dRev : PyData → Option PyData
  | .list ds => some (.list ds.reverse)
  | .tuple ds => some (.tuple ds.reverse)
  | _ => none
section
variable {X : Cx} {x : XW} {a b d : Expr} {f g h : Fr → Res AV} {pos : Pos}
theorem pe_rev {te : TE} {k : Nat} {p1 p2 p3 : Pos} (he : PE X a te) : PE X (.Subscript a (.Slice none none (some (.UnaryOp .USub (.Constant (.int 1) k p1) p2)) p3) pos) (fun σ H Q => te σ H fun v H1 => rOp1 X.K dRev v H1 Q) := by
  refine ⟨fun pins s σ H Q I hh => ?_⟩
  refine Subscript_ (thn (he.run pins s σ H _ I hh) fun v s1 ⟨y, H1, I1, r1, q1⟩ => ?_)
  obtain ⟨ok, dx, r, hok, hx, e, q⟩ := q1
  have hst : PO X (some (.UnaryOp .USub (.Constant (.int 1) k p1) p2)) (tPart (tUn (rU fun i => .int (-i)) (tC (.int 1)))) := po_some (pe_un un_neg pe_int)
  refine wpAny_Slice (thn (po_none.run pins s1 σ H1 (fun o H2 => o = none ∧ H2 = H1) I1 ⟨rfl, rfl⟩) fun vl s2 ⟨l, H2, I2, pl, el, e2⟩ => ?_)
  subst el e2
  refine thn (po_none.run pins s2 σ H2 (fun o H3 => o = none ∧ H3 = H2) I2 ⟨rfl, rfl⟩) fun vu s3 ⟨u, H3, I3, pu, eu, e3⟩ => ?_
  subst eu e3
  refine thn (hst.run pins s3 σ H3 (fun o H4 => o = some (-1) ∧ H4 = H3) I3 ⟨1, rfl, -1, rfl, rfl, rfl⟩) fun vs s4 ⟨o, H4, I4, ps, eo, e4⟩ => ?_
  subst eo e4
  have I5 : Inv X pins σ H4 { s4 with heap := s4.heap.push { cls := .type "slice", data := .fields #[vl, vu, vs] } } := I4.kept (t' := s4.toks) fun b ob q => Heap.get?_push_of_some _ q
  cases dx with
  | list ds =>
    cases e
    obtain ⟨l, xs, rfl, h1, z1, rl⟩ := hx.list
    cases r1
    obtain ⟨its, r, ht, hz⟩ := I5.list h1
    have hlen := r.length
    show wpAny (model X.prog X.w) X.A (subscriptTail a (.Slice none none (some (.UnaryOp .USub (.Constant (.int 1) k p1) p2)) p3) (.ref l) (.ref s4.heap.objs.size)) (EP X pins σ Q) X.xe { s4 with heap := s4.heap.push { cls := .type "slice", data := .fields #[vl, vu, vs] } }
    refine tail_any (ops := [.ref l, .ref s4.heap.objs.size]) ht.isList.typeIs (PySem.slot_list_getitem.lookup) ?_ (by with_unfolding_all rfl)
    refine wpAny_getItem_list_slice ht.isList (Heap.IsSliceOf.new _ vl vu vs) pl pu ps (by decide) ?_ (by rw [List.size_toArray]; omega)
    rw [PySem.W.krv_pick]
    have hp := I5.hok.fresh (Nat.le_refl (s4.heap.push { cls := .type "slice", data := .fields #[vl, vu, vs] }).objs.size)
    refine ⟨.ref _, _, I5.laid (t' := s4.toks) (o := .lst xs.reverse) (fun b ob q => Heap.get?_push_of_some _ q) (Nat.le_refl _) ?_, rfl, q _ _ (Grow.new hp) (.lst (hok _ hp) upd_same (by rw [List.length_reverse]; exact z1) (RepL.keep (Grow.new hp).keep rl.reverse))⟩
    exact ⟨by rw [List.length_reverse]; exact hz, _, 0, r.reverse, Heap.get?_push_size _ rfl⟩
  | tuple ds =>
    cases e
    obtain ⟨l, xs, rfl, h1, z1, rl⟩ := hx.tuple
    cases r1
    obtain ⟨its, r, ht, hz⟩ := I5.tuple h1
    have hlen := r.length
    show wpAny (model X.prog X.w) X.A (subscriptTail a (.Slice none none (some (.UnaryOp .USub (.Constant (.int 1) k p1) p2)) p3) (.ref l) (.ref s4.heap.objs.size)) (EP X pins σ Q) X.xe { s4 with heap := s4.heap.push { cls := .type "slice", data := .fields #[vl, vu, vs] } }
    refine tail_any (ops := [.ref l, .ref s4.heap.objs.size]) ht.typeIs (PyProof.Rows.slot_tuple_getitem.lookup) ?_ (by with_unfolding_all rfl)
    refine getItem_tup_rev ht (Heap.IsSliceOf.new _ vl vu vs) pl pu ps ?_ (by rw [List.size_toArray]; omega)
    have hp := I5.hok.fresh (Nat.le_refl (s4.heap.push { cls := .type "slice", data := .fields #[vl, vu, vs] }).objs.size)
    refine ⟨.ref _, _, I5.laid (t' := s4.toks) (o := .tup xs.reverse) (fun b ob q => Heap.get?_push_of_some _ q) (Nat.le_refl _) ?_, rfl, q _ _ (Grow.new hp) (.tup (SqT.of upd_same) (by rw [List.length_reverse]; exact z1) (RepL.keep (Grow.new hp).keep rl.reverse))⟩
    exact ⟨by rw [List.length_reverse]; exact hz, _, r.reverse, ⟨_, Heap.get?_push_size _ rfl, rfl, 0, rfl⟩⟩
  | _ => cases e
theorem ae_rev {k : Nat} {p1 p2 p3 : Pos} (ha : AE X x a f) : AE X x (.Subscript a (.Slice none none (some (.UnaryOp .USub (.Constant (.int 1) k p1) p2)) p3) pos) (xOp1 dRev f) :=
  (pe_rev ha).imp fun _ _ _ h => tE_op1 h

/-! ### list(e), to be written on -/
@[simp] def xListF (f : Fr → Res AV) : Fr → Res AV := fun fr => (f fr).bind fun a fr1 => match fr1.view a with
  | some y => (match seqD y with
    | some (_, ys) => .ok (.cel fr1.cells.length) (fr1.newc (.lst ys))
    | none => .err)
  | none => .err
def rListF (K : PySem.W.Frag) : List V → Hp → VK → Prop := fun vs H Q => ∃ (l : Addr) (b : Bool) (xs : List V), vs = [.ref l] ∧ SqB K b H l xs ∧ ∀ p, H p = none → Q (.ref p) (upd H p (.lst xs))
theorem c_listF : CallR X (.type "list") (rListF X.K) := by
  intro pins s σ H xs us Q I rx hh
  obtain ⟨l, b, ys, rfl, h1, q⟩ := hh
  cases b with
  | true => exact call_list_of pins s σ H _ us Q I rx ⟨l, ys, rfl, .inl h1, q⟩
  | false => exact call_list_of pins s σ H _ us Q I rx ⟨l, ys, rfl, .inr h1, q⟩
theorem ae_listF {p1 : Pos} (hg : Gl X "list") (hm : X.mg "list" = none) (ha : AE X x a f) (he : starEach [a] X.env = (false, eval a X.env) :: starEach [] X.env := by rfl) (hpl : (backTo pos (starEach [] X.env)).any (·.1) = false := by rfl) :
    AE X x (.Call (.Name "list" p1) [a] [] pos) (xListF f) := by
  refine (pe_callTy c_listF hg hm boot_list' (pa_cons ha pa_nil he) (by decide) (by decide) he hpl).imp fun σ H Q ⟨c, fr, ad, F, o⟩ => ?_
  refine ⟨c, fr, ad, F, (Out.bind F o).mono fun av fr1 ad1 H1 F1 m1 o1 v rv => ?_⟩
  cases q1 : fr1.view av with
  | none => rw [q1] at o1; exact o1.elim
  | some y =>
    rw [q1] at o1
    simp only at o1
    cases q2 : seqD y with
    | none => rw [q2] at o1; exact o1.elim
    | some z =>
      obtain ⟨b, ys⟩ := z
      rw [q2] at o1
      obtain ⟨l, xs, rfl, h1, h2, hz⟩ := seqB_rep (view_rep F1 rv q1) q2
      refine ⟨l, b, xs, rfl, h1, fun p hp => ?_⟩
      have F2 := F1.newc (o := .lst xs) (cl := .lst ys) hp fun ok hok => ⟨xs, upd_same, hz, h2.keep ⟨fun b u h1 h2 => ⟨hok b u h1 h2, Grow.new hp b u h2⟩, (Grow.new hp).keep (ok := okP c ad1) |>.t⟩⟩
      exact o1 _ _ F2 (mv_new hp) _ (newc_at (cl := .gone) F1)
end
end G
/-! GV: parts that are never reached, tuples of the module, dicts out of pairs. -/
namespace G
open PySem PySem.Spec PyProof.Rows L2
@[simp] def xErr : Fr → Res AV := fun _ => .err
@[simp] def sErr : Fr → SRes := fun _ => .err
section
variable {X : Cx} {x : XW} {a b d : Expr} {f g h : Fr → Res AV} {pos : Pos} {st : Stmt}
theorem ae_err : AE X x a xErr := ⟨fun pins s σ H Q I ⟨_, _, _, _, o⟩ => o.elim⟩
theorem as_err : AS X x st sErr := ⟨fun pins s σ H D I ⟨_, _, _, _, o⟩ => o.elim⟩
/-- a tuple of the module -/
theorem ae_gtup {n : Str} {l : Addr} {vs : List V} {ds : List PyData} (hg : Gl X n) (hm : X.mg n = some (.ref l)) (ht : ∀ H, SqT X.K H l vs) (hr : ∀ H ok, RepL X.K H ok vs ds) (hz : ds.length ≤ 1000 := by decide) (hd : (n == ("__debug__" : Str)) = false := by decide) : AE X x (.Name n pos) (xC (.tuple ds)) :=
  (pe_glob (v := .ref l) hg hm rfl hd).imp fun σ H Q ⟨c, fr, ad, F, o⟩ => o ad H F Mv.refl _ (.tup (ht H) (by rw [sizeLine_eq]; omega) (hr H _))

/-! ### dict(pairs), to be written on; keys are ints, texts -/
def pairsD : List PyData → Option (List (PyData × PyData))
  | [] => some []
  | .tuple [k, v] :: ds => if kOk false k = true then (match pairsD ds with
    | some r => some ((k, v) :: r)
    | none => none) else none
  | _ :: _ => none
def mergeD : List (PyData × PyData) → List (PyData × PyData) → List (PyData × PyData)
  | acc, [] => acc
  | acc, q :: r => mergeD (kput acc q.1 q.2) r
theorem pairs_rep {K : PySem.W.Frag} {H : Hp} {ok : Addr → Prop} : ∀ {ds : List PyData} {vs : List V} {kvs : List (PyData × PyData)}, RepL K H ok vs ds → pairsD ds = some kvs →
    ∃ (ps : List Addr) (ks : List (Key × V)), vs = ps.map V.ref ∧ Paired (fun p kv => SqT K H p [kV kv.1, kv.2]) ps ks ∧ Paired (fun (x : Key × V) (q : PyData × PyData) => q.1 = keyD x.1 ∧ keyS x.1 ∧ Rep K H ok x.2 q.2) ks kvs
  | [], _, _, .nil, e => by cases e; exact ⟨[], [], rfl, .nil, .nil⟩
  | d :: ds, _, kvs, .cons r rs, e => by
    unfold pairsD at e
    split at e
    · rename_i z; cases z
    · rename_i k v ds' h
      cases h
      split at e
      rotate_left
      · cases e
      rename_i hk
      cases q : pairsD ds with
      | none => rw [q] at e; cases e
      | some r2 =>
        rw [q] at e
        cases e
        obtain ⟨ps, ks, h1, h2, h3⟩ := pairs_rep rs q
        obtain ⟨l, xs, rfl, g1, _, g2⟩ := RepB.tuple (.inl r)
        cases g2 with
        | cons rk g2 =>
          cases g2 with
          | cons rv g2 =>
            cases g2
            obtain ⟨n, rfl⟩ := kOk_f hk
            obtain ⟨z1, z2⟩ : _ = kV n ∧ keyS n := by
              cases n with
              | inl i => exact ⟨RepB.int (.inl rk), trivial⟩
              | inr x => exact ⟨(RepB.str (.inl rk)).1, (RepB.str (.inl rk)).2⟩
            subst z1
            exact ⟨l :: ps, (n, _) :: ks, by rw [h1]; rfl, .cons g1 h2, .cons ⟨rfl, z2, rv⟩ h3⟩
    · cases e
theorem merge_rep {p : Par} {H : Hp} {ok : Addr → Prop} : ∀ {ks acc : List (Key × V)} {kvs kacc : List (PyData × PyData)}, Paired (PrF p H ok) ks kvs → Paired (PrF p H ok) acc kacc → Paired (PrF p H ok) (mergeK acc ks) (mergeD kacc kvs)
  | [], _, _, _, .nil, h => h
  | x :: ks, acc, _, kacc, .cons (b := q) r rs, h => by
    obtain ⟨r1, r2, r3⟩ := r
    show Paired _ (mergeK (putK acc x.1 x.2) ks) (mergeD (kput kacc q.1 q.2) _)
    rw [r1]
    exact merge_rep rs (put_f h r2 r3)
@[simp] def xDictF (f : Fr → Res AV) : Fr → Res AV := fun fr => (f fr).bind fun a fr1 => match fr1.view a with
  | some (.list ds) => (match pairsD ds with
    | some kvs => .ok (.cel fr1.cells.length) (fr1.newc (.dct false (mergeD [] kvs)))
    | none => .err)
  | _ => .err
theorem ae_dictF {p1 : Pos} (hc : X.calm = true) (hg : Gl X "dict") (hm : X.mg "dict" = none) (ha : AE X x a f) (he : starEach [a] X.env = (false, eval a X.env) :: starEach [] X.env := by rfl) (hpl : (backTo pos (starEach [] X.env)).any (·.1) = false := by rfl) :
    AE X x (.Call (.Name "dict" p1) [a] [] pos) (xDictF f) := by
  refine (pe_callTy (call_dictP hc) hg hm boot_dict' (pa_cons ha pa_nil he) (by decide) (by decide) he hpl).imp fun σ H Q ⟨c, fr, ad, F, o⟩ => ?_
  refine ⟨c, fr, ad, F, (Out.bind F o).mono fun av fr1 ad1 H1 F1 m1 o1 v rv => ?_⟩
  cases q1 : fr1.view av with
  | none => rw [q1] at o1; exact o1.elim
  | some y =>
    rw [q1] at o1
    cases y with
    | list ds =>
      simp only at o1
      cases q2 : pairsD ds with
      | none => rw [q2] at o1; exact o1.elim
      | some kvs =>
        rw [q2] at o1
        obtain ⟨l, xs, rfl, h1, hz, h2⟩ := (view_rep F1 rv q1).list
        obtain ⟨ps, ks, rfl, g1, g2⟩ := pairs_rep h2 q2
        refine ⟨l, ps, ks, rfl, h1, g1, fun p hp => ?_⟩
        have F2 := F1.newc (o := .dK (mergeK [] ks)) (cl := .dct false (mergeD [] kvs)) hp fun ok hok => ⟨_, upd_same, Paired.mapP (merge_rep (p := pX X) (H := H1) (ok := okP c ad1) g2 .nil) fun _ _ ⟨z1, z2, z3⟩ => ⟨z1, z2, z3.keep ⟨fun b u h1 h2 => ⟨hok b u h1 h2, Grow.new hp b u h2⟩, (Grow.new hp).keep (ok := okP c ad1) |>.t⟩⟩⟩
        exact o1 _ _ F2 (mv_new hp) _ (newc_at (cl := .gone) F1)
    | _ => exact o1.elim
end

/-! ### is True, is not True -/
def isBoB (b : Bool) : PyData → Bool
  | .bool c => c == b
  | _ => false
def dIsB : PyData → PyData → Option PyData
  | x, .bool b => some (.bool (isBoB b x))
  | _, _ => none
def dNotB : PyData → PyData → Option PyData
  | x, .bool b => some (.bool (!isBoB b x))
  | _, _ => none
theorem is_bool_gen {M : Model} {A : Around} {E : Value → Shared → Prop} {s : Shared} {Q : Value → Shared → Prop} {v : Value} {b : Bool} (hv : ∀ i, v ≠ .builtin i) (h : Q (.bool (v == .bool b)) s) : wpAny M A (compareOp .Is v (.bool b)) Q E s := by
  cases v <;> first | exact wpAny_pure h | exact absurd rfl (hv _)
theorem isnot_bool_gen {M : Model} {A : Around} {E : Value → Shared → Prop} {s : Shared} {Q : Value → Shared → Prop} {v : Value} {b : Bool} (hv : ∀ i, v ≠ .builtin i) (h : Q (.bool (!(v == .bool b))) s) : wpAny M A (compareOp .IsNot v (.bool b)) Q E s := by
  cases v <;> first | exact wpAny_pure h | exact absurd rfl (hv _)
theorem isB_rep {K : PySem.W.Frag} {H : Hp} {ok : Addr → Prop} {v : V} {u : Value} {y : PyData} {b : Bool} (r : RepB K H ok v y) (rv : RelV v u) : (u == Value.bool b) = isBoB b y := by
  cases y with
  | bool c => cases r.bool; cases rv; cases c <;> cases b <;> rfl
  | none => cases r.none; cases rv; rfl
  | int i => cases r.int; obtain ⟨t, rfl⟩ := rv; rfl
  | str z => cases r.str.1; obtain ⟨t, rfl⟩ := rv; rfl
  | list ds => obtain ⟨l, xs, rfl, _⟩ := r.list; cases rv; rfl
  | tuple ds => obtain ⟨l, xs, rfl, _⟩ := r.tuple; cases rv; rfl
  | dict kvs => have z := r.lay; cases z
theorem nob_rep {K : PySem.W.Frag} {H : Hp} {ok : Addr → Prop} {v : V} {u : Value} {y : PyData} (r : RepB K H ok v y) (rv : RelV v u) : ∀ i, u ≠ .builtin i := fun i e => by
  subst e
  cases y with
  | bool c => cases r.bool; cases rv
  | none => cases r.none; cases rv
  | int i => cases r.int; obtain ⟨t, z⟩ := rv; cases z
  | str z => cases r.str.1; obtain ⟨t, z⟩ := rv; cases z
  | list ds => obtain ⟨l, xs, rfl, _⟩ := r.list; cases rv
  | tuple ds => obtain ⟨l, xs, rfl, _⟩ := r.tuple; cases rv
  | dict kvs => have z := r.lay; cases z
section
variable {X : Cx}
theorem o_isB : OpR X (compareOp .Is) (rOp2 X.K dIsB) := by
  intro pins s σ H xv yv v u Q I rx ry ⟨ok, dx, dy, r, hok, hx, hy, e, q⟩
  cases dy with
  | bool b =>
    cases e; cases hy.bool; cases ry
    exact is_bool_gen (nob_rep hx rx) ⟨.bl _, H, I, by rw [isB_rep hx rx]; rfl, q _ H Grow.refl (.bl _)⟩
  | _ => cases e
theorem o_notB : OpR X (compareOp .IsNot) (rOp2 X.K dNotB) := by
  intro pins s σ H xv yv v u Q I rx ry ⟨ok, dx, dy, r, hok, hx, hy, e, q⟩
  cases dy with
  | bool b =>
    cases e; cases hy.bool; cases ry
    exact isnot_bool_gen (nob_rep hx rx) ⟨.bl _, H, I, by rw [isB_rep hx rx]; rfl, q _ H Grow.refl (.bl _)⟩
  | _ => cases e
end
end G
/-! GW: dicts compared. -/
namespace G
open PySem PySem.Spec PyProof.Rows L2
def deqB (kvs kls : List (PyData × PyData)) : Bool := kvs.length == kls.length && kvs.all fun q => match kfind kls q.1 with
  | some y => PyData.eqv q.2 y
  | none => false
def deqOk (kvs : List (PyData × PyData)) : Bool := kvs.all fun q => decide (q.2.depth ≤ 32)
section
variable {X : Cx} {pins : List (Addr × Obj)} {σ : L2.St} {H : Hp} {s : Shared} {ok : Addr → Prop}
theorem hits_rep {A : Around} (hA : A.units + 32 < cLine) (I : Inv X pins σ H s) {ls : List (Key × V)} {vb : List (Key × Value)} {kls : List (PyData × PyData)} (rb : KV ls vb) (rl : Paired (PrF (pX X) H ok) ls kls) :
    ∀ {ks : List (Key × V)} {va : List (Key × Value)} {kvs : List (PyData × PyData)}, KV ks va → Paired (PrF (pX X) H ok) ks kvs → deqOk kvs = true → PySem.W.KeqHits A s vb va (kvs.all fun q => match kfind kls q.1 with
      | some y => PyData.eqv q.2 y
      | none => false) := by
  intro ks va kvs ra rk
  unfold KV at ra
  induction rk generalizing va with
  | nil => intro _; cases ra; exact .nil
  | @cons x q ks kvs h t ih =>
    intro hd
    unfold deqOk at hd
    rw [List.all_cons, Bool.and_eq_true] at hd
    cases ra with
    | @cons _ u _ us hu ht =>
      obtain ⟨r1, r2, r3⟩ := h
      obtain ⟨u1, u2⟩ := hu
      obtain ⟨k, w⟩ := u
      have u1' : x.1 = k := u1
      subst u1'
      have rr : RelO (valV ls x.1) (valueAt vb x.1) := rb.val x.1
      rw [List.all_cons, r1]
      rcases find_f (n := x.1) rl with ⟨z1, z2⟩ | ⟨y, v, z1, z2, z3⟩
      · rw [z1]
        rw [z2] at rr
        cases e : valueAt vb x.1 with
        | none => exact .miss e
        | some y => rw [e] at rr; exact rr.elim
      · rw [z1]
        rw [z2] at rr
        obtain ⟨y', hy, ry⟩ := rr.some_of
        obtain ⟨as, g1⟩ := Dp.reads I _ _ _ r3.dp u2
        obtain ⟨bs, g2⟩ := Dp.reads I _ _ _ z3.dp ry
        refine .hit hy (PySem.SeqAt.eqAt_reads _ _ A s _ _ _ _ g1 g2 r3.lay z3.lay ?_) (ih ht hd.2)
        have := of_decide_eq_true hd.1
        omega
theorem g_deq {Q : VK} {a b : Addr} {kvs kls : List (PyData × PyData)} (hu : X.A.units + 64 < cLine) (I : Inv X pins σ H s) (da : DctAt (pX X) H ok a false kvs) (db : DctAt (pX X) H ok b false kls) (hk : deqOk kvs = true) :
    (Q (.bl (deqB kvs kls)) H → wpAny (model X.prog X.w) X.A (compareOp .Eq (.ref a) (.ref b)) (EP X pins σ Q) X.xe s) ∧ (Q (.bl (!deqB kvs kls)) H → wpAny (model X.prog X.w) X.A (compareOp .NotEq (.ref a) (.ref b)) (EP X pins σ Q) X.xe s) := by
  obtain ⟨ks, ea, ra⟩ := da
  obtain ⟨ls, eb, rb⟩ := db
  obtain ⟨za, ya, va, rla, dda⟩ := dk_rd I.hok (.inl ea)
  obtain ⟨zb, yb, vb, rlb, ddb⟩ := dk_rd I.hok (.inl eb)
  have l1 : ks.length = kvs.length := Paired.length ra
  have l2 : ls.length = kls.length := Paired.length rb
  have l3 : ks.length = va.length := rla.length
  have l4 : ls.length = vb.length := rlb.length
  have hh := hits_rep (A := X.A.in1) (by show X.A.units + 1 + 32 < cLine; omega) I rlb rb rla ra hk
  have e : deqB kvs kls = (va.length == vb.length && (kvs.all fun q => match kfind kls q.1 with
      | some y => PyData.eqv q.2 y
      | none => false)) := by
    unfold deqB
    rw [← l1, ← l2, l3, l4]
  refine ⟨fun q => ?_, fun q => ?_⟩
  · exact PySem.W.keq_eq (knd := mixKind X.prog X.w) ya yb dda ddb (by omega) (fun _ => hh) ⟨.bl _, H, I, rfl, by rw [← e]; exact q⟩
  · exact PySem.W.keq_ne (knd := mixKind X.prog X.w) ya yb dda ddb (by omega) (fun _ => hh) ⟨.bl _, H, I, rfl, by rw [← e]; exact q⟩
end
@[simp] def xDEq (neg : Bool) (f g : Fr → Res AV) : Fr → Res AV := fun fr => (f fr).bind fun a fr1 => (g fr1).bind fun b fr2 => match fr2.dview a, fr2.dview b with
  | some (false, kvs), some (false, kls) => if deqOk kvs = true then .ok (.dat (.bool (if neg = true then !deqB kvs kls else deqB kvs kls))) fr2 else .err
  | _, _ => .err
def rDE (X : Cx) (neg : Bool) : R2 := fun xv yv H Q => ∃ (ok : Addr → Prop) (l m : Addr) (kvs kls : List (PyData × PyData)), xv = .ref l ∧ yv = .ref m ∧ DctAt (pX X) H ok l false kvs ∧ DctAt (pX X) H ok m false kls ∧ deqOk kvs = true ∧ Q (.bl (if neg = true then !deqB kvs kls else deqB kvs kls)) H
section
variable {X : Cx} {x : XW} {a b d : Expr} {f g h : Fr → Res AV} {pos : Pos}
theorem o_deq (hu : X.A.units + 64 < cLine) : OpR X (compareOp .Eq) (rDE X false) := by
  intro pins s σ H xv yv v u Q I rx ry hh
  obtain ⟨ok, l, m, kvs, kls, rfl, rfl, h1, h2, h3, q⟩ := hh
  cases rx; cases ry
  exact (g_deq hu I h1 h2 h3).1 (by simpa using q)
theorem o_dne (hu : X.A.units + 64 < cLine) : OpR X (compareOp .NotEq) (rDE X true) := by
  intro pins s σ H xv yv v u Q I rx ry hh
  obtain ⟨ok, l, m, kvs, kls, rfl, rfl, h1, h2, h3, q⟩ := hh
  cases rx; cases ry
  exact (g_deq hu I h1 h2 h3).2 (by simpa using q)
theorem tE_deq {neg : Bool} {σ : L2.St} {H : Hp} {Q : VK} (hh : tE (pX X) x (xDEq neg f g) σ H Q) : tOp (rDE X neg) (tE (pX X) x f) (tE (pX X) x g) σ H Q := by
  obtain ⟨c, fr, ad, F, o⟩ := hh
  refine ⟨c, fr, ad, F, (Out.bind F o).mono fun av fr1 ad1 H1 F1 m1 o1 v rv => ?_⟩
  refine ⟨c, fr1, ad1, F1, (Out.bind F1 o1).mono fun bv fr2 ad2 H2 F2 m2 o2 w rw_ => ?_⟩
  have rv2 := RepA.mv F1 m2 rv
  cases q1 : fr2.dview av with
  | none => rw [q1] at o2; exact o2.elim
  | some z =>
    obtain ⟨tp, kvs⟩ := z
    cases q2 : fr2.dview bv with
    | none => rw [q1, q2] at o2; cases tp <;> exact o2.elim
    | some z2 =>
      obtain ⟨tp2, kls⟩ := z2
      rw [q1, q2] at o2
      cases tp with
      | true => cases tp2 <;> exact o2.elim
      | false =>
        cases tp2 with
        | true => exact o2.elim
        | false =>
          simp only at o2
          split at o2
          · rename_i hk
            obtain ⟨l, rfl, dd⟩ := dview_rep F2 rv2 q1
            obtain ⟨m, rfl, de⟩ := dview_rep F2 rw_ q2
            exact ⟨okP c ad2, l, m, kvs, kls, rfl, rfl, dd, de, hk, o2 ad2 H2 F2 Mv.refl _ (.bl _)⟩
          · exact o2.elim
theorem ae_deq (hu : X.A.units + 64 < cLine) (ha : AE X x a f) (hb : AE X x b g) (hm : behindInMarks .Eq b = false) : AE X x (.Compare a [.Eq] [b] pos) (xDEq false f g) := (pe_cmpR (o_deq hu) ha hb hm).imp fun _ _ _ h => tE_deq h
theorem ae_dne (hu : X.A.units + 64 < cLine) (ha : AE X x a f) (hb : AE X x b g) (hm : behindInMarks .NotEq b = false) : AE X x (.Compare a [.NotEq] [b] pos) (xDEq true f g) := (pe_cmpR (o_dne hu) ha hb hm).imp fun _ _ _ h => tE_deq h
theorem at_deq (hu : X.A.units + 64 < cLine) (ha : AE X x a f) (hb : AE X x b g) (hm : behindInMarks .Eq b = false) : AT X x (.Compare a [.Eq] [b] pos) (xB (xDEq false f g)) := (pt_cmpR (o_deq hu) ha hb hm).imp fun _ _ _ h => tE_deq (tT_tB h)
theorem at_dne (hu : X.A.units + 64 < cLine) (ha : AE X x a f) (hb : AE X x b g) (hm : behindInMarks .NotEq b = false) : AT X x (.Compare a [.NotEq] [b] pos) (xB (xDEq true f g)) := (pt_cmpR (o_dne hu) ha hb hm).imp fun _ _ _ h => tE_deq (tT_tB h)
end
end G
/-! GX: comprehensions of two clauses. -/
namespace G
open PySem PySem.Spec PyProof.Rows L2

/-- the turns of the first clause -/
def compB (own vs1 : List Nat) (g : Tg) (t : Fr → Res Bool) (e1 : Fr → Res (List PyData)) (g1 : Tg) (t1 : Fr → Res Bool) (f : Fr → Res AV) (vars : List (Option AV)) (bs : Nat) : List PyData → List PyData → List Cell → Option (List PyData × List Cell)
  | [], acc, cs => some (acc, cs)
  | y :: ys, acc, cs => match g y ⟨kill own vars, cs, bs⟩ with
    | some fr1 => (match t fr1 with
      | .ok b fr2 => if b = true then (match e1 fr2 with
        | .ok zs fr3 => if acc.length + zs.length ≤ 1000000 then (match compA vs1 g1 t1 f fr3.vars bs zs acc fr3.cells with
          | some (acc', cs') => compB own vs1 g t e1 g1 t1 f vars bs ys acc' cs'
          | none => none) else none
        | _ => none) else compB own vs1 g t e1 g1 t1 f vars bs ys acc fr2.cells
      | _ => none)
    | none => none
def xComp2 (own vs1 : List Nat) (e : Fr → Res (List PyData)) (g : Tg) (t : Fr → Res Bool) (e1 : Fr → Res (List PyData)) (g1 : Tg) (t1 : Fr → Res Bool) (f : Fr → Res AV) : Fr → Res AV := fun fr => (e fr).bind fun ys fr1 => match compB own vs1 g t e1 g1 t1 f fr1.vars fr1.base ys [] fr1.cells with
  | some (acc, cs) => .ok (.dat (.list acc)) ⟨fr1.vars, cs, fr1.base⟩
  | none => .err
section
variable {X : Cx} {x : XW} {tg e elt tg1 iter1 : Expr} {ef ef1 : Fr → Res (List PyData)} {g g1 : Tg} {t t1 : Fr → Res Bool} {f : Fr → Res AV} {is is1 : List Nat} {pos : Pos} {ifs ifs1 : List Expr} {scope : Scope} {own : List (Str × Nat)} {vs1 : List Nat}
theorem lc2_read {σ : L2.St} {H : Hp} {Q : VK} (hsub : ∀ i ∈ is, i ∈ own.map (·.2)) (hsub1 : ∀ i ∈ is1, i ∈ vs1) (h : tE (pX X) x (xComp2 (own.map (·.2)) vs1 ef g t ef1 g1 t1 f) σ H Q) :
    tLc2 (tI (pX X) x ef) (tG (pX X) is g) (tT (pX X) (xb x) t) (tI (pX X) (xb x) ef1) (tG (pX X) is1 g1) (tT (pX X) (xb x) t1) (tE (pX X) (xb x) f) (own.map (·.2)) vs1 σ H Q := by
  obtain ⟨c, fr, ad, F, o⟩ := h
  refine ⟨c, fr, ad, F, (Out.bind F o).mono fun ys fr1 ad1 H1 F1 m1 o1 J qs hq wk D hD => ?_⟩
  have hDe := he_new F1 hD
  have gr1 : Grow H1 (upd H1 D (.lst [])) := Grow.new hD
  have F1h := (F1.plus hq).hold (vs := []) hD
  generalize hown : own.map (·.2) = ow at *
  refine ⟨fun i m H => i ≤ ys.length ∧ m = ys.length - i ∧ ∃ (acc : List PyData) (cs : List Cell) (ad : List (Option Addr)) (vs : List V), FR (pX X) ((c.plus qs).hold D) ⟨fr1.vars, cs, fr1.base⟩ ad σ H ∧ H D = some (.lst vs) ∧ RepL X.K H (okP ((c.plus qs).hold D) ad) vs acc ∧ acc.length ≤ 1000000 ∧ Mv H1 ad1 H ad ∧
      (match compB ow vs1 g t ef1 g1 t1 f fr1.vars fr1.base (ys.drop i) acc cs with
        | some (r, cs') => ∀ ad' H', FR (pX X) c ⟨fr1.vars, cs', fr1.base⟩ ad' σ H' → Mv H1 ad1 H' ad' → ∀ v, Rep X.K H' (okP c ad') v (.list r) → Q v H'
        | none => False), ⟨ys.length, Nat.zero_le _, by simp, [], fr1.cells, ad1, [], F1h, upd_same, .nil, Nat.zero_le _, Mv.grow gr1, ?_⟩, ?_⟩
  · rw [List.drop_zero]
    cases q : compB ow vs1 g t ef1 g1 t1 f fr1.vars fr1.base ys [] fr1.cells with
    | none => rw [q] at o1; exact o1.elim
    | some r =>
      obtain ⟨r, cs'⟩ := r
      rw [q] at o1
      exact fun ad' H' F' m' v rv => o1 ad' H' F' m' v rv
  · rintro i m H2 ⟨hi2, rfl, acc, cs, ad2, vs, F2, hD2, racc, hacc, m2, o2⟩
    by_cases hlt : i < ys.length
    · right
      have ey : ys[i]? = some ys[i] := by rw [List.getElem?_eq_getElem hlt]
      obtain ⟨h1, h2⟩ := wk.go _ H2 i _ (FR.ghs (c := c.hold D) ⟨F2.len, F2.var, F2.clen, F2.cel, F2.nd, F2.old, F2.sub, F2.adw, F2.gh, F2.pr, F2.bs⟩) ey
      refine ⟨h1, _, fun H' h => ⟨ys.length - (i + 1), by omega, hlt, rfl, h⟩, fun v H3 hy => ?_⟩
      obtain ⟨gr, rv⟩ := h2 v H3 hy
      rw [List.drop_eq_getElem_cons hlt] at o2
      unfold compB at o2
      have F3 := F2.grow gr
      have D3 := gr D _ hD2
      have r3 := racc.keep (gr.keep (ok := okP ((c.plus qs).hold D) ad2))
      cases q1 : g ys[i] ⟨kill ow fr1.vars, cs, fr1.base⟩ with
      | none => rw [q1] at o2; exact o2.elim
      | some fr4 =>
        rw [q1] at o2
        simp only at o2
        refine ⟨(c.plus qs).hold D, ⟨kill ow fr1.vars, cs, fr1.base⟩, ad2, _, fr4, F3.wipe ow, rv, q1, fun σ4 F4 oa => ⟨?_, (c.plus qs).hold D, fr4, ad2, F4, ?_⟩⟩
        · rw [oa ow hsub]
          exact wipe_sub fun _ h => h
        · cases q2 : t fr4 with
          | exc cl fs fr5 => rw [q2] at o2; exact o2.elim
          | err => rw [q2] at o2; exact o2.elim
          | ok b fr5 =>
            rw [q2] at o2
            simp only at o2
            intro ad5 H5 F5 m5
            have B5 := F3.back m5 F5
            have M5 : Mv H1 ad1 H5 ad5 := (m2.trans F1 (Mv.grow gr)).trans F1 m5
            have D5 := m5.keep D _ D3 (F3.pr D (List.mem_cons_self ..)).1
            have r5 := r3.keep (m5.kp F3)
            cases b with
            | false =>
              simp only [Bool.false_eq_true, if_false] at o2 ⊢
              exact ⟨acc, fr5.cells, ad5, vs, B5, D5, r5, hacc, M5, o2⟩
            | true =>
              simp only [if_true] at o2 ⊢
              refine ⟨(c.plus qs).hold D, fr5, ad5, F5, ?_⟩
              cases q3 : ef1 fr5 with
              | exc cl fs fr6 => rw [q3] at o2; exact o2.elim
              | err => rw [q3] at o2; exact o2.elim
              | ok zs fr6 =>
                rw [q3] at o2
                simp only at o2
                by_cases hz : acc.length + zs.length ≤ 1000000
                rotate_left
                · rw [if_neg hz] at o2; exact o2.elim
                rw [if_pos hz] at o2
                intro ad6 H6 F6 m6 J1 qs1 hq1 wk1
                have B6 := B5.back m6 F6
                have M6 := M5.trans F1 m6
                have D6 := m6.keep D _ D5 (B5.pr D (List.mem_cons_self ..)).1
                have r6 := r5.keep (m6.kp B5)
                have E6 : fr6.base = fr1.base := F6.bs.trans B5.bs.symm
                refine ⟨fun j k H => j ≤ zs.length ∧ k = zs.length - j ∧ ∃ (acc2 : List PyData) (cs2 : List Cell) (ad : List (Option Addr)) (vs2 : List V), FR (pX X) (((c.plus qs).hold D).plus qs1) ⟨fr6.vars, cs2, fr1.base⟩ ad σ4 H ∧ FR (pX X) ((c.plus qs).hold D) ⟨fr1.vars, cs2, fr1.base⟩ ad σ H ∧ H D = some (.lst vs2) ∧ RepL X.K H (okP ((c.plus qs).hold D) ad) vs2 acc2 ∧ acc2.length ≤ acc.length + j ∧ Mv H1 ad1 H ad ∧
                    (match compA vs1 g1 t1 f fr6.vars fr1.base (zs.drop j) acc2 cs2 with
                      | some (acc', cs') => (match compB ow vs1 g t ef1 g1 t1 f fr1.vars fr1.base (ys.drop (i + 1)) acc' cs' with
                        | some (r, cs') => ∀ ad' H', FR (pX X) c ⟨fr1.vars, cs', fr1.base⟩ ad' σ H' → Mv H1 ad1 H' ad' → ∀ v, Rep X.K H' (okP c ad') v (.list r) → Q v H'
                        | none => False)
                      | none => False), ⟨zs.length, Nat.zero_le _, by simp, acc, fr6.cells, ad6, vs, ?_, B6, D6, r6, by omega, M6, ?_⟩, ?_⟩
                · have z := F6.plus hq1
                  rw [← E6]; exact z
                · rw [List.drop_zero]
                  cases q : compA vs1 g1 t1 f fr6.vars fr1.base zs acc fr6.cells with
                  | none => rw [q] at o2; exact o2.elim
                  | some r => rw [q] at o2; exact o2
                · rintro j k H7 ⟨hj2, rfl, acc2, cs2, ad7, vs2, F7, B7, D7, r7, hacc2, M7, o7⟩
                  by_cases hjl : j < zs.length
                  · right
                    have ez : zs[j]? = some zs[j] := by rw [List.getElem?_eq_getElem hjl]
                    obtain ⟨k1, k2⟩ := wk1.go _ H7 j _ F7.ghs ez
                    refine ⟨k1, _, fun H' h => ⟨zs.length - (j + 1), by omega, hjl, rfl, h⟩, fun w H8 hw => ?_⟩
                    obtain ⟨gr8, rw8⟩ := k2 w H8 hw
                    rw [List.drop_eq_getElem_cons hjl] at o7
                    unfold compA at o7
                    have F8 := F7.grow gr8
                    have B8 := B7.grow gr8
                    have D8 := gr8 D _ D7
                    have r8 := r7.keep (gr8.keep (ok := okP ((c.plus qs).hold D) ad7))
                    have M8 := M7.trans F1 (Mv.grow (ad := ad7) gr8)
                    cases p1 : g1 zs[j] ⟨kill vs1 fr6.vars, cs2, fr1.base⟩ with
                    | none => rw [p1] at o7; exact o7.elim
                    | some fr9 =>
                      rw [p1] at o7
                      simp only at o7
                      refine ⟨((c.plus qs).hold D).plus qs1, ⟨kill vs1 fr6.vars, cs2, fr1.base⟩, ad7, _, fr9, F8.wipe vs1, rw8, p1, fun σ9 F9 oa9 => ⟨?_, ((c.plus qs).hold D).plus qs1, fr9, ad7, F9, ?_⟩⟩
                      · rw [oa9 vs1 hsub1]
                        exact wipe_sub fun _ h => h
                      · cases p2 : t1 fr9 with
                        | exc cl fs fr10 => rw [p2] at o7; exact o7.elim
                        | err => rw [p2] at o7; exact o7.elim
                        | ok b1 fr10 =>
                          rw [p2] at o7
                          simp only at o7
                          intro ad10 H10 F10 m10
                          have A10 := F8.back m10 F10
                          have B10 := B8.back m10 F10.less
                          have M10 := M8.trans F1 m10
                          have D10 := m10.keep D _ D8 (B8.pr D (List.mem_cons_self ..)).1
                          have r10 := r8.keep (m10.kp B8)
                          cases b1 with
                          | false =>
                            simp only [Bool.false_eq_true, if_false] at o7 ⊢
                            exact ⟨acc2, fr10.cells, ad10, vs2, A10, B10, D10, r10, by omega, M10, o7⟩
                          | true =>
                            simp only [if_true] at o7 ⊢
                            refine ⟨((c.plus qs).hold D).plus qs1, fr10, ad10, F10, ?_⟩
                            cases p3 : f fr10 with
                            | exc cl fs fr11 => rw [p3] at o7; exact o7.elim
                            | err => rw [p3] at o7; exact o7.elim
                            | ok av fr11 =>
                              rw [p3] at o7
                              intro ad11 H11 F11 m11 w11 rw11
                              cases av with
                              | dat z =>
                                simp only at o7
                                have A11 := A10.back m11 F11
                                have B11 := B10.back m11 F11.less
                                have M11 := M10.trans F1 m11
                                have D11 := m11.keep D _ D10 (B10.pr D (List.mem_cons_self ..)).1
                                have r11 := r10.keep (m11.kp B10)
                                have len := r11.length
                                obtain ⟨B12, k12⟩ := B11.fill hDe (ws := vs2 ++ [w11]) D11
                                have A11' : FR (pX X) (Ent.hold ((c.plus qs).plus qs1) D) ⟨fr6.vars, fr11.cells, fr1.base⟩ ad11 σ4 H11 := ⟨A11.len, A11.var, A11.clen, A11.cel, A11.nd, A11.old, A11.sub, A11.adw, A11.gh, A11.pr, A11.bs⟩
                                obtain ⟨A12, _⟩ := A11'.fill hDe (ws := vs2 ++ [w11]) D11
                                refine ⟨vs2, D11, by rw [sizeLine_eq]; omega, acc2 ++ [z], fr11.cells, ad11, vs2 ++ [w11], ⟨A12.len, A12.var, A12.clen, A12.cel, A12.nd, A12.old, A12.sub, A12.adw, A12.gh, A12.pr, A12.bs⟩, B12, upd_same, RepL.append (r11.keep k12) (.cons (Rep.keep k12 rw11) .nil), by simp; omega, ?_, o7⟩
                                refine ⟨fun b u e n => ?_, M11.pre, M11.new, fun b h => ?_⟩
                                · have nb : b ≠ D := fun z => by rw [z, hD] at e; cases e
                                  rw [upd_ne nb]; exact M11.keep b u e n
                                · by_cases z : b = D
                                  · subst z; rw [upd_same]; simp
                                  · rw [upd_ne z]; exact M11.there b h
                              | _ => exact o7.elim
                  · have e1 : j = zs.length := by omega
                    subst e1
                    left
                    refine ⟨wk1.stop _ H7 F7.ghs, ?_⟩
                    rw [List.drop_length] at o7
                    exact ⟨acc2, cs2, ad7, vs2, B7, D7, r7, by omega, M7, o7⟩
    · have e1 : i = ys.length := by omega
      subst e1
      left
      refine ⟨wk.stop _ H2 (FR.ghs (c := c.hold D) ⟨F2.len, F2.var, F2.clen, F2.cel, F2.nd, F2.old, F2.sub, F2.adw, F2.gh, F2.pr, F2.bs⟩), ?_⟩
      rw [List.drop_length] at o2
      have o3 : ∀ ad' H', FR (pX X) c ⟨fr1.vars, cs, fr1.base⟩ ad' σ H' → Mv H1 ad1 H' ad' → ∀ v, Rep X.K H' (okP c ad') v (.list acc) → Q v H' := o2
      refine o3 ad2 H2 F2.unhold.less m2 (.ref D) (.lst ⟨⟨.inl hDe, fun z => ?_⟩, (F2.pr D (List.mem_cons_self ..)).1⟩ hD2 (by rw [sizeLine_eq]; omega) (racc.mono okP_hold))
      obtain ⟨_, us, e⟩ := F1.pr D z
      rw [hD] at e; cases e
theorem ae_lc2 (hc : X.calm = true) (hN : X.N.Nodup) (hi : AI X x tg e ef) (ok : BlkOk X.N X.env.scope scope own) (hg : Blk X scope fun Y => AG Y tg is g) (ht : Blk X scope fun Y => ATs Y (xb x) ifs t)
    (hi1 : Blk X scope fun Y => AI Y (xb x) tg1 iter1 ef1) (hg1 : Blk X scope fun Y => AG Y tg1 is1 g1) (ht1 : Blk X scope fun Y => ATs Y (xb x) ifs1 t1) (he : Blk X scope fun Y => AE Y (xb x) elt f)
    (hsub : ∀ i ∈ is, i ∈ own.map (·.2)) (hsub1 : ∀ i ∈ is1, i ∈ vs1) (hv : ∀ i ∈ vs1, i ∈ own.map (·.2)) (hs : ∀ z, foldedSetIterable e X.env z = pure z := by intro _; rfl) (hs1 : ∀ env z, foldedSetIterable iter1 env z = pure z := by intro _ _; rfl) : AE X x (.ListComp elt [⟨tg, e, ifs, 0⟩, ⟨tg1, iter1, ifs1, 0⟩] scope pos) (xComp2 (own.map (·.2)) vs1 ef g t ef1 g1 t1 f) :=
  (pe_lc2 hc hN hi ok hv hg ht hi1 hg1 ht1 he hs hs1).imp fun σ H Q h => lc2_read hsub hsub1 h
end
end G
/-! GY: dicts by comprehensions; what a comprehension made, to be written on. -/
namespace G
open PySem PySem.Spec PyProof.Rows L2

section
variable {p : Par} {c : Ent} {fr : Fr} {ad : List (Option Addr)} {σ : L2.St} {H : Hp}
theorem okP_adopt {D : Addr} : ∀ a, okP (c.hold D) ad a → okP c (ad ++ [some D]) a := fun a h => by
  refine ⟨⟨h.1.1, fun z => h.1.2 (List.mem_cons_of_mem _ z)⟩, fun m => ?_⟩
  rcases List.mem_append.mp m with m | m
  · exact h.2 m
  · have e : a = D := by simpa using m
    exact h.1.2 (by rw [e]; exact List.mem_cons_self ..)
/-- what was protected becomes a cell -/
theorem FR.adopt {D : Addr} {cl : Cell} (F : FR p (c.hold D) fr ad σ H) (hDe : c.He D = none) (hDp : D ∉ c.prot) (q : CellAt p H (okP (c.hold D) ad) D cl) : FR p c (fr.newc cl) (ad ++ [some D]) σ H := by
  obtain ⟨nD, ob, eD⟩ := F.pr D (List.mem_cons_self ..)
  have rep : ∀ {v : V} {av : AV}, RepA p H (okP (c.hold D) ad) ad v av → RepA p H (okP c (ad ++ [some D])) (ad ++ [some D]) v av := fun {v av} r => by
    cases av with
    | dat y => exact Rep.mono okP_adopt r
    | dct tp kvs =>
      obtain ⟨b, e, h1, h2⟩ := r
      exact ⟨b, e, okP_adopt b h1, h2.mono okP_adopt⟩
    | cel i =>
      obtain ⟨b, e, h1⟩ := r
      exact ⟨b, e, snoc_pre h1⟩
    | scr ns => exact r
  refine ⟨F.len, fun i av e => ?_, by simp [Fr.newc, F.clen], fun i a e => ?_, fun i j a e1 e2 => ?_, F.old, fun i a e => snoc_pre (F.sub i a e), fun a h => ?_, fun g hg => ⟨(F.gh g hg).1, rep (F.gh g hg).2⟩, fun a ha => ?_, F.bs⟩
  · obtain ⟨v, h1, h2⟩ := F.var i av e
    exact ⟨v, h1, rep h2⟩
  · rcases snoc_at e with e | ⟨hi, e⟩
    · obtain ⟨cl', h1, h2⟩ := F.cel i a e
      exact ⟨cl', snoc_pre h1, h2.mono okP_adopt⟩
    · have e' : a = D := by simpa using e
      subst e'
      refine ⟨cl, ?_, q.mono okP_adopt⟩
      show (fr.cells ++ [cl])[i]? = some cl
      rw [hi, ← F.clen]; simp
  · rcases snoc_at e1 with k1 | ⟨h1, k1⟩
    · rcases snoc_at e2 with k2 | ⟨h2, k2⟩
      · exact F.nd i j a k1 k2
      · have e' : a = D := by simpa using k2
        exact absurd (List.mem_of_getElem? k1) (by rw [e']; exact nD)
    · rcases snoc_at e2 with k2 | ⟨h2, k2⟩
      · have e' : a = D := by simpa using k1
        exact absurd (List.mem_of_getElem? k2) (by rw [e']; exact nD)
      · rw [h1, h2]
  · rcases List.mem_append.mp h with h | h
    · exact F.adw a h
    · have e : a = D := by simpa using h
      exact .inr (by rw [e]; exact hDe)
  · obtain ⟨h1, o, h2⟩ := F.pr a (List.mem_cons_of_mem _ ha)
    refine ⟨fun m => ?_, o, h2⟩
    rcases List.mem_append.mp m with m | m
    · exact h1 m
    · have e : a = D := by simpa using m
      exact hDp (by rw [← e]; exact ha)
theorem FR.fillK {D : Addr} (F : FR p (c.hold D) fr ad σ H) (hD : c.He D = none) {ks ks' : List (Key × V)} (e : H D = some (.dK ks)) : FR p (c.hold D) fr ad σ (upd H D (.dK ks')) ∧ Keep H (upd H D (.dK ks')) (okP (c.hold D) ad) (okP (c.hold D) ad) := by
  have nD : some D ∉ ad := (F.pr D (List.mem_cons_self ..)).1
  have ne : ∀ a, okP (c.hold D) ad a → a ≠ D := fun a h z => h.1.2 (by rw [z]; exact List.mem_cons_self ..)
  have kt : ∀ a xs, Rd H a (.tup xs) → Rd (upd H D (.dK ks')) a (.tup xs) := fun a xs r => by
    have na : a ≠ D := fun z => by
      subst z
      rcases r with r | ⟨_, r⟩ <;> (rw [e] at r; cases r)
    rcases r with r | ⟨o, r⟩
    · exact .inl (by rw [upd_ne na]; exact r)
    · exact .inr ⟨o, by rw [upd_ne na]; exact r⟩
  have kp : Keep H (upd H D (.dK ks')) (okP (c.hold D) ad) (okP (c.hold D) ad) := ⟨fun a o h q => ⟨h, by rw [upd_ne (ne a h)]; exact q⟩, kt⟩
  have rep : ∀ {v : V} {av : AV}, RepA p H (okP (c.hold D) ad) ad v av → RepA p (upd H D (.dK ks')) (okP (c.hold D) ad) ad v av := fun {v av} r => by
    cases av with
    | dat y => exact Rep.keep kp r
    | dct tp kvs =>
      obtain ⟨b, e, h1, h2⟩ := r
      exact ⟨b, e, h1, h2.keep kp fun o z => by rw [upd_ne (ne b h1)]; exact z⟩
    | cel i => exact r
    | scr ns =>
      obtain ⟨hl, b, rfl, z⟩ := r
      refine ⟨hl, b, rfl, ?_⟩
      rcases z with ⟨u, z⟩ | z
      · exact .inl ⟨u, by rw [upd_ne (by rintro rfl; rw [e] at z; cases z)]; exact z⟩
      · exact .inr z
  refine ⟨⟨F.len, fun i av q => ?_, F.clen, fun i a q => ?_, F.nd, fun b o q h => ?_, F.sub, F.adw, fun q hq => ⟨(F.gh q hq).1, rep (F.gh q hq).2⟩, fun a ha => ?_, F.bs⟩, kp⟩
  · obtain ⟨v, h1, h2⟩ := F.var i av q
    exact ⟨v, h1, rep h2⟩
  · obtain ⟨cl, h1, h2⟩ := F.cel i a q
    have na : a ≠ D := fun z => nD (by rw [← z]; exact List.mem_of_getElem? q)
    refine ⟨cl, h1, ?_⟩
    cases cl with
    | lst ds =>
      obtain ⟨xs, h3, hz, h4⟩ := h2
      exact ⟨xs, by rw [upd_ne na]; exact h3, hz, h4.keep kp⟩
    | dct tp kvs => exact DctAt.keep kp (fun o z => by rw [upd_ne na]; exact z) h2
    | gone => exact h2
  · have nb : b ≠ D := by
      intro z
      have q' : c.He b = some o := q
      rw [z, hD] at q'
      cases q'
    rw [upd_ne nb]; exact F.old b o q h
  · by_cases z : a = D
    · subst z; exact ⟨nD, _, upd_same⟩
    · obtain ⟨h1, us, h2⟩ := F.pr a ha
      exact ⟨h1, us, by rw [upd_ne z]; exact h2⟩
/-- any new object, protected -/
theorem FR.holdO (F : FR p c fr ad σ H) {D : Addr} {o0 : HO} (n : H D = none) : FR p (c.hold D) fr ad σ (upd H D o0) := by
  have gr : Grow H (upd H D o0) := Grow.new n
  have kp : Keep H (upd H D o0) (okP c ad) (okP (c.hold D) ad) := ⟨fun a o h e => ⟨⟨⟨h.1.1, fun z => by
    rcases List.mem_cons.mp z with z | z
    · subst z; rw [n] at e; cases e
    · exact h.1.2 z⟩, h.2⟩, gr a o e⟩, (gr.keep (ok := okP c ad)).t⟩
  have nD : some D ∉ ad := fun m => by
    obtain ⟨o, e, _⟩ := F.track m
    rw [n] at e; cases e
  have rep : ∀ {v : V} {av : AV}, RepA p H (okP c ad) ad v av → RepA p (upd H D o0) (okP (c.hold D) ad) ad v av := fun {v av} r => by
    cases av with
    | dat y => exact Rep.keep kp r
    | dct tp kvs =>
      obtain ⟨b, e, h1, h2⟩ := r
      obtain ⟨o, z, _⟩ := h2.there
      exact ⟨b, e, (kp.l b o h1 z).1, h2.keep kp fun o z => gr b o z⟩
    | cel i => exact r
    | scr ns => exact RepA.mv F (Mv.grow gr) r
  refine ⟨F.len, fun i av e => ?_, F.clen, fun i a e => ?_, F.nd, fun b o e h => gr _ _ (F.old b o e h), F.sub, F.adw, fun q hq => ⟨(F.gh q hq).1, rep (F.gh q hq).2⟩, fun a ha => ?_, F.bs⟩
  · obtain ⟨v, h1, h2⟩ := F.var i av e
    exact ⟨v, h1, rep h2⟩
  · obtain ⟨cl, h1, h2⟩ := F.cel i a e
    refine ⟨cl, h1, ?_⟩
    cases cl with
    | lst ds =>
      obtain ⟨xs, h3, hz, h4⟩ := h2
      exact ⟨xs, gr _ _ h3, hz, h4.keep kp⟩
    | dct tp kvs => exact DctAt.keep kp (fun o z => gr _ _ z) h2
    | gone => exact h2
  · rcases List.mem_cons.mp ha with e | e
    · subst e; exact ⟨nD, _, upd_same⟩
    · obtain ⟨h1, ws, h2⟩ := F.pr a e
      exact ⟨h1, ws, gr _ _ h2⟩
end

/-! ### {k: v for ..}, keys ints or texts -/
def compD (own : List Nat) (g : Tg) (t : Fr → Res Bool) (fk fv : Fr → Res AV) (vars : List (Option AV)) (bs : Nat) : List PyData → List (PyData × PyData) → List Cell → Option (List (PyData × PyData) × List Cell)
  | [], acc, cs => some (acc, cs)
  | y :: ys, acc, cs => match g y ⟨kill own vars, cs, bs⟩ with
    | some fr1 => (match t fr1 with
      | .ok b fr2 => if b = true then (match fk fr2 with
        | .ok (.dat k) fr3 => (match fv fr3 with
          | .ok (.dat v) fr4 => if kOk false k = true ∧ acc.length < 1000000 then compD own g t fk fv vars bs ys (kput acc k v) fr4.cells else none
          | _ => none)
        | _ => none) else compD own g t fk fv vars bs ys acc fr2.cells
      | _ => none)
    | none => none
@[simp] def xDComp (own : List Nat) (e : Fr → Res (List PyData)) (g : Tg) (t : Fr → Res Bool) (fk fv : Fr → Res AV) : Fr → Res AV := fun fr => (e fr).bind fun ys fr1 => match compD own g t fk fv fr1.vars fr1.base ys [] fr1.cells with
  | some (acc, cs) => .ok (.dct false acc) ⟨fr1.vars, cs, fr1.base⟩
  | none => .err
@[simp] def xDCompF (own : List Nat) (e : Fr → Res (List PyData)) (g : Tg) (t : Fr → Res Bool) (fk fv : Fr → Res AV) : Fr → Res AV := fun fr => (e fr).bind fun ys fr1 => match compD own g t fk fv fr1.vars fr1.base ys [] fr1.cells with
  | some (acc, cs) => .ok (.cel cs.length) ((⟨fr1.vars, cs, fr1.base⟩ : Fr).newc (.dct false acc))
  | none => .err
section
variable {X : Cx} {x : XW} {tg e kx vx : Expr} {ef : Fr → Res (List PyData)} {g : Tg} {t : Fr → Res Bool} {fk fv : Fr → Res AV} {is : List Nat} {pos : Pos} {ifs : List Expr} {scope : Scope} {own : List (Str × Nat)}
theorem dc_read (fresh : Bool) {σ : L2.St} {H : Hp} {Q : VK} (hsub : ∀ i ∈ is, i ∈ own.map (·.2)) (h : tE (pX X) x (if fresh = true then xDCompF (own.map (·.2)) ef g t fk fv else xDComp (own.map (·.2)) ef g t fk fv) σ H Q) :
    tDc (tI (pX X) x ef) (tG (pX X) is g) (tT (pX X) (xb x) t) (tE (pX X) (xb x) fk) (tE (pX X) (xb x) fv) (own.map (·.2)) σ H Q := by
  obtain ⟨c, fr, ad, F, o⟩ := h
  generalize hown : own.map (·.2) = ow at *
  -- what is wished of the dict at the end
  have o' : Out (pX X) x c ad σ H (ef fr) fun ys fr1 ad1 H1 => FR (pX X) c fr1 ad1 σ H1 → ∀ D, H1 D = none → (match compD ow g t fk fv fr1.vars fr1.base ys [] fr1.cells with
      | some (acc, cs) => ∀ ad' H' ks, FR (pX X) (c.hold D) ⟨fr1.vars, cs, fr1.base⟩ ad' σ H' → Mv H1 ad1 H' ad' → H' D = some (.dK ks) → Paired (PrF (pX X) H' (okP (c.hold D) ad')) ks acc → Q (.ref D) H'
      | none => False) := by
    cases fresh with
    | true =>
      refine (Out.bind F o).mono fun ys fr1 ad1 H1 F1 m1 o1 _ D hD => ?_
      cases q : compD ow g t fk fv fr1.vars fr1.base ys [] fr1.cells with
      | none => rw [q] at o1; exact o1.elim
      | some r =>
        obtain ⟨acc, cs⟩ := r
        rw [q] at o1
        intro ad' H' ks F' m' e' r'
        have hDp : D ∉ c.prot := fun z => by
          obtain ⟨_, u, e⟩ := F1.pr D z
          rw [hD] at e; cases e
        have F2 := F'.adopt (cl := .dct false acc) (he_new F1 hD) hDp ⟨ks, e', r'⟩
        refine o1 _ _ F2 ⟨m'.keep, fun i y z => snoc_pre (m'.pre i y z), fun a h => ?_, m'.there⟩ _ ⟨D, rfl, by rw [F'.clen]; simp⟩
        rcases List.mem_append.mp h with h | h
        · exact m'.new a h
        · have e : a = D := by simpa using h
          exact .inr (by rw [e]; exact hD)
    | false =>
      refine (Out.bind F o).mono fun ys fr1 ad1 H1 F1 m1 o1 _ D hD => ?_
      cases q : compD ow g t fk fv fr1.vars fr1.base ys [] fr1.cells with
      | none => rw [q] at o1; exact o1.elim
      | some r =>
        obtain ⟨acc, cs⟩ := r
        rw [q] at o1
        intro ad' H' ks F' m' e' r'
        have hDp : D ∉ c.prot := fun z => by
          obtain ⟨_, u, e⟩ := F1.pr D z
          rw [hD] at e; cases e
        exact o1 _ _ F'.unhold m' _ ⟨D, rfl, ⟨⟨.inl (he_new F1 hD), hDp⟩, (F'.pr D (List.mem_cons_self ..)).1⟩, ks, e', Paired.mapP r' fun _ _ ⟨z1, z2, z3⟩ => ⟨z1, z2, z3.mono okP_hold⟩⟩
  refine ⟨c, fr, ad, F, o'.mono fun ys fr1 ad1 H1 F1 m1 o1 J qs hq wk D hD => ?_⟩
  replace o1 := o1 F1 D hD
  have hDe := he_new F1 hD
  have gr1 : Grow H1 (upd H1 D (.dK [])) := Grow.new hD
  have F1h := (F1.plus hq).holdO (o0 := .dK []) hD
  refine ⟨fun i m H => i ≤ ys.length ∧ m = ys.length - i ∧ ∃ (acc : List (PyData × PyData)) (cs : List Cell) (ad : List (Option Addr)) (ks : List (Key × V)), FR (pX X) ((c.plus qs).hold D) ⟨fr1.vars, cs, fr1.base⟩ ad σ H ∧ H D = some (.dK ks) ∧ Paired (PrF (pX X) H (okP ((c.plus qs).hold D) ad)) ks acc ∧ Mv H1 ad1 H ad ∧
      (match compD ow g t fk fv fr1.vars fr1.base (ys.drop i) acc cs with
        | some (acc, cs) => ∀ ad' H' ks, FR (pX X) (c.hold D) ⟨fr1.vars, cs, fr1.base⟩ ad' σ H' → Mv H1 ad1 H' ad' → H' D = some (.dK ks) → Paired (PrF (pX X) H' (okP (c.hold D) ad')) ks acc → Q (.ref D) H'
        | none => False), ⟨ys.length, Nat.zero_le _, by simp, [], fr1.cells, ad1, [], F1h, upd_same, .nil, Mv.grow gr1, ?_⟩, ?_⟩
  · rw [List.drop_zero]; exact o1
  · rintro i m H2 ⟨hi2, rfl, acc, cs, ad2, ks, F2, hD2, racc, m2, o2⟩
    by_cases hlt : i < ys.length
    · right
      have ey : ys[i]? = some ys[i] := by rw [List.getElem?_eq_getElem hlt]
      obtain ⟨h1, h2⟩ := wk.go _ H2 i _ (FR.ghs (c := c.hold D) ⟨F2.len, F2.var, F2.clen, F2.cel, F2.nd, F2.old, F2.sub, F2.adw, F2.gh, F2.pr, F2.bs⟩) ey
      refine ⟨h1, _, fun H' h => ⟨ys.length - (i + 1), by omega, hlt, rfl, h⟩, fun v H3 hy => ?_⟩
      obtain ⟨gr, rv⟩ := h2 v H3 hy
      rw [List.drop_eq_getElem_cons hlt] at o2
      unfold compD at o2
      have F3 := F2.grow gr
      have D3 := gr D _ hD2
      have prK : ∀ {Ha Hb : Hp} {oka okb : Addr → Prop} {ks : List (Key × V)} {acc : List (PyData × PyData)}, Keep Ha Hb oka okb → Paired (PrF (pX X) Ha oka) ks acc → Paired (PrF (pX X) Hb okb) ks acc := fun k r => Paired.mapP r fun _ _ ⟨z1, z2, z3⟩ => ⟨z1, z2, z3.keep k⟩
      have r3 := prK (gr.keep (ok := okP ((c.plus qs).hold D) ad2)) racc
      cases q1 : g ys[i] ⟨kill ow fr1.vars, cs, fr1.base⟩ with
      | none => rw [q1] at o2; exact o2.elim
      | some fr4 =>
        rw [q1] at o2
        simp only at o2
        refine ⟨(c.plus qs).hold D, ⟨kill ow fr1.vars, cs, fr1.base⟩, ad2, _, fr4, F3.wipe ow, rv, q1, fun σ4 F4 oa => ⟨?_, (c.plus qs).hold D, fr4, ad2, F4, ?_⟩⟩
        · rw [oa ow hsub]
          exact wipe_sub fun _ h => h
        · cases q2 : t fr4 with
          | exc cl fs fr5 => rw [q2] at o2; exact o2.elim
          | err => rw [q2] at o2; exact o2.elim
          | ok b fr5 =>
            rw [q2] at o2
            simp only at o2
            intro ad5 H5 F5 m5
            have B5 := F3.back m5 F5
            have M5 : Mv H1 ad1 H5 ad5 := (m2.trans F1 (Mv.grow gr)).trans F1 m5
            have D5 := m5.keep D _ D3 (F3.pr D (List.mem_cons_self ..)).1
            have r5 := prK (m5.kp F3) r3
            cases b with
            | false =>
              simp only [Bool.false_eq_true, if_false] at o2 ⊢
              exact ⟨acc, fr5.cells, ad5, ks, B5, D5, r5, M5, o2⟩
            | true =>
              simp only [if_true] at o2 ⊢
              refine ⟨(c.plus qs).hold D, fr5, ad5, F5, ?_⟩
              cases q3 : fk fr5 with
              | exc cl fs fr6 => rw [q3] at o2; exact o2.elim
              | err => rw [q3] at o2; exact o2.elim
              | ok av fr6 =>
                rw [q3] at o2
                intro ad6 H6 F6 m6 w rw_
                cases av with
                | dat zk =>
                  simp only at o2
                  have B6 := B5.back m6 F6
                  have M6 := M5.trans F1 m6
                  have D6 := m6.keep D _ D5 (B5.pr D (List.mem_cons_self ..)).1
                  have r6 := prK (m6.kp B5) r5
                  refine ⟨(c.plus qs).hold D, fr6, ad6, F6, ?_⟩
                  cases q4 : fv fr6 with
                  | exc cl fs fr7 => rw [q4] at o2; exact o2.elim
                  | err => rw [q4] at o2; exact o2.elim
                  | ok bv fr7 =>
                    rw [q4] at o2
                    intro ad7 H7 F7 m7 u ru
                    cases bv with
                    | dat zv =>
                      simp only at o2
                      by_cases hh : kOk false zk = true ∧ acc.length < 1000000
                      rotate_left
                      · rw [if_neg hh] at o2; exact o2.elim
                      rw [if_pos hh] at o2
                      have B7 := B6.back m7 F7
                      have M7 := M6.trans F1 m7
                      have D7 := m7.keep D _ D6 (B6.pr D (List.mem_cons_self ..)).1
                      have r7 := prK (m7.kp B6) r6
                      obtain ⟨n, rfl⟩ := kOk_f hh.1
                      obtain ⟨z1, z2⟩ := rep_key rw_
                      obtain ⟨F8, k8⟩ := B7.fillK hDe (ks' := putK ks n u) D7
                      have len := Paired.length r7
                      refine ⟨ks, n, z1, D7, by rw [sizeLine_eq]; omega, kput acc (keyD n) zv, fr7.cells, ad7, putK ks n u, F8, upd_same, prK k8 (put_f r7 z2 ru), ?_, o2⟩
                      refine ⟨fun b u e n => ?_, M7.pre, M7.new, fun b h => ?_⟩
                      · have nb : b ≠ D := fun z => by rw [z, hD] at e; cases e
                        rw [upd_ne nb]; exact M7.keep b u e n
                      · by_cases z : b = D
                        · subst z; rw [upd_same]; simp
                        · rw [upd_ne z]; exact M7.there b h
                    | _ => exact o2.elim
                | _ => exact o2.elim
    · have e1 : i = ys.length := by omega
      subst e1
      left
      refine ⟨wk.stop _ H2 (FR.ghs (c := c.hold D) ⟨F2.len, F2.var, F2.clen, F2.cel, F2.nd, F2.old, F2.sub, F2.adw, F2.gh, F2.pr, F2.bs⟩), ?_⟩
      rw [List.drop_length] at o2
      have o3 : ∀ ad' H' ks, FR (pX X) (c.hold D) ⟨fr1.vars, cs, fr1.base⟩ ad' σ H' → Mv H1 ad1 H' ad' → H' D = some (.dK ks) → Paired (PrF (pX X) H' (okP (c.hold D) ad')) ks acc → Q (.ref D) H' := o2
      have F2' : FR (pX X) (c.hold D) ⟨fr1.vars, cs, fr1.base⟩ ad2 σ H2 := FR.less (qs := qs) ⟨F2.len, F2.var, F2.clen, F2.cel, F2.nd, F2.old, F2.sub, F2.adw, F2.gh, F2.pr, F2.bs⟩
      exact o3 ad2 H2 ks F2' m2 hD2 racc
theorem ae_dc (hc : X.calm = true) (hN : X.N.Nodup) (hi : AI X x tg e ef) (ok : BlkOk X.N X.env.scope scope own) (hg : Blk X scope fun Y => AG Y tg is g) (ht : Blk X scope fun Y => ATs Y (xb x) ifs t) (hk : Blk X scope fun Y => AE Y (xb x) kx fk) (he : Blk X scope fun Y => AE Y (xb x) vx fv)
    (hsub : ∀ i ∈ is, i ∈ own.map (·.2)) (hs : ∀ z, foldedSetIterable e X.env z = pure z := by intro _; rfl) : AE X x (.DictComp kx vx [⟨tg, e, ifs, 0⟩] scope pos) (xDComp (own.map (·.2)) ef g t fk fv) :=
  (pe_dc hc hN hi ok hg ht hk he hs).imp fun σ H Q h => dc_read false hsub (by simpa only [Bool.false_eq_true, if_false] using h)
theorem ae_dcF (hc : X.calm = true) (hN : X.N.Nodup) (hi : AI X x tg e ef) (ok : BlkOk X.N X.env.scope scope own) (hg : Blk X scope fun Y => AG Y tg is g) (ht : Blk X scope fun Y => ATs Y (xb x) ifs t) (hk : Blk X scope fun Y => AE Y (xb x) kx fk) (he : Blk X scope fun Y => AE Y (xb x) vx fv)
    (hsub : ∀ i ∈ is, i ∈ own.map (·.2)) (hs : ∀ z, foldedSetIterable e X.env z = pure z := by intro _; rfl) : AE X x (.DictComp kx vx [⟨tg, e, ifs, 0⟩] scope pos) (xDCompF (own.map (·.2)) ef g t fk fv) :=
  (pe_dc hc hN hi ok hg ht hk he hs).imp fun σ H Q h => dc_read true hsub (by simpa only [if_true] using h)
end
end G
/-! GZ: list comprehensions to be written on; calls with keywords; sum, max. -/
namespace G
open PySem PySem.Spec PyProof.Rows L2
@[simp] def xCompF (own : List Nat) (e : Fr → Res (List PyData)) (g : Tg) (t : Fr → Res Bool) (f : Fr → Res AV) : Fr → Res AV := fun fr => (e fr).bind fun ys fr1 => if ys.length ≤ 1000000 then (match compA own g t f fr1.vars fr1.base ys [] fr1.cells with
  | some (acc, cs) => .ok (.cel cs.length) ((⟨fr1.vars, cs, fr1.base⟩ : Fr).newc (.lst acc))
  | none => .err) else .err
section
variable {X : Cx} {x : XW} {tg e elt : Expr} {ef : Fr → Res (List PyData)} {g : Tg} {t : Fr → Res Bool} {f : Fr → Res AV} {is : List Nat} {pos : Pos} {ifs : List Expr} {scope : Scope} {own : List (Str × Nat)}
theorem lcF_read {σ : L2.St} {H : Hp} {Q : VK} (hsub : ∀ i ∈ is, i ∈ own.map (·.2)) (h : tE (pX X) x (xCompF (own.map (·.2)) ef g t f) σ H Q) :
    tLc (tI (pX X) x ef) (tG (pX X) is g) (tT (pX X) (xb x) t) (tE (pX X) (xb x) f) (own.map (·.2)) σ H Q := by
  obtain ⟨c, fr, ad, F, o⟩ := h
  refine ⟨c, fr, ad, F, (Out.bind F o).mono fun ys fr1 ad1 H1 F1 m1 o1 J qs hq wk D hD => ?_⟩
  by_cases hlen : ys.length ≤ 1000000
  rotate_left
  · rw [if_neg hlen] at o1; exact o1.elim
  rw [if_pos hlen] at o1
  have hDe := he_new F1 hD
  have gr1 : Grow H1 (upd H1 D (.lst [])) := Grow.new hD
  have F1h := (F1.plus hq).hold (vs := []) hD
  have Dad : some D ∉ ad1 := (F1h.pr D (List.mem_cons_self ..)).1
  generalize hown : own.map (·.2) = ow at *
  refine ⟨fun i m H => i ≤ ys.length ∧ m = ys.length - i ∧ ∃ (acc : List PyData) (cs : List Cell) (ad : List (Option Addr)) (vs : List V), FR (pX X) ((c.plus qs).hold D) ⟨fr1.vars, cs, fr1.base⟩ ad σ H ∧ H D = some (.lst vs) ∧ RepL X.K H (okP ((c.plus qs).hold D) ad) vs acc ∧ acc.length ≤ i ∧ Mv H1 ad1 H ad ∧
      (match compA ow g t f fr1.vars fr1.base (ys.drop i) acc cs with
        | some (r, cs') => ∀ ad' H' vs, FR (pX X) (c.hold D) ⟨fr1.vars, cs', fr1.base⟩ ad' σ H' → Mv H1 ad1 H' ad' → H' D = some (.lst vs) → RepL X.K H' (okP (c.hold D) ad') vs r → r.length ≤ 1000000 → Q (.ref D) H'
        | none => False), ⟨ys.length, Nat.zero_le _, by simp, [], fr1.cells, ad1, [], F1h, upd_same, .nil, Nat.le_refl _, Mv.grow gr1, ?_⟩, ?_⟩
  · rw [List.drop_zero]
    cases q : compA ow g t f fr1.vars fr1.base ys [] fr1.cells with
    | none => rw [q] at o1; exact o1.elim
    | some r =>
      obtain ⟨r, cs'⟩ := r
      rw [q] at o1
      intro ad' H' vs F' m' e' r' hl'
      have hDp : D ∉ c.prot := fun z => by
        obtain ⟨_, u, e⟩ := F1.pr D z
        rw [hD] at e; cases e
      have F2 := F'.adopt (cl := .lst r) hDe hDp ⟨vs, e', by rw [sizeLine_eq]; omega, r'⟩
      refine o1 _ _ F2 ⟨m'.keep, fun i y z => snoc_pre (m'.pre i y z), fun a h => ?_, m'.there⟩ _ ⟨D, rfl, by rw [F'.clen]; simp⟩
      rcases List.mem_append.mp h with h | h
      · exact m'.new a h
      · have e : a = D := by simpa using h
        exact .inr (by rw [e]; exact hD)
  · rintro i m H2 ⟨hi2, rfl, acc, cs, ad2, vs, F2, hD2, racc, hacc, m2, o2⟩
    by_cases hlt : i < ys.length
    · right
      have ey : ys[i]? = some ys[i] := by rw [List.getElem?_eq_getElem hlt]
      obtain ⟨h1, h2⟩ := wk.go _ H2 i _ (FR.ghs (c := c.hold D) ⟨F2.len, F2.var, F2.clen, F2.cel, F2.nd, F2.old, F2.sub, F2.adw, F2.gh, F2.pr, F2.bs⟩) ey
      refine ⟨h1, _, fun H' h => ⟨ys.length - (i + 1), by omega, hlt, rfl, h⟩, fun v H3 hy => ?_⟩
      obtain ⟨gr, rv⟩ := h2 v H3 hy
      rw [List.drop_eq_getElem_cons hlt] at o2
      unfold compA at o2
      have F3 := F2.grow gr
      have D3 := gr D _ hD2
      have r3 := racc.keep (gr.keep (ok := okP ((c.plus qs).hold D) ad2))
      cases q1 : g ys[i] ⟨kill ow fr1.vars, cs, fr1.base⟩ with
      | none => rw [q1] at o2; exact o2.elim
      | some fr4 =>
        rw [q1] at o2
        simp only at o2
        refine ⟨(c.plus qs).hold D, ⟨kill ow fr1.vars, cs, fr1.base⟩, ad2, _, fr4, F3.wipe ow, rv, q1, fun σ4 F4 oa => ⟨?_, (c.plus qs).hold D, fr4, ad2, F4, ?_⟩⟩
        · rw [oa ow hsub]
          exact wipe_sub fun _ h => h
        · cases q2 : t fr4 with
          | exc cl fs fr5 => rw [q2] at o2; exact o2.elim
          | err => rw [q2] at o2; exact o2.elim
          | ok b fr5 =>
            rw [q2] at o2
            simp only at o2
            intro ad5 H5 F5 m5
            have B5 := F3.back m5 F5
            have M5 : Mv H1 ad1 H5 ad5 := (m2.trans F1 (Mv.grow gr)).trans F1 m5
            have D5 := m5.keep D _ D3 (F3.pr D (List.mem_cons_self ..)).1
            have r5 := r3.keep (m5.kp F3)
            cases b with
            | false =>
              simp only [Bool.false_eq_true, if_false] at o2 ⊢
              exact ⟨acc, fr5.cells, ad5, vs, B5, D5, r5, by omega, M5, o2⟩
            | true =>
              simp only [if_true] at o2 ⊢
              refine ⟨(c.plus qs).hold D, fr5, ad5, F5, ?_⟩
              cases q3 : f fr5 with
              | exc cl fs fr6 => rw [q3] at o2; exact o2.elim
              | err => rw [q3] at o2; exact o2.elim
              | ok av fr6 =>
                rw [q3] at o2
                intro ad6 H6 F6 m6 w rw_
                cases av with
                | dat z =>
                  simp only at o2
                  have B6 := B5.back m6 F6
                  have M6 := M5.trans F1 m6
                  have D6 := m6.keep D _ D5 (B5.pr D (List.mem_cons_self ..)).1
                  have r6 := r5.keep (m6.kp B5)
                  have len := r6.length
                  obtain ⟨F7, k7⟩ := B6.fill hDe (ws := vs ++ [w]) D6
                  refine ⟨vs, D6, by rw [sizeLine_eq]; omega, acc ++ [z], fr6.cells, ad6, vs ++ [w], F7, upd_same, RepL.append (r6.keep k7) (.cons (Rep.keep k7 rw_) .nil), by simp; omega, ?_, o2⟩
                  refine ⟨fun b u e n => ?_, M6.pre, M6.new, fun b h => ?_⟩
                  · have nb : b ≠ D := fun z => by rw [z, hD] at e; cases e
                    rw [upd_ne nb]; exact M6.keep b u e n
                  · by_cases z : b = D
                    · subst z; rw [upd_same]; simp
                    · rw [upd_ne z]; exact M6.there b h
                | _ => exact o2.elim
    · have e1 : i = ys.length := by omega
      subst e1
      left
      refine ⟨wk.stop _ H2 (FR.ghs (c := c.hold D) ⟨F2.len, F2.var, F2.clen, F2.cel, F2.nd, F2.old, F2.sub, F2.adw, F2.gh, F2.pr, F2.bs⟩), ?_⟩
      rw [List.drop_length] at o2
      have o3 : ∀ ad' H' vs, FR (pX X) (c.hold D) ⟨fr1.vars, cs, fr1.base⟩ ad' σ H' → Mv H1 ad1 H' ad' → H' D = some (.lst vs) → RepL X.K H' (okP (c.hold D) ad') vs acc → acc.length ≤ 1000000 → Q (.ref D) H' := o2
      have F2' : FR (pX X) (c.hold D) ⟨fr1.vars, cs, fr1.base⟩ ad2 σ H2 := FR.less (qs := qs) ⟨F2.len, F2.var, F2.clen, F2.cel, F2.nd, F2.old, F2.sub, F2.adw, F2.gh, F2.pr, F2.bs⟩
      exact o3 ad2 H2 vs F2' m2 hD2 racc (by omega)
theorem ae_lcF (hc : X.calm = true) (hN : X.N.Nodup) (hi : AI X x tg e ef) (ok : BlkOk X.N X.env.scope scope own) (hg : Blk X scope fun Y => AG Y tg is g) (ht : Blk X scope fun Y => ATs Y (xb x) ifs t) (he : Blk X scope fun Y => AE Y (xb x) elt f)
    (hsub : ∀ i ∈ is, i ∈ own.map (·.2)) (hs : ∀ z, foldedSetIterable e X.env z = pure z := by intro _; rfl) : AE X x (.ListComp elt [⟨tg, e, ifs, 0⟩] scope pos) (xCompF (own.map (·.2)) ef g t f) :=
  (pe_lc hc hN hi ok hg ht he hs).imp fun σ H Q h => lcF_read hsub h
theorem as_setLcF {i : Nat} {n : Str} {p1 spos : Pos} (hc : X.calm = true) (hN : X.N.Nodup) (hy : X.N[i]? = some n) (hyl : X.env.scope.names.lookup n = some .local) (hsw : swapsWith (.ListComp elt [⟨tg, e, ifs, 0⟩] scope pos) (some (.Name n p1)) spos.line X.env = pure true)
    (hi : AI X x tg e ef) (ok : BlkOk X.N X.env.scope scope own) (hg : Blk X scope fun Y => AG Y tg is g) (ht : Blk X scope fun Y => ATs Y (xb x) ifs t) (he : Blk X scope fun Y => AE Y (xb x) elt f)
    (hsub : ∀ i ∈ is, i ∈ own.map (·.2)) (hs : ∀ z, foldedSetIterable e X.env z = pure z := by intro _; rfl) : AS X x (.Assign [.Name n p1] (.ListComp elt [⟨tg, e, ifs, 0⟩] scope pos) spos) (sSet i (xCompF (own.map (·.2)) ef g t f)) :=
  (ps_setLc hc hN hy hyl hsw hi ok hg ht he hs).imp fun D σ H ⟨c, fr, ad, F, o⟩ => lcF_read hsub ⟨c, fr, ad, F, (SOut.of F o).mono fun av fr1 ad1 H1 F1 m1 o1 v rv => o1 ad1 _ H1 (F1.setv rv)⟩
end

/-! ### calls with keyword-only arguments -/
@[simp] def xApp (g1 g2 : Fr → Res (List AV)) : Fr → Res (List AV) := fun fr => (g1 fr).bind fun as fr1 => (g2 fr1).bind fun bs fr2 => .ok (as ++ bs) fr2
@[simp] def noExc (m : AFun) : AFun := fun as cs => match m as cs with
  | .ok r cs' => .ok r cs'
  | _ => .err
theorem spF_noExc {p : Par} {C : CExc} {m : AFun} {n : Nat} {vs : List V} {H : Hp} {Q : VK} {E E' : XK} (h : spF p C (noExc m) n vs H Q E) : spF p C m n vs H Q E' := by
  obtain ⟨h1, S, W0, as, cells, h2, h3, h4, h5, h6⟩ := h
  refine ⟨h1, S, W0, as, cells, h2, h3, h4, h5, ?_⟩
  unfold noExc at h6
  cases q : m as cells with
  | ok r cs => rw [q] at h6; exact h6
  | exc c fs cs => rw [q] at h6; exact h6.elim
  | err => rw [q] at h6; exact h6.elim
theorem RepAs.mv {p : Par} {c : Ent} {fr : Fr} {ad ad' : List (Option Addr)} {σ : L2.St} {H H' : Hp} (F : FR p c fr ad σ H) (m : Mv H ad H' ad') {vs : List V} {as : List AV} (r : RepAs p H (okP c ad) ad vs as) : RepAs p H' (okP c ad') ad' vs as := by
  induction r with
  | nil => exact .nil
  | cons h _ ih => exact .cons (RepA.mv F m h) ih
theorem RepAs.app {p : Par} {H : Hp} {ok : Addr → Prop} {ad : List (Option Addr)} {vs ws : List V} {as bs : List AV} (r : RepAs p H ok ad vs as) (s : RepAs p H ok ad ws bs) : RepAs p H ok ad (vs ++ ws) (as ++ bs) := by
  induction r with
  | nil => exact s
  | cons h _ ih => exact .cons h ih
section
variable {X : Cx} {x : XW} {a d : Expr} {es : List Expr} {f : Fr → Res AV} {gs gs2 : Fr → Res (List AV)} {pos : Pos} {kws : List Keyword}
theorem tA_app {σ : L2.St} {H : Hp} {Q : List V → Hp → Prop} (h : tA (pX X) x (xApp gs gs2) σ H Q) : tA (pX X) x gs σ H fun vs H1 => tA (pX X) x gs2 σ H1 fun ws H2 => Q (vs ++ ws) H2 := by
  obtain ⟨c, fr, ad, F, o⟩ := h
  refine ⟨c, fr, ad, F, (Out.bind F o).mono fun as fr1 ad1 H1 F1 m1 o1 vs rvs => ?_⟩
  exact ⟨c, fr1, ad1, F1, (Out.bind F1 o1).mono fun bs fr2 ad2 H2 F2 m2 o2 ws rws => o2 ad2 H2 F2 Mv.refl _ ((RepAs.mv F1 m2 rvs).app rws)⟩
abbrev AK (X : Cx) (x : XW) (ks : List Keyword) (g : Fr → Res (List AV)) : Prop := PK X ks (tA (pX X) x g)
theorem ak_nil : AK X x [] xNil := ⟨fun pos pins s σ H Q I ⟨c, fr, ad, F, o⟩ => pk_nil.run pos pins s σ H Q I (o ad H F Mv.refl [] .nil)⟩
theorem ak_cons {nm : Option Str} {kpos : Pos} (ha : AE X x a f) (hr : AK X x kws gs) : AK X x (⟨nm, a, kpos⟩ :: kws) (xCons f gs) :=
  ⟨fun pos pins s σ H Q I ⟨c, fr, ad, F, o⟩ => (pk_cons ha hr).run pos pins s σ H Q I ⟨c, fr, ad, F, (Out.bind F o).mono fun av fr1 ad1 H1 F1 m1 o1 v rv => ⟨c, fr1, ad1, F1, (Out.bind F1 o1).mono fun as fr2 ad2 H2 F2 m2 o2 vs rvs => o2 ad2 H2 F2 Mv.refl _ (.cons (RepA.mv F1 m2 rv) rvs)⟩⟩⟩
/-- a def with one keyword-only parameter, its default a tuple -/
structure DefK (P : Program) (w : World) (K : PySem.W.Frag) (mg : Str → Option Value) (base : Heap) (CX : CXT) (C : CExc) (k : Nat) (n : Str) (np : Nat) (kn : Str) (dds : List PyData) (m : AFun) : Prop where
  ex : ∃ (f : Addr) (fd : FuncData) (ps : List Str), FnOk P w K mg base CX k f fd ps (spF ⟨P, w, K⟩ C m (np + 1)) ∧ mg n = some (.ref f) ∧ PySem.W.keepIn K (.ref f) = true ∧ KBn K fd ps np [kn] (fun us ws => us ++ ws) (fun vs zs => vs ++ zs) ∧
    ∃ (A : Addr) (dvs : List V) (ds : List Value), Vals [V.ref A] ds ∧ Binds K fd ps ds ∧ (∀ H, SqT K H A dvs) ∧ ∀ H ok, RepL K H ok dvs dds
theorem run_kwN {CX : CXT} {k n : Nat} {f0 : Addr} {fd : FuncData} {ps ks : List Str} {sp : Sp} {g : List Value → List Value → List Value} {gV : List V → List V → List V} {E : XK} (hE : Passes CX X E) (F : FnOk X.prog X.w X.K X.mg X.base CX k f0 fd ps sp) (hr : Room k X.A) (n1 : Str) {p1 : Pos} (hg : Gl X n1) (hm : X.mg n1 = some (.ref f0)) (hk : PySem.W.keepIn X.K (.ref f0) = true) (hb : KBn X.K fd ps n ks g gV)
    {t tk : TA} (ha : PA X (a :: es) t) (hkw : PK X kws tk) (hall : (backToKw pos (keywordEach kws X.env)).all (·.1.isSome) = true) (hks : (backToKw pos (keywordEach kws X.env)).filterMap (·.1) = ks)
    (hdb : (n1 == ("__debug__" : Str)) = false) (he : starEach (a :: es) X.env = (false, eval a X.env) :: starEach es X.env) (hpl : ((backTo pos (starEach (a :: es) X.env)).any (·.1) || (backToKw pos (keywordEach kws X.env)).any (·.1.isNone)) = false) :
    PE X (.Call (.Name n1 p1) (a :: es) kws pos) (tCallN n ks.length sp gV E t tk) := pe_callN F hr hg hm hk hb hE ha hkw hall hks hdb he hpl
theorem ae_callK {CX : CXT} {k j : Nat} {n kn : Str} {m : AFun} {dds : List PyData} {p1 : Pos} {np : Nat} (hE : Passes CX X fun _ _ _ => False) (D : DefK X.prog X.w X.K X.mg X.base CX x.C k n np kn dds m) (hr : Room j X.A) (hk : k ≤ j) (hg : Gl X n) (ha : AA X x (a :: es) gs) (hn : ∀ fr as fr', gs fr = .ok as fr' → as.length = np) (hkw : AK X x kws gs2) (hn2 : ∀ fr as fr', gs2 fr = .ok as fr' → as.length = 1)
    (hall : (backToKw pos (keywordEach kws X.env)).all (·.1.isSome) = true := by rfl) (hks : (backToKw pos (keywordEach kws X.env)).filterMap (·.1) = [kn] := by rfl)
    (hdb : (n == ("__debug__" : Str)) = false := by decide) (he : starEach (a :: es) X.env = (false, eval a X.env) :: starEach es X.env := by rfl) (hpl : ((backTo pos (starEach (a :: es) X.env)).any (·.1) || (backToKw pos (keywordEach kws X.env)).any (·.1.isNone)) = false := by rfl) :
    AE X x (.Call (.Name n p1) (a :: es) kws pos) (xCall (noExc m) (xApp gs gs2)) := by
  obtain ⟨f0, fd, ps, F, hm, kp, b, _⟩ := D.ex
  refine (run_kwN hE F (hr.mono hk) n hg hm kp b ha hkw hall hks hdb he hpl).imp fun σ H Q h => ?_
  have hlen : ∀ fr as fr', xApp gs gs2 fr = .ok as fr' → as.length = np + 1 := fun fr as fr' e => by
    unfold xApp at e
    cases q1 : gs fr with
    | ok as1 fr1 =>
      rw [q1] at e
      simp only [Res.bind] at e
      cases q2 : gs2 fr1 with
      | ok as2 fr2 =>
        rw [q2] at e
        cases e
        rw [List.length_append, hn _ _ _ q1, hn2 _ _ _ q2]
      | exc c fs f2 => rw [q2] at e; cases e
      | err => rw [q2] at e; cases e
    | exc c fs f2 => rw [q1] at e; cases e
    | err => rw [q1] at e; cases e
  have z := tA_app (tE_call hlen h)
  unfold tCallN
  obtain ⟨c, fr, ad, F0, o⟩ := z
  refine ⟨c, fr, ad, F0, ?_⟩
  have oo := o
  cases q1 : gs fr with
  | exc cl fs fr1 => rw [q1] at oo; exact oo
  | err => rw [q1] at oo; exact oo
  | ok as fr1 =>
    rw [q1] at oo
    intro ad1 H1 F1 m1 vs rvs
    have l1 : vs.length = np := (Paired.length rvs).trans (hn _ _ _ q1)
    obtain ⟨c2, fr2, ad2, F2, o2⟩ := oo ad1 H1 F1 m1 vs rvs
    refine ⟨c2, fr2, ad2, F2, ?_⟩
    cases q2 : gs2 fr2 with
    | exc cl fs fr3 => rw [q2] at o2; exact o2
    | err => rw [q2] at o2; exact o2
    | ok bs fr3 =>
      rw [q2] at o2
      intro ad3 H3 F3 m3 ws rws
      exact ⟨l1, (Paired.length rws).trans (hn2 _ _ _ q2), spF_noExc (o2 ad3 H3 F3 m3 ws rws)⟩
/-- .. the default taken -/
theorem ae_callD {CX : CXT} {k j : Nat} {n kn : Str} {m : AFun} {dds : List PyData} {p1 : Pos} {np : Nat} (hE : ∀ σ, PassesAt CX X σ fun _ _ _ => False) (D : DefK X.prog X.w X.K X.mg X.base CX x.C k n np kn dds m) (hr : Room j X.A) (hk : k ≤ j) (hg : Gl X n) (ha : AA X x (a :: es) gs) (hn : ∀ fr as fr', gs fr = .ok as fr' → as.length = np) (hz : dds.length ≤ 1000 := by decide)
    (hdb : (n == ("__debug__" : Str)) = false := by decide) (he : starEach (a :: es) X.env = (false, eval a X.env) :: starEach es X.env := by rfl) (hpl : (backTo pos (starEach es X.env)).any (·.1) = false := by rfl) :
    AE X x (.Call (.Name n p1) (a :: es) [] pos) (xCall (noExc m) (xApp gs (xCons (xC (.tuple dds)) xNil))) := by
  obtain ⟨f0, fd, ps, F, hm, kp, _, A, dvs, ds, rd, b, hT, hR⟩ := D.ex
  refine (pe_callSD F (hr.mono hk) hg hm kp b rd (E := fun _ _ _ _ => False) hE ha hdb he hpl).imp fun σ H Q h => ?_
  have hlen : ∀ fr as fr', xApp gs (xCons (xC (.tuple dds)) xNil) fr = .ok as fr' → as.length = np + 1 := fun fr as fr' e => by
    unfold xApp at e
    cases q1 : gs fr with
    | ok as1 fr1 =>
      rw [q1] at e
      simp only [Res.bind, xCons, xC, xNil] at e
      cases e
      rw [List.length_append, hn _ _ _ q1]; rfl
    | exc c fs f2 => rw [q1] at e; cases e
    | err => rw [q1] at e; cases e
  have z := tA_app (tE_call hlen h)
  unfold tCallSD
  obtain ⟨c, fr, ad, F0, o⟩ := z
  refine ⟨c, fr, ad, F0, o.mono fun as fr1 ad1 H1 F1 m1 o1 vs rvs => ?_⟩
  obtain ⟨c2, fr2, ad2, F2, o2⟩ := o1 vs rvs
  have o3 := o2 ad2 H1 F2 Mv.refl [V.ref A] (.cons (Rep.tup (hT H1) (by rw [sizeLine_eq]; omega) (hR H1 _)) .nil)
  exact spF_noExc o3
theorem passK0 : Passes CX0 X fun _ _ _ => False := fun _ _ _ _ _ _ _ z => z.elim
theorem passD0 : ∀ σ, PassesAt CX0 X σ fun _ _ _ => False := fun _ _ _ _ _ _ _ z => z.elim
end
theorem len1 {f : Fr → Res AV} : ∀ fr as fr', xCons f xNil fr = .ok as fr' → as.length = 1 := fun fr as fr' e => by
  unfold xCons xNil at e
  cases q : f fr with
  | ok a f1 => rw [q] at e; cases e; rfl
  | exc c fs f1 => rw [q] at e; cases e
  | err => rw [q] at e; cases e
theorem kbn0 {K : PySem.W.Frag} {n0 qual : Str} {params : Arguments} {body : List Stmt} {scope : Scope} {kws : List (Str × V)} {f0 : Addr} {fd : FuncData} {ps ks : List Str} {n : Nat} (F : FunD K n0 qual params body scope [] kws f0 fd)
    (h : ∀ (kV doc pm : Value) (an : Option Addr) (cdv ct : Value) (us ws : List Value), us.length = n → ws.length = ks.length → bindArgs (PySem.W.fnOf n0 qual params body scope .none kV doc pm an cdv ct) ⟨us, ks.zip ws⟩ = pure (ps.zip (us ++ ws))) : KBn K fd ps n ks (fun us ws => us ++ ws) (fun vs zs => vs ++ zs) := by
  obtain ⟨oc, od, dV, kV, doc, pm, an, cdv, ct, osl, rfl, lk, hcd, hD, hK⟩ := F.ex
  rcases hD with ⟨_, rfl⟩ | ⟨e, _⟩
  · exact ⟨fun s us ws X l1 l2 => .of_eq (h kV doc pm an cdv ct us ws l1 l2), fun r1 r2 => r1.append r2⟩
  · exact absurd rfl e
end G
/-! HA: {k: v}; sums, greatest ones, int of a truth. -/
namespace G
open PySem PySem.Spec PyProof.Rows L2

/-! ### {k: v} -/
@[simp] def xDisp1 (fk fv : Fr → Res AV) : Fr → Res AV := fun fr => (fk fr).bind fun a fr1 => (fv fr1).bind fun b fr2 => match a, b with
  | .dat k, .dat v => if kOk false k = true then .ok (.dct false [(k, v)]) fr2 else .err
  | _, _ => .err
@[simp] def xDisp1F (fk fv : Fr → Res AV) : Fr → Res AV := fun fr => (fk fr).bind fun a fr1 => (fv fr1).bind fun b fr2 => match a, b with
  | .dat k, .dat v => if kOk false k = true then .ok (.cel fr2.cells.length) (fr2.newc (.dct false [(k, v)])) else .err
  | _, _ => .err
section
variable {X : Cx} {x : XW} {kx vx : Expr} {fk fv : Fr → Res AV} {pos : Pos}
theorem disp_read (fresh : Bool) {σ : L2.St} {H : Hp} {Q : VK} (h : tE (pX X) x (if fresh = true then xDisp1F fk fv else xDisp1 fk fv) σ H Q) : tDisp [(tE (pX X) x fk, tE (pX X) x fv)] σ H Q := by
  obtain ⟨c, fr, ad, F, o⟩ := h
  intro D hD
  have gr : Grow H (upd H D (.dK [])) := Grow.new hD
  have F0 := F.holdO (o0 := .dK []) hD
  have hDe := he_new F hD
  have hDp : D ∉ c.prot := fun z => by
    obtain ⟨_, u, e⟩ := F.pr D z
    rw [hD] at e; cases e
  have er : (if fresh = true then xDisp1F fk fv else xDisp1 fk fv) fr = (fk fr).bind fun a fr1 => (fv fr1).bind fun b fr2 => match a, b with
      | .dat k, .dat v => if kOk false k = true then (if fresh = true then .ok (.cel fr2.cells.length) (fr2.newc (.dct false [(k, v)])) else .ok (.dct false [(k, v)]) fr2) else .err
      | _, _ => .err := by
    cases fresh <;> rfl
  rw [er] at o
  refine ⟨c.hold D, fr, ad, F0, ?_⟩
  cases q1 : fk fr with
  | err => rw [q1] at o; exact o
  | exc cl fs fr1 => rw [q1] at o; exact fun ad' H' C d F' m' hx => o ad' H' C d F'.unhold ((Mv.grow gr).trans F m') hx
  | ok a fr1 =>
    rw [q1] at o
    simp only [Res.bind] at o
    intro ad1 H1 F1 m1 v rv
    have M1 : Mv H ad H1 ad1 := (Mv.grow gr).trans F m1
    refine ⟨c.hold D, fr1, ad1, F1, ?_⟩
    cases q2 : fv fr1 with
    | err => rw [q2] at o; exact o
    | exc cl fs fr2 => rw [q2] at o; exact fun ad' H' C d F' m' hx => o ad' H' C d F'.unhold (M1.trans F m') hx
    | ok b fr2 =>
      rw [q2] at o
      intro ad2 H2 F2 m2 w rw_
      have M2 : Mv H ad H2 ad2 := M1.trans F m2
      cases a with
      | dat k =>
        cases b with
        | dat y =>
          simp only at o
          by_cases hk : kOk false k = true
          rotate_left
          · rw [if_neg hk] at o; exact o.elim
          rw [if_pos hk] at o
          have D1 : H1 D = some (.dK []) := m1.keep D _ upd_same (F0.pr D (List.mem_cons_self ..)).1
          have D2 := m2.keep D _ D1 (F1.pr D (List.mem_cons_self ..)).1
          have rk : Rep X.K H2 (okP (c.hold D) ad2) v k := RepA.mv F1 m2 rv
          obtain ⟨n, rfl⟩ := kOk_f hk
          obtain ⟨z1, z2⟩ := rep_key rk
          obtain ⟨F3, k3⟩ := F2.fillK hDe (ks' := mergeK [] [(n, w)]) D2
          have M3 : Mv H ad (upd H2 D (.dK (mergeK [] [(n, w)]))) ad2 := by
            refine ⟨fun b u e n => ?_, M2.pre, M2.new, fun b h => ?_⟩
            · have nb : b ≠ D := fun z => by rw [z, hD] at e; cases e
              rw [upd_ne nb]; exact M2.keep b u e n
            · by_cases z : b = D
              · subst z; rw [upd_same]; simp
              · rw [upd_ne z]; exact M2.there b h
          have pr : Paired (PrF (pX X) (upd H2 D (.dK (mergeK [] [(n, w)]))) (okP (c.hold D) ad2)) [(n, w)] [(keyD n, y)] := .cons ⟨rfl, z2, Rep.keep k3 rw_⟩ .nil
          refine ⟨D2, [(n, w)], by rw [z1]; rfl, by simp, ?_⟩
          cases fresh with
          | true =>
            have F4 := F3.adopt (cl := .dct false [(keyD n, y)]) hDe hDp ⟨_, upd_same, pr⟩
            refine o _ _ F4 ⟨M3.keep, fun i y z => snoc_pre (M3.pre i y z), fun a h => ?_, M3.there⟩ _ ⟨D, rfl, by rw [F3.clen]; simp⟩
            rcases List.mem_append.mp h with h | h
            · exact M3.new a h
            · have e : a = D := by simpa using h
              exact .inr (by rw [e]; exact hD)
          | false =>
            exact o _ _ F3.unhold M3 _ ⟨D, rfl, ⟨⟨.inl hDe, hDp⟩, (F3.pr D (List.mem_cons_self ..)).1⟩, _, upd_same, Paired.mapP pr fun _ _ ⟨z1, z2, z3⟩ => ⟨z1, z2, z3.mono okP_hold⟩⟩
        | _ => exact o.elim
      | _ => cases b <;> exact o.elim
theorem ae_disp1 {a d : Expr} (ha : AE X x a fk) (hd : AE X x d fv) : AE X x (.Dict [some a] [d] pos) (xDisp1 fk fv) :=
  (pe_disp (pps_cons ha hd pps_nil) rfl rfl (by simp) (by simp)).imp fun σ H Q h => disp_read false (by simpa only [Bool.false_eq_true, if_false] using h)
theorem ae_disp1F {a d : Expr} (ha : AE X x a fk) (hd : AE X x d fv) : AE X x (.Dict [some a] [d] pos) (xDisp1F fk fv) :=
  (pe_disp (pps_cons ha hd pps_nil) rfl rfl (by simp) (by simp)).imp fun σ H Q h => disp_read true (by simpa only [if_true] using h)
end

/-! ### sums, the greatest, int of a truth -/
def intsD : List PyData → Option (List Int)
  | [] => some []
  | .int i :: ds => match intsD ds with
    | some is => some (i :: is)
    | none => none
  | _ :: _ => none
theorem ints_rep {K : PySem.W.Frag} {H : Hp} {ok : Addr → Prop} : ∀ {vs : List V} {ds : List PyData} {is : List Int}, RepL K H ok vs ds → intsD ds = some is → vs = is.map V.int
  | _, _, _, .nil, e => by cases e; rfl
  | _, .int i :: ds, _, .cons r rs, e => by
    unfold intsD at e
    cases q : intsD ds with
    | none => rw [q] at e; cases e
    | some is' =>
      rw [q] at e
      cases e
      rw [RepB.int (.inl r), ints_rep rs q]; rfl
  | _, .none :: _, _, .cons _ _, e => by cases e
  | _, .bool _ :: _, _, .cons _ _, e => by cases e
  | _, .str _ :: _, _, .cons _ _, e => by cases e
  | _, .list _ :: _, _, .cons _ _, e => by cases e
  | _, .tuple _ :: _, _, .cons _ _, e => by cases e
  | _, .dict _ :: _, _, .cons _ _, e => by cases e
def dSum : List PyData → Option PyData
  | [.list ds] => match intsD ds with
    | some is => some (.int is.sum)
    | none => none
  | _ => none
def maxI : List Int → Int
  | [] => 0
  | [i] => i
  | i :: is => max i (maxI is)
theorem maxI_spec : ∀ {is : List Int}, is ≠ [] → maxI is ∈ is ∧ ∀ j ∈ is, j ≤ maxI is
  | [], h => absurd rfl h
  | [i], _ => ⟨by simp [maxI], fun j hj => by simp at hj; subst hj; simp [maxI]⟩
  | i :: k :: is, _ => by
    obtain ⟨h1, h2⟩ := maxI_spec (is := k :: is) (by simp)
    have e : maxI (i :: k :: is) = max i (maxI (k :: is)) := rfl
    rw [e]
    refine ⟨?_, fun j hj => ?_⟩
    · rcases Int.le_total i (maxI (k :: is)) with h | h
      · rw [Int.max_eq_right h]; exact List.mem_cons_of_mem _ h1
      · rw [Int.max_eq_left h]; exact List.mem_cons_self ..
    · rcases List.mem_cons.mp hj with rfl | hj
      · exact Int.le_max_left ..
      · exact Int.le_trans (h2 j hj) (Int.le_max_right ..)
def dMaxL : List PyData → Option PyData
  | [.list ds] => match intsD ds with
    | some [] => none
    | some is => some (.int (maxI is))
    | none => none
  | _ => none
def dInt : List PyData → Option PyData
  | [.bool b] => some (.int (if b then 1 else 0))
  | [.int i] => some (.int i)
  | _ => none
section
variable {X : Cx}
theorem c_sum (hc : X.calm = true) : CallR X (.builtin "sum") (rCall X.K dSum) := by
  intro pins s σ H xs us Q I rx ⟨ok, ds, r, hok, hx, e, q⟩
  match ds, e with
  | [.list ds], e =>
    simp only [dSum] at e
    cases q1 : intsD ds with
    | none => rw [q1] at e; cases e
    | some is =>
      rw [q1] at e
      cases e
      obtain ⟨v, rfl, h⟩ := hx.one
      obtain ⟨l, ys, rfl, h1, z1, r1⟩ := h.list
      rw [ints_rep r1 q1] at h1
      exact cr_sum hc pins s σ H _ us Q I rx ⟨l, is, rfl, h1, q _ H Grow.refl (.int _)⟩
theorem c_maxL (hc : X.calm = true) : CallR X (.builtin "max") (rCall X.K dMaxL) := by
  intro pins s σ H xs us Q I rx ⟨ok, ds, r, hok, hx, e, q⟩
  match ds, e with
  | [.list ds], e =>
    simp only [dMaxL] at e
    cases q1 : intsD ds with
    | none => rw [q1] at e; cases e
    | some is =>
      rw [q1] at e
      obtain ⟨v, rfl, h⟩ := hx.one
      obtain ⟨l, ys, rfl, h1, z1, r1⟩ := h.list
      rw [ints_rep r1 q1] at h1
      cases is with
      | nil => cases e
      | cons i is =>
        cases e
        obtain ⟨m1, m2⟩ := maxI_spec (is := i :: is) (by simp)
        refine cr_max hc pins s σ H _ us Q I rx ⟨l, i :: is, rfl, h1, by simp, fun m hm hle => ?_⟩
        have : m = maxI (i :: is) := Int.le_antisymm (m2 m hm) (hle _ m1)
        rw [this]
        exact q _ H Grow.refl (.int _)
theorem c_int : CallR X (.type "int") (rCall X.K dInt) := by
  intro pins s σ H xs us Q I rx ⟨ok, ds, r, hok, hx, e, q⟩
  match ds, e with
  | [.bool b], e =>
    cases e
    obtain ⟨v, rfl, h⟩ := hx.one
    cases h.bool
    exact call_int1 pins s σ H _ us Q I rx (.inr ⟨b, rfl, q _ H Grow.refl (.int _)⟩)
  | [.int i], e =>
    cases e
    obtain ⟨v, rfl, h⟩ := hx.one
    cases h.int
    exact call_int1 pins s σ H _ us Q I rx (.inl ⟨i, rfl, q _ H Grow.refl (.int _)⟩)
end
end G
/-! HB: walks over the signs of a text; one text within another. -/
namespace G
open PySem PySem.Spec PyProof.Rows L2
/-- the signs of a text -/
def signs (s : Str) : List PyData := s.cps.toList.map fun c => .str ⟨#[c]⟩
def Itx (s : Str) : It := ⟨fun i _ => i < s.cps.size, fun i H x H' => H' = H ∧ ∃ c, s.cps[i]? = some c ∧ x = .str ⟨#[c]⟩, fun i _ => s.cps.size ≤ i⟩
theorem turn_textA {P : Program} {w : World} {K : PySem.W.Frag} {tg : Expr} (x : Str) (t : Tok) (it : Addr) : Turn P w K tg (Itx x) [it] it (fun i h => h.IsStrIter it "str_ascii_iterator" x t i) where
  mem := by simp
  obj := fun i h st b hb => by
    have e : b = it := by simpa using hb
    subst e
    obtain ⟨o, e, c, d⟩ := st
    exact ⟨o, e, fun v z => by rw [d] at z; cases z⟩
  keep := fun i h h' st k => let ⟨o, ho, r⟩ := st; ⟨o, k it (by simp) o ho, r⟩
  item := by
    intro X hP hw hK hc i pins s σ H E I hf st hg
    subst hP hw hK
    obtain ⟨f0, f1, f2, f3, f4, f5⟩ := hf it (by simp)
    have hgi : i < x.cps.size := hg
    have hx : x.cps[i]? = some x.cps[i] := Array.getElem?_eq_getElem hgi
    refine wpAny_pyNext_ascii_item st hx fun h' st' sb => ?_
    have I1 : Inv X pins σ H { s with heap := h', toks := s.toks + 1 } := I.turned (t' := s.toks + 1) (fun b o hb e => (sb.2 b hb).trans e) f0 f1 f3 f4 f5
    obtain ⟨o, e, c, d⟩ := id st'
    exact ⟨_, rfl, go_of (s := { s with heap := h', toks := s.toks + 1 }) e c d (by decide) ⟨.str ⟨#[x.cps[i]]⟩, H, I1, ⟨_, rfl⟩, ⟨rfl, _, hx, rfl⟩, st', fun b hb => (hf b hb).1⟩⟩
  done := by
    intro X hP hw hK hc i pins s σ H E I hf st hg
    subst hP hw hK
    obtain ⟨f0, f1, f2, f3, f4, f5⟩ := hf it (by simp)
    have hx : x.cps[i]? = none := by simp; exact hg
    exact wpAny_pyNext_ascii_end (I.ok.hd hc) st hx fun h' eb => ⟨rfl, I.turned (t' := s.toks) (fun b o hb e => eb b o hb e) f0 f1 f3 f4 f5⟩
  self := fun _ _ _ _ _ st h => wpAny_pyIter_striter_ascii st h
theorem turn_textW {P : Program} {w : World} {K : PySem.W.Frag} {tg : Expr} (x : Str) (t : Tok) (it : Addr) : Turn P w K tg (Itx x) [it] it (fun i h => h.IsStrIter it "str_iterator" x t i) where
  mem := by simp
  obj := fun i h st b hb => by
    have e : b = it := by simpa using hb
    subst e
    obtain ⟨o, e, c, d⟩ := st
    exact ⟨o, e, fun v z => by rw [d] at z; cases z⟩
  keep := fun i h h' st k => let ⟨o, ho, r⟩ := st; ⟨o, k it (by simp) o ho, r⟩
  item := by
    intro X hP hw hK hc i pins s σ H E I hf st hg
    subst hP hw hK
    obtain ⟨f0, f1, f2, f3, f4, f5⟩ := hf it (by simp)
    have hgi : i < x.cps.size := hg
    have hx : x.cps[i]? = some x.cps[i] := Array.getElem?_eq_getElem hgi
    refine wpAny_pyNext_wide_item st hx fun h' st' sb => ?_
    have I1 : Inv X pins σ H { s with heap := h', toks := s.toks + 1 } := I.turned (t' := s.toks + 1) (fun b o hb e => (sb.2 b hb).trans e) f0 f1 f3 f4 f5
    obtain ⟨o, e, c, d⟩ := id st'
    exact ⟨_, rfl, go_of (s := { s with heap := h', toks := s.toks + 1 }) e c d (by decide) ⟨.str ⟨#[x.cps[i]]⟩, H, I1, ⟨_, rfl⟩, ⟨rfl, _, hx, rfl⟩, st', fun b hb => (hf b hb).1⟩⟩
  done := by
    intro X hP hw hK hc i pins s σ H E I hf st hg
    subst hP hw hK
    obtain ⟨f0, f1, f2, f3, f4, f5⟩ := hf it (by simp)
    have hx : x.cps[i]? = none := by simp; exact hg
    exact wpAny_pyNext_wide_end (I.ok.hd hc) st hx fun h' eb => ⟨rfl, I.turned (t' := s.toks) (fun b o hb e => eb b o hb e) f0 f1 f3 f4 f5⟩
  self := fun _ _ _ _ _ st h => wpAny_pyIter_striter_wide st h
theorem wk_text {p : Par} {s : Str} (hs : PyData.strOk s = true) : Wk p (Itx s) [] (signs s) where
  go := fun ok H i y hq e => by
    unfold signs at e
    rw [List.getElem?_map] at e
    cases q : s.cps.toList[i]? with
    | none => rw [q] at e; cases e
    | some c =>
      rw [q] at e; cases e
      have q' : s.cps[i]? = some c := by rw [← Array.getElem?_toList]; exact q
      have hi : i < s.cps.size := (Array.getElem?_eq_some_iff.mp q').1
      refine ⟨hi, fun v H' ⟨h1, c', h2, h3⟩ => ?_⟩
      rw [q'] at h2; cases h2
      subst h1 h3
      refine ⟨Grow.refl, .str _ ?_⟩
      unfold PyData.strOk at hs ⊢
      rw [Array.all_eq_true_iff_forall_mem] at hs ⊢
      intro z hz
      have : z = c := by simpa using hz
      subst this
      exact hs _ (Array.mem_of_getElem? q')
  stop := fun ok H hq => by
    show s.cps.size ≤ (signs s).length
    simp [signs]
@[simp] def xSigns (f : Fr → Res AV) : Fr → Res (List PyData) := fun fr => (f fr).bind fun a fr1 => match a with
  | .dat (.str s) => .ok (signs s) fr1
  | _ => .err
section
variable {X : Cx} {x : XW} {tg e : Expr} {f : Fr → Res AV}
theorem it_text {pins : List (Addr × Obj)} {σ : L2.St} {H : Hp} {s1 : Shared} {R : It → Hp → Prop} {s : Str} {t : Tok} (I : Inv X pins σ H s1) (q : R (Itx s) H) : wpAny (model X.prog X.w) X.A (pyIter (.str s t)) (PIE X pins σ tg R) X.xe s1 := by
  have hn := I.hok.fresh (Nat.le_refl s1.heap.objs.size)
  cases ha : s.cps.all (· < 128)
  · refine wpAny_pyIter_wide ha ⟨s1.heap.objs.size, [s1.heap.objs.size], _, _, H, rfl, I.kept (t' := s1.toks) fun b o z => Heap.get?_push_of_some _ z, turn_textW s t _, ⟨_, Heap.get?_push_size _ rfl, rfl, rfl⟩, fun b hb => ?_, q⟩
    cases List.mem_singleton.mp hb
    exact I.fpOk (Nat.le_refl _) hn
  · refine wpAny_pyIter_ascii ha ⟨s1.heap.objs.size, [s1.heap.objs.size], _, _, H, rfl, I.kept (t' := s1.toks) fun b o z => Heap.get?_push_of_some _ z, turn_textA s t _, ⟨_, Heap.get?_push_size _ rfl, rfl, rfl⟩, fun b hb => ?_, q⟩
    cases List.mem_singleton.mp hb
    exact I.fpOk (Nat.le_refl _) hn
/-- a text, sign by sign -/
theorem ai_signs (ha : AE X x e f) : AI X x tg e (xSigns f) := by
  refine ⟨fun pins s σ H R I h => ?_⟩
  obtain ⟨c, fr, ad, F, o⟩ := h
  have h2 : tE (pX X) x f σ H fun v H1 => ∃ c fr1 ad1 av, FR (pX X) c fr1 ad1 σ H1 ∧ RepA (pX X) H1 (okP c ad1) ad1 v av ∧ (match av with
      | .dat (.str ys) => ∀ J qs, (∀ q ∈ qs, isDat q.2 = true ∧ RepA (pX X) H1 (okP c ad1) ad1 q.1 q.2) → Wk (pX X) J qs (signs ys) → R J H1
      | _ => False) := by
    refine ⟨c, fr, ad, F, (Out.bind F o).mono fun av fr1 ad1 H1 F1 m1 o1 v rv => ⟨c, fr1, ad1, av, F1, rv, ?_⟩⟩
    cases av with
    | dat y =>
      cases y with
      | str ys => exact o1 ad1 H1 F1 Mv.refl
      | _ => exact o1.elim
    | _ => exact o1.elim
  refine thn (ha.run pins s σ H _ I h2) fun u s1 hq => ?_
  obtain ⟨v, H1, I1, r1, c1, fr1, ad1, av, F1, rv, q⟩ := hq
  cases av with
  | dat y =>
    cases y with
    | str ys =>
      obtain ⟨rfl, hs⟩ := RepB.str (.inl rv)
      obtain ⟨t, rfl⟩ := r1
      exact it_text I1 (q _ [] (fun z hz => nomatch hz) (wk_text hs))
    | _ => exact q.elim
  | _ => exact q.elim
end
/-! ### one text within another -/
def dInS : PyData → PyData → Option PyData
  | .str a, .str b => some (.bool (!(Builtin.Str.occurrences b a 0 b.length 1).isEmpty))
  | _, _ => none
section
variable {X : Cx}
theorem o_inS : OpR X (compareOp .In) (rOp2 X.K dInS) := by
  intro pins s σ H xv yv v u Q I rx ry ⟨ok, dx, dy, r, hok, hx, hy, e, q⟩
  cases dx with
  | str a =>
    cases dy with
    | str b =>
      cases e
      obtain ⟨rfl, _⟩ := RepB.str hx
      obtain ⟨rfl, _⟩ := RepB.str hy
      exact op_in_str pins s σ H _ _ v u Q I rx ry ⟨a, b, rfl, rfl, q _ H Grow.refl (.bl _)⟩
    | _ => cases e
  | _ => cases e
end
end G
/-! HC: the greatest of a list with a default; the greatest value of a dict. -/
namespace G
open PySem PySem.Spec PyProof.Rows L2
/-! ### max(xs, default=d) -/
def dMaxDf : List PyData → Option PyData
  | [.list ds, .int d] => match intsD ds with
    | some [] => some (.int d)
    | some is => some (.int (maxI is))
    | none => none
  | _ => none
def rMaxDf (K : PySem.W.Frag) : List V → List V → Hp → VK → Prop := fun vs zs H Q => ∃ v u, vs = [v] ∧ zs = [u] ∧ rCall K dMaxDf [v, u] H Q
theorem fold_max (n : Int) : ∀ is : List Int, (is.foldl max n) ∈ n :: is ∧ ∀ j ∈ n :: is, j ≤ is.foldl max n := by
  intro is
  induction is generalizing n with
  | nil => simp
  | cons i is ih =>
    obtain ⟨h1, h2⟩ := ih (max n i)
    rw [List.foldl_cons]
    refine ⟨?_, fun j hj => ?_⟩
    · rcases List.mem_cons.mp h1 with e | e
      · rw [e]
        rcases Int.le_total n i with q | q
        · rw [Int.max_eq_right q]; simp
        · rw [Int.max_eq_left q]; simp
      · exact List.mem_cons_of_mem _ (List.mem_cons_of_mem _ e)
    · have hm := h2 (max n i) (List.mem_cons_self ..)
      rcases List.mem_cons.mp hj with rfl | hj
      · have := Int.le_max_left j i; omega
      · rcases List.mem_cons.mp hj with rfl | hj
        · have := Int.le_max_right n j; omega
        · exact h2 j (List.mem_cons_of_mem _ hj)
section
variable {X : Cx}
theorem cK_maxDf (hc : X.calm = true) (hu : X.A.units + 64 < cLine) : CallRK X (.builtin "max") [Str.ofString "default"] (rMaxDf X.K) := by
  intro pins s σ H vs zs us ws Q I r rz h
  obtain ⟨v, u, rfl, rfl, ok, ds, res, hok, hx, e, q⟩ := h
  match ds, hx, e with
  | [.list ds, .int d], .cons hl (.cons hd .nil), e =>
    simp only [dMaxDf] at e
    cases q1 : intsD ds with
    | none => rw [q1] at e; cases e
    | some is =>
      rw [q1] at e
      obtain ⟨l, ys, rfl, h1, z1, r1⟩ := hl.list
      rw [ints_rep r1 q1] at h1
      cases hd.int
      obtain ⟨its, rv, hli, _⟩ := I.list h1
      rw [Vals.ref1 r]
      obtain ⟨w0, rfl, e1⟩ := vals1 rz
      obtain ⟨t0, rfl⟩ := e1
      have hra := PyProof.Rows.ints_readAll s.heap rv.ints
      have hdep : ∀ l : List Int, PyData.depthAll (l.map PyData.int) ≤ 1 := by
        intro l
        induction l with
        | nil => simp [PyData.depthAll]
        | cons i l ih => simp [PyData.depthAll, PyData.depth]; omega
      have := hdep is
      refine PySem.W.max_list_default (I.ok.hd hc) hli.isList hra ⟨fun a ha b hb => ?_, fun a ha => ?_⟩ (by omega) (fun h0 h' tk hk => ?_) fun y ys i v h' tk bs hxs hv hrd hk => ?_
      · obtain ⟨i, _, rfl⟩ := List.mem_map.mp ha
        obtain ⟨j, _, rfl⟩ := List.mem_map.mp hb
        rfl
      · obtain ⟨i, _, rfl⟩ := List.mem_map.mp ha
        intro z; cases z
      · have : is = [] := List.map_eq_nil_iff.mp h0
        subst this
        cases e
        exact ⟨.int d, H, I.kept (t' := tk) hk, ⟨_, rfl⟩, q _ H Grow.refl (.int _)⟩
      · cases is with
        | nil => cases hxs
        | cons i0 is =>
          cases hxs
          cases e
          rw [PySem.W.maxD_ints] at hrd
          obtain ⟨t, rfl⟩ : ∃ t, v = .int (is.foldl max i0) t := by
            cases hrd; exact ⟨_, rfl⟩
          obtain ⟨m1, m2⟩ := maxI_spec (is := i0 :: is) (by simp)
          obtain ⟨g1, g2⟩ := fold_max i0 is
          have : is.foldl max i0 = maxI (i0 :: is) := Int.le_antisymm (m2 _ g1) (g2 _ m1)
          rw [this]
          exact ⟨.int _, H, I.kept (t' := tk) hk, ⟨_, rfl⟩, q _ H Grow.refl (.int _)⟩
end
section
variable {X : Cx} {x : XW} {a d : Expr} {f g : Fr → Res AV} {pos : Pos}
theorem tA_head {gs : Fr → Res (List AV)} {σ : L2.St} {H : Hp} {Q : List V → Hp → Prop} (h : tA (pX X) x (xCons f gs) σ H Q) : tE (pX X) x f σ H fun v H1 => tA (pX X) x gs σ H1 fun vs H2 => Q (v :: vs) H2 := by
  obtain ⟨c, fr, ad, F, o⟩ := h
  refine ⟨c, fr, ad, F, (Out.bind F o).mono fun av fr1 ad1 H1 F1 m1 o1 v rv => ⟨c, fr1, ad1, F1, (Out.bind F1 o1).mono fun as fr2 ad2 H2 F2 m2 o2 vs rvs => ?_⟩⟩
  exact o2 ad2 H2 F2 Mv.refl _ (.cons (RepA.mv F1 m2 rv) rvs)
theorem tA_none {σ : L2.St} {H : Hp} {Q : List V → Hp → Prop} (h : tA (pX X) x xNil σ H Q) : Q [] H := by
  obtain ⟨c, fr, ad, F, o⟩ := h
  exact o ad H F Mv.refl [] .nil
/-- max(xs, default=d) -/
theorem ae_maxDf {n : Str} {p1 kpos : Pos} (hc : X.calm = true) (hu : X.A.units + 64 < cLine) (hg : Gl X n) (hm : X.mg n = none) (hv : bootBuiltins n = some (.builtin "max")) (ha : AE X x a f) (hd : AE X x d g)
    (hn : n ≠ "__name__" := by decide) (hdb : (n == ("__debug__" : Str)) = false := by decide)
    (he : backTo pos (starEach [a] X.env) = (false, eval a X.env) :: backTo pos (starEach [] X.env) := by rfl) (hpl : (backTo pos (starEach [a] X.env)).any (·.1) = false := by rfl)
    (hs : starEach [a] X.env = (false, eval a X.env) :: starEach [] X.env := by rfl)
    (hall : (backToKw pos (keywordEach [⟨some (Str.ofString "default"), d, kpos⟩] X.env)).all (·.1.isSome) = true := by rfl) (hnone : (backToKw pos (keywordEach [⟨some (Str.ofString "default"), d, kpos⟩] X.env)).any (·.1.isNone) = false := by rfl) (hks : (backToKw pos (keywordEach [⟨some (Str.ofString "default"), d, kpos⟩] X.env)).filterMap (·.1) = [Str.ofString "default"] := by rfl) :
    AE X x (.Call (.Name n p1) [a] [⟨some (Str.ofString "default"), d, kpos⟩] pos) (xB1 dMaxDf (xCons f (xCons g xNil))) := by
  refine (pe_callBK (cK_maxDf hc hu) hg hm hv (pa_cons ha pa_nil hs) (pk_cons hd pk_nil) hn hdb he hpl hall hnone hks).imp fun σ H Q h => ?_
  have h1 := tA_head (tA_call h)
  obtain ⟨c, fr, ad, F, o⟩ := h1
  refine ⟨c, fr, ad, F, o.mono fun av fr1 ad1 H1 F1 m1 o1 v rv => ?_⟩
  obtain ⟨c2, fr2, ad2, F2, o2⟩ := tA_head (o1 v rv)
  refine ⟨c2, fr2, ad2, F2, o2.mono fun bv fr3 ad3 H3 F3 m3 o3 u ru => ?_⟩
  exact ⟨v, u, rfl, rfl, tA_none (o3 u ru)⟩
end
/-! ### max(d.values()) -/
def dMaxV (kvs : List (PyData × PyData)) : Option PyData := match intsD (kvs.map (·.2)) with
  | some [] => none
  | some is => some (.int (maxI is))
  | none => none
theorem intsD_eq : ∀ {ds : List PyData} {is : List Int}, intsD ds = some is → ds = is.map .int
  | [], _, e => by cases e; rfl
  | .int i :: ds, is, e => by
    unfold intsD at e
    cases q : intsD ds with
    | none => rw [q] at e; cases e
    | some js => rw [q] at e; cases e; rw [intsD_eq q]; rfl
  | .none :: _, _, e => by cases e
  | .bool _ :: _, _, e => by cases e
  | .str _ :: _, _, e => by cases e
  | .list _ :: _, _, e => by cases e
  | .tuple _ :: _, _, e => by cases e
  | .dict _ :: _, _, e => by cases e
def rCV (X : Cx) (sem : List (PyData × PyData) → Option PyData) : List V → Hp → VK → Prop := fun xs H Q => ∃ (ok : Addr → Prop) (p l : Addr) (tp : Bool) (kvs : List (PyData × PyData)) (r : PyData), (∀ p, H p = none → ok p) ∧ xs = [.ref p] ∧ H p = some (L2.viewO "dict_values" p l) ∧ DctAt (pX X) H ok l tp kvs ∧ sem kvs = some r ∧ ∀ v H', Grow H H' → Rep X.K H' ok v r → Q v H'
section
variable {prog : Program} {w : World} {A : Around} {E : Value → Shared → Prop} {s : Shared}
theorem values_call {l : Addr} {es : Array DictEntry} {ep : Nat} {Q : Value → Shared → Prop} (lo : (l == sysModules) = false) (rw_ : s.heap.DictRaw l es ep) (q : Q (.ref s.heap.objs.size) { s with heap := s.heap.push (DSub.viewOb "dict_values" l) }) : wpAny (model prog w) A (call (.builtin "dict.values") [.ref l]) Q E s := by
  obtain ⟨o, ho, hx, hd⟩ := id rw_
  have ty : s.TypeIs (.ref l) "dict" := ⟨o, ho, hx.1⟩
  refine call_meetsIn (S := fun A' R s' => s'.TypeIs (.ref l) "dict" ∧ R (.ok (.ret (.ref s'.heap.objs.size))) { s' with heap := s'.heap.push (DSub.viewOb "dict_values" l) }) PySem.F.slot_dict_values ty PySem.F.entry_dict_values (PySem.F.args_dict_values_1 _) (.of_wp fun A' R s' ⟨t, h⟩ => ?_) ⟨ty, q⟩
  show wpAny _ _ (Builtin.Dict.noArgs "values" ⟨[.ref l], []⟩ >>= _) _ _ s'
  unfold Builtin.Dict.noArgs
  refine wpAny_bind (wpAny_bind (wpAny_notOrdered_dict t ?_))
  refine wpAny_pure ?_
  show wpAny _ _ (Builtin.Dict.showsAll l >>= _) _ _ s'
  unfold Builtin.Dict.showsAll
  rw [if_neg (by rw [lo]; exact Bool.false_ne_true)]
  exact wpAny_bind (wpAny_pure (wpAny_bind (wpAny_newObj_type (wpAny_pure ⟨_, rfl, h⟩))))
end
section
variable {X : Cx} {x : XW} {a : Expr} {f : Fr → Res AV} {pos : Pos}
theorem c_maxV (hc : X.calm = true) : CallR X (.builtin "max") (rCV X dMaxV) := by
  intro pins s σ H xs us Q I rx ⟨ok, p, l, tp, kvs, r, hok, exs, hp, hd, e, q⟩
  subst exs
  rw [Vals.ref1 rx]
  obtain ⟨es, ep, D⟩ := dct_raw I hd
  obtain ⟨o, ho, hx, hdat⟩ := id D.raw
  have view : s.heap.get? p = some (DSub.viewOb "dict_values" l) := (show ObjOk X.prog X.w H s.heap p (L2.viewO "dict_values" p l) from I.hok p _ hp).1
  unfold dMaxV at e
  cases q1 : intsD (kvs.map (·.2)) with
  | none => rw [q1] at e; cases e
  | some is =>
    rw [q1] at e
    have hk := intsD_eq q1
    have hkl : kvs.length = is.length := by
      have z := congrArg List.length hk
      rwa [List.length_map, List.length_map] at z
    have hsz : es.size = is.length := D.len.trans hkl
    cases is with
    | nil => cases e
    | cons i0 is0 =>
      cases e
      generalize hns : i0 :: is0 = ns at *
      have hpos : 0 < ns.length := by rw [← hns]; simp
      have each : ∀ (i : Nat) (en : DictEntry), es[i]? = some en → ∃ t, en.val = .int (ns.getD i 0) t := fun i en he => by
        obtain ⟨kv, h1, _, v, _, _, h2, h3⟩ := D.at_ i en he
        have h4 : (kvs.map (·.2))[i]? = some kv.2 := by rw [List.getElem?_map, h1]; rfl
        rw [hk, List.getElem?_map] at h4
        cases q3 : ns[i]? with
        | none => rw [q3] at h4; cases h4
        | some j =>
          rw [q3] at h4
          have h5 : kv.2 = .int j := (Option.some.inj h4).symm
          rw [h5] at h3
          cases h3
          obtain ⟨t, h6⟩ := h2
          refine ⟨t, ?_⟩
          rw [h6, List.getD_eq_getElem?_getD, q3]; rfl
      refine call_max_walk (DSub.iter_vals view ho hdat ?_)
      have hlt : l < s.heap.objs.size := Heap.lt_size ho
      refine ⟨s.heap.objs.size, [s.heap.objs.size, l], [s.heap.objs.size], es.size, fun i v => ∃ t, v = .int (ns.getD i 0) t, _, fun i j => decide (ns.getD i 0 > ns.getD j 0), rfl, DSub.walksVal (a := l) (show X.A.in1.handled = none from I.ok.hd hc) (Nat.ne_of_lt hlt) hdat each, ⟨Heap.get?_push_size _ rfl, Heap.get?_push_of_some _ ho⟩, fun b hb => ?_, by omega, CmpOf.ints_gt (fun i => ns.getD i 0) (fun i v z => z), fun v h' tk hv hkeep => ?_⟩
      · show b < (s.heap.push _).objs.size
        rw [size_push']
        rcases List.mem_cons.mp hb with z | z
        · rw [z]; exact Nat.lt_succ_self _
        · rw [List.mem_singleton.mp z]; exact Nat.lt_succ_of_lt hlt
      · obtain ⟨t, rfl⟩ := hv
        obtain ⟨m1, m2⟩ := argBest_gt (fun i => ns.getD i 0) (es.size - 1)
        have old : ∀ b o, s.heap.get? b = some o → h'.get? b = some o := fun b o e => hkeep b o (fun z => by rw [List.mem_singleton.mp z] at e; exact absurd (Heap.lt_size e) (Nat.lt_irrefl _)) (Heap.get?_push_of_some _ e)
        obtain ⟨x1, x2⟩ := maxI_spec (is := ns) (fun z => by rw [z] at hpos; cases hpos)
        have top : ns.getD (argBest (fun i j => decide (ns.getD i 0 > ns.getD j 0)) (es.size - 1)) 0 = maxI ns := by
          refine Int.le_antisymm (x2 _ (PySem.getD_mem (by omega))) ?_
          obtain ⟨j, hj, e⟩ := List.mem_iff_getElem.mp x1
          have z := m2 j (by omega)
          have e3 : ns.getD j 0 = maxI ns := by rw [List.getD_eq_getElem?_getD, List.getElem?_eq_getElem hj, ← e]; rfl
          rw [← e3]
          exact z
        rw [top]
        exact ⟨.int _, H, I.kept (t' := tk) old, ⟨_, rfl⟩, q _ H Grow.refl (.int _)⟩
def tVals (X : Cx) (td : TE) : TE := fun σ H Q => td σ H fun v H1 => ∃ (ok : Addr → Prop) (l : Addr) (tp : Bool) (kvs : List (PyData × PyData)), v = .ref l ∧ DctAt (pX X) H1 ok l tp kvs ∧ ∀ p, H1 p = none → Q (.ref p) (upd H1 p (L2.viewO "dict_values" p l))
theorem pe_vals {td : TE} {p1 : Pos} (ho : PE X a td) (hbase : attributeBase a "values" X.env (eval a X.env) = eval a X.env := by rfl) (hline : (p1.endLine == pos.line) = true := by rfl) : PE X (.Call (.Attribute a "values" p1) [] [] pos) (tVals X td) := by
  refine ⟨fun pins s σ H Q I h => ?_⟩
  refine wpAny_Call_method0_late hbase hline (thn (ho.run pins s σ H _ I h) fun v s1 ⟨y, H1, I1, r1, ok, l, tp, kvs, e, hd, q⟩ => ?_)
  subst e
  cases r1
  refine ⟨"dict", "dict.values", PySem.F.plainAttrs_dict, PySem.F.slot_dict_values, PySem.F.type_dict_values, dct_ty I1 hd, fun b0 e0 => by cases e0; exact dct_nod I1 hd, Calls.callWith_builtin rfl (PySem.evalArgs_none ?_)⟩
  obtain ⟨es, ep, D⟩ := dct_raw I1 hd
  exact values_call (es := es) (ep := ep) D.lo D.raw ⟨.ref s1.heap.objs.size, upd H1 s1.heap.objs.size (L2.viewO "dict_values" s1.heap.objs.size l), I1.laid (t' := s1.toks) (fun b u e => Heap.get?_push_of_some _ e) (Nat.le_refl _) (viewO_ok (Heap.get?_push_size _ rfl)), rfl, q _ (I1.hok.fresh (Nat.le_refl _))⟩
theorem tA_DV {sem : List (PyData × PyData) → Option PyData} {σ : L2.St} {H : Hp} {Q : VK} (hh : tE (pX X) x (xD1 sem f) σ H Q) : tCons (tVals X (tE (pX X) x f)) tNil σ H fun vs H1 => rCV X sem vs H1 Q := by
  obtain ⟨c, fr, ad, F, o⟩ := hh
  refine ⟨c, fr, ad, F, (Out.bind F o).mono fun av fr1 ad1 H1 F1 m1 o1 v rv => ?_⟩
  cases q1 : fr1.dview av with
  | none => rw [q1] at o1; exact o1.elim
  | some z =>
    obtain ⟨tp, kvs⟩ := z
    rw [q1] at o1
    simp only [ofO] at o1
    cases q3 : sem kvs with
    | none => rw [q3] at o1; exact o1.elim
    | some r =>
      rw [q3] at o1
      obtain ⟨l, rfl, dd⟩ := dview_rep F1 rv q1
      refine ⟨okP c ad1, l, tp, kvs, rfl, dd, fun p hp => ?_⟩
      have gr : Grow H1 (upd H1 p (L2.viewO "dict_values" p l)) := Grow.new hp
      exact ⟨okP c ad1, p, l, tp, kvs, r, fun b hb => okP_new (F1.grow gr) hb, rfl, upd_same, dd.keep gr.keep (fun o e => gr _ o e), q3, fun w H3 g3 rw_ => o1 ad1 H3 ((F1.grow gr).grow g3) (Mv.grow fun b o e => g3 b o (gr b o e)) w rw_⟩
/-- max(d.values()) -/
theorem ae_callBV {id : String} {n : Str} {sem : List (PyData × PyData) → Option PyData} {p1 p2 p3 : Pos} (hc : CallR X (.builtin id) (rCV X sem)) (hg : Gl X n) (hm : X.mg n = none) (hv : bootBuiltins n = some (.builtin id)) (ha : AE X x a f)
    (hbase : attributeBase a "values" X.env (eval a X.env) = eval a X.env := by rfl) (hline : (p2.endLine == p3.line) = true := by rfl)
    (hn : n ≠ "__name__" := by decide) (hdb : (n == ("__debug__" : Str)) = false := by decide) (he : starEach [.Call (.Attribute a "values" p2) [] [] p3] X.env = (false, eval (.Call (.Attribute a "values" p2) [] [] p3) X.env) :: starEach [] X.env := by rfl) (hpl : (backTo pos (starEach [] X.env)).any (·.1) = false := by rfl) :
    AE X x (.Call (.Name n p1) [.Call (.Attribute a "values" p2) [] [] p3] [] pos) (xD1 sem f) :=
  (pe_callB hc hg hm hv (pa_cons (pe_vals ha hbase hline) pa_nil he) hn hdb he hpl).imp fun _ _ _ h => tA_DV h
end
end G
/-! HD: a list of one's own made longer by a new one. -/
namespace G
open PySem PySem.Spec PyProof.Rows L2
/-- name += a new list -/
@[simp] def sExt (i : Nat) (f : Fr → Res AV) : Fr → SRes := fun fr => match fr.vars[i]? with
  | some (some (.cel k)) => (match fr.cells[k]? with
    | some (.lst _) => (f fr).toS fun a fr1 => (match a with
      | .cel j => (match fr1.cells[k]?, fr1.cells[j]? with
        | some (.lst xs), some (.lst zs) => if xs.length + zs.length ≤ 1000000 then .nx (((fr1.putc k (.lst (xs ++ zs))).setv i (some (.cel k))).gc) else .err
        | _, _ => .err)
      | _ => .err)
    | _ => .err)
  | _ => .err
section
variable {X : Cx} {x : XW} {a : Expr} {f : Fr → Res AV} {pos : Pos}
theorem as_ext {i : Nat} {n : Str} {p1 : Pos} (hN : X.N.Nodup) (hi : X.N[i]? = some n) (hx : Loc X.env.scope n) (ha : AE X x a f)
    (hf : X.fn n = true ∨ X.env.scope.names.lookup n = some .local := by first | exact .inl rfl | exact .inr rfl | assumption) : AS X x (.AugAssign (.Name n p1) .Add a pos) (sExt i f) := by
  have hp : PIp X .Add rExt2 := fun pins s σ H xv yv v u Q I r1 r2 h => iop_ext pins s σ H xv yv v u Q I r1 r2 h
  refine (ps_aug hN hi hx ha hp hf).imp fun D σ H ⟨c, fr, ad, F, o⟩ => ?_
  unfold sExt at o
  cases q : fr.vars[i]? with
  | none => rw [q] at o; exact o.elim
  | some w =>
    rw [q] at o
    cases w with
    | none => exact o.elim
    | some av =>
      obtain ⟨v, h1, h2⟩ := F.var i av q
      cases av with
      | cel k =>
        obtain ⟨l, rfl, hl⟩ := h2
        simp only at o
        cases qc : fr.cells[k]? with
        | none => rw [qc] at o; exact o.elim
        | some cl =>
          rw [qc] at o
          cases cl with
          | lst ds =>
            simp only at o
            refine ⟨_, h1, c, fr, ad, F, (SOut.of F o).mono fun av2 fr1 ad1 H1 F1 m1 o1 w2 rw_ => ?_⟩
            cases av2 with
            | cel j =>
              obtain ⟨b, rfl, hb⟩ := rw_
              simp only at o1
              have e3 := m1.pre k _ hl
              cases q2 : fr1.cells[k]? with
              | none => rw [q2] at o1; exact o1.elim
              | some c1 =>
                cases q3 : fr1.cells[j]? with
                | none => rw [q2, q3] at o1; cases c1 <;> exact o1.elim
                | some c2 =>
                  rw [q2, q3] at o1
                  cases c1 with
                  | lst xs =>
                    cases c2 with
                    | lst zs =>
                      simp only at o1
                      split at o1
                      · rename_i hz
                        obtain ⟨vs, g1, g2, g3⟩ := cell_lst F1 e3 q2
                        obtain ⟨us, g4, g5, g6⟩ := cell_lst F1 hb q3
                        have hz2 : vs.length + us.length ≤ sizeLine := by rw [g3.length, g6.length, sizeLine_eq]; omega
                        refine ⟨l, b, vs, us, rfl, rfl, g1, g4, hz2, ?_⟩
                        have kk : Keep H1 (upd H1 l (.lst (vs ++ us))) (okP c ad1) (okP c ad1) := wr_k (List.mem_of_getElem? e3) g1
                        have F2 := F1.putc e3 (wr_t (o := .lst (vs ++ us)) g1) (cl := .lst (xs ++ zs)) ⟨vs ++ us, upd_same, by rw [List.length_append, sizeLine_eq]; omega, RepL.append (g3.keep kk) (g6.keep kk)⟩
                        have F3 := F2.setv (i := i) (v := .ref l) (a := .cel k) ⟨l, rfl, e3⟩
                        obtain ⟨ad4, F4⟩ := F3.gc
                        exact o1 ad4 _ _ F4
                      · exact o1.elim
                    | _ => exact o1.elim
                  | _ => cases c2 <;> exact o1.elim
            | _ => exact o1.elim
          | _ => exact o.elim
      | _ => exact o.elim
end
end G
/-! MA: reading mirrors. -/
namespace G
open PySem PySem.Spec PyProof.Rows L2

theorem forA_inv {g : Tg} {b : Fr → SRes} (P : List PyData → Fr → Prop) : ∀ (ys done : List PyData) (fr : Fr), P done fr →
    (∀ done y fr, y ∈ ys → P done fr → ∃ fr1 fr2, g y fr = some fr1 ∧ (b fr1 = .nx fr2 ∨ b fr1 = .ct fr2) ∧ P (done ++ [y]) fr2) → ∃ fr', forA g b ys fr = .nx fr' ∧ P (done ++ ys) fr'
  | [], done, fr, h, _ => ⟨fr, rfl, by rw [List.append_nil]; exact h⟩
  | y :: ys, done, fr, h, st => by
    obtain ⟨fr1, fr2, h1, h2, h3⟩ := st done y fr (List.mem_cons_self ..) h
    obtain ⟨fr', h4, h5⟩ := forA_inv P ys (done ++ [y]) fr2 h3 fun d z f hz => st d z f (List.mem_cons_of_mem _ hz)
    refine ⟨fr', ?_, by rw [List.append_assoc] at h5; exact h5⟩
    unfold forA
    rw [h1]
    rcases h2 with h2 | h2 <;> simp only [h2] <;> exact h4
theorem compA_pure {own : List Nat} {g : Tg} {t : Fr → Res Bool} {f : Fr → Res AV} {vars : List (Option AV)} {bs : Nat} {cs : List Cell} (p : PyData → Bool) (h : PyData → PyData) : ∀ (ys acc : List PyData),
    (∀ y ∈ ys, ∃ fr1 fr2, g y ⟨kill own vars, cs, bs⟩ = some fr1 ∧ t fr1 = .ok (p y) fr2 ∧ fr2.cells = cs ∧ (p y = true → ∃ fr3, f fr2 = .ok (.dat (h y)) fr3 ∧ fr3.cells = cs)) → compA own g t f vars bs ys acc cs = some (acc ++ (ys.filter p).map h, cs)
  | [], acc, _ => by simp [compA]
  | y :: ys, acc, st => by
    obtain ⟨fr1, fr2, h1, h2, h3, h4⟩ := st y (List.mem_cons_self ..)
    have ih := fun acc => compA_pure p h ys acc fun z hz => st z (List.mem_cons_of_mem _ hz)
    unfold compA
    rw [h1]
    simp only [h2]
    cases q : p y with
    | false =>
      simp only [Bool.false_eq_true, if_false]
      rw [h3, ih, List.filter_cons_of_neg (by rw [q]; decide)]
    | true =>
      obtain ⟨fr3, h5, h6⟩ := h4 q
      simp only [if_true, h5]
      rw [h6, ih, List.filter_cons_of_pos q, List.map_cons, List.append_assoc]
      rfl
theorem compA_inv {own : List Nat} {g : Tg} {t : Fr → Res Bool} {f : Fr → Res AV} {vars : List (Option AV)} {bs : Nat} (J : List PyData → List PyData → List Cell → Prop) : ∀ (ys done acc : List PyData) (cs : List Cell), J done acc cs →
    (∀ done y acc cs, y ∈ ys → J done acc cs → ∃ fr1 b fr2, g y ⟨kill own vars, cs, bs⟩ = some fr1 ∧ t fr1 = .ok b fr2 ∧ (b = false → J (done ++ [y]) acc fr2.cells) ∧ (b = true → ∃ z fr3, f fr2 = .ok (.dat z) fr3 ∧ J (done ++ [y]) (acc ++ [z]) fr3.cells)) →
    ∃ acc' cs', compA own g t f vars bs ys acc cs = some (acc', cs') ∧ J (done ++ ys) acc' cs'
  | [], done, acc, cs, h, _ => ⟨acc, cs, rfl, by rw [List.append_nil]; exact h⟩
  | y :: ys, done, acc, cs, h, st => by
    obtain ⟨fr1, b, fr2, h1, h2, h3, h4⟩ := st done y acc cs (List.mem_cons_self ..) h
    unfold compA
    rw [h1]
    simp only [h2]
    cases b with
    | false =>
      simp only [Bool.false_eq_true, if_false]
      obtain ⟨a', c', z1, z2⟩ := compA_inv J ys (done ++ [y]) acc fr2.cells (h3 rfl) fun d z a c hz => st d z a c (List.mem_cons_of_mem _ hz)
      exact ⟨a', c', z1, by rw [List.append_assoc] at z2; exact z2⟩
    | true =>
      obtain ⟨z, fr3, h5, h6⟩ := h4 rfl
      simp only [if_true, h5]
      obtain ⟨a', c', z1, z2⟩ := compA_inv J ys (done ++ [y]) (acc ++ [z]) fr3.cells h6 fun d z a c hz => st d z a c (List.mem_cons_of_mem _ hz)
      exact ⟨a', c', z1, by rw [List.append_assoc] at z2; exact z2⟩

theorem forA_all {g : Tg} {b : Fr → SRes} (P : List PyData → Fr → Prop) (ys : List PyData) (fr : Fr) (h0 : P [] fr)
    (st : ∀ done y rest fr, ys = done ++ y :: rest → P done fr → ∃ fr1 fr2, g y fr = some fr1 ∧ (b fr1 = .nx fr2 ∨ b fr1 = .ct fr2) ∧ P (done ++ [y]) fr2) : ∃ fr', forA g b ys fr = .nx fr' ∧ P ys fr' := by
  have go : ∀ (zs done : List PyData) (fr : Fr), ys = done ++ zs → P done fr → ∃ fr', forA g b zs fr = .nx fr' ∧ P ys fr' := by
    intro zs
    induction zs with
    | nil => intro done fr e h; exact ⟨fr, rfl, by rw [e, List.append_nil]; exact h⟩
    | cons y zs ih =>
      intro done fr e h
      obtain ⟨fr1, fr2, h1, h2, h3⟩ := st done y zs fr e h
      obtain ⟨fr', h4, h5⟩ := ih (done ++ [y]) fr2 (by rw [e]; simp) h3
      refine ⟨fr', ?_, h5⟩
      unfold forA
      rw [h1]
      rcases h2 with h2 | h2 <;> simp only [h2] <;> exact h4
  exact go ys [] fr rfl h0
theorem compA_all {own : List Nat} {g : Tg} {t : Fr → Res Bool} {f : Fr → Res AV} {vars : List (Option AV)} {bs : Nat} (J : List PyData → List PyData → List Cell → Prop) (ys : List PyData) (cs : List Cell) (h0 : J [] [] cs)
    (st : ∀ done y rest acc cs, ys = done ++ y :: rest → J done acc cs → ∃ fr1 b fr2, g y ⟨kill own vars, cs, bs⟩ = some fr1 ∧ t fr1 = .ok b fr2 ∧ (b = false → J (done ++ [y]) acc fr2.cells) ∧ (b = true → ∃ z fr3, f fr2 = .ok (.dat z) fr3 ∧ J (done ++ [y]) (acc ++ [z]) fr3.cells)) :
    ∃ acc' cs', compA own g t f vars bs ys [] cs = some (acc', cs') ∧ J ys acc' cs' := by
  have go : ∀ (zs done acc : List PyData) (cs : List Cell), ys = done ++ zs → J done acc cs → ∃ acc' cs', compA own g t f vars bs zs acc cs = some (acc', cs') ∧ J ys acc' cs' := by
    intro zs
    induction zs with
    | nil => intro done acc cs e h; exact ⟨acc, cs, rfl, by rw [e, List.append_nil]; exact h⟩
    | cons y zs ih =>
      intro done acc cs e h
      obtain ⟨fr1, b, fr2, h1, h2, h3, h4⟩ := st done y zs acc cs e h
      unfold compA
      rw [h1]
      simp only [h2]
      cases b with
      | false =>
        simp only [Bool.false_eq_true, if_false]
        exact ih (done ++ [y]) acc fr2.cells (by rw [e]; simp) (h3 rfl)
      | true =>
        simp only [if_true]
        obtain ⟨z, fr3, h5, h6⟩ := h4 rfl
        simp only [h5]
        exact ih (done ++ [y]) (acc ++ [z]) fr3.cells (by rw [e]; simp) h6
  exact go ys [] [] cs rfl h0

/-! ### numbers -/
theorem mulOk_of {i j : Int} (hi : i.natAbs < 2 ^ 1000) (hj : j.natAbs < 2 ^ 1000) : mulOk i j = true := by
  unfold mulOk
  refine decide_eq_true ?_
  have h1 : i.natAbs.log2 ≤ 1000 := by
    by_cases h : i.natAbs = 0
    · rw [h]; simp
    · exact Nat.le_of_lt ((Nat.log2_lt h).mpr hi)
  have h2 : j.natAbs.log2 ≤ 1000 := by
    by_cases h : j.natAbs = 0
    · rw [h]; simp
    · exact Nat.le_of_lt ((Nat.log2_lt h).mpr hj)
  show i.natAbs.log2 + j.natAbs.log2 < 1000000
  omega
theorem powOk_of {i : Int} {j : Nat} (hi : i.natAbs < 2 ^ 64) (hj : j ≤ 1000) : powOk i j = true := by
  unfold powOk
  refine decide_eq_true ⟨by omega, by omega, hi⟩
theorem divOk_of {j : Int} (h0 : 0 < j) (hj : j.natAbs < 2 ^ 1000) : divOk j = true := by
  unfold divOk
  refine decide_eq_true ⟨h0, ?_⟩
  have := (Nat.log2_lt (n := j.natAbs) (k := 1000) (by omega)).mpr hj
  omega
theorem two_pow_le {n : Nat} {i : Int} (h : i.natAbs < 2 ^ 64) : i.natAbs < 2 ^ 1000 := Nat.lt_of_lt_of_le h (Nat.pow_le_pow_right (by decide) (by decide))
end G
/-! MB: what the laws draw. -/
namespace G
open PySem PySem.Spec PyProof.Rows L2
def b__law_deck : Fr → SRes :=
  sSeq (sIf (xB (xOp2 dGe (xVar 0) (xOp2 dPow (xC (.int 10)) (xC (.int 18))))) (sRet (xLst (xCons (xOp2 dSub (xVar 0) (xOp2 dPow (xC (.int 10)) (xC (.int 18)))) (xCons (xOp2 dMod (xVar 0) (xC (.int 2147483579))) (xCons (xVar 1) (xNil)))))) (sNx))
  (sRet (xLst (xCons (xC (.int 0)) (xCons (xOp2 dMod (xVar 0) (xC (.int 2147483579))) (xCons (xVar 1) (xNil))))))
def m__law_deck : AFun := mkFun 2 2 b__law_deck

def b__law_pick : Fr → SRes :=
  sSeq (sIf (xB (xOp2 dGt (xIx (xVar 0) (xC (.int 0))) (xC (.int 1)))) (sSeq (sSet 2 (xOp2 dMod (xIx (xVar 0) (xC (.int 0))) (xVar 1)))
  (sSeq (sSetIx 0 (xC (.int 0)) (xOp2 dFdiv (xIx (xVar 0) (xC (.int 0))) (xVar 1)))
  (sRet (xVar 2)))) (sNx))
  (sSeq (sSetIx 0 (xC (.int 2)) (xOp2 dAdd (xIx (xVar 0) (xC (.int 2))) (xC (.int 1))))
  (sSeq (sSet 3 (xOp2 dMod (xOp2 dPow (xOp2 dAdd (xIx (xVar 0) (xC (.int 1))) (xOp2 dMul (xC (.int 15485867)) (xIx (xVar 0) (xC (.int 2))))) (xC (.int 5))) (xC (.int 2147483647))))
  (sSeq (sSet 2 (xOp2 dFdiv (xOp2 dMod (xOp2 dPow (xOp2 dAdd (xVar 3) (xOp2 dMul (xC (.int 7919)) (xIx (xVar 0) (xC (.int 2))))) (xC (.int 3))) (xC (.int 2147483629))) (xC (.int 32))))
  (sRet (xOp2 dMod (xVar 2) (xVar 1))))))
def m__law_pick : AFun := mkFun 4 2 b__law_pick

def b__law_one : Fr → SRes :=
  sRet (xIx (xVar 1) (xCall m__law_pick (xCons (xVar 0) (xCons (xB1 dLen (xCons (xVar 1) (xNil))) (xNil)))))
def m__law_one : AFun := mkFun 2 2 b__law_one

def b__law_frac_t1 : Fr → Res Bool :=
  xB (xOp2 dGt (xVar 3) (xC (.int 0)))
def b__law_frac_l1 : Fr → SRes :=
  sKill [4] (sSeq (sSet 4 (xOp2 dMod (xVar 2) (xVar 3)))
  (sSeq (sSet 2 (xVar 3))
  (sSet 3 (xVar 4))))
def b__law_frac : Fr → SRes :=
  sSeq (sPar 2 3 (xCons (xB1 dAbs (xCons (xVar 0) (xNil))) (xCons (xB1 dAbs (xCons (xVar 1) (xNil))) (xNil))))
  (sSeq (sWh (b__law_frac_t1) (b__law_frac_l1) (fun fr => natOf 3 fr + 2))
  (sKill [3, 4] (sRet (xTup (xCons (xOp2 dFdiv (xVar 0) (xVar 2)) (xCons (xOp2 dFdiv (xVar 1) (xVar 2)) (xNil)))))))
def m__law_frac : AFun := mkFun 5 2 b__law_frac

def b__law_amount : Fr → SRes :=
  sRet (xCall m__law_frac (xCons (xOp2 dAdd (xC (.int 1)) (xCall m__law_pick (xCons (xVar 0) (xCons (xC (.int 40)) (xNil))))) (xCons (xCall m__law_one (xCons (xVar 0) (xCons (xLst (xCons (xC (.int 1)) (xCons (xC (.int 1)) (xCons (xC (.int 2)) (xCons (xC (.int 3)) (xCons (xC (.int 7)) (xNil))))))) (xNil)))) (xNil))))
def m__law_amount : AFun := mkFun 1 1 b__law_amount

def b__law_marks_t1 : Fr → Res Bool :=
  xB (xOp2 dEq (xCall m__law_pick (xCons (xVar 0) (xCons (xVar 1) (xNil)))) (xC (.int 0)))
def b__law_marks_e1 : Fr → Res AV :=
  xVar 3
def b__law_marks : Fr → SRes :=
  sSeq (sSet 2 (xLst (xCons (xC (.str "dairy")) (xCons (xC (.str "egg")) (xCons (xC (.str "gluten")) (xCons (xC (.str "nuts")) (xNil)))))))
  (sRet (xB1 dTuple (xCons (xComp [3] (xItems (xVar 2)) (tName 3) (b__law_marks_t1) (b__law_marks_e1)) (xNil))))
def m__law_marks : AFun := mkFun 4 2 b__law_marks

def b__law_goods_l1 : Fr → SRes :=
  sKill [3] (sSeq (sSet 3 (xCall m__law_one (xCons (xVar 0) (xCons (xLst (xCons (xC (.int 0)) (xCons (xC (.int 1)) (xCons (xC (.int 3)) (xCons (xC (.int 30)) (xNil)))))) (xNil)))))
  (sApp 1 (xTup (xCons (xVar 2) (xCons (xOp2 dAdd (xC (.int 1)) (xCall m__law_pick (xCons (xVar 0) (xCons (xC (.int 1000)) (xNil))))) (xCons (xCall m__law_pick (xCons (xVar 0) (xCons (xC (.int 500)) (xNil)))) (xCons (xVar 3) (xCons (xCall m__law_marks (xCons (xVar 0) (xCons (xC (.int 3)) (xNil)))) (xNil)))))))))
def b__law_goods : Fr → SRes :=
  sSeq (sSet 1 (xNewL (xNil)))
  (sSeq (sFor (xItems (xSl (xLst (xCons (xC (.str "apple")) (xCons (xC (.str "eggs")) (xCons (xC (.str "flour")) (xCons (xC (.str "milk")) (xCons (xC (.str "nut")) (xCons (xC (.str "salt")) (xNil)))))))) (xNo) (xSo (xOp2 dAdd (xC (.int 2)) (xCall m__law_pick (xCons (xVar 0) (xCons (xC (.int 5)) (xNil)))))))) (tName 2) (b__law_goods_l1))
  (sKill [2, 3] (sRet (xB1 dTuple (xCons (xVar 1) (xNil))))))
def m__law_goods : AFun := mkFun 4 1 b__law_goods

def b__law_store_l1 : Fr → SRes :=
  sKill [3] (sDSet 2 (xTup (xCons (xIx (xCall m__law_one (xCons (xVar 0) (xCons (xVar 1) (xNil)))) (xC (.int 0))) (xCons (xCall m__law_pick (xCons (xVar 0) (xCons (xC (.int 12)) (xNil)))) (xNil)))) (xCall m__law_amount (xCons (xVar 0) (xNil))))
def b__law_store_e1 : Fr → Res AV :=
  xOp2 dAdd (xVar 4) (xTup (xCons (xDGet (xVar 2) (xVar 4)) (xNil)))
def b__law_store : Fr → SRes :=
  sSeq (sSet 2 (xNewD true))
  (sSeq (sFor (xRange1 (xCall m__law_pick (xCons (xVar 0) (xCons (xC (.int 9)) (xNil))))) (tName 3) (b__law_store_l1))
  (sKill [3] (sRet (xB1 dTuple (xCons (xComp [4] (xItems (xD1 dSortedK (xVar 2))) (tName 4) (xYes) (b__law_store_e1)) (xNil))))))
def m__law_store : AFun := mkFun 5 2 b__law_store

/-! ### the deck -/
structure Dk where
  a : Int
  b : Int
  c : Int
def Dk.l (d : Dk) : List PyData := [.int d.a, .int d.b, .int d.c]
/-- n more may be drawn -/
structure Dk.ok (n : Nat) (d : Dk) : Prop where
  b0 : 0 ≤ d.b
  b1 : d.b < 2147483648
  c0 : 0 ≤ d.c
  c1 : d.c + n ≤ 100000000
theorem Dk.ok.less {n m : Nat} {d : Dk} (h : d.ok n) (hm : m ≤ n) : d.ok m := ⟨h.b0, h.b1, h.c0, by have := h.c1; omega⟩
theorem s_deck (cell t : Int) (ht : 0 ≤ t) (ht2 : t ≤ 1000) : ∃ d : Dk, m__law_deck [.dat (.int cell), .dat (.int t)] [] = .ok (.dat (.list d.l)) [] ∧ d.ok 90000000 := by
  have p1 : powOk 10 18 = true := by decide
  have h0 : 0 ≤ cell % 2147483579 := Int.emod_nonneg _ (by decide)
  have h1 : cell % 2147483579 < 2147483579 := Int.emod_lt_of_pos _ (by decide)
  unfold m__law_deck b__law_deck
  by_cases h : 1000000000000000000 ≤ cell
  · refine ⟨⟨cell - 1000000000000000000, cell % 2147483579, t⟩, ?_, ⟨h0, by show cell % _ < _; omega, ht, by show t + _ ≤ _; omega⟩⟩
    simp [Dk.l, dGe, dPow, p1, h, dSub, dMod]
  · refine ⟨⟨0, cell % 2147483579, t⟩, ?_, ⟨h0, by show cell % _ < _; omega, ht, by show t + _ ≤ _; omega⟩⟩
    simp [Dk.l, dGe, dPow, p1, h, dSub, dMod]
theorem s_pick {n : Nat} {d : Dk} {k : Int} (h : d.ok (n + 1)) (hk : 0 < k) (hk2 : k < 2147483648) : ∃ v d', m__law_pick [.cel 0, .dat (.int k)] [.lst d.l] = .ok (.dat (.int v)) [.lst (Dk.l d')] ∧ d'.ok n ∧ 0 ≤ v ∧ v < k := by
  obtain ⟨b0, b1, c0, c1⟩ := h
  unfold m__law_pick b__law_pick
  by_cases ha : 1 < d.a
  · refine ⟨d.a % k, ⟨d.a / k, d.b, d.c⟩, ?_, ⟨b0, b1, c0, by show d.c + _ ≤ _; omega⟩, Int.emod_nonneg _ (by omega), Int.emod_lt_of_pos _ hk⟩
    have hdk : divOk k = true := divOk_of hk (two_pow_le (n := 0) (by omega))
    simp [Dk.l, ha, hk, dIx, atI, ixN, dGt, dMod, dFdiv, hdk]
  · have m1 : mulOk 15485867 (d.c + 1) = true := mulOk_of (two_pow_le (n := 0) (by decide)) (two_pow_le (n := 0) (by omega))
    have p1 : powOk (d.b + 15485867 * (d.c + 1)) 5 = true := powOk_of (j := 5) (by omega) (by omega)
    have m2 : mulOk 7919 (d.c + 1) = true := mulOk_of (two_pow_le (n := 0) (by decide)) (two_pow_le (n := 0) (by omega))
    generalize hz : (d.b + 15485867 * (d.c + 1)) ^ 5 % 2147483647 = z
    have z0 : 0 ≤ z := by rw [← hz]; exact Int.emod_nonneg _ (by decide)
    have z1 : z < 2147483647 := by rw [← hz]; exact Int.emod_lt_of_pos _ (by decide)
    have p2 : powOk (z + 7919 * (d.c + 1)) 3 = true := powOk_of (j := 3) (by omega) (by omega)
    have d32 : divOk 32 = true := divOk_of (by decide) (two_pow_le (n := 0) (by decide))
    refine ⟨(z + 7919 * (d.c + 1)) ^ 3 % 2147483629 / 32 % k, ⟨d.a, d.b, d.c + 1⟩, ?_, ⟨b0, b1, by show 0 ≤ d.c + 1; omega, by show d.c + 1 + _ ≤ _; omega⟩, Int.emod_nonneg _ (by omega), Int.emod_lt_of_pos _ hk⟩
    simp [Dk.l, ha, hk, dIx, atI, ixN, dGt, dMod, dFdiv, dAdd, dMul, dPow, m1, p1, m2, hz, p2, d32]
theorem atI_of {xs : List PyData} {v : Int} (h0 : 0 ≤ v) (h1 : v < xs.length) : ∃ x, atI xs v = some x ∧ x ∈ xs := by
  have hl : v.toNat < xs.length := by omega
  refine ⟨xs[v.toNat], ?_, List.getElem_mem hl⟩
  unfold atI ixN
  simp [h0, h1, hl]
theorem s_one {n : Nat} {d : Dk} {xs : List PyData} (h : d.ok (n + 1)) (hx : 0 < xs.length) (hx2 : xs.length < 2147483648) : ∃ x d', m__law_one [.cel 0, .dat (.list xs)] [.lst d.l] = .ok (.dat x) [.lst (Dk.l d')] ∧ d'.ok n ∧ x ∈ xs := by
  obtain ⟨v, d', e, h1, h2, h3⟩ := s_pick h (k := xs.length) (by omega) (by omega)
  obtain ⟨x, hx3, hm⟩ := atI_of h2 h3
  refine ⟨x, d', ?_, h1, hm⟩
  unfold m__law_one b__law_one
  simp [e, dIx, hx3]
theorem s_oneT {n : Nat} {d : Dk} {xs : List PyData} (h : d.ok (n + 1)) (hx : 0 < xs.length) (hx2 : xs.length < 2147483648) : ∃ x d', m__law_one [.cel 0, .dat (.tuple xs)] [.lst d.l] = .ok (.dat x) [.lst (Dk.l d')] ∧ d'.ok n ∧ x ∈ xs := by
  obtain ⟨v, d', e, h1, h2, h3⟩ := s_pick h (k := xs.length) (by omega) (by omega)
  obtain ⟨x, hx3, hm⟩ := atI_of h2 h3
  refine ⟨x, d', ?_, h1, hm⟩
  unfold m__law_one b__law_one
  simp [e, dIx, hx3]

/-! ### fractions -/
theorem frac_loop (T B : AV) : ∀ (n x y : Nat) (r : Option AV) (cs : List Cell) (bs : Nat), y < n → ∃ r', whA b__law_frac_t1 b__law_frac_l1 n ⟨[some T, some B, some (.dat (.int x)), some (.dat (.int y)), r], cs, bs⟩ = .nx ⟨[some T, some B, some (.dat (.int (Nat.gcd x y : Nat))), some (.dat (.int 0)), r'], cs, bs⟩
  | 0, _, _, _, _, _, h => by omega
  | n + 1, x, 0, r, cs, bs, h => by
    refine ⟨r, ?_⟩
    unfold whA
    simp [b__law_frac_t1, dGt]
  | n + 1, x, y + 1, r, cs, bs, h => by
    have hlt : x % (y + 1) < y + 1 := Nat.mod_lt _ (by omega)
    obtain ⟨r', ih⟩ := frac_loop T B n (y + 1) (x % (y + 1)) (some (.dat (.int ((x % (y + 1) : Nat) : Int)))) cs bs (by omega)
    refine ⟨r', ?_⟩
    unfold whA
    have e1 : (0 : Int) < (y : Int) + 1 := by omega
    have e2 : ((x : Int) % ((y : Int) + 1)) = ((x % (y + 1) : Nat) : Int) := by simp
    have e3 : Nat.gcd x (y + 1) = Nat.gcd (y + 1) (x % (y + 1)) := by rw [Nat.gcd_comm x, Nat.gcd_rec, Nat.gcd_comm]
    rw [e3, ← ih]
    simp [b__law_frac_t1, b__law_frac_l1, dGt, dMod, e1]
theorem abs_nat (i : Int) : (if i < 0 then -i else i) = ((i.natAbs : Nat) : Int) := by split <;> omega
theorem s_frac (p q : Int) (hq : 0 < q) (hq2 : q.natAbs < 2 ^ 1000) : m__law_frac [.dat (.int p), .dat (.int q)] [] = .ok (.dat (.tuple [.int (p / (Nat.gcd p.natAbs q.natAbs : Nat)), .int (q / (Nat.gcd p.natAbs q.natAbs : Nat))])) [] := by
  have g0 : 0 < Nat.gcd p.natAbs q.natAbs := Nat.gcd_pos_of_pos_right _ (by omega)
  have g1 : Nat.gcd p.natAbs q.natAbs ≤ q.natAbs := Nat.gcd_le_right _ (by omega)
  have hd : divOk ((Nat.gcd p.natAbs q.natAbs : Nat) : Int) = true := divOk_of (by omega) (by rw [Int.natAbs_natCast]; omega)
  obtain ⟨r', e⟩ := frac_loop (.dat (.int p)) (.dat (.int q)) (q.natAbs + 2) p.natAbs q.natAbs none [] 0 (by omega)
  unfold m__law_frac b__law_frac
  simp [abs_nat, natOf, e, dFdiv, hd]
/-- an amount: two whole numbers above nought -/
inductive IsAmt : PyData → Prop
  | mk {p q : Int} : 0 < p → 0 < q → p ≤ 40 → q ≤ 7 → Nat.gcd p.natAbs q.natAbs = 1 → IsAmt (.tuple [.int p, .int q])
theorem s_amount {n : Nat} {d : Dk} (h : d.ok (n + 2)) : ∃ x d', m__law_amount [.cel 0] [.lst d.l] = .ok (.dat x) [.lst (Dk.l d')] ∧ d'.ok n ∧ IsAmt x := by
  obtain ⟨v, d1, e1, h1, v0, v1⟩ := s_pick (n := n + 1) h (k := 40) (by decide) (by decide)
  obtain ⟨x, d2, e2, h2, hm⟩ := s_one (n := n) h1 (xs := [.int 1, .int 1, .int 2, .int 3, .int 7]) (by decide) (by decide)
  obtain ⟨q, rfl, q0, q1⟩ : ∃ q : Int, x = .int q ∧ 0 < q ∧ q ≤ 7 := by
    simp at hm
    rcases hm with rfl | rfl | rfl | rfl <;> exact ⟨_, rfl, by decide, by decide⟩
  have e3 := s_frac (1 + v) q q0 (two_pow_le (n := 0) (by omega))
  have g0 : 0 < Nat.gcd (1 + v).natAbs q.natAbs := Nat.gcd_pos_of_pos_right _ (by omega)
  generalize hg : Nat.gcd (1 + v).natAbs q.natAbs = g at *
  have d1' : g ∣ (1 + v).natAbs := by rw [← hg]; exact Nat.gcd_dvd_left _ _
  have d2' : g ∣ q.natAbs := by rw [← hg]; exact Nat.gcd_dvd_right _ _
  obtain ⟨a, ha⟩ := d1'
  obtain ⟨b, hb⟩ := d2'
  have pe : 1 + v = (g : Int) * a := by
    have : ((1 + v).natAbs : Int) = ((g * a : Nat) : Int) := by rw [ha]
    rw [Int.natCast_mul] at this; omega
  have qe : q = (g : Int) * b := by
    have : (q.natAbs : Int) = ((g * b : Nat) : Int) := by rw [hb]
    rw [Int.natCast_mul] at this; omega
  have gi : (g : Int) ≠ 0 := by omega
  have pd : (1 + v) / (g : Int) = a := by rw [pe]; exact Int.mul_ediv_cancel_left _ gi
  have qd : q / (g : Int) = b := by rw [qe]; exact Int.mul_ediv_cancel_left _ gi
  rw [pd, qd] at e3
  have a0 : 0 < a := by
    rcases Nat.eq_zero_or_pos a with z | z
    · rw [z] at ha; omega
    · exact z
  have b0 : 0 < b := by
    rcases Nat.eq_zero_or_pos b with z | z
    · rw [z] at hb; omega
    · exact z
  have ale : a ≤ g * a := Nat.le_mul_of_pos_left _ g0
  have ble : b ≤ g * b := Nat.le_mul_of_pos_left _ g0
  refine ⟨_, d2, ?_, h2, .mk (p := a) (q := b) (by omega) (by omega) (by omega) (by omega) ?_⟩
  · unfold m__law_amount b__law_amount
    simp [e1, dAdd, e2, e3]
  · rw [Int.natAbs_natCast, Int.natAbs_natCast]
    have z : Nat.gcd (g * a) (g * b) = g := by rw [← ha, ← hb]; exact hg
    rw [Nat.gcd_mul_left] at z
    exact Nat.eq_of_mul_eq_mul_left g0 (by omega)

/-! ### marks, goods -/
theorem s_marks {n : Nat} {d : Dk} {k : Int} (h : d.ok (n + 4)) (hk : 0 < k) (hk2 : k < 2147483648) : ∃ xs d', m__law_marks [.cel 0, .dat (.int k)] [.lst d.l] = .ok (.dat (.tuple xs)) [.lst (Dk.l d')] ∧ d'.ok n ∧ List.Sublist xs [.str "dairy", .str "egg", .str "gluten", .str "nuts"] := by
  have key := compA_all (own := [3]) (g := tName 3) (t := b__law_marks_t1) (f := b__law_marks_e1) (vars := [some (.cel 0), some (.dat (.int k)), some (.dat (.list [.str "dairy", .str "egg", .str "gluten", .str "nuts"])), none]) (bs := 1)
    (fun done acc cs => List.Sublist acc done ∧ ∃ d' : Dk, cs = [.lst d'.l] ∧ d'.ok (n + 4 - done.length)) [.str "dairy", .str "egg", .str "gluten", .str "nuts"] [.lst d.l] ⟨.slnil, d, rfl, h⟩ ?_
  · obtain ⟨acc, cs, e, hs, d', rfl, hd⟩ := key
    refine ⟨acc, d', ?_, by simpa using hd, by simpa using hs⟩
    unfold m__law_marks b__law_marks
    simp [xComp, e]
  · rintro done y rest acc cs hy ⟨hs, d', rfl, hd⟩
    have hl : done.length < 4 := by
      have := congrArg List.length hy
      simp at this; omega
    obtain ⟨v, d2, e, h2, v0, v1⟩ := s_pick (n := n + 4 - (done ++ [y]).length) (d := d') (hd.less (by simp; omega)) hk hk2
    have z1 : eqOk (.int v) (.int 0) = true := by unfold eqOk; exact decide_eq_true (by simp [PyData.depth])
    refine ⟨_, PyData.eqv (.int v) (.int 0), ⟨[some (.cel 0), some (.dat (.int k)), some (.dat (.list [.str "dairy", .str "egg", .str "gluten", .str "nuts"])), some (.dat y)], [.lst d2.l], 1⟩, rfl, ?_, fun hb => ?_, fun hb => ⟨y, _, rfl, ?_⟩⟩
    · simp [b__law_marks_t1, e, dEq, z1]
    · exact ⟨hs.trans (List.sublist_append_left _ _), d2, rfl, h2⟩
    · exact ⟨List.Sublist.append hs (List.Sublist.refl _), d2, rfl, h2⟩
/-- a good, as the laws draw it -/
inductive IsGd : PyData → Prop
  | mk {z : Str} {a b c : Int} {ms : List PyData} : z ∈ (["apple", "eggs", "flour", "milk", "nut", "salt"] : List Str) → 0 < a → a ≤ 1000 → 0 ≤ b → b < 500 → c ∈ ([0, 1, 3, 30] : List Int) → List.Sublist ms [.str "dairy", .str "egg", .str "gluten", .str "nuts"] → IsGd (.tuple [.str z, .int a, .int b, .int c, .tuple ms])
def nmD : PyData → PyData
  | .tuple (x :: _) => x
  | _ => .none
abbrev gnames : List PyData := [.str "apple", .str "eggs", .str "flour", .str "milk", .str "nut", .str "salt"]
theorem cut_take (xs : List PyData) (v : Int) (h0 : 0 ≤ v) : cutD xs none (some v) = xs.take v.toNat := by
  unfold cutD HT.sIx
  simp only [List.drop_zero, Nat.sub_zero]
  rw [if_neg (by omega), List.take_eq_take_iff]
  omega
theorem s_goods {n : Nat} {d : Dk} (h : d.ok (n + 43)) : ∃ gs d', m__law_goods [.cel 0] [.lst d.l] = .ok (.dat (.tuple gs)) [.lst (Dk.l d')] ∧ d'.ok n ∧ (∀ g ∈ gs, IsGd g) ∧ 2 ≤ gs.length ∧ gs.map nmD = gnames.take gs.length := by
  obtain ⟨v, d1, e1, h1, v0, v1⟩ := s_pick (n := n + 42) h (k := 5) (by decide) (by decide)
  have key := forA_all (g := tName 2) (b := b__law_goods_l1) (fun done fr => ∃ (d' : Dk) (gs : List PyData) (v2 v3 : Option AV), fr = ⟨[some (.cel 0), some (.cel 1), v2, v3], [.lst d'.l, .lst gs], 1⟩ ∧ d'.ok (n + 7 * (6 - done.length)) ∧ (∀ g ∈ gs, IsGd g) ∧ gs.map nmD = done)
    (gnames.take (2 + v).toNat) ⟨[some (.cel 0), some (.cel 1), none, none], [.lst d1.l, .lst []], 1⟩ ⟨d1, [], none, none, rfl, h1, (fun g hg => nomatch hg), rfl⟩ ?_
  · obtain ⟨fr', e, d', gs, v2, v3, rfl, h2, h3, h4⟩ := key
    have hl : gs.length = (gnames.take (2 + v).toNat).length := by rw [← h4, List.length_map]
    have hl2 : gs.length = min (2 + v).toNat 6 := by rw [hl, List.length_take]; rfl
    refine ⟨gs, d', ?_, h2.less (by omega), h3, by omega, ?_⟩
    · unfold m__law_goods b__law_goods
      simp [e1, dAdd, dSl, cut_take _ (2 + v) (by omega), e]
    · rw [h4, hl, List.length_take, List.take_eq_take_iff]
      simp
  · rintro done y rest fr hy ⟨d', gs, v2, v3, rfl, hd, hg, hm⟩
    have hlen : done.length < 6 := by
      have := congrArg List.length hy
      rw [List.length_take] at this
      simp at this; omega
    have ymem : y ∈ gnames := List.mem_of_mem_take (i := (2 + v).toNat) (by rw [hy]; simp)
    obtain ⟨z, rfl, hz⟩ : ∃ z : Str, y = .str z ∧ z ∈ (["apple", "eggs", "flour", "milk", "nut", "salt"] : List Str) := by
      simp [gnames] at ymem
      rcases ymem with rfl | rfl | rfl | rfl | rfl | rfl <;> exact ⟨_, rfl, by simp⟩
    obtain ⟨m, hm7⟩ : ∃ m, n + 7 * (6 - done.length) = n + 7 * (6 - (done ++ [PyData.str z]).length) + 7 ∧ m = 0 := ⟨0, by simp; omega, rfl⟩
    rw [hm7.1] at hd
    generalize n + 7 * (6 - (done ++ [PyData.str z]).length) = q at *
    obtain ⟨x, d2, e2, h2, hx⟩ := s_one (n := q + 6) hd (xs := [.int 0, .int 1, .int 3, .int 30]) (by decide) (by decide)
    obtain ⟨v3, d3, e3, h3, a0, a1⟩ := s_pick (n := q + 5) h2 (k := 1000) (by decide) (by decide)
    obtain ⟨v4, d4, e4, h4, b0, b1⟩ := s_pick (n := q + 4) h3 (k := 500) (by decide) (by decide)
    obtain ⟨ms, d5, e5, h5, hs⟩ := s_marks (n := q) h4 (k := 3) (by decide) (by decide)
    obtain ⟨c, rfl, hc⟩ : ∃ c : Int, x = .int c ∧ c ∈ ([0, 1, 3, 30] : List Int) := by
      simp at hx
      rcases hx with rfl | rfl | rfl | rfl <;> exact ⟨_, rfl, by simp⟩
    have gl : gs.length < 1000000 := by
      have := congrArg List.length hm
      simp at this; omega
    refine ⟨_, ⟨[some (.cel 0), some (.cel 1), some (.dat (.str z)), some (.dat (.int c))], [.lst d5.l, .lst (gs ++ [.tuple [.str z, .int (1 + v3), .int v4, .int c, .tuple ms]])], 1⟩, rfl, .inl ?_, d5, _, _, _, rfl, h5, fun g hg' => ?_, ?_⟩
    · simp [b__law_goods_l1, e2, dAdd, e3, e4, e5, gl]
    · rcases List.mem_append.mp hg' with z1 | z1
      · exact hg g z1
      · cases List.mem_singleton.mp z1
        exact .mk hz (by omega) (by omega) b0 b1 hc hs
    · rw [List.map_append, hm]; rfl
/-! ### order -/
open PySem.W (dataLt dataLe alike keyToks)
theorem srt_eq (x y : PyData) : srtLe x y = !dataLt y x := rfl
theorem srt_total : PySem.W.TotalLe srtLe := PySem.W.sortLe_total _ _ _
theorem srt_pw (l : List PyData) : (l.mergeSort srtLe).Pairwise (fun a b => srtLe a b = true) := PySem.W.sort_pairwise srt_total l
theorem perm_sorted_eq {α : Type} {le : α → α → Prop} : ∀ {l m : List α}, l.Perm m → l.Pairwise le → m.Pairwise le → (∀ a ∈ l, ∀ b ∈ l, le a b → le b a → a = b) → l = m
  | [], m, p, _, _, _ => p.nil_eq
  | a :: l, [], p, _, _, _ => absurd p (by simp)
  | a :: l, b :: m, p, h1, h2, an => by
    rw [List.pairwise_cons] at h1 h2
    have e : a = b := by
      have ha : a ∈ b :: m := p.mem_iff.mp (List.mem_cons_self ..)
      have hb : b ∈ a :: l := p.mem_iff.mpr (List.mem_cons_self ..)
      rcases List.mem_cons.mp ha with e | ha
      · exact e
      · rcases List.mem_cons.mp hb with e | hb
        · exact e.symm
        · exact an a (List.mem_cons_self ..) b (List.mem_cons_of_mem _ hb) (h1.1 b hb) (h2.1 a ha)
    subst e
    rw [perm_sorted_eq p.cons_inv h1.2 h2.2 fun x hx y hy => an x (List.mem_cons_of_mem _ hx) y (List.mem_cons_of_mem _ hy)]
/-- strictly rising -/
abbrev Rise (l : List PyData) : Prop := l.Pairwise fun a b => dataLt a b = true
theorem lt_asym {a b : PyData} (h : dataLt a b = true) : dataLt b a = false := by
  cases q : dataLt b a with
  | false => rfl
  | true =>
    have := (listOrd itemOrd).trans (keyToks a) (keyToks b) (keyToks a) h q
    rw [(listOrd itemOrd).irrefl] at this
    cases this
theorem Rise.sorted {l m : List PyData} (h : Rise l) (p : m.Perm l) : m.mergeSort srtLe = l := by
  refine perm_sorted_eq (le := fun a b => srtLe a b = true) ((List.mergeSort_perm m srtLe).trans p) (srt_pw m) (h.imp fun hab => by rw [srt_eq, lt_asym hab]; rfl) fun a ha b hb h1 h2 => ?_
  have ha' : a ∈ l := ((List.mergeSort_perm m srtLe).trans p).mem_iff.mp ha
  have hb' : b ∈ l := ((List.mergeSort_perm m srtLe).trans p).mem_iff.mp hb
  rw [srt_eq] at h1 h2
  have n1 : dataLt b a = false := by simpa using h1
  have n2 : dataLt a b = false := by simpa using h2
  clear ha hb h1 h2 p
  induction h with
  | nil => cases ha'
  | cons hx _ ih =>
    rcases List.mem_cons.mp ha' with e | ha'
    · rcases List.mem_cons.mp hb' with e2 | hb'
      · rw [e, e2]
      · have := hx b hb'
        rw [← e, n2] at this; cases this
    · rcases List.mem_cons.mp hb' with e2 | hb'
      · have := hx a ha'
        rw [← e2, n1] at this; cases this
      · exact ih ha' hb'
theorem lt_total {a b : PyData} (h : keyToks a ≠ keyToks b) : dataLt a b = true ∨ dataLt b a = true := by
  rcases Classical.em (dataLt a b = true) with q | q
  · exact .inl q
  · rcases Classical.em (dataLt b a = true) with q2 | q2
    · exact .inr q2
    · exact absurd ((listOrd itemOrd).total (keyToks a) (keyToks b) (show dataLt a b = false by simpa using q) (show dataLt b a = false by simpa using q2)) h
/-! ### keys of stores, lots -/
theorem al_str (a b : Str) : alike (.str a) (.str b) = true := by simp [alike]
theorem al_int (a b : Int) : alike (.int a) (.int b) = true := by simp [alike]
theorem eqv_str (a b : Str) : PyData.eqv (.str a) (.str b) = (a == b) := rfl
theorem eqv_int (a b : Int) : PyData.eqv (.int a) (.int b) = (a == b) := rfl
theorem key_inj {a b : Str} {i j : Int} (h : keyToks (.tuple [.str a, .int i]) = keyToks (.tuple [.str b, .int j])) : a = b ∧ i = j := by
  simp [keyToks, PySem.W.keyToksAll] at h
  exact ⟨PySem.W.str_of_cps (by simpa using h.1), h.2⟩
theorem key_eqv (a b : Str) (i j : Int) : PyData.eqv (.tuple [.str a, .int i]) (.tuple [.str b, .int j]) = decide (a = b ∧ i = j) := by
  show ((a == b) && ((i == j) && true)) = _
  rw [Bool.and_true, Bool.beq_eq_decide_eq a b, Bool.beq_eq_decide_eq i j, Bool.decide_and]
theorem key_lot {a b : Str} {i j : Int} {x y : PyData} (h : dataLt (.tuple [.str a, .int i]) (.tuple [.str b, .int j]) = true) : dataLt (.tuple [.str a, .int i, x]) (.tuple [.str b, .int j, y]) = true := by
  rw [PySem.W.dataLt_tuple, PySem.W.dataLt_cons (al_str a b)] at h ⊢
  split at h
  · rename_i q
    rw [if_pos q]
    rw [PySem.W.dataLt_cons (al_int i j)] at h ⊢
    split at h
    · exact absurd h (by decide)
    · rename_i q2
      rw [if_neg q2]
      exact h
  · rename_i q
    rw [if_neg q]
    exact h
/-! ### a store -/
abbrev kOf (q : PyData × PyData) : PyData := q.1
inductive IsKey (names : List PyData) : PyData → Prop
  | mk {z : Str} {t : Int} : PyData.str z ∈ names → 0 ≤ t → t < 12 → IsKey names (.tuple [.str z, .int t])
theorem IsKey.eqv {ns : List PyData} {a b : PyData} (ha : IsKey ns a) (hb : IsKey ns b) : PyData.eqv a b = true ↔ a = b := by
  cases ha; cases hb
  rw [key_eqv]
  simp
theorem kput_keys {ns : List PyData} {kvs : List (PyData × PyData)} {k v : PyData} (hk : IsKey ns k) (hs : ∀ q ∈ kvs, IsKey ns q.1) : ((kvs.map (·.1)).Nodup → ((kput kvs k v).map (·.1)).Nodup) ∧ (∀ q ∈ kput kvs k v, (q.1 = k ∧ q.2 = v) ∨ q ∈ kvs) ∧ (kput kvs k v).length ≤ kvs.length + 1 := by
  unfold kput
  split
  · rename_i h
    refine ⟨fun nd => ?_, fun q hq => ?_, by simp⟩
    · have : (kvs.map fun q => if PyData.eqv q.1 k = true then (q.1, v) else q).map (·.1) = kvs.map (·.1) := by
        rw [List.map_map]
        refine List.map_congr_left fun q _ => ?_
        show (if PyData.eqv q.1 k = true then (q.1, v) else q).1 = q.1
        split <;> rfl
      rw [this]; exact nd
    · obtain ⟨q', hq', rfl⟩ := List.mem_map.mp hq
      split
      · rename_i h2
        exact .inl ⟨(hs q' hq').eqv hk |>.mp h2, rfl⟩
      · exact .inr hq'
  · rename_i h
    refine ⟨fun nd => ?_, fun q hq => ?_, by simp⟩
    · rw [List.map_append, List.nodup_append]
      refine ⟨nd, by simp, fun a ha b hb e => ?_⟩
      have hb' : b = k := by simpa using hb
      obtain ⟨q, hq, rfl⟩ := List.mem_map.mp ha
      apply h
      rw [kfind_any, List.any_eq_true]
      exact ⟨q, hq, by rw [(hs q hq).eqv hk, e, hb']⟩
    · rcases List.mem_append.mp hq with z | z
      · exact .inr z
      · have e := List.mem_singleton.mp z
        rw [e]; exact .inl ⟨rfl, rfl⟩
inductive IsLot (names : List PyData) : PyData → Prop
  | mk {z : Str} {t : Int} {x : PyData} : PyData.str z ∈ names → 0 ≤ t → t < 12 → IsAmt x → IsLot names (.tuple [.str z, .int t, x])
theorem keys_sortOk {ns : List PyData} {ks : List PyData} (h : ∀ k ∈ ks, IsKey ns k) (hl : ks.length ≤ 1000000) : sortOk ks = true := by
  unfold sortOk allAlike
  simp only [Bool.and_eq_true, Bool.or_eq_true, List.all_eq_true, decide_eq_true_eq]
  refine ⟨⟨⟨hl, fun x hx y hy => ?_⟩, .inl fun x hx => ?_⟩, fun x hx => ?_⟩
  · cases h x hx; cases h y hy; simp [alike, PySem.W.alikeAll]
  · cases h x hx; rfl
  · cases h x hx; simp [PyData.depth, PyData.depthAll]
theorem kfind_mem {ns : List PyData} {kvs : List (PyData × PyData)} (hs : ∀ q ∈ kvs, IsKey ns q.1) {k : PyData} (h : k ∈ kvs.map (·.1)) : ∃ v, kfind kvs k = some v ∧ (k, v) ∈ kvs := by
  induction kvs with
  | nil => simp at h
  | cons q kvs ih =>
    unfold kfind
    rw [List.find?_cons]
    have hk : IsKey ns k := by
      obtain ⟨q', h1, h2⟩ := List.mem_map.mp h
      rw [← h2]; exact hs q' h1
    cases e : PyData.eqv q.1 k with
    | true =>
      have := ((hs q (List.mem_cons_self ..)).eqv hk).mp e
      exact ⟨q.2, rfl, by rw [← this]; exact List.mem_cons_self ..⟩
    | false =>
      rw [List.map_cons] at h
      rcases List.mem_cons.mp h with z | z
      · rw [((hs q (List.mem_cons_self ..)).eqv hk).mpr z.symm] at e; cases e
      · obtain ⟨v, h1, h2⟩ := ih (fun q hq => hs q (List.mem_cons_of_mem _ hq)) z
        exact ⟨v, h1, List.mem_cons_of_mem _ h2⟩
theorem IsKey.kOk {ns : List PyData} {k : PyData} (h : IsKey ns k) : G.kOk true k = true := by
  cases h
  simp [G.kOk, nkO, nkOs, NestedKey.depth, NestedKey.depthAll]
def lotD (kvs : List (PyData × PyData)) (k : PyData) : PyData := match k, kfind kvs k with
  | .tuple ks, some v => .tuple (ks ++ [v])
  | _, _ => .none
theorem gd_nm {gs : List PyData} {g : PyData} (h : IsGd g) (hm : g ∈ gs) : ∃ z : Str, dIx g (.int 0) = some (.str z) ∧ PyData.str z ∈ gs.map nmD := by
  cases h with
  | @mk z a b c ms h1 h2 h3 h4 h5 h6 h7 =>
    refine ⟨z, by simp [dIx, atI, ixN], List.mem_map.mpr ⟨_, hm, rfl⟩⟩
theorem rangeD_len (lo : Int) (n : Nat) : (rangeD lo n).length = n := by simp [rangeD]
def hd2 : PyData → PyData
  | .tuple (a :: b :: _) => .tuple [a, b]
  | x => x
/-- keys strictly rising -/
abbrev RiseH (l : List PyData) : Prop := l.Pairwise fun a b => dataLt (hd2 a) (hd2 b) = true
theorem lots_riseH {ns : List PyData} {kvs : List (PyData × PyData)} (hs : ∀ q ∈ kvs, IsKey ns q.1 ∧ IsAmt q.2) (nd : (kvs.map (·.1)).Nodup) :
    RiseH ((((kvs.map (·.1)).mergeSort srtLe)).map (lotD kvs)) := by
  have hk : ∀ k ∈ (kvs.map (·.1)).mergeSort srtLe, IsKey ns k ∧ ∃ v, kfind kvs k = some v := fun k hk => by
    rw [List.mem_mergeSort] at hk
    obtain ⟨v, h1, h2⟩ := kfind_mem (fun q hq => (hs q hq).1) hk
    exact ⟨(hs _ h2).1, v, h1⟩
  have nd2 : ((kvs.map (·.1)).mergeSort srtLe).Nodup := (List.mergeSort_perm _ _).nodup_iff.mpr nd
  unfold RiseH
  rw [List.pairwise_map]
  have pw := srt_pw (kvs.map (·.1))
  refine (List.Pairwise.and pw nd2).imp_of_mem fun {a b} ha hb hab => ?_
  obtain ⟨h1, v1, e1⟩ := hk a ha
  obtain ⟨h2, v2, e2⟩ := hk b hb
  cases h1 with
  | @mk z t _ _ _ =>
    cases h2 with
    | @mk z' t' _ _ _ =>
      have lt : dataLt (.tuple [.str z, .int t]) (.tuple [.str z', .int t']) = true := by
        rcases lt_total (a := .tuple [.str z, .int t]) (b := .tuple [.str z', .int t']) fun e => hab.2 (by obtain ⟨r1, r2⟩ := key_inj e; rw [r1, r2]) with q | q
        · exact q
        · have := hab.1
          rw [srt_eq, q] at this; cases this
      have f1 : lotD kvs (.tuple [.str z, .int t]) = .tuple [.str z, .int t, v1] := by unfold lotD; rw [e1]; rfl
      have f2 : lotD kvs (.tuple [.str z', .int t']) = .tuple [.str z', .int t', v2] := by unfold lotD; rw [e2]; rfl
      rw [f1, f2]
      exact lt
theorem lots_rise {ns : List PyData} {kvs : List (PyData × PyData)} (hs : ∀ q ∈ kvs, IsKey ns q.1 ∧ IsAmt q.2) (nd : (kvs.map (·.1)).Nodup) :
    Rise ((((kvs.map (·.1)).mergeSort srtLe)).map (lotD kvs)) ∧ ∀ l ∈ (((kvs.map (·.1)).mergeSort srtLe)).map (lotD kvs), IsLot ns l := by
  have hk : ∀ k ∈ (kvs.map (·.1)).mergeSort srtLe, IsKey ns k ∧ ∃ v, kfind kvs k = some v ∧ IsAmt v := fun k hk => by
    rw [List.mem_mergeSort] at hk
    obtain ⟨v, h1, h2⟩ := kfind_mem (fun q hq => (hs q hq).1) hk
    exact ⟨(hs _ h2).1, v, h1, (hs _ h2).2⟩
  have nd2 : ((kvs.map (·.1)).mergeSort srtLe).Nodup := (List.mergeSort_perm _ _).nodup_iff.mpr nd
  refine ⟨?_, fun l hl => ?_⟩
  · unfold Rise
    rw [List.pairwise_map]
    have pw := srt_pw (kvs.map (·.1))
    refine (List.Pairwise.and pw nd2).imp_of_mem fun {a b} ha hb hab => ?_
    obtain ⟨h1, v1, e1, _⟩ := hk a ha
    obtain ⟨h2, v2, e2, _⟩ := hk b hb
    cases h1 with
    | @mk z t _ _ _ =>
      cases h2 with
      | @mk z' t' _ _ _ =>
        have lt : dataLt (.tuple [.str z, .int t]) (.tuple [.str z', .int t']) = true := by
          rcases lt_total (a := .tuple [.str z, .int t]) (b := .tuple [.str z', .int t']) fun e => hab.2 (by obtain ⟨r1, r2⟩ := key_inj e; rw [r1, r2]) with q | q
          · exact q
          · have := hab.1
            rw [srt_eq, q] at this; cases this
        have f1 : lotD kvs (.tuple [.str z, .int t]) = .tuple [.str z, .int t, v1] := by unfold lotD; rw [e1]; rfl
        have f2 : lotD kvs (.tuple [.str z', .int t']) = .tuple [.str z', .int t', v2] := by unfold lotD; rw [e2]; rfl
        rw [f1, f2]
        exact key_lot lt
  · obtain ⟨k, hk1, rfl⟩ := List.mem_map.mp hl
    obtain ⟨h1, v1, e1, a1⟩ := hk k hk1
    cases h1 with
    | @mk z t g1 g2 g3 =>
      have f1 : lotD kvs (.tuple [.str z, .int t]) = .tuple [.str z, .int t, v1] := by unfold lotD; rw [e1]; rfl
      rw [f1]
      exact .mk g1 g2 g3 a1
theorem s_store2 {n : Nat} {d : Dk} {gs : List PyData} (h : d.ok (n + 33)) (hg : ∀ g ∈ gs, ∃ z : Str, dIx g (.int 0) = some (.str z) ∧ PyData.str z ∈ gs.map nmD) (h0 : 0 < gs.length) (h1 : gs.length ≤ 6) : ∃ ls d', m__law_store [.cel 0, .dat (.tuple gs)] [.lst d.l] = .ok (.dat (.tuple ls)) [.lst (Dk.l d')] ∧ d'.ok n ∧ (∀ l ∈ ls, IsLot (gs.map nmD) l) ∧ Rise ls ∧ ls.length ≤ 8 ∧ RiseH ls := by
  obtain ⟨v, d1, e1, h2, v0, v1⟩ := s_pick (n := n + 32) h (k := 9) (by decide) (by decide)
  have key := forA_all (g := tName 3) (b := b__law_store_l1) (fun done fr => ∃ (d' : Dk) (kvs : List (PyData × PyData)) (v3 : Option AV), fr = ⟨[some (.cel 0), some (.dat (.tuple gs)), some (.cel 1), v3, none], [.lst d'.l, .dct true kvs], 1⟩ ∧ d'.ok (n + 4 * (8 - done.length)) ∧ (∀ q ∈ kvs, IsKey (gs.map nmD) q.1 ∧ IsAmt q.2) ∧ (kvs.map (·.1)).Nodup ∧ kvs.length ≤ done.length)
    (rangeD 0 v.toNat) ⟨[some (.cel 0), some (.dat (.tuple gs)), some (.cel 1), none, none], [.lst d1.l, .dct true []], 1⟩ ⟨d1, [], none, rfl, h2, (fun q hq => nomatch hq), .nil, Nat.le_refl _⟩ ?_
  · obtain ⟨fr', e, d', kvs, v3, rfl, h3, h4, h5, h6⟩ := key
    rw [rangeD_len] at h3 h6
    have sok := keys_sortOk (ks := kvs.map (·.1)) (fun k hk => by
      obtain ⟨q, hq, rfl⟩ := List.mem_map.mp hk
      exact (h4 q hq).1) (by rw [List.length_map]; omega)
    obtain ⟨r1, r2⟩ := lots_rise h4 h5
    refine ⟨((kvs.map (·.1)).mergeSort srtLe).map (lotD kvs), d', ?_, h3.less (by omega), r2, r1, by simp; omega, lots_riseH h4 h5⟩
    have rg : rgOk v = true := by unfold rgOk; exact decide_eq_true (by omega)
    have ec := compA_pure (own := [4]) (g := tName 4) (t := xYes) (f := b__law_store_e1) (vars := [some (.cel 0), some (.dat (.tuple gs)), some (.cel 1), none, none]) (bs := 1) (cs := [.lst d'.l, .dct true kvs]) (fun _ => true) (lotD kvs) ((kvs.map (·.1)).mergeSort srtLe) [] fun y hy => by
      rw [List.mem_mergeSort] at hy
      obtain ⟨w, f1, f2⟩ := kfind_mem (fun q hq => (h4 q hq).1) hy
      have hk := (h4 _ f2).1
      refine ⟨_, _, rfl, rfl, rfl, fun _ => ⟨⟨[some (.cel 0), some (.dat (.tuple gs)), some (.cel 1), none, some (.dat y)], [.lst d'.l, .dct true kvs], 1⟩, ?_, rfl⟩⟩
      have ko := hk.kOk
      cases hk with
      | @mk z t g1 g2 g3 =>
        have f3 : lotD kvs (.tuple [.str z, .int t]) = .tuple [.str z, .int t, w] := by unfold lotD; rw [f1]; rfl
        simp [b__law_store_e1, dget, ko, f1, f3, dAdd]
    rw [List.nil_append, List.filter_eq_self.mpr (fun _ _ => rfl)] at ec
    unfold m__law_store b__law_store
    have kl : kvs.length ≤ 1000000 := by omega
    simp [e1, rg, e, dSortedK, dSortL, sok, xComp, ec, kl]
  · rintro done y rest fr hy ⟨d', kvs, v3, rfl, hd, hs, nd, hl⟩
    have hlen : done.length < 8 := by
      have := congrArg List.length hy
      rw [rangeD_len] at this
      simp at this; omega
    obtain ⟨m, hm7⟩ : ∃ m, n + 4 * (8 - done.length) = n + 4 * (8 - (done ++ [y]).length) + 4 ∧ m = 0 := ⟨0, by simp; omega, rfl⟩
    rw [hm7.1] at hd
    generalize hq7 : n + 4 * (8 - (done ++ [y]).length) = q at *
    obtain ⟨x, d2, e2, g2, hx⟩ := s_amount (n := q + 2) hd
    obtain ⟨g, d3, e3, g3, hg3⟩ := s_oneT (n := q + 1) (xs := gs) g2 h0 (by omega)
    obtain ⟨t, d4, e4, g4, t0, t1⟩ := s_pick (n := q) g3 (k := 12) (by decide) (by decide)
    obtain ⟨z, hz, hzm⟩ := hg g hg3
    have hk : IsKey (gs.map nmD) (.tuple [.str z, .int t]) := .mk hzm t0 t1
    obtain ⟨p1, p2, p3⟩ := kput_keys (v := x) hk fun q hq => (hs q hq).1
    have kl : kvs.length < 1000000 := by omega
    refine ⟨_, ⟨[some (.cel 0), some (.dat (.tuple gs)), some (.cel 1), none, none], [.lst d4.l, .dct true (kput kvs (.tuple [.str z, .int t]) x)], 1⟩, rfl, .inl ?_, d4, _, none, rfl, g4, fun q hq => ?_, p1 nd, by simp; omega⟩
    · simp [b__law_store_l1, e2, e3, hz, e4, hk.kOk, kl]
    · rcases p2 q hq with ⟨z1, z2⟩ | z1
      · rw [z1, z2]; exact ⟨hk, hx⟩
      · exact hs q z1
theorem s_store {n : Nat} {d : Dk} {gs : List PyData} (h : d.ok (n + 33)) (hg : ∀ g ∈ gs, IsGd g) (h0 : 0 < gs.length) (h1 : gs.length ≤ 6) : ∃ ls d', m__law_store [.cel 0, .dat (.tuple gs)] [.lst d.l] = .ok (.dat (.tuple ls)) [.lst (Dk.l d')] ∧ d'.ok n ∧ (∀ l ∈ ls, IsLot (gs.map nmD) l) ∧ Rise ls ∧ ls.length ≤ 8 := by
  obtain ⟨ls, d', h1, h2, h3, h4, h5, _⟩ := s_store2 h (fun g hm => gd_nm (hg g hm) hm) h0 h1
  exact ⟨ls, d', h1, h2, h3, h4, h5⟩
end G
/-! MC: goods looked up, days, likeness. -/
namespace G
open PySem PySem.Spec PyProof.Rows L2
def b_good_of_l1 : Fr → SRes :=
  sIf (xB (xOp2 dEq (xIx (xVar 2) (xC (.int 0))) (xVar 1))) (sRet (xVar 2)) (sNx)
def b_good_of : Fr → SRes :=
  sSeq (sFor (xItems (xVar 0)) (tName 2) (b_good_of_l1))
  (sKill [2] (sRet (xC .none)))
def m_good_of : AFun := mkFun 3 2 b_good_of

def b_is_over : Fr → SRes :=
  sRet (xOp2 dGt (xVar 2) (xOp2 dAdd (xIx (xVar 1) (xC (.int 1))) (xIx (xCall m_good_of (xCons (xVar 0) (xCons (xIx (xVar 1) (xC (.int 0))) (xNil)))) (xC (.int 3)))))
def m_is_over : AFun := mkFun 3 3 b_is_over

def b_over_t1 : Fr → Res Bool :=
  xB (xCall m_is_over (xCons (xVar 0) (xCons (xVar 3) (xCons (xVar 2) (xNil)))))
def b_over_e1 : Fr → Res AV :=
  xVar 3
def b_over : Fr → SRes :=
  sRet (xComp [3] (xItems (xVar 1)) (tName 3) (b_over_t1) (b_over_e1))
def m_over : AFun := mkFun 4 3 b_over

def b_kept_t1 : Fr → Res Bool :=
  xNot (xB (xCall m_is_over (xCons (xVar 0) (xCons (xVar 3) (xCons (xVar 2) (xNil))))))
def b_kept_e1 : Fr → Res AV :=
  xVar 3
def b_kept : Fr → SRes :=
  sRet (xB1 dTuple (xCons (xComp [3] (xItems (xVar 1)) (tName 3) (b_kept_t1) (b_kept_e1)) (xNil)))
def m_kept : AFun := mkFun 4 3 b_kept

def b__law_sort : Fr → SRes :=
  sSeq (sIf (xB (xIsi (isi "bool") (xVar 0))) (sRet (xC (.str "truth"))) (sNx))
  (sSeq (sIf (xB (xIsi (isi "int") (xVar 0))) (sRet (xC (.str "number"))) (sNx))
  (sSeq (sIf (xB (xIsi (isi "tuple") (xVar 0))) (sRet (xC (.str "tuple"))) (sNx))
  (sRet (xIf (xB (xIsi (isi "list") (xVar 0))) (xC (.str "list")) (xC (.str "other"))))))
def m__law_sort : AFun := mkFun 1 1 b__law_sort

def b__law_same_t1 (self : AFun) : Fr → Res Bool :=
  xNot (xB (xCall self (xCons (xVar 3) (xCons (xIx (xVar 1) (xVar 2)) (xNil)))))
def b__law_same_e1 (self : AFun) : Fr → Res AV :=
  xVar 2
def b__law_same (self : AFun) : Fr → SRes :=
  sSeq (sIf (xB (xOp2 dNe (xCall m__law_sort (xCons (xVar 0) (xNil))) (xCall m__law_sort (xCons (xVar 1) (xNil))))) (sRet (xC (.bool false))) (sNx))
  (sSeq (sIf (xNot (xB (xIsi (fun y => isi "tuple" y || isi "list" y) (xVar 0)))) (sRet (xOp2 dEq (xVar 0) (xVar 1))) (sNx))
  (sSeq (sIf (xB (xOp2 dNe (xB1 dLen (xCons (xVar 0) (xNil))) (xB1 dLen (xCons (xVar 1) (xNil))))) (sRet (xC (.bool false))) (sNx))
  (sRet (xOp2 dEq (xComp [2, 3] (xEnum (xVar 0)) (tNames [2, 3]) (b__law_same_t1 self) (b__law_same_e1 self)) (xLst (xNil))))))
def m__law_same : Nat → AFun
  | 0 => fun _ _ => .err
  | n + 1 => mkFun 4 2 (b__law_same (m__law_same n))

def b__law_days_t1 : Fr → Res Bool :=
  xB (xOp2 dEq (xIx (xVar 2) (xC (.int 0))) (xVar 1))
def b__law_days_e1 : Fr → Res AV :=
  xIx (xVar 2) (xC (.int 3))
def b__law_days : Fr → SRes :=
  sRet (xIx (xComp [2] (xItems (xVar 0)) (tName 2) (b__law_days_t1) (b__law_days_e1)) (xC (.int 0)))
def m__law_days : AFun := mkFun 3 2 b__law_days

def b__law_is_over : Fr → SRes :=
  sRet (xOp2 dGt (xVar 2) (xOp2 dAdd (xIx (xVar 1) (xC (.int 1))) (xCall m__law_days (xCons (xVar 0) (xCons (xIx (xVar 1) (xC (.int 0))) (xNil))))))
def m__law_is_over : AFun := mkFun 3 3 b__law_is_over


theorem eqOk_str (a : Str) (y : PyData) : eqOk (.str a) y = true := by unfold eqOk; exact decide_eq_true (by simp [PyData.depth])
theorem eqOk_int (a : Int) (y : PyData) : eqOk (.int a) y = true := by unfold eqOk; exact decide_eq_true (by simp [PyData.depth])
theorem eqOk_r {x y : PyData} (h : y.depth ≤ 64) : eqOk x y = true := by unfold eqOk; exact decide_eq_true (by omega)
theorem eqOk_l {x y : PyData} (h : x.depth ≤ 64) : eqOk x y = true := by unfold eqOk; exact decide_eq_true (by omega)
/-! ### a good by its name -/
def gfind (gs : List PyData) (z : Str) : Option PyData := gs.find? fun g => PyData.eqv (nmD g) (.str z)
theorem gd_ix {g : PyData} (h : IsGd g) : dIx g (.int 0) = some (nmD g) := by cases h; simp [dIx, atI, ixN, nmD]
def dayOf : PyData → Int
  | .tuple [_, _, _, .int c, _] => c
  | _ => 0
theorem gd_ix3 {g : PyData} (h : IsGd g) : dIx g (.int 3) = some (.int (dayOf g)) := by cases h; simp [dIx, atI, ixN, dayOf]
theorem good_loop (T : AV) (z : Str) : ∀ (gs : List PyData) (v : Option AV), (∀ g ∈ gs, IsGd g) → ∀ g, gfind gs z = some g → ∃ fr', forA (tName 2) b_good_of_l1 gs ⟨[some T, some (.dat (.str z)), v], [], 0⟩ = .ret (.dat g) fr' ∧ fr'.cells = []
  | [], v, _, g, e => by cases e
  | x :: gs, v, h, g, e => by
    have hx := gd_ix (h x (List.mem_cons_self ..))
    have eo : eqOk (nmD x) (.str z) = true := eqOk_r (by simp [PyData.depth])
    unfold gfind at e
    rw [List.find?_cons] at e
    unfold forA
    cases q : PyData.eqv (nmD x) (.str z) with
    | true =>
      rw [q] at e
      cases e
      simp [b_good_of_l1, hx, dEq, eo, q]
    | false =>
      rw [q] at e
      obtain ⟨fr', h1, h2⟩ := good_loop T z gs (some (.dat x)) (fun g hg => h g (List.mem_cons_of_mem _ hg)) g e
      refine ⟨fr', ?_, h2⟩
      have hb : b_good_of_l1 ⟨[some T, some (.dat (.str z)), some (.dat x)], [], 0⟩ = .nx ⟨[some T, some (.dat (.str z)), some (.dat x)], [], 0⟩ := by simp [b_good_of_l1, hx, dEq, eo, q]
      simp [hb, h1]
theorem s_good_of {gs : List PyData} {z : Str} {g : PyData} (h : ∀ g ∈ gs, IsGd g) (e : gfind gs z = some g) : m_good_of [.dat (.tuple gs), .dat (.str z)] [] = .ok (.dat g) [] := by
  obtain ⟨fr', h1, h2⟩ := good_loop (.dat (.tuple gs)) z gs none h g e
  unfold m_good_of b_good_of
  simp [h1, h2]
theorem find_filter {α : Type} (p : α → Bool) : ∀ (l : List α) (x : α), l.find? p = some x → ∃ r, l.filter p = x :: r
  | [], x, e => by cases e
  | a :: l, x, e => by
    rw [List.find?_cons] at e
    cases q : p a with
    | true => rw [q] at e; cases e; exact ⟨l.filter p, by rw [List.filter_cons_of_pos q]⟩
    | false =>
      rw [q] at e
      obtain ⟨r, h⟩ := find_filter p l x e
      exact ⟨r, by rw [List.filter_cons_of_neg (by rw [q]; decide)]; exact h⟩
theorem s_days {gs : List PyData} {z : Str} {g : PyData} (h : ∀ g ∈ gs, IsGd g) (hl : gs.length ≤ 1000000) (e : gfind gs z = some g) : m__law_days [.dat (.tuple gs), .dat (.str z)] [] = .ok (.dat (.int (dayOf g))) [] := by
  have ec := compA_pure (own := [2]) (g := tName 2) (t := b__law_days_t1) (f := b__law_days_e1) (vars := [some (.dat (.tuple gs)), some (.dat (.str z)), none]) (bs := 0) (cs := []) (fun g => PyData.eqv (nmD g) (.str z)) (fun g => .int (dayOf g)) gs [] fun y hy => by
    have hx := gd_ix (h y hy)
    have eo : eqOk (nmD y) (.str z) = true := eqOk_r (by simp [PyData.depth])
    refine ⟨_, ⟨[some (.dat (.tuple gs)), some (.dat (.str z)), some (.dat y)], [], 0⟩, rfl, ?_, rfl, fun _ => ⟨⟨[some (.dat (.tuple gs)), some (.dat (.str z)), some (.dat y)], [], 0⟩, ?_, rfl⟩⟩
    · simp [b__law_days_t1, hx, dEq, eo]
    · simp [b__law_days_e1, gd_ix3 (h y hy)]
  obtain ⟨r, hr⟩ := find_filter _ gs g e
  rw [hr, List.nil_append] at ec
  unfold m__law_days b__law_days
  simp [xComp, ec, hl, dIx, atI, ixN]
/-! ### lots that are over -/
/-- of a lot: its good is there -/
def overB (gs : List PyData) (day : Int) : PyData → Bool
  | .tuple [.str z, .int t, _] => (match gfind gs z with
    | some g => decide (t + dayOf g < day)
    | none => false)
  | _ => false
theorem gfind_some {gs : List PyData} {z : Str} (h : PyData.str z ∈ gs.map nmD) : ∃ g, gfind gs z = some g := by
  obtain ⟨g, hg, e⟩ := List.mem_map.mp h
  cases q : gfind gs z with
  | some g => exact ⟨g, rfl⟩
  | none =>
    have := List.find?_eq_none.mp q g hg
    rw [e] at this
    exact absurd (show PyData.eqv (.str z) (.str z) = true by simp [PyData.eqv]) this
theorem s_is_over {gs : List PyData} {l : PyData} {day : Int} (h : ∀ g ∈ gs, IsGd g) (hl : IsLot (gs.map nmD) l) : m_is_over [.dat (.tuple gs), .dat l, .dat (.int day)] [] = .ok (.dat (.bool (overB gs day l))) [] := by
  cases hl with
  | @mk z t x h1 h2 h3 h4 =>
    obtain ⟨g, hg⟩ := gfind_some h1
    have e := s_good_of h hg
    have hi := gd_ix3 (h g (List.mem_of_find?_eq_some hg))
    unfold m_is_over b_is_over
    simp [dIx, atI, ixN] at hi ⊢
    simp [e, hi, dAdd, dGt, overB, hg]
theorem s_lis_over {gs : List PyData} {l : PyData} {day : Int} (h : ∀ g ∈ gs, IsGd g) (hz : gs.length ≤ 1000000) (hl : IsLot (gs.map nmD) l) : m__law_is_over [.dat (.tuple gs), .dat l, .dat (.int day)] [] = .ok (.dat (.bool (overB gs day l))) [] := by
  cases hl with
  | @mk z t x h1 h2 h3 h4 =>
    obtain ⟨g, hg⟩ := gfind_some h1
    have e := s_days h hz hg
    unfold m__law_is_over b__law_is_over
    simp [dIx, atI, ixN, e, dAdd, dGt, overB, hg]
theorem s_over {gs ls : List PyData} {day : Int} (h : ∀ g ∈ gs, IsGd g) (hl : ∀ l ∈ ls, IsLot (gs.map nmD) l) (hz : ls.length ≤ 1000000) : m_over [.dat (.tuple gs), .dat (.tuple ls), .dat (.int day)] [] = .ok (.dat (.list (ls.filter (overB gs day)))) [] := by
  have ec := compA_pure (own := [3]) (g := tName 3) (t := b_over_t1) (f := b_over_e1) (vars := [some (.dat (.tuple gs)), some (.dat (.tuple ls)), some (.dat (.int day)), none]) (bs := 0) (cs := []) (overB gs day) id ls [] fun y hy => by
    refine ⟨_, ⟨[some (.dat (.tuple gs)), some (.dat (.tuple ls)), some (.dat (.int day)), some (.dat y)], [], 0⟩, rfl, ?_, rfl, fun _ => ⟨⟨[some (.dat (.tuple gs)), some (.dat (.tuple ls)), some (.dat (.int day)), some (.dat y)], [], 0⟩, ?_, rfl⟩⟩
    · simp [b_over_t1, s_is_over h (hl y hy)]
    · simp [b_over_e1]
  rw [List.map_id, List.nil_append] at ec
  unfold m_over b_over
  simp [xComp, ec, hz]
theorem s_kept {gs ls : List PyData} {day : Int} (h : ∀ g ∈ gs, IsGd g) (hl : ∀ l ∈ ls, IsLot (gs.map nmD) l) (hz : ls.length ≤ 1000000) : m_kept [.dat (.tuple gs), .dat (.tuple ls), .dat (.int day)] [] = .ok (.dat (.tuple (ls.filter fun l => !overB gs day l))) [] := by
  have ec := compA_pure (own := [3]) (g := tName 3) (t := b_kept_t1) (f := b_kept_e1) (vars := [some (.dat (.tuple gs)), some (.dat (.tuple ls)), some (.dat (.int day)), none]) (bs := 0) (cs := []) (fun l => !overB gs day l) id ls [] fun y hy => by
    refine ⟨_, ⟨[some (.dat (.tuple gs)), some (.dat (.tuple ls)), some (.dat (.int day)), some (.dat y)], [], 0⟩, rfl, ?_, rfl, fun _ => ⟨⟨[some (.dat (.tuple gs)), some (.dat (.tuple ls)), some (.dat (.int day)), some (.dat y)], [], 0⟩, ?_, rfl⟩⟩
    · simp [b_kept_t1, s_is_over h (hl y hy)]
    · simp [b_kept_e1]
  rw [List.map_id, List.nil_append] at ec
  unfold m_kept b_kept
  simp [xComp, ec, hz]
/-! ### likeness -/
inductive Pl : Nat → PyData → Prop
  | non {n : Nat} : Pl n .none
  | bool {n : Nat} {i : Bool} : Pl n (.bool i)
  | int {n : Nat} {i : Int} : Pl n (.int i)
  | str {n : Nat} {i : Str} : Pl n (.str i)
  | tup {n : Nat} {xs : List PyData} : xs.length ≤ 1000000 → (∀ x ∈ xs, Pl n x) → Pl (n + 1) (.tuple xs)
  | lst {n : Nat} {xs : List PyData} : xs.length ≤ 1000000 → (∀ x ∈ xs, Pl n x) → Pl (n + 1) (.list xs)
def srtN : PyData → Str
  | .bool _ => "truth"
  | .int _ => "number"
  | .tuple _ => "tuple"
  | .list _ => "list"
  | _ => "other"
theorem s_sort (x : PyData) : m__law_sort [.dat x] [] = .ok (.dat (.str (srtN x))) [] := by
  unfold m__law_sort b__law_sort
  cases x <;> simp [isi, isiN, tyN, srtN]
theorem eqv_self : ∀ {n : Nat} {x : PyData}, Pl n x → PyData.eqv x x = true := by
  intro n
  induction n with
  | zero => intro x h; cases h <;> simp [PyData.eqv]
  | succ n ih =>
    intro x h
    have all : ∀ xs : List PyData, (∀ x ∈ xs, Pl n x) → PyData.eqvAll xs xs = true := by
      intro xs
      induction xs with
      | nil => intro _; rfl
      | cons a xs ih2 =>
        intro h
        simp only [PyData.eqvAll, Bool.and_eq_true]
        exact ⟨ih (h a (List.mem_cons_self ..)), ih2 fun x hx => h x (List.mem_cons_of_mem _ hx)⟩
    cases h with
    | tup h1 h2 => simpa [PyData.eqv] using all _ h2
    | lst h1 h2 => simpa [PyData.eqv] using all _ h2
    | _ => simp [PyData.eqv]
theorem depth_Pl : ∀ {n : Nat} {x : PyData}, Pl n x → x.depth ≤ n := by
  intro n
  induction n with
  | zero => intro x h; cases h <;> simp [PyData.depth]
  | succ n ih =>
    intro x h
    have all : ∀ xs : List PyData, (∀ x ∈ xs, Pl n x) → PyData.depthAll xs ≤ n := by
      intro xs
      induction xs with
      | nil => intro _; simp [PyData.depthAll]
      | cons a xs ih2 =>
        intro h
        simp only [PyData.depthAll]
        exact Nat.max_le.mpr ⟨ih (h a (List.mem_cons_self ..)), ih2 fun x hx => h x (List.mem_cons_of_mem _ hx)⟩
    cases h with
    | tup h1 h2 => have := all _ h2; simp [PyData.depth]; omega
    | lst h1 h2 => have := all _ h2; simp [PyData.depth]; omega
    | _ => simp [PyData.depth]
theorem same_seq {m : AFun} {xs : List PyData} (X : PyData) (hX : X = .list xs ∨ X = .tuple xs) (hl : xs.length ≤ 1000000) (h : ∀ x ∈ xs, m [.dat x, .dat x] [] = .ok (.dat (.bool true)) []) : mkFun 4 2 (b__law_same m) [.dat X, .dat X] [] = .ok (.dat (.bool true)) [] := by
  have ec := compA_pure (own := [2, 3]) (g := tNames [2, 3]) (t := b__law_same_t1 m) (f := b__law_same_e1 m) (vars := [some (.dat X), some (.dat X), none, none]) (bs := 0) (cs := []) (fun _ => false) id (enumD xs) [] fun y hy => by
    obtain ⟨i, hi⟩ := mem_at hy
    obtain ⟨x, h1, rfl⟩ := enumD_at hi
    have hx := h x (List.mem_of_getElem? h1)
    have hlt := lt_of_at h1
    have hix : dIx X (.int (i : Nat)) = some x := by
      have : atI xs (i : Nat) = some x := by
        unfold atI ixN
        simp [hlt]
        exact (List.getElem?_eq_some_iff.mp h1).2
      rcases hX with rfl | rfl <;> exact this
    refine ⟨_, ⟨[some (.dat X), some (.dat X), some (.dat (.int (i : Nat))), some (.dat x)], [], 0⟩, rfl, ?_, rfl, fun z => by cases z⟩
    simp [b__law_same_t1, hix, hx]
  have hl2 : (enumD xs).length ≤ 1000000 := by rw [enumD_len]; exact hl
  have ef : ((enumD xs).filter fun _ => false) = [] := by simp
  rw [ef] at ec
  have e0 : eqOk (.list []) (.list []) = true := eqOk_l (by simp [PyData.depth, PyData.depthAll])
  unfold b__law_same
  rcases hX with rfl | rfl
  · simp [s_sort, srtN, dNe, eqOk_str, isi, isiN, tyN, PyData.eqv, eqOk_int, xComp, ec, hl2, dEq, e0, PyData.eqvAll]
  · simp [s_sort, srtN, dNe, eqOk_str, isi, isiN, tyN, PyData.eqv, eqOk_int, xComp, ec, hl2, dEq, e0, PyData.eqvAll]
theorem s_same : ∀ {n m : Nat} {x : PyData}, Pl n x → n < m → m__law_same m [.dat x, .dat x] [] = .ok (.dat (.bool true)) [] := by
  intro n
  have low : ∀ (m : Nat) (x : PyData), PyData.eqv x x = true → x.depth = 0 → (isi "tuple" x || isi "list" x) = false → m__law_same (m + 1) [.dat x, .dat x] [] = .ok (.dat (.bool true)) [] := fun m x h1 h2 h3 => by
    have e0 : eqOk x x = true := eqOk_l (by omega)
    have h3' : (isi "tuple" x) = false ∧ (isi "list" x) = false := by simpa using h3
    show mkFun 4 2 (b__law_same (m__law_same m)) _ _ = _
    unfold b__law_same
    simp [s_sort, dNe, eqOk_str, PyData.eqv, h3', dEq, e0, h1]
  induction n with
  | zero =>
    intro m x h hm
    obtain ⟨k, rfl⟩ : ∃ k, m = k + 1 := ⟨m - 1, by omega⟩
    have e := eqv_self h
    cases h <;> exact low k _ e (by simp [PyData.depth]) (by simp [isi, isiN, tyN])
  | succ n ih =>
    intro m x h hm
    obtain ⟨k, rfl⟩ : ∃ k, m = k + 1 := ⟨m - 1, by omega⟩
    have e := eqv_self h
    cases h with
    | tup h1 h2 => exact same_seq _ (.inr rfl) h1 fun x hx => ih (h2 x hx) (by omega)
    | lst h1 h2 => exact same_seq _ (.inl rfl) h1 fun x hx => ih (h2 x hx) (by omega)
    | _ => exact low k _ e (by simp [PyData.depth]) (by simp [isi, isiN, tyN])
end G
namespace G
section
variable {S : Type} [DecidableEq S]
structure Lt (S : Type) where
  nm : S
  t : Int
  q : Rat
def upf (w : S → Rat) (n : S) (v : Rat) : S → Rat := fun m => if m = n then v else w m
/-- so much of a name -/
def sumOf (ls : List (Lt S)) (n : S) : Rat := ((ls.filter fun l => l.nm = n).map (·.q)).sum
theorem sumOf_nil (n : S) : sumOf ([] : List (Lt S)) n = 0 := rfl
theorem sumOf_cons (l : Lt S) (ls : List (Lt S)) (n : S) : sumOf (l :: ls) n = (if l.nm = n then l.q else 0) + sumOf ls n := by
  unfold sumOf
  by_cases h : l.nm = n
  · rw [if_pos h, List.filter_cons_of_pos (by simpa using h), List.map_cons, List.sum_cons]
  · rw [if_neg h, List.filter_cons_of_neg (by simpa using h)]; grind
theorem sumOf_append (ls ms : List (Lt S)) (n : S) : sumOf (ls ++ ms) n = sumOf ls n + sumOf ms n := by
  induction ls with
  | nil => rw [List.nil_append, sumOf_nil]; grind
  | cons l ls ih => rw [List.cons_append, sumOf_cons, sumOf_cons, ih]; grind
def wantT (ov : Lt S → Bool) (w : S → Rat) (l : Lt S) : Rat := if ov l then 0 else w l.nm
def partT (ov : Lt S → Bool) (w : S → Rat) (l : Lt S) : Rat := if l.q < wantT ov w l then l.q else wantT ov w l
def nextW (ov : Lt S → Bool) (w : S → Rat) (l : Lt S) : S → Rat := if 0 < partT ov w l then upf w l.nm (wantT ov w l - partT ov w l) else w
def rowT (ov : Lt S → Bool) (w : S → Rat) (l : Lt S) : List (Lt S) := if 0 < partT ov w l then [⟨l.nm, l.t, partT ov w l⟩] else []
def restT (ov : Lt S → Bool) (w : S → Rat) (l : Lt S) : List (Lt S) := if partT ov w l ≠ l.q then [⟨l.nm, l.t, l.q - partT ov w l⟩] else []
def takeR (ov : Lt S → Bool) : List (Lt S) → (S → Rat) → List (Lt S)
  | [], _ => []
  | l :: ls, w => rowT ov w l ++ takeR ov ls (nextW ov w l)
def takeL (ov : Lt S → Bool) : List (Lt S) → (S → Rat) → List (Lt S)
  | [], _ => []
  | l :: ls, w => restT ov w l ++ takeL ov ls (nextW ov w l)
variable {ov : Lt S → Bool} {w : S → Rat} {l : Lt S} {ls : List (Lt S)}
theorem part_spec (hw : ∀ n, 0 ≤ w n) (hq : 0 < l.q) : 0 ≤ partT ov w l ∧ partT ov w l ≤ l.q ∧ partT ov w l ≤ wantT ov w l ∧ (partT ov w l = l.q ∨ partT ov w l = wantT ov w l) := by
  have : 0 ≤ wantT ov w l := by unfold wantT; split; exact Rat.le_refl; exact hw _
  unfold partT
  split <;> grind
theorem nextW_nn (hw : ∀ n, 0 ≤ w n) (hq : 0 < l.q) : ∀ n, 0 ≤ nextW ov w l n := by
  intro n
  have := part_spec (ov := ov) hw hq
  unfold nextW
  split
  · show 0 ≤ if n = l.nm then _ else _
    split
    · grind
    · exact hw n
  · exact hw n
theorem nextW_eq (hw : ∀ n, 0 ≤ w n) (hq : 0 < l.q) (n : S) : nextW ov w l n = w n - (if l.nm = n then partT ov w l else 0) := by
  have h := part_spec (ov := ov) hw hq
  unfold nextW
  by_cases hp : 0 < partT ov w l
  · rw [if_pos hp]
    have ho : ov l = false := by
      cases q : ov l with
      | false => rfl
      | true => unfold wantT at h; rw [q] at h; simp at h; grind
    unfold upf wantT
    rw [ho]
    by_cases e : n = l.nm
    · subst e; simp
    · rw [if_neg e, if_neg (Ne.symm e)]; grind
  · rw [if_neg hp]
    have : partT ov w l = 0 := by grind
    rw [this]; split <;> grind
theorem takeR_zero (hw : ∀ n, 0 ≤ w n) (hq : ∀ l ∈ ls, 0 < l.q) {n : S} (h0 : w n = 0) : ∀ r ∈ takeR ov ls w, r.nm ≠ n := by
  induction ls generalizing w with
  | nil => intro r hr; cases hr
  | cons l ls ih =>
    intro r hr
    have hl := hq l (List.mem_cons_self ..)
    rcases List.mem_append.mp hr with hr | hr
    · unfold rowT at hr
      split at hr
      · rename_i hp
        have := part_spec (ov := ov) hw hl
        cases List.mem_singleton.mp hr
        intro e
        have e : l.nm = n := e
        have : wantT ov w l = 0 := by unfold wantT; split; rfl; rw [e]; exact h0
        grind
      · cases hr
    · refine ih (nextW_nn hw hl) (fun l h => hq l (List.mem_cons_of_mem _ h)) ?_ r hr
      have := nextW_nn (ov := ov) hw hl n
      rw [nextW_eq hw hl, h0] at this ⊢
      have h := part_spec (ov := ov) hw hl
      split
      · rename_i e; rw [if_pos e] at this; grind
      · grind
theorem take_sum (hw : ∀ n, 0 ≤ w n) (hq : ∀ l ∈ ls, 0 < l.q) (n : S) : sumOf (takeR ov ls w) n + sumOf (takeL ov ls w) n = sumOf ls n := by
  induction ls generalizing w with
  | nil => unfold takeR takeL; rw [sumOf_nil]; grind
  | cons l ls ih =>
    have hl := hq l (List.mem_cons_self ..)
    have ih := ih (nextW_nn (ov := ov) hw hl) fun l h => hq l (List.mem_cons_of_mem _ h)
    have h := part_spec (ov := ov) hw hl
    unfold takeR takeL
    rw [sumOf_append, sumOf_append, sumOf_cons]
    have : sumOf (rowT ov w l) n + sumOf (restT ov w l) n = if l.nm = n then l.q else 0 := by
      unfold rowT restT
      by_cases e : l.nm = n
      · rw [if_pos e]
        split <;> split <;> simp only [sumOf_cons, sumOf_nil, e, if_true] <;> grind
      · rw [if_neg e]
        split <;> split <;> simp only [sumOf_cons, sumOf_nil, e, if_false] <;> grind
    grind
/-- what is there -/
def avail (ov : Lt S → Bool) (ls : List (Lt S)) (n : S) : Rat := sumOf (ls.filter fun l => !ov l) n
theorem avail_nn (hq : ∀ l ∈ ls, 0 < l.q) (n : S) : 0 ≤ avail ov ls n := by
  unfold avail
  induction ls with
  | nil => exact Rat.le_refl
  | cons l ls ih =>
    have ih := ih fun l h => hq l (List.mem_cons_of_mem _ h)
    have := hq l (List.mem_cons_self ..)
    rw [List.filter_cons]
    split
    · rw [sumOf_cons]; split <;> grind
    · exact ih
theorem take_want (hw : ∀ n, 0 ≤ w n) (hq : ∀ l ∈ ls, 0 < l.q) (n : S) (h : w n ≤ avail ov ls n) : sumOf (takeR ov ls w) n = w n := by
  induction ls generalizing w with
  | nil =>
    have := hw n
    unfold takeR; rw [sumOf_nil]; unfold avail at h; rw [List.filter_nil, sumOf_nil] at h; grind
  | cons l ls ih =>
    have hl := hq l (List.mem_cons_self ..)
    have hq' : ∀ l ∈ ls, 0 < l.q := fun l h => hq l (List.mem_cons_of_mem _ h)
    have hp := part_spec (ov := ov) hw hl
    have hn := nextW_eq (ov := ov) hw hl n
    have nn := nextW_nn (ov := ov) hw hl n
    have ra : sumOf (rowT ov w l) n = if l.nm = n then partT ov w l else 0 := by
      unfold rowT
      by_cases e : l.nm = n
      · rw [if_pos e]; split <;> simp only [sumOf_cons, sumOf_nil, e, if_true] <;> grind
      · rw [if_neg e]; split <;> simp only [sumOf_cons, sumOf_nil, e, if_false] <;> grind
    have av : avail ov (l :: ls) n = (if l.nm = n ∧ ov l = false then l.q else 0) + avail ov ls n := by
      unfold avail
      rw [List.filter_cons]
      cases o : ov l with
      | true => simp; grind
      | false => simp [sumOf_cons]
    have av0 := avail_nn (ov := ov) hq' n
    unfold takeR
    rw [sumOf_append, ra, ih (nextW_nn hw hl) hq' ?_, hn]
    · split <;> grind
    · rw [hn]
      rw [av] at h
      by_cases e : l.nm = n
      · rw [if_pos e]
        cases o : ov l with
        | true => simp [e, o] at h; grind
        | false =>
          simp [e, o] at h
          have : wantT ov w l = w n := by unfold wantT; rw [o, e]; simp
          grind
      · simp [e] at h ⊢
        grind
theorem row_mem (hw : ∀ n, 0 ≤ w n) (hq : ∀ l ∈ ls, 0 < l.q) : ∀ r ∈ takeR ov ls w, ∃ l ∈ ls, ov l = false ∧ r.nm = l.nm ∧ r.t = l.t ∧ 0 < r.q ∧ r.q ≤ l.q := by
  induction ls generalizing w with
  | nil => intro r hr; cases hr
  | cons l ls ih =>
    intro r hr
    have hl := hq l (List.mem_cons_self ..)
    rcases List.mem_append.mp hr with hr | hr
    · have h := part_spec (ov := ov) hw hl
      unfold rowT at hr
      split at hr
      · rename_i hp
        cases List.mem_singleton.mp hr
        refine ⟨l, List.mem_cons_self .., ?_, rfl, rfl, hp, h.2.1⟩
        cases q : ov l with
        | false => rfl
        | true => unfold wantT at h; rw [q] at h; simp at h; grind
      · cases hr
    · obtain ⟨m, h1, h2⟩ := ih (nextW_nn hw hl) (fun l h => hq l (List.mem_cons_of_mem _ h)) r hr
      exact ⟨m, List.mem_cons_of_mem _ h1, h2⟩
theorem rest_mem (hw : ∀ n, 0 ≤ w n) (hq : ∀ l ∈ ls, 0 < l.q) : ∀ r ∈ takeL ov ls w, ∃ l ∈ ls, r.nm = l.nm ∧ r.t = l.t ∧ 0 < r.q ∧ r.q ≤ l.q := by
  induction ls generalizing w with
  | nil => intro r hr; cases hr
  | cons l ls ih =>
    intro r hr
    have hl := hq l (List.mem_cons_self ..)
    rcases List.mem_append.mp hr with hr | hr
    · have h := part_spec (ov := ov) hw hl
      unfold restT at hr
      split at hr
      · rename_i hp
        cases List.mem_singleton.mp hr
        refine ⟨l, List.mem_cons_self .., rfl, rfl, ?_, ?_⟩
        · show 0 < l.q - partT ov w l; grind
        · show l.q - partT ov w l ≤ l.q; grind
      · cases hr
    · obtain ⟨m, h1, h2⟩ := ih (nextW_nn hw hl) (fun l h => hq l (List.mem_cons_of_mem _ h)) r hr
      exact ⟨m, List.mem_cons_of_mem _ h1, h2⟩
abbrev keyT (l : Lt S) : S × Int := (l.nm, l.t)
theorem row_sub : List.Sublist ((takeR ov ls w).map keyT) (ls.map keyT) := by
  induction ls generalizing w with
  | nil => exact .slnil
  | cons l ls ih =>
    unfold takeR rowT
    rw [List.map_append, List.map_cons]
    split
    · exact .cons_cons _ ih
    · exact .cons _ ih
theorem rest_sub : List.Sublist ((takeL ov ls w).map keyT) (ls.map keyT) := by
  induction ls generalizing w with
  | nil => exact .slnil
  | cons l ls ih =>
    unfold takeL restT
    rw [List.map_append, List.map_cons]
    split
    · exact .cons_cons _ ih
    · exact .cons _ ih
theorem rest_over (hk : ∀ l m : Lt S, keyT l = keyT m → ov l = ov m) (hq : ∀ l ∈ ls, 0 < l.q) : (takeL ov ls w).filter ov = ls.filter ov := by
  induction ls generalizing w with
  | nil => rfl
  | cons l ls ih =>
    have ih := ih (w := nextW ov w l) fun l h => hq l (List.mem_cons_of_mem _ h)
    have hl := hq l (List.mem_cons_self ..)
    unfold takeL
    rw [List.filter_append, ih]
    cases o : ov l with
    | true =>
      have e : partT ov w l = 0 := by unfold partT wantT; rw [o]; simp; grind
      unfold restT
      rw [e, if_pos (by grind), List.filter_cons_of_pos (by rw [← o]; exact hk _ _ rfl), List.filter_cons_of_pos o]
      have : (⟨l.nm, l.t, l.q - 0⟩ : Lt S) = l := by cases l; simp; grind
      rw [this]; rfl
    | false =>
      rw [List.filter_cons_of_neg (by rw [o]; decide)]
      have : (restT ov w l).filter ov = [] := by
        unfold restT
        split
        · rw [List.filter_cons_of_neg (by rw [hk ⟨l.nm, l.t, l.q - partT ov w l⟩ l rfl, o]; decide)]; rfl
        · rfl
      rw [this]; rfl
/-- elder ones first -/
theorem elder (hk : ∀ l m : Lt S, keyT l = keyT m → ov l = ov m) (hw : ∀ n, 0 ≤ w n) (hq : ∀ l ∈ ls, 0 < l.q) (hr : ls.Pairwise fun a b => a.nm = b.nm → a.t < b.t) :
    ∀ r ∈ takeR ov ls w, ∀ h ∈ takeL ov ls w, ov h = false → h.nm = r.nm → ¬ h.t < r.t := by
  induction ls generalizing w with
  | nil => intro r hr; cases hr
  | cons l ls ih =>
    have hl := hq l (List.mem_cons_self ..)
    have hq' : ∀ l ∈ ls, 0 < l.q := fun l h => hq l (List.mem_cons_of_mem _ h)
    have hp := part_spec (ov := ov) hw hl
    rw [List.pairwise_cons] at hr
    intro r h1 h h2 ho hn
    rcases List.mem_append.mp h1 with h1 | h1
    · rcases List.mem_append.mp h2 with h2 | h2
      · have e1 : r.t = l.t := by
          unfold rowT at h1; split at h1
          · cases List.mem_singleton.mp h1; rfl
          · cases h1
        have e2 : h.t = l.t := by
          unfold restT at h2; split at h2
          · cases List.mem_singleton.mp h2; rfl
          · cases h2
        omega
      · obtain ⟨m, m1, m2, m3, _⟩ := rest_mem (nextW_nn hw hl) hq' h h2
        have e1 : r.nm = l.nm ∧ r.t = l.t := by
          unfold rowT at h1; split at h1
          · cases List.mem_singleton.mp h1; exact ⟨rfl, rfl⟩
          · cases h1
        have := hr.1 m m1 (by rw [← m2, hn, e1.1])
        omega
    · rcases List.mem_append.mp h2 with h2 | h2
      · exfalso
        unfold restT at h2
        split at h2
        · rename_i hne
          cases List.mem_singleton.mp h2
          have ol : ov l = false := by rw [← ho]; exact hk _ _ rfl
          have hn : l.nm = r.nm := hn
          refine takeR_zero (n := l.nm) (nextW_nn hw hl) hq' ?_ r h1 hn.symm
          rw [nextW_eq hw hl, if_pos rfl]
          have : wantT ov w l = w l.nm := by unfold wantT; rw [ol]; simp
          grind
        · cases h2
      · exact ih (nextW_nn hw hl) hq' hr.2 r h1 h h2 ho hn
end
end G
/-! NA: loops over typed items; fractions. -/
namespace G
open PySem PySem.Spec PyProof.Rows L2

theorem forA_typed {α : Type} {g : Tg} {b : Fr → SRes} (enc : α → PyData) (P : List α → Fr → Prop) (xs : List α) (fr : Fr) (h0 : P [] fr)
    (st : ∀ done x rest fr, xs = done ++ x :: rest → P done fr → ∃ fr1 fr2, g (enc x) fr = some fr1 ∧ (b fr1 = .nx fr2 ∨ b fr1 = .ct fr2) ∧ P (done ++ [x]) fr2) : ∃ fr', forA g b (xs.map enc) fr = .nx fr' ∧ P xs fr' := by
  have go : ∀ (zs done : List α) (fr : Fr), xs = done ++ zs → P done fr → ∃ fr', forA g b (zs.map enc) fr = .nx fr' ∧ P xs fr' := by
    intro zs
    induction zs with
    | nil => intro done fr e h; exact ⟨fr, rfl, by rw [e, List.append_nil]; exact h⟩
    | cons y zs ih =>
      intro done fr e h
      obtain ⟨fr1, fr2, h1, h2, h3⟩ := st done y zs fr e h
      obtain ⟨fr', h4, h5⟩ := ih (done ++ [y]) fr2 (by rw [e]; simp) h3
      refine ⟨fr', ?_, h5⟩
      rw [List.map_cons]
      unfold forA
      rw [h1]
      rcases h2 with h2 | h2 <;> simp only [h2] <;> exact h4
  exact go xs [] fr rfl h0
/-- a loop that may hand out: at the first x with p -/
theorem forA_first {α : Type} {g : Tg} {b : Fr → SRes} (enc : α → PyData) (p : α → Bool) (R : α → AV → Fr → Prop) (P : Fr → Prop) : ∀ (xs : List α) (fr : Fr), P fr →
    (∀ x ∈ xs, ∀ fr, P fr → ∃ fr1, g (enc x) fr = some fr1 ∧ (p x = true → ∃ a fr2, b fr1 = .ret a fr2 ∧ R x a fr2) ∧ (p x = false → ∃ fr2, (b fr1 = .nx fr2 ∨ b fr1 = .ct fr2) ∧ P fr2)) →
    (∀ x, xs.find? p = some x → ∃ a fr', forA g b (xs.map enc) fr = .ret a fr' ∧ R x a fr') ∧ (xs.find? p = none → ∃ fr', forA g b (xs.map enc) fr = .nx fr' ∧ P fr')
  | [], fr, h, _ => ⟨(fun x e => nomatch e), fun _ => ⟨fr, rfl, h⟩⟩
  | x :: xs, fr, h, st => by
    obtain ⟨fr1, h1, h2, h3⟩ := st x (List.mem_cons_self ..) fr h
    cases q : p x with
    | true =>
      obtain ⟨a, fr2, h4, h5⟩ := h2 q
      rw [List.find?_cons, q]
      refine ⟨fun y e => ?_, fun e => nomatch e⟩
      cases e
      refine ⟨a, fr2, ?_, h5⟩
      rw [List.map_cons]
      unfold forA
      rw [h1]
      simp only [h4]
    | false =>
      obtain ⟨fr2, h4, h5⟩ := h3 q
      obtain ⟨i1, i2⟩ := forA_first enc p R P xs fr2 h5 fun y hy => st y (List.mem_cons_of_mem _ hy)
      rw [List.find?_cons, q]
      have e : forA g b ((x :: xs).map enc) fr = forA g b (xs.map enc) fr2 := by
        rw [List.map_cons]
        unfold forA
        rw [h1]
        rcases h4 with h4 | h4 <;> simp only [h4] <;> (cases xs <;> rfl)
      rw [e]
      exact ⟨i1, i2⟩
theorem compA_typed {α : Type} {own : List Nat} {g : Tg} {t : Fr → Res Bool} {f : Fr → Res AV} {vars : List (Option AV)} {bs : Nat} {cs : List Cell} (enc : α → PyData) (p : α → Bool) (h : α → PyData) (Gx : α → Fr) : ∀ (xs : List α) (acc : List PyData),
    (∀ x ∈ xs, g (enc x) ⟨kill own vars, cs, bs⟩ = some (Gx x)) → (∀ x, (Gx x).cells = cs) → (∀ x ∈ xs, t (Gx x) = .ok (p x) (Gx x)) → (∀ x ∈ xs, p x = true → f (Gx x) = .ok (.dat (h x)) (Gx x)) →
    compA own g t f vars bs (xs.map enc) acc cs = some (acc ++ (xs.filter p).map h, cs)
  | [], acc, _, _, _, _ => by simp [compA]
  | x :: xs, acc, hg, hc, ht, hf => by
    have ih := fun acc => compA_typed enc p h Gx xs acc (fun y hy => hg y (List.mem_cons_of_mem _ hy)) hc (fun y hy => ht y (List.mem_cons_of_mem _ hy)) fun y hy => hf y (List.mem_cons_of_mem _ hy)
    have m := List.mem_cons_self (a := x) (l := xs)
    rw [List.map_cons]
    unfold compA
    rw [hg x m]
    simp only [ht x m]
    cases q : p x with
    | false =>
      simp only [Bool.false_eq_true, if_false]
      rw [hc, ih, List.filter_cons_of_neg (by rw [q]; decide)]
    | true =>
      simp only [if_true, hf x m q]
      rw [hc, ih, List.filter_cons_of_pos q, List.map_cons, List.append_assoc]
      rfl
theorem xComp_typed {α : Type} {own : List Nat} {e : Fr → Res (List PyData)} {g : Tg} {t : Fr → Res Bool} {f : Fr → Res AV} {fr : Fr} (enc : α → PyData) (p : α → Bool) (h : α → PyData) (Gx : α → Fr) (xs : List α) (he : e fr = .ok (xs.map enc) fr) (hl : xs.length ≤ 1000000)
    (hg : ∀ x ∈ xs, g (enc x) ⟨kill own fr.vars, fr.cells, fr.base⟩ = some (Gx x)) (hc : ∀ x, (Gx x).cells = fr.cells) (ht : ∀ x ∈ xs, t (Gx x) = .ok (p x) (Gx x)) (hf : ∀ x ∈ xs, p x = true → f (Gx x) = .ok (.dat (h x)) (Gx x)) :
    xComp own e g t f fr = .ok (.dat (.list ((xs.filter p).map h))) fr := by
  unfold xComp
  rw [he]
  simp only [Res.bind, List.length_map, hl, if_true]
  rw [compA_typed enc p h Gx xs [] hg hc ht hf]
  rfl

/-! ### step by step -/
theorem seq_nx {f g : Fr → SRes} {fr fr1 : Fr} (h : f fr = .nx fr1) : sSeq f g fr = g fr1 := by
  show (f fr).then g = _
  rw [h]; rfl
theorem set_ok {i : Nat} {f : Fr → Res AV} {fr fr1 : Fr} {a : AV} (h : f fr = .ok a fr1) : sSet i f fr = .nx (fr1.setv i (some a)) := by
  show (f fr).toS _ = _
  rw [h]; rfl
theorem if_ok {t : Fr → Res Bool} {f g : Fr → SRes} {fr fr1 : Fr} {b : Bool} (h : t fr = .ok b fr1) : sIf t f g fr = if b = true then f fr1 else g fr1 := by
  show (t fr).toS _ = _
  rw [h]; rfl

/-! ### fractions -/
def b_divisor_t1 : Fr → Res Bool :=
  xB (xOp2 dNe (xVar 1) (xC (.int 0)))
def b_divisor_l1 : Fr → SRes :=
  sPar 0 1 (xCons (xVar 1) (xCons (xOp2 dMod (xVar 0) (xVar 1)) (xNil)))
def b_divisor : Fr → SRes :=
  sSeq (sPar 0 1 (xCons (xB1 dAbs (xCons (xVar 0) (xNil))) (xCons (xB1 dAbs (xCons (xVar 1) (xNil))) (xNil))))
  (sSeq (sWh (b_divisor_t1) (b_divisor_l1) (fun fr => natOf 1 fr + 2))
  (sKill [1] (sRet (xVar 0))))
def m_divisor : AFun := mkFun 2 2 b_divisor

def b_fraction : Fr → SRes :=
  sSeq (sSet 2 (xCall m_divisor (xCons (xVar 0) (xCons (xVar 1) (xNil)))))
  (sRet (xTup (xCons (xOp2 dFdiv (xVar 0) (xVar 2)) (xCons (xOp2 dFdiv (xVar 1) (xVar 2)) (xNil)))))
def m_fraction : AFun := mkFun 3 2 b_fraction

def b_plus : Fr → SRes :=
  sRet (xCall m_fraction (xCons (xOp2 dAdd (xOp2 dMul (xIx (xVar 0) (xC (.int 0))) (xIx (xVar 1) (xC (.int 1)))) (xOp2 dMul (xIx (xVar 1) (xC (.int 0))) (xIx (xVar 0) (xC (.int 1))))) (xCons (xOp2 dMul (xIx (xVar 0) (xC (.int 1))) (xIx (xVar 1) (xC (.int 1)))) (xNil))))
def m_plus : AFun := mkFun 2 2 b_plus

def b_minus : Fr → SRes :=
  sRet (xCall m_fraction (xCons (xOp2 dSub (xOp2 dMul (xIx (xVar 0) (xC (.int 0))) (xIx (xVar 1) (xC (.int 1)))) (xOp2 dMul (xIx (xVar 1) (xC (.int 0))) (xIx (xVar 0) (xC (.int 1))))) (xCons (xOp2 dMul (xIx (xVar 0) (xC (.int 1))) (xIx (xVar 1) (xC (.int 1)))) (xNil))))
def m_minus : AFun := mkFun 2 2 b_minus

def b_times : Fr → SRes :=
  sRet (xCall m_fraction (xCons (xOp2 dMul (xIx (xVar 0) (xC (.int 0))) (xIx (xVar 1) (xC (.int 0)))) (xCons (xOp2 dMul (xIx (xVar 0) (xC (.int 1))) (xIx (xVar 1) (xC (.int 1)))) (xNil))))
def m_times : AFun := mkFun 2 2 b_times

def b_is_less : Fr → SRes :=
  sRet (xOp2 dLt (xOp2 dMul (xIx (xVar 0) (xC (.int 0))) (xIx (xVar 1) (xC (.int 1)))) (xOp2 dMul (xIx (xVar 1) (xC (.int 0))) (xIx (xVar 0) (xC (.int 1)))))
def m_is_less : AFun := mkFun 2 2 b_is_less

def b__law_plus : Fr → SRes :=
  sRet (xCall m__law_frac (xCons (xOp2 dAdd (xOp2 dMul (xIx (xVar 0) (xC (.int 0))) (xIx (xVar 1) (xC (.int 1)))) (xOp2 dMul (xIx (xVar 1) (xC (.int 0))) (xIx (xVar 0) (xC (.int 1))))) (xCons (xOp2 dMul (xIx (xVar 0) (xC (.int 1))) (xIx (xVar 1) (xC (.int 1)))) (xNil))))
def m__law_plus : AFun := mkFun 2 2 b__law_plus

def eR (q : Rat) : PyData := .tuple [.int q.num, .int q.den]
/-- of a size that can be reckoned with -/
def Sm (q : Rat) : Prop := q.den < 2 ^ 1000 ∧ q.num.natAbs < 2 ^ 1000
theorem divisor_loop : ∀ (n x y : Nat) (cs : List Cell) (bs : Nat), y < n → whA b_divisor_t1 b_divisor_l1 n ⟨[some (.dat (.int x)), some (.dat (.int y))], cs, bs⟩ = .nx ⟨[some (.dat (.int (Nat.gcd x y : Nat))), some (.dat (.int 0))], cs, bs⟩
  | 0, _, _, _, _, h => by omega
  | n + 1, x, 0, cs, bs, h => by
    unfold whA
    simp [b_divisor_t1, dNe, eqOk_int, eqv_int]
  | n + 1, x, y + 1, cs, bs, h => by
    have hlt : x % (y + 1) < y + 1 := Nat.mod_lt _ (by omega)
    have ih := divisor_loop n (y + 1) (x % (y + 1)) cs bs (by omega)
    unfold whA
    have e1 : (0 : Int) < (y : Int) + 1 := by omega
    have e0 : ¬ ((y : Int) + 1 = 0) := by omega
    have e2 : ((x : Int) % ((y : Int) + 1)) = ((x % (y + 1) : Nat) : Int) := by simp
    have e3 : Nat.gcd x (y + 1) = Nat.gcd (y + 1) (x % (y + 1)) := by rw [Nat.gcd_comm x, Nat.gcd_rec, Nat.gcd_comm]
    rw [e3, ← ih]
    simp [b_divisor_t1, b_divisor_l1, dNe, eqOk_int, eqv_int, dMod, e1, e0]
theorem s_divisor (p q : Int) : m_divisor [.dat (.int p), .dat (.int q)] [] = .ok (.dat (.int (Nat.gcd p.natAbs q.natAbs : Nat))) [] := by
  have e := divisor_loop (q.natAbs + 2) p.natAbs q.natAbs [] 0 (by omega)
  unfold m_divisor b_divisor
  simp [abs_nat, natOf, e]
theorem s_fraction (p : Int) (q : Nat) (hq : 0 < q) (hq2 : q < 2 ^ 2000) : m_fraction [.dat (.int p), .dat (.int (q : Nat))] [] = .ok (.dat (eR (mkRat p q))) [] := by
  have g0 : 0 < Nat.gcd p.natAbs q := Nat.gcd_pos_of_pos_right _ hq
  have g1 : Nat.gcd p.natAbs q ≤ q := Nat.gcd_le_right _ hq
  have hd : divOk ((Nat.gcd p.natAbs q : Nat) : Int) = true := by
    unfold divOk
    refine decide_eq_true ⟨by omega, ?_⟩
    rw [Int.natAbs_natCast]
    have := (Nat.log2_lt (n := Nat.gcd p.natAbs q) (k := 2000) (by omega)).mpr (by omega)
    omega
  have e := s_divisor p q
  rw [Int.natAbs_natCast] at e
  unfold m_fraction b_fraction
  simp only [eR, Rat.num_mkRat, Rat.den_mkRat, if_neg (Nat.ne_of_gt hq)]
  rw [Nat.gcd_comm q]
  simp [e, dFdiv, hd]
theorem s_frac' (p : Int) (q : Nat) (hq : 0 < q) (hq2 : q < 2 ^ 2000) : m__law_frac [.dat (.int p), .dat (.int (q : Nat))] [] = .ok (.dat (eR (mkRat p q))) [] := by
  have g0 : 0 < Nat.gcd p.natAbs q := Nat.gcd_pos_of_pos_right _ hq
  have g1 : Nat.gcd p.natAbs q ≤ q := Nat.gcd_le_right _ hq
  have hd : divOk ((Nat.gcd p.natAbs q : Nat) : Int) = true := by
    unfold divOk
    refine decide_eq_true ⟨by omega, ?_⟩
    rw [Int.natAbs_natCast]
    have := (Nat.log2_lt (n := Nat.gcd p.natAbs q) (k := 2000) (by omega)).mpr (by omega)
    omega
  obtain ⟨r', e⟩ := frac_loop (.dat (.int p)) (.dat (.int (q : Nat))) (q + 2) p.natAbs q none [] 0 (by omega)
  unfold m__law_frac b__law_frac
  simp only [eR, Rat.num_mkRat, Rat.den_mkRat, if_neg (Nat.ne_of_gt hq)]
  rw [Nat.gcd_comm q]
  simp [abs_nat, natOf, e, dFdiv, hd]
theorem two_thousand {a b : Nat} (ha : a < 2 ^ 1000) (hb : b < 2 ^ 1000) : a * b < 2 ^ 2000 := by
  have : (2 : Nat) ^ 2000 = 2 ^ 1000 * 2 ^ 1000 := by rw [← Nat.pow_add]
  rw [this]
  exact Nat.mul_lt_mul'' ha hb
section
variable {a b : Rat}
theorem Sm.m1 (ha : Sm a) (hb : Sm b) : mulOk a.num b.den = true := mulOk_of ha.2 (by rw [Int.natAbs_natCast]; exact hb.1)
theorem Sm.m2 (ha : Sm a) (hb : Sm b) : mulOk a.den b.den = true := mulOk_of (by rw [Int.natAbs_natCast]; exact ha.1) (by rw [Int.natAbs_natCast]; exact hb.1)
theorem Sm.m3 (ha : Sm a) (hb : Sm b) : mulOk a.num b.num = true := mulOk_of ha.2 hb.2
theorem s_plus (ha : Sm a) (hb : Sm b) : m_plus [.dat (eR a), .dat (eR b)] [] = .ok (.dat (eR (a + b))) [] := by
  have e := s_fraction (a.num * b.den + b.num * a.den) (a.den * b.den) (Nat.mul_pos a.den_pos b.den_pos) (two_thousand ha.1 hb.1)
  rw [Int.natCast_mul, ← Rat.add_def'] at e
  unfold m_plus b_plus
  simp [eR, dIx, atI, ixN, dMul, ha.m1 hb, hb.m1 ha, ha.m2 hb, dAdd] at e ⊢
  simp [e]
theorem s_minus (ha : Sm a) (hb : Sm b) : m_minus [.dat (eR a), .dat (eR b)] [] = .ok (.dat (eR (a - b))) [] := by
  have e := s_fraction (a.num * b.den - b.num * a.den) (a.den * b.den) (Nat.mul_pos a.den_pos b.den_pos) (two_thousand ha.1 hb.1)
  rw [Int.natCast_mul, ← Rat.sub_def'] at e
  unfold m_minus b_minus
  simp [eR, dIx, atI, ixN, dMul, ha.m1 hb, hb.m1 ha, ha.m2 hb, dSub] at e ⊢
  simp [e]
theorem s_times (ha : Sm a) (hb : Sm b) : m_times [.dat (eR a), .dat (eR b)] [] = .ok (.dat (eR (a * b))) [] := by
  have e := s_fraction (a.num * b.num) (a.den * b.den) (Nat.mul_pos a.den_pos b.den_pos) (two_thousand ha.1 hb.1)
  rw [Int.natCast_mul, ← Rat.mul_def'] at e
  unfold m_times b_times
  simp [eR, dIx, atI, ixN, dMul, ha.m3 hb, ha.m2 hb] at e ⊢
  simp [e]
theorem s_lplus (ha : Sm a) (hb : Sm b) : m__law_plus [.dat (eR a), .dat (eR b)] [] = .ok (.dat (eR (a + b))) [] := by
  have e := s_frac' (a.num * b.den + b.num * a.den) (a.den * b.den) (Nat.mul_pos a.den_pos b.den_pos) (two_thousand ha.1 hb.1)
  rw [Int.natCast_mul, ← Rat.add_def'] at e
  unfold m__law_plus b__law_plus
  simp [eR, dIx, atI, ixN, dMul, ha.m1 hb, hb.m1 ha, ha.m2 hb, dAdd] at e ⊢
  simp [e]
theorem s_is_less (ha : Sm a) (hb : Sm b) : m_is_less [.dat (eR a), .dat (eR b)] [] = .ok (.dat (.bool (decide (a < b)))) [] := by
  unfold m_is_less b_is_less
  simp [eR, dIx, atI, ixN, dMul, ha.m1 hb, hb.m1 ha, dLt, Rat.lt_iff]
theorem eR_eqv : PyData.eqv (eR a) (eR b) = decide (a = b) := by
  show ((a.num == b.num) && (((a.den : Int) == (b.den : Int)) && true)) = _
  rw [Bool.and_true, Bool.beq_eq_decide_eq, Bool.beq_eq_decide_eq, ← Bool.decide_and, decide_eq_decide]
  exact ⟨fun h => Rat.ext h.1 (by omega), fun h => by subst h; exact ⟨rfl, rfl⟩⟩
theorem eR_depth : (eR a).depth = 1 := by simp [eR, PyData.depth, PyData.depthAll]
theorem eR_zero : eR 0 = .tuple [.int 0, .int 1] := rfl
theorem eR_pos : (0 < a.num) ↔ 0 < a := by
  rw [Rat.lt_iff]; simp
end
/-! ### bounds -/
theorem dv {q : Rat} {D : Nat} (hD : 0 < D) : q.den ∣ D ↔ ∃ k : Int, q = mkRat k D := by
  constructor
  · rintro ⟨c, rfl⟩
    have hc : c ≠ 0 := fun e => by subst e; simp at hD
    exact ⟨q.num * c, by rw [Rat.mkRat_mul_right hc, Rat.mkRat_self]⟩
  · rintro ⟨k, rfl⟩
    rw [Rat.den_mkRat, if_neg (by omega)]
    exact Nat.div_dvd_of_dvd (Nat.gcd_dvd_left _ _)
def FrB (D m : Nat) (q : Rat) : Prop := q.den ∣ D ∧ 0 ≤ q ∧ q ≤ (m : Rat)
theorem mk_add {D : Nat} (hD : 0 < D) (k l : Int) : mkRat k D + mkRat l D = mkRat (k + l) D := by
  rw [Rat.mkRat_add_mkRat _ _ (by omega) (by omega), ← Int.add_mul, Rat.mkRat_mul_right (by omega)]
theorem den_add_dvd {D : Nat} (hD : 0 < D) {a b : Rat} (ha : a.den ∣ D) (hb : b.den ∣ D) : (a + b).den ∣ D := by
  obtain ⟨k, rfl⟩ := (dv hD).mp ha
  obtain ⟨l, rfl⟩ := (dv hD).mp hb
  exact (dv hD).mpr ⟨k + l, mk_add hD k l⟩
theorem den_sub_dvd {D : Nat} (hD : 0 < D) {a b : Rat} (ha : a.den ∣ D) (hb : b.den ∣ D) : (a - b).den ∣ D := by
  rw [Rat.sub_eq_add_neg]
  exact den_add_dvd hD ha (by rw [Rat.neg_den]; exact hb)
theorem den_mul_dvd {D E : Nat} (hD : 0 < D) (hE : 0 < E) {a b : Rat} (ha : a.den ∣ D) (hb : b.den ∣ E) : (a * b).den ∣ D * E := by
  obtain ⟨k, rfl⟩ := (dv hD).mp ha
  obtain ⟨l, rfl⟩ := (dv hE).mp hb
  exact (dv (Nat.mul_pos hD hE)).mpr ⟨k * l, Rat.mkRat_mul_mkRat _ _ _ _⟩
theorem FrB.add {D m n : Nat} {a b : Rat} (hD : 0 < D) (ha : FrB D m a) (hb : FrB D n b) : FrB D (m + n) (a + b) := by
  refine ⟨den_add_dvd hD ha.1 hb.1, ?_, ?_⟩
  · have := ha.2.1; have := hb.2.1; grind
  · have := ha.2.2; have := hb.2.2; rw [Rat.natCast_add]; grind
theorem FrB.sub {D m n : Nat} {a b : Rat} (hD : 0 < D) (ha : FrB D m a) (hb : FrB D n b) (h : b ≤ a) : FrB D m (a - b) := by
  refine ⟨den_sub_dvd hD ha.1 hb.1, ?_, ?_⟩
  · grind
  · have := ha.2.2; have := hb.2.1; grind
theorem FrB.up {D m n : Nat} {a : Rat} (h : FrB D m a) (hm : m ≤ n) : FrB D n a := ⟨h.1, h.2.1, by have := h.2.2; have : (m : Rat) ≤ n := Rat.natCast_le_natCast.mpr hm; grind⟩
theorem FrB.zero {D m : Nat} : FrB D m 0 := ⟨Nat.one_dvd _, Rat.le_refl, Rat.natCast_nonneg⟩
theorem FrB.num {D m : Nat} {a : Rat} (hD : 0 < D) (h : FrB D m a) : 0 ≤ a.num ∧ a.num ≤ (m * D : Nat) ∧ a.den ≤ D := by
  have h1 := Nat.le_of_dvd hD h.1
  have h2 := (Rat.le_iff a m).mp h.2.2
  simp only [Rat.den_natCast, Rat.num_natCast] at h2
  have h3 : (m : Int) * a.den ≤ m * D := Int.mul_le_mul_of_nonneg_left (by omega) (by omega)
  refine ⟨Rat.num_nonneg.mpr h.2.1, ?_, h1⟩
  rw [Int.natCast_mul]; omega
theorem FrB.sm {D m : Nat} {a : Rat} (hD : 0 < D) (h : FrB D m a) (hs : m * D < 2 ^ 1000) (hs2 : D < 2 ^ 1000) : Sm a := by
  obtain ⟨h1, h2, h3⟩ := h.num hD
  exact ⟨by omega, by omega⟩
end G
/-! NB: goods, lots, tables with types. -/
namespace G
open PySem PySem.Spec PyProof.Rows L2
open PySem.W (dataLt dataLe alike keyToks)

/-! ### goods -/
structure Gd where
  nm : Str
  g : Int
  c : Int
  d : Int
  ms : List Str
def eG (x : Gd) : PyData := .tuple [.str x.nm, .int x.g, .int x.c, .int x.d, .tuple (x.ms.map .str)]
abbrev Names6 : List Str := ["apple", "eggs", "flour", "milk", "nut", "salt"]
abbrev Marks4 : List Str := ["dairy", "egg", "gluten", "nuts"]
structure GdO (x : Gd) : Prop where
  nm : x.nm ∈ Names6
  g0 : 0 < x.g
  g1 : x.g ≤ 1000
  c0 : 0 ≤ x.c
  c1 : x.c < 500
  d0 : 0 ≤ x.d
  d1 : x.d ≤ 30
  ms : List.Sublist x.ms Marks4
theorem list_of {α : Type} {P : PyData → Prop} {e : α → PyData} {Q : α → Prop} (h : ∀ x, P x → ∃ a, x = e a ∧ Q a) : ∀ xs : List PyData, (∀ x ∈ xs, P x) → ∃ as : List α, xs = as.map e ∧ ∀ a ∈ as, Q a
  | [], _ => ⟨[], rfl, fun a h => nomatch h⟩
  | x :: xs, hx => by
    obtain ⟨a, rfl, h1⟩ := h x (hx x (List.mem_cons_self ..))
    obtain ⟨as, rfl, h2⟩ := list_of h xs fun y hy => hx y (List.mem_cons_of_mem _ hy)
    refine ⟨a :: as, rfl, fun b hb => ?_⟩
    rcases List.mem_cons.mp hb with rfl | hb
    · exact h1
    · exact h2 b hb
theorem sub_strs {ms : List PyData} (h : List.Sublist ms [.str "dairy", .str "egg", .str "gluten", .str "nuts"]) : ∃ zs : List Str, ms = zs.map .str ∧ List.Sublist zs Marks4 := by
  have h' : List.Sublist ms (Marks4.map PyData.str) := h
  obtain ⟨zs, h1, h2⟩ := List.sublist_map_iff.mp h'
  exact ⟨zs, h2, h1⟩
theorem gd_of (x : PyData) (h : IsGd x) : ∃ g : Gd, x = eG g ∧ GdO g := by
  cases h with
  | @mk z a b c ms h1 h2 h3 h4 h5 h6 h7 =>
    obtain ⟨zs, rfl, hz⟩ := sub_strs h7
    simp at h6
    exact ⟨⟨z, a, b, c, zs⟩, rfl, h1, h2, h3, h4, h5, (by show 0 ≤ c; omega), (by show c ≤ 30; omega), hz⟩
theorem t_goods {n : Nat} {d : Dk} (h : d.ok (n + 43)) : ∃ (gs : List Gd) (d' : Dk), m__law_goods [.cel 0] [.lst d.l] = .ok (.dat (.tuple (gs.map eG))) [.lst (Dk.l d')] ∧ d'.ok n ∧ (∀ g ∈ gs, GdO g) ∧ 2 ≤ gs.length ∧ gs.length ≤ 6 ∧ gs.map (·.nm) = Names6.take gs.length := by
  obtain ⟨xs, d', e, h1, h2, h3, h4⟩ := s_goods h
  obtain ⟨gs, rfl, hg⟩ := list_of gd_of xs h2
  rw [List.length_map] at h3 h4
  have h6 : gs.length ≤ 6 := by
    have := congrArg List.length h4
    simp at this; omega
  refine ⟨gs, d', e, h1, hg, h3, h6, ?_⟩
  have e2 : (gs.map (·.nm)).map PyData.str = (Names6.take gs.length).map PyData.str := by
    rw [List.map_take, List.map_map]
    rw [List.map_map] at h4
    exact h4
  exact List.map_inj_right (fun _ _ => PyData.str.inj) |>.mp e2
abbrev gfindT (gs : List Gd) (z : Str) : Option Gd := gs.find? fun g => g.nm == z
def HasG (gs : List Gd) (z : Str) : Prop := ∃ g ∈ gs, g.nm = z
theorem HasG.find {gs : List Gd} {z : Str} (h : HasG gs z) : ∃ g, gfindT gs z = some g ∧ g ∈ gs ∧ g.nm = z := by
  obtain ⟨g, hg, rfl⟩ := h
  cases q : gfindT gs g.nm with
  | none => exact absurd (List.find?_eq_none.mp q g hg) (by simp)
  | some x => exact ⟨x, rfl, List.mem_of_find?_eq_some q, by have := List.find?_some q; simpa using this⟩
theorem t_good_of (gs : List Gd) (z : Str) : m_good_of [.dat (.tuple (gs.map eG)), .dat (.str z)] [] = .ok (.dat (match gfindT gs z with | some g => eG g | none => .none)) [] := by
  obtain ⟨h1, h2⟩ := forA_first (g := tName 2) (b := b_good_of_l1) eG (fun g : Gd => g.nm == z) (fun g a f => a = .dat (eG g) ∧ f.cells = []) (fun fr => ∃ v, fr = ⟨[some (.dat (.tuple (gs.map eG))), some (.dat (.str z)), v], [], 0⟩) gs ⟨[some (.dat (.tuple (gs.map eG))), some (.dat (.str z)), none], [], 0⟩ ⟨none, rfl⟩ fun g hg fr ⟨v, e⟩ => by
    subst e
    have hb : b_good_of_l1 ⟨[some (.dat (.tuple (gs.map eG))), some (.dat (.str z)), some (.dat (eG g))], [], 0⟩ = if (g.nm == z) = true then .ret (.dat (eG g)) ⟨[some (.dat (.tuple (gs.map eG))), some (.dat (.str z)), some (.dat (eG g))], [], 0⟩ else .nx ⟨[some (.dat (.tuple (gs.map eG))), some (.dat (.str z)), some (.dat (eG g))], [], 0⟩ := by
      simp [b_good_of_l1, eG, dIx, atI, ixN, dEq, eqOk_str, eqv_str]
    refine ⟨_, rfl, fun hp => ⟨.dat (eG g), ⟨[some (.dat (.tuple (gs.map eG))), some (.dat (.str z)), some (.dat (eG g))], [], 0⟩, ?_, rfl, rfl⟩, fun hp => ⟨⟨[some (.dat (.tuple (gs.map eG))), some (.dat (.str z)), some (.dat (eG g))], [], 0⟩, .inl ?_, _, rfl⟩⟩
    · show b_good_of_l1 _ = _
      exact hb.trans (if_pos hp)
    · exact hb.trans (if_neg (by rw [hp]; decide))
  unfold m_good_of b_good_of
  cases q : gfindT gs z with
  | some g =>
    obtain ⟨a, fr', e, rfl, hc⟩ := h1 g q
    simp [e, hc]
  | none =>
    obtain ⟨fr', e, v, rfl⟩ := h2 q
    simp [e]
def dayG (gs : List Gd) (z : Str) : Int := match gfindT gs z with
  | some g => g.d
  | none => 0
theorem t_days {gs : List Gd} {z : Str} (hl : gs.length ≤ 1000000) (h : HasG gs z) : m__law_days [.dat (.tuple (gs.map eG)), .dat (.str z)] [] = .ok (.dat (.int (dayG gs z))) [] := by
  obtain ⟨g, q, _, _⟩ := h.find
  have ec := xComp_typed (own := [2]) (g := tName 2) (t := b__law_days_t1) (f := b__law_days_e1) (e := xItems (xVar 0)) (fr := ⟨[some (.dat (.tuple (gs.map eG))), some (.dat (.str z)), none], [], 0⟩) eG (fun g : Gd => g.nm == z) (fun g => .int g.d) (fun g => ⟨[some (.dat (.tuple (gs.map eG))), some (.dat (.str z)), some (.dat (eG g))], [], 0⟩) gs (by simp) hl (fun _ _ => rfl) (fun _ => rfl)
    (fun g _ => by simp [b__law_days_t1, eG, dIx, atI, ixN, dEq, eqOk_str, eqv_str]) (fun g _ _ => by simp [b__law_days_e1, eG, dIx, atI, ixN])
  obtain ⟨r, hr⟩ := find_filter _ gs g q
  rw [hr] at ec
  unfold m__law_days b__law_days dayG
  rw [q]
  simp [ec, dIx, atI, ixN]

/-! ### lots -/
def eL (l : Lt Str) : PyData := .tuple [.str l.nm, .int l.t, eR l.q]
/-- a lot, as it was drawn -/
structure LtO (gs : List Gd) (l : Lt Str) : Prop where
  nm : HasG gs l.nm
  t0 : 0 ≤ l.t
  t1 : l.t < 12
  q0 : 0 < l.q
  q : FrB 420 40 l.q
theorem amt_of (x : PyData) (h : IsAmt x) : ∃ r : Rat, x = eR r ∧ 0 < r ∧ FrB 420 40 r := by
  cases h with
  | @mk p q h1 h2 h3 h4 h5 =>
    have e : ((q.toNat : Nat) : Int) = q := Int.toNat_of_nonneg (by omega)
    refine ⟨⟨p, q.toNat, by omega, by rw [Nat.Coprime, ← h5]; congr 1; omega⟩, ?_, ?_, ?_, ?_, ?_⟩
    · simp only [eR, e]
    · exact eR_pos.mp h1
    · show q.toNat ∣ 420
      have : q.toNat = 1 ∨ q.toNat = 2 ∨ q.toNat = 3 ∨ q.toNat = 4 ∨ q.toNat = 5 ∨ q.toNat = 6 ∨ q.toNat = 7 := by omega
      rcases this with h | h | h | h | h | h | h <;> rw [h] <;> decide
    · exact Rat.le_of_lt (eR_pos.mp h1)
    · rw [Rat.le_iff]
      show p * 1 ≤ 40 * (q.toNat : Int)
      omega
theorem lot_of {gs : List Gd} (x : PyData) (h : IsLot ((gs.map eG).map nmD) x) : ∃ l : Lt Str, x = eL l ∧ LtO gs l := by
  cases h with
  | @mk z t x h1 h2 h3 h4 =>
    obtain ⟨r, rfl, h5, h6⟩ := amt_of x h4
    refine ⟨⟨z, t, r⟩, rfl, ?_, h2, h3, h5, h6⟩
    rw [List.map_map] at h1
    obtain ⟨g, hg, e⟩ := List.mem_map.mp h1
    exact ⟨g, hg, PyData.str.inj e⟩
/-- keys in order -/
def keyLt (a b : Str × Int) : Bool := dataLt (.tuple [.str a.1, .int a.2]) (.tuple [.str b.1, .int b.2])
theorem lot_key {a b : Str} {i j : Int} {x y : PyData} (hne : ¬ (a = b ∧ i = j)) : dataLt (.tuple [.str a, .int i, x]) (.tuple [.str b, .int j, y]) = dataLt (.tuple [.str a, .int i]) (.tuple [.str b, .int j]) := by
  rw [PySem.W.dataLt_tuple, PySem.W.dataLt_tuple, PySem.W.dataLt_cons (al_str a b), PySem.W.dataLt_cons (al_str a b)]
  split
  · rename_i q
    rw [PySem.W.dataLt_cons (al_int i j), PySem.W.dataLt_cons (al_int i j)]
    split
    · rename_i q2
      simp [eqv_str, eqv_int] at q q2
      exact absurd ⟨q, q2⟩ hne
    · rfl
  · rfl
theorem keyLt_t {n : Str} {i j : Int} : keyLt (n, i) (n, j) = decide (i < j) := by
  unfold keyLt
  rw [PySem.W.dataLt_tuple, PySem.W.dataLt_cons (al_str n n), if_pos (by simp [eqv_str]), PySem.W.dataLt_cons (al_int i j)]
  split
  · rename_i q2
    simp [eqv_int] at q2
    subst q2
    rw [show decide (i < i) = false by simp]
    rfl
  · exact PySem.W.dataLt_int ..
theorem keyLt_irrefl (a : Str × Int) : keyLt a a = false := by
  obtain ⟨n, i⟩ := a
  rw [keyLt_t]; simp
abbrev RiseK (ks : List (Str × Int)) : Prop := ks.Pairwise fun a b => keyLt a b = true
theorem riseL {ls : List (Lt Str)} (h : RiseK (ls.map keyT)) : Rise (ls.map eL) := by
  unfold Rise
  unfold RiseK at h
  rw [List.pairwise_map] at h ⊢
  exact h.imp fun {a b} hab => key_lot hab
theorem eG_nm (g : Gd) : nmD (eG g) = .str g.nm := rfl
theorem t_store {n : Nat} {d : Dk} {gs : List Gd} (h : d.ok (n + 33)) (h0 : 0 < gs.length) (h1 : gs.length ≤ 6) : ∃ (ls : List (Lt Str)) (d' : Dk), m__law_store [.cel 0, .dat (.tuple (gs.map eG))] [.lst d.l] = .ok (.dat (.tuple (ls.map eL))) [.lst (Dk.l d')] ∧ d'.ok n ∧ (∀ l ∈ ls, LtO gs l) ∧ RiseK (ls.map keyT) ∧ ls.length ≤ 8 := by
  obtain ⟨xs, d', e, h2, h3, h4, h5, h6⟩ := s_store2 (gs := gs.map eG) h (fun x hx => by
    obtain ⟨g, hg, rfl⟩ := List.mem_map.mp hx
    exact ⟨g.nm, by simp [eG, dIx, atI, ixN], by rw [List.map_map]; exact List.mem_map.mpr ⟨g, hg, rfl⟩⟩) (by simpa using h0) (by simpa using h1)
  obtain ⟨ls, rfl, hl⟩ := list_of (lot_of (gs := gs)) xs h3
  refine ⟨ls, d', e, h2, hl, ?_, by simpa using h5⟩
  unfold RiseH at h6
  unfold RiseK
  rw [List.pairwise_map] at h6 ⊢
  exact h6
/-! ### tables by names -/
section
variable {β : Type}
def aget (kvs : List (Str × β)) (n : Str) : Option β := (kvs.find? fun q => q.1 == n).map (·.2)
def aput (kvs : List (Str × β)) (n : Str) (v : β) : List (Str × β) := if (aget kvs n).isSome = true then kvs.map fun q => if (q.1 == n) = true then (q.1, v) else q else kvs ++ [(n, v)]
def eK (e : β → PyData) (q : Str × β) : PyData × PyData := (.str q.1, e q.2)
variable {e : β → PyData} {kvs : List (Str × β)} {n : Str} {v : β}
theorem kfind_t : kfind (kvs.map (eK e)) (.str n) = (aget kvs n).map e := by
  unfold kfind aget
  rw [List.find?_map]
  have : ((fun q : PyData × PyData => PyData.eqv q.1 (.str n)) ∘ eK e) = fun q : Str × β => q.1 == n := rfl
  rw [this]
  cases (kvs.find? fun q => q.1 == n) <;> rfl
theorem kput_t : kput (kvs.map (eK e)) (.str n) (e v) = (aput kvs n v).map (eK e) := by
  unfold kput aput
  rw [kfind_t]
  have e1 : ((aget kvs n).map e).isSome = (aget kvs n).isSome := by cases aget kvs n <;> rfl
  rw [e1]
  split
  · rw [List.map_map, List.map_map]
    refine List.map_congr_left fun q _ => ?_
    show (if PyData.eqv (.str q.1) (.str n) = true then ((.str q.1, e v) : PyData × PyData) else (.str q.1, e q.2)) = eK e (if (q.1 == n) = true then (q.1, v) else q)
    rw [eqv_str]
    split <;> rfl
  · rw [List.map_append]; rfl
theorem aget_put (m : Str) : aget (aput kvs n v) m = if m = n then some v else aget kvs m := by
  unfold aput
  split
  · rename_i h
    have fm : ∀ l : List (Str × β), ((l.map fun q => if (q.1 == n) = true then (q.1, v) else q).find? fun q => q.1 == m) = (l.find? fun q => q.1 == m).map fun q => if (q.1 == n) = true then (q.1, v) else q := by
      intro l
      rw [List.find?_map]
      congr 1
      have : ((fun q : Str × β => q.1 == m) ∘ fun q : Str × β => if (q.1 == n) = true then (q.1, v) else q) = fun q : Str × β => q.1 == m := by
        funext q
        show ((if (q.1 == n) = true then (q.1, v) else q).1 == m) = _
        split <;> rfl
      rw [this]
    unfold aget at h ⊢
    rw [fm]
    by_cases hm : m = n
    · subst hm
      rw [if_pos rfl]
      cases q : (kvs.find? fun q => q.1 == m) with
      | none => rw [q] at h; cases h
      | some z =>
        have := List.find?_some q
        simp only [Option.map_some]
        rw [if_pos this]
    · rw [if_neg hm]
      cases q : (kvs.find? fun q => q.1 == m) with
      | none => rfl
      | some z =>
        have : z.1 = m := by have := List.find?_some q; simpa using this
        simp only [Option.map_some]
        rw [if_neg (by rw [this]; simpa using hm)]
  · rename_i h
    unfold aget at h ⊢
    rw [List.find?_append]
    by_cases hm : m = n
    · subst hm
      rw [if_pos rfl]
      cases q : (kvs.find? fun q => q.1 == m) with
      | none => simp
      | some z => rw [q] at h; exact absurd rfl h
    · rw [if_neg hm]
      have : ([(n, v)].find? fun q => q.1 == m) = none := by
        rw [List.find?_cons]
        have : ((n, v).1 == m) = false := by simpa using Ne.symm hm
        rw [this]; rfl
      rw [this, Option.or_none]
theorem aget_none : aget kvs n = none ↔ n ∉ kvs.map (·.1) := by
  unfold aget
  rw [Option.map_eq_none_iff, List.find?_eq_none]
  constructor
  · intro h hm
    obtain ⟨q, hq, rfl⟩ := List.mem_map.mp hm
    exact h q hq (by simp)
  · intro h q hq e
    exact h (List.mem_map.mpr ⟨q, hq, by simpa using e⟩)
theorem aput_keys : (aput kvs n v).map (·.1) = if n ∈ kvs.map (·.1) then kvs.map (·.1) else kvs.map (·.1) ++ [n] := by
  unfold aput
  by_cases h : n ∈ kvs.map (·.1)
  · rw [if_pos h, if_pos ?_]
    · rw [List.map_map]
      refine List.map_congr_left fun q _ => ?_
      show (if (q.1 == n) = true then (q.1, v) else q).1 = q.1
      split <;> rfl
    · cases q : aget kvs n with
      | none => exact absurd h (aget_none.mp q)
      | some z => rfl
  · rw [if_neg h, if_neg ?_]
    · simp
    · rw [aget_none.mpr h]; exact fun z => nomatch z
theorem aput_nodup (h : (kvs.map (·.1)).Nodup) : ((aput kvs n v).map (·.1)).Nodup := by
  rw [aput_keys]
  split
  · exact h
  · rename_i hn
    rw [List.nodup_append]
    refine ⟨h, by simp, fun a ha b hb e => ?_⟩
    rw [List.mem_singleton] at hb
    subst hb; subst e
    exact hn ha
theorem aput_len : (aput kvs n v).length ≤ kvs.length + 1 := by
  have := congrArg List.length (aput_keys (kvs := kvs) (n := n) (v := v))
  rw [List.length_map] at this
  rw [this]
  split <;> simp
theorem aput_all {P : Str × β → Prop} (h : ∀ q ∈ kvs, P q) (hn : P (n, v)) : ∀ q ∈ aput kvs n v, P q := by
  intro q hq
  unfold aput at hq
  split at hq
  · obtain ⟨z, hz, rfl⟩ := List.mem_map.mp hq
    split
    · rename_i e
      have : z.1 = n := by simpa using e
      rw [this]; exact hn
    · exact h z hz
  · rcases List.mem_append.mp hq with z | z
    · exact h q z
    · rw [List.mem_singleton.mp z]; exact hn
theorem aget_mem {b : β} (h : aget kvs n = some b) : (n, b) ∈ kvs := by
  unfold aget at h
  cases q : (kvs.find? fun q => q.1 == n) with
  | none => rw [q] at h; cases h
  | some z =>
    rw [q] at h
    cases h
    have : z.1 = n := by have := List.find?_some q; simpa using this
    rw [← this]
    exact List.mem_of_find?_eq_some q
theorem aget_of_mem {b : β} (nd : (kvs.map (·.1)).Nodup) (h : (n, b) ∈ kvs) : aget kvs n = some b := by
  induction kvs with
  | nil => cases h
  | cons q kvs ih =>
    rw [List.map_cons, List.nodup_cons] at nd
    unfold aget
    rw [List.find?_cons]
    rcases List.mem_cons.mp h with e | h
    · subst e; simp
    · have : (q.1 == n) = false := by
        cases z : (q.1 == n) with
        | false => rfl
        | true => exact absurd (List.mem_map.mpr ⟨_, h, (by simpa using z : q.1 = n).symm⟩) nd.1
      rw [this]
      exact ih nd.2 h
/-- two tables that tell the same are equal -/
theorem deq_t [DecidableEq β] {kls : List (Str × β)} (he : ∀ a b, PyData.eqv (e a) (e b) = decide (a = b)) (h1 : (kvs.map (·.1)).Nodup) (h2 : (kls.map (·.1)).Nodup) (h : ∀ n, aget kvs n = aget kls n) : deqB (kvs.map (eK e)) (kls.map (eK e)) = true := by
  unfold deqB
  have hm : ∀ n, n ∈ kvs.map (·.1) ↔ n ∈ kls.map (·.1) := fun n => by
    have a := aget_none (kvs := kvs) (n := n)
    have b := aget_none (kvs := kls) (n := n)
    rw [h n] at a
    exact Decidable.not_iff_not.mp (a.symm.trans b)
  have p := (List.perm_ext_iff_of_nodup h1 h2).mpr hm
  have hl := p.length_eq
  simp only [List.length_map] at hl
  rw [Bool.and_eq_true]
  refine ⟨by simp [hl], List.all_eq_true.mpr fun q hq => ?_⟩
  obtain ⟨z, hz, rfl⟩ := List.mem_map.mp hq
  show (match kfind (kls.map (eK e)) (.str z.1) with | some y => PyData.eqv (e z.2) y | none => false) = true
  rw [kfind_t, ← h, aget_of_mem h1 hz]
  show PyData.eqv (e z.2) (e z.2) = true
  rw [he]; simp
end
/-! ### rows of names and amounts -/
def eN (q : Str × Rat) : PyData := .tuple [.str q.1, eR q.2]
theorem sortOk_t {α : Type} {e : α → PyData} {xs : List α} (hl : xs.length ≤ 1000000) (ha : ∀ x ∈ xs, ∀ y ∈ xs, alike (e x) (e y) = true) (ht : ∀ x ∈ xs, tupB (e x) = true) (hd : ∀ x ∈ xs, (e x).depth ≤ 32) : sortOk (xs.map e) = true := by
  unfold sortOk allAlike
  simp only [Bool.and_eq_true, Bool.or_eq_true, List.all_eq_true, decide_eq_true_eq, List.length_map]
  refine ⟨⟨⟨hl, fun x hx y hy => ?_⟩, .inl fun x hx => ?_⟩, fun x hx => ?_⟩
  · obtain ⟨a, h1, rfl⟩ := List.mem_map.mp hx
    obtain ⟨b, h2, rfl⟩ := List.mem_map.mp hy
    exact ha a h1 b h2
  · obtain ⟨a, h1, rfl⟩ := List.mem_map.mp hx
    exact ht a h1
  · obtain ⟨a, h1, rfl⟩ := List.mem_map.mp hx
    exact hd a h1
/-- what is sorted, with its types -/
def srtT {α : Type} (e : α → PyData) (xs : List α) : List α := xs.mergeSort fun a b => srtLe (e a) (e b)
theorem srtT_map {α : Type} (e : α → PyData) (xs : List α) : (xs.map e).mergeSort srtLe = (srtT e xs).map e := by
  unfold srtT
  exact (List.map_mergeSort (f := e) (r := fun a b => srtLe (e a) (e b)) (s := srtLe) (l := xs) fun _ _ _ _ => rfl).symm
theorem srtT_perm {α : Type} (e : α → PyData) (xs : List α) : (srtT e xs).Perm xs := List.mergeSort_perm _ _
theorem eN_sortOk {xs : List (Str × Rat)} (hl : xs.length ≤ 1000000) : sortOk (xs.map eN) = true := sortOk_t hl (fun _ _ _ _ => by simp [eN, eR, alike, PySem.W.alikeAll]) (fun _ _ => rfl) (fun _ _ => by simp [eN, eR, PyData.depth, PyData.depthAll])
theorem items_t (kvs : List (Str × Rat)) : itemsD (kvs.map (eK eR)) = kvs.map eN := by unfold itemsD; rw [List.map_map]; rfl
theorem srtd_items {kvs : List (Str × Rat)} (hl : kvs.length ≤ 1000000) : dSortedI (kvs.map (eK eR)) = some (.list ((srtT eN kvs).map eN)) := by
  unfold dSortedI dSortL
  rw [items_t, if_pos (eN_sortOk hl), srtT_map]
theorem pairs_t (kvs : List (Str × Rat)) : pairsD (kvs.map eN) = some (kvs.map (eK eR)) := by
  induction kvs with
  | nil => rfl
  | cons q kvs ih =>
    rw [List.map_cons]
    show pairsD (.tuple [.str q.1, eR q.2] :: _) = _
    unfold pairsD
    rw [ih]
    rfl
theorem merge_t : ∀ (kvs acc : List (Str × Rat)), mergeD (acc.map (eK eR)) (kvs.map (eK eR)) = (kvs.foldl (fun a q => aput a q.1 q.2) acc).map (eK eR)
  | [], acc => rfl
  | q :: kvs, acc => by
    rw [List.map_cons]
    show mergeD (kput (acc.map (eK eR)) (.str q.1) (eR q.2)) _ = _
    rw [kput_t, merge_t kvs]
    rfl
/-- dict(rows), of rows with names unlike -/
theorem dict_nodup {kvs : List (Str × Rat)} (h : (kvs.map (·.1)).Nodup) : mergeD [] (kvs.map (eK eR)) = kvs.map (eK eR) := by
  have key : ∀ (kvs acc : List (Str × Rat)), ((acc ++ kvs).map (·.1)).Nodup → kvs.foldl (fun a q => aput a q.1 q.2) acc = acc ++ kvs := by
    intro kvs
    induction kvs with
    | nil => intro acc _; simp
    | cons q kvs ih =>
      intro acc nd
      rw [List.foldl_cons]
      have hn : q.1 ∉ acc.map (·.1) := by
        intro hm
        rw [List.map_append, List.nodup_append] at nd
        exact nd.2.2 _ hm _ (List.mem_map.mpr ⟨q, List.mem_cons_self .., rfl⟩) rfl
      have e1 : aput acc q.1 q.2 = acc ++ [q] := by
        unfold aput
        rw [aget_none.mpr hn]
        rfl
      rw [e1, ih _ (by rw [List.append_assoc]; exact nd), List.append_assoc]
      rfl
  have := merge_t kvs []
  rw [List.map_nil] at this
  rw [this, key kvs [] (by simpa using h), List.nil_append]
end G
/-! NC: stores: what is over, what lacks, what is taken, what is a store. -/
namespace G
open PySem PySem.Spec PyProof.Rows L2
open PySem.W (dataLt dataLe alike keyToks)

def b_is_whole : Fr → SRes :=
  sRet (xV (xAnd (xB (xIsi (isi "int") (xVar 0))) (xNot (xB (xIsi (isi "bool") (xVar 0))))))
def m_is_whole : AFun := mkFun 1 1 b_is_whole

def b_is_from : Fr → SRes :=
  sRet (xV (xAnd (xB (xCall m_is_whole (xCons (xVar 0) (xNil)))) (xB (xChain dLe dLe (xVar 1) (xVar 0) (xVar 2)))))
def m_is_from : AFun := mkFun 3 3 b_is_from

def b_is_rising_e1 : Fr → Res AV :=
  xOp2 dLt (xVar 1) (xVar 2)
def b_is_rising : Fr → SRes :=
  sRet (xB1 dAll (xCons (xComp [1, 2] (xZip (xVar 0) (xSl (xVar 0) (xSo (xC (.int 1))) (xNo))) (tNames [1, 2]) (xYes) (b_is_rising_e1)) (xNil)))
def m_is_rising : AFun := mkFun 3 1 b_is_rising

def b_is_fraction : Fr → SRes :=
  sSeq (sIf (xOr (xNot (xB (xIsi (isi "tuple") (xVar 0)))) (xOr (xB (xOp2 dNe (xB1 dLen (xCons (xVar 0) (xNil))) (xC (.int 2)))) (xOr (xNot (xB (xCall m_is_whole (xCons (xIx (xVar 0) (xC (.int 0))) (xNil))))) (xNot (xB (xCall m_is_whole (xCons (xIx (xVar 0) (xC (.int 1))) (xNil)))))))) (sRet (xC (.bool false))) (sNx))
  (sRet (xV (xAnd (xB (xOp2 dGt (xIx (xVar 0) (xC (.int 1))) (xC (.int 0)))) (xB (xOp2 dEq (xCall m_divisor (xCons (xIx (xVar 0) (xC (.int 0))) (xCons (xIx (xVar 0) (xC (.int 1))) (xNil)))) (xC (.int 1)))))))
def m_is_fraction : AFun := mkFun 1 1 b_is_fraction

def b_is_amount : Fr → SRes :=
  sRet (xV (xAnd (xB (xCall m_is_fraction (xCons (xVar 0) (xNil)))) (xB (xOp2 dGt (xIx (xVar 0) (xC (.int 0))) (xC (.int 0))))))
def m_is_amount : AFun := mkFun 1 1 b_is_amount

def b_is_store_l1 : Fr → SRes :=
  sSeq (sIf (xOr (xNot (xB (xIsi (isi "tuple") (xVar 2)))) (xOr (xB (xOp2 dNe (xB1 dLen (xCons (xVar 2) (xNil))) (xC (.int 3)))) (xNot (xB (xIsi (isi "str") (xIx (xVar 2) (xC (.int 0)))))))) (sRet (xC (.bool false))) (sNx))
  (sIf (xOr (xB (xOp2 dIsN (xCall m_good_of (xCons (xVar 0) (xCons (xIx (xVar 2) (xC (.int 0))) (xNil)))) (xC .none))) (xOr (xNot (xB (xCall m_is_from (xCons (xIx (xVar 2) (xC (.int 1))) (xCons (xC (.int 0)) (xCons (xC (.int 1000000)) (xNil))))))) (xNot (xB (xCall m_is_amount (xCons (xIx (xVar 2) (xC (.int 2))) (xNil))))))) (sRet (xC (.bool false))) (sNx))
def b_is_store_e1 : Fr → Res AV :=
  xSl (xVar 2) (xNo) (xSo (xC (.int 2)))
def b_is_store : Fr → SRes :=
  sSeq (sIf (xOr (xNot (xB (xIsi (isi "tuple") (xVar 1)))) (xB (xOp2 dGt (xB1 dLen (xCons (xVar 1) (xNil))) (xC (.int 60))))) (sRet (xC (.bool false))) (sNx))
  (sSeq (sFor (xItems (xVar 1)) (tName 2) (b_is_store_l1))
  (sKill [2] (sRet (xCall m_is_rising (xCons (xComp [2] (xItems (xVar 1)) (tName 2) (xYes) (b_is_store_e1)) (xNil))))))
def m_is_store : AFun := mkFun 3 2 b_is_store

def b_lacking_l1 : Fr → SRes :=
  sIf (xAnd (xB (xOp2 dEq (xIx (xVar 8) (xC (.int 0))) (xVar 5))) (xNot (xB (xCall m_is_over (xCons (xVar 0) (xCons (xVar 8) (xCons (xVar 3) (xNil)))))))) (sSet 7 (xCall m_plus (xCons (xVar 7) (xCons (xIx (xVar 8) (xC (.int 2))) (xNil))))) (sNx)
def b_lacking_l2 : Fr → SRes :=
  sKill [7, 8] (sSeq (sSet 7 (xC (.tuple [.int 0, .int 1])))
  (sSeq (sFor (xItems (xVar 1)) (tName 8) (b_lacking_l1))
  (sKill [8] (sIf (xB (xCall m_is_less (xCons (xVar 7) (xCons (xVar 6) (xNil))))) (sApp 4 (xTup (xCons (xVar 5) (xCons (xCall m_minus (xCons (xVar 6) (xCons (xVar 7) (xNil)))) (xNil))))) (sNx)))))
def b_lacking : Fr → SRes :=
  sSeq (sSet 4 (xNewL (xNil)))
  (sSeq (sFor (xItems (xVar 2)) (tNames [5, 6]) (b_lacking_l2))
  (sKill [5, 6, 7, 8] (sRet (xVar 4))))
def m_lacking : AFun := mkFun 9 4 b_lacking

def b_to_buy : Fr → SRes :=
  sRet (xCall m_lacking (xCons (xVar 0) (xCons (xVar 1) (xCons (xVar 2) (xCons (xVar 3) (xNil))))))
def m_to_buy : AFun := mkFun 4 4 b_to_buy

def b_taken_l1 : Fr → SRes :=
  sErr
def b_taken_l2 : Fr → SRes :=
  sKill [10, 11] (sSeq (sSet 10 (xIf (xB (xCall m_is_over (xCons (xVar 0) (xCons (xVar 9) (xCons (xVar 3) (xNil)))))) (xC (.tuple [.int 0, .int 1])) (xDGetD (xVar 6) (xIx (xVar 9) (xC (.int 0))) (xC (.tuple [.int 0, .int 1])))))
  (sSeq (sSet 11 (xIf (xB (xCall m_is_less (xCons (xIx (xVar 9) (xC (.int 2))) (xCons (xVar 10) (xNil))))) (xIx (xVar 9) (xC (.int 2))) (xVar 10)))
  (sSeq (sIf (xB (xOp2 dGt (xIx (xVar 11) (xC (.int 0))) (xC (.int 0)))) (sSeq (sApp 7 (xOp2 dAdd (xSl (xVar 9) (xNo) (xSo (xC (.int 2)))) (xTup (xCons (xVar 11) (xNil)))))
  (sDSet 6 (xIx (xVar 9) (xC (.int 0))) (xCall m_minus (xCons (xVar 10) (xCons (xVar 11) (xNil)))))) (sNx))
  (sIf (xB (xOp2 dNe (xVar 11) (xIx (xVar 9) (xC (.int 2))))) (sApp 8 (xOp2 dAdd (xSl (xVar 9) (xNo) (xSo (xC (.int 2)))) (xTup (xCons (xCall m_minus (xCons (xIx (xVar 9) (xC (.int 2))) (xCons (xVar 11) (xNil)))) (xNil))))) (sNx)))))
def b_taken : Fr → SRes :=
  sSeq (sFor (xItems (xCall m_lacking (xCons (xVar 0) (xCons (xVar 1) (xCons (xVar 2) (xCons (xVar 3) (xNil))))))) (tNames [4, 5]) (b_taken_l1))
  (sKill [4, 5] (sSeq (sSet 6 (xDictF (xVar 2)))
  (sSeq (sPar 7 8 (xCons (xNewL (xNil)) (xCons (xNewL (xNil)) (xNil))))
  (sSeq (sFor (xItems (xVar 1)) (tName 9) (b_taken_l2))
  (sKill [9, 10, 11] (sFrzM 7 (sRet (xTup (xCons (xVar 7) (xCons (xB1 dTuple (xCons (xVar 8) (xNil))) (xNil)))))))))))
def m_taken : AFun := mkFun 12 4 b_taken

def b__law_wants_l1 : Fr → SRes :=
  sKill [3] (sDSet 2 (xIx (xCall m__law_one (xCons (xVar 0) (xCons (xVar 1) (xNil)))) (xC (.int 0))) (xCall m__law_amount (xCons (xVar 0) (xNil))))
def b__law_wants : Fr → SRes :=
  sSeq (sSet 2 (xNewD false))
  (sSeq (sFor (xRange1 (xOp2 dAdd (xC (.int 1)) (xCall m__law_pick (xCons (xVar 0) (xCons (xC (.int 3)) (xNil)))))) (tName 3) (b__law_wants_l1))
  (sKill [3] (sRet (xD1 dSortedI (xVar 2)))))
def m__law_wants : AFun := mkFun 4 2 b__law_wants

def b__law_sums_l1 : Fr → SRes :=
  sDSet 1 (xIx (xVar 2) (xC (.int 0))) (xCall m__law_plus (xCons (xDGetD (xVar 1) (xIx (xVar 2) (xC (.int 0))) (xTup (xCons (xC (.int 0)) (xCons (xC (.int 1)) (xNil))))) (xCons (xIx (xVar 2) (xOp1 dNeg (xC (.int 1)))) (xNil))))
def b__law_sums : Fr → SRes :=
  sSeq (sSet 1 (xNewD false))
  (sSeq (sFor (xItems (xVar 0)) (tName 2) (b__law_sums_l1))
  (sKill [2] (sRet (xVar 1))))
def m__law_sums : AFun := mkFun 3 1 b__law_sums

/-! ### what is over -/
def ovG (gs : List Gd) (day : Int) (l : Lt Str) : Bool := decide (l.t + dayG gs l.nm < day)
theorem ovG_key {gs : List Gd} {day : Int} (l m : Lt Str) (h : keyT l = keyT m) : ovG gs day l = ovG gs day m := by
  unfold ovG
  have h1 := congrArg Prod.fst h
  have h2 := congrArg Prod.snd h
  simp only [keyT] at h1 h2
  rw [h1, h2]
theorem t_is_over {gs : List Gd} {l : Lt Str} {day : Int} (h : HasG gs l.nm) : m_is_over [.dat (.tuple (gs.map eG)), .dat (eL l), .dat (.int day)] [] = .ok (.dat (.bool (ovG gs day l))) [] := by
  obtain ⟨g, q, _, _⟩ := h.find
  have e := t_good_of gs l.nm
  rw [q] at e
  unfold m_is_over b_is_over
  simp [eL, dIx, atI, ixN, e, eG, dAdd, dGt, ovG, dayG, q]
theorem t_lis_over {gs : List Gd} {l : Lt Str} {day : Int} (hz : gs.length ≤ 1000000) (h : HasG gs l.nm) : m__law_is_over [.dat (.tuple (gs.map eG)), .dat (eL l), .dat (.int day)] [] = .ok (.dat (.bool (ovG gs day l))) [] := by
  have e := t_days hz h
  unfold m__law_is_over b__law_is_over
  simp [eL, dIx, atI, ixN, e, dAdd, dGt, ovG]
theorem t_over {gs : List Gd} {ls : List (Lt Str)} {day : Int} (hl : ∀ l ∈ ls, HasG gs l.nm) (hz : ls.length ≤ 1000000) : m_over [.dat (.tuple (gs.map eG)), .dat (.tuple (ls.map eL)), .dat (.int day)] [] = .ok (.dat (.list ((ls.filter (ovG gs day)).map eL))) [] := by
  have ec := xComp_typed (own := [3]) (g := tName 3) (t := b_over_t1) (f := b_over_e1) (e := xItems (xVar 1)) (fr := ⟨[some (.dat (.tuple (gs.map eG))), some (.dat (.tuple (ls.map eL))), some (.dat (.int day)), none], [], 0⟩) eL (ovG gs day) eL (fun l => ⟨[some (.dat (.tuple (gs.map eG))), some (.dat (.tuple (ls.map eL))), some (.dat (.int day)), some (.dat (eL l))], [], 0⟩) ls (by simp) hz (fun _ _ => rfl) (fun _ => rfl)
    (fun l h => by simp [b_over_t1, t_is_over (hl l h)]) (fun _ _ _ => by simp [b_over_e1])
  unfold m_over b_over
  simp [ec]
theorem t_kept {gs : List Gd} {ls : List (Lt Str)} {day : Int} (hl : ∀ l ∈ ls, HasG gs l.nm) (hz : ls.length ≤ 1000000) : m_kept [.dat (.tuple (gs.map eG)), .dat (.tuple (ls.map eL)), .dat (.int day)] [] = .ok (.dat (.tuple ((ls.filter fun l => !ovG gs day l).map eL))) [] := by
  have ec := xComp_typed (own := [3]) (g := tName 3) (t := b_kept_t1) (f := b_kept_e1) (e := xItems (xVar 1)) (fr := ⟨[some (.dat (.tuple (gs.map eG))), some (.dat (.tuple (ls.map eL))), some (.dat (.int day)), none], [], 0⟩) eL (fun l => !ovG gs day l) eL (fun l => ⟨[some (.dat (.tuple (gs.map eG))), some (.dat (.tuple (ls.map eL))), some (.dat (.int day)), some (.dat (eL l))], [], 0⟩) ls (by simp) hz (fun _ _ => rfl) (fun _ => rfl)
    (fun l h => by simp [b_kept_t1, t_is_over (hl l h)]) (fun _ _ _ => by simp [b_kept_e1])
  unfold m_kept b_kept
  simp [ec]

/-! ### what lacks -/
/-- how much of a name is there, that isn't over -/
abbrev thereG (gs : List Gd) (day : Int) (ls : List (Lt Str)) (n : Str) : Rat := avail (ovG gs day) ls n
def lackL (av : Str → Rat) (ns : List (Str × Rat)) : List (Str × Rat) := (ns.filter fun q => decide (av q.1 < q.2)).map fun q => (q.1, q.2 - av q.1)
theorem avail_snoc {ov : Lt Str → Bool} {ls : List (Lt Str)} {l : Lt Str} {n : Str} : avail ov (ls ++ [l]) n = avail ov ls n + (if (l.nm == n && !ov l) = true then l.q else 0) := by
  unfold avail
  rw [List.filter_append, sumOf_append]
  congr 1
  rw [List.filter_cons]
  cases ov l with
  | true => simp [sumOf_nil]
  | false =>
    simp only [Bool.not_false, if_true, List.filter_nil, sumOf_cons, sumOf_nil, Bool.and_true, beq_iff_eq]
    grind
/-- stores that can be reckoned with: bounds of all their sums -/
structure StO (gs : List Gd) (D M : Nat) (ls : List (Lt Str)) : Prop where
  nm : ∀ l ∈ ls, HasG gs l.nm
  q0 : ∀ l ∈ ls, 0 < l.q
  q : ∀ l ∈ ls, FrB D M l.q
  len : ls.length ≤ 60
theorem StO.avail {gs : List Gd} {D M : Nat} (hD : 0 < D) {ov : Lt Str → Bool} {n : Str} : ∀ {ls : List (Lt Str)}, (∀ l ∈ ls, FrB D M l.q) → FrB D (M * ls.length) (avail ov ls n)
  | [], _ => FrB.zero
  | l :: ls, h => by
    have e : G.avail ov (l :: ls) n = (if (l.nm == n && !ov l) = true then l.q else 0) + G.avail ov ls n := by
      unfold G.avail
      rw [List.filter_cons]
      cases ov l with
      | true => simp; grind
      | false => simp [sumOf_cons]
    rw [e, List.length_cons, Nat.mul_succ, Nat.add_comm]
    refine FrB.add hD ?_ (StO.avail (gs := gs) hD fun m hm => h m (List.mem_cons_of_mem _ hm))
    split
    · exact h l (List.mem_cons_self ..)
    · exact FrB.zero
theorem lackL_len {av : Str → Rat} {ns : List (Str × Rat)} : (lackL av ns).length ≤ ns.length := by
  unfold lackL
  rw [List.length_map]
  exact List.length_filter_le _ _
theorem lackL_snoc {av : Str → Rat} {ns : List (Str × Rat)} {q : Str × Rat} : lackL av (ns ++ [q]) = lackL av ns ++ (if av q.1 < q.2 then [(q.1, q.2 - av q.1)] else []) := by
  unfold lackL
  rw [List.filter_append, List.map_append]
  congr 1
  rw [List.filter_cons]
  by_cases h : av q.1 < q.2 <;> simp [h]
/-- needs that can be reckoned with -/
structure NdO (D N : Nat) (ns : List (Str × Rat)) : Prop where
  q0 : ∀ q ∈ ns, 0 < q.2
  q : ∀ q ∈ ns, FrB D N q.2
  len : ns.length ≤ 1000
  nd : (ns.map (·.1)).Nodup
theorem take_of {α : Type} {xs done rest : List α} {x : α} (e : xs = done ++ x :: rest) : x ∈ xs ∧ (∀ y ∈ done, y ∈ xs) ∧ done.length < xs.length := by
  subst e
  refine ⟨by simp, fun y h => by simp [h], by simp⟩
theorem lack_in {gs : List Gd} {ls : List (Lt Str)} {D M : Nat} {day : Int} {n : Str} {v1 v2 v4 v6 : Option AV} {v8 : Option AV} {cs : List Cell} {bs : Nat} (hD : 0 < D) (hs : M * 61 * D < 2 ^ 1000) (hs2 : D < 2 ^ 1000) (hl : StO gs D M ls) :
    ∃ v8', forA (tName 8) b_lacking_l1 (ls.map eL) ⟨[some (.dat (.tuple (gs.map eG))), v1, v2, some (.dat (.int day)), v4, some (.dat (.str n)), v6, some (.dat (eR 0)), v8], cs, bs⟩ = .nx ⟨[some (.dat (.tuple (gs.map eG))), v1, v2, some (.dat (.int day)), v4, some (.dat (.str n)), v6, some (.dat (eR (thereG gs day ls n))), v8'], cs, bs⟩ := by
  have key := forA_typed (g := tName 8) (b := b_lacking_l1) eL (fun done fr => ∃ v8', fr = ⟨[some (.dat (.tuple (gs.map eG))), v1, v2, some (.dat (.int day)), v4, some (.dat (.str n)), v6, some (.dat (eR (thereG gs day done n))), v8'], cs, bs⟩) ls ⟨[some (.dat (.tuple (gs.map eG))), v1, v2, some (.dat (.int day)), v4, some (.dat (.str n)), v6, some (.dat (eR 0)), v8], cs, bs⟩ ⟨v8, rfl⟩ ?_
  · obtain ⟨fr', e, v8', rfl⟩ := key
    exact ⟨v8', e⟩
  · rintro done l rest fr he ⟨v8', rfl⟩
    obtain ⟨hm, hd, hlen⟩ := take_of he
    have ha : FrB D (M * done.length) (thereG gs day done n) := StO.avail (gs := gs) hD fun m hm => hl.q m (hd m hm)
    have h60 := hl.len
    have hle : M * done.length ≤ M * 61 := Nat.mul_le_mul_left _ (by omega)
    have hle2 : M ≤ M * 61 := Nat.le_mul_of_pos_right _ (by decide)
    have h3 : M * 61 * D < 2 ^ 1000 := hs
    have s1 : Sm (thereG gs day done n) := (ha.up hle).sm hD hs hs2
    have s2 : Sm l.q := ((hl.q l hm).up hle2).sm hD hs hs2
    refine ⟨_, ⟨[some (.dat (.tuple (gs.map eG))), v1, v2, some (.dat (.int day)), v4, some (.dat (.str n)), v6, some (.dat (eR (thereG gs day (done ++ [l]) n))), some (.dat (eL l))], cs, bs⟩, rfl, .inl ?_, _, rfl⟩
    have ho := t_is_over (day := day) (hl.nm l hm)
    have hx : dIx (eL l) (.int 0) = some (.str l.nm) := by simp [eL, dIx, atI, ixN]
    have hx2 : dIx (eL l) (.int 2) = some (eR l.q) := by simp [eL, dIx, atI, ixN]
    have hp := s_plus s1 s2
    rw [show thereG gs day (done ++ [l]) n = thereG gs day done n + (if (l.nm == n && !ovG gs day l) = true then l.q else 0) from avail_snoc]
    generalize thereG gs day done n = t at *
    have e0 : t + 0 = t := by grind
    by_cases hn : l.nm = n
    · cases o : ovG gs day l with
      | true =>
        rw [o] at ho
        simp [b_lacking_l1, hx, dEq, eqOk_str, eqv_str, hn, ho, e0]
      | false =>
        rw [o] at ho
        simp [b_lacking_l1, hx, dEq, eqOk_str, eqv_str, hn, ho, hx2, hp]
    · simp [b_lacking_l1, hx, dEq, eqOk_str, eqv_str, hn, e0]
theorem t_lacking {gs : List Gd} {ls : List (Lt Str)} {ns : List (Str × Rat)} {D M N : Nat} {day : Int} (hD : 0 < D) (hs : M * 61 * D < 2 ^ 1000) (hs2 : D < 2 ^ 1000) (hs3 : N * D < 2 ^ 1000) (hl : StO gs D M ls) (hn : NdO D N ns) :
    m_lacking [.dat (.tuple (gs.map eG)), .dat (.tuple (ls.map eL)), .dat (.list (ns.map eN)), .dat (.int day)] [] = .ok (.dat (.list ((lackL (thereG gs day ls) ns).map eN))) [] := by
  have key := forA_typed (g := tNames [5, 6]) (b := b_lacking_l2) eN (fun done fr => ∃ v5 v6 v7 v8, fr = ⟨[some (.dat (.tuple (gs.map eG))), some (.dat (.tuple (ls.map eL))), some (.dat (.list (ns.map eN))), some (.dat (.int day)), some (.cel 0), v5, v6, v7, v8], [.lst ((lackL (thereG gs day ls) done).map eN)], 0⟩) ns ⟨[some (.dat (.tuple (gs.map eG))), some (.dat (.tuple (ls.map eL))), some (.dat (.list (ns.map eN))), some (.dat (.int day)), some (.cel 0), none, none, none, none], [.lst []], 0⟩ ⟨none, none, none, none, rfl⟩ ?_
  · obtain ⟨fr', e, v5, v6, v7, v8, rfl⟩ := key
    unfold m_lacking b_lacking
    simp [e]
  · rintro done q rest fr he ⟨v5, v6, v7, v8, rfl⟩
    obtain ⟨hm, hd, hlen⟩ := take_of he
    obtain ⟨v8', e1⟩ := lack_in (gs := gs) (ls := ls) (day := day) (n := q.1) (v1 := some (.dat (.tuple (ls.map eL)))) (v2 := some (.dat (.list (ns.map eN)))) (v4 := some (.cel 0)) (v6 := some (.dat (eR q.2))) (v8 := none) (cs := [.lst ((lackL (thereG gs day ls) done).map eN)]) (bs := 0) hD hs hs2 hl
    have ha : FrB D (M * ls.length) (thereG gs day ls q.1) := StO.avail (gs := gs) hD hl.q
    have h60 := hl.len
    have s1 : Sm (thereG gs day ls q.1) := (ha.up (Nat.mul_le_mul_left _ (by omega : ls.length ≤ 61))).sm hD hs hs2
    have s2 : Sm q.2 := (hn.q q hm).sm hD hs3 hs2
    have hlt := s_is_less s1 s2
    have hmi := s_minus s2 s1
    have hll : (lackL (thereG gs day ls) done).length < 1000000 := by
      have := lackL_len (av := thereG gs day ls) (ns := done)
      have := hn.len
      omega
    refine ⟨⟨[some (.dat (.tuple (gs.map eG))), some (.dat (.tuple (ls.map eL))), some (.dat (.list (ns.map eN))), some (.dat (.int day)), some (.cel 0), some (.dat (.str q.1)), some (.dat (eR q.2)), v7, v8], [.lst ((lackL (thereG gs day ls) done).map eN)], 0⟩, ⟨[some (.dat (.tuple (gs.map eG))), some (.dat (.tuple (ls.map eL))), some (.dat (.list (ns.map eN))), some (.dat (.int day)), some (.cel 0), some (.dat (.str q.1)), some (.dat (eR q.2)), some (.dat (eR (thereG gs day ls q.1))), none], [.lst ((lackL (thereG gs day ls) (done ++ [q])).map eN)], 0⟩, rfl, .inl ?_, _, _, _, _, rfl⟩
    rw [lackL_snoc]
    rw [eR_zero] at e1
    by_cases h : thereG gs day ls q.1 < q.2
    · simp [b_lacking_l2, e1, hlt, h, hmi, hll, eN]
    · simp [b_lacking_l2, e1, hlt, h]
theorem t_to_buy {gs : List Gd} {ls : List (Lt Str)} {ns : List (Str × Rat)} {D M N : Nat} {day : Int} (hD : 0 < D) (hs : M * 61 * D < 2 ^ 1000) (hs2 : D < 2 ^ 1000) (hs3 : N * D < 2 ^ 1000) (hl : StO gs D M ls) (hn : NdO D N ns) :
    m_to_buy [.dat (.tuple (gs.map eG)), .dat (.tuple (ls.map eL)), .dat (.list (ns.map eN)), .dat (.int day)] [] = .ok (.dat (.list ((lackL (thereG gs day ls) ns).map eN))) [] := by
  have e := t_lacking (day := day) hD hs hs2 hs3 hl hn
  unfold m_to_buy b_to_buy
  simp [e]
/-! ### what is taken -/
theorem lot_ix0 (l : Lt Str) : dIx (eL l) (.int 0) = some (.str l.nm) := by simp [eL, dIx, atI, ixN]
theorem lot_ix1 (l : Lt Str) : dIx (eL l) (.int 1) = some (.int l.t) := by simp [eL, dIx, atI, ixN]
theorem lot_ix2 (l : Lt Str) : dIx (eL l) (.int 2) = some (eR l.q) := by simp [eL, dIx, atI, ixN]
theorem lot_sl (l : Lt Str) : dSl (eL l) none (some 2) = some (.tuple [.str l.nm, .int l.t]) := by
  simp only [eL, dSl, cut_take _ 2 (by decide)]; rfl
theorem eR_ix0 (q : Rat) : dIx (eR q) (.int 0) = some (.int q.num) := by simp [eR, dIx, atI, ixN]
theorem eR_ix1 (q : Rat) : dIx (eR q) (.int 1) = some (.int q.den) := by simp [eR, dIx, atI, ixN]
theorem eqOk_R (q : Rat) (x : PyData) : eqOk (eR q) x = true := eqOk_l (by rw [eR_depth]; decide)
theorem num_pos {q : Rat} : (0 < q.num) = (0 < q) := propext eR_pos
def nextK (ov : Lt Str → Bool) (kvs : List (Str × Rat)) (w : Str → Rat) (l : Lt Str) : List (Str × Rat) := if 0 < partT ov w l then aput kvs l.nm (wantT ov w l - partT ov w l) else kvs
theorem take_step {gs : List Gd} {l : Lt Str} {D M : Nat} {day : Int} {kvs : List (Str × Rat)} {rows rest : List (Lt Str)} {w : Str → Rat} {v1 v2 v4 v5 v10 v11 : Option AV} (hD : 0 < D) (hs : M * D < 2 ^ 1000) (hs2 : D < 2 ^ 1000) (hl : HasG gs l.nm) (hq : FrB D M l.q) (hk : ∀ q ∈ kvs, FrB D M q.2) (hkl : kvs.length < 1000000) (hw : ∀ n, w n = (aget kvs n).getD 0) (hr : rows.length < 1000000) (hr2 : rest.length < 1000000) :
    b_taken_l2 ⟨[some (.dat (.tuple (gs.map eG))), v1, v2, some (.dat (.int day)), v4, v5, some (.cel 0), some (.cel 1), some (.cel 2), some (.dat (eL l)), v10, v11], [.dct false (kvs.map (eK eR)), .lst (rows.map eL), .lst (rest.map eL)], 0⟩
    = .nx ⟨[some (.dat (.tuple (gs.map eG))), v1, v2, some (.dat (.int day)), v4, v5, some (.cel 0), some (.cel 1), some (.cel 2), some (.dat (eL l)), some (.dat (eR (wantT (ovG gs day) w l))), some (.dat (eR (partT (ovG gs day) w l)))], [.dct false ((nextK (ovG gs day) kvs w l).map (eK eR)), .lst ((rows ++ rowT (ovG gs day) w l).map eL), .lst ((rest ++ restT (ovG gs day) w l).map eL)], 0⟩ := by
  have ho := t_is_over (day := day) hl
  have hwl : FrB D M (wantT (ovG gs day) w l) := by
    unfold wantT
    split
    · exact FrB.zero
    · rw [hw]
      cases q : aget kvs l.nm with
      | none => exact FrB.zero
      | some r => exact hk _ (aget_mem q)
  have hpl : FrB D M (partT (ovG gs day) w l) := by unfold partT; split <;> assumption
  have s1 := hq.sm hD hs hs2
  have s2 := hwl.sm hD hs hs2
  have s3 := hpl.sm hD hs hs2
  have hlt := s_is_less s1 s2
  have hm1 := s_minus s2 s3
  have hm2 := s_minus s1 s3
  have hg : (kfind (kvs.map (eK eR)) (.str l.nm)).getD (.tuple [.int 0, .int 1]) = eR (w l.nm) := by
    rw [kfind_t, hw]
    cases aget kvs l.nm <;> rfl
  have hwant : (if ovG gs day l = true then (.tuple [.int 0, .int 1] : PyData) else eR (w l.nm)) = eR (wantT (ovG gs day) w l) := by
    unfold wantT
    split <;> rfl
  have hpart : (if l.q < wantT (ovG gs day) w l then eR l.q else eR (wantT (ovG gs day) w l)) = eR (partT (ovG gs day) w l) := by
    unfold partT
    split <;> rfl
  unfold nextK rowT restT
  generalize partT (ovG gs day) w l = pt at *
  have step1 : xIf (xB (xCall m_is_over (xCons (xVar 0) (xCons (xVar 9) (xCons (xVar 3) (xNil)))))) (xC (.tuple [.int 0, .int 1])) (xDGetD (xVar 6) (xIx (xVar 9) (xC (.int 0))) (xC (.tuple [.int 0, .int 1]))) ⟨[some (.dat (.tuple (gs.map eG))), v1, v2, some (.dat (.int day)), v4, v5, some (.cel 0), some (.cel 1), some (.cel 2), some (.dat (eL l)), none, none], [.dct false (kvs.map (eK eR)), .lst (rows.map eL), .lst (rest.map eL)], 0⟩ = .ok (.dat (eR (wantT (ovG gs day) w l))) ⟨[some (.dat (.tuple (gs.map eG))), v1, v2, some (.dat (.int day)), v4, v5, some (.cel 0), some (.cel 1), some (.cel 2), some (.dat (eL l)), none, none], [.dct false (kvs.map (eK eR)), .lst (rows.map eL), .lst (rest.map eL)], 0⟩ := by
    rw [← hwant]
    cases o : ovG gs day l with
    | true => rw [o] at ho; simp [ho]
    | false => rw [o] at ho; simp [ho, lot_ix0, kOk, hg]
  generalize wantT (ovG gs day) w l = wt at *
  have step2 : xIf (xB (xCall m_is_less (xCons (xIx (xVar 9) (xC (.int 2))) (xCons (xVar 10) (xNil))))) (xIx (xVar 9) (xC (.int 2))) (xVar 10) ⟨[some (.dat (.tuple (gs.map eG))), v1, v2, some (.dat (.int day)), v4, v5, some (.cel 0), some (.cel 1), some (.cel 2), some (.dat (eL l)), some (.dat (eR wt)), none], [.dct false (kvs.map (eK eR)), .lst (rows.map eL), .lst (rest.map eL)], 0⟩ = .ok (.dat (eR pt)) ⟨[some (.dat (.tuple (gs.map eG))), v1, v2, some (.dat (.int day)), v4, v5, some (.cel 0), some (.cel 1), some (.cel 2), some (.dat (eL l)), some (.dat (eR wt)), none], [.dct false (kvs.map (eK eR)), .lst (rows.map eL), .lst (rest.map eL)], 0⟩ := by
    rw [← hpart]
    by_cases h : l.q < wt
    · simp [lot_ix2, hlt, h]
    · simp [lot_ix2, hlt, h]
  refine (seq_nx (set_ok step1)).trans ?_
  refine (seq_nx (set_ok step2)).trans ?_
  have e1 : dNe (eR pt) (eR l.q) = some (.bool (!decide (pt = l.q))) := by rw [dNe, eqOk_R, eR_eqv]; rfl
  have e2 : kput (kvs.map (eK eR)) (.str l.nm) (eR (wt - pt)) = (aput kvs l.nm (wt - pt)).map (eK eR) := kput_t
  by_cases h1 : 0 < pt <;> by_cases h2 : pt = l.q
  · subst h2
    simp [eR_ix0, dGt, num_pos, h1, lot_sl, dAdd, hr, lot_ix0, hm1, kOk, hkl, e2, lot_ix2, e1]
    rfl
  · simp [eR_ix0, dGt, num_pos, h1, lot_sl, dAdd, hr, lot_ix0, hm1, kOk, hkl, e2, lot_ix2, e1, h2, hm2, hr2]
    exact ⟨rfl, rfl⟩
  · subst h2
    simp [eR_ix0, dGt, num_pos, h1, lot_ix2, e1]
  · simp [eR_ix0, dGt, num_pos, h1, lot_sl, dAdd, lot_ix2, e1, h2, hm2, hr2]
    rfl
theorem aget_bound {kvs : List (Str × Rat)} {D M : Nat} (hk : ∀ q ∈ kvs, FrB D M q.2) (n : Str) : FrB D M ((aget kvs n).getD 0) := by
  cases q : aget kvs n with
  | none => exact FrB.zero
  | some r => exact hk _ (aget_mem q)
theorem take_loop {gs : List Gd} {D M : Nat} {day : Int} {v1 v2 v4 v5 : Option AV} (hD : 0 < D) (hs : M * D < 2 ^ 1000) (hs2 : D < 2 ^ 1000) : ∀ (ls : List (Lt Str)) (kvs : List (Str × Rat)) (rows rest : List (Lt Str)) (w : Str → Rat) (v9 v10 v11 : Option AV),
    (∀ l ∈ ls, HasG gs l.nm ∧ 0 < l.q ∧ FrB D M l.q) → (∀ q ∈ kvs, FrB D M q.2) → kvs.length + ls.length < 1000000 → (∀ n, w n = (aget kvs n).getD 0) → rows.length + ls.length < 1000000 → rest.length + ls.length < 1000000 →
    ∃ (kvs' : List (Str × Rat)) (v9' v10' v11' : Option AV), forA (tName 9) b_taken_l2 (ls.map eL) ⟨[some (.dat (.tuple (gs.map eG))), v1, v2, some (.dat (.int day)), v4, v5, some (.cel 0), some (.cel 1), some (.cel 2), v9, v10, v11], [.dct false (kvs.map (eK eR)), .lst (rows.map eL), .lst (rest.map eL)], 0⟩
    = .nx ⟨[some (.dat (.tuple (gs.map eG))), v1, v2, some (.dat (.int day)), v4, v5, some (.cel 0), some (.cel 1), some (.cel 2), v9', v10', v11'], [.dct false (kvs'.map (eK eR)), .lst ((rows ++ takeR (ovG gs day) ls w).map eL), .lst ((rest ++ takeL (ovG gs day) ls w).map eL)], 0⟩
  | [], kvs, rows, rest, w, v9, v10, v11, _, _, _, _, _, _ => ⟨kvs, v9, v10, v11, by
      unfold takeR takeL forA
      rw [List.append_nil, List.append_nil]
      rfl⟩
  | l :: ls, kvs, rows, rest, w, v9, v10, v11, hl, hk, hkl, hw, hr, hr2 => by
    have h0 := hl l (List.mem_cons_self ..)
    rw [List.length_cons] at hkl hr hr2
    have es := take_step (gs := gs) (l := l) (day := day) (rows := rows) (rest := rest) (v1 := v1) (v2 := v2) (v4 := v4) (v5 := v5) (v10 := v10) (v11 := v11) hD hs hs2 h0.1 h0.2.2 hk (by omega) hw (by omega) (by omega)
    have hwn : ∀ n, 0 ≤ w n := fun n => by rw [hw n]; exact (aget_bound hk n).2.1
    have hp := part_spec (ov := ovG gs day) hwn h0.2.1
    have hwl : FrB D M (wantT (ovG gs day) w l) := by
      unfold wantT
      split
      · exact FrB.zero
      · rw [hw]; exact aget_bound hk _
    have hpl : FrB D M (partT (ovG gs day) w l) := by unfold partT; split; exact h0.2.2; exact hwl
    have hk2 : ∀ q ∈ nextK (ovG gs day) kvs w l, FrB D M q.2 := by
      unfold nextK
      split
      · exact aput_all hk (FrB.sub hD hwl hpl hp.2.2.1)
      · exact hk
    have hkl2 : (nextK (ovG gs day) kvs w l).length ≤ kvs.length + 1 := by
      unfold nextK
      split
      · exact aput_len
      · omega
    have hw2 : ∀ n, nextW (ovG gs day) w l n = (aget (nextK (ovG gs day) kvs w l) n).getD 0 := by
      intro n
      unfold nextW nextK
      split
      · rw [aget_put]
        show (if n = l.nm then _ else _) = _
        split
        · rfl
        · exact hw n
      · exact hw n
    have hrl : (rowT (ovG gs day) w l).length ≤ 1 := by unfold rowT; split <;> simp
    have hrl2 : (restT (ovG gs day) w l).length ≤ 1 := by unfold restT; split <;> simp
    obtain ⟨kvs', v9', v10', v11', ih⟩ := take_loop hD hs hs2 ls (nextK (ovG gs day) kvs w l) (rows ++ rowT (ovG gs day) w l) (rest ++ restT (ovG gs day) w l) (nextW (ovG gs day) w l) (some (.dat (eL l))) (some (.dat (eR (wantT (ovG gs day) w l)))) (some (.dat (eR (partT (ovG gs day) w l)))) (v1 := v1) (v2 := v2) (v4 := v4) (v5 := v5) (day := day) (gs := gs)
      (fun m hm => hl m (List.mem_cons_of_mem _ hm)) hk2 (by omega) hw2 (by rw [List.length_append]; omega) (by rw [List.length_append]; omega)
    refine ⟨kvs', v9', v10', v11', ?_⟩
    rw [List.map_cons]
    unfold forA
    simp only [tName, Fr.setv, List.set_cons_succ, List.set_cons_zero]
    rw [es]
    simp only
    rw [ih]
    have r1 : takeR (ovG gs day) (l :: ls) w = rowT (ovG gs day) w l ++ takeR (ovG gs day) ls (nextW (ovG gs day) w l) := rfl
    have r2 : takeL (ovG gs day) (l :: ls) w = restT (ovG gs day) w l ++ takeL (ovG gs day) ls (nextW (ovG gs day) w l) := rfl
    rw [r1, r2, List.append_assoc, List.append_assoc]
/-- needs of a name -/
def wOf (ns : List (Str × Rat)) (n : Str) : Rat := (aget ns n).getD 0
theorem t_taken {gs : List Gd} {ls : List (Lt Str)} {ns : List (Str × Rat)} {D M : Nat} {day : Int} (hD : 0 < D) (hs : M * 61 * D < 2 ^ 1000) (hs2 : D < 2 ^ 1000) (hl : StO gs D M ls) (hn : NdO D M ns) (h0 : lackL (thereG gs day ls) ns = []) :
    m_taken [.dat (.tuple (gs.map eG)), .dat (.tuple (ls.map eL)), .dat (.list (ns.map eN)), .dat (.int day)] [] = .ok (.dat (.tuple [.list ((takeR (ovG gs day) ls (wOf ns)).map eL), .tuple ((takeL (ovG gs day) ls (wOf ns)).map eL)])) [] := by
  have hs3 : M * D < 2 ^ 1000 := Nat.lt_of_le_of_lt (Nat.mul_le_mul_right _ (Nat.le_mul_of_pos_right _ (by decide))) hs
  have el := t_lacking (day := day) hD hs hs2 hs3 hl hn
  rw [h0] at el
  have hll := hl.len
  have hnl := hn.len
  obtain ⟨kvs', v9, v10, v11, e⟩ := take_loop (gs := gs) (D := D) (M := M) (day := day) (v1 := some (.dat (.tuple (ls.map eL)))) (v2 := some (.dat (.list (ns.map eN)))) (v4 := none) (v5 := none) hD hs3 hs2 ls ns [] [] (wOf ns) none none none (fun l h => ⟨hl.nm l h, hl.q0 l h, hl.q l h⟩) hn.q (by omega) (fun n => rfl) (by rw [List.length_nil]; omega) (by rw [List.length_nil]; omega)
  rw [List.nil_append, List.nil_append] at e
  have hd := dict_nodup hn.nd
  unfold m_taken b_taken
  simp [el, forA, pairs_t, hd]
  simp at e
  simp [e]
end G
/-! ND: what is a whole number, a fraction, a store; wants, sums. -/
namespace G
open PySem PySem.Spec PyProof.Rows L2
open PySem.W (dataLt dataLe alike keyToks)
/-! ### of anything -/
def wholeB : PyData → Bool
  | .int _ => true
  | _ => false
theorem t_is_whole (x : PyData) : m_is_whole [.dat x] [] = .ok (.dat (.bool (wholeB x))) [] := by
  unfold m_is_whole b_is_whole
  cases x <;> simp [isi, isiN, tyN, wholeB]
def fromB (lo hi : Int) : PyData → Bool
  | .int i => decide (lo ≤ i) && decide (i ≤ hi)
  | _ => false
theorem t_is_from (x : PyData) (lo hi : Int) : m_is_from [.dat x, .dat (.int lo), .dat (.int hi)] [] = .ok (.dat (.bool (fromB lo hi x))) [] := by
  unfold m_is_from b_is_from
  cases x with
  | int i =>
    by_cases h : lo ≤ i <;> simp [t_is_whole, wholeB, dLe, fromB, h]
  | _ => simp [t_is_whole, wholeB, fromB]
def fracB : PyData → Bool
  | .tuple [.int p, .int q] => decide (0 < q) && decide (Nat.gcd p.natAbs q.natAbs = 1)
  | _ => false
theorem t_is_fraction (x : PyData) : m_is_fraction [.dat x] [] = .ok (.dat (.bool (fracB x))) [] := by
  unfold m_is_fraction b_is_fraction
  cases x with
  | tuple xs =>
    match xs with
    | [] => simp [isi, isiN, tyN, dNe, eqOk_int, eqv_int, fracB]
    | [a] => simp [isi, isiN, tyN, dNe, eqOk_int, eqv_int, fracB]
    | a :: b :: c :: r =>
      have e : ¬ ((r.length : Int) + 1 + 1 + 1 = 2) := by omega
      have f : fracB (.tuple (a :: b :: c :: r)) = false := by cases a <;> cases b <;> rfl
      simp [isi, isiN, tyN, dNe, eqOk_int, eqv_int, f, e]
    | [a, b] =>
      cases a with
      | int p =>
        cases b with
        | int q =>
          have hd := s_divisor p q
          have hf : fracB (.tuple [.int p, .int q]) = (decide (0 < q) && decide (Nat.gcd p.natAbs q.natAbs = 1)) := rfl
          rw [hf]
          by_cases h : 0 < q
          · by_cases h1 : Nat.gcd p.natAbs q.natAbs = 1
            · rw [h1] at hd
              simp [isi, isiN, tyN, dNe, eqOk_int, eqv_int, dIx, atI, ixN, t_is_whole, wholeB, dGt, h, hd, dEq, h1]
            · have h2 : ¬ (((Nat.gcd p.natAbs q.natAbs : Nat) : Int) = 1) := by omega
              simp [isi, isiN, tyN, dNe, eqOk_int, eqv_int, dIx, atI, ixN, t_is_whole, wholeB, dGt, h, hd, dEq, h1, h2]
          · simp [isi, isiN, tyN, dNe, eqOk_int, eqv_int, dIx, atI, ixN, t_is_whole, wholeB, dGt, h, fracB]
        | _ => simp [isi, isiN, tyN, dNe, eqOk_int, eqv_int, dIx, atI, ixN, t_is_whole, wholeB, fracB]
      | _ => simp [isi, isiN, tyN, dNe, eqOk_int, eqv_int, dIx, atI, ixN, t_is_whole, wholeB, fracB]
  | _ => simp [isi, isiN, tyN, fracB]
def topB : PyData → Bool
  | .tuple (.int p :: _) => decide (0 < p)
  | _ => false
def amtB (x : PyData) : Bool := fracB x && topB x
theorem fracB_of {x : PyData} (h : fracB x = true) : ∃ q : Rat, x = eR q := by
  unfold fracB at h
  split at h
  · rename_i p q
    rw [Bool.and_eq_true, decide_eq_true_eq, decide_eq_true_eq] at h
    refine ⟨⟨p, q.toNat, by omega, by rw [Nat.Coprime, ← h.2]; congr 1; omega⟩, ?_⟩
    simp only [eR]
    rw [Int.toNat_of_nonneg (by omega)]
  · cases h
theorem fracB_R (q : Rat) : fracB (eR q) = true := by
  unfold fracB eR
  simp only [Int.natAbs_natCast, Bool.and_eq_true, decide_eq_true_eq]
  exact ⟨by have := q.den_pos; omega, q.reduced⟩
theorem amtB_R' (q : Rat) : amtB (eR q) = decide (0 < q) := by
  unfold amtB
  rw [fracB_R, Bool.true_and]
  show decide (0 < q.num) = _
  rw [decide_eq_decide, num_pos]
theorem amtB_R {q : Rat} (h : 0 < q) : amtB (eR q) = true := by rw [amtB_R']; exact decide_eq_true h
theorem t_is_amount (x : PyData) : m_is_amount [.dat x] [] = .ok (.dat (.bool (amtB x))) [] := by
  unfold m_is_amount b_is_amount
  cases h : fracB x with
  | false =>
    have e : amtB x = false := by unfold amtB; rw [h]; rfl
    simp [t_is_fraction, h, e]
  | true =>
    obtain ⟨q, rfl⟩ := fracB_of h
    simp [t_is_fraction, fracB_R, eR_ix0, dGt, amtB_R', num_pos]
/-! ### rising -/
/-- each one less than the next -/
def adjB {α : Type} (lt : α → α → Bool) : List α → Bool
  | a :: b :: xs => lt a b && adjB lt (b :: xs)
  | _ => true
theorem boolsD_map {α : Type} (f : α → Bool) : ∀ xs : List α, boolsD (xs.map fun x => PyData.bool (f x)) = some (xs.map f)
  | [] => rfl
  | x :: xs => by
    rw [List.map_cons]
    unfold boolsD
    rw [boolsD_map f xs]
    rfl
theorem adj_zip {α : Type} (lt : α → α → Bool) : ∀ xs : List α, ((xs.zip (xs.drop 1)).map fun p => lt p.1 p.2).all id = adjB lt xs
  | [] => rfl
  | [a] => rfl
  | a :: b :: xs => by
    have := adj_zip lt (b :: xs)
    rw [List.drop_succ_cons, List.drop_zero] at this ⊢
    rw [List.zip_cons_cons, List.map_cons, List.all_cons, this]
    rfl
theorem cut_drop (xs : List PyData) : cutD xs (some 1) none = xs.drop 1 := by
  unfold cutD HT.sIx
  cases xs with
  | nil => rfl
  | cons x xs =>
    simp only [List.length_cons]
    rw [if_neg (by omega)]
    have : min (1 : Int).toNat (xs.length + 1) = 1 := by omega
    rw [this, List.drop_succ_cons, List.drop_zero, Nat.add_sub_cancel, List.take_length]
theorem t_is_rising {α : Type} (e : α → PyData) (lt : α → α → Bool) (xs : List α) (hl : xs.length ≤ 1000000) (h : ∀ x ∈ xs, ∀ y ∈ xs, dLt (e x) (e y) = some (.bool (lt x y))) : m_is_rising [.dat (.list (xs.map e))] [] = .ok (.dat (.bool (adjB lt xs))) [] := by
  have hz : zipD (xs.map e) ((xs.map e).drop 1) = (xs.zip (xs.drop 1)).map fun p => .tuple [e p.1, e p.2] := by
    unfold zipD
    rw [← List.map_drop, List.zip_map, List.map_map]
    rfl
  have ec := xComp_typed (own := [1, 2]) (g := tNames [1, 2]) (t := xYes) (f := b_is_rising_e1) (e := xZip (xVar 0) (xSl (xVar 0) (xSo (xC (.int 1))) (xNo))) (fr := ⟨[some (.dat (.list (xs.map e))), none, none], [], 0⟩) (fun p : α × α => .tuple [e p.1, e p.2]) (fun _ => true) (fun p => .bool (lt p.1 p.2)) (fun p => ⟨[some (.dat (.list (xs.map e))), some (.dat (e p.1)), some (.dat (e p.2))], [], 0⟩) (xs.zip (xs.drop 1))
    (by simp [dSl, seqD, cut_drop]; simpa using hz) (by rw [List.length_zip]; omega) (fun _ _ => rfl) (fun _ => rfl) (fun _ _ => rfl) (fun p hp _ => by
      have hm := List.of_mem_zip (a := p.1) (b := p.2) hp
      simp [b_is_rising_e1, h p.1 hm.1 p.2 (List.mem_of_mem_drop hm.2)])
  rw [List.filter_eq_self.mpr (fun _ _ => rfl)] at ec
  rw [List.drop_one] at ec
  have hb := boolsD_map (fun p : α × α => lt p.1 p.2) (xs.zip xs.tail)
  have ha := adj_zip lt xs
  rw [List.drop_one] at ha
  unfold m_is_rising b_is_rising
  simp [ec, dAll, hb]
  simpa using ha
theorem adj_pw {α : Type} {lt : α → α → Bool} : ∀ {xs : List α}, xs.Pairwise (fun a b => lt a b = true) → adjB lt xs = true
  | [], _ => rfl
  | [a], _ => rfl
  | a :: b :: xs, h => by
    rw [List.pairwise_cons] at h
    unfold adjB
    rw [h.1 b (List.mem_cons_self ..), adj_pw h.2]
    rfl
theorem pw_adj {α : Type} {lt : α → α → Bool} (tr : ∀ a b c, lt a b = true → lt b c = true → lt a c = true) : ∀ {xs : List α}, adjB lt xs = true → xs.Pairwise (fun a b => lt a b = true)
  | [], _ => .nil
  | [a], _ => by simp
  | a :: b :: xs, h => by
    unfold adjB at h
    rw [Bool.and_eq_true] at h
    have ih := pw_adj tr h.2
    rw [List.pairwise_cons]
    refine ⟨fun c hc => ?_, ih⟩
    rcases List.mem_cons.mp hc with rfl | hc
    · exact h.1
    · exact tr a b c h.1 ((List.pairwise_cons.mp ih).1 c hc)
/-! ### a store that is one -/
theorem dLt_key (a b : Str × Int) : dLt (.tuple [.str a.1, .int a.2]) (.tuple [.str b.1, .int b.2]) = some (.bool (keyLt a b)) := by
  have : cmpOk (.tuple [.str a.1, .int a.2]) (.tuple [.str b.1, .int b.2]) = true := by
    simp [cmpOk, alike, PySem.W.alikeAll, PyData.depth, PyData.depthAll]
  show (if cmpOk (.tuple [.str a.1, .int a.2]) (.tuple [.str b.1, .int b.2]) = true then some (PyData.bool _) else none) = _
  rw [if_pos this]
  rfl
theorem t_is_store {gs : List Gd} {ls : List (Lt Str)} (hl : ∀ l ∈ ls, HasG gs l.nm ∧ 0 ≤ l.t ∧ l.t ≤ 1000000 ∧ 0 < l.q) (hz : ls.length ≤ 60) (hr : RiseK (ls.map keyT)) : m_is_store [.dat (.tuple (gs.map eG)), .dat (.tuple (ls.map eL))] [] = .ok (.dat (.bool true)) [] := by
  have key := forA_typed (g := tName 2) (b := b_is_store_l1) eL (fun done fr => ∃ v2, fr = ⟨[some (.dat (.tuple (gs.map eG))), some (.dat (.tuple (ls.map eL))), v2], [], 0⟩) ls ⟨[some (.dat (.tuple (gs.map eG))), some (.dat (.tuple (ls.map eL))), none], [], 0⟩ ⟨none, rfl⟩ ?_
  · obtain ⟨fr', e, v2, rfl⟩ := key
    have ec := xComp_typed (own := [2]) (g := tName 2) (t := xYes) (f := b_is_store_e1) (e := xItems (xVar 1)) (fr := ⟨[some (.dat (.tuple (gs.map eG))), some (.dat (.tuple (ls.map eL))), none], [], 0⟩) eL (fun _ => true) (fun l => .tuple [.str l.nm, .int l.t]) (fun l => ⟨[some (.dat (.tuple (gs.map eG))), some (.dat (.tuple (ls.map eL))), some (.dat (eL l))], [], 0⟩) ls (by simp) (by omega) (fun _ _ => rfl) (fun _ => rfl) (fun _ _ => rfl)
      (fun l _ _ => by simp [b_is_store_e1, lot_sl])
    rw [List.filter_eq_self.mpr (fun _ _ => rfl)] at ec
    have er := t_is_rising (fun l : Lt Str => .tuple [.str l.nm, .int l.t]) (fun a b => keyLt (keyT a) (keyT b)) ls (by omega) fun a _ b _ => dLt_key (keyT a) (keyT b)
    rw [adj_pw (by unfold RiseK at hr; rw [List.pairwise_map] at hr; exact hr)] at er
    have hz2 : ¬ (60 < (ls.length : Int)) := by omega
    unfold m_is_store b_is_store
    simp [isi, isiN, tyN, dGt, hz2, e, ec, er]
  · rintro done l rest fr he ⟨v2, rfl⟩
    obtain ⟨hm, _, _⟩ := take_of he
    obtain ⟨h1, h2, h3, h4⟩ := hl l hm
    obtain ⟨g, q, _, _⟩ := h1.find
    have e := t_good_of gs l.nm
    rw [q] at e
    refine ⟨_, ⟨[some (.dat (.tuple (gs.map eG))), some (.dat (.tuple (ls.map eL))), some (.dat (eL l))], [], 0⟩, rfl, .inl ?_, _, rfl⟩
    have hf : fromB 0 1000000 (.int l.t) = true := by simp [fromB, h2, h3]
    have hlen : dLen [eL l] = some (.int 3) := rfl
    have hty : isi "tuple" (eL l) = true := rfl
    have hst : isi "str" (.str l.nm) = true := rfl
    have hgn : isNonB (eG g) = false := rfl
    simp [b_is_store_l1, hty, -dLen, hlen, dNe, eqOk_int, eqv_int, lot_ix0, hst, e, dIsN, hgn, lot_ix1, lot_ix2, t_is_from, hf, t_is_amount, amtB_R h4]
end G
/-! NE: wants, sums; law k53. -/
namespace G
open PySem PySem.Spec PyProof.Rows L2
open PySem.W (dataLt dataLe alike keyToks)
/-! ### wants -/
theorem t_oneT {α : Type} {e : α → PyData} {n : Nat} {d : Dk} {xs : List α} (h : d.ok (n + 1)) (hx : 0 < xs.length) (hx2 : xs.length < 2147483648) : ∃ x d', m__law_one [.cel 0, .dat (.tuple (xs.map e))] [.lst d.l] = .ok (.dat (e x)) [.lst (Dk.l d')] ∧ d'.ok n ∧ x ∈ xs := by
  obtain ⟨y, d', h1, h2, h3⟩ := s_oneT (xs := xs.map e) h (by simpa using hx) (by simpa using hx2)
  obtain ⟨x, hx3, rfl⟩ := List.mem_map.mp h3
  exact ⟨x, d', h1, h2, hx3⟩
theorem t_one {α : Type} {e : α → PyData} {n : Nat} {d : Dk} {xs : List α} (h : d.ok (n + 1)) (hx : 0 < xs.length) (hx2 : xs.length < 2147483648) : ∃ x d', m__law_one [.cel 0, .dat (.list (xs.map e))] [.lst d.l] = .ok (.dat (e x)) [.lst (Dk.l d')] ∧ d'.ok n ∧ x ∈ xs := by
  obtain ⟨y, d', h1, h2, h3⟩ := s_one (xs := xs.map e) h (by simpa using hx) (by simpa using hx2)
  obtain ⟨x, hx3, rfl⟩ := List.mem_map.mp h3
  exact ⟨x, d', h1, h2, hx3⟩
theorem t_amount {n : Nat} {d : Dk} (h : d.ok (n + 2)) : ∃ (q : Rat) (d' : Dk), m__law_amount [.cel 0] [.lst d.l] = .ok (.dat (eR q)) [.lst (Dk.l d')] ∧ d'.ok n ∧ 0 < q ∧ FrB 420 40 q := by
  obtain ⟨x, d', h1, h2, h3⟩ := s_amount h
  obtain ⟨q, rfl, h4, h5⟩ := amt_of x h3
  exact ⟨q, d', h1, h2, h4, h5⟩
theorem gd_ix0 (g : Gd) : dIx (eG g) (.int 0) = some (.str g.nm) := by simp [eG, dIx, atI, ixN]
theorem t_wants {n : Nat} {d : Dk} {gs : List Gd} (h : d.ok (n + 10)) (h0 : 0 < gs.length) (h6 : gs.length ≤ 6) : ∃ (ns : List (Str × Rat)) (d' : Dk), m__law_wants [.cel 0, .dat (.tuple (gs.map eG))] [.lst d.l] = .ok (.dat (.list (ns.map eN))) [.lst (Dk.l d')] ∧ d'.ok n ∧ NdO 420 40 ns ∧ (∀ q ∈ ns, HasG gs q.1) ∧ ns.length ≤ 3 ∧ srtT eN ns = ns := by
  obtain ⟨v, d1, e1, h1, v0, v1⟩ := s_pick (n := n + 9) h (k := 3) (by decide) (by decide)
  have key := forA_all (g := tName 3) (b := b__law_wants_l1) (fun done fr => ∃ (d' : Dk) (kvs : List (Str × Rat)) (v3 : Option AV), fr = ⟨[some (.cel 0), some (.dat (.tuple (gs.map eG))), some (.cel 1), v3], [.lst d'.l, .dct false (kvs.map (eK eR))], 1⟩ ∧ d'.ok (n + 3 * (3 - done.length)) ∧ (∀ q ∈ kvs, 0 < q.2 ∧ FrB 420 40 q.2 ∧ HasG gs q.1) ∧ (kvs.map (·.1)).Nodup ∧ kvs.length ≤ done.length)
    (rangeD 0 (1 + v).toNat) ⟨[some (.cel 0), some (.dat (.tuple (gs.map eG))), some (.cel 1), none], [.lst d1.l, .dct false []], 1⟩ ⟨d1, [], none, rfl, h1, (fun q hq => nomatch hq), .nil, Nat.le_refl _⟩ ?_
  · obtain ⟨fr', e, d', kvs, v3, rfl, h3, h4, h5, h7⟩ := key
    rw [rangeD_len] at h3 h7
    have pm := srtT_perm eN kvs
    have hle : kvs.length ≤ 3 := by omega
    have es := srtd_items (kvs := kvs) (by omega)
    have hin : ∀ q ∈ srtT eN kvs, 0 < q.2 ∧ FrB 420 40 q.2 ∧ HasG gs q.1 := fun q hq => h4 q (pm.mem_iff.mp hq)
    refine ⟨srtT eN kvs, d', ?_, h3.less (by omega), ⟨fun q hq => (hin q hq).1, fun q hq => (hin q hq).2.1, by rw [pm.length_eq]; omega, (pm.map _).nodup_iff.mpr h5⟩, fun q hq => (hin q hq).2.2, by rw [pm.length_eq]; omega, ?_⟩
    · have rg : rgOk (1 + v) = true := by unfold rgOk; exact decide_eq_true (by omega)
      unfold m__law_wants b__law_wants
      simp [e1, dAdd, rg, e, es]
    · unfold srtT
      refine List.mergeSort_of_pairwise ?_
      have := srt_pw (kvs.map eN)
      rw [srtT_map, List.pairwise_map] at this
      exact this
  · rintro done y rest fr hy ⟨d', kvs, v3, rfl, hd, hs, nd, hl⟩
    have hlen : done.length < 3 := by
      have := congrArg List.length hy
      rw [rangeD_len] at this
      simp at this; omega
    obtain ⟨m, hm7⟩ : ∃ m, n + 3 * (3 - done.length) = n + 3 * (3 - (done ++ [y]).length) + 3 ∧ m = 0 := ⟨0, by simp; omega, rfl⟩
    rw [hm7.1] at hd
    generalize hq7 : n + 3 * (3 - (done ++ [y]).length) = q at *
    obtain ⟨x, d2, e2, g2, x0, xq⟩ := t_amount (n := q + 1) hd
    obtain ⟨g, d3, e3, g3, hg⟩ := t_oneT (e := eG) (n := q) (xs := gs) g2 h0 (by omega)
    have kl : kvs.length < 1000000 := by omega
    have ek : kput (kvs.map (eK eR)) (.str g.nm) (eR x) = (aput kvs g.nm x).map (eK eR) := kput_t
    refine ⟨_, ⟨[some (.cel 0), some (.dat (.tuple (gs.map eG))), some (.cel 1), none], [.lst d3.l, .dct false ((aput kvs g.nm x).map (eK eR))], 1⟩, rfl, .inl ?_, d3, _, none, rfl, g3, aput_all hs ⟨x0, xq, g, hg, rfl⟩, aput_nodup nd, ?_⟩
    · simp [b__law_wants_l1, e2, e3, gd_ix0, kOk, kl, ek]
    · have := aput_len (kvs := kvs) (n := g.nm) (v := x)
      simp; omega
/-! ### sums -/
section
variable {α : Type} (nm : α → Str) (q : α → Rat)
def sumN (xs : List α) (n : Str) : Rat := ((xs.filter fun x => nm x == n).map q).sum
def sumsA (xs : List α) : List (Str × Rat) := xs.foldl (fun a x => aput a (nm x) ((aget a (nm x)).getD 0 + q x)) []
theorem sumsA_snoc (xs : List α) (x : α) : sumsA nm q (xs ++ [x]) = aput (sumsA nm q xs) (nm x) ((aget (sumsA nm q xs) (nm x)).getD 0 + q x) := by
  unfold sumsA; rw [List.foldl_append]; rfl
theorem sumN_snoc (xs : List α) (x : α) (n : Str) : sumN nm q (xs ++ [x]) n = sumN nm q xs n + (if nm x = n then q x else 0) := by
  unfold sumN
  rw [List.filter_append, List.map_append, List.sum_append]
  congr 1
  by_cases h : nm x = n
  · rw [if_pos h, List.filter_cons_of_pos (by simpa using h)]; simp; grind
  · rw [if_neg h, List.filter_cons_of_neg (by simpa using h)]; simp
theorem snoc_ind {β : Type} {P : List β → Prop} (h0 : P []) (hs : ∀ xs x, P xs → P (xs ++ [x])) : ∀ xs, P xs := by
  intro xs
  have : ∀ ys : List β, P ys.reverse := by
    intro ys
    induction ys with
    | nil => exact h0
    | cons y ys ih => rw [List.reverse_cons]; exact hs _ _ ih
  have h := this xs.reverse
  rwa [List.reverse_reverse] at h
theorem sumsA_nodup (xs : List α) : ((sumsA nm q xs).map (·.1)).Nodup := by
  refine snoc_ind (P := fun xs => ((sumsA nm q xs).map (·.1)).Nodup) .nil (fun xs x ih => ?_) xs
  rw [sumsA_snoc]
  exact aput_nodup ih
theorem sumsA_get (xs : List α) (n : Str) : aget (sumsA nm q xs) n = if (xs.any fun x => nm x == n) = true then some (sumN nm q xs n) else none := by
  refine snoc_ind (P := fun xs => ∀ n, aget (sumsA nm q xs) n = if (xs.any fun x => nm x == n) = true then some (sumN nm q xs n) else none) (fun n => rfl) (fun xs x ih n => ?_) xs n
  rw [sumsA_snoc, aget_put, sumN_snoc, List.any_append, ih (nm x), ih n]
  by_cases h : n = nm x
  · subst h
    rw [if_pos rfl, if_pos rfl]
    have hn : ([x].any fun y => nm y == nm x) = true := by simp
    rw [hn, Bool.or_true, if_pos rfl]
    split
    · rfl
    · rename_i h2
      have : sumN nm q xs (nm x) = 0 := by
        unfold sumN
        have : (xs.filter fun y => nm y == nm x) = [] := List.filter_eq_nil_iff.mpr fun y hy e => h2 (List.any_eq_true.mpr ⟨y, hy, e⟩)
        rw [this]; rfl
      rw [this]; rfl
  · rw [if_neg h]
    have hn : ([x].any fun y => nm y == n) = false := by simp [Ne.symm h]
    rw [hn, Bool.or_false, if_neg (Ne.symm h)]
    split
    · congr 1; grind
    · rfl
theorem sumN_bound {D M : Nat} (hD : 0 < D) (n : Str) : ∀ {xs : List α}, (∀ x ∈ xs, FrB D M (q x)) → FrB D (M * xs.length) (sumN nm q xs n) := by
  intro xs
  refine snoc_ind (P := fun xs => (∀ x ∈ xs, FrB D M (q x)) → FrB D (M * xs.length) (sumN nm q xs n)) (fun _ => FrB.zero) (fun xs x ih h => ?_) xs
  rw [sumN_snoc, List.length_append]
  refine FrB.add hD (ih fun y hy => h y (by simp [hy])) ?_
  split
  · exact h x (by simp)
  · exact FrB.zero
theorem sumsA_len (xs : List α) : (sumsA nm q xs).length ≤ xs.length := by
  refine snoc_ind (P := fun xs => (sumsA nm q xs).length ≤ xs.length) (Nat.le_refl _) (fun xs x ih => ?_) xs
  rw [sumsA_snoc, List.length_append]
  have := aput_len (kvs := sumsA nm q xs) (n := nm x) (v := (aget (sumsA nm q xs) (nm x)).getD 0 + q x)
  simp; omega
theorem t_sums {e : α → PyData} {xs : List α} {D M : Nat} {y : PyData} (hy : y = .list (xs.map e) ∨ y = .tuple (xs.map e)) (hD : 0 < D) (hl : xs.length ≤ 1000) (hs : M * 1000 * D < 2 ^ 1000) (hs2 : D < 2 ^ 1000) (h0 : ∀ x, dIx (e x) (.int 0) = some (.str (nm x))) (h1 : ∀ x, dIx (e x) (.int (-1)) = some (eR (q x))) (hq : ∀ x ∈ xs, FrB D M (q x)) :
    m__law_sums [.dat y] [] = .ok (.dct false ((sumsA nm q xs).map (eK eR))) [] := by
  have key := forA_typed (g := tName 2) (b := b__law_sums_l1) e (fun done fr => ∃ v2, fr = ⟨[some (.dat y), some (.cel 0), v2], [.dct false ((sumsA nm q done).map (eK eR))], 0⟩) xs ⟨[some (.dat y), some (.cel 0), none], [.dct false []], 0⟩ ⟨none, rfl⟩ ?_
  · obtain ⟨fr', ef, v2, rfl⟩ := key
    unfold m__law_sums b__law_sums
    rcases hy with rfl | rfl <;> simp [ef]
  · rintro done x rest fr he ⟨v2, rfl⟩
    obtain ⟨hm, hd, hlen⟩ := take_of he
    refine ⟨_, ⟨[some (.dat y), some (.cel 0), some (.dat (e x))], [.dct false ((sumsA nm q (done ++ [x])).map (eK eR))], 0⟩, rfl, .inl ?_, _, rfl⟩
    have hg : (kfind ((sumsA nm q done).map (eK eR)) (.str (nm x))).getD (.tuple [.int 0, .int 1]) = eR ((aget (sumsA nm q done) (nm x)).getD 0) := by
      rw [kfind_t]
      cases aget (sumsA nm q done) (nm x) <;> rfl
    have hb : FrB D (M * 1000) ((aget (sumsA nm q done) (nm x)).getD 0) := by
      rw [sumsA_get]
      split
      · exact (sumN_bound nm q hD (nm x) fun z hz => hq z (hd z hz)).up (Nat.mul_le_mul_left _ (by omega))
      · exact FrB.zero
    have hb2 : FrB D (M * 1000) (q x) := (hq x hm).up (Nat.le_mul_of_pos_right _ (by decide))
    have hp := s_lplus (hb.sm hD hs hs2) (hb2.sm hD hs hs2)
    have ek : kput ((sumsA nm q done).map (eK eR)) (.str (nm x)) (eR ((aget (sumsA nm q done) (nm x)).getD 0 + q x)) = (sumsA nm q (done ++ [x])).map (eK eR) := by rw [sumsA_snoc]; exact kput_t
    have kl : (sumsA nm q done).length < 1000000 := by
      have := sumsA_len nm q done
      omega
    simp [b__law_sums_l1, h0, h1, dNeg, kOk, hg, hp, kl, ek]
end
end G
/-! OA: cookbooks, as the laws draw them. -/
namespace G
open PySem PySem.Spec PyProof.Rows L2
open PySem.W (dataLt dataLe alike keyToks)
def b__law_step_l1 : Fr → SRes :=
  sKill [5] (sDSet 4 (xCall m__law_one (xCons (xVar 0) (xCons (xVar 2) (xNil)))) (xCall m__law_amount (xCons (xVar 0) (xNil))))
def b__law_step_t1 : Fr → Res Bool :=
  xB (xOp2 dEq (xCall m__law_pick (xCons (xVar 0) (xCons (xC (.int 3)) (xNil)))) (xC (.int 0)))
def b__law_step_e1 : Fr → Res AV :=
  xVar 10
def b__law_step_t2 : Fr → Res Bool :=
  xB (xOp2 dEq (xCall m__law_pick (xCons (xVar 0) (xCons (xC (.int 2)) (xNil)))) (xC (.int 0)))
def b__law_step_e2 : Fr → Res AV :=
  xVar 11
def b__law_step : Fr → SRes :=
  sSeq (sSet 4 (xNewD false))
  (sSeq (sFor (xRange1 (xCall m__law_pick (xCons (xVar 0) (xCons (xC (.int 3)) (xNil))))) (tName 5) (b__law_step_l1))
  (sKill [5] (sSeq (sSet 6 (xCall m__law_one (xCons (xVar 0) (xCons (xLst (xCons (xC (.str "bench")) (xCons (xC (.str "oven")) (xCons (xC (.str "stove")) (xNil))))) (xNil)))))
  (sSeq (sSet 7 (xB1 dTuple (xCons (xComp [10] (xItems (xLst (xCons (xC (.str "bowl")) (xCons (xC (.str "knife")) (xCons (xC (.str "pan")) (xNil)))))) (tName 10) (b__law_step_t1) (b__law_step_e1)) (xNil))))
  (sSeq (sSet 8 (xB1 dTuple (xCons (xComp [11] (xItems (xB1 dSorted (xCons (xVar 3) (xNil)))) (tName 11) (b__law_step_t2) (b__law_step_e2)) (xNil))))
  (sSeq (sSet 9 (xOp2 dAdd (xC (.int 1)) (xCall m__law_pick (xCons (xVar 0) (xCons (xCall m__law_one (xCons (xVar 0) (xCons (xLst (xCons (xC (.int 5)) (xCons (xC (.int 5)) (xCons (xC (.int 20)) (xNil))))) (xNil)))) (xNil))))))
  (sRet (xTup (xCons (xVar 1) (xCons (xVar 6) (xCons (xVar 9) (xCons (xCall m__law_pick (xCons (xVar 0) (xCons (xC (.int 2)) (xNil)))) (xCons (xVar 7) (xCons (xB1 dTuple (xCons (xD1 dSortedI (xVar 4)) (xNil))) (xCons (xVar 8) (xNil))))))))))))))))
def m__law_step : AFun := mkFun 12 4 b__law_step

def b__law_cookbook_e1 : Fr → Res AV :=
  xIx (xVar 9) (xC (.int 0))
def b__law_cookbook_l1 : Fr → SRes :=
  sSeq (sApp 7 (xCallL [false, false, false, true] m__law_step (xCons (xVar 0) (xCons (xVar 8) (xCons (xVar 2) (xCons (xVar 6) (xNil)))))))
  (sApp 6 (xVar 8))
def b__law_cookbook_l2 : Fr → SRes :=
  sKill [6, 7, 8] (sGc (sSeq (sSet 6 (xNewL (xNil)))
  (sSeq (sSet 7 (xNewL (xNil)))
  (sSeq (sFor (xItems (xSl (xLst (xCons (xC (.str "mix")) (xCons (xC (.str "bake")) (xCons (xC (.str "cut")) (xCons (xC (.str "rest")) (xNil)))))) (xNo) (xSo (xOp2 dAdd (xC (.int 1)) (xCall m__law_pick (xCons (xVar 0) (xCons (xC (.int 3)) (xNil)))))))) (tName 8) (b__law_cookbook_l1))
  (sKill [8] (sSeq (sApp 3 (xTup (xCons (xVar 5) (xCons (xOp2 dAdd (xC (.int 1)) (xCall m__law_pick (xCons (xVar 0) (xCons (xC (.int 6)) (xNil))))) (xCons (xB1 dTuple (xCons (xVar 7) (xNil))) (xNil))))))
  (sSet 2 (xOp2 dAdd (xVar 2) (xLst (xCons (xVar 5) (xNil)))))))))))
def b__law_cookbook : Fr → SRes :=
  sSeq (sSet 2 (xComp [9] (xItems (xVar 1)) (tName 9) (xYes) (b__law_cookbook_e1)))
  (sSeq (sSet 3 (xNewL (xNil)))
  (sSeq (sSet 4 (xCall m__law_one (xCons (xVar 0) (xCons (xLst (xCons (xLst (xCons (xC (.str "bread")) (xCons (xC (.str "cake")) (xCons (xC (.str "pie")) (xCons (xC (.str "soup")) (xNil)))))) (xCons (xLst (xCons (xC (.str "tart")) (xCons (xC (.str "stew")) (xCons (xC (.str "rice")) (xCons (xC (.str "fry")) (xNil)))))) (xNil)))) (xNil)))))
  (sSeq (sFor (xItems (xSl (xVar 4) (xNo) (xSo (xOp2 dAdd (xC (.int 1)) (xCall m__law_pick (xCons (xVar 0) (xCons (xC (.int 4)) (xNil)))))))) (tName 5) (b__law_cookbook_l2))
  (sKill [2, 5, 6, 7, 8] (sRet (xB1 dTuple (xCons (xB1 dSorted (xCons (xVar 3) (xNil))) (xNil))))))))
def m__law_cookbook : AFun := mkFun 10 2 b__law_cookbook

/-! ### recipes -/
structure Stp where
  w : Str
  st : Str
  mn : Int
  hd : Int
  tl : List Str
  us : List (Str × Rat)
  af : List Str
structure Rcp where
  nm : Str
  por : Int
  sts : List Stp
def eS (s : Stp) : PyData := .tuple [.str s.w, .str s.st, .int s.mn, .int s.hd, .tuple (s.tl.map .str), .tuple (s.us.map eN), .tuple (s.af.map .str)]
def eRc (r : Rcp) : PyData := .tuple [.str r.nm, .int r.por, .tuple (r.sts.map eS)]
/-- texts in order -/
def srtS (xs : List Str) : List Str := srtT PyData.str xs
theorem srtS_perm (xs : List Str) : (srtS xs).Perm xs := srtT_perm _ _
theorem str_sortOk {xs : List Str} (hl : xs.length ≤ 1000000) : sortOk (xs.map .str) = true := by
  unfold sortOk allAlike
  simp only [Bool.and_eq_true, Bool.or_eq_true, List.all_eq_true, decide_eq_true_eq, List.length_map]
  refine ⟨⟨⟨hl, fun x hx y hy => ?_⟩, .inr fun x hx => ?_⟩, fun x hx => ?_⟩
  · obtain ⟨a, h1, rfl⟩ := List.mem_map.mp hx
    obtain ⟨b, h2, rfl⟩ := List.mem_map.mp hy
    exact al_str a b
  · obtain ⟨a, h1, rfl⟩ := List.mem_map.mp hx
    rfl
  · obtain ⟨a, h1, rfl⟩ := List.mem_map.mp hx
    simp [PyData.depth]
theorem sort_strs {xs : List Str} (hl : xs.length ≤ 1000000) : dSortL (xs.map .str) = some (.list ((srtS xs).map .str)) := by
  unfold dSortL
  rw [if_pos (str_sortOk hl), srtT_map]; rfl
structure StpO (known words : List Str) (s : Stp) : Prop where
  usn : ∀ q ∈ s.us, q.1 ∈ known
  us0 : ∀ q ∈ s.us, 0 < q.2
  usq : ∀ q ∈ s.us, FrB 420 40 q.2
  usd : (s.us.map (·.1)).Nodup
  uss : srtT eN s.us = s.us
  usl : s.us.length ≤ 2
  st : s.st ∈ (["bench", "oven", "stove"] : List Str)
  m0 : 1 ≤ s.mn
  m1 : s.mn ≤ 20
  h0 : 0 ≤ s.hd
  h1 : s.hd ≤ 1
  tl : List.Sublist s.tl ["bowl", "knife", "pan"]
  af : List.Sublist s.af (srtS words)
theorem sift {own : List Nat} {g : Tg} {t : Fr → Res Bool} {f : Fr → Res AV} {vars : List (Option AV)} {bs n : Nat} {cs : List Cell} (xs : List Str) (d : Dk) (h : d.ok (n + xs.length))
    (ht : ∀ (y : Str) (m : Nat) (d : Dk), d.ok (m + 1) → ∃ (b : Bool) (d' : Dk) (fr1 fr2 fr3 : Fr), g (.str y) ⟨kill own vars, (.lst d.l :: cs), bs⟩ = some fr1 ∧ t fr1 = .ok b fr2 ∧ fr2.cells = (.lst d'.l :: cs) ∧ d'.ok m ∧ f fr2 = .ok (.dat (.str y)) fr3 ∧ fr3.cells = (.lst d'.l :: cs)) :
    ∃ (acc : List Str) (d' : Dk), compA own g t f vars bs (xs.map .str) [] (.lst d.l :: cs) = some (acc.map .str, (.lst d'.l :: cs)) ∧ List.Sublist acc xs ∧ d'.ok n := by
  have go : ∀ (xs : List Str) (d : Dk) (pre : List Str), d.ok (n + xs.length) → ∃ (acc : List Str) (d' : Dk), compA own g t f vars bs (xs.map .str) (pre.map .str) (.lst d.l :: cs) = some ((pre ++ acc).map .str, (.lst d'.l :: cs)) ∧ List.Sublist acc xs ∧ d'.ok n := by
    intro xs
    induction xs with
    | nil => intro d pre h; exact ⟨[], d, by simp [compA], .slnil, h⟩
    | cons x xs ih =>
      intro d pre h
      obtain ⟨b, d', fr1, fr2, fr3, h1, h2, h3, h4, h5, h6⟩ := ht x (n + xs.length) d h
      rw [List.map_cons]
      unfold compA
      rw [h1]
      simp only [h2]
      cases b with
      | false =>
        simp only [Bool.false_eq_true, if_false]
        rw [h3]
        obtain ⟨acc, d2, e, hs, hd⟩ := ih d' pre h4
        exact ⟨acc, d2, e, .cons _ hs, hd⟩
      | true =>
        simp only [if_true, h5]
        rw [h6]
        obtain ⟨acc, d2, e, hs, hd⟩ := ih d' (pre ++ [x]) h4
        refine ⟨x :: acc, d2, ?_, .cons_cons _ hs, hd⟩
        rw [List.map_append] at e
        rw [show pre ++ x :: acc = (pre ++ [x]) ++ acc by simp]
        exact e
  obtain ⟨acc, d', e, hs, hd⟩ := go xs d [] h
  exact ⟨acc, d', e, hs, hd⟩
theorem t_oneI {n : Nat} {d : Dk} (h : d.ok (n + 1)) : ∃ (v : Int) (d' : Dk), m__law_one [.cel 0, .dat (.list [.int 5, .int 5, .int 20])] [.lst d.l] = .ok (.dat (.int v)) [.lst (Dk.l d')] ∧ d'.ok n ∧ 0 < v ∧ v ≤ 20 := by
  obtain ⟨x, d', e, h1, hm⟩ := s_one (n := n) (d := d) (xs := [.int 5, .int 5, .int 20]) h (by decide) (by decide)
  simp at hm
  rcases hm with rfl | rfl
  · exact ⟨5, d', e, h1, by decide, by decide⟩
  · exact ⟨20, d', e, h1, by decide, by decide⟩
theorem t_step {n : Nat} {d : Dk} {w : Str} {known words : List Str} (h : d.ok (n + 17)) (hk : 0 < known.length) (hk2 : known.length ≤ 100) (hw : words.length ≤ 3) : ∃ (s : Stp) (d' : Dk), m__law_step [.cel 0, .dat (.str w), .dat (.list (known.map .str)), .dat (.list (words.map .str))] [.lst d.l] = .ok (.dat (eS s)) [.lst (Dk.l d')] ∧ d'.ok n ∧ s.w = w ∧ StpO known words s := by
  obtain ⟨v, d1, e1, h1, v0, v1⟩ := s_pick (n := n + 16) h (k := 3) (by decide) (by decide)
  have key := forA_all (g := tName 5) (b := b__law_step_l1) (fun done fr => ∃ (d' : Dk) (kvs : List (Str × Rat)) (v5 : Option AV), fr = ⟨[some (.cel 0), some (.dat (.str w)), some (.dat (.list (known.map .str))), some (.dat (.list (words.map .str))), some (.cel 1), v5, none, none, none, none, none, none], [.lst d'.l, .dct false (kvs.map (eK eR))], 1⟩ ∧ d'.ok (n + 10 + 3 * (2 - done.length)) ∧ (∀ q ∈ kvs, 0 < q.2 ∧ FrB 420 40 q.2 ∧ q.1 ∈ known) ∧ (kvs.map (·.1)).Nodup ∧ kvs.length ≤ done.length)
    (rangeD 0 v.toNat) ⟨[some (.cel 0), some (.dat (.str w)), some (.dat (.list (known.map .str))), some (.dat (.list (words.map .str))), some (.cel 1), none, none, none, none, none, none, none], [.lst d1.l, .dct false []], 1⟩ ⟨d1, [], none, rfl, h1, (fun q hq => nomatch hq), .nil, Nat.le_refl _⟩ ?_
  · obtain ⟨fr', e, d2, kvs, v5, rfl, h2, h4, h5, h7⟩ := key
    rw [rangeD_len] at h2 h7
    have hle : kvs.length ≤ 2 := by omega
    obtain ⟨st, d3, e3, h3, hst⟩ := t_one (e := PyData.str) (n := n + 9) (d := d2) (xs := (["bench", "oven", "stove"] : List Str)) (h2.less (by omega)) (by decide) (by decide)
    obtain ⟨tl, d4, e4, htl, h4'⟩ := sift (n := n + 6) (cs := [.dct false (kvs.map (eK eR))]) (own := [10]) (g := tName 10) (t := b__law_step_t1) (f := b__law_step_e1) (vars := [some (.cel 0), some (.dat (.str w)), some (.dat (.list (known.map .str))), some (.dat (.list (words.map .str))), some (.cel 1), none, some (.dat (.str st)), none, none, none, none, none]) (bs := 1) ["bowl", "knife", "pan"] d3 h3 fun y m d hd => by
      obtain ⟨v, d', e, g1, g2, g3⟩ := s_pick (n := m) hd (k := 3) (by decide) (by decide)
      exact ⟨PyData.eqv (.int v) (.int 0), d', _, ⟨[some (.cel 0), some (.dat (.str w)), some (.dat (.list (known.map .str))), some (.dat (.list (words.map .str))), some (.cel 1), none, some (.dat (.str st)), none, none, none, some (.dat (.str y)), none], .lst d'.l :: [.dct false (kvs.map (eK eR))], 1⟩, _, rfl, by simp [b__law_step_t1, e, dEq, eqOk_int], rfl, g1, rfl, rfl⟩
    have hsw : (srtS words).length ≤ 3 := by rw [(srtS_perm words).length_eq]; exact hw
    obtain ⟨af, d5, e5, haf, h5'⟩ := sift (n := n + 3) (cs := [.dct false (kvs.map (eK eR))]) (own := [11]) (g := tName 11) (t := b__law_step_t2) (f := b__law_step_e2) (vars := [some (.cel 0), some (.dat (.str w)), some (.dat (.list (known.map .str))), some (.dat (.list (words.map .str))), some (.cel 1), none, some (.dat (.str st)), some (.dat (.tuple (tl.map .str))), none, none, none, none]) (bs := 1) (srtS words) d4 (h4'.less (by omega)) fun y m d hd => by
      obtain ⟨v, d', e, g1, g2, g3⟩ := s_pick (n := m) hd (k := 2) (by decide) (by decide)
      exact ⟨PyData.eqv (.int v) (.int 0), d', _, ⟨[some (.cel 0), some (.dat (.str w)), some (.dat (.list (known.map .str))), some (.dat (.list (words.map .str))), some (.cel 1), none, some (.dat (.str st)), some (.dat (.tuple (tl.map .str))), none, none, none, some (.dat (.str y))], .lst d'.l :: [.dct false (kvs.map (eK eR))], 1⟩, _, rfl, by simp [b__law_step_t2, e, dEq, eqOk_int], rfl, g1, rfl, rfl⟩
    obtain ⟨k, d6, e6, h6, k0, k1⟩ := t_oneI (n := n + 2) (d := d5) (h5'.less (by omega))
    obtain ⟨mn, d7, e7, h7', m0, m1⟩ := s_pick (n := n + 1) h6 (k := k) k0 (by omega)
    obtain ⟨hd, d8, e8, h8, y0, y1⟩ := s_pick (n := n) h7' (k := 2) (by decide) (by decide)
    have pm := srtT_perm eN kvs
    have es := srtd_items (kvs := kvs) (by omega)
    have hin : ∀ q ∈ srtT eN kvs, 0 < q.2 ∧ FrB 420 40 q.2 ∧ q.1 ∈ known := fun q hq => h4 q (pm.mem_iff.mp hq)
    refine ⟨⟨w, st, 1 + mn, hd, tl, srtT eN kvs, af⟩, d8, ?_, h8, rfl, fun q hq => (hin q hq).2.2, fun q hq => (hin q hq).1, fun q hq => (hin q hq).2.1, (pm.map _).nodup_iff.mpr h5, ?_, by show (srtT eN kvs).length ≤ 2; rw [pm.length_eq]; exact hle, hst, by show 1 ≤ 1 + mn; omega, by show 1 + mn ≤ 20; omega, y0, by show hd ≤ 1; omega, htl, haf⟩
    · have rg : rgOk v = true := by unfold rgOk; exact decide_eq_true (by omega)
      have so := sort_strs (xs := words) (by omega)
      have l3 : (srtS words).length ≤ 1000000 := by omega
      simp only [List.map_cons, List.map_nil] at e3 e4
      unfold m__law_step b__law_step
      simp [e1, rg, e, e3, xComp, e4, dSorted, seqD, so, l3, e5, e6, e7, dAdd, e8, es, eS]
    · unfold srtT
      refine List.mergeSort_of_pairwise ?_
      have := srt_pw (kvs.map eN)
      rw [srtT_map, List.pairwise_map] at this
      exact this
  · rintro done y rest fr hy ⟨d', kvs, v5, rfl, hd, hs, nd, hl⟩
    have hlen : done.length < 2 := by
      have := congrArg List.length hy
      rw [rangeD_len] at this
      simp at this; omega
    obtain ⟨m, hm7⟩ : ∃ m, n + 10 + 3 * (2 - done.length) = n + 10 + 3 * (2 - (done ++ [y]).length) + 3 ∧ m = 0 := ⟨0, by simp; omega, rfl⟩
    rw [hm7.1] at hd
    generalize hq7 : n + 10 + 3 * (2 - (done ++ [y]).length) = q at *
    obtain ⟨x, d2, e2, g2, x0, xq⟩ := t_amount (n := q + 1) hd
    obtain ⟨g, d3, e3, g3, hg⟩ := t_one (e := PyData.str) (n := q) (xs := known) g2 hk (by omega)
    have kl : kvs.length < 1000000 := by omega
    have ek : kput (kvs.map (eK eR)) (.str g) (eR x) = (aput kvs g x).map (eK eR) := kput_t
    refine ⟨_, ⟨[some (.cel 0), some (.dat (.str w)), some (.dat (.list (known.map .str))), some (.dat (.list (words.map .str))), some (.cel 1), none, none, none, none, none, none, none], [.lst d3.l, .dct false ((aput kvs g x).map (eK eR))], 1⟩, rfl, .inl ?_, d3, _, none, rfl, g3, aput_all hs ⟨x0, xq, hg⟩, aput_nodup nd, ?_⟩
    · simp [b__law_step_l1, e2, e3, kOk, kl, ek]
    · have := aput_len (kvs := kvs) (n := g) (v := x)
      simp; omega
/-! ### cookbooks -/
theorem noLs_map {α : Type} {e : α → PyData} (h : ∀ x, noL (e x) = true) : ∀ xs : List α, noLs (xs.map e) = true
  | [] => rfl
  | x :: xs => by
    rw [List.map_cons]
    simp only [noLs, Bool.and_eq_true]
    exact ⟨h x, noLs_map h xs⟩
theorem noL_N (q : Str × Rat) : noL (eN q) = true := rfl
theorem noL_S (s : Stp) : noL (eS s) = true := by
  have h1 := noLs_map (e := PyData.str) (fun _ => rfl) s.tl
  have h2 := noLs_map (e := eN) noL_N s.us
  have h3 := noLs_map (e := PyData.str) (fun _ => rfl) s.af
  simp [eS, noL, noLs, h1, h2, h3]
theorem noL_Rc (r : Rcp) : noL (eRc r) = true := by
  have h1 := noLs_map (e := eS) noL_S r.sts
  simp [eRc, noL, noLs, h1]
theorem alikeAll_map {α : Type} {e : α → PyData} (h : ∀ x y, alike (e x) (e y) = true) : ∀ xs ys : List α, PySem.W.alikeAll (xs.map e) (ys.map e) = true
  | [], ys => by cases ys <;> simp [PySem.W.alikeAll]
  | x :: xs, [] => by simp [PySem.W.alikeAll]
  | x :: xs, y :: ys => by
    rw [List.map_cons, List.map_cons, PySem.W.alikeAll, h, alikeAll_map h xs ys]; rfl
theorem al_N (a b : Str × Rat) : alike (eN a) (eN b) = true := by simp [eN, eR, alike, PySem.W.alikeAll]
theorem al_S (a b : Stp) : alike (eS a) (eS b) = true := by
  have h1 := alikeAll_map (e := PyData.str) al_str a.tl b.tl
  have h2 := alikeAll_map (e := eN) al_N a.us b.us
  have h3 := alikeAll_map (e := PyData.str) al_str a.af b.af
  simp [eS, alike, PySem.W.alikeAll, h1, h2, h3]
theorem al_Rc (a b : Rcp) : alike (eRc a) (eRc b) = true := by
  have h1 := alikeAll_map (e := eS) al_S a.sts b.sts
  simp [eRc, alike, PySem.W.alikeAll, h1]
theorem depthAll_map {α : Type} {e : α → PyData} {n : Nat} (h : ∀ x, (e x).depth ≤ n) : ∀ xs : List α, PyData.depthAll (xs.map e) ≤ n
  | [] => by simp [PyData.depthAll]
  | x :: xs => by
    rw [List.map_cons]
    simp only [PyData.depthAll]
    exact Nat.max_le.mpr ⟨h x, depthAll_map h xs⟩
theorem depth_S (s : Stp) : (eS s).depth ≤ 4 := by
  have h1 := depthAll_map (e := PyData.str) (n := 0) (fun _ => by simp [PyData.depth]) s.tl
  have h2 := depthAll_map (e := eN) (n := 2) (fun _ => by simp [eN, eR, PyData.depth, PyData.depthAll]) s.us
  have h3 := depthAll_map (e := PyData.str) (n := 0) (fun _ => by simp [PyData.depth]) s.af
  simp only [eS, PyData.depth, PyData.depthAll]
  omega
theorem depth_Rc (r : Rcp) : (eRc r).depth ≤ 6 := by
  have h1 := depthAll_map (e := eS) depth_S r.sts
  simp only [eRc, PyData.depth, PyData.depthAll]
  omega
abbrev RiseS (xs : List Str) : Prop := xs.Pairwise fun a b => dataLt (.str a) (.str b) = true
theorem str_toks {a b : Str} (h : keyToks (.str a) = keyToks (.str b)) : a = b := by
  simp only [keyToks] at h
  exact PySem.W.str_of_cps (by simpa using h)
/-- rows that begin with names unlike, in order: the names are -/
theorem rise_names {α : Type} {e : α → PyData} {nm : α → Str} {tl : α → List PyData} (he : ∀ x, e x = .tuple (.str (nm x) :: tl x)) {xs : List α} (nd : (xs.map nm).Nodup) : RiseS ((srtT e xs).map nm) := by
  have nd2 : ((srtT e xs).map nm).Nodup := ((srtT_perm e xs).map nm).nodup_iff.mpr nd
  have pw : (srtT e xs).Pairwise fun a b => srtLe (e a) (e b) = true := by
    have := srt_pw (xs.map e)
    rw [srtT_map, List.pairwise_map] at this
    exact this
  unfold RiseS
  rw [List.pairwise_map]
  unfold List.Nodup at nd2
  rw [List.pairwise_map] at nd2
  refine (List.Pairwise.and pw nd2).imp fun {a b} hab => ?_
  rw [srt_eq, he, he] at hab
  have lt : ∀ x y : α, nm x ≠ nm y → dataLt (.tuple (.str (nm x) :: tl x)) (.tuple (.str (nm y) :: tl y)) = dataLt (.str (nm x)) (.str (nm y)) := fun x y h => by
    rw [PySem.W.dataLt_tuple, PySem.W.dataLt_cons (al_str _ _), if_neg (by rw [eqv_str]; simpa using h)]
  rw [lt b a (Ne.symm hab.2)] at hab
  rcases lt_total (a := .str (nm a)) (b := .str (nm b)) fun h => hab.2 (str_toks h) with q | q
  · exact q
  · rw [q] at hab; exact absurd hab.1 (by decide)
theorem Rc_sortOk {xs : List Rcp} (hl : xs.length ≤ 1000000) : sortOk (xs.map eRc) = true := sortOk_t hl (fun x _ y _ => al_Rc x y) (fun _ _ => rfl) (fun x _ => by have := depth_Rc x; omega)
abbrev wordsOf (ss : List Stp) : List Str := ss.map (·.w)
/-- a recipe, drawn where some names are known -/
structure RcpO (known : List Str) (r : Rcp) : Prop where
  p0 : 1 ≤ r.por
  p1 : r.por ≤ 6
  s0 : 1 ≤ r.sts.length
  sl : r.sts.length ≤ 3
  sw : wordsOf r.sts = (["mix", "bake", "cut", "rest"] : List Str).take r.sts.length
  so : ∀ pre s post, r.sts = pre ++ s :: post → StpO known (wordsOf pre) s
abbrev Dishes2 : List (List Str) := [["bread", "cake", "pie", "soup"], ["tart", "stew", "rice", "fry"]]
/-- recipes as they were drawn, one behind another -/
structure BkD (gn : List Str) (rs : List Rcp) : Prop where
  r0 : 1 ≤ rs.length
  rl : rs.length ≤ 4
  nm : ∃ ds ∈ Dishes2, rs.map (·.nm) = ds.take rs.length
  ro : ∀ pre r post, rs = pre ++ r :: post → RcpO (gn ++ pre.map (·.nm)) r
theorem snoc_split {α : Type} {xs pre post : List α} {x y : α} (h : xs ++ [x] = pre ++ y :: post) : (post = [] ∧ pre = xs ∧ y = x) ∨ ∃ post', post = post' ++ [x] ∧ xs = pre ++ y :: post' := by
  rcases List.eq_nil_or_concat post with rfl | ⟨post', z, rfl⟩
  · left
    have := List.append_inj' h rfl
    exact ⟨rfl, this.1.symm, (List.singleton_inj.mp this.2).symm⟩
  · right
    rw [List.concat_eq_append] at h ⊢
    have h' : xs ++ [x] = (pre ++ y :: post') ++ [z] := by rw [h]; simp
    have := List.append_inj' h' rfl
    refine ⟨post', ?_, this.1⟩
    rw [List.singleton_inj.mp this.2]
theorem take_snoc {α : Type} {xs done rest : List α} {x : α} (h : xs = done ++ x :: rest) : xs.take (done ++ [x]).length = done ++ [x] := by
  rw [h, show done ++ x :: rest = (done ++ [x]) ++ rest by simp]
  exact List.take_left
theorem t_cookbook {n : Nat} {d : Dk} {gs : List Gd} (h : d.ok (n + 214)) (h0 : 0 < gs.length) (h6 : gs.length ≤ 6) : ∃ (rs : List Rcp) (d' : Dk), m__law_cookbook [.cel 0, .dat (.tuple (gs.map eG))] [.lst d.l] = .ok (.dat (.tuple ((srtT eRc rs).map eRc))) [.lst (Dk.l d')] ∧ d'.ok n ∧ BkD (gs.map (·.nm)) rs := by
  obtain ⟨ds, d1, e1, h1, hds⟩ := t_one (e := fun xs : List Str => PyData.list (xs.map .str)) (n := n + 213) (d := d) (xs := Dishes2) h (by decide) (by decide)
  obtain ⟨v, d2, e2, h2, v0, v1⟩ := s_pick (n := n + 212) h1 (k := 4) (by decide) (by decide)
  have dl : ds.length = 4 := by simp [Dishes2] at hds; rcases hds with rfl | rfl <;> rfl
  have key := forA_typed (g := tName 5) (b := b__law_cookbook_l2) PyData.str (fun done fr => ∃ (d' : Dk) (rs : List Rcp) (v5 v6 v7 v8 : Option AV) (cs : List Cell), fr = ⟨[some (.cel 0), some (.dat (.tuple (gs.map eG))), some (.dat (.list ((gs.map (·.nm) ++ done).map .str))), some (.cel 1), some (.dat (.list (ds.map .str))), v5, v6, v7, v8, none], .lst d'.l :: .lst (rs.map eRc) :: cs, 1⟩ ∧ d'.ok (n + 53 * (4 - done.length)) ∧ rs.map (·.nm) = done ∧ ∀ pre r post, rs = pre ++ r :: post → RcpO (gs.map (·.nm) ++ pre.map (·.nm)) r)
    (ds.take (1 + v).toNat) ⟨[some (.cel 0), some (.dat (.tuple (gs.map eG))), some (.dat (.list ((gs.map (·.nm)).map .str))), some (.cel 1), some (.dat (.list (ds.map .str))), none, none, none, none, none], [.lst d2.l, .lst []], 1⟩ ⟨d2, [], none, none, none, none, [], by simp, h2, rfl, fun pre r post e => by simp at e⟩ ?_
  · obtain ⟨fr', e, d', rs, v5, v6, v7, v8, cs, rfl, h3, hn, hr⟩ := key
    have hl : rs.length = (ds.take (1 + v).toNat).length := by rw [← hn, List.length_map]
    rw [List.length_take, dl] at hl
    refine ⟨rs, d', ?_, h3.less (by omega), by omega, by omega, ⟨ds, hds, ?_⟩, hr⟩
    · have ec := xComp_typed (own := [9]) (g := tName 9) (t := xYes) (f := b__law_cookbook_e1) (e := xItems (xVar 1)) (fr := ⟨[some (.cel 0), some (.dat (.tuple (gs.map eG))), none, none, none, none, none, none, none, none], [.lst d.l], 1⟩) eG (fun _ => true) (fun g => .str g.nm) (fun g => ⟨[some (.cel 0), some (.dat (.tuple (gs.map eG))), none, none, none, none, none, none, none, some (.dat (eG g))], [.lst d.l], 1⟩) gs (by simp) (by omega) (fun _ _ => rfl) (fun _ => rfl) (fun _ _ => rfl) (fun g _ _ => by simp [b__law_cookbook_e1, gd_ix0])
      rw [List.filter_eq_self.mpr (fun _ _ => rfl)] at ec
      have so : dSortL (rs.map eRc) = some (.list ((srtT eRc rs).map eRc)) := by
        unfold dSortL
        rw [if_pos (Rc_sortOk (by omega)), srtT_map]
      simp only [Dishes2, List.map_cons, List.map_nil] at e1
      simp only [List.map_map, Function.comp_def] at e
      unfold m__law_cookbook b__law_cookbook
      simp [ec, e1, e2, dAdd, dSl, cut_take _ (1 + v) (by omega), ← List.map_take, e, dSorted, seqD, so]
    · rw [hn, hl, List.take_eq_take_iff]
      rw [dl]; omega
  · rintro done w0 rest fr hy ⟨d', rs, v5, v6, v7, v8, cs, rfl, hd, hn, hr⟩
    have hlen : done.length < 4 := by
      have := congrArg List.length hy
      rw [List.length_take, dl] at this
      simp at this; omega
    obtain ⟨m, hm7⟩ : ∃ m, n + 53 * (4 - done.length) = n + 53 * (4 - (done ++ [w0]).length) + 53 ∧ m = 0 := ⟨0, by simp; omega, rfl⟩
    rw [hm7.1] at hd
    generalize hq7 : n + 53 * (4 - (done ++ [w0]).length) = q at *
    obtain ⟨u, d3, e3, h3, u0, u1⟩ := s_pick (n := q + 52) hd (k := 3) (by decide) (by decide)
    have hk0 : 0 < (gs.map (·.nm) ++ done).length := by simp; omega
    have hk1 : (gs.map (·.nm) ++ done).length ≤ 100 := by simp; omega
    have key := forA_typed (g := tName 8) (b := b__law_cookbook_l1) PyData.str (fun done2 fr => ∃ (d'' : Dk) (sts : List Stp) (v8 : Option AV), fr = ⟨[some (.cel 0), some (.dat (.tuple (gs.map eG))), some (.dat (.list ((gs.map (·.nm) ++ done).map .str))), some (.cel 1), some (.dat (.list (ds.map .str))), some (.dat (.str w0)), some (.cel 2), some (.cel 3), v8, none], [.lst d''.l, .lst (rs.map eRc), .lst (done2.map .str), .lst (sts.map eS)], 1⟩ ∧ d''.ok (q + 1 + 17 * (3 - done2.length)) ∧ wordsOf sts = done2 ∧ ∀ pre s post, sts = pre ++ s :: post → StpO (gs.map (·.nm) ++ done) (wordsOf pre) s)
      ((["mix", "bake", "cut", "rest"] : List Str).take (1 + u).toNat) ⟨[some (.cel 0), some (.dat (.tuple (gs.map eG))), some (.dat (.list ((gs.map (·.nm) ++ done).map .str))), some (.cel 1), some (.dat (.list (ds.map .str))), some (.dat (.str w0)), some (.cel 2), some (.cel 3), none, none], [.lst d3.l, .lst (rs.map eRc), .lst [], .lst []], 1⟩ ⟨d3, [], none, rfl, h3, rfl, fun pre r post e => by simp at e⟩ ?_
    · obtain ⟨fr', e, d4, sts, v8', rfl, h4, hw, hs⟩ := key
      have hl : sts.length = ((["mix", "bake", "cut", "rest"] : List Str).take (1 + u).toNat).length := by rw [← hw, List.length_map]
      rw [List.length_take] at hl
      have hl4 : (["mix", "bake", "cut", "rest"] : List Str).length = 4 := rfl
      obtain ⟨p, d5, e5, h5, p0, p1⟩ := s_pick (n := q) (h4.less (by omega)) (k := 6) (by decide) (by decide)
      have rl : rs.length = done.length := by rw [← hn, List.length_map]
      refine ⟨_, ⟨[some (.cel 0), some (.dat (.tuple (gs.map eG))), some (.dat (.list ((gs.map (·.nm) ++ (done ++ [w0])).map .str))), some (.cel 1), some (.dat (.list (ds.map .str))), some (.dat (.str w0)), some (.cel 2), some (.cel 3), none, none], [.lst d5.l, .lst ((rs ++ [(⟨w0, 1 + p, sts⟩ : Rcp)]).map eRc), .lst (((["mix", "bake", "cut", "rest"] : List Str).take (1 + u).toNat).map .str), .lst (sts.map eS)], 1⟩, rfl, .inl ?_, d5, rs ++ [(⟨w0, 1 + p, sts⟩ : Rcp)], _, _, _, _, _, rfl, h5, by simp [hn], fun pre r post er => ?_⟩
      · have kl : rs.length < 1000000 := by omega
        have gl : gs.length + (done.length + 1) ≤ 1000000 := by omega
        have gl2 : gs.length + done.length + 1 ≤ 1000000 := by omega
        simp only [List.map_append, List.map_map] at e
        simp only [List.map_take, List.map_cons, List.map_nil] at e
        simp [b__law_cookbook_l2, e3, dAdd, dSl, cut_take _ (1 + u) (by omega), List.map_take, e, e5, kl, gl, gl2, eRc]
      · rcases snoc_split er with ⟨rfl, rfl, rfl⟩ | ⟨post', rfl, er'⟩
        · rw [hn]
          refine ⟨by show 1 ≤ 1 + p; omega, by show 1 + p ≤ 6; omega, by show 1 ≤ sts.length; omega, by show sts.length ≤ 3; omega, ?_, hs⟩
          show wordsOf sts = List.take sts.length _
          rw [hw, hl, List.take_eq_take_iff]
          omega
        · exact hr pre r post' er'
    · rintro done2 y rest2 fr hy2 ⟨d'', sts, v8', rfl, hd2, hw, hs⟩
      have hlen2 : done2.length < 3 := by
        have := congrArg List.length hy2
        rw [List.length_take] at this
        simp at this; omega
      obtain ⟨m, hm7⟩ : ∃ m, q + 1 + 17 * (3 - done2.length) = q + 1 + 17 * (3 - (done2 ++ [y]).length) + 17 ∧ m = 0 := ⟨0, by simp; omega, rfl⟩
      rw [hm7.1] at hd2
      obtain ⟨s, d6, e6, h6, hsw, hso⟩ := t_step (w := y) (known := gs.map (·.nm) ++ done) (words := done2) hd2 hk0 hk1 (by omega)
      have sl : sts.length = done2.length := by rw [← hw, List.length_map]
      have n1 : noLs d6.l = true := rfl
      refine ⟨_, ⟨[some (.cel 0), some (.dat (.tuple (gs.map eG))), some (.dat (.list ((gs.map (·.nm) ++ done).map .str))), some (.cel 1), some (.dat (.list (ds.map .str))), some (.dat (.str w0)), some (.cel 2), some (.cel 3), some (.dat (.str y)), none], [.lst d6.l, .lst (rs.map eRc), .lst ((done2 ++ [y]).map .str), .lst ((sts ++ [s]).map eS)], 1⟩, rfl, .inl ?_, d6, _, _, rfl, h6, by simp [hw, hsw], fun pre r post er => ?_⟩
      · have k1 : sts.length < 1000000 := by omega
        have k2 : done2.length < 1000000 := by omega
        simp only [List.map_append, List.map_map] at e6
        simp [b__law_cookbook_l1, e6, noL_S, n1, noLC, k1, k2]
      · rcases snoc_split er with ⟨rfl, rfl, rfl⟩ | ⟨post', rfl, er'⟩
        · rw [hw]; exact hso
        · exact hs pre r post' er'
end G
/-! OB: what is in a dish. -/
namespace G
open PySem PySem.Spec PyProof.Rows L2
open PySem.W (dataLt dataLe alike keyToks)
def b_recipe_of_l1 : Fr → SRes :=
  sIf (xB (xOp2 dEq (xIx (xVar 2) (xC (.int 0))) (xVar 1))) (sRet (xVar 2)) (sNx)
def b_recipe_of : Fr → SRes :=
  sSeq (sFor (xItems (xVar 0)) (tName 2) (b_recipe_of_l1))
  (sKill [2] (sRet (xC .none)))
def m_recipe_of : AFun := mkFun 3 2 b_recipe_of

def b_uses_of_e1 : Fr → Res AV :=
  xVar 2
def b_uses_of : Fr → SRes :=
  sRet (xComp2 [1, 2] [2] (xItems (xIx (xVar 0) (xC (.int 2)))) (tName 1) (xYes) (xItems (xIx (xVar 1) (xC (.int 5)))) (tName 2) (xYes) (b_uses_of_e1))
def m_uses_of : AFun := mkFun 3 1 b_uses_of

def b_used_recipes_e1 : Fr → Res AV :=
  xIx (xVar 3) (xC (.int 0))
def b_used_recipes_t1 : Fr → Res Bool :=
  xB (xOp2 dIn (xVar 4) (xVar 2))
def b_used_recipes_e2 : Fr → Res AV :=
  xC (.bool true)
def b_used_recipes_k1 : Fr → Res AV :=
  xVar 4
def b_used_recipes : Fr → SRes :=
  sSeq (sSet 2 (xComp [3] (xItems (xVar 0)) (tName 3) (xYes) (b_used_recipes_e1)))
  (sRet (xD1 dSortedK (xDComp [4, 5] (xItems (xCall m_uses_of (xCons (xCall m_recipe_of (xCons (xVar 0) (xCons (xVar 1) (xNil)))) (xNil)))) (tNames [4, 5]) (b_used_recipes_t1) (b_used_recipes_k1) (b_used_recipes_e2))))
def m_used_recipes : AFun := mkFun 6 2 b_used_recipes

def b_add_needs_l1 (self : AFun) : Fr → SRes :=
  sKill [9] (sSeq (sSet 9 (xCall m_times (xCons (xVar 8) (xCons (xVar 6) (xNil)))))
  (sIf (xB (xOp2 dIsN (xCall m_good_of (xCons (xVar 0) (xCons (xVar 7) (xNil)))) (xC .none))) (sDrop (xCall self (xCons (xVar 0) (xCons (xVar 1) (xCons (xVar 7) (xCons (xVar 9) (xCons (xVar 4) (xNil)))))))) (sDSet 4 (xVar 7) (xCall m_plus (xCons (xDGetD (xVar 4) (xVar 7) (xC (.tuple [.int 0, .int 1]))) (xCons (xVar 9) (xNil)))))))
def b_add_needs (self : AFun) : Fr → SRes :=
  sSeq (sSet 5 (xCall m_recipe_of (xCons (xVar 1) (xCons (xVar 2) (xNil)))))
  (sSeq (sSet 6 (xCall m_times (xCons (xVar 3) (xCons (xIf (xB (xOp2 dEq (xIx (xVar 5) (xC (.int 1))) (xC (.int 1)))) (xTup (xCons (xC (.int 1)) (xCons (xC (.int 1)) (xNil)))) (xCall m_fraction (xCons (xC (.int 1)) (xCons (xIx (xVar 5) (xC (.int 1))) (xNil))))) (xNil)))))
  (sFor (xItems (xCall m_uses_of (xCons (xVar 5) (xNil)))) (tNames [7, 8]) (b_add_needs_l1 self)))
def m_add_needs : Nat → AFun
  | 0 => fun _ _ => .err
  | n + 1 => mkFun 10 5 (b_add_needs (m_add_needs n))

def b_needs : Fr → SRes :=
  sSeq (sSet 4 (xNewD false))
  (sSeq (sDrop (xCall (m_add_needs 12) (xCons (xVar 0) (xCons (xVar 1) (xCons (xVar 2) (xCons (xVar 3) (xCons (xVar 4) (xNil))))))))
  (sRet (xD1 dSortedI (xVar 4))))
def m_needs : AFun := mkFun 5 4 b_needs

theorem compB_typed {α β : Type} {own vs1 : List Nat} {g g1 : Tg} {t t1 : Fr → Res Bool} {e1 : Fr → Res (List PyData)} {f : Fr → Res AV} {vars : List (Option AV)} {bs : Nat} {cs : List Cell} (enc : α → PyData) (enc1 : β → PyData) (p : α → Bool) (ys : α → List β) (p1 : α → β → Bool) (h : α → β → PyData) (G1 : α → Fr) (G2 : α → β → Fr) : ∀ (xs : List α) (acc : List PyData),
    (∀ x ∈ xs, g (enc x) ⟨kill own vars, cs, bs⟩ = some (G1 x)) → (∀ x, (G1 x).cells = cs) → (∀ x ∈ xs, t (G1 x) = .ok (p x) (G1 x)) → (∀ x ∈ xs, p x = true → e1 (G1 x) = .ok ((ys x).map enc1) (G1 x)) →
    (∀ x ∈ xs, ∀ y ∈ ys x, g1 (enc1 y) ⟨kill vs1 (G1 x).vars, cs, bs⟩ = some (G2 x y)) → (∀ x y, (G2 x y).cells = cs) → (∀ x ∈ xs, ∀ y ∈ ys x, t1 (G2 x y) = .ok (p1 x y) (G2 x y)) → (∀ x ∈ xs, ∀ y ∈ ys x, p1 x y = true → f (G2 x y) = .ok (.dat (h x y)) (G2 x y)) →
    acc.length + ((xs.map fun x => (ys x).length).sum) ≤ 1000000 →
    compB own vs1 g t e1 g1 t1 f vars bs (xs.map enc) acc cs = some (acc ++ (xs.filter p).flatMap (fun x => ((ys x).filter (p1 x)).map (h x)), cs)
  | [], acc, _, _, _, _, _, _, _, _, _ => by simp [compB]
  | x :: xs, acc, hg, hc, ht, he, hg1, hc1, ht1, hf, hl => by
    have m := List.mem_cons_self (a := x) (l := xs)
    rw [List.map_cons, List.sum_cons] at hl
    have ih := fun (acc : List PyData) (hl : acc.length + ((xs.map fun x => (ys x).length).sum) ≤ 1000000) => compB_typed enc enc1 p ys p1 h G1 G2 xs acc (fun y hy => hg y (List.mem_cons_of_mem _ hy)) hc (fun y hy => ht y (List.mem_cons_of_mem _ hy)) (fun y hy => he y (List.mem_cons_of_mem _ hy)) (fun y hy => hg1 y (List.mem_cons_of_mem _ hy)) hc1 (fun y hy => ht1 y (List.mem_cons_of_mem _ hy)) (fun y hy => hf y (List.mem_cons_of_mem _ hy)) hl
    rw [List.map_cons]
    unfold compB
    rw [hg x m]
    simp only [ht x m]
    cases q : p x with
    | false =>
      simp only [Bool.false_eq_true, if_false]
      rw [hc, ih acc (by omega), List.filter_cons_of_neg (by rw [q]; decide)]
    | true =>
      simp only [if_true, he x m q]
      have e2 := compA_typed (own := vs1) (g := g1) (t := t1) (f := f) (vars := (G1 x).vars) (bs := bs) (cs := cs) enc1 (p1 x) (h x) (G2 x) (ys x) acc (hg1 x m) (hc1 x) (ht1 x m) (hf x m)
      rw [hc, e2, List.length_map, if_pos (by omega)]
      simp only
      have fl : ((ys x).filter (p1 x)).length ≤ (ys x).length := List.length_filter_le _ _
      rw [ih _ (by rw [List.length_append, List.length_map]; omega), List.filter_cons_of_pos q, List.flatMap_cons, List.append_assoc]
theorem compD_typed {α β : Type} {own : List Nat} {g : Tg} {t : Fr → Res Bool} {fk fv : Fr → Res AV} {vars : List (Option AV)} {bs : Nat} {cs : List Cell} (enc : α → PyData) (p : α → Bool) (k : α → Str) (v : α → β) (e : β → PyData) (Gx : α → Fr) : ∀ (xs : List α) (acc : List (Str × β)),
    (∀ x ∈ xs, g (enc x) ⟨kill own vars, cs, bs⟩ = some (Gx x)) → (∀ x, (Gx x).cells = cs) → (∀ x ∈ xs, t (Gx x) = .ok (p x) (Gx x)) → (∀ x ∈ xs, p x = true → fk (Gx x) = .ok (.dat (.str (k x))) (Gx x)) → (∀ x ∈ xs, p x = true → fv (Gx x) = .ok (.dat (e (v x))) (Gx x)) → acc.length + xs.length < 1000000 →
    compD own g t fk fv vars bs (xs.map enc) (acc.map (eK e)) cs = some (((xs.filter p).foldl (fun a x => aput a (k x) (v x)) acc).map (eK e), cs)
  | [], acc, _, _, _, _, _, _ => by simp [compD]
  | x :: xs, acc, hg, hc, ht, hk, hv, hl => by
    rw [List.length_cons] at hl
    have ih := fun (acc : List (Str × β)) (hl : acc.length + xs.length < 1000000) => compD_typed enc p k v e Gx xs acc (fun y hy => hg y (List.mem_cons_of_mem _ hy)) hc (fun y hy => ht y (List.mem_cons_of_mem _ hy)) (fun y hy => hk y (List.mem_cons_of_mem _ hy)) (fun y hy => hv y (List.mem_cons_of_mem _ hy)) hl
    have m := List.mem_cons_self (a := x) (l := xs)
    rw [List.map_cons]
    unfold compD
    rw [hg x m]
    simp only [ht x m]
    cases q : p x with
    | false =>
      simp only [Bool.false_eq_true, if_false]
      rw [hc, ih acc (by omega), List.filter_cons_of_neg (by rw [q]; decide)]
    | true =>
      simp only [if_true, hk x m q, hv x m q]
      have al := aput_len (kvs := acc) (n := k x) (v := v x)
      rw [if_pos ⟨rfl, by rw [List.length_map]; omega⟩, hc, kput_t, ih _ (by omega), List.filter_cons_of_pos q, List.foldl_cons]

/-! ### recipes of a book -/
abbrev rfind (bk : List Rcp) (n : Str) : Option Rcp := bk.find? fun r => r.nm == n
def usesOf (r : Rcp) : List (Str × Rat) := r.sts.flatMap (·.us)
theorem rc_ix0 (r : Rcp) : dIx (eRc r) (.int 0) = some (.str r.nm) := by simp [eRc, dIx, atI, ixN]
theorem rc_ix1 (r : Rcp) : dIx (eRc r) (.int 1) = some (.int r.por) := by simp [eRc, dIx, atI, ixN]
theorem rc_ix2 (r : Rcp) : dIx (eRc r) (.int 2) = some (.tuple (r.sts.map eS)) := by simp [eRc, dIx, atI, ixN]
theorem st_ix0 (s : Stp) : dIx (eS s) (.int 0) = some (.str s.w) := by simp [eS, dIx, atI, ixN]
theorem st_ix1 (s : Stp) : dIx (eS s) (.int 1) = some (.str s.st) := by simp [eS, dIx, atI, ixN]
theorem st_ix2 (s : Stp) : dIx (eS s) (.int 2) = some (.int s.mn) := by simp [eS, dIx, atI, ixN]
theorem st_ix3 (s : Stp) : dIx (eS s) (.int 3) = some (.int s.hd) := by simp [eS, dIx, atI, ixN]
theorem st_ix4 (s : Stp) : dIx (eS s) (.int 4) = some (.tuple (s.tl.map .str)) := by simp [eS, dIx, atI, ixN]
theorem st_ix5 (s : Stp) : dIx (eS s) (.int 5) = some (.tuple (s.us.map eN)) := by simp [eS, dIx, atI, ixN]
theorem st_ix6 (s : Stp) : dIx (eS s) (.int 6) = some (.tuple (s.af.map .str)) := by simp [eS, dIx, atI, ixN]
theorem n_ix0 (q : Str × Rat) : dIx (eN q) (.int 0) = some (.str q.1) := by simp [eN, dIx, atI, ixN]
theorem t_recipe_of (bk : List Rcp) (z : Str) : m_recipe_of [.dat (.tuple (bk.map eRc)), .dat (.str z)] [] = .ok (.dat (match rfind bk z with | some r => eRc r | none => .none)) [] := by
  obtain ⟨h1, h2⟩ := forA_first (g := tName 2) (b := b_recipe_of_l1) eRc (fun r : Rcp => r.nm == z) (fun r a f => a = .dat (eRc r) ∧ f.cells = []) (fun fr => ∃ v, fr = ⟨[some (.dat (.tuple (bk.map eRc))), some (.dat (.str z)), v], [], 0⟩) bk ⟨[some (.dat (.tuple (bk.map eRc))), some (.dat (.str z)), none], [], 0⟩ ⟨none, rfl⟩ fun r hr fr ⟨v, e⟩ => by
    subst e
    have hb : b_recipe_of_l1 ⟨[some (.dat (.tuple (bk.map eRc))), some (.dat (.str z)), some (.dat (eRc r))], [], 0⟩ = if (r.nm == z) = true then .ret (.dat (eRc r)) ⟨[some (.dat (.tuple (bk.map eRc))), some (.dat (.str z)), some (.dat (eRc r))], [], 0⟩ else .nx ⟨[some (.dat (.tuple (bk.map eRc))), some (.dat (.str z)), some (.dat (eRc r))], [], 0⟩ := by
      simp [b_recipe_of_l1, rc_ix0, dEq, eqOk_str, eqv_str]
    refine ⟨_, rfl, fun hp => ⟨.dat (eRc r), ⟨[some (.dat (.tuple (bk.map eRc))), some (.dat (.str z)), some (.dat (eRc r))], [], 0⟩, ?_, rfl, rfl⟩, fun hp => ⟨⟨[some (.dat (.tuple (bk.map eRc))), some (.dat (.str z)), some (.dat (eRc r))], [], 0⟩, .inl ?_, _, rfl⟩⟩
    · exact hb.trans (if_pos hp)
    · exact hb.trans (if_neg (by rw [hp]; decide))
  unfold m_recipe_of b_recipe_of
  cases q : rfind bk z with
  | some r =>
    obtain ⟨a, fr', e, rfl, hc⟩ := h1 r q
    simp [e, hc]
  | none =>
    obtain ⟨fr', e, v, rfl⟩ := h2 q
    simp [e]
theorem rfind_of {bk : List Rcp} (nd : (bk.map (·.nm)).Nodup) {r : Rcp} (h : r ∈ bk) : rfind bk r.nm = some r := by
  induction bk with
  | nil => cases h
  | cons x bk ih =>
    rw [List.map_cons, List.nodup_cons] at nd
    unfold rfind
    rw [List.find?_cons]
    rcases List.mem_cons.mp h with rfl | h
    · simp
    · have : (x.nm == r.nm) = false := by
        cases z : (x.nm == r.nm) with
        | false => rfl
        | true => exact absurd (List.mem_map.mpr ⟨_, h, (by simpa using z : x.nm = r.nm).symm⟩) nd.1
      rw [this]
      exact ih nd.2 h
theorem t_uses_of {r : Rcp} (h1 : ∀ s ∈ r.sts, s.us.length ≤ 100) (h2 : r.sts.length ≤ 100) : m_uses_of [.dat (eRc r)] [] = .ok (.dat (.list ((usesOf r).map eN))) [] := by
  have hl : ((r.sts.map fun s => s.us.length).sum) ≤ 100 * r.sts.length := by
    clear h2
    revert h1
    generalize r.sts = ss
    intro h1
    induction ss with
    | nil => simp
    | cons s ss ih =>
      rw [List.map_cons, List.sum_cons, List.length_cons]
      have := ih fun x hx => h1 x (List.mem_cons_of_mem _ hx)
      have := h1 s (List.mem_cons_self ..)
      omega
  have ec := compB_typed (own := [1, 2]) (vs1 := [2]) (g := tName 1) (g1 := tName 2) (t := xYes) (t1 := xYes) (e1 := xItems (xIx (xVar 1) (xC (.int 5)))) (f := b_uses_of_e1) (vars := [some (.dat (eRc r)), none, none]) (bs := 0) (cs := []) eS eN (fun _ => true) (fun s => s.us) (fun _ _ => true) (fun _ q => eN q) (fun s => ⟨[some (.dat (eRc r)), some (.dat (eS s)), none], [], 0⟩) (fun s q => ⟨[some (.dat (eRc r)), some (.dat (eS s)), some (.dat (eN q))], [], 0⟩) r.sts []
    (fun _ _ => rfl) (fun _ => rfl) (fun _ _ => rfl) (fun s _ _ => by simp [st_ix5]) (fun _ _ _ _ => rfl) (fun _ _ => rfl) (fun _ _ _ _ => rfl) (fun _ _ _ _ _ => by simp [b_uses_of_e1]) (by simp; omega)
  rw [List.nil_append, List.filter_eq_self.mpr (fun _ _ => rfl)] at ec
  have e2 : (r.sts.flatMap fun s => (s.us.filter fun _ => true).map eN) = (usesOf r).map eN := by
    unfold usesOf
    rw [List.map_flatMap]
    congr 1
    funext s
    rw [List.filter_eq_self.mpr (fun _ _ => rfl)]
  rw [e2] at ec
  simp only [xIx] at ec
  unfold m_uses_of b_uses_of
  simp [xComp2, rc_ix2, ec]
/-- the recipes that a recipe uses, rising -/
def keysB (bk : List Rcp) (us : List (Str × Rat)) : List Str := (((us.filter fun q => bk.any fun r => r.nm == q.1).foldl (fun a q => aput a q.1 true) []).map (·.1))
def usedR (bk : List Rcp) (r : Rcp) : List Str := srtS (keysB bk (usesOf r))
theorem fold_keys {us : List (Str × Rat)} : ∀ {acc : List (Str × Bool)}, (acc.map (·.1)).Nodup → ((us.foldl (fun a q => aput a q.1 true) acc).map (·.1)).Nodup ∧ (∀ n, n ∈ (us.foldl (fun a q => aput a q.1 true) acc).map (·.1) ↔ n ∈ acc.map (·.1) ∨ n ∈ us.map (·.1)) ∧ (us.foldl (fun a q => aput a q.1 true) acc).length ≤ acc.length + us.length := by
  induction us with
  | nil => intro acc h; exact ⟨h, fun n => by simp, by simp⟩
  | cons q us ih =>
    intro acc h
    obtain ⟨h1, h2, h3⟩ := ih (acc := aput acc q.1 true) (aput_nodup h)
    have := aput_len (kvs := acc) (n := q.1) (v := true)
    refine ⟨h1, fun n => ?_, by rw [List.foldl_cons, List.length_cons]; omega⟩
    rw [List.foldl_cons, h2 n, aput_keys, List.map_cons, List.mem_cons]
    split
    · rename_i hm
      constructor
      · rintro (a | a)
        · exact .inl a
        · exact .inr (.inr a)
      · rintro (a | rfl | a)
        · exact .inl a
        · exact .inl hm
        · exact .inr a
    · rw [List.mem_append, List.mem_singleton]
      constructor
      · rintro ((a | a) | a)
        · exact .inl a
        · exact .inr (.inl a)
        · exact .inr (.inr a)
      · rintro (a | a | a)
        · exact .inl (.inl a)
        · exact .inl (.inr a)
        · exact .inr a
theorem keysB_spec (bk : List Rcp) (us : List (Str × Rat)) : (keysB bk us).Nodup ∧ (∀ n, n ∈ keysB bk us ↔ n ∈ us.map (·.1) ∧ n ∈ bk.map (·.nm)) ∧ (keysB bk us).length ≤ us.length := by
  obtain ⟨h1, h2, h3⟩ := fold_keys (us := us.filter fun q => bk.any fun r => r.nm == q.1) (acc := []) (by simp)
  refine ⟨h1, fun n => ?_, ?_⟩
  · unfold keysB
    rw [h2 n]
    simp only [List.map_nil, List.not_mem_nil, false_or, List.mem_map, List.mem_filter, List.any_eq_true]
    constructor
    · rintro ⟨q, ⟨h3, r, h4, h5⟩, rfl⟩
      exact ⟨⟨q, h3, rfl⟩, r, h4, by simpa using h5⟩
    · rintro ⟨⟨q, h3, rfl⟩, r, h4, h5⟩
      exact ⟨q, ⟨h3, r, h4, by simpa using h5⟩, rfl⟩
  · unfold keysB
    rw [List.length_map]
    have := List.length_filter_le (fun q : Str × Rat => bk.any fun r => r.nm == q.1) us
    simp at h3; omega
theorem in_strs {xs : List Str} {z : Str} : dIn (.str z) (.list (xs.map .str)) = some (.bool (xs.any fun x => x == z)) := by
  have : inOk (.str z) (xs.map .str) = true := by unfold inOk; exact decide_eq_true (by simp [PyData.depth])
  simp [dIn, this, List.any_map, Function.comp_def, eqv_str]
theorem t_used_recipes {bk : List Rcp} {r : Rcp} {n : Str} (hr : rfind bk n = some r) (hb : bk.length ≤ 100) (h1 : ∀ s ∈ r.sts, s.us.length ≤ 100) (h2 : r.sts.length ≤ 100) (h3 : (usesOf r).length ≤ 10000) : m_used_recipes [.dat (.tuple (bk.map eRc)), .dat (.str n)] [] = .ok (.dat (.list ((usedR bk r).map .str))) [] := by
  have e1 := t_recipe_of bk n
  rw [hr] at e1
  have e2 := t_uses_of h1 h2
  have ec := xComp_typed (own := [3]) (g := tName 3) (t := xYes) (f := b_used_recipes_e1) (e := xItems (xVar 0)) (fr := ⟨[some (.dat (.tuple (bk.map eRc))), some (.dat (.str n)), none, none, none, none], [], 0⟩) eRc (fun _ => true) (fun r => .str r.nm) (fun r => ⟨[some (.dat (.tuple (bk.map eRc))), some (.dat (.str n)), none, some (.dat (eRc r)), none, none], [], 0⟩) bk (by simp) (by omega) (fun _ _ => rfl) (fun _ => rfl) (fun _ _ => rfl) (fun r _ _ => by simp [b_used_recipes_e1, rc_ix0])
  rw [List.filter_eq_self.mpr (fun _ _ => rfl)] at ec
  have ed := compD_typed (own := [4, 5]) (g := tNames [4, 5]) (t := b_used_recipes_t1) (fk := b_used_recipes_k1) (fv := b_used_recipes_e2) (vars := [some (.dat (.tuple (bk.map eRc))), some (.dat (.str n)), some (.dat (.list (bk.map fun r => .str r.nm))), none, none, none]) (bs := 0) (cs := []) eN (fun q => bk.any fun r => r.nm == q.1) (fun q => q.1) (fun _ => true) PyData.bool (fun q => ⟨[some (.dat (.tuple (bk.map eRc))), some (.dat (.str n)), some (.dat (.list (bk.map fun r => .str r.nm))), none, some (.dat (.str q.1)), some (.dat (eR q.2))], [], 0⟩) (usesOf r) []
    (fun _ _ => rfl) (fun _ => rfl) (fun q _ => by
      have hi : dIn (.str q.1) (.list (bk.map fun r => .str r.nm)) = some (.bool (bk.any fun r => r.nm == q.1)) := by
        have := in_strs (xs := bk.map (·.nm)) (z := q.1)
        rw [List.map_map, List.any_map] at this
        exact this
      simp [b_used_recipes_t1, hi]) (fun _ _ _ => by simp [b_used_recipes_k1]) (fun _ _ _ => by simp [b_used_recipes_e2]) (by simp; omega)
  have kl := (keysB_spec bk (usesOf r)).2.2
  have so := sort_strs (xs := keysB bk (usesOf r)) (by omega)
  have em : ((((usesOf r).filter fun q => bk.any fun r => r.nm == q.1).foldl (fun a q => aput a q.1 true) []).map (eK PyData.bool)).map (·.1) = (keysB bk (usesOf r)).map .str := by
    unfold keysB
    rw [List.map_map, List.map_map]; rfl
  simp only [List.map_nil] at ed
  have ds : dSortedK ((((usesOf r).filter fun q => bk.any fun r => r.nm == q.1).foldl (fun a q => aput a q.1 true) []).map (eK PyData.bool)) = some (.list ((usedR bk r).map .str)) := by
    unfold dSortedK
    rw [em, so]; rfl
  unfold m_used_recipes b_used_recipes
  simp [ec, e1, e2, ed, ds]
end G
/-! OC: needs. -/
namespace G
open PySem PySem.Spec PyProof.Rows L2
open PySem.W (dataLt dataLe alike keyToks)
theorem FrB.mul {D E m n : Nat} {a b : Rat} (hD : 0 < D) (hE : 0 < E) (ha : FrB D m a) (hb : FrB E n b) : FrB (D * E) (m * n) (a * b) := by
  refine ⟨den_mul_dvd hD hE ha.1 hb.1, Rat.mul_nonneg ha.2.1 hb.2.1, ?_⟩
  rw [Rat.natCast_mul]
  refine Rat.le_trans (Rat.mul_le_mul_of_nonneg_right ha.2.2 hb.2.1) (Rat.mul_le_mul_of_nonneg_left hb.2.2 ?_)
  exact Rat.natCast_nonneg
theorem FrB.dvd {D E m : Nat} {a : Rat} (h : FrB D m a) (hd : D ∣ E) : FrB E m a := ⟨Nat.dvd_trans h.1 hd, h.2.1, h.2.2⟩
/-- the least number that all from 1 to 100 divide -/
abbrev LC : Nat := 69720375229712477164533808935312303556800
theorem lc_dvd : ∀ n, 1 ≤ n → n ≤ 100 → n ∣ LC := by
  have h : ((List.range 101).all fun n => n == 0 || LC % n == 0) = true := by decide +kernel
  intro n h1 h2
  have := List.all_eq_true.mp h n (List.mem_range.mpr (by omega))
  simp at this
  rcases this with h | h
  · omega
  · exact Nat.dvd_of_mod_eq_zero h
def invP (por : Int) : Rat := mkRat 1 por.toNat
theorem inv_frb {por : Int} (h1 : 1 ≤ por) (h2 : por ≤ 100) : FrB LC 1 (invP por) ∧ 0 < invP por := by
  have hp : por.toNat ≠ 0 := by omega
  have pos : 0 < invP por := by
    unfold invP
    rw [Rat.mkRat_eq_div]
    have h3 : (0 : Rat) < (por.toNat : Rat) := Rat.natCast_pos.mpr (by omega)
    rw [Rat.lt_div_iff h3]; simp; decide
  refine ⟨⟨?_, Rat.le_of_lt pos, ?_⟩, pos⟩
  · refine Nat.dvd_trans ((dv (by omega : 0 < por.toNat)).mpr ⟨1, rfl⟩) (lc_dvd _ (by omega) (by omega))
  · unfold invP
    rw [Rat.mkRat_eq_div]
    have h3 : (0 : Rat) < (por.toNat : Rat) := Rat.natCast_pos.mpr (by omega)
    have h4 : (1 : Rat) ≤ (por.toNat : Rat) := by
      have : ((1 : Nat) : Rat) ≤ (por.toNat : Rat) := Rat.natCast_le_natCast.mpr (by omega)
      simpa using this
    rw [← Rat.not_lt, Rat.lt_div_iff h3]
    simp
    grind
def isG (gs : List Gd) (n : Str) : Bool := (gfindT gs n).isSome
theorem isG_iff {gs : List Gd} {n : Str} : isG gs n = true ↔ HasG gs n := by
  unfold isG
  constructor
  · intro h
    obtain ⟨g, hg⟩ := Option.isSome_iff_exists.mp h
    exact ⟨g, List.mem_of_find?_eq_some hg, by have := List.find?_some hg; simpa using this⟩
  · intro h
    obtain ⟨g, hg, _⟩ := h.find
    rw [hg]; rfl
/-- what one portion of a use needs of a good -/
def ndT (gs : List Gd) (f : Str → Str → Rat) (por : Int) (g : Str) (q : Str × Rat) : Rat := q.2 * invP por * (if isG gs q.1 = true then (if q.1 = g then 1 else 0) else f q.1 g)
def ndF (gs : List Gd) (bk : List Rcp) : Nat → Str → Str → Rat
  | 0, _, _ => 0
  | k + 1, d, g => match rfind bk d with
    | some r => ((usesOf r).map (ndT gs (ndF gs bk k) r.por g)).sum
    | none => 0
structure BkO (gs : List Gd) (DA MA : Nat) (rk : Str → Nat) (bk : List Rcp) : Prop where
  nd : (bk.map (·.nm)).Nodup
  len : bk.length ≤ 10
  por : ∀ r ∈ bk, 1 ≤ r.por ∧ r.por ≤ 100
  ng : ∀ r ∈ bk, ¬ HasG gs r.nm
  sl : ∀ r ∈ bk, r.sts.length ≤ 6
  sul : ∀ r ∈ bk, ∀ s ∈ r.sts, s.us.length ≤ 5
  ul : ∀ r ∈ bk, (usesOf r).length ≤ 12
  u0 : ∀ r ∈ bk, ∀ q ∈ usesOf r, 0 < q.2 ∧ FrB DA MA q.2
  un : ∀ r ∈ bk, ∀ q ∈ usesOf r, HasG gs q.1 ∨ ∃ r' ∈ bk, r'.nm = q.1 ∧ rk q.1 < rk r.nm
section
variable {gs : List Gd} {bk : List Rcp} {DA MA : Nat} {rk : Str → Nat}
theorem BkO.uses (B : BkO gs DA MA rk bk) {r : Rcp} (h : r ∈ bk) : m_uses_of [.dat (eRc r)] [] = .ok (.dat (.list ((usesOf r).map eN))) [] :=
  t_uses_of (fun s hs => by have := B.sul r h s hs; omega) (by have := B.sl r h; omega)
theorem sum_nn {xs : List Rat} (h : ∀ x ∈ xs, 0 ≤ x) : 0 ≤ xs.sum := by
  induction xs with
  | nil => exact Rat.le_refl
  | cons x xs ih =>
    rw [List.sum_cons]
    have := ih fun y hy => h y (List.mem_cons_of_mem _ hy)
    have := h x (List.mem_cons_self ..)
    grind
theorem ndT_nn (B : BkO gs DA MA rk bk) {f : Str → Str → Rat} (hf : ∀ n g, 0 ≤ f n g) {r : Rcp} (hr : r ∈ bk) {q : Str × Rat} (hq : q ∈ usesOf r) (g : Str) : 0 ≤ ndT gs f r.por g q := by
  have h1 := (B.u0 r hr q hq).1
  have h2 := (inv_frb (B.por r hr).1 (B.por r hr).2).2
  unfold ndT
  refine Rat.mul_nonneg (Rat.le_of_lt (Rat.mul_pos h1 h2)) ?_
  split
  · split <;> decide
  · exact hf _ _
theorem ndF_nn (B : BkO gs DA MA rk bk) : ∀ (k : Nat) (d g : Str), 0 ≤ ndF gs bk k d g
  | 0, _, _ => Rat.le_refl
  | k + 1, d, g => by
    unfold ndF
    cases hr : rfind bk d with
    | none => exact Rat.le_refl
    | some r =>
      refine sum_nn fun x hx => ?_
      obtain ⟨q, hq, rfl⟩ := List.mem_map.mp hx
      exact ndT_nn B (ndF_nn B k) (List.mem_of_find?_eq_some hr) hq g
/-- a table's entry, so much more -/
def addT (o : Option Rat) (x : Rat) : Option Rat := if x = 0 then o else some (o.getD 0 + x)
theorem addT_zero (o : Option Rat) : addT o 0 = o := by unfold addT; rw [if_pos rfl]
theorem addT_add {o : Option Rat} {x y : Rat} (hx : 0 ≤ x) (hy : 0 ≤ y) : addT (addT o x) y = addT o (x + y) := by
  unfold addT
  by_cases h1 : x = 0
  · subst h1
    rw [if_pos rfl]
    have : (0 : Rat) + y = y := by grind
    rw [this]
  · rw [if_neg h1]
    by_cases h2 : y = 0
    · subst h2
      have : x + (0 : Rat) = x := by grind
      rw [if_pos rfl, this, if_neg h1]
    · rw [if_neg h2, if_neg (by grind)]
      simp only [Option.getD_some]
      congr 1
      grind
theorem pow_pos' {a n : Nat} (h : 0 < a) : 0 < a ^ n := Nat.pow_pos h
theorem t_inv {por : Int} (h1 : 1 ≤ por) (h2 : por ≤ 100) : m_fraction [.dat (.int 1), .dat (.int por)] [] = .ok (.dat (eR (invP por))) [] := by
  have e := s_fraction 1 por.toNat (by omega) (Nat.lt_of_lt_of_le (by omega : por.toNat < 2 ^ 7) (Nat.pow_le_pow_right (by decide) (by decide)))
  rw [Int.toNat_of_nonneg (by omega)] at e
  exact e
theorem inv_one : invP 1 = 1 := rfl
theorem t_add_needs (B : BkO gs DA MA rk bk) (hDA : 0 < DA) (hMA : 0 < MA) (hs0 : MA * DA < 2 ^ 1000) (hs00 : DA < 2 ^ 1000) : ∀ (i k : Nat) (d : Str) (r : Rcp) (p : Rat) (D m : Nat) (kvs : List (Str × Rat)) (DT Mt : Nat), rfind bk d = some r → rk d ≤ i → i < k → FrB D m p → 0 < p → 0 < D → 0 < m → 0 < DT → D * (DA * LC) ^ (i + 1) ∣ DT → (Mt + m * (12 * MA) ^ (i + 1)) * DT < 2 ^ 1000 → DT < 2 ^ 1000 →
    (kvs.map (·.1)).Nodup → (∀ q ∈ kvs, FrB DT Mt q.2) → kvs.length + 12 ^ (i + 1) < 1000000 →
    ∃ kvs' : List (Str × Rat), m_add_needs k [.dat (.tuple (gs.map eG)), .dat (.tuple (bk.map eRc)), .dat (.str d), .dat (eR p), .cel 0] [.dct false (kvs.map (eK eR))] = .ok (.dat .none) [.dct false (kvs'.map (eK eR))] ∧ (kvs'.map (·.1)).Nodup ∧ (∀ g, aget kvs' g = addT (aget kvs g) (p * ndF gs bk (i + 1) d g)) ∧ (∀ q ∈ kvs', FrB DT (Mt + m * (12 * MA) ^ (i + 1)) q.2) ∧ kvs'.length ≤ kvs.length + 12 ^ (i + 1) := by
  intro i
  induction i using Nat.strongRecOn with
  | ind i ih =>
    intro k d r p D m kvs DT Mt hr hrk hk hp h0 hD hm hDT hdv hb hb2 nd hkv hkl
    obtain ⟨k', rfl⟩ : ∃ k', k = k' + 1 := ⟨k - 1, by omega⟩
    have hrm : r ∈ bk := List.mem_of_find?_eq_some hr
    have hrn : r.nm = d := by have := List.find?_some hr; simpa using this
    obtain ⟨p1, p2⟩ := B.por r hrm
    obtain ⟨iF, i0⟩ := inv_frb p1 p2
    have hLC : 0 < LC := by decide
    -- sizes
    generalize hU : MA * m * (12 * MA) ^ i = U at *
    have hU12 : m * (12 * MA) ^ (i + 1) = 12 * U := by rw [← hU, Nat.pow_succ]; ac_rfl
    rw [hU12] at hb ⊢
    have hW : 0 < (12 * MA) ^ i := pow_pos' (by omega)
    have hmU : m ≤ U := by
      rw [← hU]
      refine Nat.le_trans (Nat.le_mul_of_pos_left m hMA) (Nat.le_mul_of_pos_right _ hW)
    have hMmU : MA * m ≤ U := by rw [← hU]; exact Nat.le_mul_of_pos_right _ hW
    have hC : 0 < DA * LC := Nat.mul_pos hDA hLC
    have dvC : D * (DA * LC) ∣ DT := Nat.dvd_trans (Nat.mul_dvd_mul_left D (⟨(DA * LC) ^ i, by rw [Nat.pow_succ, Nat.mul_comm]⟩ : DA * LC ∣ (DA * LC) ^ (i + 1))) hdv
    have dv1 : D ∣ DT := Nat.dvd_trans (Nat.dvd_mul_right ..) dvC
    have dv2 : D * LC ∣ DT := Nat.dvd_trans (Nat.mul_dvd_mul_left D (Nat.dvd_mul_left ..)) dvC
    have dv3 : DA * (D * LC) ∣ DT := by
      have : DA * (D * LC) = D * (DA * LC) := by ac_rfl
      rw [this]; exact dvC
    have smU : ∀ {M : Nat} {x : Rat}, FrB DT M x → M ≤ Mt + 12 * U → Sm x := fun {M x} hx hM => (hx.up hM).sm hDT hb hb2
    have sp := smU (hp.dvd dv1) (by omega)
    have si : Sm (invP r.por) := iF.sm hLC (by decide) (by decide)
    have shF : FrB (D * LC) (m * 1) (p * invP r.por) := FrB.mul hD hLC hp iF
    have ssh := smU (shF.dvd dv2) (by omega)
    have esh := s_times sp si
    have e1 := t_recipe_of bk d
    rw [hr] at e1
    have eu := B.uses hrm
    have einv := t_inv p1 p2
    have ul := B.ul r hrm
    generalize hsh : p * invP r.por = sh at *
    have key := forA_typed (g := tNames [7, 8]) (b := b_add_needs_l1 (m_add_needs k')) eN (fun done fr => ∃ (kvs1 : List (Str × Rat)) (v7 v8 v9 : Option AV), fr = ⟨[some (.dat (.tuple (gs.map eG))), some (.dat (.tuple (bk.map eRc))), some (.dat (.str d)), some (.dat (eR p)), some (.cel 0), some (.dat (eRc r)), some (.dat (eR sh)), v7, v8, v9], [.dct false (kvs1.map (eK eR))], 1⟩ ∧ (kvs1.map (·.1)).Nodup ∧ (∀ g, aget kvs1 g = addT (aget kvs g) (p * (done.map (ndT gs (ndF gs bk i) r.por g)).sum)) ∧ (∀ q ∈ kvs1, FrB DT (Mt + done.length * U) q.2) ∧ kvs1.length ≤ kvs.length + done.length * 12 ^ i)
      (usesOf r) ⟨[some (.dat (.tuple (gs.map eG))), some (.dat (.tuple (bk.map eRc))), some (.dat (.str d)), some (.dat (eR p)), some (.cel 0), some (.dat (eRc r)), some (.dat (eR sh)), none, none, none], [.dct false (kvs.map (eK eR))], 1⟩ ⟨kvs, none, none, none, rfl, nd, fun g => by
        have : p * (0 : Rat) = 0 := by grind
        simp only [List.map_nil, List.sum_nil, this, addT_zero], by simpa using hkv, by simp⟩ ?_
    · obtain ⟨fr', ef, kvs1, v7, v8, v9, rfl, g1, g2, g3, g4⟩ := key
      refine ⟨kvs1, ?_, g1, fun g => ?_, fun q hq => (g3 q hq).up (by have := Nat.mul_le_mul_right U ul; omega), ?_⟩
      · show mkFun 10 5 (b_add_needs (m_add_needs k')) _ _ = _
        by_cases hp1 : r.por = 1
        · have z : (.tuple [.int 1, .int 1] : PyData) = eR (invP r.por) := by rw [hp1]; rfl
          rw [hp1] at z
          unfold b_add_needs
          rw [hp1] at esh
          simp [e1, rc_ix1, dEq, eqOk_int, eqv_int, hp1, z, esh, eu, ef]
        · unfold b_add_needs
          simp [e1, rc_ix1, dEq, eqOk_int, eqv_int, hp1, einv, esh, eu, ef]
      · rw [g2 g]
        have : ndF gs bk (i + 1) d g = ((usesOf r).map (ndT gs (ndF gs bk i) r.por g)).sum := by
          rw [ndF, hr]
        rw [this]
      · have := Nat.mul_le_mul_right (12 ^ i) ul
        rw [Nat.pow_succ]
        omega
    · rintro done q rest fr he ⟨kvs1, v7, v8, v9, rfl, g1, g2, g3, g4⟩
      obtain ⟨hq, _, hlen⟩ := take_of he
      obtain ⟨q0, qF⟩ := B.u0 r hrm q hq
      have hd12 : done.length + 1 ≤ 12 := by omega
      have hdU : (done.length + 1) * U ≤ 12 * U := Nat.mul_le_mul_right U hd12
      have hdU2 : (done.length + 1) * U = done.length * U + U := Nat.succ_mul ..
      have sq : Sm q.2 := qF.sm hDA hs0 hs00
      have edue := s_times sq ssh
      have dF : FrB (DA * (D * LC)) (MA * m) (q.2 * sh) := by
        have := FrB.mul hDA (Nat.mul_pos hD hLC) qF shF
        rwa [Nat.mul_one] at this
      have sh0 : 0 < sh := by rw [← hsh]; exact Rat.mul_pos h0 i0
      have due0 : 0 < q.2 * sh := Rat.mul_pos q0 sh0
      have eg := t_good_of gs q.1
      have sum_snoc : ∀ g, ((done ++ [q]).map (ndT gs (ndF gs bk i) r.por g)).sum = (done.map (ndT gs (ndF gs bk i) r.por g)).sum + ndT gs (ndF gs bk i) r.por g q := fun g => by
        rw [List.map_append, List.sum_append]; simp; grind
      have nn1 : ∀ g, 0 ≤ p * (done.map (ndT gs (ndF gs bk i) r.por g)).sum := fun g => Rat.mul_nonneg (Rat.le_of_lt h0) (sum_nn fun x hx => by
        obtain ⟨q', hq', rfl⟩ := List.mem_map.mp hx
        exact ndT_nn B (ndF_nn B i) hrm (by rw [he]; simp [hq']) g)
      by_cases hg : HasG gs q.1
      · -- a good
        obtain ⟨gd, hgd, _, _⟩ := hg.find
        rw [hgd] at eg
        have oldF : FrB DT (Mt + done.length * U) ((aget kvs1 q.1).getD 0) := aget_bound g3 q.1
        have dF2 : FrB DT U (q.2 * sh) := (dF.dvd dv3).up hMmU
        have ep := s_plus (smU oldF (by omega)) (smU dF2 (by omega))
        have hgt : (kfind (kvs1.map (eK eR)) (.str q.1)).getD (.tuple [.int 0, .int 1]) = eR ((aget kvs1 q.1).getD 0) := by
          rw [kfind_t]
          cases aget kvs1 q.1 <;> rfl
        have ek : kput (kvs1.map (eK eR)) (.str q.1) (eR ((aget kvs1 q.1).getD 0 + q.2 * sh)) = (aput kvs1 q.1 ((aget kvs1 q.1).getD 0 + q.2 * sh)).map (eK eR) := kput_t
        have kl : kvs1.length < 1000000 := by
          have := Nat.mul_le_mul_right (12 ^ i) (show done.length ≤ 12 by omega)
          rw [Nat.pow_succ] at hkl
          omega
        have hn : isNonB (eG gd) = false := rfl
        refine ⟨⟨[some (.dat (.tuple (gs.map eG))), some (.dat (.tuple (bk.map eRc))), some (.dat (.str d)), some (.dat (eR p)), some (.cel 0), some (.dat (eRc r)), some (.dat (eR sh)), some (.dat (.str q.1)), some (.dat (eR q.2)), v9], [.dct false (kvs1.map (eK eR))], 1⟩, ⟨[some (.dat (.tuple (gs.map eG))), some (.dat (.tuple (bk.map eRc))), some (.dat (.str d)), some (.dat (eR p)), some (.cel 0), some (.dat (eRc r)), some (.dat (eR sh)), some (.dat (.str q.1)), some (.dat (eR q.2)), some (.dat (eR (q.2 * sh)))], [.dct false ((aput kvs1 q.1 ((aget kvs1 q.1).getD 0 + q.2 * sh)).map (eK eR))], 1⟩, rfl, .inl ?_, _, _, _, _, rfl, aput_nodup g1, fun g => ?_, ?_, ?_⟩
        · simp [b_add_needs_l1, edue, eg, dIsN, hn, kOk, hgt, ep, ek, kl]
        · rw [aget_put, sum_snoc, Rat.mul_add]
          have tq : p * ndT gs (ndF gs bk i) r.por g q = if g = q.1 then q.2 * sh else 0 := by
            unfold ndT
            rw [if_pos (isG_iff.mpr hg), ← hsh]
            by_cases e : q.1 = g
            · rw [if_pos e, if_pos e.symm]; grind
            · rw [if_neg e, if_neg (Ne.symm e)]; grind
          rw [tq]
          by_cases e : g = q.1
          · subst e
            rw [if_pos rfl, if_pos rfl, g2 q.1]
            have hx0 := nn1 q.1
            generalize p * (done.map (ndT gs (ndF gs bk i) r.por q.1)).sum = x at hx0 ⊢
            unfold addT
            by_cases hx : x = 0
            · subst hx
              rw [if_pos rfl, if_neg (by grind)]
              congr 1; grind
            · rw [if_neg hx, if_neg (by grind)]
              simp only [Option.getD_some]
              congr 1; grind
          · rw [if_neg e, if_neg e, g2 g]
            congr 1; grind
        · refine aput_all (fun z hz => (g3 z hz).up (by rw [List.length_append]; simp; omega)) ?_
          have := FrB.add hDT oldF dF2
          refine this.up (by rw [List.length_append]; simp; omega)
        · have := aput_len (kvs := kvs1) (n := q.1) (v := (aget kvs1 q.1).getD 0 + q.2 * sh)
          have : 0 < 12 ^ i := pow_pos' (by decide)
          rw [List.length_append, List.length_singleton, Nat.succ_mul]
          omega
      · -- a recipe
        obtain ⟨r', hr'm, hr'n, hrk'⟩ : ∃ r' ∈ bk, r'.nm = q.1 ∧ rk q.1 < rk r.nm := (B.un r hrm q hq).resolve_left hg
        rw [hrn] at hrk'
        obtain ⟨j, rfl⟩ : ∃ j, i = j + 1 := ⟨i - 1, by omega⟩
        have hng : gfindT gs q.1 = none := by
          cases z : gfindT gs q.1 with
          | none => rfl
          | some g => exact absurd (isG_iff.mp (by unfold isG; rw [z]; rfl)) hg
        rw [hng] at eg
        have hr' : rfind bk q.1 = some r' := by rw [← hr'n]; exact rfind_of B.nd hr'm
        have hU' : MA * m * (12 * MA) ^ (j + 1) = U := hU
        obtain ⟨kvs2, e2, j1, j2, j3, j4⟩ := ih j (by omega) k' q.1 r' (q.2 * sh) (DA * (D * LC)) (MA * m) kvs1 DT (Mt + done.length * U) hr' (by omega) (by omega) dF due0 (Nat.mul_pos hDA (Nat.mul_pos hD hLC)) (Nat.mul_pos hMA hm) hDT (by
            have : DA * (D * LC) * (DA * LC) ^ (j + 1) = D * (DA * LC) ^ (j + 1 + 1) := by rw [Nat.pow_succ (n := DA * LC) (m := j + 1)]; ac_rfl
            rw [this]; exact hdv) (by
            rw [hU']
            refine Nat.lt_of_le_of_lt (Nat.mul_le_mul_right DT ?_) hb
            omega) hb2 g1 g3 (by
            have := Nat.mul_le_mul_right (12 ^ (j + 1)) hd12
            rw [Nat.succ_mul] at this
            rw [Nat.pow_succ (m := j + 1)] at hkl
            omega)
        rw [hU'] at j3
        refine ⟨⟨[some (.dat (.tuple (gs.map eG))), some (.dat (.tuple (bk.map eRc))), some (.dat (.str d)), some (.dat (eR p)), some (.cel 0), some (.dat (eRc r)), some (.dat (eR sh)), some (.dat (.str q.1)), some (.dat (eR q.2)), v9], [.dct false (kvs1.map (eK eR))], 1⟩, ⟨[some (.dat (.tuple (gs.map eG))), some (.dat (.tuple (bk.map eRc))), some (.dat (.str d)), some (.dat (eR p)), some (.cel 0), some (.dat (eRc r)), some (.dat (eR sh)), some (.dat (.str q.1)), some (.dat (eR q.2)), some (.dat (eR (q.2 * sh)))], [.dct false (kvs2.map (eK eR))], 1⟩, rfl, .inl ?_, _, _, _, _, rfl, j1, fun g => ?_, fun z hz => (j3 z hz).up (by rw [List.length_append]; simp; omega), ?_⟩
        · simp [b_add_needs_l1, edue, eg, dIsN, isNonB, e2]
        · rw [j2 g, g2 g, sum_snoc, Rat.mul_add]
          have tq : p * ndT gs (ndF gs bk (j + 1)) r.por g q = q.2 * sh * ndF gs bk (j + 1) q.1 g := by
            unfold ndT
            rw [if_neg (fun z => hg (isG_iff.mp z)), ← hsh]; grind
          rw [tq]
          exact addT_add (nn1 g) (Rat.mul_nonneg (Rat.le_of_lt due0) (ndF_nn B _ _ _))
        · rw [List.length_append, List.length_singleton, Nat.succ_mul]
          omega
theorem ndF_good (B : BkO gs DA MA rk bk) : ∀ (k : Nat) (d g : Str), ndF gs bk k d g ≠ 0 → HasG gs g
  | 0, _, _, h => absurd rfl h
  | k + 1, d, g, h => by
    rw [ndF] at h
    cases hr : rfind bk d with
    | none => rw [hr] at h; exact absurd rfl h
    | some r =>
      rw [hr] at h
      apply Classical.byContradiction
      intro hn
      apply h
      show ((usesOf r).map (ndT gs (ndF gs bk k) r.por g)).sum = 0
      have z : ∀ x ∈ (usesOf r).map (ndT gs (ndF gs bk k) r.por g), x = 0 := fun x hx => by
        obtain ⟨q, hq, rfl⟩ := List.mem_map.mp hx
        unfold ndT
        have : (if isG gs q.1 = true then (if q.1 = g then (1 : Rat) else 0) else ndF gs bk k q.1 g) = 0 := by
          split
          · rename_i hq1
            rw [if_neg]
            rintro rfl
            exact hn (isG_iff.mp hq1)
          · apply Classical.byContradiction
            intro h2
            exact hn (ndF_good B k q.1 g h2)
        rw [this]; grind
      clear h hr
      revert z
      generalize (usesOf r).map (ndT gs (ndF gs bk k) r.por g) = l
      intro z
      induction l with
      | nil => rfl
      | cons x xs ih =>
        rw [List.sum_cons, z x (List.mem_cons_self ..), ih fun y hy => z y (List.mem_cons_of_mem _ hy)]; grind
theorem rise_nodup {xs : List Str} (h : RiseS xs) : xs.Nodup := h.imp fun {a b} hab e => by
  subst e
  have := (listOrd itemOrd).irrefl (keyToks (.str a))
  rw [show dataLt (.str a) (.str a) = false from this] at hab
  cases hab
theorem rise_ext {β : Type} {xs ys : List (Str × β)} (hx : RiseS (xs.map (·.1))) (hy : RiseS (ys.map (·.1))) (h : ∀ n, aget xs n = aget ys n) : xs = ys := by
  have nx := rise_nodup hx
  have ny := rise_nodup hy
  have mem : ∀ q : Str × β, q ∈ xs ↔ q ∈ ys := fun q => by
    constructor
    · intro hq
      have := aget_of_mem nx (n := q.1) (b := q.2) hq
      rw [h] at this
      exact aget_mem this
    · intro hq
      have := aget_of_mem ny (n := q.1) (b := q.2) hq
      rw [← h] at this
      exact aget_mem this
  have dx : xs.Nodup := List.Pairwise.of_map _ (fun a b h e => h (e ▸ rfl)) nx
  have dy : ys.Nodup := List.Pairwise.of_map _ (fun a b h e => h (e ▸ rfl)) ny
  have p : xs.Perm ys := (List.perm_ext_iff_of_nodup dx dy).mpr mem
  unfold RiseS at hx hy
  rw [List.pairwise_map] at hx hy
  refine perm_sorted_eq (le := fun a b => dataLt (.str a.1) (.str b.1) = true) p hx hy fun a _ b _ h1 h2 => ?_
  rw [lt_asym h1] at h2; cases h2
/-- needs, in order -/
def needsL (gs : List Gd) (f : Str → Rat) (p : Rat) : List (Str × Rat) := (((gs.map (·.nm)).filter fun n => decide (f n ≠ 0)).map fun n => (n, p * f n))
theorem needsL_names (gs : List Gd) (f : Str → Rat) (p : Rat) : (needsL gs f p).map (·.1) = (gs.map (·.nm)).filter fun n => decide (f n ≠ 0) := by
  unfold needsL
  rw [List.map_map]
  exact List.map_id' _
theorem needsL_get {f : Str → Rat} {p : Rat} (hg : RiseS (gs.map (·.nm))) (hf : ∀ g, f g ≠ 0 → HasG gs g) (n : Str) : aget (needsL gs f p) n = if f n ≠ 0 then some (p * f n) else none := by
  have nd : ((needsL gs f p).map (·.1)).Nodup := by
    rw [needsL_names]
    exact List.filter_sublist.nodup (rise_nodup hg)
  by_cases h : f n ≠ 0
  · rw [if_pos h]
    refine aget_of_mem nd (List.mem_map.mpr ⟨n, List.mem_filter.mpr ⟨?_, by simpa using h⟩, rfl⟩)
    obtain ⟨g, hg1, rfl⟩ := hf n h
    exact List.mem_map.mpr ⟨g, hg1, rfl⟩
  · rw [if_neg h]
    refine aget_none.mpr fun hm => ?_
    rw [needsL_names] at hm
    have := (List.mem_filter.mp hm).2
    simp at this
    exact h this
/-- what a portion of a dish needs of a good -/
abbrev ndOf (gs : List Gd) (bk : List Rcp) (d : Str) : Str → Rat := ndF gs bk 4 d
theorem t_needs (B : BkO gs DA MA rk bk) (hDA : 0 < DA) (hMA : 0 < MA) (hs0 : MA * DA < 2 ^ 1000) (hs00 : DA < 2 ^ 1000) {d : Str} {r : Rcp} {p : Rat} {D m : Nat} (hg : RiseS (gs.map (·.nm))) (hr : rfind bk d = some r) (hrk : rk d ≤ 3) (hp : FrB D m p) (h0 : 0 < p) (hD : 0 < D) (hm : 0 < m) (hb : m * (12 * MA) ^ 4 * (D * (DA * LC) ^ 4) < 2 ^ 1000) (hb2 : D * (DA * LC) ^ 4 < 2 ^ 1000) :
    m_needs [.dat (.tuple (gs.map eG)), .dat (.tuple (bk.map eRc)), .dat (.str d), .dat (eR p)] [] = .ok (.dat (.list ((needsL gs (ndOf gs bk d) p).map eN))) [] := by
  have hDT : 0 < D * (DA * LC) ^ 4 := Nat.mul_pos hD (pow_pos' (Nat.mul_pos hDA (by decide)))
  obtain ⟨kvs, e, h1, h2, h3, h4⟩ := t_add_needs B hDA hMA hs0 hs00 3 12 d r p D m [] (D * (DA * LC) ^ 4) 0 hr hrk (by decide) hp h0 hD hm hDT (Nat.dvd_refl _) (by rw [Nat.zero_add]; exact hb) hb2 (by simp) (by simp) (by simp)
  have ek : srtT eN kvs = needsL gs (ndOf gs bk d) p := by
    refine rise_ext (rise_names (e := eN) (nm := fun q : Str × Rat => q.1) (tl := fun q => [eR q.2]) (fun _ => rfl) h1) ?_ fun n => ?_
    · rw [needsL_names]
      exact List.Pairwise.sublist List.filter_sublist hg
    · have hs : aget (srtT eN kvs) n = aget kvs n := by
        have nd2 : ((srtT eN kvs).map (·.1)).Nodup := ((srtT_perm eN kvs).map _).nodup_iff.mpr h1
        cases z : aget kvs n with
        | none =>
          rw [aget_none] at z ⊢
          intro hm; exact z (((srtT_perm eN kvs).map _).mem_iff.mp hm)
        | some b => exact aget_of_mem nd2 ((srtT_perm eN kvs).mem_iff.mpr (aget_mem z))
      rw [hs, h2 n, needsL_get hg (ndF_good B 4 d)]
      show addT none (p * ndOf gs bk d n) = _
      unfold addT
      by_cases hz : ndOf gs bk d n = 0
      · have hz' : ndF gs bk 4 d n = 0 := hz
        rw [hz', if_pos (by grind), if_neg (by simp)]
      · have : p * ndOf gs bk d n ≠ 0 := by
          intro e0
          rcases Rat.mul_eq_zero.mp e0 with h | h
          · grind
          · exact hz h
        rw [if_neg this, if_pos hz]
        simp; grind
  have es := srtd_items (kvs := kvs) (by simp at h4; omega)
  rw [ek] at es
  simp only [List.map_nil] at e
  unfold m_needs b_needs
  simp [e, es]
end
end G
/-! OD: ways, and the search for the least, with no program in sight. -/
namespace G
open PySem PySem.Spec PyProof.Rows L2
open PySem.W (dataLt dataLe alike keyToks)
def eW (w : List Str) : PyData := .list (w.map .str)
def eW2 (w : List Str) : PyData := .tuple [.int w.length, eW w]
def rLt (a b : List Str) : Bool := dataLt (eW a) (eW b)
theorem al_W (a b : List Str) : alike (eW a) (eW b) = true := by
  simp only [eW, alike]
  exact alikeAll_map (fun _ _ => al_str _ _) a b
theorem rLt_nil : rLt [] [] = false := PyProof.Rows.lex_irrefl _
theorem rLt_cons (x y : Str) (a b : List Str) : rLt (x :: a) (y :: b) = if x = y then rLt a b else dataLt (.str x) (.str y) := by
  unfold rLt eW
  rw [List.map_cons, List.map_cons, PySem.W.dataLt_list, PySem.W.dataLt_list, PySem.W.dataLt_cons (al_str _ _), eqv_str]
  by_cases h : x = y
  · rw [if_pos (by simpa using h), if_pos h]
  · rw [if_neg (by simpa using h), if_neg h]
theorem sLt_irrefl (x : Str) : dataLt (.str x) (.str x) = false := PyProof.Rows.lex_irrefl _
theorem rLt_self : ∀ a : List Str, rLt a a = false
  | [] => rLt_nil
  | x :: a => by rw [rLt_cons, if_pos rfl]; exact rLt_self a
theorem rLt_snoc : ∀ {a b : List Str} (x y : Str), a.length = b.length → rLt (a ++ [x]) (b ++ [y]) = if a = b then dataLt (.str x) (.str y) else rLt a b
  | [], [], x, y, _ => by
    rw [if_pos rfl, List.nil_append, List.nil_append, rLt_cons]
    by_cases h : x = y
    · subst h; rw [if_pos rfl, rLt_nil, sLt_irrefl]
    · rw [if_neg h]
  | [], _ :: _, _, _, h => by simp at h
  | _ :: _, [], _, _, h => by simp at h
  | p :: a, q :: b, x, y, h => by
    rw [List.cons_append, List.cons_append, rLt_cons, rLt_cons, rLt_snoc x y (by simpa using h)]
    by_cases e : p = q
    · subst e
      rw [if_pos rfl, if_pos rfl]
      by_cases e2 : a = b
      · subst e2; rw [if_pos rfl, if_pos rfl]
      · rw [if_neg e2, if_neg (by simpa using e2)]
    · rw [if_neg e, if_neg e, if_neg (by simp [e])]
theorem rLt_tot : ∀ {a b : List Str}, a.length = b.length → rLt a b = false → rLt b a = false → a = b
  | [], [], _, _, _ => rfl
  | [], _ :: _, h, _, _ => by simp at h
  | _ :: _, [], h, _, _ => by simp at h
  | p :: a, q :: b, h, h1, h2 => by
    rw [rLt_cons] at h1 h2
    by_cases e : p = q
    · subst e
      rw [if_pos rfl] at h1 h2
      rw [rLt_tot (by simpa using h) h1 h2]
    · rw [if_neg e] at h1
      rw [if_neg (Ne.symm e)] at h2
      rcases lt_total (a := .str p) (b := .str q) fun z => e (str_toks z) with z | z
      · rw [h1] at z; cases z
      · rw [h2] at z; cases z
/-- no later -/
def wle (a b : List Str) : Bool := srtLe (eW2 a) (eW2 b)
theorem wle_eq (a b : List Str) : wle a b = if a.length = b.length then !rLt b a else decide (a.length < b.length) := by
  unfold wle
  rw [srt_eq, eW2, eW2, PySem.W.dataLt_pair (by simp [alike]) (al_W _ _), PySem.W.dataLt_int, eqv_int]
  by_cases h : a.length = b.length
  · rw [if_pos h, if_pos (by simp [h])]
    by_cases e : PyData.eqv (eW b) (eW a) = true
    · rw [if_pos e]
      have : eW b = eW a → rLt b a = false := fun z => by unfold rLt; rw [z]; exact PyProof.Rows.lex_irrefl _
      have hba : b = a := by
        have h2 : ∀ (x y : List Str), PyData.eqvAll (x.map PyData.str) (y.map PyData.str) = true → x = y := by
          intro x
          induction x with
          | nil => intro y hy; cases y with
            | nil => rfl
            | cons => simp [PyData.eqvAll] at hy
          | cons p x ih => intro y hy; cases y with
            | nil => simp [PyData.eqvAll] at hy
            | cons q y =>
              simp only [List.map_cons, PyData.eqvAll, Bool.and_eq_true] at hy
              rw [eqv_str] at hy
              rw [ih y hy.2]; simp at hy; rw [hy.1]
        exact h2 b a (by simpa [eW, PyData.eqv] using e)
      subst hba; rw [rLt_self]
    · rw [if_neg e]; rfl
  · rw [if_neg h, if_neg (by simp; omega)]
    rw [← decide_not, decide_eq_decide]
    omega
theorem wle_refl (a : List Str) : wle a a = true := by rw [wle_eq, if_pos rfl, rLt_self]; rfl
theorem wle_trans {a b c : List Str} (h1 : wle a b = true) (h2 : wle b c = true) : wle a c = true := srt_total.trans _ _ _ h1 h2
theorem wle_lt {a b : List Str} (h : a.length < b.length) : wle a b = true := by rw [wle_eq, if_neg (by omega)]; simpa using h
theorem wle_len {a b : List Str} (h : wle a b = true) : a.length ≤ b.length := by
  rw [wle_eq] at h
  by_cases e : a.length = b.length
  · omega
  · rw [if_neg e] at h; have := of_decide_eq_true h; omega
theorem wle_anti {a b : List Str} (h1 : wle a b = true) (h2 : wle b a = true) : a = b := by
  have e : a.length = b.length := Nat.le_antisymm (wle_len h1) (wle_len h2)
  rw [wle_eq, if_pos e] at h1
  rw [wle_eq, if_pos e.symm] at h2
  exact rLt_tot e (by simpa using h2) (by simpa using h1)
theorem rLt_asym {a b : List Str} (h : rLt a b = true) : rLt b a = false := lt_asym h
theorem wle_of_rLt {a b : List Str} (e : a.length = b.length) (h : rLt a b = true) : wle a b = true := by rw [wle_eq, if_pos e, rLt_asym h]; rfl
theorem wle_snoc {a b : List Str} (n : Str) (h : wle a b = true) : wle (a ++ [n]) (b ++ [n]) = true := by
  have hl := wle_len h
  by_cases e : a.length = b.length
  · rw [wle_eq, if_pos e] at h
    rw [wle_eq, if_pos (by simp [e]), rLt_snoc _ _ e.symm]
    by_cases hh : b = a
    · rw [if_pos hh, sLt_irrefl]; rfl
    · rw [if_neg hh]; exact h
  · exact wle_lt (by simp; omega)
def lastW (w : List Str) : Str := w.getLast?.getD ""
theorem lastW_snoc (w : List Str) (n : Str) : lastW (w ++ [n]) = n := by simp [lastW]
/-! ### the search -/
section
variable (us : Str → List Str) (d : Str)
inductive Way : List Str → Prop
  | base : Way [d]
  | step {w : List Str} {n : Str} : Way w → n ∈ us (lastW w) → Way (w ++ [n])
def expN (row : List Str) (S : List Str × List (List Str)) (n : Str) : List Str × List (List Str) := if n ∈ S.1 then S else (S.1 ++ [n], S.2 ++ [row ++ [n]])
def expR (S : List Str × List (List Str)) (row : List Str) : List Str × List (List Str) := (us (lastW row)).foldl (expN row) S
def expL (S : List Str × List (List Str)) (rows : List (List Str)) : List Str × List (List Str) := rows.foldl (expR us) S
def bfs (hit : Str → Bool) : Nat → List Str → List (List Str) → Option (List Str)
  | 0, _, _ => none
  | k + 1, seen, layer => if layer = [] then none else match layer.find? fun r => hit (lastW r) with
    | some r => some r
    | none => bfs hit k (expL us (seen, []) layer).1 (expL us (seen, []) layer).2
def Best (hit : Str → Bool) (o : Option (List Str)) : Prop := match o with
  | some r => Way us d r ∧ hit (lastW r) = true ∧ ∀ w, Way us d w → hit (lastW w) = true → wle r w = true
  | none => ∀ w, Way us d w → hit (lastW w) = false
variable {us : Str → List Str} {d : Str}
theorem Way.pos {w : List Str} (h : Way us d w) : w ≠ [] := by cases h <;> simp
/-- rows and the names behind them, in order -/
abbrev pairsR (rows : List (List Str)) : List (List Str × Str) := rows.flatMap fun r => (us (lastW r)).map fun n => (r, n)
def expP (S : List Str × List (List Str)) (ps : List (List Str × Str)) : List Str × List (List Str) := ps.foldl (fun S p => expN p.1 S p.2) S
theorem expL_pairs (rows : List (List Str)) (S : List Str × List (List Str)) : expL us S rows = expP S (pairsR (us := us) rows) := by
  induction rows generalizing S with
  | nil => rfl
  | cons r rows ih =>
    show expL us (expR us S r) rows = _
    rw [ih]
    unfold expP expR pairsR
    rw [List.flatMap_cons, List.foldl_append, List.foldl_map]
abbrev pLt (p q : List Str × Str) : Prop := rLt p.1 q.1 = true ∨ (p.1 = q.1 ∧ dataLt (.str p.2) (.str q.2) = true)
theorem pairs_rise (hu : ∀ n, RiseS (us n)) {rows : List (List Str)} (h : rows.Pairwise fun a b => rLt a b = true) : (pairsR (us := us) rows).Pairwise pLt := by
  induction rows with
  | nil => exact .nil
  | cons r rows ih =>
    rw [List.pairwise_cons] at h
    unfold pairsR
    rw [List.flatMap_cons, List.pairwise_append]
    refine ⟨?_, ih h.2, ?_⟩
    · rw [List.pairwise_map]
      exact (hu _).imp fun hab => .inr ⟨rfl, hab⟩
    · intro p hp q hq
      obtain ⟨n, _, rfl⟩ := List.mem_map.mp hp
      obtain ⟨r', hr', hq⟩ := List.mem_flatMap.mp hq
      obtain ⟨m, _, rfl⟩ := List.mem_map.mp hq
      exact .inl (h.1 r' hr')
/-- what one layer brings -/
structure Ex (All : List (List Str)) (j : Nat) (done : List (List Str × Str)) (S : List Str × List (List Str)) : Prop where
  seen : S.1 = (All ++ S.2).map lastW
  rise : S.2.Pairwise fun a b => rLt a b = true
  frm : ∀ r ∈ S.2, ∃ p ∈ done, r = p.1 ++ [p.2]
  cov : ∀ p ∈ done, ∃ r ∈ All ++ S.2, lastW r = p.2 ∧ wle r (p.1 ++ [p.2]) = true
theorem exp_spec {All : List (List Str)} {j : Nat} (hA : ∀ r ∈ All, r.length ≤ j + 1) {ps : List (List Str × Str)} (hl : ∀ p ∈ ps, p.1.length = j + 1) (hp : ps.Pairwise pLt) :
    ∀ (rest done : List (List Str × Str)) (S : List Str × List (List Str)), ps = done ++ rest → Ex All j done S → Ex All j ps (expP S rest) := by
  intro rest
  induction rest with
  | nil => intro done S e h; rw [List.append_nil] at e; subst e; exact h
  | cons p rest ih =>
    intro done S e h
    show Ex All j ps (expP (expN p.1 S p.2) rest)
    have pl := hl p (by rw [e]; simp)
    have before : ∀ q ∈ done, pLt q p := fun q hq => by
      rw [e, List.pairwise_append] at hp
      exact hp.2.2 q hq p (List.mem_cons_self ..)
    have snoc_lt : ∀ q ∈ done, rLt (q.1 ++ [q.2]) (p.1 ++ [p.2]) = true := fun q hq => by
      have ql := hl q (by rw [e]; simp [hq])
      rw [rLt_snoc _ _ (by omega)]
      rcases before q hq with z | ⟨z1, z2⟩
      · rw [if_neg (fun z1 => by rw [z1, rLt_self] at z; cases z)]; exact z
      · rw [if_pos z1]; exact z2
    refine ih (done ++ [p]) _ (by rw [e]; simp) ?_
    unfold expN
    by_cases hs : p.2 ∈ S.1
    · rw [if_pos hs]
      refine ⟨h.seen, h.rise, fun r hr => ?_, fun q hq => ?_⟩
      · obtain ⟨q, hq, z⟩ := h.frm r hr
        exact ⟨q, List.mem_append_left _ hq, z⟩
      · rcases List.mem_append.mp hq with hq | hq
        · exact h.cov q hq
        · cases List.mem_singleton.mp hq
          rw [h.seen] at hs
          obtain ⟨r, hr, hn⟩ := List.mem_map.mp hs
          refine ⟨r, hr, hn, ?_⟩
          rcases List.mem_append.mp hr with hr | hr
          · have := hA r hr
            exact wle_lt (by simp; omega)
          · obtain ⟨q, hq, z⟩ := h.frm r hr
            have ql := hl q (by rw [e]; simp [hq])
            have := snoc_lt q hq
            rw [← z] at this
            exact wle_of_rLt (by rw [z]; simp; omega) this
    · rw [if_neg hs]
      refine ⟨?_, ?_, fun r hr => ?_, fun q hq => ?_⟩
      · simp only [h.seen, List.map_append, List.map_cons, List.map_nil, lastW_snoc, List.append_assoc]
      · rw [List.pairwise_append]
        refine ⟨h.rise, List.pairwise_singleton .., fun r hr z hz => ?_⟩
        cases List.mem_singleton.mp hz
        obtain ⟨q, hq, z⟩ := h.frm r hr
        rw [z]; exact snoc_lt q hq
      · rcases List.mem_append.mp hr with hr | hr
        · obtain ⟨q, hq, z⟩ := h.frm r hr
          exact ⟨q, List.mem_append_left _ hq, z⟩
        · exact ⟨p, by simp, List.mem_singleton.mp hr⟩
      · rcases List.mem_append.mp hq with hq | hq
        · obtain ⟨r, hr, z1, z2⟩ := h.cov q hq
          exact ⟨r, by rw [← List.append_assoc]; exact List.mem_append_left _ hr, z1, z2⟩
        · cases List.mem_singleton.mp hq
          exact ⟨p.1 ++ [p.2], by simp, lastW_snoc .., wle_refl _⟩
structure BI (us : Str → List Str) (d : Str) (hit : Str → Bool) (Done layer : List (List Str)) (seen : List Str) (j : Nat) : Prop where
  seen : seen = (Done ++ layer).map lastW
  way : ∀ r ∈ layer, Way us d r ∧ r.length = j + 1
  rise : layer.Pairwise fun a b => rLt a b = true
  done : ∀ r ∈ Done, r.length ≤ j ∧ hit (lastW r) = false
  first : [d] ∈ Done ++ layer
  cov : ∀ r' ∈ Done, ∀ n ∈ us (lastW r'), ∃ r ∈ Done ++ layer, lastW r = n ∧ wle r (r' ++ [n]) = true
theorem BI.next {hit : Str → Bool} {Done layer : List (List Str)} {seen : List Str} {j : Nat} (hu : ∀ n, RiseS (us n)) (B : BI us d hit Done layer seen j) (hn : ∀ r ∈ layer, hit (lastW r) = false) :
    BI us d hit (Done ++ layer) (expL us (seen, []) layer).2 (expL us (seen, []) layer).1 (j + 1) := by
  rw [expL_pairs]
  have hA : ∀ r ∈ Done ++ layer, r.length ≤ j + 1 := fun r hr => by
    rcases List.mem_append.mp hr with hr | hr
    · have := (B.done r hr).1; omega
    · have := (B.way r hr).2; omega
  have hpm : ∀ p ∈ pairsR (us := us) layer, p.1 ∈ layer ∧ p.2 ∈ us (lastW p.1) := fun p hp => by
    obtain ⟨r, hr, hp⟩ := List.mem_flatMap.mp hp
    obtain ⟨n, hn, rfl⟩ := List.mem_map.mp hp
    exact ⟨hr, hn⟩
  have E := exp_spec (All := Done ++ layer) (j := j) hA (ps := pairsR (us := us) layer) (fun p hp => (B.way _ (hpm p hp).1).2) (pairs_rise hu B.rise) _ [] (seen, []) rfl ⟨by simpa using B.seen, .nil, (fun r hr => nomatch hr), fun p hp => nomatch hp⟩
  refine ⟨E.seen, fun r hr => ?_, E.rise, fun r hr => ⟨hA r hr, ?_⟩, List.mem_append_left _ B.first, fun r' hr' n hn => ?_⟩
  · obtain ⟨p, hp, rfl⟩ := E.frm r hr
    obtain ⟨h1, h2⟩ := hpm p hp
    obtain ⟨w1, w2⟩ := B.way _ h1
    exact ⟨.step w1 h2, by simp [w2]⟩
  · rcases List.mem_append.mp hr with hr | hr
    · exact (B.done r hr).2
    · exact hn r hr
  · rcases List.mem_append.mp hr' with hr' | hr'
    · obtain ⟨r, hr, z⟩ := B.cov r' hr' n hn
      exact ⟨r, List.mem_append_left _ hr, z⟩
    · exact E.cov (r', n) (List.mem_flatMap.mpr ⟨r', hr', List.mem_map.mpr ⟨n, hn, rfl⟩⟩)
theorem BI.all {hit : Str → Bool} {Done layer : List (List Str)} {seen : List Str} {j : Nat} (B : BI us d hit Done layer seen j) {w : List Str} (h : Way us d w) : (∃ r ∈ Done ++ layer, lastW r = lastW w ∧ wle r w = true) ∨ ∃ r ∈ layer, r.length < w.length := by
  induction h with
  | base => exact .inl ⟨[d], B.first, rfl, wle_refl _⟩
  | @step w n hw hn ih =>
    rcases ih with ⟨r, hr, h1, h2⟩ | ⟨r, hr, h⟩
    · rcases List.mem_append.mp hr with hr | hr
      · obtain ⟨r2, hr2, z1, z2⟩ := B.cov r hr n (by rw [h1]; exact hn)
        exact .inl ⟨r2, hr2, by rw [z1, lastW_snoc], wle_trans z2 (wle_snoc n h2)⟩
      · have := wle_len h2
        exact .inr ⟨r, hr, by simp; omega⟩
    · exact .inr ⟨r, hr, by simp; omega⟩
theorem find_first {α : Type} {p : α → Bool} {xs : List α} {r : α} (h : xs.find? p = some r) : ∃ pre post, xs = pre ++ r :: post ∧ p r = true ∧ ∀ x ∈ pre, p x = false := by
  induction xs with
  | nil => cases h
  | cons x xs ih =>
    rw [List.find?_cons] at h
    cases q : p x with
    | true =>
      rw [q] at h; cases h
      exact ⟨[], xs, rfl, q, fun _ h => nomatch h⟩
    | false =>
      rw [q] at h
      obtain ⟨pre, post, e, h1, h2⟩ := ih h
      exact ⟨x :: pre, post, by rw [e]; rfl, h1, fun y hy => (List.mem_cons.mp hy).elim (fun z => by rw [z]; exact q) (h2 y)⟩
theorem bfs_spec {hit : Str → Bool} {L : Nat} (hu : ∀ n, RiseS (us n)) (hL : ∀ w, Way us d w → w.length ≤ L) : ∀ (k : Nat) (Done layer : List (List Str)) (seen : List Str) (j : Nat), BI us d hit Done layer seen j → L < k + j → Best us d hit (bfs us hit k seen layer) := by
  intro k
  induction k with
  | zero =>
    intro Done layer seen j B h
    intro w hw
    rcases B.all hw with ⟨r, hr, h1, h2⟩ | ⟨r, hr, _⟩
    · rcases List.mem_append.mp hr with hr | hr
      · rw [← h1]; exact (B.done r hr).2
      · have := hL r (B.way r hr).1; have := (B.way r hr).2; omega
    · have := hL r (B.way r hr).1; have := (B.way r hr).2; omega
  | succ k ih =>
    intro Done layer seen j B h
    unfold bfs
    by_cases e : layer = []
    · rw [if_pos e]
      subst e
      intro w hw
      rcases B.all hw with ⟨r, hr, h1, h2⟩ | ⟨r, hr, _⟩
      · rw [List.append_nil] at hr
        rw [← h1]; exact (B.done r hr).2
      · cases hr
    · rw [if_neg e]
      cases hf : layer.find? fun r => hit (lastW r) with
      | none =>
        refine ih (Done ++ layer) _ _ (j + 1) (B.next hu fun r hr => ?_) (by omega)
        have := List.find?_eq_none.mp hf r hr
        simpa using this
      | some r =>
        obtain ⟨pre, post, he, hp, hpre⟩ := find_first hf
        have hrm : r ∈ layer := by rw [he]; simp
        refine ⟨(B.way r hrm).1, hp, fun w hw hh => ?_⟩
        have rl := (B.way r hrm).2
        rcases B.all hw with ⟨r2, hr2, h1, h2⟩ | ⟨r2, hr2, h2⟩
        · rcases List.mem_append.mp hr2 with hr2 | hr2
          · have := (B.done r2 hr2).2
            rw [h1, hh] at this; cases this
          · have r2l := (B.way r2 hr2).2
            refine wle_trans ?_ h2
            rw [he] at hr2
            rcases List.mem_append.mp hr2 with z | z
            · have := hpre r2 z
              rw [h1, hh] at this; cases this
            · rcases List.mem_cons.mp z with z | z
              · rw [z]; exact wle_refl _
              · have rise := B.rise
                rw [he, List.pairwise_append, List.pairwise_cons] at rise
                exact wle_of_rLt (by omega) (rise.2.1.1 r2 z)
        · have := (B.way r2 hr2).2
          exact wle_lt (by omega)
theorem bfs_best {hit : Str → Bool} {L k : Nat} (hu : ∀ n, RiseS (us n)) (hL : ∀ w, Way us d w → w.length ≤ L) (hk : L < k) : Best us d hit (bfs us hit k [d] [[d]]) :=
  bfs_spec hu hL k [] [[d]] [d] 0 ⟨rfl, fun r hr => by cases List.mem_singleton.mp hr; exact ⟨.base, rfl⟩, List.pairwise_singleton .., (fun r hr => nomatch hr), by simp, fun r hr => nomatch hr⟩ (by omega)
/-! ### ways by hand -/
def waysF (ch : Str → List Str) : Nat → Str → List (List Str)
  | 0, _ => []
  | k + 1, d => [d] :: (ch d).flatMap fun n => (waysF ch k n).map (d :: ·)
theorem Way.cons {n : Str} {w : List Str} (h : Way us n w) (hn : n ∈ us d) : Way us d (d :: w) := by
  induction h with
  | base => exact .step (w := [d]) .base (by simpa [lastW] using hn)
  | @step w m hw hm ih =>
    have hne := hw.pos
    have : lastW (d :: w) = lastW w := by
      unfold lastW
      rw [List.getLast?_cons_of_ne_nil hne]
    rw [← List.cons_append]
    exact .step ih (by rw [this]; exact hm)
theorem ways_way {ch : Str → List Str} (hc : ∀ n m, m ∈ ch n → m ∈ us n) : ∀ {k : Nat} {d : Str} {w : List Str}, w ∈ waysF ch k d → Way us d w
  | 0, _, _, h => by simp [waysF] at h
  | k + 1, d, w, h => by
    unfold waysF at h
    rcases List.mem_cons.mp h with rfl | h
    · exact .base
    · obtain ⟨n, hn, h⟩ := List.mem_flatMap.mp h
      obtain ⟨w', hw, rfl⟩ := List.mem_map.mp h
      exact (ways_way hc hw).cons (hc _ _ hn)
theorem way_ways {ch : Str → List Str} (hc : ∀ n m, m ∈ us n → m ∈ ch n) {w : List Str} (h : Way us d w) : ∀ {k : Nat}, w.length ≤ k → w ∈ waysF ch k d := by
  have snoc : ∀ (k : Nat) (d : Str) (w : List Str) (n : Str), w ∈ waysF ch k d → n ∈ ch (lastW w) → w ++ [n] ∈ waysF ch (k + 1) d := by
    intro k
    induction k with
    | zero => intro d w n h; simp [waysF] at h
    | succ k ih =>
      intro d w n h hn
      unfold waysF at h ⊢
      rcases List.mem_cons.mp h with rfl | h
      · refine List.mem_cons_of_mem _ (List.mem_flatMap.mpr ⟨n, by simpa [lastW] using hn, List.mem_map.mpr ⟨[n], ?_, rfl⟩⟩)
        unfold waysF
        exact List.mem_cons_self ..
      · obtain ⟨m, hm, h⟩ := List.mem_flatMap.mp h
        obtain ⟨w', hw, rfl⟩ := List.mem_map.mp h
        have hne : w' ≠ [] := (ways_way (us := ch) (fun _ _ h => h) hw).pos
        refine List.mem_cons_of_mem _ (List.mem_flatMap.mpr ⟨m, hm, List.mem_map.mpr ⟨w' ++ [n], ih m w' n hw ?_, rfl⟩⟩)
        have : lastW (d :: w') = lastW w' := by
          unfold lastW
          rw [List.getLast?_cons_of_ne_nil hne]
        rwa [this] at hn
  have mono : ∀ (k : Nat) (d : Str) (w : List Str), w ∈ waysF ch k d → w ∈ waysF ch (k + 1) d := by
    intro k
    induction k with
    | zero => intro d w h; simp [waysF] at h
    | succ k ih =>
      intro d w h
      unfold waysF at h ⊢
      rcases List.mem_cons.mp h with rfl | h
      · exact List.mem_cons_self ..
      · obtain ⟨m, hm, h⟩ := List.mem_flatMap.mp h
        obtain ⟨w', hw, rfl⟩ := List.mem_map.mp h
        exact List.mem_cons_of_mem _ (List.mem_flatMap.mpr ⟨m, hm, List.mem_map.mpr ⟨w', ih m w' hw, rfl⟩⟩)
  have up : ∀ (i k : Nat) (d : Str) (w : List Str), w ∈ waysF ch k d → w ∈ waysF ch (k + i) d := by
    intro i
    induction i with
    | zero => intro k d w h; exact h
    | succ i ih => intro k d w h; exact mono _ _ _ (ih k d w h)
  have main : w ∈ waysF ch w.length d := by
    induction h with
    | base => unfold waysF; exact List.mem_cons_self ..
    | @step w n hw hn ih =>
      rw [List.length_append, List.length_singleton]
      exact snoc _ _ _ _ ih (hc _ _ hn)
  intro k hk
  have := up (k - w.length) w.length d w main
  rwa [Nat.add_sub_cancel' hk] at this
theorem way_len {rk : Str → Nat} (hr : ∀ n m, m ∈ us n → rk m < rk n) {w : List Str} (h : Way us d w) : rk (lastW w) + w.length ≤ rk d + 1 := by
  induction h with
  | base => simp [lastW]
  | @step w n hw hn ih =>
    have := hr _ _ hn
    rw [lastW_snoc, List.length_append, List.length_singleton]
    omega
/-- the least of the ways that hit -/
theorem best_sorted {hit : Str → Bool} {o : Option (List Str)} (h : Best us d hit o) {ws : List (List Str)} (hw : ∀ w, w ∈ ws ↔ Way us d w) : (srtT eW2 (ws.filter fun w => hit (lastW w))).head? = o := by
  have pm := srtT_perm eW2 (ws.filter fun w => hit (lastW w))
  have pw : (srtT eW2 (ws.filter fun w => hit (lastW w))).Pairwise fun a b => wle a b = true := by
    have := srt_pw ((ws.filter fun w => hit (lastW w)).map eW2)
    rw [srtT_map, List.pairwise_map] at this
    exact this
  generalize srtT eW2 (ws.filter fun w => hit (lastW w)) = s at *
  have ms : ∀ w, w ∈ s ↔ Way us d w ∧ hit (lastW w) = true := fun w => by
    rw [pm.mem_iff, List.mem_filter, hw]
  cases o with
  | none =>
    cases s with
    | nil => rfl
    | cons w s =>
      have := (ms w).mp (List.mem_cons_self ..)
      rw [h w this.1] at this
      cases this.2
  | some r =>
    obtain ⟨h1, h2, h3⟩ := h
    have hr := (ms r).mpr ⟨h1, h2⟩
    cases s with
    | nil => cases hr
    | cons w s =>
      have hw1 := (ms w).mp (List.mem_cons_self ..)
      have a1 := h3 w hw1.1 hw1.2
      have a2 : wle w r = true := by
        rcases List.mem_cons.mp hr with z | z
        · rw [z]; exact wle_refl _
        · exact (List.pairwise_cons.mp pw).1 r z
      rw [wle_anti a2 a1]; rfl
end
end G
/-! OE: ways of a cookbook. -/
namespace G
open PySem PySem.Spec PyProof.Rows L2
open PySem.W (dataLt dataLe alike keyToks)
def b_way_to_e1 : Fr → Res AV :=
  xOp2 dEq (xVar 8) (xVar 3)
def b_way_to_l1 : Fr → SRes :=
  sIf (xB (xB1 dAny (xCons (xComp [8, 9] (xItems (xCall m_uses_of (xCons (xCall m_recipe_of (xCons (xVar 1) (xCons (xIx (xVar 6) (xOp1 dNeg (xC (.int 1)))) (xNil)))) (xNil)))) (tNames [8, 9]) (xYes) (b_way_to_e1)) (xNil)))) (sRet (xVar 6)) (sNx)
def b_way_to_l2 : Fr → SRes :=
  sIf (xB (xDIn true (xVar 8) (xVar 5))) (sSeq (sDSet 5 (xVar 8) (xC (.bool true)))
  (sApp 7 (xOp2 dAdd (xVar 6) (xLst (xCons (xVar 8) (xNil)))))) (sNx)
def b_way_to_l3 : Fr → SRes :=
  sKill [8] (sFor (xItems (xCall m_used_recipes (xCons (xVar 1) (xCons (xIx (xVar 6) (xOp1 dNeg (xC (.int 1)))) (xNil))))) (tName 8) (b_way_to_l2))
def b_way_to_t1 : Fr → Res Bool :=
  xB (xOp2 dNe (xVar 4) (xLst (xNil)))
def b_way_to_l4 : Fr → SRes :=
  sKill [6, 7, 8] (sGc (sSeq (sFor (xItems (xVar 4)) (tName 6) (b_way_to_l1))
  (sKill [6] (sSeq (sSet 7 (xNewL (xNil)))
  (sSeq (sFor (xItems (xVar 4)) (tName 6) (b_way_to_l3))
  (sKill [6, 8] (sFrzM 7 (sSet 4 (xVar 7)))))))))
def b_way_to : Fr → SRes :=
  sSeq (sSet 4 (xLst (xCons (xLst (xCons (xVar 2) (xNil))) (xNil))))
  (sSeq (sSet 5 (xDisp1F (xVar 2) (xC (.bool true))))
  (sSeq (sWh (b_way_to_t1) (b_way_to_l4) (fun _ => 12))
  (sKill [4, 6, 7, 8] (sRet (xC .none)))))
def m_way_to : AFun := mkFun 10 4 b_way_to

def b__law_recipe_t1 : Fr → Res Bool :=
  xB (xOp2 dEq (xIx (xVar 2) (xC (.int 0))) (xVar 1))
def b__law_recipe_e1 : Fr → Res AV :=
  xVar 2
def b__law_recipe : Fr → SRes :=
  sRet (xIx (xComp [2] (xItems (xVar 0)) (tName 2) (b__law_recipe_t1) (b__law_recipe_e1)) (xC (.int 0)))
def m__law_recipe : AFun := mkFun 3 2 b__law_recipe

def b__law_ways_e1 (self : AFun) : Fr → Res AV :=
  xOp2 dAdd (xLst (xCons (xVar 1) (xNil))) (xVar 7)
def b__law_ways_l1 (self : AFun) : Fr → SRes :=
  sKill [6] (sIf (xB (xOp2 dIn (xVar 5) (xVar 2))) (sSet 3 (xOp2 dAdd (xVar 3) (xComp [7] (xItems (xCall self (xCons (xVar 0) (xCons (xVar 5) (xCons (xVar 2) (xNil)))))) (tName 7) (xYes) (b__law_ways_e1 self)))) (sNx))
def b__law_ways_l2 (self : AFun) : Fr → SRes :=
  sKill [5, 6] (sFor (xItems (xIx (xVar 4) (xC (.int 5)))) (tNames [5, 6]) (b__law_ways_l1 self))
def b__law_ways (self : AFun) : Fr → SRes :=
  sSeq (sSet 3 (xLst (xCons (xLst (xCons (xVar 1) (xNil))) (xNil))))
  (sSeq (sFor (xItems (xIx (xCall m__law_recipe (xCons (xVar 0) (xCons (xVar 1) (xNil)))) (xC (.int 2)))) (tName 4) (b__law_ways_l2 self))
  (sKill [4, 5, 6] (sRet (xVar 3))))
def m__law_ways : Nat → AFun
  | 0 => fun _ _ => .err
  | n + 1 => mkFun 8 3 (b__law_ways (m__law_ways n))

/-! ### a drawn cookbook -/
theorem split_of {α : Type} {x : α} {xs : List α} (h : x ∈ xs) : ∃ pre post, xs = pre ++ x :: post := List.append_of_mem h
abbrev rkB (rs : List Rcp) (n : Str) : Nat := (rs.map (·.nm)).idxOf n
theorem names6_dishes : ∀ ds ∈ Dishes2, ∀ n ∈ ds, n ∉ Names6 := by decide
theorem dishes_nodup : ∀ ds ∈ Dishes2, ds.Nodup := by decide
theorem names6_rise : RiseS Names6 := by
  unfold RiseS
  simp only [PySem.W.dataLt_str]
  decide
theorem uses_len {r : Rcp} {m k : Nat} (h1 : ∀ s ∈ r.sts, s.us.length ≤ m) (h2 : r.sts.length ≤ k) : (usesOf r).length ≤ m * k := by
  have : ∀ ss : List Stp, (∀ s ∈ ss, s.us.length ≤ m) → (ss.flatMap (·.us)).length ≤ m * ss.length := by
    intro ss
    induction ss with
    | nil => intro _; simp
    | cons s ss ih =>
      intro h
      rw [List.flatMap_cons, List.length_append, List.length_cons, Nat.mul_succ]
      have := ih fun x hx => h x (List.mem_cons_of_mem _ hx)
      have := h s (List.mem_cons_self ..)
      omega
  exact Nat.le_trans (this r.sts h1) (Nat.mul_le_mul_left m h2)
structure DrO (gs : List Gd) (rs : List Rcp) : Prop where
  gr : RiseS (gs.map (·.nm))
  bk : BkO gs 420 40 (rkB rs) (srtT eRc rs)
  rise : RiseS ((srtT eRc rs).map (·.nm))
  r4 : ∀ r ∈ srtT eRc rs, rkB rs r.nm ≤ 3
  nth : ∀ r ∈ srtT eRc rs, ∀ q ∈ usesOf r, q.1 ≠ "nothing"
  gn : ¬ HasG gs "nothing"
theorem names6_nothing : ("nothing" : Str) ∉ Names6 := by decide
theorem dishes_nothing : ∀ ds ∈ Dishes2, ("nothing" : Str) ∉ ds := by decide
theorem drawn {gs : List Gd} {rs : List Rcp} (hg : gs.map (·.nm) = Names6.take gs.length) (hr : BkD (gs.map (·.nm)) rs) : DrO gs rs := by
  obtain ⟨ds, hds, hnm⟩ := hr.nm
  have pm := srtT_perm eRc rs
  have nd : (rs.map (·.nm)).Nodup := by rw [hnm]; exact (List.take_sublist ..).nodup (dishes_nodup ds hds)
  have nd2 : ((srtT eRc rs).map (·.nm)).Nodup := ((pm.map _).nodup_iff).mpr nd
  have gin : ∀ n, HasG gs n → n ∈ Names6 := fun n ⟨g, h1, h2⟩ => by
    have : n ∈ gs.map (·.nm) := List.mem_map.mpr ⟨g, h1, h2⟩
    rw [hg] at this
    exact List.mem_of_mem_take this
  have din : ∀ r ∈ rs, r.nm ∈ ds := fun r h => by
    have : r.nm ∈ rs.map (·.nm) := List.mem_map.mpr ⟨r, h, rfl⟩
    rw [hnm] at this
    exact List.mem_of_mem_take this
  have mem : ∀ r ∈ srtT eRc rs, ∃ pre post, rs = pre ++ r :: post ∧ RcpO (gs.map (·.nm) ++ pre.map (·.nm)) r := fun r h => by
    obtain ⟨pre, post, e⟩ := split_of (pm.mem_iff.mp h)
    exact ⟨pre, post, e, hr.ro pre r post e⟩
  have stp : ∀ {kn : List Str} {r : Rcp}, RcpO kn r → ∀ s ∈ r.sts, ∃ ws, StpO kn ws s := fun {kn r} R s hs => by
    obtain ⟨pre, post, e⟩ := split_of hs
    exact ⟨_, R.so pre s post e⟩
  have use : ∀ {kn : List Str} {r : Rcp}, RcpO kn r → ∀ q ∈ usesOf r, q.1 ∈ kn ∧ 0 < q.2 ∧ FrB 420 40 q.2 := fun {kn r} R q hq => by
    obtain ⟨s, hs, hq⟩ := List.mem_flatMap.mp hq
    obtain ⟨ws, S⟩ := stp R s hs
    exact ⟨S.usn q hq, S.us0 q hq, S.usq q hq⟩
  have rl := hr.rl
  refine ⟨?_, ⟨nd2, by rw [pm.length_eq]; omega, fun r h => ?_, fun r h hh => ?_, fun r h => ?_, fun r h s hs => ?_, fun r h => ?_, fun r h q hq => ?_, fun r h q hq => ?_⟩, ?_, fun r h => ?_, fun r h q hq e => ?_, fun h => names6_nothing (gin _ h)⟩
  · rw [hg]; exact List.Pairwise.sublist (List.take_sublist ..) names6_rise
  · obtain ⟨pre, post, e, R⟩ := mem r h
    have := R.p0; have := R.p1; omega
  · exact names6_dishes ds hds _ (din r (pm.mem_iff.mp h)) (gin _ hh)
  · obtain ⟨pre, post, e, R⟩ := mem r h
    have := R.sl; omega
  · obtain ⟨pre, post, e, R⟩ := mem r h
    obtain ⟨ws, S⟩ := stp R s hs
    have := S.usl; omega
  · obtain ⟨pre, post, e, R⟩ := mem r h
    have := uses_len (m := 2) (k := 3) (fun s hs => by obtain ⟨ws, S⟩ := stp R s hs; exact S.usl) R.sl
    omega
  · obtain ⟨pre, post, e, R⟩ := mem r h
    exact (use R q hq).2
  · obtain ⟨pre, post, e, R⟩ := mem r h
    rcases List.mem_append.mp (use R q hq).1 with z | z
    · obtain ⟨g, h1, h2⟩ := List.mem_map.mp z
      exact .inl ⟨g, h1, h2⟩
    · right
      obtain ⟨r', h1, h2⟩ := List.mem_map.mp z
      refine ⟨r', pm.mem_iff.mpr (by rw [e]; simp [h1]), h2, ?_⟩
      unfold rkB
      rw [e, List.map_append, List.map_cons] at nd ⊢
      have hn : r.nm ∉ pre.map (·.nm) := fun hh => by
        rw [List.nodup_append] at nd
        exact nd.2.2 _ hh _ (List.mem_cons_self ..) rfl
      rw [List.idxOf_append, if_pos z, List.idxOf_append, if_neg hn]
      have := List.idxOf_lt_length_of_mem z
      omega
  · exact rise_names (e := eRc) (nm := fun r => r.nm) (tl := fun r => [.int r.por, .tuple (r.sts.map eS)]) (fun _ => rfl) nd
  · have : r.nm ∈ rs.map (·.nm) := List.mem_map.mpr ⟨r, pm.mem_iff.mp h, rfl⟩
    have := List.idxOf_lt_length_of_mem this
    rw [List.length_map] at this
    unfold rkB; omega
  · obtain ⟨pre, post, e2, R⟩ := mem r h
    rcases List.mem_append.mp (use R q hq).1 with z | z
    · rw [e, hg] at z
      exact names6_nothing (List.mem_of_mem_take z)
    · rw [e] at z
      obtain ⟨r', h1, h2⟩ := List.mem_map.mp z
      have := din r' (by rw [e2]; simp [h1])
      rw [h2] at this
      exact dishes_nothing ds hds this
theorem rise_strs {xs : List Str} (nd : xs.Nodup) : RiseS (srtS xs) := by
  have nd2 : (srtS xs).Nodup := (srtS_perm xs).nodup_iff.mpr nd
  have pw : (srtS xs).Pairwise fun a b => srtLe (.str a) (.str b) = true := by
    have := srt_pw (xs.map .str)
    rw [srtT_map, List.pairwise_map] at this
    exact this
  refine (List.Pairwise.and pw nd2).imp fun {a b} hab => ?_
  rcases lt_total (a := .str a) (b := .str b) fun h => hab.2 (str_toks h) with q | q
  · exact q
  · rw [srt_eq, q] at hab; exact absurd hab.1 (by decide)
end G
/-! OF: way_to, and the ways by hand. -/
namespace G
open PySem PySem.Spec PyProof.Rows L2
open PySem.W (dataLt dataLe alike keyToks)
theorem nodup_sub {xs : List Str} : ∀ {ys : List Str}, xs.Nodup → (∀ x ∈ xs, x ∈ ys) → xs.length ≤ ys.length := by
  induction xs with
  | nil => intro ys _ _; exact Nat.zero_le _
  | cons x xs ih =>
    intro ys nd h
    rw [List.nodup_cons] at nd
    have hx := h x (List.mem_cons_self ..)
    have := ih (ys := ys.erase x) nd.2 fun y hy => (List.mem_erase_of_ne (fun e => nd.1 (by rw [← e]; exact hy))).mpr (h y (List.mem_cons_of_mem _ hy))
    rw [List.length_erase_of_mem hx] at this
    have := List.length_pos_of_mem hx
    rw [List.length_cons]; omega
/-- a name that was seen -/
def eT (n : Str) : PyData × PyData := (.str n, .bool true)
theorem kfind_T (seen : List Str) (n : Str) : (kfind (seen.map eT) (.str n)).isSome = decide (n ∈ seen) := by
  unfold kfind
  rw [List.find?_map]
  have : ((fun q : PyData × PyData => PyData.eqv q.1 (.str n)) ∘ eT) = fun q : Str => q == n := rfl
  rw [this]
  cases h : seen.find? fun q => q == n with
  | none =>
    have : n ∉ seen := fun hn => by
      have := List.find?_eq_none.mp h n hn
      simp at this
    simp [this]
  | some m =>
    have h1 := List.find?_some h
    have h2 := List.mem_of_find?_eq_some h
    have : m = n := by simpa using h1
    subst this
    simp [h2]
theorem kput_T {seen : List Str} {n : Str} (h : n ∉ seen) : kput (seen.map eT) (.str n) (.bool true) = (seen ++ [n]).map eT := by
  unfold kput
  rw [if_neg (by rw [kfind_T]; simpa using h), List.map_append]; rfl
theorem w_last {w : List Str} (h : w ≠ []) : dIx (eW w) (.int (-1)) = some (.str (lastW w)) := by
  rcases List.eq_nil_or_concat w with e | ⟨a, x, e⟩
  · exact absurd e h
  · rw [List.concat_eq_append] at e
    subst e
    rw [lastW_snoc]
    have h1 : (1 : Int) ≤ ↑a.length + 1 := by omega
    have h2 : (-1 + ((a.length : Int) + 1)).toNat = a.length := by omega
    have h3 : (a.map PyData.str ++ [PyData.str x])[a.length]? = some (.str x) := by
      rw [List.getElem?_append_right (by simp)]; simp
    simp [eW, dIx, atI, ixN, h1, h2, h3]
section
variable {gs : List Gd} {bk : List Rcp} {DA MA : Nat} {rk : Str → Nat}
/-- the names that a name uses -/
def usB (bk : List Rcp) (n : Str) : List Str := match rfind bk n with
  | some r => usedR bk r
  | none => []
def hitB (bk : List Rcp) (g n : Str) : Bool := match rfind bk n with
  | some r => (usesOf r).any fun q => q.1 == g
  | none => false
theorem has_nm {bk : List Rcp} {n : Str} (h : n ∈ bk.map (·.nm)) : ∃ r, rfind bk n = some r ∧ r ∈ bk ∧ r.nm = n := by
  cases q : rfind bk n with
  | none =>
    obtain ⟨r, h1, h2⟩ := List.mem_map.mp h
    have := List.find?_eq_none.mp q r h1
    rw [h2] at this
    simp at this
  | some r => exact ⟨r, rfl, List.mem_of_find?_eq_some q, by have := List.find?_some q; simpa using this⟩
theorem usB_mem {n m : Str} (h : m ∈ usB bk n) : ∃ r, rfind bk n = some r ∧ m ∈ (usesOf r).map (·.1) ∧ m ∈ bk.map (·.nm) := by
  unfold usB at h
  cases q : rfind bk n with
  | none => rw [q] at h; cases h
  | some r =>
    rw [q] at h
    have := (keysB_spec bk (usesOf r)).2.1 m
    have hm : m ∈ keysB bk (usesOf r) := (srtS_perm _).mem_iff.mp h
    exact ⟨r, rfl, this.mp hm⟩
theorem usB_rise (n : Str) : RiseS (usB bk n) := by
  unfold usB
  cases rfind bk n with
  | none => exact .nil
  | some r => exact rise_strs (keysB_spec bk (usesOf r)).1
theorem usB_rk (B : BkO gs DA MA rk bk) (n m : Str) (h : m ∈ usB bk n) : rk m < rk n := by
  obtain ⟨r, h1, h2, h3⟩ := usB_mem h
  have hr := List.mem_of_find?_eq_some h1
  have hn : r.nm = n := by have := List.find?_some h1; simpa using this
  obtain ⟨q, hq, rfl⟩ := List.mem_map.mp h2
  obtain ⟨r', hr', e⟩ := List.mem_map.mp h3
  rcases B.un r hr q hq with z | ⟨r2, h4, h5, h6⟩
  · exact absurd (e ▸ z) (B.ng r' hr')
  · rw [← hn]; exact h6
theorem usB_len (B : BkO gs DA MA rk bk) (n : Str) : (usB bk n).length ≤ 12 := by
  unfold usB
  cases q : rfind bk n with
  | none => simp
  | some r =>
    have := (keysB_spec bk (usesOf r)).2.2
    have h2 := B.ul r (List.mem_of_find?_eq_some q)
    show (srtS (keysB bk (usesOf r))).length ≤ 12
    rw [(srtS_perm _).length_eq]; omega
theorem t_used (B : BkO gs DA MA rk bk) {n : Str} (h : n ∈ bk.map (·.nm)) : m_used_recipes [.dat (.tuple (bk.map eRc)), .dat (.str n)] [] = .ok (.dat (.list ((usB bk n).map .str))) [] := by
  obtain ⟨r, h1, h2, h3⟩ := has_nm h
  have := t_used_recipes (bk := bk) h1 (by have := B.len; omega) (fun s hs => by have := B.sul r h2 s hs; omega) (by have := B.sl r h2; omega) (by have := B.ul r h2; omega)
  unfold usB
  rw [h1]
  exact this
theorem way_names {d : Str} (hd : d ∈ bk.map (·.nm)) {w : List Str} (h : Way (usB bk) d w) : lastW w ∈ bk.map (·.nm) := by
  cases h with
  | base => simpa [lastW] using hd
  | @step w n hw hn => rw [lastW_snoc]; exact (usB_mem hn).choose_spec.2.2
abbrev frW (g b d z ly : AV) (v6 v7 v8 : Option AV) (cs : List Cell) : Fr := ⟨[some g, some b, some d, some z, some ly, some (.cel 0), v6, v7, v8, none], cs, 0⟩
theorem t_hit (B : BkO gs DA MA rk bk) {g d ly : AV} {z : Str} {w : List Str} (hw : w ≠ []) (hn : lastW w ∈ bk.map (·.nm)) {cs : List Cell} {v8 : Option AV} (h8 : v8 = none) :
    b_way_to_l1 (frW g (.dat (.tuple (bk.map eRc))) d (.dat (.str z)) ly (some (.dat (eW w))) none v8 cs) = if hitB bk z (lastW w) = true then .ret (.dat (eW w)) (frW g (.dat (.tuple (bk.map eRc))) d (.dat (.str z)) ly (some (.dat (eW w))) none v8 cs) else .nx (frW g (.dat (.tuple (bk.map eRc))) d (.dat (.str z)) ly (some (.dat (eW w))) none v8 cs) := by
  subst h8
  obtain ⟨r, h1, h2, h3⟩ := has_nm hn
  have e1 := t_recipe_of bk (lastW w)
  rw [h1] at e1
  have e2 := B.uses h2
  have ec := xComp_typed (own := [8, 9]) (g := tNames [8, 9]) (t := xYes) (f := b_way_to_e1) (e := xItems (xCall m_uses_of (xCons (xCall m_recipe_of (xCons (xVar 1) (xCons (xIx (xVar 6) (xOp1 dNeg (xC (.int 1)))) (xNil)))) (xNil)))) (fr := frW g (.dat (.tuple (bk.map eRc))) d (.dat (.str z)) ly (some (.dat (eW w))) none none cs) eN (fun _ => true) (fun q => .bool (q.1 == z)) (fun q => ⟨[some g, some (.dat (.tuple (bk.map eRc))), some d, some (.dat (.str z)), some ly, some (.cel 0), some (.dat (eW w)), none, some (.dat (.str q.1)), some (.dat (eR q.2))], cs, 0⟩) (usesOf r)
    (by simp [dNeg, w_last hw, e1, e2]) (by have := B.ul r h2; omega) (fun _ _ => rfl) (fun _ => rfl) (fun _ _ => rfl) (fun q _ _ => by simp [b_way_to_e1, dEq, eqOk_str, eqv_str])
  rw [List.filter_eq_self.mpr (fun _ _ => rfl)] at ec
  have hh : hitB bk z (lastW w) = (usesOf r).any fun q => q.1 == z := by unfold hitB; rw [h1]
  rw [hh]
  have eb := boolsD_map (fun q : Str × Rat => q.1 == z) (usesOf r)
  unfold frW at ec
  simp only [xIx] at ec
  unfold b_way_to_l1 frW
  simp [ec, dAny, eb, Function.comp_def]
theorem expN_seen {row : List Str} {S : List Str × List (List Str)} {n : Str} (h : S.1.Nodup) : (expN row S n).1.Nodup := by
  unfold expN
  split
  · exact h
  · rename_i hn
    rw [List.nodup_append]
    exact ⟨h, by simp, fun a ha b hb => by cases List.mem_singleton.mp hb; exact fun e => hn (e ▸ ha)⟩
/-- what holds while the search goes on -/
structure SeenO (nms : List Str) (S : List Str × List (List Str)) : Prop where
  nd : S.1.Nodup
  sub : ∀ n ∈ S.1, n ∈ nms
  len : S.2.length ≤ S.1.length
theorem SeenO.step {nms : List Str} {S : List Str × List (List Str)} {row : List Str} {n : Str} (h : SeenO nms S) (hn : n ∈ nms) : SeenO nms (expN row S n) := by
  unfold expN
  by_cases hs : n ∈ S.1
  · rw [if_pos hs]; exact h
  · rw [if_neg hs]
    refine ⟨?_, fun m hm => ?_, by have := h.len; simp; omega⟩
    · rw [List.nodup_append]
      exact ⟨h.nd, by simp, fun a ha b hb => by cases List.mem_singleton.mp hb; exact fun e => hs (e ▸ ha)⟩
    · rcases List.mem_append.mp hm with z | z
      · exact h.sub m z
      · cases List.mem_singleton.mp z; exact hn
theorem SeenO.fold {nms : List Str} {row : List Str} {ns : List Str} {S : List Str × List (List Str)} (h : SeenO nms S) (hn : ∀ n ∈ ns, n ∈ nms) : SeenO nms (ns.foldl (expN row) S) := by
  induction ns generalizing S with
  | nil => exact h
  | cons n ns ih => exact ih (h.step (hn n (List.mem_cons_self ..))) fun m hm => hn m (List.mem_cons_of_mem _ hm)
theorem usB_sub {n m : Str} (h : m ∈ usB bk n) : m ∈ bk.map (·.nm) := (usB_mem h).choose_spec.2.2
theorem SeenO.foldL {rows : List (List Str)} {S : List Str × List (List Str)} (h : SeenO (bk.map (·.nm)) S) : SeenO (bk.map (·.nm)) (expL (usB bk) S rows) := by
  induction rows generalizing S with
  | nil => exact h
  | cons r rows ih => exact ih (h.fold fun n hn => usB_sub hn)
theorem t_rows (B : BkO gs DA MA rk bk) {g d z ly : AV} {w : List Str} {S : List Str × List (List Str)} (hS : SeenO (bk.map (·.nm)) S) (hw : w ≠ []) (hwl : w.length ≤ 100) (hn : lastW w ∈ bk.map (·.nm)) :
    ∃ v8, b_way_to_l3 (frW g (.dat (.tuple (bk.map eRc))) d z ly (some (.dat (eW w))) (some (.cel 1)) none [.dct false (S.1.map eT), .lst (S.2.map eW)]) = .nx (frW g (.dat (.tuple (bk.map eRc))) d z ly (some (.dat (eW w))) (some (.cel 1)) v8 [.dct false ((expR (usB bk) S w).1.map eT), .lst ((expR (usB bk) S w).2.map eW)])   := by
  have eu := t_used B hn
  have hlast := w_last hw
  have key := forA_typed (g := tName 8) (b := b_way_to_l2) PyData.str (fun done fr => ∃ v8, fr = frW g (.dat (.tuple (bk.map eRc))) d z ly (some (.dat (eW w))) (some (.cel 1)) v8 [.dct false ((done.foldl (expN w) S).1.map eT), .lst ((done.foldl (expN w) S).2.map eW)]) (usB bk (lastW w)) (frW g (.dat (.tuple (bk.map eRc))) d z ly (some (.dat (eW w))) (some (.cel 1)) none [.dct false (S.1.map eT), .lst (S.2.map eW)]) ⟨none, rfl⟩ ?_
  · obtain ⟨fr', e, v8, rfl⟩ := key
    refine ⟨v8, ?_⟩
    unfold frW at e
    unfold b_way_to_l3 frW expR
    simp [dNeg, hlast, eu, e]
  · rintro done n rest fr he ⟨v8, rfl⟩
    have hsub : ∀ m ∈ done ++ [n], m ∈ bk.map (·.nm) := fun m hm => usB_sub (n := lastW w) (by
      rw [he]
      rcases List.mem_append.mp hm with q | q
      · exact List.mem_append_left _ q
      · exact List.mem_append_right _ (by cases List.mem_singleton.mp q; exact List.mem_cons_self ..))
    have h1 := hS.fold (row := w) (ns := done) fun m hm => hsub m (List.mem_append_left _ hm)
    rw [List.foldl_append]
    generalize done.foldl (expN w) S = T at *
    have l1 := nodup_sub h1.nd h1.sub
    rw [List.length_map] at l1
    have l2 := B.len
    have l3 := h1.len
    refine ⟨_, _, rfl, .inl ?_, some (.dat (.str n)), rfl⟩
    show b_way_to_l2 _ = _
    have kf := kfind_T T.1 n
    by_cases hs : n ∈ T.1
    · have e1 : expN w T n = T := by unfold expN; rw [if_pos hs]
      rw [decide_eq_true hs] at kf
      simp only [List.foldl_cons, List.foldl_nil, e1]
      unfold b_way_to_l2 frW
      simp [kOk, kf]
    · have e1 : expN w T n = (T.1 ++ [n], T.2 ++ [w ++ [n]]) := by unfold expN; rw [if_neg hs]
      rw [decide_eq_false hs] at kf
      have kp := kput_T hs
      rw [List.map_append] at kp
      have c1 : T.1.length < 1000000 := by omega
      have c2 : T.2.length < 1000000 := by omega
      have c3 : w.length + 1 ≤ 1000000 := by omega
      simp only [List.foldl_cons, List.foldl_nil, e1]
      unfold b_way_to_l2 frW
      simp [kOk, kf, kp, c1, c2, c3, eW, dAdd]
end
end G
/-! OG: way_to is the search; the ways by hand. -/
namespace G
open PySem PySem.Spec PyProof.Rows L2
open PySem.W (dataLt dataLe alike keyToks)
theorem eqv_nil {α : Type} (e : α → PyData) (xs : List α) : PyData.eqv (.list (xs.map e)) (.list []) = decide (xs = []) := by
  cases xs <;> simp [PyData.eqv, PyData.eqvAll]
theorem eqOk_nil (x : PyData) : eqOk x (.list []) = true := by
  unfold eqOk; exact decide_eq_true (by simp [PyData.depth, PyData.depthAll]; omega)
section
variable {gs : List Gd} {bk : List Rcp} {DA MA : Nat} {rk : Str → Nat}
theorem t_bfs (B : BkO gs DA MA rk bk) {gd : PyData} {d z : Str} {L : Nat} (hd : d ∈ bk.map (·.nm)) (hL : ∀ w, Way (usB bk) d w → w.length ≤ L) (hL2 : L ≤ 50) : ∀ (k : Nat) (Done layer : List (List Str)) (seen : List Str) (j : Nat) (v6 v7 v8 : Option AV) (cs : List Cell),
    BI (usB bk) d (hitB bk z) Done layer seen j → SeenO (bk.map (·.nm)) (seen, layer) → j ≤ L → L < k + j →
    ∃ fr', whA b_way_to_t1 b_way_to_l4 k (frW (.dat gd) (.dat (.tuple (bk.map eRc))) (.dat (.str d)) (.dat (.str z)) (.dat (.list (layer.map eW))) v6 v7 v8 (.dct false (seen.map eT) :: cs)) = (match bfs (usB bk) (hitB bk z) k seen layer with | some r => .ret (.dat (eW r)) fr' | none => .nx fr') ∧ fr'.base = 0 := by
  intro k
  induction k with
  | zero => intro Done layer seen j v6 v7 v8 cs B2 hS h1 h2; omega
  | succ k ih =>
    intro Done layer seen j v6 v7 v8 cs B2 hS h1 h2
    have etest : b_way_to_t1 (frW (.dat gd) (.dat (.tuple (bk.map eRc))) (.dat (.str d)) (.dat (.str z)) (.dat (.list (layer.map eW))) v6 v7 v8 (.dct false (seen.map eT) :: cs)) = .ok (decide (layer ≠ [])) (frW (.dat gd) (.dat (.tuple (bk.map eRc))) (.dat (.str d)) (.dat (.str z)) (.dat (.list (layer.map eW))) v6 v7 v8 (.dct false (seen.map eT) :: cs)) := by
      unfold b_way_to_t1 frW
      simp [dNe, eqOk_nil, eqv_nil]
    unfold whA
    rw [etest]
    simp only [Res.toS]
    unfold bfs
    by_cases hl : layer = []
    · rw [if_neg (by simp [hl]), if_pos hl]
      exact ⟨_, rfl, rfl⟩
    · rw [if_pos (by simp [hl]), if_neg hl]
      obtain ⟨r0, hr0⟩ := List.exists_mem_of_ne_nil _ hl
      have hj : j + 1 ≤ L := by
        have := hL r0 (B2.way r0 hr0).1
        have := (B2.way r0 hr0).2
        omega
      have hrow : ∀ r ∈ layer, r ≠ [] ∧ r.length ≤ 100 ∧ lastW r ∈ bk.map (·.nm) := fun r hr => by
        obtain ⟨w1, w2⟩ := B2.way r hr
        exact ⟨w1.pos, by omega, way_names hd w1⟩
      have hbk : (frW (.dat gd) (.dat (.tuple (bk.map eRc))) (.dat (.str d)) (.dat (.str z)) (.dat (.list (layer.map eW))) none none none [.dct false (seen.map eT)]) = frW (.dat gd) (.dat (.tuple (bk.map eRc))) (.dat (.str d)) (.dat (.str z)) (.dat (.list (layer.map eW))) none none none [.dct false (seen.map eT)] := rfl
      obtain ⟨f1, f2⟩ := forA_first (g := tName 6) (b := b_way_to_l1) eW (fun r => hitB bk z (lastW r)) (fun r a fr => a = .dat (eW r) ∧ fr.base = 0) (fun fr => ∃ v6, fr = frW (.dat gd) (.dat (.tuple (bk.map eRc))) (.dat (.str d)) (.dat (.str z)) (.dat (.list (layer.map eW))) v6 none none [.dct false (seen.map eT)]) layer (frW (.dat gd) (.dat (.tuple (bk.map eRc))) (.dat (.str d)) (.dat (.str z)) (.dat (.list (layer.map eW))) none none none [.dct false (seen.map eT)]) ⟨none, rfl⟩ fun r hr fr ⟨v6, e⟩ => by
        subst e
        obtain ⟨g1, g2, g3⟩ := hrow r hr
        have hh := t_hit B (g := .dat gd) (d := .dat (.str d)) (ly := .dat (.list (layer.map eW))) (z := z) g1 g3 (cs := [.dct false (seen.map eT)]) (v8 := none) rfl
        refine ⟨_, rfl, fun hp => ⟨.dat (eW r), _, hh.trans (if_pos hp), rfl, rfl⟩, fun hp => ⟨_, .inl (hh.trans (if_neg (by rw [hp]; decide))), _, rfl⟩⟩
      cases hf : layer.find? fun r => hitB bk z (lastW r) with
      | some r =>
        obtain ⟨a, fr', e, rfl, hb⟩ := f1 r hf
        refine ⟨fr', ?_, hb⟩
        have eb : b_way_to_l4 (frW (.dat gd) (.dat (.tuple (bk.map eRc))) (.dat (.str d)) (.dat (.str z)) (.dat (.list (layer.map eW))) v6 v7 v8 (.dct false (seen.map eT) :: cs)) = .ret (.dat (eW r)) fr' := by
          unfold frW at e
          unfold b_way_to_l4 frW
          simp [e]
        rw [eb]
      | none =>
        obtain ⟨fr', e, v6', rfl⟩ := f2 hf
        have hno : ∀ r ∈ layer, hitB bk z (lastW r) = false := fun r hr => by
          have := List.find?_eq_none.mp hf r hr
          simpa using this
        have hS0 : SeenO (bk.map (·.nm)) (seen, []) := ⟨hS.nd, hS.sub, Nat.zero_le _⟩
        have key := forA_typed (g := tName 6) (b := b_way_to_l3) eW (fun done fr => ∃ v6 v8, fr = frW (.dat gd) (.dat (.tuple (bk.map eRc))) (.dat (.str d)) (.dat (.str z)) (.dat (.list (layer.map eW))) v6 (some (.cel 1)) v8 [.dct false ((expL (usB bk) (seen, []) done).1.map eT), .lst ((expL (usB bk) (seen, []) done).2.map eW)]) layer (frW (.dat gd) (.dat (.tuple (bk.map eRc))) (.dat (.str d)) (.dat (.str z)) (.dat (.list (layer.map eW))) none (some (.cel 1)) none [.dct false (seen.map eT), .lst []]) ⟨none, none, rfl⟩ ?_
        · obtain ⟨fr2, e2, w6, w8, rfl⟩ := key
          have N := B2.next (fun n => usB_rise n) hno
          have hS2 : SeenO (bk.map (·.nm)) (expL (usB bk) (seen, []) layer) := hS0.foldL
          obtain ⟨fr3, e3, hb3⟩ := ih (Done ++ layer) (expL (usB bk) (seen, []) layer).2 (expL (usB bk) (seen, []) layer).1 (j + 1) none (some (.dat (.list ((expL (usB bk) (seen, []) layer).2.map eW)))) none [.gone] N hS2 hj (by omega)
          refine ⟨fr3, ?_, hb3⟩
          have eb : b_way_to_l4 (frW (.dat gd) (.dat (.tuple (bk.map eRc))) (.dat (.str d)) (.dat (.str z)) (.dat (.list (layer.map eW))) v6 v7 v8 (.dct false (seen.map eT) :: cs)) = .nx (frW (.dat gd) (.dat (.tuple (bk.map eRc))) (.dat (.str d)) (.dat (.str z)) (.dat (.list ((expL (usB bk) (seen, []) layer).2.map eW))) none (some (.dat (.list ((expL (usB bk) (seen, []) layer).2.map eW)))) none [.dct false ((expL (usB bk) (seen, []) layer).1.map eT), .gone]) := by
            unfold frW at e e2
            unfold b_way_to_l4 frW
            simp [e, e2]
          rw [eb]
          exact e3
        · rintro done r rest fr he ⟨w6, w8, rfl⟩
          obtain ⟨hm, _, _⟩ := take_of he
          obtain ⟨g1, g2, g3⟩ := hrow r hm
          obtain ⟨v8', e3⟩ := t_rows B (g := .dat gd) (d := .dat (.str d)) (z := .dat (.str z)) (ly := .dat (.list (layer.map eW))) (S := expL (usB bk) (seen, []) done) hS0.foldL g1 g2 g3
          refine ⟨_, _, rfl, .inl ?_, some (.dat (eW r)), v8', rfl⟩
          have : expL (usB bk) (seen, []) (done ++ [r]) = expR (usB bk) (expL (usB bk) (seen, []) done) r := by unfold expL; rw [List.foldl_append]; rfl
          rw [this, ← e3]
          rfl
theorem way_len3 (B : BkO gs DA MA rk bk) {d : Str} {w : List Str} (h : Way (usB bk) d w) : w.length ≤ rk d + 1 := by
  have := way_len (usB_rk B) h
  omega
theorem bfs_eq (B : BkO gs DA MA rk bk) {d z : Str} {k L : Nat} (hL : ∀ w, Way (usB bk) d w → w.length ≤ L) (hk : L < k) : Best (usB bk) d (hitB bk z) (bfs (usB bk) (hitB bk z) k [d] [[d]]) := bfs_best (fun n => usB_rise n) hL hk
/-- way_to's answer -/
def wayT (bk : List Rcp) (d z : Str) : Option (List Str) := bfs (usB bk) (hitB bk z) 12 [d] [[d]]
theorem t_way_to (B : BkO gs DA MA rk bk) {gd : PyData} {d z : Str} (hd : d ∈ bk.map (·.nm)) (hr : rk d ≤ 9) :
    m_way_to [.dat gd, .dat (.tuple (bk.map eRc)), .dat (.str d), .dat (.str z)] [] = .ok (.dat (match wayT bk d z with | some r => eW r | none => .none)) [] := by
  have hL : ∀ w, Way (usB bk) d w → w.length ≤ 10 := fun w h => by have := way_len3 B h; omega
  obtain ⟨fr', e, hb⟩ := t_bfs B (gd := gd) (z := z) hd hL (by decide) 12 [] [[d]] [d] 0 none none none [] ⟨rfl, fun r hr => by cases List.mem_singleton.mp hr; exact ⟨.base, rfl⟩, List.pairwise_singleton .., (fun r hr => nomatch hr), by simp, fun r hr => nomatch hr⟩ ⟨by simp, fun n hn => by cases List.mem_singleton.mp hn; exact hd, by simp⟩ (by decide) (by decide)
  unfold wayT
  have ew : ∀ b : Fr → SRes, whA b_way_to_t1 b 12 = fun fr => whA b_way_to_t1 b 12 fr := fun _ => rfl
  unfold frW at e
  have e2 : eW [d] = .list [.str d] := rfl
  simp only [List.map_cons, List.map_nil, e2, eT] at e
  unfold m_way_to b_way_to
  cases q : bfs (usB bk) (hitB bk z) 12 [d] [[d]] with
  | some r =>
    rw [q] at e
    simp [kOk, e, hb]
  | none =>
    rw [q] at e
    simp [kOk, e, hb]
theorem t_law_recipe (B : BkO gs DA MA rk bk) {n : Str} {r : Rcp} (h : rfind bk n = some r) : m__law_recipe [.dat (.tuple (bk.map eRc)), .dat (.str n)] [] = .ok (.dat (eRc r)) [] := by
  have ec := xComp_typed (own := [2]) (g := tName 2) (t := b__law_recipe_t1) (f := b__law_recipe_e1) (e := xItems (xVar 0)) (fr := ⟨[some (.dat (.tuple (bk.map eRc))), some (.dat (.str n)), none], [], 0⟩) eRc (fun r => r.nm == n) eRc (fun r => ⟨[some (.dat (.tuple (bk.map eRc))), some (.dat (.str n)), some (.dat (eRc r))], [], 0⟩) bk (by simp) (by have := B.len; omega) (fun _ _ => rfl) (fun _ => rfl) (fun r _ => by simp [b__law_recipe_t1, rc_ix0, dEq, eqOk_str, eqv_str]) (fun _ _ _ => by simp [b__law_recipe_e1])
  have eh : dIx (.list ((bk.filter fun r => r.nm == n).map eRc)) (.int 0) = some (eRc r) := by
    have : (bk.filter fun r => r.nm == n).head? = some r := by rw [List.head?_filter]; exact h
    cases q : bk.filter fun r => r.nm == n with
    | nil => rw [q] at this; cases this
    | cons a l =>
      rw [q] at this
      cases this
      simp [dIx, atI, ixN]
  unfold m__law_recipe b__law_recipe
  simp [ec, eh]
/-- the names that a name uses, one by one -/
def chB (bk : List Rcp) (n : Str) : List Str := match rfind bk n with
  | some r => ((usesOf r).map (·.1)).filter fun m => (bk.map (·.nm)).any fun x => x == m
  | none => []
theorem chB_iff {n m : Str} : m ∈ chB bk n ↔ m ∈ usB bk n := by
  unfold chB usB
  cases q : rfind bk n with
  | none => exact Iff.rfl
  | some r =>
    have := (keysB_spec bk (usesOf r)).2.1 m
    show m ∈ ((usesOf r).map (·.1)).filter _ ↔ m ∈ srtS (keysB bk (usesOf r))
    rw [(srtS_perm _).mem_iff, this, List.mem_filter]
    simp
/-- ways through some of the uses -/
def viaB (bk : List Rcp) (k : Nat) (d : Str) (qs : List (Str × Rat)) : List (List Str) := qs.flatMap fun q => if (bk.map (·.nm)).any (fun x => x == q.1) = true then (waysF (chB bk) k q.1).map (d :: ·) else []
theorem via_ways {d : Str} {r : Rcp} {k : Nat} (h : rfind bk d = some r) : waysF (chB bk) (k + 1) d = [d] :: viaB bk k d (usesOf r) := by
  unfold waysF viaB
  have : chB bk d = ((usesOf r).map (·.1)).filter fun m => (bk.map (·.nm)).any fun x => x == m := by unfold chB; rw [h]
  rw [this]
  congr 1
  induction usesOf r with
  | nil => rfl
  | cons q qs ih =>
    rw [List.map_cons, List.flatMap_cons, List.filter_cons]
    by_cases hq : (bk.map (·.nm)).any (fun x => x == q.1) = true
    · rw [if_pos hq, if_pos hq, List.flatMap_cons, ih]
    · rw [if_neg hq, if_neg hq, ih]; rfl
theorem ways_row {ch : Str → List Str} : ∀ (k : Nat) (d : Str), ∀ w ∈ waysF ch k d, w.length ≤ k
  | 0, _, _, h => by simp [waysF] at h
  | k + 1, d, w, h => by
    unfold waysF at h
    rcases List.mem_cons.mp h with rfl | h
    · simp
    · obtain ⟨n, hn, h⟩ := List.mem_flatMap.mp h
      obtain ⟨w', hw, rfl⟩ := List.mem_map.mp h
      have := ways_row k n w' hw
      simp; omega
theorem t_law_ways (B : BkO gs DA MA rk bk) {nms : List Str} (hnm : nms = bk.map (·.nm)) : ∀ (i k : Nat) (d : Str), d ∈ bk.map (·.nm) → rk d ≤ i → i ≤ 4 → i < k → k ≤ 12 → m__law_ways k [.dat (.tuple (bk.map eRc)), .dat (.str d), .dat (.list (nms.map .str))] [] = .ok (.dat (.list ((waysF (chB bk) k d).map eW))) [] ∧ (waysF (chB bk) k d).length ≤ 13 ^ (i + 1) := by
  intro i
  induction i using Nat.strongRecOn with
  | ind i ih =>
    intro k d hd hrk hi4 hk hk12
    obtain ⟨k, rfl⟩ : ∃ k', k = k' + 1 := ⟨k - 1, by omega⟩
    obtain ⟨r, hr, hrm, hrn⟩ := has_nm hd
    rw [via_ways hr]
    have e1 := t_law_recipe B hr
    have app : ∀ done (q : Str × Rat), viaB bk k d (done ++ [q]) = viaB bk k d done ++ (if nms.any (fun x => x == q.1) = true then (waysF (chB bk) k q.1).map (d :: ·) else []) := fun done q => by
      unfold viaB; rw [List.flatMap_append, hnm]; simp
    -- one use
    have one : ∀ q ∈ usesOf r, (bk.map (·.nm)).any (fun x => x == q.1) = true → m__law_ways k [.dat (.tuple (bk.map eRc)), .dat (.str q.1), .dat (.list (nms.map .str))] [] = .ok (.dat (.list ((waysF (chB bk) k q.1).map eW))) [] ∧ (waysF (chB bk) k q.1).length ≤ 13 ^ i := fun q hq ha => by
      have hm : q.1 ∈ bk.map (·.nm) := by
        obtain ⟨x, hx, e⟩ := List.any_eq_true.mp ha
        have : x = q.1 := by simpa using e
        rwa [this] at hx
      have hlt : rk q.1 < rk d := usB_rk B d q.1 (chB_iff.mp (by
        unfold chB; rw [hr]
        exact List.mem_filter.mpr ⟨List.mem_map.mpr ⟨q, hq, rfl⟩, ha⟩))
      obtain ⟨j, rfl⟩ : ∃ j, i = j + 1 := ⟨i - 1, by omega⟩
      exact ih j (by omega) k q.1 hm (by omega) (by omega) (by omega) (by omega)
    have pw : 13 ^ i ≤ 13 ^ 4 := Nat.pow_le_pow_right (by decide) hi4
    have ppos : 0 < 13 ^ i := pow_pos' (by decide)
    rw [Nat.pow_succ]
    generalize 13 ^ i = P at *
    have vl : ∀ qs : List (Str × Rat), (∀ q ∈ qs, q ∈ usesOf r) → (viaB bk k d qs).length ≤ qs.length * P := by
      intro qs
      induction qs with
      | nil => intro _; simp [viaB]
      | cons q qs ih2 =>
        intro h
        have h1 := ih2 fun x hx => h x (List.mem_cons_of_mem _ hx)
        have : viaB bk k d (q :: qs) = (if (bk.map (·.nm)).any (fun x => x == q.1) = true then (waysF (chB bk) k q.1).map (d :: ·) else []) ++ viaB bk k d qs := by unfold viaB; rw [List.flatMap_cons]
        rw [this, List.length_append, List.length_cons, Nat.succ_mul]
        split
        · rename_i ha
          have := (one q (h q (List.mem_cons_self ..)) ha).2
          simp; omega
        · simp; omega
    have hul := B.ul r hrm
    have vall := vl (usesOf r) fun _ h => h
    have vb : (viaB bk k d (usesOf r)).length ≤ 12 * P := Nat.le_trans vall (Nat.mul_le_mul_right _ hul)
    refine ⟨?_, by rw [List.length_cons]; omega⟩
    have key := forA_typed (g := tName 4) (b := b__law_ways_l2 (m__law_ways k)) eS (fun done fr => ∃ v4 v5 v6, fr = ⟨[some (.dat (.tuple (bk.map eRc))), some (.dat (.str d)), some (.dat (.list (nms.map .str))), some (.dat (.list (([d] :: viaB bk k d (done.flatMap (·.us))).map eW))), v4, v5, v6, none], [], 0⟩) r.sts ⟨[some (.dat (.tuple (bk.map eRc))), some (.dat (.str d)), some (.dat (.list (nms.map .str))), some (.dat (.list (([d] :: viaB bk k d []).map eW))), none, none, none, none], [], 0⟩ ⟨none, none, none, rfl⟩ ?_
    · obtain ⟨fr', e, v4, v5, v6, rfl⟩ := key
      have e2 : eW [d] = .list [.str d] := rfl
      have ev : viaB bk k d [] = [] := rfl
      simp only [ev, List.map_cons, List.map_nil, e2] at e
      show mkFun 8 3 (b__law_ways (m__law_ways k)) _ _ = _
      unfold b__law_ways
      simp [e1, rc_ix2, e, e2]
      rfl
    · rintro done s rest fr he ⟨v4, v50, v60, rfl⟩
      have hsub : ∀ done2 rest2, s.us = done2 ++ rest2 → (done.flatMap (·.us) ++ done2).length ≤ 12 ∧ ∀ q ∈ done.flatMap (·.us) ++ done2, q ∈ usesOf r := fun done2 rest2 h2 => by
        have : usesOf r = (done.flatMap (·.us) ++ done2) ++ (rest2 ++ rest.flatMap (·.us)) := by
          unfold usesOf; rw [he, List.flatMap_append, List.flatMap_cons, h2]; simp
        rw [this] at hul ⊢
        rw [List.length_append] at hul
        exact ⟨by omega, fun q hq => List.mem_append_left _ hq⟩
      have key := forA_typed (g := tNames [5, 6]) (b := b__law_ways_l1 (m__law_ways k)) eN (fun done2 fr => ∃ v5 v6, fr = ⟨[some (.dat (.tuple (bk.map eRc))), some (.dat (.str d)), some (.dat (.list (nms.map .str))), some (.dat (.list (([d] :: viaB bk k d (done.flatMap (·.us) ++ done2)).map eW))), some (.dat (eS s)), v5, v6, none], [], 0⟩) s.us ⟨[some (.dat (.tuple (bk.map eRc))), some (.dat (.str d)), some (.dat (.list (nms.map .str))), some (.dat (.list (([d] :: viaB bk k d (done.flatMap (·.us))).map eW))), some (.dat (eS s)), none, none, none], [], 0⟩ ⟨none, none, by rw [List.append_nil]⟩ ?_
      · obtain ⟨fr', e, v5, v6, rfl⟩ := key
        refine ⟨_, _, rfl, .inl ?_, some (.dat (eS s)), v5, v6, rfl⟩
        have : (done ++ [s]).flatMap (·.us) = done.flatMap (·.us) ++ s.us := by rw [List.flatMap_append]; simp
        rw [this]
        unfold b__law_ways_l2
        simp at e
        simp [st_ix5, e]
      · rintro done2 q rest2 fr h2 ⟨v5, v6, rfl⟩
        have hq : q ∈ usesOf r := (hsub (done2 ++ [q]) rest2 (by rw [h2]; simp)).2 q (by simp)
        obtain ⟨l1, l2⟩ := hsub done2 (q :: rest2) h2
        have vb1 := vl _ l2
        have vb2 := Nat.mul_le_mul_right P l1
        have ei := in_strs (xs := nms) (z := q.1)
        refine ⟨_, _, rfl, .inl ?_, some (.dat (.str q.1)), none, rfl⟩
        rw [← List.append_assoc, app]
        generalize viaB bk k d (done.flatMap (·.us) ++ done2) = V at *
        by_cases ha : nms.any (fun x => x == q.1) = true
        · rw [if_pos ha]
          rw [ha] at ei
          obtain ⟨o1, o2⟩ := one q hq (by rw [← hnm]; exact ha)
          have ec := xComp_typed (own := [7]) (g := tName 7) (t := xYes) (f := b__law_ways_e1 (m__law_ways k)) (e := xItems (xCall (m__law_ways k) (xCons (xVar 0) (xCons (xVar 5) (xCons (xVar 2) (xNil)))))) (fr := ⟨[some (.dat (.tuple (bk.map eRc))), some (.dat (.str d)), some (.dat (.list (nms.map .str))), some (.dat (.list (([d] :: V).map eW))), some (.dat (eS s)), some (.dat (.str q.1)), none, none], [], 0⟩) eW (fun _ => true) (fun w => eW (d :: w)) (fun w => ⟨[some (.dat (.tuple (bk.map eRc))), some (.dat (.str d)), some (.dat (.list (nms.map .str))), some (.dat (.list (([d] :: V).map eW))), some (.dat (eS s)), some (.dat (.str q.1)), none, some (.dat (eW w))], [], 0⟩) (waysF (chB bk) k q.1) (by simp [o1]) (by omega) (fun _ _ => rfl) (fun _ => rfl) (fun _ _ => rfl) (fun w hw _ => by
            have := ways_row k q.1 w hw
            have h3 : 1 + w.length ≤ 1000000 := by omega
            simp [b__law_ways_e1, dAdd, eW, h3])
          rw [List.filter_eq_self.mpr (fun _ _ => rfl)] at ec
          have h4 : V.length + 1 + (waysF (chB bk) k q.1).length ≤ 1000000 := by omega
          unfold b__law_ways_l1
          simp at ec
          simp [ei, ec, dAdd, h4, Function.comp_def]
        · rw [if_neg ha, List.append_nil]
          have ha2 : nms.any (fun x => x == q.1) = false := Bool.eq_false_iff.mpr ha
          rw [ha2] at ei
          unfold b__law_ways_l1
          simp [ei]
end
end G
/-! OH: a good is needed just when a way leads to it. -/
namespace G
open PySem PySem.Spec PyProof.Rows L2
open PySem.W (dataLt dataLe alike keyToks)
section
variable {gs : List Gd} {bk : List Rcp} {DA MA : Nat} {rk : Str → Nat}
theorem sum_ne0 {xs : List Rat} (h : ∀ x ∈ xs, 0 ≤ x) : xs.sum ≠ 0 ↔ ∃ x ∈ xs, x ≠ 0 := by
  induction xs with
  | nil => simp
  | cons x xs ih =>
    have h1 := sum_nn fun y hy => h y (List.mem_cons_of_mem _ hy)
    have h2 := h x (List.mem_cons_self ..)
    have ih := ih fun y hy => h y (List.mem_cons_of_mem _ hy)
    rw [List.sum_cons]
    constructor
    · intro hne
      by_cases hx : x = 0
      · subst hx
        obtain ⟨y, hy, z⟩ := ih.mp (by intro e; apply hne; rw [e]; grind)
        exact ⟨y, List.mem_cons_of_mem _ hy, z⟩
      · exact ⟨x, List.mem_cons_self .., hx⟩
    · rintro ⟨y, hy, z⟩ e
      rcases List.mem_cons.mp hy with rfl | hy
      · grind
      · exact ih.mpr ⟨y, hy, z⟩ (by grind)
theorem mul_ne0 {a b : Rat} (ha : 0 < a) : a * b ≠ 0 ↔ b ≠ 0 := by
  constructor
  · intro h e; subst e; exact h (by grind)
  · intro h e
    rcases Rat.mul_eq_zero.mp e with z | z
    · grind
    · exact h z
theorem nd_way (B : BkO gs DA MA rk bk) {g : Str} (hg : HasG gs g) : ∀ (k : Nat) (d : Str), d ∈ bk.map (·.nm) → (ndF gs bk k d g ≠ 0 ↔ ∃ w ∈ waysF (chB bk) k d, hitB bk g (lastW w) = true)
  | 0, d, _ => by simp [ndF, waysF]
  | k + 1, d, hd => by
    obtain ⟨r, hr, hrm, hrn⟩ := has_nm hd
    have e1 : ndF gs bk (k + 1) d g = ((usesOf r).map (ndT gs (ndF gs bk k) r.por g)).sum := by rw [ndF, hr]
    rw [e1, sum_ne0 fun x hx => by
      obtain ⟨q, hq, rfl⟩ := List.mem_map.mp hx
      exact ndT_nn B (ndF_nn B k) hrm hq g, via_ways hr]
    have hh : hitB bk g d = (usesOf r).any fun q => q.1 == g := by unfold hitB; rw [hr]
    have one : ∀ q ∈ usesOf r, ndT gs (ndF gs bk k) r.por g q ≠ 0 ↔ (q.1 = g ∨ ∃ w ∈ (if (bk.map (·.nm)).any (fun x => x == q.1) = true then (waysF (chB bk) k q.1).map (d :: ·) else []), hitB bk g (lastW w) = true) := fun q hq => by
      have h1 := (B.u0 r hrm q hq).1
      have h2 := (inv_frb (B.por r hrm).1 (B.por r hrm).2).2
      unfold ndT
      rw [mul_ne0 (Rat.mul_pos h1 h2)]
      by_cases hq1 : isG gs q.1 = true
      · rw [if_pos hq1]
        have hno : ¬ (bk.map (·.nm)).any (fun x => x == q.1) = true := fun h => by
          obtain ⟨x, hx, e⟩ := List.any_eq_true.mp h
          obtain ⟨r', h1, h2⟩ := List.mem_map.mp hx
          have : x = q.1 := by simpa using e
          exact B.ng r' h1 (by rw [h2, this]; exact isG_iff.mp hq1)
        rw [if_neg hno]
        by_cases e : q.1 = g
        · rw [if_pos e]; simp [e]
        · rw [if_neg e]; simp [e]
      · rw [if_neg hq1]
        have hne : q.1 ≠ g := fun e => hq1 (isG_iff.mpr (by rw [e]; exact hg))
        obtain ⟨r', h3, h4, _⟩ := (B.un r hrm q hq).resolve_left fun z => hq1 (isG_iff.mpr z)
        have hm : q.1 ∈ bk.map (·.nm) := List.mem_map.mpr ⟨r', h3, h4⟩
        have ha : (bk.map (·.nm)).any (fun x => x == q.1) = true := List.any_eq_true.mpr ⟨q.1, hm, by simp⟩
        rw [if_pos ha, nd_way B hg k q.1 hm]
        constructor
        · rintro ⟨w, hw, z⟩
          have hp : w ≠ [] := (ways_way (us := chB bk) (fun _ _ h => h) hw).pos
          have : lastW (d :: w) = lastW w := by
            unfold lastW
            rw [List.getLast?_cons_of_ne_nil hp]
          exact .inr ⟨d :: w, List.mem_map.mpr ⟨w, hw, rfl⟩, by rw [this]; exact z⟩
        · rintro (e | ⟨w', hw', z⟩)
          · exact absurd e hne
          · obtain ⟨w, hw, rfl⟩ := List.mem_map.mp hw'
            have hp : w ≠ [] := (ways_way (us := chB bk) (fun _ _ h => h) hw).pos
            have : lastW (d :: w) = lastW w := by
              unfold lastW
              rw [List.getLast?_cons_of_ne_nil hp]
            exact ⟨w, hw, by rw [← this]; exact z⟩
    constructor
    · rintro ⟨x, hx, z⟩
      obtain ⟨q, hq, rfl⟩ := List.mem_map.mp hx
      rcases (one q hq).mp z with e | ⟨w, hw, z⟩
      · refine ⟨[d], List.mem_cons_self .., ?_⟩
        show hitB bk g d = true
        rw [hh]
        exact List.any_eq_true.mpr ⟨q, hq, by simp [e]⟩
      · exact ⟨w, List.mem_cons_of_mem _ (List.mem_flatMap.mpr ⟨q, hq, hw⟩), z⟩
    · rintro ⟨w, hw, z⟩
      rcases List.mem_cons.mp hw with rfl | hw
      · have z : hitB bk g d = true := z
        rw [hh] at z
        obtain ⟨q, hq, e⟩ := List.any_eq_true.mp z
        exact ⟨_, List.mem_map.mpr ⟨q, hq, rfl⟩, (one q hq).mpr (.inl (by simpa using e))⟩
      · obtain ⟨q, hq, hw⟩ := List.mem_flatMap.mp hw
        exact ⟨_, List.mem_map.mpr ⟨q, hq, rfl⟩, (one q hq).mpr (.inr ⟨w, hw, z⟩)⟩
theorem ways_iff (B : BkO gs DA MA rk bk) {d : Str} {k : Nat} (hk : rk d < k) (w : List Str) : w ∈ waysF (chB bk) k d ↔ Way (usB bk) d w := by
  constructor
  · exact fun h => ways_way (fun n m h => chB_iff.mp h) h
  · intro h
    have := way_len3 B h
    exact way_ways (fun n m h => chB_iff.mpr h) h (by omega)
theorem way_best (B : BkO gs DA MA rk bk) {d : Str} (hd : rk d ≤ 9) (z : Str) : Best (usB bk) d (hitB bk z) (wayT bk d z) :=
  bfs_eq B (L := 10) (fun w h => by have := way_len3 B h; omega) (by decide)
/-- way_to finds a way just when the good is needed -/
theorem way_need (B : BkO gs DA MA rk bk) {d z : Str} (hd : d ∈ bk.map (·.nm)) (hr : rk d ≤ 3) (hg : HasG gs z) : (wayT bk d z).isSome = decide (ndOf gs bk d z ≠ 0) := by
  have h1 := nd_way B hg 4 d hd
  have h2 := way_best B (d := d) (by omega) z
  cases q : wayT bk d z with
  | none =>
    rw [q] at h2
    symm
    refine decide_eq_false fun hn => ?_
    obtain ⟨w, hw, e⟩ := h1.mp hn
    rw [h2 w ((ways_iff B (by omega) w).mp hw)] at e
    cases e
  | some r =>
    rw [q] at h2
    symm
    exact decide_eq_true (h1.mpr ⟨r, (ways_iff B (by omega) r).mpr h2.1, h2.2.1⟩)
/-- of a name that nothing uses -/
theorem way_none (B : BkO gs DA MA rk bk) {d z : Str} (hr : rk d ≤ 3) (hz : ∀ r ∈ bk, ∀ q ∈ usesOf r, q.1 ≠ z) : wayT bk d z = none := by
  have h2 := way_best B (d := d) (by omega) z
  cases q : wayT bk d z with
  | none => rfl
  | some r =>
    rw [q] at h2
    have := h2.2.1
    unfold hitB at this
    cases e : rfind bk (lastW r) with
    | none => rw [e] at this; cases this
    | some r' =>
      rw [e] at this
      obtain ⟨u, hu, e2⟩ := List.any_eq_true.mp this
      exact absurd (by simpa using e2) (hz r' (List.mem_of_find?_eq_some e) u hu)
end
end G
/-! QA: jobs: used, step_of. -/
namespace G
open PySem PySem.Spec PyProof.Rows L2
open PySem.W (dataLt dataLe alike keyToks)
def b_step_of_l1 : Fr → SRes :=
  sIf (xB (xOp2 dEq (xIx (xVar 2) (xC (.int 0))) (xIx (xVar 1) (xC (.int 1))))) (sRet (xVar 2)) (sNx)
def b_step_of : Fr → SRes :=
  sSeq (sFor (xItems (xIx (xCall m_recipe_of (xCons (xVar 0) (xCons (xIx (xVar 1) (xC (.int 0))) (xNil)))) (xC (.int 2)))) (tName 2) (b_step_of_l1))
  (sKill [2] (sRet (xC .none)))
def m_step_of : AFun := mkFun 3 2 b_step_of

def b_ends_e1 : Fr → Res AV :=
  xOp2 dIn (xIx (xVar 3) (xC (.int 0))) (xIx (xVar 4) (xC (.int 6)))
def b_ends_t1 : Fr → Res Bool :=
  xNot (xB (xB1 dAny (xCons (xComp [4] (xItems (xVar 2)) (tName 4) (xYes) (b_ends_e1)) (xNil))))
def b_ends_e2 : Fr → Res AV :=
  xIx (xVar 3) (xC (.int 0))
def b_ends : Fr → SRes :=
  sSeq (sSet 2 (xIx (xCall m_recipe_of (xCons (xVar 0) (xCons (xVar 1) (xNil)))) (xC (.int 2))))
  (sRet (xComp [3] (xItems (xVar 2)) (tName 3) (b_ends_t1) (b_ends_e2)))
def m_ends : AFun := mkFun 5 2 b_ends

def b__law_used_e1 : Fr → Res AV :=
  xIx (xVar 7) (xC (.int 0))
def b__law_used_l1 : Fr → SRes :=
  sKill [6] (sIf (xB (xOp2 dIn (xVar 5) (xVar 2))) (sDSet 3 (xVar 5) (xC (.bool true))) (sNx))
def b__law_used_l2 : Fr → SRes :=
  sKill [5, 6] (sFor (xItems (xIx (xVar 4) (xC (.int 5)))) (tNames [5, 6]) (b__law_used_l1))
def b__law_used : Fr → SRes :=
  sSeq (sSet 2 (xComp [7] (xItems (xVar 0)) (tName 7) (xYes) (b__law_used_e1)))
  (sSeq (sSet 3 (xNewD false))
  (sSeq (sFor (xItems (xIx (xCall m__law_recipe (xCons (xVar 0) (xCons (xVar 1) (xNil)))) (xC (.int 2)))) (tName 4) (b__law_used_l2))
  (sKill [4, 5, 6] (sRet (xD1 dSortedK (xVar 3))))))
def m__law_used : AFun := mkFun 8 2 b__law_used

def b__law_step_of_t1 : Fr → Res Bool :=
  xB (xOp2 dEq (xIx (xVar 2) (xC (.int 0))) (xIx (xVar 1) (xC (.int 1))))
def b__law_step_of_e1 : Fr → Res AV :=
  xVar 2
def b__law_step_of : Fr → SRes :=
  sRet (xIx (xComp [2] (xItems (xIx (xCall m__law_recipe (xCons (xVar 0) (xCons (xIx (xVar 1) (xC (.int 0))) (xNil)))) (xC (.int 2)))) (tName 2) (b__law_step_of_t1) (b__law_step_of_e1)) (xC (.int 0)))
def m__law_step_of : AFun := mkFun 3 2 b__law_step_of

/-- a job: a dish, a word -/
def eJ (j : Str × Str) : PyData := .tuple [.str j.1, .str j.2]
theorem j_ix0 (j : Str × Str) : dIx (eJ j) (.int 0) = some (.str j.1) := rfl
theorem j_ix1 (j : Str × Str) : dIx (eJ j) (.int 1) = some (.str j.2) := rfl
def stepsB (bk : List Rcp) (d : Str) : List Stp := match rfind bk d with
  | some r => r.sts
  | none => []
def sfind (bk : List Rcp) (j : Str × Str) : Option Stp := (stepsB bk j.1).find? fun s => s.w == j.2
section
variable {gs : List Gd} {bk : List Rcp} {DA MA : Nat} {rk : Str → Nat}
theorem steps_eq {d : Str} {r : Rcp} (h : rfind bk d = some r) : stepsB bk d = r.sts := by unfold stepsB; rw [h]
theorem steps_len (B : BkO gs DA MA rk bk) (d : Str) : (stepsB bk d).length ≤ 6 := by
  unfold stepsB
  cases h : rfind bk d with
  | none => simp
  | some r => exact B.sl r (List.mem_of_find?_eq_some h)
theorem t_step_of (B : BkO gs DA MA rk bk) {j : Str × Str} (hd : j.1 ∈ bk.map (·.nm)) : m_step_of [.dat (.tuple (bk.map eRc)), .dat (eJ j)] [] = .ok (.dat (match sfind bk j with | some s => eS s | none => .none)) [] := by
  obtain ⟨r, hr, _, _⟩ := has_nm hd
  have e1 := t_recipe_of bk j.1
  rw [hr] at e1
  change _ = CRes.ok (.dat (eRc r)) [] at e1
  have hs : sfind bk j = r.sts.find? fun s => s.w == j.2 := by unfold sfind; rw [steps_eq hr]
  obtain ⟨h1, h2⟩ := forA_first (g := tName 2) (b := b_step_of_l1) eS (fun s : Stp => s.w == j.2) (fun s a f => a = .dat (eS s) ∧ f.base = 0) (fun fr => ∃ v, fr = ⟨[some (.dat (.tuple (bk.map eRc))), some (.dat (eJ j)), v], [], 0⟩) r.sts ⟨[some (.dat (.tuple (bk.map eRc))), some (.dat (eJ j)), none], [], 0⟩ ⟨none, rfl⟩ fun s hs fr ⟨v, e⟩ => by
    subst e
    have j1 := j_ix1 j
    have hb : b_step_of_l1 ⟨[some (.dat (.tuple (bk.map eRc))), some (.dat (eJ j)), some (.dat (eS s))], [], 0⟩ = if (s.w == j.2) = true then .ret (.dat (eS s)) ⟨[some (.dat (.tuple (bk.map eRc))), some (.dat (eJ j)), some (.dat (eS s))], [], 0⟩ else .nx ⟨[some (.dat (.tuple (bk.map eRc))), some (.dat (eJ j)), some (.dat (eS s))], [], 0⟩ := by
      generalize eJ j = y at *
      simp [b_step_of_l1, st_ix0, j1, dEq, eqOk_str, eqv_str]
    exact ⟨_, rfl, fun hp => ⟨.dat (eS s), _, hb.trans (if_pos hp), rfl, rfl⟩, fun hp => ⟨_, .inl (hb.trans (if_neg (by rw [hp]; decide))), _, rfl⟩⟩
  have j0 := j_ix0 j
  have r2 := rc_ix2 r
  rw [hs]
  unfold m_step_of b_step_of
  cases q : r.sts.find? fun s => s.w == j.2 with
  | some s =>
    obtain ⟨a, fr', e, rfl, hc⟩ := h1 s q
    generalize eJ j = y at *
    simp [j0, e1, r2, e, hc]
  | none =>
    obtain ⟨fr', e, v, rfl⟩ := h2 q
    generalize eJ j = y at *
    simp [j0, e1, r2, e]
theorem t_law_step_of (B : BkO gs DA MA rk bk) {j : Str × Str} {s : Stp} (hd : j.1 ∈ bk.map (·.nm)) (h : sfind bk j = some s) : m__law_step_of [.dat (.tuple (bk.map eRc)), .dat (eJ j)] [] = .ok (.dat (eS s)) [] := by
  obtain ⟨r, hr, hrm, _⟩ := has_nm hd
  have e1 := t_law_recipe B hr
  have hs : sfind bk j = r.sts.find? fun s => s.w == j.2 := by unfold sfind; rw [steps_eq hr]
  have j0 := j_ix0 j
  have j1 := j_ix1 j
  have r2 := rc_ix2 r
  rw [hs] at h
  generalize eJ j = y at *
  have ec := xComp_typed (own := [2]) (g := tName 2) (t := b__law_step_of_t1) (f := b__law_step_of_e1) (e := xItems (xIx (xCall m__law_recipe (xCons (xVar 0) (xCons (xIx (xVar 1) (xC (.int 0))) (xNil)))) (xC (.int 2)))) (fr := ⟨[some (.dat (.tuple (bk.map eRc))), some (.dat y), none], [], 0⟩) eS (fun s => s.w == j.2) eS (fun s => ⟨[some (.dat (.tuple (bk.map eRc))), some (.dat y), some (.dat (eS s))], [], 0⟩) r.sts (by simp [j0, e1, r2]) (by have := B.sl r hrm; omega) (fun _ _ => rfl) (fun _ => rfl) (fun s _ => by simp [b__law_step_of_t1, st_ix0, j1, dEq, eqOk_str, eqv_str]) (fun _ _ _ => by simp [b__law_step_of_e1])
  have eh : dIx (.list ((r.sts.filter fun s => s.w == j.2).map eS)) (.int 0) = some (eS s) := by
    have : (r.sts.filter fun s => s.w == j.2).head? = some s := by rw [List.head?_filter]; exact h
    cases q : r.sts.filter fun s => s.w == j.2 with
    | nil => rw [q] at this; cases this
    | cons a l =>
      rw [q] at this
      cases this
      simp [dIx, atI, ixN]
  simp only [xIx] at ec
  unfold m__law_step_of b__law_step_of
  simp [ec, eh]
/-- ends: words after which nothing comes -/
def endsB (bk : List Rcp) (n : Str) : List Str := ((stepsB bk n).filter fun s => !((stepsB bk n).any fun o => o.af.any fun x => x == s.w)).map (·.w)
theorem in_strsT {xs : List Str} {z : Str} : dIn (.str z) (.tuple (xs.map .str)) = some (.bool (xs.any fun x => x == z)) := by
  have : inOk (.str z) (xs.map .str) = true := by unfold inOk; exact decide_eq_true (by simp [PyData.depth])
  simp [dIn, this, List.any_map, Function.comp_def, eqv_str]
theorem t_ends (B : BkO gs DA MA rk bk) {n : Str} (hd : n ∈ bk.map (·.nm)) : m_ends [.dat (.tuple (bk.map eRc)), .dat (.str n)] [] = .ok (.dat (.list ((endsB bk n).map .str))) [] := by
  obtain ⟨r, hr, hrm, _⟩ := has_nm hd
  have e1 := t_recipe_of bk n
  rw [hr] at e1
  change _ = CRes.ok (.dat (eRc r)) [] at e1
  have hl := B.sl r hrm
  have ec := xComp_typed (own := [3]) (g := tName 3) (t := b_ends_t1) (f := b_ends_e2) (e := xItems (xVar 2)) (fr := ⟨[some (.dat (.tuple (bk.map eRc))), some (.dat (.str n)), some (.dat (.tuple (r.sts.map eS))), none, none], [], 0⟩) eS (fun s => !(r.sts.any fun o => o.af.any fun x => x == s.w)) (fun s => .str s.w) (fun s => ⟨[some (.dat (.tuple (bk.map eRc))), some (.dat (.str n)), some (.dat (.tuple (r.sts.map eS))), some (.dat (eS s)), none], [], 0⟩) r.sts (by simp) (by omega) (fun _ _ => rfl) (fun _ => rfl) (fun s _ => by
    have ec2 := xComp_typed (own := [4]) (g := tName 4) (t := xYes) (f := b_ends_e1) (e := xItems (xVar 2)) (fr := ⟨[some (.dat (.tuple (bk.map eRc))), some (.dat (.str n)), some (.dat (.tuple (r.sts.map eS))), some (.dat (eS s)), none], [], 0⟩) eS (fun _ => true) (fun o => .bool (o.af.any fun x => x == s.w)) (fun o => ⟨[some (.dat (.tuple (bk.map eRc))), some (.dat (.str n)), some (.dat (.tuple (r.sts.map eS))), some (.dat (eS s)), some (.dat (eS o))], [], 0⟩) r.sts (by simp) (by omega) (fun _ _ => rfl) (fun _ => rfl) (fun _ _ => rfl) (fun o _ _ => by
      have hi := in_strsT (xs := o.af) (z := s.w)
      generalize (o.af.any fun x => x == s.w) = b at *
      simp [b_ends_e1, st_ix0, st_ix6, hi])
    rw [List.filter_eq_self.mpr (fun _ _ => rfl)] at ec2
    have hb := boolsD_map (fun o : Stp => o.af.any fun x => x == s.w) r.sts
    have ha : (r.sts.map fun o => o.af.any fun x => x == s.w).any id = r.sts.any fun o => o.af.any fun x => x == s.w := by rw [List.any_map]; rfl
    generalize hF : r.sts.map (fun o => o.af.any fun x => x == s.w) = F at *
    rw [← ha]
    unfold b_ends_t1
    simp only [xB, xB1, xNot, xV, xCons, xNil, Res.bind, ec2, views, Fr.view, ofO, dAny, hb]) (fun s _ _ => by simp [b_ends_e2, st_ix0])
  have hE : (endsB bk n).map PyData.str = (r.sts.filter fun s => !(r.sts.any fun o => o.af.any fun x => x == s.w)).map fun s => .str s.w := by
    unfold endsB; rw [steps_eq hr, List.map_map]; rfl
  rw [hE]
  unfold m_ends b_ends
  simp [e1, rc_ix2, ec]
theorem t_law_used (B : BkO gs DA MA rk bk) {d : Str} (hd : d ∈ bk.map (·.nm)) : m__law_used [.dat (.tuple (bk.map eRc)), .dat (.str d)] [] = .ok (.dat (.list ((usB bk d).map .str))) [] := by
  obtain ⟨r, hr, hrm, _⟩ := has_nm hd
  have e1 := t_law_recipe B hr
  have hul := B.ul r hrm
  have hbl := B.len
  have ec := xComp_typed (own := [7]) (g := tName 7) (t := xYes) (f := b__law_used_e1) (e := xItems (xVar 0)) (fr := ⟨[some (.dat (.tuple (bk.map eRc))), some (.dat (.str d)), none, none, none, none, none, none], [], 0⟩) eRc (fun _ => true) (fun r => .str r.nm) (fun r => ⟨[some (.dat (.tuple (bk.map eRc))), some (.dat (.str d)), none, none, none, none, none, some (.dat (eRc r))], [], 0⟩) bk (by simp) (by omega) (fun _ _ => rfl) (fun _ => rfl) (fun _ _ => rfl) (fun r _ _ => by simp [b__law_used_e1, rc_ix0])
  rw [List.filter_eq_self.mpr (fun _ _ => rfl)] at ec
  generalize hN : (bk.map fun r => PyData.str r.nm) = N at *
  have hin : ∀ z, dIn (.str z) (.list N) = some (.bool (bk.any fun r => r.nm == z)) := fun z => by
    have := in_strs (xs := bk.map (·.nm)) (z := z)
    rw [List.map_map, List.any_map] at this
    rw [← hN]
    exact this
  have key := forA_typed (g := tName 4) (b := b__law_used_l2) eS (fun done fr => ∃ v4 v5 v6, fr = ⟨[some (.dat (.tuple (bk.map eRc))), some (.dat (.str d)), some (.dat (.list N)), some (.cel 0), v4, v5, v6, none], [.dct false ((((done.flatMap (·.us)).filter fun q => bk.any fun r => r.nm == q.1).foldl (fun a q => aput a q.1 true) []).map (eK PyData.bool))], 0⟩) r.sts ⟨[some (.dat (.tuple (bk.map eRc))), some (.dat (.str d)), some (.dat (.list N)), some (.cel 0), none, none, none, none], [.dct false []], 0⟩ ⟨none, none, none, rfl⟩ ?_
  · obtain ⟨fr', e, v4, v5, v6, rfl⟩ := key
    have kl := (keysB_spec bk (usesOf r)).2.2
    have so := sort_strs (xs := keysB bk (usesOf r)) (by omega)
    have hu : r.sts.flatMap (·.us) = usesOf r := rfl
    rw [hu] at e
    have em : ((((usesOf r).filter fun q => bk.any fun r => r.nm == q.1).foldl (fun a q => aput a q.1 true) []).map (eK PyData.bool)).map (·.1) = (keysB bk (usesOf r)).map .str := by
      unfold keysB
      rw [List.map_map, List.map_map]; rfl
    have hus : usB bk d = usedR bk r := by unfold usB; rw [hr]
    have ds : dSortedK ((((usesOf r).filter fun q => bk.any fun r => r.nm == q.1).foldl (fun a q => aput a q.1 true) []).map (eK PyData.bool)) = some (.list ((usB bk d).map .str)) := by
      unfold dSortedK
      rw [em, so, hus]; rfl
    generalize (((usesOf r).filter fun q => bk.any fun r => r.nm == q.1).foldl (fun a q => aput a q.1 true) []).map (eK PyData.bool) = T at *
    unfold m__law_used b__law_used
    simp [ec, e1, rc_ix2, e, ds]
  · rintro done s rest fr he ⟨v4, v5, v6, rfl⟩
    have hsl : (done.flatMap (·.us)).length + s.us.length ≤ 12 := by
      have : usesOf r = done.flatMap (·.us) ++ (s.us ++ rest.flatMap (·.us)) := by
        unfold usesOf; rw [he, List.flatMap_append, List.flatMap_cons]
      rw [this] at hul
      simp only [List.length_append] at hul
      omega
    have hdd : (done ++ [s]).flatMap (·.us) = done.flatMap (·.us) ++ s.us := by rw [List.flatMap_append]; simp
    rw [hdd]
    generalize done.flatMap (·.us) = us0 at *
    have key := forA_typed (g := tNames [5, 6]) (b := b__law_used_l1) eN (fun done2 fr => ∃ v5 v6, fr = ⟨[some (.dat (.tuple (bk.map eRc))), some (.dat (.str d)), some (.dat (.list N)), some (.cel 0), some (.dat (eS s)), v5, v6, none], [.dct false ((((us0 ++ done2).filter fun q => bk.any fun r => r.nm == q.1).foldl (fun a q => aput a q.1 true) []).map (eK PyData.bool))], 0⟩) s.us ⟨[some (.dat (.tuple (bk.map eRc))), some (.dat (.str d)), some (.dat (.list N)), some (.cel 0), some (.dat (eS s)), none, none, none], [.dct false (((us0.filter fun q => bk.any fun r => r.nm == q.1).foldl (fun a q => aput a q.1 true) []).map (eK PyData.bool))], 0⟩ ⟨none, none, by rw [List.append_nil]⟩ ?_
    · obtain ⟨fr', e, v5', v6', rfl⟩ := key
      refine ⟨_, _, rfl, .inl ?_, some (.dat (eS s)), v5', v6', rfl⟩
      generalize (((us0 ++ s.us).filter fun q => bk.any fun r => r.nm == q.1).foldl (fun a q => aput a q.1 true) []).map (eK PyData.bool) = T2 at *
      generalize ((us0.filter fun q => bk.any fun r => r.nm == q.1).foldl (fun a q => aput a q.1 true) []).map (eK PyData.bool) = T1 at *
      unfold b__law_used_l2
      simp [st_ix5, e]
    · rintro done2 q rest2 fr he2 ⟨v5', v6', rfl⟩
      have hi := hin q.1
      have hfl : ((us0 ++ done2).filter fun q => bk.any fun r => r.nm == q.1).length ≤ 12 := by
        have h1 := List.length_filter_le (fun q : Str × Rat => bk.any fun r => r.nm == q.1) (us0 ++ done2)
        have h2 : s.us.length = done2.length + rest2.length + 1 := by rw [he2]; simp; omega
        simp only [List.length_append] at h1
        omega
      have hfk := (fold_keys (us := (us0 ++ done2).filter fun q => bk.any fun r => r.nm == q.1) (acc := []) (by simp)).2.2
      have hap : (us0 ++ (done2 ++ [q])).filter (fun q => bk.any fun r => r.nm == q.1) = (us0 ++ done2).filter (fun q => bk.any fun r => r.nm == q.1) ++ (if (bk.any fun r => r.nm == q.1) = true then [q] else []) := by
        rw [← List.append_assoc, List.filter_append]
        congr 1
        rw [List.filter_cons, List.filter_nil]
      rw [hap, List.foldl_append]
      generalize ((us0 ++ done2).filter fun q => bk.any fun r => r.nm == q.1).foldl (fun a q => aput a q.1 true) [] = kvs at *
      have kl : kvs.length < 1000000 := by rw [List.length_nil, Nat.zero_add] at hfk; omega
      have kp : kput (kvs.map (eK PyData.bool)) (.str q.1) (.bool true) = (aput kvs q.1 true).map (eK PyData.bool) := kput_t
      refine ⟨_, _, rfl, .inl ?_, some (.dat (.str q.1)), none, rfl⟩
      by_cases hq : (bk.any fun r => r.nm == q.1) = true
      · rw [if_pos hq]
        rw [hq] at hi
        simp only [List.foldl_cons, List.foldl_nil]
        unfold b__law_used_l1
        simp [hi, kOk, kl, kp]
      · rw [if_neg hq]
        have hq2 := Bool.eq_false_iff.mpr hq
        rw [hq2] at hi
        simp only [List.foldl_nil]
        unfold b__law_used_l1
        simp [hi]
end
end G
/-! QB: the jobs of a dish. -/
namespace G
open PySem PySem.Spec PyProof.Rows L2
open PySem.W (dataLt dataLe alike keyToks)
def b_jobs_t1 (self : AFun) : Fr → Res Bool :=
  xB (xOp2 dNotIn (xVar 4) (xVar 2))
def b_jobs_e1 (self : AFun) : Fr → Res AV :=
  xVar 4
def b_jobs_l1 (self : AFun) : Fr → SRes :=
  sExt 2 (xCompF [4] (xItems (xCall self (xCons (xVar 0) (xCons (xVar 3) (xNil))))) (tName 4) (b_jobs_t1 self) (b_jobs_e1 self))
def b_jobs_e2 (self : AFun) : Fr → Res AV :=
  xTup (xCons (xVar 1) (xCons (xIx (xVar 5) (xC (.int 0))) (xNil)))
def b_jobs (self : AFun) : Fr → SRes :=
  sSeq (sSet 2 (xNewL (xNil)))
  (sSeq (sFor (xItems (xCall m_used_recipes (xCons (xVar 0) (xCons (xVar 1) (xNil))))) (tName 3) (b_jobs_l1 self))
  (sKill [3] (sRet (xOp2 dAdd (xVar 2) (xComp [5] (xItems (xIx (xCall m_recipe_of (xCons (xVar 0) (xCons (xVar 1) (xNil)))) (xC (.int 2)))) (tName 5) (xYes) (b_jobs_e2 self))))))
def m_jobs : Nat → AFun
  | 0 => fun _ _ => .err
  | n + 1 => mkFun 6 2 (b_jobs (m_jobs n))

def b__law_jobs_t1 (self : AFun) : Fr → Res Bool :=
  xB (xOp2 dNotIn (xVar 5) (xVar 2))
def b__law_jobs_e1 (self : AFun) : Fr → Res AV :=
  xVar 5
def b__law_jobs_l1 (self : AFun) : Fr → SRes :=
  sSet 2 (xOp2 dAdd (xVar 2) (xComp [5] (xItems (xCall self (xCons (xVar 0) (xCons (xVar 3) (xNil))))) (tName 5) (b__law_jobs_t1 self) (b__law_jobs_e1 self)))
def b__law_jobs_e2 (self : AFun) : Fr → Res AV :=
  xTup (xCons (xVar 1) (xCons (xIx (xVar 4) (xC (.int 0))) (xNil)))
def b__law_jobs (self : AFun) : Fr → SRes :=
  sSeq (sSet 2 (xLst (xNil)))
  (sSeq (sFor (xItems (xCall m__law_used (xCons (xVar 0) (xCons (xVar 1) (xNil))))) (tName 3) (b__law_jobs_l1 self))
  (sKill [3] (sRet (xOp2 dAdd (xVar 2) (xComp [4] (xItems (xIx (xCall m__law_recipe (xCons (xVar 0) (xCons (xVar 1) (xNil)))) (xC (.int 2)))) (tName 4) (xYes) (b__law_jobs_e2 self))))))
def m__law_jobs : Nat → AFun
  | 0 => fun _ _ => .err
  | n + 1 => mkFun 6 2 (b__law_jobs (m__law_jobs n))

abbrev Job := Str × Str
theorem eqv_J (a b : Job) : PyData.eqv (eJ a) (eJ b) = (a == b) := by
  rw [Bool.eq_iff_iff]
  simp [eJ, PyData.eqv, PyData.eqvAll, eqv_str, Prod.ext_iff]
theorem depth_J (a : Job) : (eJ a).depth ≤ 2 := by simp [eJ, PyData.depth, PyData.depthAll]
def hasJ (xs : List Job) (j : Job) : Bool := xs.any fun x => x == j
theorem notin_J (xs : List Job) (j : Job) : dNotIn (eJ j) (.list (xs.map eJ)) = some (.bool (!hasJ xs j)) := by
  have hd := depth_J j
  have : inOk (eJ j) (xs.map eJ) = true := by unfold inOk; exact decide_eq_true (by omega)
  have e : (xs.map eJ).any (fun z => PyData.eqv z (eJ j)) = hasJ xs j := by
    unfold hasJ
    rw [List.any_map]
    congr 1
    funext x
    exact eqv_J x j
  show (if inOk (eJ j) (xs.map eJ) = true then some (PyData.bool _) else none) = _
  rw [if_pos this, e]
def jobsU (f : Str → List Job) (ns : List Str) : List Job := ns.foldl (fun found n => found ++ (f n).filter fun j => !hasJ found j) []
def jobsF (bk : List Rcp) : Nat → Str → List Job
  | 0, _ => []
  | k + 1, d => jobsU (jobsF bk k) (usB bk d) ++ (stepsB bk d).map fun s => (d, s.w)
theorem jobsU_snoc (f : Str → List Job) (ns : List Str) (n : Str) : jobsU f (ns ++ [n]) = jobsU f ns ++ (f n).filter fun j => !hasJ (jobsU f ns) j := by
  unfold jobsU; rw [List.foldl_append]; rfl
theorem jobsU_len {f : Str → List Job} {P : Nat} {ns : List Str} (h : ∀ n ∈ ns, (f n).length ≤ P) : (jobsU f ns).length ≤ ns.length * P := by
  have : ∀ ns : List Str, (∀ n ∈ ns, (f n).length ≤ P) → (jobsU f ns).length ≤ ns.length * P := by
    refine snoc_ind (P := fun ns : List Str => (∀ n ∈ ns, (f n).length ≤ P) → (jobsU f ns).length ≤ ns.length * P) (fun _ => by simp [jobsU]) fun ns n ih h => ?_
    rw [jobsU_snoc, List.length_append, List.length_append, List.length_singleton, Nat.succ_mul]
    have h1 := ih fun m hm => h m (List.mem_append_left _ hm)
    have h2 := h n (by simp)
    have h3 := List.length_filter_le (fun j => !hasJ (jobsU f ns) j) (f n)
    omega
  exact this ns h
section
variable {gs : List Gd} {bk : List Rcp} {DA MA : Nat} {rk : Str → Nat}
theorem jobs_len (B : BkO gs DA MA rk bk) : ∀ (i k : Nat) (d : Str), rk d ≤ i → (jobsF bk k d).length ≤ 13 ^ (i + 1) := by
  intro i
  induction i with
  | zero =>
    intro k d h
    cases k with
    | zero => simp [jobsF]
    | succ k =>
      have : usB bk d = [] := List.eq_nil_iff_forall_not_mem.mpr fun m hm => by have := usB_rk B d m hm; omega
      rw [jobsF, this]
      have := steps_len B d
      simp [jobsU]; omega
  | succ i ih =>
    intro k d h
    cases k with
    | zero => simp [jobsF]
    | succ k =>
      rw [jobsF, List.length_append, List.length_map]
      have h1 := jobsU_len (f := jobsF bk k) (P := 13 ^ (i + 1)) (ns := usB bk d) fun n hn => ih k n (by have := usB_rk B d n hn; omega)
      have h2 := Nat.mul_le_mul_right (13 ^ (i + 1)) (usB_len B d)
      have h3 := steps_len B d
      have h4 : 13 ≤ 13 ^ (i + 1) := by
        have : 13 ^ 1 ≤ 13 ^ (i + 1) := Nat.pow_le_pow_right (by decide) (by omega)
        simpa using this
      rw [Nat.pow_succ (m := i + 1)]
      omega
theorem t_jobs (B : BkO gs DA MA rk bk) : ∀ (i k : Nat) (d : Str), d ∈ bk.map (·.nm) → rk d ≤ i → i ≤ 3 → i < k → m_jobs k [.dat (.tuple (bk.map eRc)), .dat (.str d)] [] = .ok (.dat (.list ((jobsF bk k d).map eJ))) [] ∧ m__law_jobs k [.dat (.tuple (bk.map eRc)), .dat (.str d)] [] = .ok (.dat (.list ((jobsF bk k d).map eJ))) [] := by
  intro i
  induction i using Nat.strongRecOn with
  | ind i ih =>
    intro k d hd hrk hi3 hk
    obtain ⟨k, rfl⟩ : ∃ k', k = k' + 1 := ⟨k - 1, by omega⟩
    obtain ⟨r, hr, hrm, _⟩ := has_nm hd
    have e1 := t_recipe_of bk d
    rw [hr] at e1
    change _ = CRes.ok (.dat (eRc r)) [] at e1
    have e1l := t_law_recipe B hr
    have eu := t_used B hd
    have eul := t_law_used B hd
    have hsl := B.sl r hrm
    have one : ∀ n ∈ usB bk d, m_jobs k [.dat (.tuple (bk.map eRc)), .dat (.str n)] [] = .ok (.dat (.list ((jobsF bk k n).map eJ))) [] ∧ m__law_jobs k [.dat (.tuple (bk.map eRc)), .dat (.str n)] [] = .ok (.dat (.list ((jobsF bk k n).map eJ))) [] := fun n hn => by
      have hlt := usB_rk B d n hn
      obtain ⟨j, rfl⟩ : ∃ j, i = j + 1 := ⟨i - 1, by omega⟩
      exact ih j (by omega) k n (usB_sub hn) (by omega) (by omega) (by omega)
    obtain ⟨P, hP, hPl⟩ : ∃ P, P = 13 ^ (3 + 1) ∧ P ≤ 30000 := ⟨_, rfl, by decide⟩
    have lens : ∀ n ∈ usB bk d, (jobsF bk k n).length ≤ P := fun n hn => by
      have h1 := jobs_len B 3 k n (by have := usB_rk B d n hn; omega)
      rwa [← hP] at h1
    have pre : ∀ done rest, usB bk d = done ++ rest → (jobsU (jobsF bk k) done).length ≤ 12 * P := fun done rest e => by
      have h1 := jobsU_len (f := jobsF bk k) (P := P) (ns := done) fun n hn => lens n (by rw [e]; exact List.mem_append_left _ hn)
      have h2 := usB_len B d
      rw [e] at h2
      simp at h2
      have h3 := Nat.mul_le_mul_right P (show done.length ≤ 12 by omega)
      omega
    have hst : (stepsB bk d).map (fun s => (d, s.w)) = r.sts.map fun s => (d, s.w) := by rw [steps_eq hr]
    have hall := pre (usB bk d) [] (by simp)
    constructor
    · have key := forA_typed (g := tName 3) (b := b_jobs_l1 (m_jobs k)) PyData.str (fun done fr => ∃ v3, fr = ⟨[some (.dat (.tuple (bk.map eRc))), some (.dat (.str d)), some (.cel 0), v3, none, none], [.lst ((jobsU (jobsF bk k) done).map eJ)], 0⟩) (usB bk d) ⟨[some (.dat (.tuple (bk.map eRc))), some (.dat (.str d)), some (.cel 0), none, none, none], [.lst []], 0⟩ ⟨none, rfl⟩ ?_
      · obtain ⟨fr', e, v3, rfl⟩ := key
        have ec := xComp_typed (own := [5]) (g := tName 5) (t := xYes) (f := b_jobs_e2 (m_jobs k)) (e := xItems (xIx (xCall m_recipe_of (xCons (xVar 0) (xCons (xVar 1) (xNil)))) (xC (.int 2)))) (fr := ⟨[some (.dat (.tuple (bk.map eRc))), some (.dat (.str d)), some (.cel 0), none, none, none], [.lst ((jobsU (jobsF bk k) (usB bk d)).map eJ)], 0⟩) eS (fun _ => true) (fun s => eJ (d, s.w)) (fun s => ⟨[some (.dat (.tuple (bk.map eRc))), some (.dat (.str d)), some (.cel 0), none, none, some (.dat (eS s))], [.lst ((jobsU (jobsF bk k) (usB bk d)).map eJ)], 0⟩) r.sts (by simp [e1, rc_ix2]) (by omega) (fun _ _ => rfl) (fun _ => rfl) (fun _ _ => rfl) (fun s _ _ => by simp [b_jobs_e2, st_ix0, eJ])
        rw [List.filter_eq_self.mpr (fun _ _ => rfl)] at ec
        have hF : (jobsF bk (k + 1) d).map eJ = (jobsU (jobsF bk k) (usB bk d)).map eJ ++ r.sts.map fun s => eJ (d, s.w) := by
          rw [jobsF, hst, List.map_append, List.map_map]; rfl
        rw [hF]
        have hl2 : ((jobsU (jobsF bk k) (usB bk d)).map eJ).length + (r.sts.map fun s => eJ (d, s.w)).length ≤ 1000000 := by simp; omega
        generalize (jobsU (jobsF bk k) (usB bk d)).map eJ = U at *
        generalize (r.sts.map fun s => eJ (d, s.w)) = W at *
        simp only [xIx] at ec
        show mkFun 6 2 (b_jobs (m_jobs k)) _ _ = _
        unfold b_jobs
        simp [eu, e, ec, dAdd, hl2]
      · rintro done n rest fr he ⟨v3, rfl⟩
        obtain ⟨hm, _, _⟩ := take_of he
        have o1 := (one n hm).1
        have hpl := pre done (n :: rest) he
        have hnl := lens n hm
        rw [jobsU_snoc]
        generalize jobsU (jobsF bk k) done = U at *
        have ec := compA_typed (own := [4]) (g := tName 4) (t := b_jobs_t1 (m_jobs k)) (f := b_jobs_e1 (m_jobs k)) (vars := [some (.dat (.tuple (bk.map eRc))), some (.dat (.str d)), some (.cel 0), some (.dat (.str n)), none, none]) (bs := 0) (cs := [.lst (U.map eJ)]) eJ (fun j => !hasJ U j) eJ (fun j => ⟨[some (.dat (.tuple (bk.map eRc))), some (.dat (.str d)), some (.cel 0), some (.dat (.str n)), some (.dat (eJ j)), none], [.lst (U.map eJ)], 0⟩) (jobsF bk k n) [] (fun _ _ => rfl) (fun _ => rfl) (fun j _ => by
          have hn := notin_J U j
          simp [b_jobs_t1, hn]) (fun j _ _ => by simp [b_jobs_e1])
        rw [List.nil_append] at ec
        have fl := List.length_filter_le (fun j => !hasJ U j) (jobsF bk k n)
        have hl2 : (U.map eJ).length + (((jobsF bk k n).filter fun j => !hasJ U j).map eJ).length ≤ 1000000 := by simp; omega
        have hl3 : ((jobsF bk k n).map eJ).length ≤ 1000000 := by simp; omega
        refine ⟨_, _, rfl, .inl ?_, some (.dat (.str n)), rfl⟩
        rw [List.map_append]
        generalize ((jobsF bk k n).filter fun j => !hasJ U j).map eJ = FF at *
        generalize (jobsF bk k n).map eJ = JJ at *
        generalize U.map eJ = UU at *
        unfold b_jobs_l1
        simp [o1, ec, hl2, hl3]
    · have key := forA_typed (g := tName 3) (b := b__law_jobs_l1 (m__law_jobs k)) PyData.str (fun done fr => ∃ v3, fr = ⟨[some (.dat (.tuple (bk.map eRc))), some (.dat (.str d)), some (.dat (.list ((jobsU (jobsF bk k) done).map eJ))), v3, none, none], [], 0⟩) (usB bk d) ⟨[some (.dat (.tuple (bk.map eRc))), some (.dat (.str d)), some (.dat (.list [])), none, none, none], [], 0⟩ ⟨none, rfl⟩ ?_
      · obtain ⟨fr', e, v3, rfl⟩ := key
        have ec := xComp_typed (own := [4]) (g := tName 4) (t := xYes) (f := b__law_jobs_e2 (m__law_jobs k)) (e := xItems (xIx (xCall m__law_recipe (xCons (xVar 0) (xCons (xVar 1) (xNil)))) (xC (.int 2)))) (fr := ⟨[some (.dat (.tuple (bk.map eRc))), some (.dat (.str d)), some (.dat (.list ((jobsU (jobsF bk k) (usB bk d)).map eJ))), none, none, none], [], 0⟩) eS (fun _ => true) (fun s => eJ (d, s.w)) (fun s => ⟨[some (.dat (.tuple (bk.map eRc))), some (.dat (.str d)), some (.dat (.list ((jobsU (jobsF bk k) (usB bk d)).map eJ))), none, some (.dat (eS s)), none], [], 0⟩) r.sts (by simp [e1l, rc_ix2]) (by omega) (fun _ _ => rfl) (fun _ => rfl) (fun _ _ => rfl) (fun s _ _ => by simp [b__law_jobs_e2, st_ix0, eJ])
        rw [List.filter_eq_self.mpr (fun _ _ => rfl)] at ec
        have hF : (jobsF bk (k + 1) d).map eJ = (jobsU (jobsF bk k) (usB bk d)).map eJ ++ r.sts.map fun s => eJ (d, s.w) := by
          rw [jobsF, hst, List.map_append, List.map_map]; rfl
        rw [hF]
        have hl2 : ((jobsU (jobsF bk k) (usB bk d)).map eJ).length + (r.sts.map fun s => eJ (d, s.w)).length ≤ 1000000 := by simp; omega
        generalize (jobsU (jobsF bk k) (usB bk d)).map eJ = U at *
        generalize (r.sts.map fun s => eJ (d, s.w)) = W at *
        simp only [xIx] at ec
        show mkFun 6 2 (b__law_jobs (m__law_jobs k)) _ _ = _
        unfold b__law_jobs
        simp [eul, e, ec, dAdd, hl2]
      · rintro done n rest fr he ⟨v3, rfl⟩
        obtain ⟨hm, _, _⟩ := take_of he
        have o1 := (one n hm).2
        have hpl := pre done (n :: rest) he
        have hnl := lens n hm
        rw [jobsU_snoc]
        generalize jobsU (jobsF bk k) done = U at *
        have ec := xComp_typed (own := [5]) (g := tName 5) (t := b__law_jobs_t1 (m__law_jobs k)) (f := b__law_jobs_e1 (m__law_jobs k)) (e := xItems (xCall (m__law_jobs k) (xCons (xVar 0) (xCons (xVar 3) (xNil))))) (fr := ⟨[some (.dat (.tuple (bk.map eRc))), some (.dat (.str d)), some (.dat (.list (U.map eJ))), some (.dat (.str n)), none, none], [], 0⟩) eJ (fun j => !hasJ U j) eJ (fun j => ⟨[some (.dat (.tuple (bk.map eRc))), some (.dat (.str d)), some (.dat (.list (U.map eJ))), some (.dat (.str n)), none, some (.dat (eJ j))], [], 0⟩) (jobsF bk k n) (by simp [o1]) (by omega) (fun _ _ => rfl) (fun _ => rfl) (fun j _ => by
          have hn := notin_J U j
          simp [b__law_jobs_t1, hn]) (fun j _ _ => by simp [b__law_jobs_e1])
        have fl := List.length_filter_le (fun j => !hasJ U j) (jobsF bk k n)
        have hl2 : (U.map eJ).length + (((jobsF bk k n).filter fun j => !hasJ U j).map eJ).length ≤ 1000000 := by simp; omega
        refine ⟨_, _, rfl, .inl ?_, some (.dat (.str n)), rfl⟩
        rw [List.map_append]
        generalize ((jobsF bk k n).filter fun j => !hasJ U j).map eJ = FF at *
        generalize U.map eJ = UU at *
        unfold b__law_jobs_l1
        simp [ec, dAdd, hl2]
end
end G
/-! QC: what lies ahead of a job. -/
namespace G
open PySem PySem.Spec PyProof.Rows L2
open PySem.W (dataLt dataLe alike keyToks)
def b_ahead_e1 : Fr → Res AV :=
  xIx (xVar 8) (xC (.int 0))
def b_ahead_e2 : Fr → Res AV :=
  xTup (xCons (xIx (xVar 2) (xC (.int 0))) (xCons (xVar 9) (xNil)))
def b_ahead_e3 : Fr → Res AV :=
  xTup (xCons (xVar 6) (xCons (xVar 9) (xNil)))
def b_ahead_l1 : Fr → SRes :=
  sKill [7] (sIf (xB (xOp2 dIn (xVar 6) (xVar 4))) (sExt 5 (xCompF [9] (xItems (xCall m_ends (xCons (xVar 0) (xCons (xVar 6) (xNil))))) (tName 9) (xYes) (b_ahead_e3))) (sNx))
def b_ahead : Fr → SRes :=
  sSeq (sSet 3 (xCall m_step_of (xCons (xVar 0) (xCons (xVar 2) (xNil)))))
  (sSeq (sSet 4 (xComp [8] (xItems (xVar 0)) (tName 8) (xYes) (b_ahead_e1)))
  (sSeq (sSet 5 (xCompF [9] (xItems (xIx (xVar 3) (xC (.int 6)))) (tName 9) (xYes) (b_ahead_e2)))
  (sSeq (sFor (xItems (xIx (xVar 3) (xC (.int 5)))) (tNames [6, 7]) (b_ahead_l1))
  (sKill [6, 7] (sRet (xB1 dSorted (xCons (xVar 5) (xNil))))))))
def m_ahead : AFun := mkFun 10 3 b_ahead

def b__law_ahead_e1 : Fr → Res AV :=
  xIx (xVar 9) (xC (.int 0))
def b__law_ahead_e2 : Fr → Res AV :=
  xTup (xCons (xIx (xVar 1) (xC (.int 0))) (xCons (xVar 10) (xNil)))
def b__law_ahead_t1 : Fr → Res Bool :=
  xB (xOp2 dIn (xIx (xVar 8) (xC (.int 0))) (xIx (xVar 11) (xC (.int 6))))
def b__law_ahead_e3 : Fr → Res AV :=
  xVar 11
def b__law_ahead_l1 : Fr → SRes :=
  sIf (xB (xOp2 dEq (xComp [11] (xItems (xVar 7)) (tName 11) (b__law_ahead_t1) (b__law_ahead_e3)) (xLst (xNil)))) (sApp 4 (xTup (xCons (xVar 5) (xCons (xIx (xVar 8) (xC (.int 0))) (xNil))))) (sNx)
def b__law_ahead_l2 : Fr → SRes :=
  sKill [6, 7, 8] (sSeq (sSet 7 (xIf (xB (xOp2 dIn (xVar 5) (xVar 3))) (xIx (xCall m__law_recipe (xCons (xVar 0) (xCons (xVar 5) (xNil)))) (xC (.int 2))) (xTup (xNil))))
  (sFor (xItems (xVar 7)) (tName 8) (b__law_ahead_l1)))
def b__law_ahead : Fr → SRes :=
  sSeq (sSet 2 (xCall m__law_step_of (xCons (xVar 0) (xCons (xVar 1) (xNil)))))
  (sSeq (sSet 3 (xComp [9] (xItems (xVar 0)) (tName 9) (xYes) (b__law_ahead_e1)))
  (sSeq (sSet 4 (xCompF [10] (xItems (xIx (xVar 2) (xC (.int 6)))) (tName 10) (xYes) (b__law_ahead_e2)))
  (sSeq (sFor (xItems (xIx (xVar 2) (xC (.int 5)))) (tNames [5, 6]) (b__law_ahead_l2))
  (sKill [5, 6, 7, 8] (sRet (xB1 dSorted (xCons (xVar 4) (xNil))))))))
def m__law_ahead : AFun := mkFun 12 2 b__law_ahead

/-- recipes whose steps come after earlier ones -/
structure JbO (bk : List Rcp) : Prop where
  nd : ∀ r ∈ bk, (wordsOf r.sts).Nodup
  s0 : ∀ r ∈ bk, 1 ≤ r.sts.length
  sl : ∀ r ∈ bk, r.sts.length ≤ 3
  sp : ∀ r ∈ bk, ∀ pre s post, r.sts = pre ++ s :: post → (∀ x ∈ s.af, x ∈ wordsOf pre) ∧ s.af.length ≤ 6 ∧ 1 ≤ s.mn ∧ s.mn ≤ 21
def nmB (bk : List Rcp) (n : Str) : Bool := bk.any fun r => r.nm == n
/-- jobs ahead, by what a step uses -/
def viaU (bk : List Rcp) (us : List (Str × Rat)) : List Job := us.flatMap fun q => if nmB bk q.1 = true then (endsB bk q.1).map fun w => (q.1, w) else []
def aheadU (bk : List Rcp) (j : Job) (s : Stp) : List Job := s.af.map (fun w => (j.1, w)) ++ viaU bk s.us
def aheadB (bk : List Rcp) (j : Job) : List Job := match sfind bk j with
  | some s => srtT eJ (aheadU bk j s)
  | none => []
theorem viaU_snoc (bk : List Rcp) (us : List (Str × Rat)) (q : Str × Rat) : viaU bk (us ++ [q]) = viaU bk us ++ (if nmB bk q.1 = true then (endsB bk q.1).map (fun w => (q.1, w)) else []) := by
  unfold viaU; rw [List.flatMap_append]; simp
theorem al_J (a b : Job) : alike (eJ a) (eJ b) = true := by simp [eJ, alike, PySem.W.alikeAll]
theorem J_sort {xs : List Job} (hl : xs.length ≤ 1000000) : dSortL (xs.map eJ) = some (.list ((srtT eJ xs).map eJ)) := by
  have : sortOk (xs.map eJ) = true := sortOk_t hl (fun x _ y _ => al_J x y) (fun _ _ => rfl) (fun x _ => by have := depth_J x; omega)
  unfold dSortL
  rw [if_pos this, srtT_map]
section
variable {gs : List Gd} {bk : List Rcp} {DA MA : Nat} {rk : Str → Nat}
theorem ends_len (B : BkO gs DA MA rk bk) (n : Str) : (endsB bk n).length ≤ 6 := by
  unfold endsB
  rw [List.length_map]
  exact Nat.le_trans (List.length_filter_le _ _) (steps_len B n)
theorem viaU_len (B : BkO gs DA MA rk bk) : ∀ us : List (Str × Rat), (viaU bk us).length ≤ 6 * us.length := by
  refine snoc_ind (by simp [viaU]) fun us q ih => ?_
  rw [viaU_snoc, List.length_append, List.length_append, List.length_singleton]
  have := ends_len B q.1
  split <;> simp <;> omega
theorem nm_has {n : Str} : nmB bk n = true ↔ n ∈ bk.map (·.nm) := by
  unfold nmB
  rw [List.any_eq_true, List.mem_map]
  constructor
  · rintro ⟨r, h1, h2⟩; exact ⟨r, h1, by simpa using h2⟩
  · rintro ⟨r, h1, h2⟩; exact ⟨r, h1, by simpa using h2⟩
theorem nms_comp : (bk.map fun r => PyData.str r.nm) = (bk.map (·.nm)).map .str := by rw [List.map_map]; rfl
theorem in_nms (z : Str) : dIn (.str z) (.list (bk.map fun r => PyData.str r.nm)) = some (.bool (nmB bk z)) := by
  have := in_strs (xs := bk.map (·.nm)) (z := z)
  rw [List.map_map, List.any_map] at this
  exact this
theorem sfind_at {j : Job} {s : Stp} (h : sfind bk j = some s) : ∃ r, rfind bk j.1 = some r ∧ r ∈ bk ∧ r.nm = j.1 ∧ s ∈ r.sts ∧ s.w = j.2 := by
  unfold sfind stepsB at h
  cases q : rfind bk j.1 with
  | none => rw [q] at h; cases h
  | some r =>
    rw [q] at h
    refine ⟨r, rfl, List.mem_of_find?_eq_some q, by have := List.find?_some q; simpa using this, List.mem_of_find?_eq_some h, by have := List.find?_some h; simpa using this⟩
theorem t_ahead (B : BkO gs DA MA rk bk) (J : JbO bk) {j : Job} {s : Stp} (d : PyData) (h : sfind bk j = some s) : m_ahead [.dat (.tuple (bk.map eRc)), .dat d, .dat (eJ j)] [] = .ok (.dat (.list ((aheadB bk j).map eJ))) [] := by
  obtain ⟨r, hr, hrm, hrn, hsm, _⟩ := sfind_at h
  have hd : j.1 ∈ bk.map (·.nm) := List.mem_map.mpr ⟨r, hrm, hrn⟩
  have e1 := t_step_of B hd
  rw [h] at e1
  change _ = CRes.ok (.dat (eS s)) [] at e1
  have hbl := B.len
  obtain ⟨p0, q0, hsplit⟩ := List.append_of_mem hsm
  obtain ⟨_, hal, _, _⟩ := J.sp r hrm p0 s q0 hsplit
  have hul := B.sul r hrm s hsm
  have j0 := j_ix0 j
  have s5 := st_ix5 s
  have s6 := st_ix6 s
  have ha : aheadB bk j = srtT eJ (aheadU bk j s) := by unfold aheadB; rw [h]
  have hvl := viaU_len B s.us
  have hso := J_sort (xs := aheadU bk j s) (by unfold aheadU; simp; omega)
  rw [ha]
  have hin := in_nms (bk := bk)
  generalize eJ j = y at *
  generalize hy : eS s = sd at *
  have ec1 := xComp_typed (own := [8]) (g := tName 8) (t := xYes) (f := b_ahead_e1) (e := xItems (xVar 0)) (fr := ⟨[some (.dat (.tuple (bk.map eRc))), some (.dat d), some (.dat y), some (.dat sd), none, none, none, none, none, none], [], 0⟩) eRc (fun _ => true) (fun r => .str r.nm) (fun r => ⟨[some (.dat (.tuple (bk.map eRc))), some (.dat d), some (.dat y), some (.dat sd), none, none, none, none, some (.dat (eRc r)), none], [], 0⟩) bk (by simp) (by omega) (fun _ _ => rfl) (fun _ => rfl) (fun _ _ => rfl) (fun r _ _ => by simp [b_ahead_e1, rc_ix0])
  rw [List.filter_eq_self.mpr (fun _ _ => rfl)] at ec1
  generalize (bk.map fun r => PyData.str r.nm) = N at *
  have ec2 := compA_typed (own := [9]) (g := tName 9) (t := xYes) (f := b_ahead_e2) (vars := [some (.dat (.tuple (bk.map eRc))), some (.dat d), some (.dat y), some (.dat sd), some (.dat (.list N)), none, none, none, none, none]) (bs := 0) (cs := []) PyData.str (fun _ => true) (fun w => eJ (j.1, w)) (fun w => ⟨[some (.dat (.tuple (bk.map eRc))), some (.dat d), some (.dat y), some (.dat sd), some (.dat (.list N)), none, none, none, none, some (.dat (.str w))], [], 0⟩) s.af [] (fun _ _ => rfl) (fun _ => rfl) (fun _ _ => rfl) (fun w _ _ => by simp [b_ahead_e2, j0, eJ])
  rw [List.filter_eq_self.mpr (fun _ _ => rfl), List.nil_append] at ec2
  have hA : (s.af.map fun w => eJ (j.1, w)) = (s.af.map fun w => (j.1, w)).map eJ := by rw [List.map_map]; rfl
  rw [hA] at ec2
  have hafl : (s.af.map fun w => (j.1, w)).length ≤ 6 := by simpa using hal
  have hAU : aheadU bk j s = (s.af.map fun w => (j.1, w)) ++ viaU bk s.us := rfl
  rw [hAU] at hso ⊢
  generalize (s.af.map fun w => (j.1, w)) = AF at *
  have key := forA_typed (g := tNames [6, 7]) (b := b_ahead_l1) eN (fun done fr => ∃ v6 v7, fr = ⟨[some (.dat (.tuple (bk.map eRc))), some (.dat d), some (.dat y), some (.dat sd), some (.dat (.list N)), some (.cel 0), v6, v7, none, none], [.lst ((AF ++ viaU bk done).map eJ)], 0⟩) s.us ⟨[some (.dat (.tuple (bk.map eRc))), some (.dat d), some (.dat y), some (.dat sd), some (.dat (.list N)), some (.cel 0), none, none, none, none], [.lst (AF.map eJ)], 0⟩ ⟨none, none, by simp [viaU]⟩ ?_
  · obtain ⟨fr', e, v6, v7, rfl⟩ := key
    have hal2 : (s.af.map PyData.str).length ≤ 1000000 := by simp; omega
    generalize (AF ++ viaU bk s.us).map eJ = FF at *
    generalize AF.map eJ = AA' at *
    generalize s.af.map PyData.str = SA at *
    generalize s.us.map eN = SU at *
    unfold m_ahead b_ahead
    simp [e1, ec1, s6, ec2, hal2, s5, e, dSorted, seqD, hso]
  · rintro done q rest fr he ⟨v6, v7, rfl⟩
    have hdl : (viaU bk done).length ≤ 6 * 5 := by
      have := viaU_len B done
      have : done.length ≤ 5 := by rw [he] at hul; simp at hul; omega
      omega
    have hi := hin q.1
    have hel := ends_len B q.1
    rw [viaU_snoc]
    refine ⟨_, _, rfl, .inl ?_, some (.dat (.str q.1)), none, rfl⟩
    by_cases hq : nmB bk q.1 = true
    · rw [if_pos hq]
      rw [hq] at hi
      have ee := t_ends B (nm_has.mp hq)
      generalize viaU bk done = V at *
      have ec := compA_typed (own := [9]) (g := tName 9) (t := xYes) (f := b_ahead_e3) (vars := [some (.dat (.tuple (bk.map eRc))), some (.dat d), some (.dat y), some (.dat sd), some (.dat (.list N)), some (.cel 0), some (.dat (.str q.1)), none, none, none]) (bs := 0) (cs := [.lst ((AF ++ V).map eJ)]) PyData.str (fun _ => true) (fun w => eJ (q.1, w)) (fun w => ⟨[some (.dat (.tuple (bk.map eRc))), some (.dat d), some (.dat y), some (.dat sd), some (.dat (.list N)), some (.cel 0), some (.dat (.str q.1)), none, none, some (.dat (.str w))], [.lst ((AF ++ V).map eJ)], 0⟩) (endsB bk q.1) [] (fun _ _ => rfl) (fun _ => rfl) (fun _ _ => rfl) (fun w _ _ => by simp [b_ahead_e3, eJ])
      rw [List.filter_eq_self.mpr (fun _ _ => rfl), List.nil_append] at ec
      have hE : (AF ++ (V ++ (endsB bk q.1).map fun w => (q.1, w))).map eJ = (AF ++ V).map eJ ++ (endsB bk q.1).map fun w => eJ (q.1, w) := by
        rw [← List.append_assoc, List.map_append, List.map_map]; rfl
      rw [hE]
      have hl1 : ((endsB bk q.1).map PyData.str).length ≤ 1000000 := by simp; omega
      have hl2 : ((AF ++ V).map eJ).length + ((endsB bk q.1).map fun w => eJ (q.1, w)).length ≤ 1000000 := by simp; omega
      generalize ((endsB bk q.1).map fun w => eJ (q.1, w)) = EJ at *
      generalize (AF ++ V).map eJ = FF at *
      generalize (endsB bk q.1).map PyData.str = ES at *
      unfold b_ahead_l1
      simp [hi, ee, ec, hl1, hl2]
    · rw [if_neg hq, List.append_nil]
      have hq2 := Bool.eq_false_iff.mpr hq
      rw [hq2] at hi
      generalize (AF ++ viaU bk done).map eJ = FF at *
      unfold b_ahead_l1
      simp [hi]
end
end G
/-! QD: what lies ahead, by the law. -/
namespace G
open PySem PySem.Spec PyProof.Rows L2
open PySem.W (dataLt dataLe alike keyToks)
section
variable {gs : List Gd} {bk : List Rcp} {DA MA : Nat} {rk : Str → Nat}
def endP (sts : List Stp) (s : Stp) : Bool := !(sts.any fun o => o.af.any fun x => x == s.w)
theorem ends_eq (bk : List Rcp) (n : Str) : endsB bk n = ((stepsB bk n).filter (endP (stepsB bk n))).map (·.w) := rfl
theorem t_law_ahead (B : BkO gs DA MA rk bk) (J : JbO bk) {j : Job} {s : Stp} (h : sfind bk j = some s) : m__law_ahead [.dat (.tuple (bk.map eRc)), .dat (eJ j)] [] = .ok (.dat (.list ((aheadB bk j).map eJ))) [] := by
  obtain ⟨r, hr, hrm, hrn, hsm, _⟩ := sfind_at h
  have hd : j.1 ∈ bk.map (·.nm) := List.mem_map.mpr ⟨r, hrm, hrn⟩
  have e1 := t_law_step_of B hd h
  have hbl := B.len
  obtain ⟨p0, q0, hsplit⟩ := List.append_of_mem hsm
  obtain ⟨_, hal, _, _⟩ := J.sp r hrm p0 s q0 hsplit
  have hul := B.sul r hrm s hsm
  have j0 := j_ix0 j
  have s5 := st_ix5 s
  have s6 := st_ix6 s
  have ha : aheadB bk j = srtT eJ (aheadU bk j s) := by unfold aheadB; rw [h]
  have hvl := viaU_len B s.us
  have hso := J_sort (xs := aheadU bk j s) (by unfold aheadU; simp; omega)
  rw [ha]
  have hin := in_nms (bk := bk)
  generalize eJ j = y at *
  generalize hy : eS s = sd at *
  have ec1 := xComp_typed (own := [9]) (g := tName 9) (t := xYes) (f := b__law_ahead_e1) (e := xItems (xVar 0)) (fr := ⟨[some (.dat (.tuple (bk.map eRc))), some (.dat y), some (.dat sd), none, none, none, none, none, none, none, none, none], [], 0⟩) eRc (fun _ => true) (fun r => .str r.nm) (fun r => ⟨[some (.dat (.tuple (bk.map eRc))), some (.dat y), some (.dat sd), none, none, none, none, none, none, some (.dat (eRc r)), none, none], [], 0⟩) bk (by simp) (by omega) (fun _ _ => rfl) (fun _ => rfl) (fun _ _ => rfl) (fun r _ _ => by simp [b__law_ahead_e1, rc_ix0])
  rw [List.filter_eq_self.mpr (fun _ _ => rfl)] at ec1
  generalize (bk.map fun r => PyData.str r.nm) = N at *
  have ec2 := compA_typed (own := [10]) (g := tName 10) (t := xYes) (f := b__law_ahead_e2) (vars := [some (.dat (.tuple (bk.map eRc))), some (.dat y), some (.dat sd), some (.dat (.list N)), none, none, none, none, none, none, none, none]) (bs := 0) (cs := []) PyData.str (fun _ => true) (fun w => eJ (j.1, w)) (fun w => ⟨[some (.dat (.tuple (bk.map eRc))), some (.dat y), some (.dat sd), some (.dat (.list N)), none, none, none, none, none, none, some (.dat (.str w)), none], [], 0⟩) s.af [] (fun _ _ => rfl) (fun _ => rfl) (fun _ _ => rfl) (fun w _ _ => by simp [b__law_ahead_e2, j0, eJ])
  rw [List.filter_eq_self.mpr (fun _ _ => rfl), List.nil_append] at ec2
  have hA : (s.af.map fun w => eJ (j.1, w)) = (s.af.map fun w => (j.1, w)).map eJ := by rw [List.map_map]; rfl
  rw [hA] at ec2
  have hafl : (s.af.map fun w => (j.1, w)).length ≤ 6 := by simpa using hal
  have hAU : aheadU bk j s = (s.af.map fun w => (j.1, w)) ++ viaU bk s.us := rfl
  rw [hAU] at hso ⊢
  generalize (s.af.map fun w => (j.1, w)) = AF at *
  have key := forA_typed (g := tNames [5, 6]) (b := b__law_ahead_l2) eN (fun done fr => ∃ v5 v6 v7 v8, fr = ⟨[some (.dat (.tuple (bk.map eRc))), some (.dat y), some (.dat sd), some (.dat (.list N)), some (.cel 0), v5, v6, v7, v8, none, none, none], [.lst ((AF ++ viaU bk done).map eJ)], 0⟩) s.us ⟨[some (.dat (.tuple (bk.map eRc))), some (.dat y), some (.dat sd), some (.dat (.list N)), some (.cel 0), none, none, none, none, none, none, none], [.lst (AF.map eJ)], 0⟩ ⟨none, none, none, none, by simp [viaU]⟩ ?_
  · obtain ⟨fr', e, v5, v6, v7, v8, rfl⟩ := key
    have hal2 : (s.af.map PyData.str).length ≤ 1000000 := by simp; omega
    generalize (AF ++ viaU bk s.us).map eJ = FF at *
    generalize AF.map eJ = AA' at *
    generalize s.af.map PyData.str = SA at *
    generalize s.us.map eN = SU at *
    unfold m__law_ahead b__law_ahead
    simp [e1, ec1, s6, ec2, hal2, s5, e, dSorted, seqD, hso]
  · rintro done q rest fr he ⟨v5, v6, v7, v8, rfl⟩
    have hdl : (viaU bk done).length ≤ 6 * 5 := by
      have := viaU_len B done
      have : done.length ≤ 5 := by rw [he] at hul; simp at hul; omega
      omega
    have hi := hin q.1
    rw [viaU_snoc]
    by_cases hq : nmB bk q.1 = true
    · rw [if_pos hq]
      rw [hq] at hi
      obtain ⟨r2, hr2, hrm2, _⟩ := has_nm (nm_has.mp hq)
      have er := t_law_recipe B hr2
      have hl2 := B.sl r2 hrm2
      rw [ends_eq, steps_eq hr2]
      generalize viaU bk done = V at *
      have key := forA_typed (g := tName 8) (b := b__law_ahead_l1) eS (fun done2 fr => ∃ v8, fr = ⟨[some (.dat (.tuple (bk.map eRc))), some (.dat y), some (.dat sd), some (.dat (.list N)), some (.cel 0), some (.dat (.str q.1)), none, some (.dat (.tuple (r2.sts.map eS))), v8, none, none, none], [.lst ((AF ++ (V ++ ((done2.filter (endP r2.sts)).map (·.w)).map fun w => (q.1, w))).map eJ)], 0⟩) r2.sts ⟨[some (.dat (.tuple (bk.map eRc))), some (.dat y), some (.dat sd), some (.dat (.list N)), some (.cel 0), some (.dat (.str q.1)), none, some (.dat (.tuple (r2.sts.map eS))), none, none, none, none], [.lst ((AF ++ V).map eJ)], 0⟩ ⟨none, by simp⟩ ?_
      · obtain ⟨fr', e, v8', rfl⟩ := key
        refine ⟨_, _, rfl, .inl ?_, some (.dat (.str q.1)), none, some (.dat (.tuple (r2.sts.map eS))), v8', rfl⟩
        have r22 := rc_ix2 r2
        generalize (AF ++ (V ++ ((r2.sts.filter (endP r2.sts)).map (·.w)).map fun w => (q.1, w))).map eJ = F2 at *
        generalize (AF ++ V).map eJ = F1 at *
        generalize eRc r2 = rr at *
        unfold b__law_ahead_l2
        simp [hi, er, r22, e]
      · rintro done2 o rest2 fr he2 ⟨v8', rfl⟩
        have ec := xComp_typed (own := [11]) (g := tName 11) (t := b__law_ahead_t1) (f := b__law_ahead_e3) (e := xItems (xVar 7)) (fr := ⟨[some (.dat (.tuple (bk.map eRc))), some (.dat y), some (.dat sd), some (.dat (.list N)), some (.cel 0), some (.dat (.str q.1)), none, some (.dat (.tuple (r2.sts.map eS))), some (.dat (eS o)), none, none, none], [.lst ((AF ++ (V ++ ((done2.filter (endP r2.sts)).map (·.w)).map fun w => (q.1, w))).map eJ)], 0⟩) eS (fun z => z.af.any fun x => x == o.w) eS (fun z => ⟨[some (.dat (.tuple (bk.map eRc))), some (.dat y), some (.dat sd), some (.dat (.list N)), some (.cel 0), some (.dat (.str q.1)), none, some (.dat (.tuple (r2.sts.map eS))), some (.dat (eS o)), none, none, some (.dat (eS z))], [.lst ((AF ++ (V ++ ((done2.filter (endP r2.sts)).map (·.w)).map fun w => (q.1, w))).map eJ)], 0⟩) r2.sts (by simp) (by omega) (fun _ _ => rfl) (fun _ => rfl) (fun z _ => by
          have hz := in_strsT (xs := z.af) (z := o.w)
          generalize (z.af.any fun x => x == o.w) = b at *
          simp [b__law_ahead_t1, st_ix0, st_ix6, hz]) (fun _ _ _ => by simp [b__law_ahead_e3])
        have hfe : (r2.sts.filter fun z => z.af.any fun x => x == o.w) = [] ↔ endP r2.sts o = true := by
          unfold endP
          rw [List.filter_eq_nil_iff, Bool.not_eq_true', Bool.eq_false_iff]
          constructor
          · intro h1 h2
            obtain ⟨z, hz, h3⟩ := List.any_eq_true.mp h2
            exact h1 z hz h3
          · intro h1 z hz h2
            exact h1 (List.any_eq_true.mpr ⟨z, hz, h2⟩)
        have hd2 : (done2.filter (endP r2.sts)).length ≤ 6 := by
          have h1 := List.length_filter_le (endP r2.sts) done2
          rw [he2] at hl2; simp at hl2; omega
        have hll : ((AF ++ (V ++ ((done2.filter (endP r2.sts)).map (·.w)).map fun w => (q.1, w))).map eJ).length < 1000000 := by simp; omega
        have eqn := eqv_nil eS (r2.sts.filter fun z => z.af.any fun x => x == o.w)
        have eqk := eqOk_nil (.list ((r2.sts.filter fun z => z.af.any fun x => x == o.w).map eS))
        have o0 := st_ix0 o
        rw [List.filter_append]
        refine ⟨_, _, rfl, .inl ?_, some (.dat (eS o)), rfl⟩
        by_cases ho : endP r2.sts o = true
        · rw [decide_eq_true (hfe.mpr ho)] at eqn
          have hfs : (AF ++ (V ++ ((done2.filter (endP r2.sts) ++ [o].filter (endP r2.sts)).map (·.w)).map fun w => (q.1, w))).map eJ = (AF ++ (V ++ ((done2.filter (endP r2.sts)).map (·.w)).map fun w => (q.1, w))).map eJ ++ [eJ (q.1, o.w)] := by
            rw [List.filter_cons_of_pos ho, List.filter_nil]; simp
          rw [hfs]
          have hJ : eJ (q.1, o.w) = .tuple [.str q.1, .str o.w] := rfl
          rw [hJ]
          generalize (AF ++ (V ++ ((done2.filter (endP r2.sts)).map (·.w)).map fun w => (q.1, w))).map eJ = F1 at *
          generalize (r2.sts.filter fun z => z.af.any fun x => x == o.w).map eS = FZ at *
          generalize eS o = od at *
          unfold b__law_ahead_l1
          simp [ec, dEq, eqn, eqk, o0, hll]
        · rw [decide_eq_false (fun e => ho (hfe.mp e))] at eqn
          have hfs : [o].filter (endP r2.sts) = [] := by rw [List.filter_cons_of_neg ho, List.filter_nil]
          rw [hfs, List.append_nil]
          generalize (AF ++ (V ++ ((done2.filter (endP r2.sts)).map (·.w)).map fun w => (q.1, w))).map eJ = F1 at *
          generalize (r2.sts.filter fun z => z.af.any fun x => x == o.w).map eS = FZ at *
          generalize eS o = od at *
          unfold b__law_ahead_l1
          simp [ec, dEq, eqn, eqk]
    · rw [if_neg hq, List.append_nil]
      have hq2 := Bool.eq_false_iff.mpr hq
      rw [hq2] at hi
      refine ⟨_, _, rfl, .inl ?_, some (.dat (.str q.1)), none, some (.dat (.tuple [])), none, rfl⟩
      generalize (AF ++ viaU bk done).map eJ = FF at *
      unfold b__law_ahead_l2
      simp [hi, forA]
end
end G
/-! QE: jobs come behind what lies ahead of them. -/
namespace G
open PySem PySem.Spec PyProof.Rows L2
open PySem.W (dataLt dataLe alike keyToks)
section
variable {gs : List Gd} {bk : List Rcp} {DA MA : Nat} {rk : Str → Nat}
/-- a measure that falls -/
def rho (bk : List Rcp) (rk : Str → Nat) (j : Job) : Nat := 3 * rk j.1 + (wordsOf (stepsB bk j.1)).idxOf j.2
theorem sfind_of (J : JbO bk) {d : Str} {r : Rcp} (hr : rfind bk d = some r) {s : Stp} (hs : s ∈ r.sts) : sfind bk (d, s.w) = some s := by
  have nd := J.nd r (List.mem_of_find?_eq_some hr)
  unfold sfind
  rw [steps_eq hr]
  show r.sts.find? (fun z => z.w == s.w) = some s
  generalize r.sts = l at *
  induction l with
  | nil => cases hs
  | cons x l ih =>
    unfold wordsOf at nd
    rw [List.map_cons, List.nodup_cons] at nd
    rw [List.find?_cons]
    rcases List.mem_cons.mp hs with rfl | h
    · simp
    · have : (x.w == s.w) = false := by
        rw [Bool.eq_false_iff]
        intro e
        have e : x.w = s.w := by simpa using e
        exact nd.1 (List.mem_map.mpr ⟨s, h, e.symm⟩)
      rw [this]
      exact ih h nd.2
theorem mem_ends {n w : Str} : w ∈ endsB bk n → ∃ s ∈ stepsB bk n, s.w = w := fun h => by
  obtain ⟨s, hs, e⟩ := List.mem_map.mp h
  exact ⟨s, (List.mem_filter.mp hs).1, e⟩
theorem mem_ahead {j o : Job} {s : Stp} (h : sfind bk j = some s) : o ∈ aheadB bk j ↔ (∃ w ∈ s.af, o = (j.1, w)) ∨ ∃ q ∈ s.us, nmB bk q.1 = true ∧ ∃ w ∈ endsB bk q.1, o = (q.1, w) := by
  unfold aheadB
  rw [h]
  show o ∈ srtT eJ (aheadU bk j s) ↔ _
  rw [(srtT_perm eJ _).mem_iff]
  unfold aheadU viaU
  rw [List.mem_append, List.mem_map, List.mem_flatMap]
  constructor
  · rintro (⟨w, h1, rfl⟩ | ⟨q, h1, h2⟩)
    · exact .inl ⟨w, h1, rfl⟩
    · by_cases hq : nmB bk q.1 = true
      · rw [if_pos hq] at h2
        obtain ⟨w, h3, rfl⟩ := List.mem_map.mp h2
        exact .inr ⟨q, h1, hq, w, h3, rfl⟩
      · rw [if_neg hq] at h2; cases h2
  · rintro (⟨w, h1, rfl⟩ | ⟨q, h1, hq, w, h3, rfl⟩)
    · exact .inl ⟨w, h1, rfl⟩
    · exact .inr ⟨q, h1, by rw [if_pos hq]; exact List.mem_map.mpr ⟨w, h3, rfl⟩⟩
theorem used_of {d : Str} {r : Rcp} (hr : rfind bk d = some r) {s : Stp} (hs : s ∈ r.sts) {q : Str × Rat} (hq : q ∈ s.us) (hn : nmB bk q.1 = true) : q.1 ∈ usB bk d := by
  unfold usB
  rw [hr]
  refine (srtS_perm _).mem_iff.mpr (((keysB_spec bk (usesOf r)).2.1 q.1).mpr ⟨List.mem_map.mpr ⟨q, List.mem_flatMap.mpr ⟨s, hs, hq⟩, rfl⟩, nm_has.mp hn⟩)
/-- what lies ahead is there, and measures less -/
theorem ahead_less (B : BkO gs DA MA rk bk) (J : JbO bk) {j o : Job} {s : Stp} (h : sfind bk j = some s) (ho : o ∈ aheadB bk j) : (∃ s', sfind bk o = some s') ∧ rho bk rk o < rho bk rk j := by
  obtain ⟨r, hr, hrm, hrn, hsm, hsw⟩ := sfind_at h
  have nd := J.nd r hrm
  rcases (mem_ahead h).mp ho with ⟨w, hw, rfl⟩ | ⟨q, hq, hn, w, hw, rfl⟩
  · obtain ⟨pre, post, e⟩ := List.append_of_mem hsm
    have hwp := (J.sp r hrm pre s post e).1 w hw
    obtain ⟨s', hs', rfl⟩ := List.mem_map.mp hwp
    refine ⟨⟨s', sfind_of J hr (by rw [e]; exact List.mem_append_left _ hs')⟩, ?_⟩
    unfold rho
    rw [steps_eq hr]
    have hws : wordsOf r.sts = wordsOf pre ++ s.w :: wordsOf post := by rw [e]; simp [wordsOf]
    rw [hws] at nd ⊢
    rw [List.nodup_append] at nd
    have hno : s.w ∉ wordsOf pre := fun z => nd.2.2 _ z _ (List.mem_cons_self ..) rfl
    have h1 := List.idxOf_lt_length_of_mem hwp
    rw [← hsw]
    show 3 * rk j.1 + _ < 3 * rk j.1 + _
    rw [List.idxOf_append, if_pos hwp, List.idxOf_append, if_neg hno]
    have h1' : List.idxOf s'.w (wordsOf pre) < (wordsOf pre).length := h1
    show 3 * rk j.1 + List.idxOf s'.w (wordsOf pre) < _
    omega
  · have hu := used_of hr hsm hq hn
    have hlt := usB_rk B j.1 q.1 hu
    obtain ⟨r2, hr2, hrm2, _⟩ := has_nm (nm_has.mp hn)
    obtain ⟨s', hs', hw'⟩ := mem_ends hw
    rw [steps_eq hr2] at hs'
    refine ⟨⟨s', by rw [← hw']; exact sfind_of J hr2 hs'⟩, ?_⟩
    unfold rho
    show 3 * rk q.1 + _ < _
    rw [steps_eq hr2]
    have h1 : w ∈ wordsOf r2.sts := List.mem_map.mpr ⟨s', hs', hw'⟩
    have h2 := List.idxOf_lt_length_of_mem h1
    have h3 := J.sl r2 hrm2
    have h4 : (wordsOf r2.sts).length ≤ 3 := by simpa [wordsOf] using h3
    show 3 * rk q.1 + (wordsOf r2.sts).idxOf w < _
    omega
/-- behind what lies ahead, or behind some others -/
def OrdR (bk : List Rcp) (U L : List Job) : Prop := ∀ pre j post, L = pre ++ j :: post → ∀ o ∈ aheadB bk j, o ∈ U ++ pre
theorem ord_app {U L : List Job} (h1 : OrdR bk [] U) (h2 : OrdR bk U L) : OrdR bk [] (U ++ L) := by
  intro pre j post e o ho
  rw [List.nil_append]
  rcases List.append_eq_append_iff.mp e with ⟨a, e1, e2⟩ | ⟨c, e1, e2⟩
  · have := h2 a j post e2 o ho
    rw [e1]; exact this
  · cases c with
    | nil =>
      rw [List.nil_append] at e2
      rw [List.append_nil] at e1
      have := h2 [] j post e2.symm o ho
      rw [List.append_nil] at this
      rwa [← e1]
    | cons x c =>
      rw [List.cons_append] at e2
      cases e2
      have := h1 pre j c e1 o ho
      simpa using this
theorem ord_filter {U : List Job} : ∀ (L : List Job), OrdR bk [] L → OrdR bk U (L.filter fun j => !hasJ U j) := by
  refine snoc_ind (P := fun L : List Job => OrdR bk [] L → OrdR bk U (L.filter fun j => !hasJ U j)) (fun _ pre j post e => by simp at e) fun L x ih h => ?_
  have hL : OrdR bk [] L := fun pre j post e o ho => h pre j (post ++ [x]) (by rw [e]; simp) o ho
  rw [List.filter_append]
  by_cases hx : hasJ U x = true
  · have : [x].filter (fun j => !hasJ U j) = [] := by simp [hx]
    rw [this, List.append_nil]
    exact ih hL
  · have : [x].filter (fun j => !hasJ U j) = [x] := by simp [hx]
    rw [this]
    intro pre j post e o ho
    rcases List.append_eq_append_iff.mp e with ⟨a, e1, e2⟩ | ⟨c, e1, e2⟩
    · cases a with
      | nil =>
        rw [List.nil_append] at e2
        cases e2
        rw [List.append_nil] at e1
        have := h L x [] rfl o ho
        rw [List.nil_append] at this
        rw [e1, List.mem_append]
        by_cases hu : hasJ U o = true
        · left
          obtain ⟨z, hz, e⟩ := List.any_eq_true.mp hu
          have : z = o := by simpa using e
          rwa [this] at hz
        · right
          exact List.mem_filter.mpr ⟨this, by simp [hu]⟩
      | cons y a =>
        rw [List.cons_append] at e2
        have := (List.cons.inj e2).2
        simp at this
    · cases c with
      | nil =>
        rw [List.nil_append] at e2
        cases e2
        rw [List.append_nil] at e1
        have := h L x [] rfl o ho
        rw [List.nil_append] at this
        rw [← e1, List.mem_append]
        by_cases hu : hasJ U o = true
        · left
          obtain ⟨z, hz, e⟩ := List.any_eq_true.mp hu
          have : z = o := by simpa using e
          rwa [this] at hz
        · right
          exact List.mem_filter.mpr ⟨this, by simp [hu]⟩
      | cons y c =>
        rw [List.cons_append] at e2
        have e3 := (List.cons.inj e2).1
        subst e3
        exact ih hL pre j c e1 o ho
theorem mem_jobsU {f : Str → List Job} {ns : List Str} {j : Job} : j ∈ jobsU f ns ↔ ∃ n ∈ ns, j ∈ f n := by
  have : ∀ ns : List Str, (j ∈ jobsU f ns ↔ ∃ n ∈ ns, j ∈ f n) := by
    refine snoc_ind (P := fun ns : List Str => (j ∈ jobsU f ns ↔ ∃ n ∈ ns, j ∈ f n)) (by simp [jobsU]) fun ns n ih => ?_
    rw [jobsU_snoc, List.mem_append, List.mem_filter, ih]
    constructor
    · rintro (⟨m, h1, h2⟩ | ⟨h1, _⟩)
      · exact ⟨m, List.mem_append_left _ h1, h2⟩
      · exact ⟨n, by simp, h1⟩
    · rintro ⟨m, h1, h2⟩
      rcases List.mem_append.mp h1 with h1 | h1
      · exact .inl ⟨m, h1, h2⟩
      · cases List.mem_singleton.mp h1
        by_cases hu : hasJ (jobsU f ns) j = true
        · left
          obtain ⟨z, hz, e⟩ := List.any_eq_true.mp hu
          have : z = j := by simpa using e
          rw [this] at hz
          exact ih.mp hz
        · exact .inr ⟨h2, by simp [hu]⟩
  exact this ns
theorem mem_jobs (B : BkO gs DA MA rk bk) (J : JbO bk) : ∀ (k : Nat) (d : Str) (j : Job), j ∈ jobsF bk k d → ∃ s, sfind bk j = some s
  | 0, d, j, h => by simp [jobsF] at h
  | k + 1, d, j, h => by
    rw [jobsF, List.mem_append] at h
    rcases h with h | h
    · obtain ⟨n, _, h⟩ := mem_jobsU.mp h
      exact mem_jobs B J k n j h
    · obtain ⟨s, hs, rfl⟩ := List.mem_map.mp h
      unfold stepsB at hs
      cases hr : rfind bk d with
      | none => rw [hr] at hs; cases hs
      | some r =>
        rw [hr] at hs
        exact ⟨s, sfind_of J hr hs⟩
theorem jobs_ord (B : BkO gs DA MA rk bk) (J : JbO bk) : ∀ (k : Nat) (d : Str), rk d < k → OrdR bk [] (jobsF bk k d)
  | 0, _, h => by omega
  | k + 1, d, h => by
    rw [jobsF]
    have hU : ∀ ns : List Str, (∀ n ∈ ns, rk n < k) → OrdR bk [] (jobsU (jobsF bk k) ns) := by
      refine snoc_ind (P := fun ns : List Str => (∀ n ∈ ns, rk n < k) → OrdR bk [] (jobsU (jobsF bk k) ns)) (fun _ pre j post e => by simp [jobsU] at e) fun ns n ih hn => ?_
      rw [jobsU_snoc]
      exact ord_app (ih fun m hm => hn m (List.mem_append_left _ hm)) (ord_filter _ (jobs_ord B J k n (hn n (by simp))))
    refine ord_app (hU _ fun n hn => by have := usB_rk B d n hn; omega) ?_
    intro pre j post e o ho
    unfold stepsB at e
    cases hr : rfind bk d with
    | none => rw [hr] at e; simp at e
    | some r =>
      rw [hr] at e
      change r.sts.map (fun s => (d, s.w)) = _ at e
      obtain ⟨l1, l2, e1, rfl, e2⟩ := List.map_eq_append_iff.mp e
      obtain ⟨s, l3, rfl, rfl, _⟩ := List.map_eq_cons_iff.mp e2
      have hsm : s ∈ r.sts := by rw [e1]; simp
      have hrm := List.mem_of_find?_eq_some hr
      have hsf := sfind_of J hr hsm
      rw [List.mem_append]
      rcases (mem_ahead hsf).mp ho with ⟨w, hw, rfl⟩ | ⟨q, hq, hn, w, hw, rfl⟩
      · right
        obtain ⟨s', hs', rfl⟩ := List.mem_map.mp ((J.sp r hrm l1 s l3 e1).1 w hw)
        exact List.mem_map.mpr ⟨s', hs', rfl⟩
      · left
        have hu := used_of hr hsm hq hn
        have hlt := usB_rk B d q.1 hu
        refine mem_jobsU.mpr ⟨q.1, hu, ?_⟩
        obtain ⟨k2, rfl⟩ : ∃ k2, k = k2 + 1 := ⟨k - 1, by omega⟩
        rw [jobsF, List.mem_append]
        right
        obtain ⟨s', hs', hw'⟩ := mem_ends hw
        exact List.mem_map.mpr ⟨s', hs', by rw [hw']⟩
end
end G
/-! QF: the longest row of jobs. -/
namespace G
open PySem PySem.Spec PyProof.Rows L2
open PySem.W (dataLt dataLe alike keyToks)
def b_least_minutes_e1 : Fr → Res AV :=
  xDGet (xVar 2) (xVar 5)
def b_least_minutes_l1 : Fr → SRes :=
  sKill [4] (sSeq (sSet 4 (xB1 dMaxDf (xCons (xComp [5] (xItems (xCall m_ahead (xCons (xVar 0) (xCons (xVar 1) (xCons (xVar 3) (xNil)))))) (tName 5) (xYes) (b_least_minutes_e1)) (xCons (xC (.int 0)) (xNil)))))
  (sDSet 2 (xVar 3) (xOp2 dAdd (xVar 4) (xIx (xCall m_step_of (xCons (xVar 0) (xCons (xVar 3) (xNil)))) (xC (.int 2))))))
def b_least_minutes : Fr → SRes :=
  sSeq (sSet 2 (xNewD true))
  (sSeq (sFor (xItems (xCall (m_jobs 12) (xCons (xVar 0) (xCons (xVar 1) (xNil))))) (tName 3) (b_least_minutes_l1))
  (sKill [3, 4] (sRet (xD1 dMaxV (xVar 2)))))
def m_least_minutes : AFun := mkFun 6 2 b_least_minutes

def b__law_longest_l1 (self : AFun) : Fr → SRes :=
  sSet 2 (xB1 dMax2 (xCons (xVar 2) (xCons (xCall self (xCons (xVar 0) (xCons (xOp2 dAdd (xVar 1) (xLst (xCons (xVar 3) (xNil)))) (xNil)))) (xNil))))
def b__law_longest (self : AFun) : Fr → SRes :=
  sSeq (sSet 2 (xC (.int 0)))
  (sSeq (sFor (xItems (xCall m__law_ahead (xCons (xVar 0) (xCons (xIx (xVar 1) (xOp1 dNeg (xC (.int 1)))) (xNil))))) (tName 3) (b__law_longest_l1 self))
  (sKill [3] (sRet (xOp2 dAdd (xVar 2) (xIx (xCall m__law_step_of (xCons (xVar 0) (xCons (xIx (xVar 1) (xOp1 dNeg (xC (.int 1)))) (xNil)))) (xC (.int 2)))))))
def m__law_longest : Nat → AFun
  | 0 => fun _ _ => .err
  | n + 1 => mkFun 4 2 (b__law_longest (m__law_longest n))

def mnB (bk : List Rcp) (j : Job) : Int := match sfind bk j with
  | some s => s.mn
  | none => 0
def mxL (xs : List Int) : Int := xs.foldl max 0
def longF (bk : List Rcp) : Nat → Job → Int
  | 0, _ => 0
  | k + 1, j => mxL ((aheadB bk j).map (longF bk k)) + mnB bk j
theorem mxL_snoc (xs : List Int) (x : Int) : mxL (xs ++ [x]) = max (mxL xs) x := by unfold mxL; rw [List.foldl_append]; rfl
section
variable {gs : List Gd} {bk : List Rcp} {DA MA : Nat} {rk : Str → Nat}
/-- the longest, by any count of turns that suffices -/
theorem long_up (B : BkO gs DA MA rk bk) (J : JbO bk) : ∀ (k l : Nat) (j : Job) (s : Stp), sfind bk j = some s → rho bk rk j < k → rho bk rk j < l → longF bk k j = longF bk l j
  | 0, _, _, _, _, h, _ => by omega
  | _ + 1, 0, _, _, _, _, h => by omega
  | k + 1, l + 1, j, s, hs, h1, h2 => by
    rw [longF, longF]
    congr 2
    refine List.map_congr_left fun o ho => ?_
    obtain ⟨⟨s', hs'⟩, hlt⟩ := ahead_less B J hs ho
    exact long_up B J k l o s' hs' (by omega) (by omega)
abbrev lngB (bk : List Rcp) (j : Job) : Int := longF bk 12 j
theorem lng_eq (B : BkO gs DA MA rk bk) (J : JbO bk) {j : Job} {s : Stp} (hs : sfind bk j = some s) (hr : rho bk rk j < 12) : lngB bk j = mxL ((aheadB bk j).map (lngB bk)) + s.mn := by
  unfold lngB
  rw [longF]
  have : mnB bk j = s.mn := by unfold mnB; rw [hs]
  rw [this]
  congr 2
  refine List.map_congr_left fun o ho => ?_
  obtain ⟨⟨s', hs'⟩, hlt⟩ := ahead_less B J hs ho
  exact long_up B J 11 12 o s' hs' (by omega) (by omega)
theorem j_last (xs : List Job) (j : Job) : dIx (.list ((xs ++ [j]).map eJ)) (.int (-1)) = some (eJ j) := by
  have h1 : (1 : Int) ≤ ↑xs.length + 1 := by omega
  have h2 : (-1 + ((xs.length : Int) + 1)).toNat = xs.length := by omega
  have h3 : (xs.map eJ ++ [eJ j])[xs.length]? = some (eJ j) := by
    rw [List.getElem?_append_right (by simp)]; simp
  simp [dIx, atI, ixN, h1, h2, h3]
theorem ahead_len (B : BkO gs DA MA rk bk) (J : JbO bk) {j : Job} {s : Stp} (h : sfind bk j = some s) : (aheadB bk j).length ≤ 36 := by
  obtain ⟨r, hr, hrm, hrn, hsm, _⟩ := sfind_at h
  obtain ⟨p0, q0, hsplit⟩ := List.append_of_mem hsm
  obtain ⟨_, hal, _, _⟩ := J.sp r hrm p0 s q0 hsplit
  have hul := B.sul r hrm s hsm
  have hvl := viaU_len B s.us
  unfold aheadB
  rw [h]
  show (srtT eJ (aheadU bk j s)).length ≤ 36
  rw [(srtT_perm eJ _).length_eq]
  unfold aheadU
  simp; omega
theorem st_ix2' (s : Stp) : dIx (eS s) (.int 2) = some (.int s.mn) := st_ix2 s
theorem t_longest (B : BkO gs DA MA rk bk) (J : JbO bk) : ∀ (k : Nat) (xs : List Job) (j : Job) (s : Stp), sfind bk j = some s → rho bk rk j < k → xs.length + k ≤ 100 → m__law_longest k [.dat (.tuple (bk.map eRc)), .dat (.list ((xs ++ [j]).map eJ))] [] = .ok (.dat (.int (longF bk k j))) []
  | 0, _, _, _, _, h, _ => by omega
  | k + 1, xs, j, s, hs, h, hl => by
    have hd : j.1 ∈ bk.map (·.nm) := by
      obtain ⟨r, _, hrm, hrn, _⟩ := sfind_at hs
      exact List.mem_map.mpr ⟨r, hrm, hrn⟩
    have ea := t_law_ahead B J hs
    have es := t_law_step_of B hd hs
    have jl := j_last xs j
    have s2 := st_ix2 s
    have hmn : mnB bk j = s.mn := by unfold mnB; rw [hs]
    have rowl : ((xs ++ [j]).map eJ).length = xs.length + 1 := by simp
    have key := forA_typed (g := tName 3) (b := b__law_longest_l1 (m__law_longest k)) eJ (fun done fr => ∃ v3, fr = ⟨[some (.dat (.tuple (bk.map eRc))), some (.dat (.list ((xs ++ [j]).map eJ))), some (.dat (.int (mxL (done.map (longF bk k))))), v3], [], 0⟩) (aheadB bk j) ⟨[some (.dat (.tuple (bk.map eRc))), some (.dat (.list ((xs ++ [j]).map eJ))), some (.dat (.int (mxL []))), none], [], 0⟩ ⟨none, rfl⟩ ?_
    · obtain ⟨fr', e, v3, rfl⟩ := key
      have m0 : mxL [] = 0 := rfl
      rw [m0] at e
      rw [longF, hmn]
      generalize mxL ((aheadB bk j).map (longF bk k)) = M at *
      generalize (aheadB bk j).map eJ = AH at *
      generalize (xs ++ [j]).map eJ = RW at *
      generalize eJ j = jd at *
      generalize eS s = sd at *
      show mkFun 4 2 (b__law_longest (m__law_longest k)) _ _ = _
      unfold b__law_longest
      simp [dNeg, jl, ea, e, es, s2, dAdd]
    · rintro done o rest fr he ⟨v3, rfl⟩
      obtain ⟨hm, _, _⟩ := take_of he
      obtain ⟨⟨s', hs'⟩, hlt⟩ := ahead_less B J hs hm
      have ih := t_longest B J k (xs ++ [j]) o s' hs' (by omega) (by simp; omega)
      have hR : ((xs ++ [j]) ++ [o]).map eJ = (xs ++ [j]).map eJ ++ [eJ o] := by rw [List.map_append]; rfl
      rw [hR] at ih
      have hD : (done ++ [o]).map (longF bk k) = done.map (longF bk k) ++ [longF bk k o] := by rw [List.map_append]; rfl
      rw [hD, mxL_snoc]
      have hl2 : ((xs ++ [j]).map eJ).length + 1 ≤ 1000000 := by rw [rowl]; omega
      refine ⟨_, _, rfl, .inl ?_, some (.dat (eJ o)), rfl⟩
      have hmx : (if mxL (done.map (longF bk k)) < longF bk k o then longF bk k o else mxL (done.map (longF bk k))) = max (mxL (done.map (longF bk k))) (longF bk k o) := by
        rw [Int.max_def]; split <;> split <;> omega
      generalize mxL (done.map (longF bk k)) = M at *
      generalize longF bk k o = Lo at *
      generalize (xs ++ [j]).map eJ = RW at *
      generalize eJ o = od at *
      unfold b__law_longest_l1
      simp [dAdd, hl2, ih, dMax2, hmx]
end
end G
/-! QG: the least minutes. -/
namespace G
open PySem PySem.Spec PyProof.Rows L2
open PySem.W (dataLt dataLe alike keyToks)
theorem kOk_J (j : Job) : kOk true (eJ j) = true := rfl
theorem intsD_map (xs : List Int) : intsD (xs.map .int) = some xs := by
  induction xs with
  | nil => rfl
  | cons x xs ih => rw [List.map_cons, intsD, ih]
theorem mxL_ge (xs : List Int) : 0 ≤ mxL xs := (fold_max 0 xs).2 0 (List.mem_cons_self ..)
theorem mxL_max {xs : List Int} (h : ∀ x ∈ xs, 0 ≤ x) (h0 : xs ≠ []) : maxI xs = mxL xs := by
  obtain ⟨m1, m2⟩ := maxI_spec (is := xs) h0
  obtain ⟨g1, g2⟩ := fold_max 0 xs
  refine Int.le_antisymm (g2 _ (List.mem_cons_of_mem _ m1)) ?_
  rcases List.mem_cons.mp g1 with e | e
  · show xs.foldl max 0 ≤ _
    rw [e]; exact h _ m1
  · exact m2 _ e
theorem maxDf_mx {xs : List Int} (h : ∀ x ∈ xs, 0 ≤ x) : dMaxDf [.list (xs.map .int), .int 0] = some (.int (mxL xs)) := by
  unfold dMaxDf
  simp only [intsD_map]
  cases xs with
  | nil => rfl
  | cons x xs => rw [← mxL_max h (by simp)]
section
variable {gs : List Gd} {bk : List Rcp} {DA MA : Nat} {rk : Str → Nat}
/-- the table's row of a job -/
def eLg (bk : List Rcp) (j : Job) : PyData × PyData := (eJ j, .int (lngB bk j))
def addJ (ks : List Job) (j : Job) : List Job := if hasJ ks j = true then ks else ks ++ [j]
theorem hasJ_iff {ks : List Job} {j : Job} : hasJ ks j = true ↔ j ∈ ks := by
  unfold hasJ
  rw [List.any_eq_true]
  constructor
  · rintro ⟨x, h, e⟩
    have : x = j := by simpa using e
    exact this ▸ h
  · exact fun h => ⟨j, h, by simp⟩
theorem kfind_J (ks : List Job) (j : Job) : kfind (ks.map (eLg bk)) (eJ j) = if hasJ ks j = true then some (.int (lngB bk j)) else none := by
  unfold kfind
  rw [List.find?_map]
  have : ((fun q : PyData × PyData => PyData.eqv q.1 (eJ j)) ∘ eLg bk) = fun x : Job => x == j := by
    funext x; exact eqv_J x j
  rw [this]
  by_cases h : hasJ ks j = true
  · rw [if_pos h]
    cases q : ks.find? fun x => x == j with
    | none =>
      have := List.find?_eq_none.mp q j (hasJ_iff.mp h)
      simp at this
    | some x =>
      have hx : x = j := by have := List.find?_some q; simpa using this
      subst hx; rfl
  · rw [if_neg h]
    have : ks.find? (fun x => x == j) = none := List.find?_eq_none.mpr fun x hx e => h (List.any_eq_true.mpr ⟨x, hx, e⟩)
    rw [this]; rfl
theorem kput_J (ks : List Job) (j : Job) : kput (ks.map (eLg bk)) (eJ j) (.int (lngB bk j)) = (addJ ks j).map (eLg bk) := by
  unfold kput addJ
  rw [kfind_J]
  by_cases h : hasJ ks j = true
  · rw [if_pos h, if_pos (show (some _ : Option PyData).isSome = true from rfl), if_pos h, List.map_map]
    refine List.map_congr_left fun x _ => ?_
    show (if PyData.eqv (eJ x) (eJ j) = true then (eJ x, .int (lngB bk j)) else eLg bk x) = eLg bk x
    rw [eqv_J]
    by_cases e : (x == j) = true
    · rw [if_pos e]
      have : x = j := by simpa using e
      subst this; rfl
    · rw [if_neg e]
  · rw [if_neg h, if_neg (show ¬ (none : Option PyData).isSome = true from Bool.false_ne_true), if_neg h, List.map_append]; rfl
def ksJ (js : List Job) : List Job := js.foldl addJ []
theorem ksJ_snoc (js : List Job) (j : Job) : ksJ (js ++ [j]) = addJ (ksJ js) j := by unfold ksJ; rw [List.foldl_append]; rfl
theorem mem_addJ {ks : List Job} {i j : Job} : i ∈ addJ ks j ↔ i ∈ ks ∨ i = j := by
  unfold addJ
  by_cases h : hasJ ks j = true
  · rw [if_pos h]
    exact ⟨.inl, fun z => z.elim id fun e => e ▸ hasJ_iff.mp h⟩
  · rw [if_neg h]; simp
theorem mem_ksJ {i : Job} : ∀ js : List Job, (i ∈ ksJ js ↔ i ∈ js) := by
  refine snoc_ind (P := fun js : List Job => (i ∈ ksJ js ↔ i ∈ js)) (by simp [ksJ]) fun js j ih => ?_
  rw [ksJ_snoc, mem_addJ, ih, List.mem_append, List.mem_singleton]
theorem ksJ_len : ∀ js : List Job, (ksJ js).length ≤ js.length := by
  refine snoc_ind (P := fun js : List Job => (ksJ js).length ≤ js.length) (by simp [ksJ]) fun js j ih => ?_
  rw [ksJ_snoc]
  unfold addJ
  split <;> simp <;> omega
theorem rho_12 (J : JbO bk) {j : Job} {s : Stp} (h : sfind bk j = some s) (hr : rk j.1 ≤ 3) : rho bk rk j < 12 := by
  obtain ⟨r, hrf, hrm, _, hsm, hsw⟩ := sfind_at h
  unfold rho
  rw [steps_eq hrf]
  have h1 : j.2 ∈ wordsOf r.sts := List.mem_map.mpr ⟨s, hsm, hsw⟩
  have h2 := List.idxOf_lt_length_of_mem h1
  have h3 : (wordsOf r.sts).length ≤ 3 := by simpa [wordsOf] using J.sl r hrm
  omega
theorem mn_of (J : JbO bk) {j : Job} {s : Stp} (h : sfind bk j = some s) : 1 ≤ s.mn := by
  obtain ⟨r, _, hrm, _, hsm, _⟩ := sfind_at h
  obtain ⟨p0, q0, e⟩ := List.append_of_mem hsm
  exact (J.sp r hrm p0 s q0 e).2.2.1
theorem t_least (B : BkO gs DA MA rk bk) (J : JbO bk) (h3 : ∀ r ∈ bk, rk r.nm ≤ 3) {d : Str} (hd : d ∈ bk.map (·.nm)) : m_least_minutes [.dat (.tuple (bk.map eRc)), .dat (.str d)] [] = .ok (.dat (.int (maxI ((jobsF bk 12 d).map (lngB bk))))) [] := by
  obtain ⟨r, hr, hrm, hrn⟩ := has_nm hd
  have hrk : rk d ≤ 3 := by rw [← hrn]; exact h3 r hrm
  have ej := (t_jobs B 3 12 d hd hrk (by decide) (by decide)).1
  have ord := jobs_ord B J 12 d (by omega)
  have val : ∀ j ∈ jobsF bk 12 d, ∃ s, sfind bk j = some s ∧ rho bk rk j < 12 ∧ j.1 ∈ bk.map (·.nm) := fun j hj => by
    obtain ⟨s, hs⟩ := mem_jobs B J 12 d j hj
    obtain ⟨r', _, hrm', hrn', _⟩ := sfind_at hs
    exact ⟨s, hs, rho_12 J hs (by rw [← hrn']; exact h3 r' hrm'), List.mem_map.mpr ⟨r', hrm', hrn'⟩⟩
  have jl := jobs_len B 3 12 d hrk
  have jl2 : (jobsF bk 12 d).length ≤ 30000 := Nat.le_trans jl (by decide)
  have hne : jobsF bk 12 d ≠ [] := fun e => by
    have : jobsF bk (11 + 1) d = [] := e
    rw [jobsF] at this
    have h1 := (List.append_eq_nil_iff.mp this).2
    rw [List.map_eq_nil_iff, steps_eq hr] at h1
    have := J.s0 r hrm
    rw [h1] at this; simp at this
  generalize hjs : jobsF bk 12 d = js at *
  have key := forA_typed (g := tName 3) (b := b_least_minutes_l1) eJ (fun done fr => ∃ v3 v4, fr = ⟨[some (.dat (.tuple (bk.map eRc))), some (.dat (.str d)), some (.cel 0), v3, v4, none], [.dct true ((ksJ done).map (eLg bk))], 0⟩) js ⟨[some (.dat (.tuple (bk.map eRc))), some (.dat (.str d)), some (.cel 0), none, none, none], [.dct true []], 0⟩ ⟨none, none, rfl⟩ ?_
  · obtain ⟨fr', e, v3, v4, rfl⟩ := key
    have hks : ksJ js ≠ [] := fun e => by
      cases js with
      | nil => exact hne rfl
      | cons x js =>
        have := (mem_ksJ (i := x) (x :: js)).mpr (List.mem_cons_self ..)
        rw [e] at this; cases this
    have hmx : maxI ((ksJ js).map (lngB bk)) = maxI (js.map (lngB bk)) := by
      obtain ⟨a1, a2⟩ := maxI_spec (is := (ksJ js).map (lngB bk)) (by simpa using hks)
      obtain ⟨b1, b2⟩ := maxI_spec (is := js.map (lngB bk)) (by simpa using hne)
      obtain ⟨x, hx, ex⟩ := List.mem_map.mp a1
      obtain ⟨y, hy, ey⟩ := List.mem_map.mp b1
      refine Int.le_antisymm (b2 _ ?_) (a2 _ ?_)
      · rw [← ex]; exact List.mem_map.mpr ⟨x, (mem_ksJ js).mp hx, rfl⟩
      · rw [← ey]; exact List.mem_map.mpr ⟨y, (mem_ksJ js).mpr hy, rfl⟩
    have hv : dMaxV ((ksJ js).map (eLg bk)) = some (.int (maxI (js.map (lngB bk)))) := by
      unfold dMaxV
      have : ((ksJ js).map (eLg bk)).map (·.2) = ((ksJ js).map (lngB bk)).map .int := by rw [List.map_map, List.map_map]; rfl
      rw [this, intsD_map, ← hmx]
      cases q : (ksJ js).map (lngB bk) with
      | nil => exact absurd (List.map_eq_nil_iff.mp q) hks
      | cons a l => rfl
    generalize (ksJ js).map (eLg bk) = T at *
    generalize js.map eJ = JJ at *
    unfold m_least_minutes b_least_minutes
    simp [ej, e, hv]
  · rintro done j rest fr he ⟨v3, v4, rfl⟩
    obtain ⟨hm, _, hdl⟩ := take_of he
    obtain ⟨s, hs, hrho, hd1⟩ := val j hm
    have ea := t_ahead B J (.str d) hs
    have es := t_step_of B hd1
    rw [hs] at es
    change _ = CRes.ok (.dat (eS s)) [] at es
    have al := ahead_len B J hs
    have lg := lng_eq B J hs hrho
    have inks : ∀ o ∈ aheadB bk j, hasJ (ksJ done) o = true := fun o ho => by
      have := ord done j rest he o ho
      rw [List.nil_append] at this
      exact hasJ_iff.mpr ((mem_ksJ done).mpr this)
    have nn : ∀ x ∈ (aheadB bk j).map (lngB bk), 0 ≤ x := fun x hx => by
      obtain ⟨o, ho, rfl⟩ := List.mem_map.mp hx
      obtain ⟨⟨s', hs'⟩, hlt⟩ := ahead_less B J hs ho
      rw [lng_eq B J hs' (by omega)]
      have := mxL_ge ((aheadB bk o).map (lngB bk))
      have := mn_of J hs'
      omega
    have hmx := maxDf_mx nn
    have kf := fun o => kfind_J (bk := bk) (ksJ done) o
    have kp := kput_J (bk := bk) (ksJ done) j
    have kl : ((ksJ done).map (eLg bk)).length < 1000000 := by
      have := ksJ_len done
      simp; omega
    rw [ksJ_snoc]
    have ec := xComp_typed (own := [5]) (g := tName 5) (t := xYes) (f := b_least_minutes_e1) (e := xItems (xCall m_ahead (xCons (xVar 0) (xCons (xVar 1) (xCons (xVar 3) (xNil)))))) (fr := ⟨[some (.dat (.tuple (bk.map eRc))), some (.dat (.str d)), some (.cel 0), some (.dat (eJ j)), none, none], [.dct true ((ksJ done).map (eLg bk))], 0⟩) eJ (fun _ => true) (fun o => .int (lngB bk o)) (fun o => ⟨[some (.dat (.tuple (bk.map eRc))), some (.dat (.str d)), some (.cel 0), some (.dat (eJ j)), none, some (.dat (eJ o))], [.dct true ((ksJ done).map (eLg bk))], 0⟩) (aheadB bk j) (by simp [ea]) (by omega) (fun _ _ => rfl) (fun _ => rfl) (fun _ _ => rfl) (fun o ho _ => by
      have k1 := kf o
      rw [if_pos (inks o ho)] at k1
      have k2 := kOk_J o
      generalize eJ o = od at *
      generalize (ksJ done).map (eLg bk) = T at *
      simp [b_least_minutes_e1, dget, k1, k2])
    rw [List.filter_eq_self.mpr (fun _ _ => rfl)] at ec
    have hI : ((aheadB bk j).map fun o => PyData.int (lngB bk o)) = ((aheadB bk j).map (lngB bk)).map .int := by rw [List.map_map]; rfl
    rw [hI] at ec
    have s2 := st_ix2 s
    have kj := kOk_J j
    refine ⟨_, _, rfl, .inl ?_, some (.dat (eJ j)), some (.dat (.int (mxL ((aheadB bk j).map (lngB bk))))), rfl⟩
    have lg2 : lngB bk j = mxL ((aheadB bk j).map (lngB bk)) + s.mn := lg
    rw [lg2] at kp
    generalize mxL ((aheadB bk j).map (lngB bk)) = M at *
    generalize ((aheadB bk j).map (lngB bk)).map PyData.int = AI at *
    generalize (addJ (ksJ done) j).map (eLg bk) = T2 at *
    generalize (ksJ done).map (eLg bk) = T at *
    generalize eS s = sd at *
    generalize eJ j = jd at *
    unfold b_least_minutes_l1
    simp [ec, hmx, es, s2, dAdd, kj, kl, kp]
end
end G
/-! QH: minutes by stations; no row is longer than all minutes. -/
namespace G
open PySem PySem.Spec PyProof.Rows L2
open PySem.W (dataLt dataLe alike keyToks)
def b_by_stations_l1 : Fr → SRes :=
  sKill [4] (sSeq (sSet 4 (xCall m_step_of (xCons (xVar 0) (xCons (xVar 3) (xNil)))))
  (sDSet 2 (xIx (xVar 4) (xC (.int 1))) (xOp2 dAdd (xDGetD (xVar 2) (xIx (xVar 4) (xC (.int 1))) (xC (.int 0))) (xIx (xVar 4) (xC (.int 2))))))
def b_by_stations : Fr → SRes :=
  sSeq (sSet 2 (xNewD false))
  (sSeq (sFor (xItems (xCall (m_jobs 12) (xCons (xVar 0) (xCons (xVar 1) (xNil))))) (tName 3) (b_by_stations_l1))
  (sKill [3, 4] (sRet (xD1 dSortedI (xVar 2)))))
def m_by_stations : AFun := mkFun 5 2 b_by_stations

def eNI (q : Str × Int) : PyData := .tuple [.str q.1, .int q.2]
def sumI (kvs : List (Str × Int)) : Int := (kvs.map (·.2)).sum
theorem aput_split {kvs : List (Str × Int)} {n : Str} (nd : (kvs.map (·.1)).Nodup) (m : Int) : sumI (aput kvs n ((aget kvs n).getD 0 + m)) = sumI kvs + m := by
  by_cases h : n ∈ kvs.map (·.1)
  · obtain ⟨q, hq, e⟩ := List.mem_map.mp h
    obtain ⟨pre, post, rfl⟩ := List.append_of_mem hq
    obtain ⟨n', w⟩ := q
    have e : n' = n := e
    subst e
    rw [List.map_append, List.map_cons, List.nodup_append, List.nodup_cons] at nd
    have h1 : n' ∉ pre.map (·.1) := fun z => nd.2.2 _ z _ (List.mem_cons_self ..) rfl
    have g1 : aget (pre ++ (n', w) :: post) n' = some w := by
      unfold aget
      rw [List.find?_append]
      have : pre.find? (fun q => q.1 == n') = none := List.find?_eq_none.mpr fun q hq e => h1 (List.mem_map.mpr ⟨q, hq, by simpa using e⟩)
      rw [this]; simp
    rw [g1]
    unfold aput
    rw [g1, if_pos (show (some w).isSome = true from rfl), List.map_append, List.map_cons]
    have same : ∀ l : List (Str × Int), n' ∉ l.map (·.1) → (l.map fun q => if (q.1 == n') = true then (q.1, (some w).getD 0 + m) else q) = l := fun l hl => by
      conv => rhs; rw [← List.map_id l]
      refine List.map_congr_left fun q hq => ?_
      rw [if_neg (fun e => hl (List.mem_map.mpr ⟨q, hq, by simpa using e⟩))]; rfl
    rw [same pre h1, same post nd.2.1.1]
    unfold sumI
    simp; omega
  · have g1 := aget_none.mpr h
    unfold aput
    rw [g1]
    unfold sumI
    simp
theorem NI_items (kvs : List (Str × Int)) (hl : kvs.length ≤ 1000000) : dSortedI (kvs.map (eK PyData.int)) = some (.list ((srtT eNI kvs).map eNI)) := by
  have e : itemsD (kvs.map (eK PyData.int)) = kvs.map eNI := by unfold itemsD; rw [List.map_map]; rfl
  have so : sortOk (kvs.map eNI) = true := sortOk_t hl (fun _ _ _ _ => by simp [eNI, alike, PySem.W.alikeAll]) (fun _ _ => rfl) (fun _ _ => by simp [eNI, PyData.depth, PyData.depthAll])
  unfold dSortedI dSortL
  rw [e, if_pos so, srtT_map]
theorem perm_sum {xs ys : List Int} (p : xs.Perm ys) : xs.sum = ys.sum := by
  induction p with
  | nil => rfl
  | cons x _ ih => rw [List.sum_cons, List.sum_cons, ih]
  | swap x y l => simp only [List.sum_cons]; omega
  | trans _ _ h1 h2 => rw [h1, h2]
section
variable {gs : List Gd} {bk : List Rcp} {DA MA : Nat} {rk : Str → Nat}
def sumM (bk : List Rcp) (js : List Job) : Int := (js.map (mnB bk)).sum
theorem t_by_stations (B : BkO gs DA MA rk bk) (J : JbO bk) {d : Str} (hd : d ∈ bk.map (·.nm)) (hrk : rk d ≤ 3) : ∃ kvs : List (Str × Int), m_by_stations [.dat (.tuple (bk.map eRc)), .dat (.str d)] [] = .ok (.dat (.list (kvs.map eNI))) [] ∧ sumI kvs = sumM bk (jobsF bk 12 d) ∧ kvs.length ≤ 30000 := by
  have ej := (t_jobs B 3 12 d hd hrk (by decide) (by decide)).1
  have val : ∀ j ∈ jobsF bk 12 d, ∃ s, sfind bk j = some s ∧ j.1 ∈ bk.map (·.nm) := fun j hj => by
    obtain ⟨s, hs⟩ := mem_jobs B J 12 d j hj
    obtain ⟨r', _, hrm', hrn', _⟩ := sfind_at hs
    exact ⟨s, hs, List.mem_map.mpr ⟨r', hrm', hrn'⟩⟩
  have jl := jobs_len B 3 12 d hrk
  have jl2 : (jobsF bk 12 d).length ≤ 30000 := Nat.le_trans jl (by decide)
  generalize jobsF bk 12 d = js at *
  have key := forA_typed (g := tName 3) (b := b_by_stations_l1) eJ (fun done fr => ∃ (kvs : List (Str × Int)) (v3 v4 : Option AV), fr = ⟨[some (.dat (.tuple (bk.map eRc))), some (.dat (.str d)), some (.cel 0), v3, v4], [.dct false (kvs.map (eK PyData.int))], 0⟩ ∧ (kvs.map (·.1)).Nodup ∧ sumI kvs = sumM bk done ∧ kvs.length ≤ done.length) js ⟨[some (.dat (.tuple (bk.map eRc))), some (.dat (.str d)), some (.cel 0), none, none], [.dct false []], 0⟩ ⟨[], none, none, rfl, .nil, rfl, Nat.le_refl _⟩ ?_
  · obtain ⟨fr', e, kvs, v3, v4, rfl, g1, g2, g3⟩ := key
    have hi := NI_items kvs (by omega)
    refine ⟨srtT eNI kvs, ?_, ?_, ?_⟩
    · generalize kvs.map (eK PyData.int) = T at *
      generalize js.map eJ = JJ at *
      unfold m_by_stations b_by_stations
      simp [ej, e, hi]
    · rw [← g2]
      exact perm_sum ((srtT_perm eNI kvs).map _)
    · rw [(srtT_perm eNI kvs).length_eq]; omega
  · rintro done j rest fr he ⟨kvs, v3, v4, rfl, g1, g2, g3⟩
    obtain ⟨hm, _, hdl⟩ := take_of he
    obtain ⟨s, hs, hd1⟩ := val j hm
    have es := t_step_of B hd1
    rw [hs] at es
    change _ = CRes.ok (.dat (eS s)) [] at es
    have s1 := st_ix1 s
    have s2 := st_ix2 s
    have hgt : (kfind (kvs.map (eK PyData.int)) (.str s.st)).getD (.int 0) = .int ((aget kvs s.st).getD 0) := by
      rw [kfind_t]
      cases aget kvs s.st <;> rfl
    have kp : kput (kvs.map (eK PyData.int)) (.str s.st) (.int ((aget kvs s.st).getD 0 + s.mn)) = (aput kvs s.st ((aget kvs s.st).getD 0 + s.mn)).map (eK PyData.int) := kput_t
    have kl : kvs.length < 1000000 := by omega
    refine ⟨_, ⟨[some (.dat (.tuple (bk.map eRc))), some (.dat (.str d)), some (.cel 0), some (.dat (eJ j)), some (.dat (eS s))], [.dct false ((aput kvs s.st ((aget kvs s.st).getD 0 + s.mn)).map (eK PyData.int))], 0⟩, rfl, .inl ?_, _, _, _, rfl, aput_nodup g1, ?_, ?_⟩
    · have kl2 : (kvs.map (eK PyData.int)).length < 1000000 := by simpa using kl
      generalize (aput kvs s.st ((aget kvs s.st).getD 0 + s.mn)).map (eK PyData.int) = T2 at *
      generalize kvs.map (eK PyData.int) = T at *
      generalize eS s = sd at *
      generalize eJ j = jd at *
      unfold b_by_stations_l1
      simp [es, s1, s2, kOk, hgt, dAdd, kl2, kp]
    · rw [aput_split g1, g2]
      have hmn : mnB bk j = s.mn := by unfold mnB; rw [hs]
      unfold sumM
      rw [List.map_append, List.sum_append, List.map_cons, List.map_nil, hmn]; simp
    · have := aput_len (kvs := kvs) (n := s.st) (v := (aget kvs s.st).getD 0 + s.mn)
      simp; omega
/-- no row of jobs is longer than all minutes -/
theorem long_sum (B : BkO gs DA MA rk bk) (J : JbO bk) (h3 : ∀ r ∈ bk, rk r.nm ≤ 3) {js : List Job} (ord : OrdR bk [] js) (val : ∀ j ∈ js, ∃ s, sfind bk j = some s) : ∀ (n : Nat) (pre : List Job) (j : Job) (post : List Job), pre.length ≤ n → js = pre ++ j :: post → lngB bk j ≤ sumM bk pre + mnB bk j := by
  have mn0 : ∀ j ∈ js, 0 ≤ mnB bk j := fun j hj => by
    obtain ⟨s, hs⟩ := val j hj
    have := mn_of J hs
    unfold mnB; rw [hs]
    show 0 ≤ s.mn
    omega
  have s0 : ∀ l : List Job, (∀ j ∈ l, j ∈ js) → 0 ≤ sumM bk l := by
    intro l
    induction l with
    | nil => intro _; exact Int.le_refl _
    | cons x l ih =>
      intro h
      have := ih fun y hy => h y (List.mem_cons_of_mem _ hy)
      have := mn0 x (h x (List.mem_cons_self ..))
      unfold sumM at *
      rw [List.map_cons, List.sum_cons]
      omega
  intro n
  induction n with
  | zero =>
    intro pre j post hl e
    have : pre = [] := List.eq_nil_of_length_eq_zero (by omega)
    subst this
    have hm : j ∈ js := by rw [e]; simp
    obtain ⟨s, hs⟩ := val j hm
    obtain ⟨r', _, hrm', hrn', _⟩ := sfind_at hs
    have hn : aheadB bk j = [] := List.eq_nil_iff_forall_not_mem.mpr fun o ho => by
      have := ord [] j post e o ho
      simp at this
    have hmn : mnB bk j = s.mn := by unfold mnB; rw [hs]
    rw [lng_eq B J hs (rho_12 J hs (by rw [← hrn']; exact h3 r' hrm')), hn, hmn]
    simp [mxL, sumM]
  | succ n ih =>
    intro pre j post hl e
    have hm : j ∈ js := by rw [e]; simp
    obtain ⟨s, hs⟩ := val j hm
    obtain ⟨r', _, hrm', hrn', _⟩ := sfind_at hs
    have hmn : mnB bk j = s.mn := by unfold mnB; rw [hs]
    rw [lng_eq B J hs (rho_12 J hs (by rw [← hrn']; exact h3 r' hrm')), hmn]
    have hpre : 0 ≤ sumM bk pre := s0 pre fun x hx => by rw [e]; exact List.mem_append_left _ hx
    have : mxL ((aheadB bk j).map (lngB bk)) ≤ sumM bk pre := by
      rcases List.mem_cons.mp (fold_max 0 ((aheadB bk j).map (lngB bk))).1 with q | q
      · show ((aheadB bk j).map (lngB bk)).foldl max 0 ≤ _
        rw [q]; exact hpre
      · obtain ⟨o, ho, eo⟩ := List.mem_map.mp q
        show ((aheadB bk j).map (lngB bk)).foldl max 0 ≤ _
        rw [← eo]
        have hop := ord pre j post e o ho
        rw [List.nil_append] at hop
        obtain ⟨p1, p2, ep⟩ := List.append_of_mem hop
        have hle := ih p1 o (p2 ++ j :: post) (by rw [ep] at hl; simp at hl; omega) (by rw [e, ep]; simp)
        have hp2 : 0 ≤ sumM bk p2 := s0 p2 fun x hx => by rw [e, ep]; simp [hx]
        have hsum : sumM bk pre = sumM bk p1 + mnB bk o + sumM bk p2 := by
          rw [ep]; unfold sumM; simp; omega
        omega
    omega
end
end G
/-! QI: a step made slower. -/
namespace G
open PySem PySem.Spec PyProof.Rows L2
open PySem.W (dataLt dataLe alike keyToks)
def b__law_slower_l1 : Fr → SRes :=
  sApp 6 (xOp2 dAdd (xOp2 dAdd (xSl (xVar 7) (xNo) (xSo (xC (.int 2)))) (xTup (xCons (xOp2 dAdd (xIx (xVar 7) (xC (.int 2))) (xB1 dInt (xCons (xOp2 dEq (xTup (xCons (xVar 3) (xCons (xIx (xVar 7) (xC (.int 0))) (xNil)))) (xVar 1)) (xNil)))) (xNil)))) (xSl (xVar 7) (xSo (xC (.int 3))) (xNo)))
def b__law_slower_l2 : Fr → SRes :=
  sKill [6, 7] (sGc (sSeq (sSet 6 (xNewL (xNil)))
  (sSeq (sFor (xItems (xVar 5)) (tName 7) (b__law_slower_l1))
  (sKill [7] (sApp 2 (xTup (xCons (xVar 3) (xCons (xVar 4) (xCons (xB1 dTuple (xCons (xVar 6) (xNil))) (xNil))))))))))
def b__law_slower : Fr → SRes :=
  sSeq (sSet 2 (xNewL (xNil)))
  (sSeq (sFor (xItems (xVar 0)) (tNames [3, 4, 5]) (b__law_slower_l2))
  (sKill [3, 4, 5, 6, 7] (sRet (xB1 dTuple (xCons (xVar 2) (xNil))))))
def m__law_slower : AFun := mkFun 8 2 b__law_slower

def slJ (job : Job) (d : Str) (s : Stp) : Stp := { s with mn := s.mn + (if ((d, s.w) == job) = true then 1 else 0) }
def slR (job : Job) (r : Rcp) : Rcp := { r with sts := r.sts.map (slJ job r.nm) }
section
variable {gs : List Gd} {bk : List Rcp} {DA MA : Nat} {rk : Str → Nat} {job : Job}
theorem sl_find (n : Str) : rfind (bk.map (slR job)) n = (rfind bk n).map (slR job) := by
  unfold rfind
  rw [List.find?_map]; rfl
theorem sl_names : (bk.map (slR job)).map (·.nm) = bk.map (·.nm) := by rw [List.map_map]; rfl
theorem sl_uses (r : Rcp) : usesOf (slR job r) = usesOf r := by
  unfold usesOf slR
  rw [List.flatMap_map]; rfl
theorem sl_bk (B : BkO gs DA MA rk bk) : BkO gs DA MA rk (bk.map (slR job)) := by
  have im : ∀ r ∈ bk.map (slR job), ∃ r0 ∈ bk, slR job r0 = r := fun r hr => List.mem_map.mp hr
  refine ⟨by rw [sl_names]; exact B.nd, by rw [List.length_map]; exact B.len, fun r hr => ?_, fun r hr => ?_, fun r hr => ?_, fun r hr s hs => ?_, fun r hr => ?_, fun r hr => ?_, fun r hr q hq => ?_⟩
  · obtain ⟨r0, h, rfl⟩ := im r hr; exact B.por r0 h
  · obtain ⟨r0, h, rfl⟩ := im r hr; exact B.ng r0 h
  · obtain ⟨r0, h, rfl⟩ := im r hr; unfold slR; simpa using B.sl r0 h
  · obtain ⟨r0, h, rfl⟩ := im r hr
    obtain ⟨s0, h2, rfl⟩ := List.mem_map.mp hs
    exact B.sul r0 h s0 h2
  · obtain ⟨r0, h, rfl⟩ := im r hr; rw [sl_uses]; exact B.ul r0 h
  · obtain ⟨r0, h, rfl⟩ := im r hr; rw [sl_uses]; exact B.u0 r0 h
  · obtain ⟨r0, h, rfl⟩ := im r hr
    rw [sl_uses] at hq
    rcases B.un r0 h q hq with z | ⟨r', h3, h4, h5⟩
    · exact .inl z
    · exact .inr ⟨slR job r', List.mem_map.mpr ⟨r', h3, rfl⟩, h4, h5⟩
theorem sl_steps (n : Str) : stepsB (bk.map (slR job)) n = (stepsB bk n).map (slJ job n) := by
  unfold stepsB
  rw [sl_find]
  cases h : rfind bk n with
  | none => rfl
  | some r =>
    have hn : r.nm = n := by have := List.find?_some h; simpa using this
    show r.sts.map (slJ job r.nm) = r.sts.map (slJ job n)
    rw [hn]
theorem sl_sfind (j : Job) : sfind (bk.map (slR job)) j = (sfind bk j).map (slJ job j.1) := by
  unfold sfind
  rw [sl_steps, List.find?_map]; rfl
theorem sl_ends (n : Str) : endsB (bk.map (slR job)) n = endsB bk n := by
  unfold endsB
  rw [sl_steps, List.filter_map, List.map_map]
  have : (fun o : Stp => !(((stepsB bk n).map (slJ job n)).any fun z => z.af.any fun x => x == o.w)) ∘ slJ job n = fun o => !((stepsB bk n).any fun z => z.af.any fun x => x == o.w) := by
    funext o
    show (!(((stepsB bk n).map (slJ job n)).any fun z => z.af.any fun x => x == (slJ job n o).w)) = _
    rw [List.any_map]; rfl
  rw [this]; rfl
theorem sl_nmB (n : Str) : nmB (bk.map (slR job)) n = nmB bk n := by
  unfold nmB
  rw [List.any_map]; rfl
theorem sl_usB (n : Str) : usB (bk.map (slR job)) n = usB bk n := by
  unfold usB
  rw [sl_find]
  cases rfind bk n with
  | none => rfl
  | some r =>
    show usedR (bk.map (slR job)) (slR job r) = usedR bk r
    unfold usedR keysB
    rw [sl_uses]
    have : (fun q : Str × Rat => (bk.map (slR job)).any fun r => r.nm == q.1) = fun q => bk.any fun r => r.nm == q.1 := by
      funext q; rw [List.any_map]; rfl
    rw [this]
theorem sl_jobs : ∀ (k : Nat) (d : Str), jobsF (bk.map (slR job)) k d = jobsF bk k d
  | 0, _ => rfl
  | k + 1, d => by
    rw [jobsF, jobsF, sl_usB, sl_steps, List.map_map]
    have : jobsF (bk.map (slR job)) k = jobsF bk k := funext fun n => sl_jobs k n
    rw [this]; rfl
theorem sl_ahead (j : Job) : aheadB (bk.map (slR job)) j = aheadB bk j := by
  unfold aheadB
  rw [sl_sfind]
  cases sfind bk j with
  | none => rfl
  | some s =>
    show srtT eJ (aheadU (bk.map (slR job)) j (slJ job j.1 s)) = srtT eJ (aheadU bk j s)
    have : aheadU (bk.map (slR job)) j (slJ job j.1 s) = aheadU bk j s := by
      unfold aheadU viaU
      have : (fun q : Str × Rat => if nmB (bk.map (slR job)) q.1 = true then (endsB (bk.map (slR job)) q.1).map (fun w => ((q.1, w) : Job)) else []) = fun q => if nmB bk q.1 = true then (endsB bk q.1).map (fun w => (q.1, w)) else [] := by
        funext q; rw [sl_nmB, sl_ends]
      rw [this]; rfl
    rw [this]
theorem sl_mn {j : Job} {s : Stp} (h : sfind bk j = some s) : mnB (bk.map (slR job)) j = mnB bk j + (if (j == job) = true then 1 else 0) := by
  have hw : s.w = j.2 := by have := List.find?_some h; simpa using this
  unfold mnB
  rw [sl_sfind, h]
  show s.mn + (if ((j.1, s.w) == job) = true then 1 else 0) = _
  rw [hw]
theorem mx_step {f f' : Job → Int} : ∀ l : List Job, (∀ o ∈ l, f' o = f o ∨ f' o = f o + 1) → (∀ o ∈ l, 0 ≤ f o) → mxL (l.map f') = mxL (l.map f) ∨ mxL (l.map f') = mxL (l.map f) + 1 := by
  refine snoc_ind (P := fun l : List Job => (∀ o ∈ l, f' o = f o ∨ f' o = f o + 1) → (∀ o ∈ l, 0 ≤ f o) → mxL (l.map f') = mxL (l.map f) ∨ mxL (l.map f') = mxL (l.map f) + 1) (fun _ _ => .inl rfl) fun l x ih h h0 => ?_
  have i := ih (fun o ho => h o (List.mem_append_left _ ho)) fun o ho => h0 o (List.mem_append_left _ ho)
  have hx := h x (by simp)
  have e : ∀ g : Job → Int, (l ++ [x]).map g = l.map g ++ [g x] := fun g => by rw [List.map_append]; rfl
  rw [e, e, mxL_snoc, mxL_snoc]
  rw [Int.max_def, Int.max_def]
  split <;> split <;> omega
theorem long_nn (B : BkO gs DA MA rk bk) (J : JbO bk) : ∀ (k : Nat) (j : Job) (s : Stp), sfind bk j = some s → 0 ≤ longF bk k j
  | 0, _, _, _ => Int.le_refl _
  | k + 1, j, s, hs => by
    rw [longF]
    have h1 := mxL_ge ((aheadB bk j).map (longF bk k))
    have h2 := mn_of J hs
    have : mnB bk j = s.mn := by unfold mnB; rw [hs]
    omega
theorem sl_same (B : BkO gs DA MA rk bk) (J : JbO bk) : ∀ (k : Nat) (j : Job) (s : Stp), sfind bk j = some s → rho bk rk j < rho bk rk job → longF (bk.map (slR job)) k j = longF bk k j
  | 0, _, _, _, _ => rfl
  | k + 1, j, s, hs, h => by
    rw [longF, longF, sl_ahead, sl_mn hs]
    have hj : (j == job) = false := Bool.eq_false_iff.mpr fun e => by
      have : j = job := by simpa using e
      rw [this] at h; omega
    rw [hj]
    have : (aheadB bk j).map (longF (bk.map (slR job)) k) = (aheadB bk j).map (longF bk k) := List.map_congr_left fun o ho => by
      obtain ⟨⟨s', hs'⟩, hlt⟩ := ahead_less B J hs ho
      exact sl_same B J k o s' hs' (by omega)
    rw [this]
    simp
theorem sl_one (B : BkO gs DA MA rk bk) (J : JbO bk) : ∀ (k : Nat) (j : Job) (s : Stp), sfind bk j = some s → longF (bk.map (slR job)) k j = longF bk k j ∨ longF (bk.map (slR job)) k j = longF bk k j + 1
  | 0, _, _, _ => .inl rfl
  | k + 1, j, s, hs => by
    rw [longF, longF, sl_ahead, sl_mn hs]
    by_cases hj : (j == job) = true
    · have e : j = job := by simpa using hj
      have : (aheadB bk j).map (longF (bk.map (slR job)) k) = (aheadB bk j).map (longF bk k) := List.map_congr_left fun o ho => by
        obtain ⟨⟨s', hs'⟩, hlt⟩ := ahead_less B J hs ho
        exact sl_same B J k o s' hs' (by rw [← e]; exact hlt)
      rw [this, hj]
      right
      simp; omega
    · rw [Bool.eq_false_iff.mpr hj]
      have := mx_step (f := longF bk k) (f' := longF (bk.map (slR job)) k) (aheadB bk j) (fun o ho => by
        obtain ⟨⟨s', hs'⟩, _⟩ := ahead_less B J hs ho
        exact sl_one B J k o s' hs') fun o ho => by
        obtain ⟨⟨s', hs'⟩, _⟩ := ahead_less B J hs ho
        exact long_nn B J k o s' hs'
      simp only [Bool.false_eq_true, if_false]
      omega
theorem t_slower (B : BkO gs DA MA rk bk) (job : Job) : m__law_slower [.dat (.tuple (bk.map eRc)), .dat (eJ job)] [] = .ok (.dat (.tuple ((bk.map (slR job)).map eRc))) [] := by
  have hbl := B.len
  have key := forA_typed (g := tNames [3, 4, 5]) (b := b__law_slower_l2) eRc (fun done fr => ∃ v3 v4 v5 v6 v7 cs, fr = ⟨[some (.dat (.tuple (bk.map eRc))), some (.dat (eJ job)), some (.cel 0), v3, v4, v5, v6, v7], .lst ((done.map (slR job)).map eRc) :: cs, 0⟩) bk ⟨[some (.dat (.tuple (bk.map eRc))), some (.dat (eJ job)), some (.cel 0), none, none, none, none, none], [.lst []], 0⟩ ⟨none, none, none, none, none, [], rfl⟩ ?_
  · obtain ⟨fr', e, v3, v4, v5, v6, v7, cs, rfl⟩ := key
    generalize (bk.map (slR job)).map eRc = S2 at *
    unfold m__law_slower b__law_slower
    simp [e, seqD]
  · rintro done r rest fr he ⟨v3, v4, v5, v6, v7, cs, rfl⟩
    obtain ⟨hm, _, hdl⟩ := take_of he
    have hsl := B.sl r hm
    have dl : ((done.map (slR job)).map eRc).length < 1000000 := by simp; omega
    rw [List.map_append, List.map_append]
    have hone : [r].map (slR job) = [slR job r] := rfl
    have hE : [slR job r].map eRc = [.tuple [.str r.nm, .int r.por, .tuple ((r.sts.map (slJ job r.nm)).map eS)]] := rfl
    rw [hone, hE]
    generalize (done.map (slR job)).map eRc = DD at *
    have key := forA_typed (g := tName 7) (b := b__law_slower_l1) eS (fun done2 fr => ∃ v7, fr = ⟨[some (.dat (.tuple (bk.map eRc))), some (.dat (eJ job)), some (.cel 0), some (.dat (.str r.nm)), some (.dat (.int r.por)), some (.dat (.tuple (r.sts.map eS))), some (.cel 1), v7], [.lst DD, .lst ((done2.map (slJ job r.nm)).map eS)], 0⟩) r.sts ⟨[some (.dat (.tuple (bk.map eRc))), some (.dat (eJ job)), some (.cel 0), some (.dat (.str r.nm)), some (.dat (.int r.por)), some (.dat (.tuple (r.sts.map eS))), some (.cel 1), none], [.lst DD, .lst []], 0⟩ ⟨none, rfl⟩ ?_
    · obtain ⟨fr', e, v7', rfl⟩ := key
      refine ⟨_, _, rfl, .inl ?_, some (.dat (.str r.nm)), some (.dat (.int r.por)), some (.dat (.tuple (r.sts.map eS))), some (.cel 1), none, [.lst ((r.sts.map (slJ job r.nm)).map eS)], rfl⟩
      generalize (r.sts.map (slJ job r.nm)).map eS = S2 at *
      generalize r.sts.map eS = S1 at *
      unfold b__law_slower_l2
      simp [e, seqD, dl]
    · rintro done2 s rest2 fr he2 ⟨v7', rfl⟩
      have d2 : ((done2.map (slJ job r.nm)).map eS).length < 1000000 := by
        rw [he2] at hsl; simp at hsl; simp; omega
      have c2 : dSl (eS s) none (some 2) = some (.tuple [.str s.w, .str s.st]) := rfl
      have c3 : dSl (eS s) (some 3) none = some (.tuple [.int s.hd, .tuple (s.tl.map .str), .tuple (s.us.map eN), .tuple (s.af.map .str)]) := rfl
      have s0 := st_ix0 s
      have s2 := st_ix2 s
      have hq : dEq (.tuple [.str r.nm, .str s.w]) (eJ job) = some (.bool ((r.nm, s.w) == job)) := by
        have h1 := eqv_J (r.nm, s.w) job
        have h2 := depth_J job
        have : eqOk (.tuple [.str r.nm, .str s.w]) (eJ job) = true := decide_eq_true (by omega)
        unfold dEq
        rw [if_pos this]
        exact congrArg (fun b => some (PyData.bool b)) h1
      have hS : eS (slJ job r.nm s) = .tuple [.str s.w, .str s.st, .int (s.mn + (if ((r.nm, s.w) == job) = true then 1 else 0)), .int s.hd, .tuple (s.tl.map .str), .tuple (s.us.map eN), .tuple (s.af.map .str)] := rfl
      rw [List.map_append, List.map_append]
      have hone : [s].map (slJ job r.nm) = [slJ job r.nm s] := rfl
      have hE2 : [slJ job r.nm s].map eS = [eS (slJ job r.nm s)] := rfl
      rw [hone, hE2, hS]
      refine ⟨_, _, rfl, .inl ?_, some (.dat (eS s)), rfl⟩
      generalize ((r.nm, s.w) == job) = b at *
      generalize (done2.map (slJ job r.nm)).map eS = F1 at *
      generalize eS s = sd at *
      generalize eJ job = jd at *
      generalize s.us.map eN = U at *
      unfold b__law_slower_l1
      cases b <;> simp [c2, c3, s0, s2, hq, dInt, dAdd, d2]
end
end G
/-! QJ: law k07. -/
namespace G
open PySem PySem.Spec PyProof.Rows L2
open PySem.W (dataLt dataLe alike keyToks)
def b_law_e1 : Fr → Res AV :=
  xCall (m__law_longest 12) (xCons (xVar 3) (xCons (xLst (xCons (xVar 11) (xNil))) (xNil)))
def b_law_e2 : Fr → Res AV :=
  xVar 13
def b_law_t1 : Fr → Res Bool :=
  xB (xOp2 dGt (xCall m_least_minutes (xCons (xVar 3) (xCons (xVar 12) (xNil)))) (xVar 8))
def b_law_e3 : Fr → Res AV :=
  xVar 12
def b_law_l1 : Fr → SRes :=
  sKill [5, 6, 7, 8, 9, 10, 11] (sSeq (sSet 5 (xIx (xVar 4) (xC (.int 0))))
  (sSeq (sSet 6 (xCall (m__law_jobs 12) (xCons (xVar 3) (xCons (xVar 5) (xNil)))))
  (sSeq (sSet 7 (xB1 dMaxL (xCons (xComp [11] (xItems (xVar 6)) (tName 11) (xYes) (b_law_e1)) (xNil))))
  (sSeq (sSet 8 (xCall m_least_minutes (xCons (xVar 3) (xCons (xVar 5) (xNil)))))
  (sSeq (sSet 9 (xB1 dSum (xCons (xComp [12, 13] (xItems (xCall m_by_stations (xCons (xVar 3) (xCons (xVar 5) (xNil))))) (tNames [12, 13]) (xYes) (b_law_e2)) (xNil))))
  (sSeq (sIf (xOr (xB (xOp2 dNe (xVar 8) (xVar 7))) (xB (xOp2 dGt (xVar 8) (xVar 9)))) (sRet (xC (.bool false))) (sNx))
  (sSeq (sSet 10 (xComp [12] (xItems (xCall m__law_used (xCons (xVar 3) (xCons (xVar 5) (xNil))))) (tName 12) (b_law_t1) (b_law_e3)))
  (sSeq (sIf (xB (xOp2 dNe (xVar 10) (xLst (xNil)))) (sRet (xC (.bool false))) (sNx))
  (sSeq (sSet 11 (xIx (xVar 6) (xCall m__law_pick (xCons (xVar 2) (xCons (xB1 dLen (xCons (xVar 6) (xNil))) (xNil))))))
  (sIf (xB (xOp2 dNotIn (xOp2 dSub (xCall m_least_minutes (xCons (xCall m__law_slower (xCons (xVar 3) (xCons (xVar 11) (xNil)))) (xCons (xVar 5) (xNil)))) (xVar 8)) (xTup (xCons (xC (.int 0)) (xCons (xC (.int 1)) (xNil)))))) (sRet (xC (.bool false))) (sNx)))))))))))
def b_law_l2 : Fr → SRes :=
  sKill [2, 3, 4, 5, 6, 7, 8, 9, 10, 11] (sGc (sSeq (sSet 2 (xCallF m__law_deck (xCons (xVar 1) (xCons (xC (.int 0)) (xNil)))))
  (sSeq (sSet 3 (xCall m__law_cookbook (xCons (xVar 2) (xCons (xCall m__law_goods (xCons (xVar 2) (xNil))) (xNil)))))
  (sFor (xItems (xVar 3)) (tName 4) (b_law_l1)))))
def b_law : Fr → SRes :=
  sSeq (sFor (xItems (xOp2 dAdd (xLst (xCons (xC (.int 0)) (xNil))) (xSl (xVar 0) (xNo) (xSo (xC (.int 6)))))) (tName 1) (b_law_l2))
  (sKill [1, 2, 3, 4, 5, 6, 7, 8, 9, 10, 11] (sRet (xC (.bool true))))
def m_law : AFun := mkFun 14 1 b_law

theorem words4_nd' : (["mix", "bake", "cut", "rest"] : List Str).Nodup := by decide
theorem jb_of {gs : List Gd} {rs : List Rcp} (hr : BkD (gs.map (·.nm)) rs) : JbO (srtT eRc rs) ∧ ∀ r ∈ srtT eRc rs, ∀ s ∈ r.sts, s.mn ≤ 20 := by
  have pm := srtT_perm eRc rs
  have mem : ∀ r ∈ srtT eRc rs, ∃ kn, RcpO kn r := fun r h => by
    obtain ⟨pre, post, e⟩ := split_of (pm.mem_iff.mp h)
    exact ⟨_, hr.ro pre r post e⟩
  have hnd : ∀ r ∈ srtT eRc rs, (wordsOf r.sts).Nodup := fun r h => by
    obtain ⟨kn, R⟩ := mem r h
    rw [R.sw]; exact (List.take_sublist ..).nodup words4_nd'
  refine ⟨⟨hnd, fun r h => ?_, fun r h => ?_, fun r h pre s post e => ?_⟩, fun r h s hs => ?_⟩
  · obtain ⟨kn, R⟩ := mem r h; exact R.s0
  · obtain ⟨kn, R⟩ := mem r h; exact R.sl
  · obtain ⟨kn, R⟩ := mem r h
    have S := R.so pre s post e
    have hl := S.af.length_le
    rw [(srtS_perm _).length_eq] at hl
    have h3 := R.sl
    rw [e] at h3
    simp [wordsOf] at hl h3
    exact ⟨fun x hx => (srtS_perm _).mem_iff.mp (S.af.mem hx), by omega, S.m0, by have := S.m1; omega⟩
  · obtain ⟨kn, R⟩ := mem r h
    obtain ⟨pre, post, e⟩ := split_of hs
    exact (R.so pre s post e).m1
section
variable {gs : List Gd} {bk : List Rcp} {DA MA : Nat} {rk : Str → Nat} {job : Job}
theorem jb_sl (J : JbO bk) (h20 : ∀ r ∈ bk, ∀ s ∈ r.sts, s.mn ≤ 20) : JbO (bk.map (slR job)) := by
  have hw : ∀ (d : Str) (l : List Stp), wordsOf (l.map (slJ job d)) = wordsOf l := fun d l => by unfold wordsOf; rw [List.map_map]; rfl
  refine ⟨fun r hr => ?_, fun r hr => ?_, fun r hr => ?_, fun r hr pre s post e => ?_⟩
  · obtain ⟨r0, h, rfl⟩ := List.mem_map.mp hr
    show (wordsOf (r0.sts.map (slJ job r0.nm))).Nodup
    rw [hw]; exact J.nd r0 h
  · obtain ⟨r0, h, rfl⟩ := List.mem_map.mp hr
    unfold slR; simpa using J.s0 r0 h
  · obtain ⟨r0, h, rfl⟩ := List.mem_map.mp hr
    unfold slR; simpa using J.sl r0 h
  · obtain ⟨r0, h, rfl⟩ := List.mem_map.mp hr
    obtain ⟨l1, l2, e1, rfl, e2⟩ := List.map_eq_append_iff.mp e
    obtain ⟨s0, l3, rfl, rfl, _⟩ := List.map_eq_cons_iff.mp e2
    obtain ⟨g1, g2, g3, g4⟩ := J.sp r0 h l1 s0 l3 e1
    have h5 := h20 r0 h s0 (by rw [e1]; simp)
    rw [hw]
    refine ⟨g1, g2, ?_, ?_⟩
    · show 1 ≤ s0.mn + _
      split <;> omega
    · show s0.mn + _ ≤ 21
      split <;> omega
theorem jobs_up (B : BkO gs DA MA rk bk) : ∀ (k l : Nat) (d : Str), rk d < k → rk d < l → jobsF bk k d = jobsF bk l d
  | 0, _, _, h, _ => by omega
  | _ + 1, 0, _, _, h => by omega
  | k + 1, l + 1, d, h1, h2 => by
    rw [jobsF, jobsF]
    congr 1
    have : ∀ ns : List Str, (∀ n ∈ ns, rk n < k ∧ rk n < l) → jobsU (jobsF bk k) ns = jobsU (jobsF bk l) ns := by
      refine snoc_ind (P := fun ns : List Str => (∀ n ∈ ns, rk n < k ∧ rk n < l) → jobsU (jobsF bk k) ns = jobsU (jobsF bk l) ns) (fun _ => rfl) fun ns n ih h => ?_
      rw [jobsU_snoc, jobsU_snoc, ih fun m hm => h m (List.mem_append_left _ hm), jobs_up B k l n (h n (by simp)).1 (h n (by simp)).2]
    exact this _ fun n hn => by have := usB_rk B d n hn; omega
end
abbrev f7 (sc cell : AV) (v2 v3 v4 v5 v6 v7 v8 v9 v10 v11 : Option AV) (cs : List Cell) : Fr := ⟨[some sc, some cell, v2, v3, v4, v5, v6, v7, v8, v9, v10, v11, none, none], cs, 0⟩
theorem k07_dish {gs : List Gd} {bk : List Rcp} {rk : Str → Nat} (B : BkO gs 420 40 rk bk) (J : JbO bk) (h20 : ∀ r ∈ bk, ∀ s ∈ r.sts, s.mn ≤ 20) (h3 : ∀ r ∈ bk, rk r.nm ≤ 3) {n : Nat} {dk : Dk} (hdk : dk.ok (n + 1)) {ns0 : List Int} {ci : Int} {r : Rcp} (hm : r ∈ bk) {v5 v6 v7 v8 v9 v10 v11 : Option AV} :
    ∃ (d' : Dk) (w5 w6 w7 w8 w9 w10 w11 : Option AV), b_law_l1 (f7 (.scr ns0) (.dat (.int ci)) (some (.cel 0)) (some (.dat (.tuple (bk.map eRc)))) (some (.dat (eRc r))) v5 v6 v7 v8 v9 v10 v11 [.lst dk.l]) = .nx (f7 (.scr ns0) (.dat (.int ci)) (some (.cel 0)) (some (.dat (.tuple (bk.map eRc)))) (some (.dat (eRc r))) w5 w6 w7 w8 w9 w10 w11 [.lst (Dk.l d')]) ∧ d'.ok n := by
  have hd : r.nm ∈ bk.map (·.nm) := List.mem_map.mpr ⟨r, hm, rfl⟩
  have hrk := h3 r hm
  have ej := (t_jobs B 3 12 r.nm hd hrk (by decide) (by decide)).2
  have el := t_least B J h3 hd
  obtain ⟨kvs, eb, hb, hbl⟩ := t_by_stations B J hd hrk
  have eu := t_law_used B hd
  have ord := jobs_ord B J 12 r.nm (by omega)
  have val : ∀ j ∈ jobsF bk 12 r.nm, ∃ s, sfind bk j = some s := fun j hj => mem_jobs B J 12 r.nm j hj
  have jl := jobs_len B 3 12 r.nm hrk
  have jl2 : (jobsF bk 12 r.nm).length ≤ 30000 := Nat.le_trans jl (by decide)
  have hne : jobsF bk 12 r.nm ≠ [] := fun e => by
    have : jobsF bk (11 + 1) r.nm = [] := e
    rw [jobsF] at this
    have h1 := (List.append_eq_nil_iff.mp this).2
    rw [List.map_eq_nil_iff, steps_eq (rfind_of B.nd hm)] at h1
    have := J.s0 r hm
    rw [h1] at this; simp at this
  have nn : ∀ x ∈ (jobsF bk 12 r.nm).map (lngB bk), 0 ≤ x := fun x hx => by
    obtain ⟨j, hj, rfl⟩ := List.mem_map.mp hx
    obtain ⟨s, hs⟩ := val j hj
    exact long_nn B J 12 j s hs
  have hT := mxL_max nn (by simpa using hne)
  -- used dishes are no longer
  have used : ∀ m ∈ usB bk r.nm, ∃ t : Int, m_least_minutes [.dat (.tuple (bk.map eRc)), .dat (.str m)] [] = .ok (.dat (.int t)) [] ∧ t ≤ maxI ((jobsF bk 12 r.nm).map (lngB bk)) := fun m hmu => by
    have hm2 : m ∈ bk.map (·.nm) := usB_sub hmu
    refine ⟨_, t_least B J h3 hm2, ?_⟩
    have hlt := usB_rk B r.nm m hmu
    have hsub : ∀ j ∈ jobsF bk 12 m, j ∈ jobsF bk 12 r.nm := fun j hj => by
      rw [jobs_up B 12 11 m (by omega) (by omega)] at hj
      show j ∈ jobsF bk (11 + 1) r.nm
      rw [jobsF, List.mem_append]
      exact .inl (mem_jobsU.mpr ⟨m, hmu, hj⟩)
    have hne2 : jobsF bk 12 m ≠ [] := fun e => by
      have : jobsF bk (11 + 1) m = [] := e
      rw [jobsF] at this
      have h1 := (List.append_eq_nil_iff.mp this).2
      obtain ⟨r2, hr2, hrm2, _⟩ := has_nm hm2
      rw [List.map_eq_nil_iff, steps_eq hr2] at h1
      have := J.s0 r2 hrm2
      rw [h1] at this; simp at this
    obtain ⟨a1, _⟩ := maxI_spec (is := (jobsF bk 12 m).map (lngB bk)) (by simpa using hne2)
    obtain ⟨_, b2⟩ := maxI_spec (is := (jobsF bk 12 r.nm).map (lngB bk)) (by simpa using hne)
    obtain ⟨x, hx, ex⟩ := List.mem_map.mp a1
    exact b2 _ (by rw [← ex]; exact List.mem_map.mpr ⟨x, hsub x hx, rfl⟩)
  -- no longer than all minutes
  have hsum : maxI ((jobsF bk 12 r.nm).map (lngB bk)) ≤ sumI kvs := by
    rw [hb]
    obtain ⟨a1, _⟩ := maxI_spec (is := (jobsF bk 12 r.nm).map (lngB bk)) (by simpa using hne)
    obtain ⟨x, hx, ex⟩ := List.mem_map.mp a1
    rw [← ex]
    obtain ⟨pre, post, e⟩ := List.append_of_mem hx
    have h1 := long_sum B J h3 ord val pre.length pre x post (Nat.le_refl _) e
    have h2 : 0 ≤ sumM bk post := by
      have : ∀ l : List Job, (∀ j ∈ l, j ∈ jobsF bk 12 r.nm) → 0 ≤ sumM bk l := by
        intro l
        induction l with
        | nil => intro _; exact Int.le_refl _
        | cons y l ih =>
          intro h
          have i1 := ih fun z hz => h z (List.mem_cons_of_mem _ hz)
          obtain ⟨s, hs⟩ := val y (h y (List.mem_cons_self ..))
          have i2 := mn_of J hs
          have i3 : mnB bk y = s.mn := by unfold mnB; rw [hs]
          unfold sumM at *
          rw [List.map_cons, List.sum_cons]
          omega
      exact this post fun j hj => by rw [e]; simp [hj]
    have h5 : sumM bk (jobsF bk 12 r.nm) = sumM bk pre + mnB bk x + sumM bk post := by
      rw [e]; unfold sumM; simp; omega
    omega
  -- the pick
  obtain ⟨v, d1, e1, hd1, v0, v1⟩ := s_pick (n := n) hdk (k := ((jobsF bk 12 r.nm).length : Nat)) (by have := List.length_pos_iff.mpr hne; omega) (by omega)
  obtain ⟨job, hjob⟩ : ∃ job, (jobsF bk 12 r.nm)[v.toNat]? = some job := ⟨_, List.getElem?_eq_getElem (by omega)⟩
  have hix : dIx (.list ((jobsF bk 12 r.nm).map eJ)) (.int v) = some (eJ job) := by
    have h1 : v < ((jobsF bk 12 r.nm).length : Int) := v1
    have h2 : v.toNat < (jobsF bk 12 r.nm).length := by omega
    have h4 := Option.some.inj ((List.getElem?_eq_getElem h2).symm.trans hjob)
    simp [dIx, atI, ixN, v0, h1]
    rw [h4]
  have esl := t_slower B job
  have Bs := sl_bk (job := job) B
  have Js := jb_sl (job := job) J h20
  have el2 := t_least Bs Js (fun x hx => by obtain ⟨x0, h, rfl⟩ := List.mem_map.mp hx; exact h3 x0 h) (d := r.nm) (by rw [sl_names]; exact hd)
  rw [sl_jobs] at el2
  have nn2 : ∀ x ∈ (jobsF bk 12 r.nm).map (lngB (bk.map (slR job))), 0 ≤ x := fun x hx => by
    obtain ⟨j, hj, rfl⟩ := List.mem_map.mp hx
    obtain ⟨s, hs⟩ := val j hj
    exact long_nn Bs Js 12 j (slJ job j.1 s) (by rw [sl_sfind, hs]; rfl)
  have hT2 := mxL_max nn2 (by simpa using hne)
  have hstep := mx_step (f := lngB bk) (f' := lngB (bk.map (slR job))) (jobsF bk 12 r.nm) (fun o ho => by
    obtain ⟨s, hs⟩ := val o ho
    exact sl_one B J 12 o s hs) fun o ho => by
    obtain ⟨s, hs⟩ := val o ho
    exact long_nn B J 12 o s hs
  rw [← hT, ← hT2] at hstep
  have ec1 := xComp_typed (own := [11]) (g := tName 11) (t := xYes) (f := b_law_e1) (e := xItems (xVar 6)) (fr := f7 (.scr ns0) (.dat (.int ci)) (some (.cel 0)) (some (.dat (.tuple (bk.map eRc)))) (some (.dat (eRc r))) (some (.dat (.str r.nm))) (some (.dat (.list ((jobsF bk 12 r.nm).map eJ)))) none none none none none [.lst dk.l]) eJ (fun _ => true) (fun j => .int (lngB bk j)) (fun j => f7 (.scr ns0) (.dat (.int ci)) (some (.cel 0)) (some (.dat (.tuple (bk.map eRc)))) (some (.dat (eRc r))) (some (.dat (.str r.nm))) (some (.dat (.list ((jobsF bk 12 r.nm).map eJ)))) none none none none (some (.dat (eJ j))) [.lst dk.l]) (jobsF bk 12 r.nm) (by simp) (by omega) (fun _ _ => rfl) (fun _ => rfl) (fun _ _ => rfl) (fun j hj _ => by
    obtain ⟨s, hs⟩ := val j hj
    obtain ⟨r', _, hrm', hrn', _⟩ := sfind_at hs
    have hlong := t_longest B J 12 [] j s hs (rho_12 J hs (by rw [← hrn']; exact h3 r' hrm')) (by decide)
    simp only [List.nil_append, List.map_cons, List.map_nil] at hlong
    generalize (jobsF bk 12 r.nm).map eJ = JJ at *
    generalize eJ j = jd at *
    simp [b_law_e1, hlong])
  rw [List.filter_eq_self.mpr (fun _ _ => rfl)] at ec1
  have hI : ((jobsF bk 12 r.nm).map fun j => PyData.int (lngB bk j)) = ((jobsF bk 12 r.nm).map (lngB bk)).map .int := by rw [List.map_map]; rfl
  rw [hI] at ec1
  have emx : dMaxL [.list (((jobsF bk 12 r.nm).map (lngB bk)).map .int)] = some (.int (maxI ((jobsF bk 12 r.nm).map (lngB bk)))) := by
    unfold dMaxL
    simp only [intsD_map]
    cases q : (jobsF bk 12 r.nm).map (lngB bk) with
    | nil => exact absurd (List.map_eq_nil_iff.mp q) hne
    | cons a l => rfl
  have hlen : ((jobsF bk 12 r.nm).map eJ).length = (jobsF bk 12 r.nm).length := List.length_map ..
  generalize hTT : maxI ((jobsF bk 12 r.nm).map (lngB bk)) = T at *
  generalize maxI ((jobsF bk 12 r.nm).map (lngB (bk.map (slR job)))) = T2 at *
  have ec2 := xComp_typed (own := [12, 13]) (g := tNames [12, 13]) (t := xYes) (f := b_law_e2) (e := xItems (xCall m_by_stations (xCons (xVar 3) (xCons (xVar 5) (xNil))))) (fr := f7 (.scr ns0) (.dat (.int ci)) (some (.cel 0)) (some (.dat (.tuple (bk.map eRc)))) (some (.dat (eRc r))) (some (.dat (.str r.nm))) (some (.dat (.list ((jobsF bk 12 r.nm).map eJ)))) (some (.dat (.int T))) (some (.dat (.int T))) none none none [.lst dk.l]) eNI (fun _ => true) (fun q => .int q.2) (fun q => ⟨[some (.scr ns0), some (.dat (.int ci)), (some (.cel 0)), (some (.dat (.tuple (bk.map eRc)))), (some (.dat (eRc r))), (some (.dat (.str r.nm))), (some (.dat (.list ((jobsF bk 12 r.nm).map eJ)))), (some (.dat (.int T))), (some (.dat (.int T))), none, none, none, some (.dat (.str q.1)), some (.dat (.int q.2))], [.lst dk.l], 0⟩) kvs (by simp [eb]) (by omega) (fun _ _ => rfl) (fun _ => rfl) (fun _ _ => rfl) (fun q _ _ => by simp [b_law_e2])
  rw [List.filter_eq_self.mpr (fun _ _ => rfl)] at ec2
  have hK : (kvs.map fun q => PyData.int q.2) = (kvs.map (·.2)).map .int := by rw [List.map_map]; rfl
  rw [hK] at ec2
  have esm : dSum [.list ((kvs.map (·.2)).map .int)] = some (.int (sumI kvs)) := by
    unfold dSum
    simp only [intsD_map]
    rfl
  have ec3 := xComp_typed (own := [12]) (g := tName 12) (t := b_law_t1) (f := b_law_e3) (e := xItems (xCall m__law_used (xCons (xVar 3) (xCons (xVar 5) (xNil))))) (fr := f7 (.scr ns0) (.dat (.int ci)) (some (.cel 0)) (some (.dat (.tuple (bk.map eRc)))) (some (.dat (eRc r))) (some (.dat (.str r.nm))) (some (.dat (.list ((jobsF bk 12 r.nm).map eJ)))) (some (.dat (.int T))) (some (.dat (.int T))) (some (.dat (.int (sumI kvs)))) none none [.lst dk.l]) PyData.str (fun _ => false) PyData.str (fun m => ⟨[some (.scr ns0), some (.dat (.int ci)), (some (.cel 0)), (some (.dat (.tuple (bk.map eRc)))), (some (.dat (eRc r))), (some (.dat (.str r.nm))), (some (.dat (.list ((jobsF bk 12 r.nm).map eJ)))), (some (.dat (.int T))), (some (.dat (.int T))), (some (.dat (.int (sumI kvs)))), none, none, some (.dat (.str m)), none], [.lst dk.l], 0⟩) (usB bk r.nm) (by simp [eu]) (by have := usB_len B r.nm; omega) (fun _ _ => rfl) (fun _ => rfl) (fun m hmu => by
    obtain ⟨t, g1, g2⟩ := used m hmu
    have g3 : ¬ (T < t) := by omega
    simp [b_law_t1, g1, dGt, g3]) (fun _ _ h => by cases h)
  have hnil : (usB bk r.nm).filter (fun _ => false) = [] := List.filter_eq_nil_iff.mpr fun _ _ => by decide
  rw [hnil, List.map_nil] at ec3
  have q1 : eqOk (.int T) (.int T) = true := eqOk_int _ _
  have q2 : eqOk (.list []) (.list []) = true := eqOk_l (by simp [PyData.depth, PyData.depthAll])
  have q3 : PyData.eqv (.list []) (.list []) = true := rfl
  have g4 : ¬ (sumI kvs < T) := by omega
  have rc0 := rc_ix0 r
  have hnot : dNotIn (.int (T2 - T)) (.tuple [.int 0, .int 1]) = some (.bool false) := by
    have : T2 - T = 0 ∨ T2 - T = 1 := by omega
    rcases this with e | e <;> rw [e] <;> rfl
  refine ⟨d1, some (.dat (.str r.nm)), some (.dat (.list ((jobsF bk 12 r.nm).map eJ))), some (.dat (.int T)), some (.dat (.int T)), some (.dat (.int (sumI kvs))), some (.dat (.list [])), some (.dat (eJ job)), ?_, hd1⟩
  clear used hsum nn nn2 hT hT2 hstep ord val hjob jl hb
  generalize (jobsF bk 12 r.nm).map eJ = JJ at *
  generalize ((jobsF bk 12 r.nm).map (lngB bk)).map PyData.int = JI at *
  generalize (kvs.map (·.2)).map PyData.int = KI at *
  generalize (bk.map (slR job)).map eRc = BS at *
  generalize (usB bk r.nm).map PyData.str = US at *
  generalize sumI kvs = SS at *
  generalize eRc r = RR at *
  generalize eJ job = JD at *
  generalize (jobsF bk 12 r.nm).length = JL at *
  generalize bk.map eRc = BB at *
  unfold f7 at ec1 ec2 ec3
  unfold b_law_l1 f7
  simp [rc0, ej, ec1, emx, el, ec2, esm, dNe, q1, eqv_int, dGt, g4, ec3, q2, q3, hlen, e1, hix, esl, el2, dSub, hnot]
end G
/-! QK: law k07, the end. -/
namespace G
open PySem PySem.Spec PyProof.Rows L2
open PySem.W (dataLt dataLe alike keyToks)
theorem k07_cell {ns0 : List Int} {ci : Int} {v2 v3 v4 v5 v6 v7 v8 v9 v10 v11 : Option AV} {cs : List Cell} : ∃ (w2 w3 w4 w5 w6 w7 w8 w9 w10 w11 : Option AV) (cs' : List Cell), b_law_l2 (f7 (.scr ns0) (.dat (.int ci)) v2 v3 v4 v5 v6 v7 v8 v9 v10 v11 cs) = .nx (f7 (.scr ns0) (.dat (.int ci)) w2 w3 w4 w5 w6 w7 w8 w9 w10 w11 cs') := by
  obtain ⟨d, e1, h1⟩ := s_deck ci 0 (by decide) (by decide)
  obtain ⟨gs, d1, e2, h2, hg, hg2, hg6, hgn⟩ := t_goods (n := 4 + 214) (h1.less (by decide))
  obtain ⟨rs, d2, e3, h3, hr⟩ := t_cookbook (n := 4) (gs := gs) h2 (by omega) hg6
  have D := drawn hgn hr
  obtain ⟨J, h20⟩ := jb_of hr
  have B := D.bk
  have hr4 := D.r4
  have D3 : (srtT eRc rs).length ≤ 4 := by rw [(srtT_perm eRc rs).length_eq]; exact hr.rl
  generalize srtT eRc rs = bk at *
  have key := forA_typed (g := tName 4) (b := b_law_l1) eRc (fun done fr => ∃ d' v4 v5 v6 v7 v8 v9 v10 v11, fr = f7 (.scr ns0) (.dat (.int ci)) (some (.cel 0)) (some (.dat (.tuple (bk.map eRc)))) v4 v5 v6 v7 v8 v9 v10 v11 [.lst (Dk.l d')] ∧ d'.ok (4 - done.length)) bk (f7 (.scr ns0) (.dat (.int ci)) (some (.cel 0)) (some (.dat (.tuple (bk.map eRc)))) none none none none none none none none [.lst (Dk.l d2)]) ⟨d2, none, none, none, none, none, none, none, none, rfl, h3⟩ ?_
  · obtain ⟨fr', e, d', w4, w5, w6, w7, w8, w9, w10, w11, rfl, _⟩ := key
    refine ⟨some (.cel 0), (some (.dat (.tuple (bk.map eRc)))), w4, w5, w6, w7, w8, w9, w10, w11, [.lst (Dk.l d')], ?_⟩
    have n1 : noLs d.l = true := rfl
    generalize bk.map eRc = BB at *
    unfold f7 at e
    unfold b_law_l2 f7
    simp [e1, e2, e3, e, noL, n1]
  · rintro done r rest fr he ⟨d', v4, v5, v6, v7, v8, v9, v10, v11, rfl, hd⟩
    obtain ⟨hm, _, hl⟩ := take_of he
    have hq : 4 - done.length = (4 - (done ++ [r]).length) + 1 := by simp; omega
    rw [hq] at hd
    obtain ⟨d3, w5, w6, w7, w8, w9, w10, w11, e, h4⟩ := k07_dish B J h20 hr4 hd (ns0 := ns0) (ci := ci) hm (v5 := v5) (v6 := v6) (v7 := v7) (v8 := v8) (v9 := v9) (v10 := v10) (v11 := v11)
    exact ⟨_, _, rfl, .inl e, d3, _, w5, w6, w7, w8, w9, w10, w11, rfl, h4⟩
theorem s_law (ns : List Int) (h : ns.length ≤ 63) : m_law [.scr ns] [] = .ok (.dat (.bool true)) [] := by
  have key := forA_all (g := tName 1) (b := b_law_l2) (fun done fr => ∃ v1 v2 v3 v4 v5 v6 v7 v8 v9 v10 v11 cs, fr = ⟨[some (.scr ns), v1, v2, v3, v4, v5, v6, v7, v8, v9, v10, v11, none, none], cs, 0⟩) (((.int 0) :: (ns.map PyData.int).take 6)) ⟨[some (.scr ns), none, none, none, none, none, none, none, none, none, none, none, none, none], [], 0⟩ ⟨none, none, none, none, none, none, none, none, none, none, none, [], rfl⟩ ?_
  · obtain ⟨fr', e, v1, v2, v3, v4, v5, v6, v7, v8, v9, v10, v11, cs, rfl⟩ := key
    have hl : 1 + min 6 ns.length ≤ 1000000 := by omega
    have ct := cut_take (ns.map PyData.int) 6 (by decide)
    have e6 : (6 : Int).toNat = 6 := rfl
    rw [e6] at ct
    unfold m_law b_law
    simp only [← List.map_take] at e ct
    simp [dAdd, hl, dSl, ct]
    simp at e
    simp [e]
  · rintro done y rest fr hy ⟨v1, v2, v3, v4, v5, v6, v7, v8, v9, v10, v11, cs, rfl⟩
    obtain ⟨i, rfl⟩ : ∃ i : Int, y = .int i := by
      have : y ∈ (PyData.int 0) :: (ns.map PyData.int).take 6 := by rw [hy]; simp
      rcases List.mem_cons.mp this with z | z
      · exact ⟨0, z⟩
      · obtain ⟨i, _, e⟩ := List.mem_map.mp (List.mem_of_mem_take z)
        exact ⟨i, e.symm⟩
    obtain ⟨w2, w3, w4, w5, w6, w7, w8, w9, w10, w11, cs', e⟩ := k07_cell (ns0 := ns) (ci := i) (v2 := v2) (v3 := v3) (v4 := v4) (v5 := v5) (v6 := v6) (v7 := v7) (v8 := v8) (v9 := v9) (v10 := v10) (v11 := v11) (cs := cs)
    exact ⟨_, _, rfl, .inl e, _, _, _, _, _, _, _, _, _, _, _, _, rfl⟩
end G
namespace G
open PySem PySem.Spec PyProof.Rows L2
abbrev PW : Program := PySem.Challenge.pw_galleyward_k07_whole_least_minutes
def top (i : Nat) : Stmt := PW.main.body.getD i (.Pass ⟨0, 0, 0, 0⟩)
section
variable {P : Program} {w : World} {K : PySem.W.Frag} {mg : Str → Option Value} {base : Heap}
def b__law_times : Fr → SRes :=
  sRet (xCall m__law_frac (xCons (xOp2 dMul (xIx (xVar 0) (xC (.int 0))) (xIx (xVar 1) (xC (.int 0)))) (xCons (xOp2 dMul (xIx (xVar 0) (xC (.int 1))) (xIx (xVar 1) (xC (.int 1)))) (xNil))))
def m__law_times : AFun := mkFun 2 2 b__law_times

def N_recipe_of : List Str := ["book", "name", "recipe"]
abbrev sc_recipe_of : Scope := L2.defScope (top 1)
theorem fs_recipe_of : FnScope N_recipe_of ["book", "name"] sc_recipe_of := ⟨rfl, rfl, rfl, by decide +kernel, rfl, by decide +kernel, by decide +kernel⟩
theorem d_recipe_of {f : Addr} {fd : FuncData} (F : FunD K "recipe_of" "recipe_of" (L2.defArgs (top 1)) (L2.defBody (top 1)) sc_recipe_of [] [] f fd) (hm : mg "recipe_of" = some (.ref f))  : DefF P w K mg base CX0 C0 1 "recipe_of" 2 m_recipe_of := by
  have G : FnOk P w K mg base CX0 (0 + 1) f fd ["book", "name"] (spF ⟨P, w, K⟩ C0 m_recipe_of 2) :=
    fn_g (k := 0) (N := N_recipe_of) (ps := ["book", "name"]) (C := C0) (b := b_recipe_of) F fs_recipe_of fun cdv A outer s H E hr => by
      have hnd := fs_recipe_of.nd
      exact (as_cons (as_for (passes_of rfl) rfl (ai_seq (ae_var (i := 0) rfl (.inl rfl))) (ag_name (i := 2) hnd rfl (.inl rfl)) (as_one (as_if (at_cmp (o_eq hr.units) (ae_ix (ae_var (i := 2) rfl (.inl rfl)) (ae_int)) (ae_var (i := 1) rfl (.inl rfl)) (nomark _)) (as_one (as_ret (ae_var (i := 2) rfl (.inl rfl)))) (as_nil))))
    (ass_kill [2] (as_one (as_ret (ae_non)))))
  exact ⟨⟨f, fd, ["book", "name"], G, hm, F.kp, (F.bindsN fun _ _ _ _ _ _ us hl => match us, hl with | [_, _], _ => rfl)⟩⟩

def N_uses_of : List Str := ["recipe", "step", "use"]
abbrev sc_uses_of : Scope := L2.defScope (top 2)
theorem fs_uses_of : FnScope N_uses_of ["recipe"] sc_uses_of := ⟨rfl, rfl, rfl, by decide +kernel, rfl, by decide +kernel, by decide +kernel⟩
theorem d_uses_of {f : Addr} {fd : FuncData} (F : FunD K "uses_of" "uses_of" (L2.defArgs (top 2)) (L2.defBody (top 2)) sc_uses_of [] [] f fd) (hm : mg "uses_of" = some (.ref f))  : DefF P w K mg base CX0 C0 1 "uses_of" 1 m_uses_of := by
  have G : FnOk P w K mg base CX0 (0 + 1) f fd ["recipe"] (spF ⟨P, w, K⟩ C0 m_uses_of 1) :=
    fn_g (k := 0) (N := N_uses_of) (ps := ["recipe"]) (C := C0) (b := b_uses_of) F fs_uses_of fun cdv A outer s H E hr => by
      have hnd := fs_uses_of.nd
      exact (as_one (as_ret (ae_lc2 rfl hnd (own := [("step", 1), ("use", 2)]) (vs1 := [2]) (ai_seq (ae_ix (ae_var (i := 0) rfl (.inl rfl)) (ae_int))) (blkOk_by (N := N_uses_of) (sc := sc_uses_of) (by decide +kernel)) (fun _ _ _ _ _ => ag_name (i := 1) hnd rfl (.inl rfl)) (fun _ _ _ _ _ => ats_nil) (fun _ _ _ _ _ => ai_seq (ae_ix (ae_var (i := 1) rfl (.inl rfl)) (ae_int))) (fun _ _ _ _ _ => ag_name (i := 2) hnd rfl (.inl rfl)) (fun _ _ _ _ _ => ats_nil) (fun _ _ _ _ _ => ae_var (i := 2) rfl (.inl rfl)) (by decide) (by decide) (by decide))))
  exact ⟨⟨f, fd, ["recipe"], G, hm, F.kp, (F.bindsN fun _ _ _ _ _ _ us hl => match us, hl with | [_], _ => rfl)⟩⟩

def N_used_recipes : List Str := ["book", "name", "names", "recipe", "one", "amount"]
abbrev sc_used_recipes : Scope := L2.defScope (top 3)
theorem fs_used_recipes : FnScope N_used_recipes ["book", "name"] sc_used_recipes := ⟨rfl, rfl, rfl, by decide +kernel, rfl, by decide +kernel, by decide +kernel⟩
theorem d_used_recipes {f : Addr} {fd : FuncData} (F : FunD K "used_recipes" "used_recipes" (L2.defArgs (top 3)) (L2.defBody (top 3)) sc_used_recipes [] [] f fd) (hm : mg "used_recipes" = some (.ref f)) (h_sorted : mg "sorted" = none) (D_recipe_of : DefF P w K mg base CX0 C0 1 "recipe_of" 2 m_recipe_of) (D_uses_of : DefF P w K mg base CX0 C0 1 "uses_of" 1 m_uses_of) : DefF P w K mg base CX0 C0 2 "used_recipes" 2 m_used_recipes := by
  have G : FnOk P w K mg base CX0 (1 + 1) f fd ["book", "name"] (spF ⟨P, w, K⟩ C0 m_used_recipes 2) :=
    fn_g (k := 1) (N := N_used_recipes) (ps := ["book", "name"]) (C := C0) (b := b_used_recipes) F fs_used_recipes fun cdv A outer s H E hr => by
      have hnd := fs_used_recipes.nd
      exact (as_cons (as_set (i := 2) hnd rfl (.inr rfl) (ae_lc rfl hnd (own := [("recipe", 3)]) (ai_seq (ae_var (i := 0) rfl (.inl rfl))) (blkOk_by (N := N_used_recipes) (sc := sc_used_recipes) (by decide +kernel)) (fun _ _ _ _ _ => ag_name (i := 3) hnd rfl (.inl rfl)) (fun _ _ _ _ _ => ats_nil) (fun _ _ _ _ _ => ae_ix (ae_var (i := 3) rfl (.inl rfl)) (ae_int)) (by decide)))
    (as_one (as_ret (ae_callBD (c_sortedK rfl hr.units) rfl h_sorted boot_sorted' (ae_dc rfl hnd (own := [("one", 4), ("amount", 5)]) (ai_seq (ae_call D_uses_of hr (by omega) pass_0 rfl (aa_cons (ae_call D_recipe_of hr (by omega) pass_0 rfl (aa_cons (ae_var (i := 0) rfl (.inl rfl)) (aa_cons (ae_var (i := 1) rfl (.inl rfl)) (aa_nil))) (nc_cons (nc_cons (nc_nil)))) (aa_nil)) (nc_cons (nc_nil)))) (blkOk_by (N := N_used_recipes) (sc := sc_used_recipes) (by decide +kernel)) (fun _ _ _ _ _ => ag_tup rfl (ags_cons (i := 4) hnd rfl (.inl rfl) (ags_cons (i := 5) hnd rfl (.inl rfl) (ags_nil))) rfl) (fun _ _ _ _ _ => ats_one (at_cmp (o_in (room65 hr)) (ae_var (i := 4) rfl (.inl rfl)) (ae_var (i := 2) rfl (.inr (.inl rfl))) rfl)) (fun _ _ _ _ _ => ae_var (i := 4) rfl (.inl rfl)) (fun _ _ _ _ _ => ae_bl) (by decide))))))
  exact ⟨⟨f, fd, ["book", "name"], G, hm, F.kp, (F.bindsN fun _ _ _ _ _ _ us hl => match us, hl with | [_, _], _ => rfl)⟩⟩

def N_jobs : List Str := ["book", "dish", "found", "name", "job", "step"]
abbrev sc_jobs : Scope := L2.defScope (top 5)
theorem fs_jobs : FnScope N_jobs ["book", "dish"] sc_jobs := ⟨rfl, rfl, rfl, by decide +kernel, rfl, by decide +kernel, by decide +kernel⟩
theorem d_jobs {f : Addr} {fd : FuncData} (F : FunD K "jobs" "jobs" (L2.defArgs (top 5)) (L2.defBody (top 5)) sc_jobs [] [] f fd) (hm : mg "jobs" = some (.ref f)) (D_recipe_of : DefF P w K mg base CX0 C0 1 "recipe_of" 2 m_recipe_of) (D_used_recipes : DefF P w K mg base CX0 C0 2 "used_recipes" 2 m_used_recipes) : ∀ q : Nat, DefF P w K mg base CX0 C0 (2 + q) "jobs" 2 (m_jobs q)
  | 0 => ⟨⟨f, fd, ["book", "dish"], fn_err (N := N_jobs) (ps := ["book", "dish"]) (k := 1) F fs_jobs, hm, F.kp, (F.bindsN fun _ _ _ _ _ _ us hl => match us, hl with | [_, _], _ => rfl)⟩⟩
  | q + 1 => by
    have D_self := d_jobs F hm  D_recipe_of D_used_recipes q
    have G : FnOk P w K mg base CX0 (2 + q + 1) f fd ["book", "dish"] (spF ⟨P, w, K⟩ C0 (m_jobs (q + 1)) 2) :=
      fn_g (k := 2 + q) (N := N_jobs) (ps := ["book", "dish"]) (C := C0) (b := b_jobs (m_jobs q)) F fs_jobs fun cdv A outer s H E hr => by
        have hnd := fs_jobs.nd
        exact (as_cons (as_set (i := 2) hnd rfl (.inr rfl) (ae_newL (aa_nil) (by decide) (nc_nil)))
    (as_cons (as_for (passes_of rfl) rfl (ai_seq (ae_call D_used_recipes hr (by omega) pass_0 rfl (aa_cons (ae_var (i := 0) rfl (.inl rfl)) (aa_cons (ae_var (i := 1) rfl (.inr (.inl rfl))) (aa_nil))) (nc_cons (nc_cons (nc_nil))))) (ag_name (i := 3) hnd rfl (.inl rfl)) (as_one (as_ext (i := 2) hnd rfl (.inr rfl) (ae_lcF rfl hnd (own := [("job", 4)]) (ai_seq (ae_call D_self hr (by omega) pass_0 rfl (aa_cons (ae_var (i := 0) rfl (.inl rfl)) (aa_cons (ae_var (i := 3) rfl (.inl rfl)) (aa_nil))) (nc_cons (nc_cons (nc_nil))))) (blkOk_by (N := N_jobs) (sc := sc_jobs) (by decide +kernel)) (fun _ _ _ _ _ => ag_name (i := 4) hnd rfl (.inl rfl)) (fun _ _ _ _ _ => ats_one (at_cmp (o_notIn (room65 hr)) (ae_var (i := 4) rfl (.inl rfl)) (ae_var (i := 2) rfl (.inr (.inl rfl))) rfl)) (fun _ _ _ _ _ => ae_var (i := 4) rfl (.inl rfl)) (by decide)))))
    (ass_kill [3] (as_one (as_ret (ae_bin o_add (ae_var (i := 2) rfl (.inr (.inl rfl))) (ae_lc rfl hnd (own := [("step", 5)]) (ai_seq (ae_ix (ae_call D_recipe_of hr (by omega) pass_0 rfl (aa_cons (ae_var (i := 0) rfl (.inl rfl)) (aa_cons (ae_var (i := 1) rfl (.inr (.inl rfl))) (aa_nil))) (nc_cons (nc_cons (nc_nil)))) (ae_int))) (blkOk_by (N := N_jobs) (sc := sc_jobs) (by decide +kernel)) (fun _ _ _ _ _ => ag_name (i := 5) hnd rfl (.inl rfl)) (fun _ _ _ _ _ => ats_nil) (fun _ _ _ _ _ => ae_tup (aa_cons (ae_var (i := 1) rfl (.inr (.inl rfl))) (aa_cons (ae_ix (ae_var (i := 5) rfl (.inl rfl)) (ae_int)) (aa_nil))) (by decide) (nc_cons (nc_cons (nc_nil)))) (by decide))))))))
    exact ⟨⟨f, fd, ["book", "dish"], G, hm, F.kp, (F.bindsN fun _ _ _ _ _ _ us hl => match us, hl with | [_, _], _ => rfl)⟩⟩

def N_step_of : List Str := ["book", "job", "step"]
abbrev sc_step_of : Scope := L2.defScope (top 6)
theorem fs_step_of : FnScope N_step_of ["book", "job"] sc_step_of := ⟨rfl, rfl, rfl, by decide +kernel, rfl, by decide +kernel, by decide +kernel⟩
theorem d_step_of {f : Addr} {fd : FuncData} (F : FunD K "step_of" "step_of" (L2.defArgs (top 6)) (L2.defBody (top 6)) sc_step_of [] [] f fd) (hm : mg "step_of" = some (.ref f)) (D_recipe_of : DefF P w K mg base CX0 C0 1 "recipe_of" 2 m_recipe_of) : DefF P w K mg base CX0 C0 2 "step_of" 2 m_step_of := by
  have G : FnOk P w K mg base CX0 (1 + 1) f fd ["book", "job"] (spF ⟨P, w, K⟩ C0 m_step_of 2) :=
    fn_g (k := 1) (N := N_step_of) (ps := ["book", "job"]) (C := C0) (b := b_step_of) F fs_step_of fun cdv A outer s H E hr => by
      have hnd := fs_step_of.nd
      exact (as_cons (as_for (passes_of rfl) rfl (ai_seq (ae_ix (ae_call D_recipe_of hr (by omega) pass_0 rfl (aa_cons (ae_var (i := 0) rfl (.inl rfl)) (aa_cons (ae_ix (ae_var (i := 1) rfl (.inl rfl)) (ae_int)) (aa_nil))) (nc_cons (nc_cons (nc_nil)))) (ae_int))) (ag_name (i := 2) hnd rfl (.inl rfl)) (as_one (as_if (at_cmp (o_eq hr.units) (ae_ix (ae_var (i := 2) rfl (.inl rfl)) (ae_int)) (ae_ix (ae_var (i := 1) rfl (.inl rfl)) (ae_int)) (nomark _)) (as_one (as_ret (ae_var (i := 2) rfl (.inl rfl)))) (as_nil))))
    (ass_kill [2] (as_one (as_ret (ae_non)))))
  exact ⟨⟨f, fd, ["book", "job"], G, hm, F.kp, (F.bindsN fun _ _ _ _ _ _ us hl => match us, hl with | [_, _], _ => rfl)⟩⟩

def N_ends : List Str := ["book", "name", "steps", "step", "other"]
abbrev sc_ends : Scope := L2.defScope (top 7)
theorem fs_ends : FnScope N_ends ["book", "name"] sc_ends := ⟨rfl, rfl, rfl, by decide +kernel, rfl, by decide +kernel, by decide +kernel⟩
theorem d_ends {f : Addr} {fd : FuncData} (F : FunD K "ends" "ends" (L2.defArgs (top 7)) (L2.defBody (top 7)) sc_ends [] [] f fd) (hm : mg "ends" = some (.ref f)) (h_any : mg "any" = none) (D_recipe_of : DefF P w K mg base CX0 C0 1 "recipe_of" 2 m_recipe_of) : DefF P w K mg base CX0 C0 2 "ends" 2 m_ends := by
  have G : FnOk P w K mg base CX0 (1 + 1) f fd ["book", "name"] (spF ⟨P, w, K⟩ C0 m_ends 2) :=
    fn_g (k := 1) (N := N_ends) (ps := ["book", "name"]) (C := C0) (b := b_ends) F fs_ends fun cdv A outer s H E hr => by
      have hnd := fs_ends.nd
      exact (as_cons (as_set (i := 2) hnd rfl (.inr rfl) (ae_ix (ae_call D_recipe_of hr (by omega) pass_0 rfl (aa_cons (ae_var (i := 0) rfl (.inl rfl)) (aa_cons (ae_var (i := 1) rfl (.inl rfl)) (aa_nil))) (nc_cons (nc_cons (nc_nil)))) (ae_int)))
    (as_one (as_ret (ae_lc rfl hnd (own := [("step", 3)]) (ai_seq (ae_var (i := 2) rfl (.inr (.inl rfl)))) (blkOk_by (N := N_ends) (sc := sc_ends) (by decide +kernel)) (fun _ _ _ _ _ => ag_name (i := 3) hnd rfl (.inr rfl)) (fun _ _ _ _ _ => ats_one (at_not (at_val (ae_callB (c_any rfl) rfl h_any boot_any' (aa_cons (ae_lc rfl hnd (own := [("other", 4)]) (ai_seq (ae_var (i := 2) rfl (.inr (.inl rfl)))) (blkOk_by (by rfl)) (fun _ _ _ _ _ => ag_name (i := 4) hnd rfl (.inl rfl)) (fun _ _ _ _ _ => ats_nil) (fun _ _ _ _ _ => ae_cmp (o_in (room65 hr)) (ae_ix (ae_var (i := 3) rfl (.inr (.inl rfl))) (ae_int)) (ae_ix (ae_var (i := 4) rfl (.inl rfl)) (ae_int)) rfl) (by decide)) (aa_nil)))))) (fun _ _ _ _ _ => ae_ix (ae_var (i := 3) rfl (.inr (.inl rfl))) (ae_int)) (by decide)))))
  exact ⟨⟨f, fd, ["book", "name"], G, hm, F.kp, (F.bindsN fun _ _ _ _ _ _ us hl => match us, hl with | [_, _], _ => rfl)⟩⟩

def N_ahead : List Str := ["book", "dish", "job", "step", "names", "found", "name", "amount", "recipe", "word"]
abbrev sc_ahead : Scope := L2.defScope (top 8)
theorem fs_ahead : FnScope N_ahead ["book", "dish", "job"] sc_ahead := ⟨rfl, rfl, rfl, by decide +kernel, rfl, by decide +kernel, by decide +kernel⟩
theorem d_ahead {f : Addr} {fd : FuncData} (F : FunD K "ahead" "ahead" (L2.defArgs (top 8)) (L2.defBody (top 8)) sc_ahead [] [] f fd) (hm : mg "ahead" = some (.ref f)) (h_sorted : mg "sorted" = none) (D_step_of : DefF P w K mg base CX0 C0 2 "step_of" 2 m_step_of) (D_ends : DefF P w K mg base CX0 C0 2 "ends" 2 m_ends) : DefF P w K mg base CX0 C0 3 "ahead" 3 m_ahead := by
  have G : FnOk P w K mg base CX0 (2 + 1) f fd ["book", "dish", "job"] (spF ⟨P, w, K⟩ C0 m_ahead 3) :=
    fn_g (k := 2) (N := N_ahead) (ps := ["book", "dish", "job"]) (C := C0) (b := b_ahead) F fs_ahead fun cdv A outer s H E hr => by
      have hnd := fs_ahead.nd
      exact (as_cons (as_set (i := 3) hnd rfl (.inl rfl) (ae_call D_step_of hr (by omega) pass_0 rfl (aa_cons (ae_var (i := 0) rfl (.inl rfl)) (aa_cons (ae_var (i := 2) rfl (.inr (.inl rfl))) (aa_nil))) (nc_cons (nc_cons (nc_nil)))))
    (as_cons (as_setLc (i := 4) rfl hnd rfl rfl rfl (own := [("recipe", 8)]) (ai_seq (ae_var (i := 0) rfl (.inl rfl))) (blkOk_by (N := N_ahead) (sc := sc_ahead) (by decide +kernel)) (fun _ _ _ _ _ => ag_name (i := 8) hnd rfl (.inl rfl)) (fun _ _ _ _ _ => ats_nil) (fun _ _ _ _ _ => ae_ix (ae_var (i := 8) rfl (.inl rfl)) (ae_int)) (by decide))
    (as_cons (as_setLcF (i := 5) rfl hnd rfl rfl rfl (own := [("word", 9)]) (ai_seq (ae_ix (ae_var (i := 3) rfl (.inl rfl)) (ae_int))) (blkOk_by (N := N_ahead) (sc := sc_ahead) (by decide +kernel)) (fun _ _ _ _ _ => ag_name (i := 9) hnd rfl (.inl rfl)) (fun _ _ _ _ _ => ats_nil) (fun _ _ _ _ _ => ae_tup (aa_cons (ae_ix (ae_var (i := 2) rfl (.inr (.inl rfl))) (ae_int)) (aa_cons (ae_var (i := 9) rfl (.inl rfl)) (aa_nil))) (by decide) (nc_cons (nc_cons (nc_nil)))) (by decide))
    (as_cons (as_for (passes_of rfl) rfl (ai_seq (ae_ix (ae_var (i := 3) rfl (.inl rfl)) (ae_int))) (ag_tup rfl (ags_cons (i := 6) hnd rfl (.inr rfl) (ags_cons (i := 7) hnd rfl (.inl rfl) (ags_nil))) rfl) (ass_kill [7] (as_one (as_if (at_cmp (o_in (room65 hr)) (ae_var (i := 6) rfl (.inr (.inl rfl))) (ae_var (i := 4) rfl (.inl rfl)) rfl) (as_one (as_ext (i := 5) hnd rfl (.inl rfl) (ae_lcF rfl hnd (own := [("word", 9)]) (ai_seq (ae_call D_ends hr (by omega) pass_0 rfl (aa_cons (ae_var (i := 0) rfl (.inl rfl)) (aa_cons (ae_var (i := 6) rfl (.inr (.inl rfl))) (aa_nil))) (nc_cons (nc_cons (nc_nil))))) (blkOk_by (N := N_ahead) (sc := sc_ahead) (by decide +kernel)) (fun _ _ _ _ _ => ag_name (i := 9) hnd rfl (.inl rfl)) (fun _ _ _ _ _ => ats_nil) (fun _ _ _ _ _ => ae_tup (aa_cons (ae_var (i := 6) rfl (.inr (.inl rfl))) (aa_cons (ae_var (i := 9) rfl (.inl rfl)) (aa_nil))) (by decide) (nc_cons (nc_cons (nc_nil)))) (by decide)))) (as_nil)))))
    (ass_kill [6, 7] (as_one (as_ret (ae_callB (c_sorted hr.units) rfl h_sorted boot_sorted' (aa_cons (ae_var (i := 5) rfl (.inl rfl)) (aa_nil))))))))))
  exact ⟨⟨f, fd, ["book", "dish", "job"], G, hm, F.kp, (F.bindsN fun _ _ _ _ _ _ us hl => match us, hl with | [_, _, _], _ => rfl)⟩⟩

def N_by_stations : List Str := ["book", "dish", "table", "job", "step"]
abbrev sc_by_stations : Scope := L2.defScope (top 9)
theorem fs_by_stations : FnScope N_by_stations ["book", "dish"] sc_by_stations := ⟨rfl, rfl, rfl, by decide +kernel, rfl, by decide +kernel, by decide +kernel⟩
theorem d_by_stations {f : Addr} {fd : FuncData} (F : FunD K "by_stations" "by_stations" (L2.defArgs (top 9)) (L2.defBody (top 9)) sc_by_stations [] [] f fd) (hm : mg "by_stations" = some (.ref f)) (h_sorted : mg "sorted" = none) (D_jobs : DefF P w K mg base CX0 C0 14 "jobs" 2 (m_jobs 12)) (D_step_of : DefF P w K mg base CX0 C0 2 "step_of" 2 m_step_of) : DefF P w K mg base CX0 C0 15 "by_stations" 2 m_by_stations := by
  have G : FnOk P w K mg base CX0 (14 + 1) f fd ["book", "dish"] (spF ⟨P, w, K⟩ C0 m_by_stations 2) :=
    fn_g (k := 14) (N := N_by_stations) (ps := ["book", "dish"]) (C := C0) (b := b_by_stations) F fs_by_stations fun cdv A outer s H E hr => by
      have hnd := fs_by_stations.nd
      exact (as_cons (as_set (i := 2) hnd rfl (.inl rfl) (ae_newD false))
    (as_cons (as_for (passes_of rfl) rfl (ai_seq (ae_call D_jobs hr (by omega) pass_0 rfl (aa_cons (ae_var (i := 0) rfl (.inl rfl)) (aa_cons (ae_var (i := 1) rfl (.inl rfl)) (aa_nil))) (nc_cons (nc_cons (nc_nil))))) (ag_name (i := 3) hnd rfl (.inl rfl)) (ass_kill [4] (as_cons (as_set (i := 4) hnd rfl (.inl rfl) (ae_call D_step_of hr (by omega) pass_0 rfl (aa_cons (ae_var (i := 0) rfl (.inl rfl)) (aa_cons (ae_var (i := 3) rfl (.inl rfl)) (aa_nil))) (nc_cons (nc_cons (nc_nil)))))
    (as_one (as_dset (i := 2) hr.units rfl (.inl rfl) (ae_ix (ae_var (i := 4) rfl (.inl rfl)) (ae_int)) (ae_bin o_add (ae_dgetD hr.units (ae_var (i := 2) rfl (.inl rfl)) (ae_ix (ae_var (i := 4) rfl (.inl rfl)) (ae_int)) (ae_int) ⟨rfl, rfl, rfl, rfl⟩) (ae_ix (ae_var (i := 4) rfl (.inl rfl)) (ae_int))))))))
    (ass_kill [3, 4] (as_one (as_ret (ae_callBI (c_sortedI rfl hr.units) rfl h_sorted boot_sorted' (ae_var (i := 2) rfl (.inl rfl))))))))
  exact ⟨⟨f, fd, ["book", "dish"], G, hm, F.kp, (F.bindsN fun _ _ _ _ _ _ us hl => match us, hl with | [_, _], _ => rfl)⟩⟩

def N_least_minutes : List Str := ["book", "dish", "end", "job", "begin", "one"]
abbrev sc_least_minutes : Scope := L2.defScope (top 10)
theorem fs_least_minutes : FnScope N_least_minutes ["book", "dish"] sc_least_minutes := ⟨rfl, rfl, rfl, by decide +kernel, rfl, by decide +kernel, by decide +kernel⟩
theorem d_least_minutes {f : Addr} {fd : FuncData} (F : FunD K "least_minutes" "least_minutes" (L2.defArgs (top 10)) (L2.defBody (top 10)) sc_least_minutes [] [] f fd) (hm : mg "least_minutes" = some (.ref f)) (h_max : mg "max" = none) (D_jobs : DefF P w K mg base CX0 C0 14 "jobs" 2 (m_jobs 12)) (D_step_of : DefF P w K mg base CX0 C0 2 "step_of" 2 m_step_of) (D_ahead : DefF P w K mg base CX0 C0 3 "ahead" 3 m_ahead) : DefF P w K mg base CX0 C0 15 "least_minutes" 2 m_least_minutes := by
  have G : FnOk P w K mg base CX0 (14 + 1) f fd ["book", "dish"] (spF ⟨P, w, K⟩ C0 m_least_minutes 2) :=
    fn_g (k := 14) (N := N_least_minutes) (ps := ["book", "dish"]) (C := C0) (b := b_least_minutes) F fs_least_minutes fun cdv A outer s H E hr => by
      have hnd := fs_least_minutes.nd
      exact (as_cons (as_set (i := 2) hnd rfl (.inr rfl) (ae_newD true))
    (as_cons (as_for (passes_of rfl) rfl (ai_seq (ae_call D_jobs hr (by omega) pass_0 rfl (aa_cons (ae_var (i := 0) rfl (.inl rfl)) (aa_cons (ae_var (i := 1) rfl (.inl rfl)) (aa_nil))) (nc_cons (nc_cons (nc_nil))))) (ag_name (i := 3) hnd rfl (.inl rfl)) (ass_kill [4] (as_cons (as_set (i := 4) hnd rfl (.inl rfl) (ae_maxDf rfl hr.units rfl h_max boot_max' (ae_lc rfl hnd (own := [("one", 5)]) (ai_seq (ae_call D_ahead hr (by omega) pass_0 rfl (aa_cons (ae_var (i := 0) rfl (.inl rfl)) (aa_cons (ae_var (i := 1) rfl (.inl rfl)) (aa_cons (ae_var (i := 3) rfl (.inl rfl)) (aa_nil)))) (nc_cons (nc_cons (nc_cons (nc_nil)))))) (blkOk_by (N := N_least_minutes) (sc := sc_least_minutes) (by decide +kernel)) (fun _ _ _ _ _ => ag_name (i := 5) hnd rfl (.inl rfl)) (fun _ _ _ _ _ => ats_nil) (fun _ _ _ _ _ => ae_dget hr.units (ae_var (i := 2) rfl (.inr (.inl rfl))) (ae_var (i := 5) rfl (.inl rfl))) (by decide)) (ae_int)))
    (as_one (as_dset (i := 2) hr.units rfl (.inr (.inl rfl)) (ae_var (i := 3) rfl (.inl rfl)) (ae_bin o_add (ae_var (i := 4) rfl (.inl rfl)) (ae_ix (ae_call D_step_of hr (by omega) pass_0 rfl (aa_cons (ae_var (i := 0) rfl (.inl rfl)) (aa_cons (ae_var (i := 3) rfl (.inl rfl)) (aa_nil))) (nc_cons (nc_cons (nc_nil)))) (ae_int))))))))
    (ass_kill [3, 4] (as_one (as_ret (ae_callBV (c_maxV rfl) rfl h_max boot_max' (ae_var (i := 2) rfl (.inr (.inl rfl)))))))))
  exact ⟨⟨f, fd, ["book", "dish"], G, hm, F.kp, (F.bindsN fun _ _ _ _ _ _ us hl => match us, hl with | [_, _], _ => rfl)⟩⟩

def N__law_deck : List Str := ["_law_cell", "_law_turn"]
abbrev sc__law_deck : Scope := L2.defScope (top 12)
theorem fs__law_deck : FnScope N__law_deck ["_law_cell", "_law_turn"] sc__law_deck := ⟨rfl, rfl, rfl, by decide +kernel, rfl, by decide +kernel, by decide +kernel⟩
theorem d__law_deck {f : Addr} {fd : FuncData} (F : FunD K "_law_deck" "_law_deck" (L2.defArgs (top 12)) (L2.defBody (top 12)) sc__law_deck [] [] f fd) (hm : mg "_law_deck" = some (.ref f))  : DefF P w K mg base CX0 C0 1 "_law_deck" 2 m__law_deck := by
  have G : FnOk P w K mg base CX0 (0 + 1) f fd ["_law_cell", "_law_turn"] (spF ⟨P, w, K⟩ C0 m__law_deck 2) :=
    fn_g (k := 0) (N := N__law_deck) (ps := ["_law_cell", "_law_turn"]) (C := C0) (b := b__law_deck) F fs__law_deck fun cdv A outer s H E hr => by
      have hnd := fs__law_deck.nd
      exact (as_cons (as_if (at_cmp o_ge (ae_var (i := 0) rfl (.inl rfl)) (ae_bin o_pow (ae_int) (ae_int)) (nomark _)) (as_one (as_ret (ae_lst (aa_cons (ae_bin o_sub (ae_var (i := 0) rfl (.inl rfl)) (ae_bin o_pow (ae_int) (ae_int))) (aa_cons (ae_bin o_mod (ae_var (i := 0) rfl (.inl rfl)) (ae_int)) (aa_cons (ae_var (i := 1) rfl (.inl rfl)) (aa_nil)))) (by decide) (nc_cons (nc_cons (nc_cons (nc_nil))))))) (as_nil))
    (as_one (as_ret (ae_lst (aa_cons (ae_int) (aa_cons (ae_bin o_mod (ae_var (i := 0) rfl (.inl rfl)) (ae_int)) (aa_cons (ae_var (i := 1) rfl (.inl rfl)) (aa_nil)))) (by decide) (nc_cons (nc_cons (nc_cons (nc_nil))))))))
  exact ⟨⟨f, fd, ["_law_cell", "_law_turn"], G, hm, F.kp, (F.bindsN fun _ _ _ _ _ _ us hl => match us, hl with | [_, _], _ => rfl)⟩⟩

def N__law_pick : List Str := ["_law_deck_here", "_law_size", "_law_found", "_law_number"]
abbrev sc__law_pick : Scope := L2.defScope (top 13)
theorem fs__law_pick : FnScope N__law_pick ["_law_deck_here", "_law_size"] sc__law_pick := ⟨rfl, rfl, rfl, by decide +kernel, rfl, by decide +kernel, by decide +kernel⟩
theorem d__law_pick {f : Addr} {fd : FuncData} (F : FunD K "_law_pick" "_law_pick" (L2.defArgs (top 13)) (L2.defBody (top 13)) sc__law_pick [] [] f fd) (hm : mg "_law_pick" = some (.ref f))  : DefF P w K mg base CX0 C0 1 "_law_pick" 2 m__law_pick := by
  have G : FnOk P w K mg base CX0 (0 + 1) f fd ["_law_deck_here", "_law_size"] (spF ⟨P, w, K⟩ C0 m__law_pick 2) :=
    fn_g (k := 0) (N := N__law_pick) (ps := ["_law_deck_here", "_law_size"]) (C := C0) (b := b__law_pick) F fs__law_pick fun cdv A outer s H E hr => by
      have hnd := fs__law_pick.nd
      exact (as_cons (as_if (at_cmp o_gt (ae_ix (ae_var (i := 0) rfl (.inl rfl)) (ae_int)) (ae_int) (nomark _)) (as_cons (as_set (i := 2) hnd rfl (.inl rfl) (ae_bin o_mod (ae_ix (ae_var (i := 0) rfl (.inl rfl)) (ae_int)) (ae_var (i := 1) rfl (.inl rfl))))
    (as_cons (as_setIx (i := 0) rfl (.inl rfl) (ae_int) (ae_bin o_fdiv (ae_ix (ae_var (i := 0) rfl (.inl rfl)) (ae_int)) (ae_var (i := 1) rfl (.inl rfl))))
    (as_one (as_ret (ae_var (i := 2) rfl (.inl rfl)))))) (as_nil))
    (as_cons (as_setIx (i := 0) rfl (.inl rfl) (ae_int) (ae_bin o_add (ae_ix (ae_var (i := 0) rfl (.inl rfl)) (ae_int)) (ae_int)))
    (as_cons (as_set (i := 3) hnd rfl (.inl rfl) (ae_bin o_mod (ae_bin o_pow (ae_bin o_add (ae_ix (ae_var (i := 0) rfl (.inl rfl)) (ae_int)) (ae_bin o_mul (ae_int) (ae_ix (ae_var (i := 0) rfl (.inl rfl)) (ae_int)))) (ae_int)) (ae_int)))
    (as_cons (as_set (i := 2) hnd rfl (.inl rfl) (ae_bin o_fdiv (ae_bin o_mod (ae_bin o_pow (ae_bin o_add (ae_var (i := 3) rfl (.inl rfl)) (ae_bin o_mul (ae_int) (ae_ix (ae_var (i := 0) rfl (.inl rfl)) (ae_int)))) (ae_int)) (ae_int)) (ae_int)))
    (as_one (as_ret (ae_bin o_mod (ae_var (i := 2) rfl (.inl rfl)) (ae_var (i := 1) rfl (.inl rfl)))))))))
  exact ⟨⟨f, fd, ["_law_deck_here", "_law_size"], G, hm, F.kp, (F.bindsN fun _ _ _ _ _ _ us hl => match us, hl with | [_, _], _ => rfl)⟩⟩

def N__law_one : List Str := ["_law_deck_here", "_law_some"]
abbrev sc__law_one : Scope := L2.defScope (top 14)
theorem fs__law_one : FnScope N__law_one ["_law_deck_here", "_law_some"] sc__law_one := ⟨rfl, rfl, rfl, by decide +kernel, rfl, by decide +kernel, by decide +kernel⟩
theorem d__law_one {f : Addr} {fd : FuncData} (F : FunD K "_law_one" "_law_one" (L2.defArgs (top 14)) (L2.defBody (top 14)) sc__law_one [] [] f fd) (hm : mg "_law_one" = some (.ref f)) (h_len : mg "len" = none) (D__law_pick : DefF P w K mg base CX0 C0 1 "_law_pick" 2 m__law_pick) : DefF P w K mg base CX0 C0 2 "_law_one" 2 m__law_one := by
  have G : FnOk P w K mg base CX0 (1 + 1) f fd ["_law_deck_here", "_law_some"] (spF ⟨P, w, K⟩ C0 m__law_one 2) :=
    fn_g (k := 1) (N := N__law_one) (ps := ["_law_deck_here", "_law_some"]) (C := C0) (b := b__law_one) F fs__law_one fun cdv A outer s H E hr => by
      have hnd := fs__law_one.nd
      exact (as_one (as_ret (ae_ix (ae_var (i := 1) rfl (.inl rfl)) (ae_call D__law_pick hr (by omega) pass_0 rfl (aa_cons (ae_var (i := 0) rfl (.inl rfl)) (aa_cons (ae_callB c_len rfl h_len boot_len' (aa_cons (ae_var (i := 1) rfl (.inl rfl)) (aa_nil))) (aa_nil))) (nc_cons (nc_cons (nc_nil)))))))
  exact ⟨⟨f, fd, ["_law_deck_here", "_law_some"], G, hm, F.kp, (F.bindsN fun _ _ _ _ _ _ us hl => match us, hl with | [_, _], _ => rfl)⟩⟩

def N__law_frac : List Str := ["_law_top", "_law_bottom", "_law_one_here", "_law_other", "_law_rest"]
abbrev sc__law_frac : Scope := L2.defScope (top 15)
theorem fs__law_frac : FnScope N__law_frac ["_law_top", "_law_bottom"] sc__law_frac := ⟨rfl, rfl, rfl, by decide +kernel, rfl, by decide +kernel, by decide +kernel⟩
theorem d__law_frac {f : Addr} {fd : FuncData} (F : FunD K "_law_frac" "_law_frac" (L2.defArgs (top 15)) (L2.defBody (top 15)) sc__law_frac [] [] f fd) (hm : mg "_law_frac" = some (.ref f)) (h_abs : mg "abs" = none) : DefF P w K mg base CX0 C0 1 "_law_frac" 2 m__law_frac := by
  have G : FnOk P w K mg base CX0 (0 + 1) f fd ["_law_top", "_law_bottom"] (spF ⟨P, w, K⟩ C0 m__law_frac 2) :=
    fn_g (k := 0) (N := N__law_frac) (ps := ["_law_top", "_law_bottom"]) (C := C0) (b := b__law_frac) F fs__law_frac fun cdv A outer s H E hr => by
      have hnd := fs__law_frac.nd
      exact (as_cons (as_par (i := 2) (j := 3) rfl hnd rfl rfl (by decide) rfl rfl (aa_cons (ae_callB c_abs rfl h_abs boot_abs' (aa_cons (ae_var (i := 0) rfl (.inl rfl)) (aa_nil))) (aa_cons (ae_callB c_abs rfl h_abs boot_abs' (aa_cons (ae_var (i := 1) rfl (.inl rfl)) (aa_nil))) (aa_nil))) (by rfl))
    (as_cons (as_while (fun fr => natOf 3 fr + 2) (passes_of rfl) (at_cmp o_gt (ae_var (i := 3) rfl (.inl rfl)) (ae_int) (nomark _)) (ass_kill [4] (as_cons (as_set (i := 4) hnd rfl (.inl rfl) (ae_bin o_mod (ae_var (i := 2) rfl (.inl rfl)) (ae_var (i := 3) rfl (.inl rfl))))
    (as_cons (as_set (i := 2) hnd rfl (.inl rfl) (ae_var (i := 3) rfl (.inl rfl)))
    (as_one (as_set (i := 3) hnd rfl (.inl rfl) (ae_var (i := 4) rfl (.inl rfl))))))))
    (ass_kill [3, 4] (as_one (as_ret (ae_tup (aa_cons (ae_bin o_fdiv (ae_var (i := 0) rfl (.inl rfl)) (ae_var (i := 2) rfl (.inl rfl))) (aa_cons (ae_bin o_fdiv (ae_var (i := 1) rfl (.inl rfl)) (ae_var (i := 2) rfl (.inl rfl))) (aa_nil))) (by decide) (nc_cons (nc_cons (nc_nil)))))))))
  exact ⟨⟨f, fd, ["_law_top", "_law_bottom"], G, hm, F.kp, (F.bindsN fun _ _ _ _ _ _ us hl => match us, hl with | [_, _], _ => rfl)⟩⟩

def N__law_plus : List Str := ["_law_one_here", "_law_other"]
abbrev sc__law_plus : Scope := L2.defScope (top 16)
theorem fs__law_plus : FnScope N__law_plus ["_law_one_here", "_law_other"] sc__law_plus := ⟨rfl, rfl, rfl, by decide +kernel, rfl, by decide +kernel, by decide +kernel⟩
theorem d__law_plus {f : Addr} {fd : FuncData} (F : FunD K "_law_plus" "_law_plus" (L2.defArgs (top 16)) (L2.defBody (top 16)) sc__law_plus [] [] f fd) (hm : mg "_law_plus" = some (.ref f)) (D__law_frac : DefF P w K mg base CX0 C0 1 "_law_frac" 2 m__law_frac) : DefF P w K mg base CX0 C0 2 "_law_plus" 2 m__law_plus := by
  have G : FnOk P w K mg base CX0 (1 + 1) f fd ["_law_one_here", "_law_other"] (spF ⟨P, w, K⟩ C0 m__law_plus 2) :=
    fn_g (k := 1) (N := N__law_plus) (ps := ["_law_one_here", "_law_other"]) (C := C0) (b := b__law_plus) F fs__law_plus fun cdv A outer s H E hr => by
      have hnd := fs__law_plus.nd
      exact (as_one (as_ret (ae_call D__law_frac hr (by omega) pass_0 rfl (aa_cons (ae_bin o_add (ae_bin o_mul (ae_ix (ae_var (i := 0) rfl (.inl rfl)) (ae_int)) (ae_ix (ae_var (i := 1) rfl (.inl rfl)) (ae_int))) (ae_bin o_mul (ae_ix (ae_var (i := 1) rfl (.inl rfl)) (ae_int)) (ae_ix (ae_var (i := 0) rfl (.inl rfl)) (ae_int)))) (aa_cons (ae_bin o_mul (ae_ix (ae_var (i := 0) rfl (.inl rfl)) (ae_int)) (ae_ix (ae_var (i := 1) rfl (.inl rfl)) (ae_int))) (aa_nil))) (nc_cons (nc_cons (nc_nil))))))
  exact ⟨⟨f, fd, ["_law_one_here", "_law_other"], G, hm, F.kp, (F.bindsN fun _ _ _ _ _ _ us hl => match us, hl with | [_, _], _ => rfl)⟩⟩

def N__law_times : List Str := ["_law_one_here", "_law_other"]
abbrev sc__law_times : Scope := L2.defScope (top 17)
theorem fs__law_times : FnScope N__law_times ["_law_one_here", "_law_other"] sc__law_times := ⟨rfl, rfl, rfl, by decide +kernel, rfl, by decide +kernel, by decide +kernel⟩
theorem d__law_times {f : Addr} {fd : FuncData} (F : FunD K "_law_times" "_law_times" (L2.defArgs (top 17)) (L2.defBody (top 17)) sc__law_times [] [] f fd) (hm : mg "_law_times" = some (.ref f)) (D__law_frac : DefF P w K mg base CX0 C0 1 "_law_frac" 2 m__law_frac) : DefF P w K mg base CX0 C0 2 "_law_times" 2 m__law_times := by
  have G : FnOk P w K mg base CX0 (1 + 1) f fd ["_law_one_here", "_law_other"] (spF ⟨P, w, K⟩ C0 m__law_times 2) :=
    fn_g (k := 1) (N := N__law_times) (ps := ["_law_one_here", "_law_other"]) (C := C0) (b := b__law_times) F fs__law_times fun cdv A outer s H E hr => by
      have hnd := fs__law_times.nd
      exact (as_one (as_ret (ae_call D__law_frac hr (by omega) pass_0 rfl (aa_cons (ae_bin o_mul (ae_ix (ae_var (i := 0) rfl (.inl rfl)) (ae_int)) (ae_ix (ae_var (i := 1) rfl (.inl rfl)) (ae_int))) (aa_cons (ae_bin o_mul (ae_ix (ae_var (i := 0) rfl (.inl rfl)) (ae_int)) (ae_ix (ae_var (i := 1) rfl (.inl rfl)) (ae_int))) (aa_nil))) (nc_cons (nc_cons (nc_nil))))))
  exact ⟨⟨f, fd, ["_law_one_here", "_law_other"], G, hm, F.kp, (F.bindsN fun _ _ _ _ _ _ us hl => match us, hl with | [_, _], _ => rfl)⟩⟩

def N__law_amount : List Str := ["_law_deck_here"]
abbrev sc__law_amount : Scope := L2.defScope (top 18)
theorem fs__law_amount : FnScope N__law_amount ["_law_deck_here"] sc__law_amount := ⟨rfl, rfl, rfl, by decide +kernel, rfl, by decide +kernel, by decide +kernel⟩
theorem d__law_amount {f : Addr} {fd : FuncData} (F : FunD K "_law_amount" "_law_amount" (L2.defArgs (top 18)) (L2.defBody (top 18)) sc__law_amount [] [] f fd) (hm : mg "_law_amount" = some (.ref f)) (D__law_pick : DefF P w K mg base CX0 C0 1 "_law_pick" 2 m__law_pick) (D__law_one : DefF P w K mg base CX0 C0 2 "_law_one" 2 m__law_one) (D__law_frac : DefF P w K mg base CX0 C0 1 "_law_frac" 2 m__law_frac) : DefF P w K mg base CX0 C0 3 "_law_amount" 1 m__law_amount := by
  have G : FnOk P w K mg base CX0 (2 + 1) f fd ["_law_deck_here"] (spF ⟨P, w, K⟩ C0 m__law_amount 1) :=
    fn_g (k := 2) (N := N__law_amount) (ps := ["_law_deck_here"]) (C := C0) (b := b__law_amount) F fs__law_amount fun cdv A outer s H E hr => by
      have hnd := fs__law_amount.nd
      exact (as_one (as_ret (ae_call D__law_frac hr (by omega) pass_0 rfl (aa_cons (ae_bin o_add (ae_int) (ae_call D__law_pick hr (by omega) pass_0 rfl (aa_cons (ae_var (i := 0) rfl (.inl rfl)) (aa_cons (ae_int) (aa_nil))) (nc_cons (nc_cons (nc_nil))))) (aa_cons (ae_call D__law_one hr (by omega) pass_0 rfl (aa_cons (ae_var (i := 0) rfl (.inl rfl)) (aa_cons (ae_lst (aa_cons (ae_int) (aa_cons (ae_int) (aa_cons (ae_int) (aa_cons (ae_int) (aa_cons (ae_int) (aa_nil)))))) (by decide) (nc_cons (nc_cons (nc_cons (nc_cons (nc_cons (nc_nil))))))) (aa_nil))) (nc_cons (nc_cons (nc_nil)))) (aa_nil))) (nc_cons (nc_cons (nc_nil))))))
  exact ⟨⟨f, fd, ["_law_deck_here"], G, hm, F.kp, (F.bindsN fun _ _ _ _ _ _ us hl => match us, hl with | [_], _ => rfl)⟩⟩

def N__law_marks : List Str := ["_law_deck_here", "_law_size", "_law_some", "_law_mark"]
abbrev sc__law_marks : Scope := L2.defScope (top 19)
theorem fs__law_marks : FnScope N__law_marks ["_law_deck_here", "_law_size"] sc__law_marks := ⟨rfl, rfl, rfl, by decide +kernel, rfl, by decide +kernel, by decide +kernel⟩
theorem d__law_marks {f : Addr} {fd : FuncData} (F : FunD K "_law_marks" "_law_marks" (L2.defArgs (top 19)) (L2.defBody (top 19)) sc__law_marks [] [] f fd) (hm : mg "_law_marks" = some (.ref f)) (h_tuple : mg "tuple" = none) (D__law_pick : DefF P w K mg base CX0 C0 1 "_law_pick" 2 m__law_pick) : DefF P w K mg base CX0 C0 2 "_law_marks" 2 m__law_marks := by
  have G : FnOk P w K mg base CX0 (1 + 1) f fd ["_law_deck_here", "_law_size"] (spF ⟨P, w, K⟩ C0 m__law_marks 2) :=
    fn_g (k := 1) (N := N__law_marks) (ps := ["_law_deck_here", "_law_size"]) (C := C0) (b := b__law_marks) F fs__law_marks fun cdv A outer s H E hr => by
      have hnd := fs__law_marks.nd
      exact (as_cons (as_set (i := 2) hnd rfl (.inl rfl) (ae_lst (aa_cons (ae_str) (aa_cons (ae_str) (aa_cons (ae_str) (aa_cons (ae_str) (aa_nil))))) (by decide) (nc_cons (nc_cons (nc_cons (nc_cons (nc_nil)))))))
    (as_one (as_ret (ae_callT c_tuple rfl h_tuple boot_tuple' (aa_cons (ae_lc rfl hnd (own := [("_law_mark", 3)]) (ai_seq (ae_var (i := 2) rfl (.inl rfl))) (blkOk_by (N := N__law_marks) (sc := sc__law_marks) (by decide +kernel)) (fun _ _ _ _ _ => ag_name (i := 3) hnd rfl (.inl rfl)) (fun _ _ _ _ _ => ats_one (at_cmp (o_eq hr.units) (ae_call D__law_pick hr (by omega) pass_0 rfl (aa_cons (ae_var (i := 0) rfl (.inr (.inl rfl))) (aa_cons (ae_var (i := 1) rfl (.inr (.inl rfl))) (aa_nil))) (nc_cons (nc_cons (nc_nil)))) (ae_int) (nomark _))) (fun _ _ _ _ _ => ae_var (i := 3) rfl (.inl rfl)) (by decide)) (aa_nil))))))
  exact ⟨⟨f, fd, ["_law_deck_here", "_law_size"], G, hm, F.kp, (F.bindsN fun _ _ _ _ _ _ us hl => match us, hl with | [_, _], _ => rfl)⟩⟩

def N__law_goods : List Str := ["_law_deck_here", "_law_found", "_law_name", "_law_days"]
abbrev sc__law_goods : Scope := L2.defScope (top 20)
theorem fs__law_goods : FnScope N__law_goods ["_law_deck_here"] sc__law_goods := ⟨rfl, rfl, rfl, by decide +kernel, rfl, by decide +kernel, by decide +kernel⟩
theorem d__law_goods {f : Addr} {fd : FuncData} (F : FunD K "_law_goods" "_law_goods" (L2.defArgs (top 20)) (L2.defBody (top 20)) sc__law_goods [] [] f fd) (hm : mg "_law_goods" = some (.ref f)) (h_tuple : mg "tuple" = none) (D__law_pick : DefF P w K mg base CX0 C0 1 "_law_pick" 2 m__law_pick) (D__law_one : DefF P w K mg base CX0 C0 2 "_law_one" 2 m__law_one) (D__law_marks : DefF P w K mg base CX0 C0 2 "_law_marks" 2 m__law_marks) : DefF P w K mg base CX0 C0 3 "_law_goods" 1 m__law_goods := by
  have G : FnOk P w K mg base CX0 (2 + 1) f fd ["_law_deck_here"] (spF ⟨P, w, K⟩ C0 m__law_goods 1) :=
    fn_g (k := 2) (N := N__law_goods) (ps := ["_law_deck_here"]) (C := C0) (b := b__law_goods) F fs__law_goods fun cdv A outer s H E hr => by
      have hnd := fs__law_goods.nd
      exact (as_cons (as_set (i := 1) hnd rfl (.inl rfl) (ae_newL (aa_nil) (by decide) (nc_nil)))
    (as_cons (as_for (passes_of rfl) rfl (ai_seq (ae_sl (ae_lst (aa_cons (ae_str) (aa_cons (ae_str) (aa_cons (ae_str) (aa_cons (ae_str) (aa_cons (ae_str) (aa_cons (ae_str) (aa_nil))))))) (by decide) (nc_cons (nc_cons (nc_cons (nc_cons (nc_cons (nc_cons (nc_nil)))))))) (ao_none) (ao_some (ae_bin o_add (ae_int) (ae_call D__law_pick hr (by omega) pass_0 rfl (aa_cons (ae_var (i := 0) rfl (.inl rfl)) (aa_cons (ae_int) (aa_nil))) (nc_cons (nc_cons (nc_nil)))))))) (ag_name (i := 2) hnd rfl (.inl rfl)) (ass_kill [3] (as_cons (as_set (i := 3) hnd rfl (.inl rfl) (ae_call D__law_one hr (by omega) pass_0 rfl (aa_cons (ae_var (i := 0) rfl (.inl rfl)) (aa_cons (ae_lst (aa_cons (ae_int) (aa_cons (ae_int) (aa_cons (ae_int) (aa_cons (ae_int) (aa_nil))))) (by decide) (nc_cons (nc_cons (nc_cons (nc_cons (nc_nil)))))) (aa_nil))) (nc_cons (nc_cons (nc_nil)))))
    (as_one (as_app (i := 1) rfl (.inl rfl) (ae_tup (aa_cons (ae_var (i := 2) rfl (.inl rfl)) (aa_cons (ae_bin o_add (ae_int) (ae_call D__law_pick hr (by omega) pass_0 rfl (aa_cons (ae_var (i := 0) rfl (.inl rfl)) (aa_cons (ae_int) (aa_nil))) (nc_cons (nc_cons (nc_nil))))) (aa_cons (ae_call D__law_pick hr (by omega) pass_0 rfl (aa_cons (ae_var (i := 0) rfl (.inl rfl)) (aa_cons (ae_int) (aa_nil))) (nc_cons (nc_cons (nc_nil)))) (aa_cons (ae_var (i := 3) rfl (.inl rfl)) (aa_cons (ae_call D__law_marks hr (by omega) pass_0 rfl (aa_cons (ae_var (i := 0) rfl (.inl rfl)) (aa_cons (ae_int) (aa_nil))) (nc_cons (nc_cons (nc_nil)))) (aa_nil)))))) (by decide) (nc_cons (nc_cons (nc_cons (nc_cons (nc_cons (nc_nil))))))))))))
    (ass_kill [2, 3] (as_one (as_ret (ae_callT c_tuple rfl h_tuple boot_tuple' (aa_cons (ae_var (i := 1) rfl (.inl rfl)) (aa_nil))))))))
  exact ⟨⟨f, fd, ["_law_deck_here"], G, hm, F.kp, (F.bindsN fun _ _ _ _ _ _ us hl => match us, hl with | [_], _ => rfl)⟩⟩

def N__law_step : List Str := ["_law_deck_here", "_law_word", "_law_names", "_law_words", "_law_uses", "_law_turn", "_law_station", "_law_tools", "_law_after", "_law_minutes", "_law_tool", "_law_one_here"]
abbrev sc__law_step : Scope := L2.defScope (top 21)
theorem fs__law_step : FnScope N__law_step ["_law_deck_here", "_law_word", "_law_names", "_law_words"] sc__law_step := ⟨rfl, rfl, rfl, by decide +kernel, rfl, by decide +kernel, by decide +kernel⟩
theorem d__law_step {f : Addr} {fd : FuncData} (F : FunD K "_law_step" "_law_step" (L2.defArgs (top 21)) (L2.defBody (top 21)) sc__law_step [] [] f fd) (hm : mg "_law_step" = some (.ref f)) (h_range : mg "range" = none) (h_sorted : mg "sorted" = none) (h_tuple : mg "tuple" = none) (D__law_pick : DefF P w K mg base CX0 C0 1 "_law_pick" 2 m__law_pick) (D__law_one : DefF P w K mg base CX0 C0 2 "_law_one" 2 m__law_one) (D__law_amount : DefF P w K mg base CX0 C0 3 "_law_amount" 1 m__law_amount) : DefF P w K mg base CX0 C0 4 "_law_step" 4 m__law_step := by
  have G : FnOk P w K mg base CX0 (3 + 1) f fd ["_law_deck_here", "_law_word", "_law_names", "_law_words"] (spF ⟨P, w, K⟩ C0 m__law_step 4) :=
    fn_g (k := 3) (N := N__law_step) (ps := ["_law_deck_here", "_law_word", "_law_names", "_law_words"]) (C := C0) (b := b__law_step) F fs__law_step fun cdv A outer s H E hr => by
      have hnd := fs__law_step.nd
      exact (as_cons (as_set (i := 4) hnd rfl (.inl rfl) (ae_newD false))
    (as_cons (as_for (passes_of rfl) rfl (ai_range1 rfl h_range (ae_call D__law_pick hr (by omega) pass_0 rfl (aa_cons (ae_var (i := 0) rfl (.inr (.inl rfl))) (aa_cons (ae_int) (aa_nil))) (nc_cons (nc_cons (nc_nil))))) (ag_name (i := 5) hnd rfl (.inl rfl)) (ass_kill [5] (as_one (as_dset (i := 4) hr.units rfl (.inl rfl) (ae_call D__law_one hr (by omega) pass_0 rfl (aa_cons (ae_var (i := 0) rfl (.inr (.inl rfl))) (aa_cons (ae_var (i := 2) rfl (.inl rfl)) (aa_nil))) (nc_cons (nc_cons (nc_nil)))) (ae_call D__law_amount hr (by omega) pass_0 rfl (aa_cons (ae_var (i := 0) rfl (.inr (.inl rfl))) (aa_nil)) (nc_cons (nc_nil)))))))
    (ass_kill [5] (as_cons (as_set (i := 6) hnd rfl (.inl rfl) (ae_call D__law_one hr (by omega) pass_0 rfl (aa_cons (ae_var (i := 0) rfl (.inr (.inl rfl))) (aa_cons (ae_lst (aa_cons (ae_str) (aa_cons (ae_str) (aa_cons (ae_str) (aa_nil)))) (by decide) (nc_cons (nc_cons (nc_cons (nc_nil))))) (aa_nil))) (nc_cons (nc_cons (nc_nil)))))
    (as_cons (as_set (i := 7) hnd rfl (.inl rfl) (ae_callT c_tuple rfl h_tuple boot_tuple' (aa_cons (ae_lc rfl hnd (own := [("_law_tool", 10)]) (ai_seq (ae_lst (aa_cons (ae_str) (aa_cons (ae_str) (aa_cons (ae_str) (aa_nil)))) (by decide) (nc_cons (nc_cons (nc_cons (nc_nil)))))) (blkOk_by (N := N__law_step) (sc := sc__law_step) (by decide +kernel)) (fun _ _ _ _ _ => ag_name (i := 10) hnd rfl (.inl rfl)) (fun _ _ _ _ _ => ats_one (at_cmp (o_eq hr.units) (ae_call D__law_pick hr (by omega) pass_0 rfl (aa_cons (ae_var (i := 0) rfl (.inr (.inl rfl))) (aa_cons (ae_int) (aa_nil))) (nc_cons (nc_cons (nc_nil)))) (ae_int) (nomark _))) (fun _ _ _ _ _ => ae_var (i := 10) rfl (.inl rfl)) (by decide)) (aa_nil))))
    (as_cons (as_set (i := 8) hnd rfl (.inl rfl) (ae_callT c_tuple rfl h_tuple boot_tuple' (aa_cons (ae_lc rfl hnd (own := [("_law_one_here", 11)]) (ai_seq (ae_callB (c_sorted hr.units) rfl h_sorted boot_sorted' (aa_cons (ae_var (i := 3) rfl (.inl rfl)) (aa_nil)))) (blkOk_by (N := N__law_step) (sc := sc__law_step) (by decide +kernel)) (fun _ _ _ _ _ => ag_name (i := 11) hnd rfl (.inl rfl)) (fun _ _ _ _ _ => ats_one (at_cmp (o_eq hr.units) (ae_call D__law_pick hr (by omega) pass_0 rfl (aa_cons (ae_var (i := 0) rfl (.inr (.inl rfl))) (aa_cons (ae_int) (aa_nil))) (nc_cons (nc_cons (nc_nil)))) (ae_int) (nomark _))) (fun _ _ _ _ _ => ae_var (i := 11) rfl (.inl rfl)) (by decide)) (aa_nil))))
    (as_cons (as_set (i := 9) hnd rfl (.inl rfl) (ae_bin o_add (ae_int) (ae_call D__law_pick hr (by omega) pass_0 rfl (aa_cons (ae_var (i := 0) rfl (.inr (.inl rfl))) (aa_cons (ae_call D__law_one hr (by omega) pass_0 rfl (aa_cons (ae_var (i := 0) rfl (.inr (.inl rfl))) (aa_cons (ae_lst (aa_cons (ae_int) (aa_cons (ae_int) (aa_cons (ae_int) (aa_nil)))) (by decide) (nc_cons (nc_cons (nc_cons (nc_nil))))) (aa_nil))) (nc_cons (nc_cons (nc_nil)))) (aa_nil))) (nc_cons (nc_cons (nc_nil))))))
    (as_one (as_ret (ae_tup (aa_cons (ae_var (i := 1) rfl (.inl rfl)) (aa_cons (ae_var (i := 6) rfl (.inl rfl)) (aa_cons (ae_var (i := 9) rfl (.inl rfl)) (aa_cons (ae_call D__law_pick hr (by omega) pass_0 rfl (aa_cons (ae_var (i := 0) rfl (.inr (.inl rfl))) (aa_cons (ae_int) (aa_nil))) (nc_cons (nc_cons (nc_nil)))) (aa_cons (ae_var (i := 7) rfl (.inl rfl)) (aa_cons (ae_callT c_tuple rfl h_tuple boot_tuple' (aa_cons (ae_callBI (c_sortedI rfl hr.units) rfl h_sorted boot_sorted' (ae_var (i := 4) rfl (.inl rfl))) (aa_nil))) (aa_cons (ae_var (i := 8) rfl (.inl rfl)) (aa_nil)))))))) (by decide) (nc_cons (nc_cons (nc_cons (nc_cons (nc_cons (nc_cons (nc_cons (nc_nil))))))))))))))))))
  exact ⟨⟨f, fd, ["_law_deck_here", "_law_word", "_law_names", "_law_words"], G, hm, F.kp, (F.bindsN fun _ _ _ _ _ _ us hl => match us, hl with | [_, _, _, _], _ => rfl)⟩⟩

def N__law_cookbook : List Str := ["_law_deck_here", "_law_goods_here", "_law_names", "_law_found", "_law_dishes", "_law_name", "_law_words", "_law_steps", "_law_word", "_law_good"]
abbrev sc__law_cookbook : Scope := L2.defScope (top 22)
theorem fs__law_cookbook : FnScope N__law_cookbook ["_law_deck_here", "_law_goods_here"] sc__law_cookbook := ⟨rfl, rfl, rfl, by decide +kernel, rfl, by decide +kernel, by decide +kernel⟩
theorem d__law_cookbook {f : Addr} {fd : FuncData} (F : FunD K "_law_cookbook" "_law_cookbook" (L2.defArgs (top 22)) (L2.defBody (top 22)) sc__law_cookbook [] [] f fd) (hm : mg "_law_cookbook" = some (.ref f)) (h_sorted : mg "sorted" = none) (h_tuple : mg "tuple" = none) (D__law_pick : DefF P w K mg base CX0 C0 1 "_law_pick" 2 m__law_pick) (D__law_one : DefF P w K mg base CX0 C0 2 "_law_one" 2 m__law_one) (D__law_step : DefF P w K mg base CX0 C0 4 "_law_step" 4 m__law_step) : DefF P w K mg base CX0 C0 5 "_law_cookbook" 2 m__law_cookbook := by
  have G : FnOk P w K mg base CX0 (4 + 1) f fd ["_law_deck_here", "_law_goods_here"] (spF ⟨P, w, K⟩ C0 m__law_cookbook 2) :=
    fn_g (k := 4) (N := N__law_cookbook) (ps := ["_law_deck_here", "_law_goods_here"]) (C := C0) (b := b__law_cookbook) F fs__law_cookbook fun cdv A outer s H E hr => by
      have hnd := fs__law_cookbook.nd
      exact (as_cons (as_setLc (i := 2) rfl hnd rfl rfl rfl (own := [("_law_good", 9)]) (ai_seq (ae_var (i := 1) rfl (.inl rfl))) (blkOk_by (N := N__law_cookbook) (sc := sc__law_cookbook) (by decide +kernel)) (fun _ _ _ _ _ => ag_name (i := 9) hnd rfl (.inl rfl)) (fun _ _ _ _ _ => ats_nil) (fun _ _ _ _ _ => ae_ix (ae_var (i := 9) rfl (.inl rfl)) (ae_int)) (by decide))
    (as_cons (as_set (i := 3) hnd rfl (.inl rfl) (ae_newL (aa_nil) (by decide) (nc_nil)))
    (as_cons (as_set (i := 4) hnd rfl (.inl rfl) (ae_call D__law_one hr (by omega) pass_0 rfl (aa_cons (ae_var (i := 0) rfl (.inl rfl)) (aa_cons (ae_lst (aa_cons (ae_lst (aa_cons (ae_str) (aa_cons (ae_str) (aa_cons (ae_str) (aa_cons (ae_str) (aa_nil))))) (by decide) (nc_cons (nc_cons (nc_cons (nc_cons (nc_nil)))))) (aa_cons (ae_lst (aa_cons (ae_str) (aa_cons (ae_str) (aa_cons (ae_str) (aa_cons (ae_str) (aa_nil))))) (by decide) (nc_cons (nc_cons (nc_cons (nc_cons (nc_nil)))))) (aa_nil))) (by decide) (nc_cons (nc_cons (nc_nil)))) (aa_nil))) (nc_cons (nc_cons (nc_nil)))))
    (as_cons (as_for (passes_of rfl) rfl (ai_seq (ae_sl (ae_var (i := 4) rfl (.inl rfl)) (ao_none) (ao_some (ae_bin o_add (ae_int) (ae_call D__law_pick hr (by omega) pass_0 rfl (aa_cons (ae_var (i := 0) rfl (.inl rfl)) (aa_cons (ae_int) (aa_nil))) (nc_cons (nc_cons (nc_nil)))))))) (ag_name (i := 5) hnd rfl (.inl rfl)) (ass_kill [6, 7, 8] (ass_gc (as_cons (as_set (i := 6) hnd rfl (.inl rfl) (ae_newL (aa_nil) (by decide) (nc_nil)))
    (as_cons (as_set (i := 7) hnd rfl (.inl rfl) (ae_newL (aa_nil) (by decide) (nc_nil)))
    (as_cons (as_for (passes_of rfl) rfl (ai_seq (ae_sl (ae_lst (aa_cons (ae_str) (aa_cons (ae_str) (aa_cons (ae_str) (aa_cons (ae_str) (aa_nil))))) (by decide) (nc_cons (nc_cons (nc_cons (nc_cons (nc_nil)))))) (ao_none) (ao_some (ae_bin o_add (ae_int) (ae_call D__law_pick hr (by omega) pass_0 rfl (aa_cons (ae_var (i := 0) rfl (.inl rfl)) (aa_cons (ae_int) (aa_nil))) (nc_cons (nc_cons (nc_nil)))))))) (ag_name (i := 8) hnd rfl (.inl rfl)) (as_cons (as_app (i := 7) rfl (.inl rfl) (ae_callL [false, false, false, true] D__law_step hr (by omega) pass_0 rfl (aa_cons (ae_var (i := 0) rfl (.inl rfl)) (aa_cons (ae_var (i := 8) rfl (.inl rfl)) (aa_cons (ae_var (i := 2) rfl (.inl rfl)) (aa_cons (ae_var (i := 6) rfl (.inl rfl)) (aa_nil))))) (nc_cons (nc_cons (nc_cons (nc_cons (nc_nil)))))))
    (as_one (as_app (i := 6) rfl (.inl rfl) (ae_var (i := 8) rfl (.inl rfl))))))
    (ass_kill [8] (as_cons (as_app (i := 3) rfl (.inl rfl) (ae_tup (aa_cons (ae_var (i := 5) rfl (.inl rfl)) (aa_cons (ae_bin o_add (ae_int) (ae_call D__law_pick hr (by omega) pass_0 rfl (aa_cons (ae_var (i := 0) rfl (.inl rfl)) (aa_cons (ae_int) (aa_nil))) (nc_cons (nc_cons (nc_nil))))) (aa_cons (ae_callT c_tuple rfl h_tuple boot_tuple' (aa_cons (ae_var (i := 7) rfl (.inl rfl)) (aa_nil))) (aa_nil)))) (by decide) (nc_cons (nc_cons (nc_cons (nc_nil))))))
    (as_one (as_set (i := 2) hnd rfl (.inl rfl) (ae_bin o_add (ae_var (i := 2) rfl (.inl rfl)) (ae_lst (aa_cons (ae_var (i := 5) rfl (.inl rfl)) (aa_nil)) (by decide) (nc_cons (nc_nil))))))))))))))
    (ass_kill [2, 5, 6, 7, 8] (as_one (as_ret (ae_callT c_tuple rfl h_tuple boot_tuple' (aa_cons (ae_callB (c_sorted hr.units) rfl h_sorted boot_sorted' (aa_cons (ae_var (i := 3) rfl (.inl rfl)) (aa_nil))) (aa_nil))))))))))
  exact ⟨⟨f, fd, ["_law_deck_here", "_law_goods_here"], G, hm, F.kp, (F.bindsN fun _ _ _ _ _ _ us hl => match us, hl with | [_, _], _ => rfl)⟩⟩

def N__law_recipe : List Str := ["_law_book", "_law_name", "_law_recipe_here"]
abbrev sc__law_recipe : Scope := L2.defScope (top 23)
theorem fs__law_recipe : FnScope N__law_recipe ["_law_book", "_law_name"] sc__law_recipe := ⟨rfl, rfl, rfl, by decide +kernel, rfl, by decide +kernel, by decide +kernel⟩
theorem d__law_recipe {f : Addr} {fd : FuncData} (F : FunD K "_law_recipe" "_law_recipe" (L2.defArgs (top 23)) (L2.defBody (top 23)) sc__law_recipe [] [] f fd) (hm : mg "_law_recipe" = some (.ref f))  : DefF P w K mg base CX0 C0 1 "_law_recipe" 2 m__law_recipe := by
  have G : FnOk P w K mg base CX0 (0 + 1) f fd ["_law_book", "_law_name"] (spF ⟨P, w, K⟩ C0 m__law_recipe 2) :=
    fn_g (k := 0) (N := N__law_recipe) (ps := ["_law_book", "_law_name"]) (C := C0) (b := b__law_recipe) F fs__law_recipe fun cdv A outer s H E hr => by
      have hnd := fs__law_recipe.nd
      exact (as_one (as_ret (ae_ix (ae_lc rfl hnd (own := [("_law_recipe_here", 2)]) (ai_seq (ae_var (i := 0) rfl (.inl rfl))) (blkOk_by (N := N__law_recipe) (sc := sc__law_recipe) (by decide +kernel)) (fun _ _ _ _ _ => ag_name (i := 2) hnd rfl (.inl rfl)) (fun _ _ _ _ _ => ats_one (at_cmp (o_eq hr.units) (ae_ix (ae_var (i := 2) rfl (.inl rfl)) (ae_int)) (ae_var (i := 1) rfl (.inr (.inl rfl))) (nomark _))) (fun _ _ _ _ _ => ae_var (i := 2) rfl (.inl rfl)) (by decide)) (ae_int))))
  exact ⟨⟨f, fd, ["_law_book", "_law_name"], G, hm, F.kp, (F.bindsN fun _ _ _ _ _ _ us hl => match us, hl with | [_, _], _ => rfl)⟩⟩

def N__law_used : List Str := ["_law_book", "_law_name", "_law_names", "_law_found", "_law_step_here", "_law_one_here", "_law_amount_here", "_law_recipe_here"]
abbrev sc__law_used : Scope := L2.defScope (top 24)
theorem fs__law_used : FnScope N__law_used ["_law_book", "_law_name"] sc__law_used := ⟨rfl, rfl, rfl, by decide +kernel, rfl, by decide +kernel, by decide +kernel⟩
theorem d__law_used {f : Addr} {fd : FuncData} (F : FunD K "_law_used" "_law_used" (L2.defArgs (top 24)) (L2.defBody (top 24)) sc__law_used [] [] f fd) (hm : mg "_law_used" = some (.ref f)) (h_sorted : mg "sorted" = none) (D__law_recipe : DefF P w K mg base CX0 C0 1 "_law_recipe" 2 m__law_recipe) : DefF P w K mg base CX0 C0 2 "_law_used" 2 m__law_used := by
  have G : FnOk P w K mg base CX0 (1 + 1) f fd ["_law_book", "_law_name"] (spF ⟨P, w, K⟩ C0 m__law_used 2) :=
    fn_g (k := 1) (N := N__law_used) (ps := ["_law_book", "_law_name"]) (C := C0) (b := b__law_used) F fs__law_used fun cdv A outer s H E hr => by
      have hnd := fs__law_used.nd
      exact (as_cons (as_setLc (i := 2) rfl hnd rfl rfl rfl (own := [("_law_recipe_here", 7)]) (ai_seq (ae_var (i := 0) rfl (.inl rfl))) (blkOk_by (N := N__law_used) (sc := sc__law_used) (by decide +kernel)) (fun _ _ _ _ _ => ag_name (i := 7) hnd rfl (.inl rfl)) (fun _ _ _ _ _ => ats_nil) (fun _ _ _ _ _ => ae_ix (ae_var (i := 7) rfl (.inl rfl)) (ae_int)) (by decide))
    (as_cons (as_set (i := 3) hnd rfl (.inl rfl) (ae_newD false))
    (as_cons (as_for (passes_of rfl) rfl (ai_seq (ae_ix (ae_call D__law_recipe hr (by omega) pass_0 rfl (aa_cons (ae_var (i := 0) rfl (.inl rfl)) (aa_cons (ae_var (i := 1) rfl (.inl rfl)) (aa_nil))) (nc_cons (nc_cons (nc_nil)))) (ae_int))) (ag_name (i := 4) hnd rfl (.inl rfl)) (ass_kill [5, 6] (as_one (as_for (passes_of rfl) rfl (ai_seq (ae_ix (ae_var (i := 4) rfl (.inl rfl)) (ae_int))) (ag_tup rfl (ags_cons (i := 5) hnd rfl (.inl rfl) (ags_cons (i := 6) hnd rfl (.inl rfl) (ags_nil))) rfl) (ass_kill [6] (as_one (as_if (at_cmp (o_in (room65 hr)) (ae_var (i := 5) rfl (.inl rfl)) (ae_var (i := 2) rfl (.inl rfl)) rfl) (as_one (as_dset (i := 3) hr.units rfl (.inl rfl) (ae_var (i := 5) rfl (.inl rfl)) (ae_bl))) (as_nil))))))))
    (ass_kill [4, 5, 6] (as_one (as_ret (ae_callBD (c_sortedK rfl hr.units) rfl h_sorted boot_sorted' (ae_var (i := 3) rfl (.inl rfl)))))))))
  exact ⟨⟨f, fd, ["_law_book", "_law_name"], G, hm, F.kp, (F.bindsN fun _ _ _ _ _ _ us hl => match us, hl with | [_, _], _ => rfl)⟩⟩

def N__law_jobs : List Str := ["_law_book", "_law_dish", "_law_found", "_law_name", "_law_step_here", "_law_job"]
abbrev sc__law_jobs : Scope := L2.defScope (top 25)
theorem fs__law_jobs : FnScope N__law_jobs ["_law_book", "_law_dish"] sc__law_jobs := ⟨rfl, rfl, rfl, by decide +kernel, rfl, by decide +kernel, by decide +kernel⟩
theorem d__law_jobs {f : Addr} {fd : FuncData} (F : FunD K "_law_jobs" "_law_jobs" (L2.defArgs (top 25)) (L2.defBody (top 25)) sc__law_jobs [] [] f fd) (hm : mg "_law_jobs" = some (.ref f)) (D__law_recipe : DefF P w K mg base CX0 C0 1 "_law_recipe" 2 m__law_recipe) (D__law_used : DefF P w K mg base CX0 C0 2 "_law_used" 2 m__law_used) : ∀ q : Nat, DefF P w K mg base CX0 C0 (2 + q) "_law_jobs" 2 (m__law_jobs q)
  | 0 => ⟨⟨f, fd, ["_law_book", "_law_dish"], fn_err (N := N__law_jobs) (ps := ["_law_book", "_law_dish"]) (k := 1) F fs__law_jobs, hm, F.kp, (F.bindsN fun _ _ _ _ _ _ us hl => match us, hl with | [_, _], _ => rfl)⟩⟩
  | q + 1 => by
    have D_self := d__law_jobs F hm  D__law_recipe D__law_used q
    have G : FnOk P w K mg base CX0 (2 + q + 1) f fd ["_law_book", "_law_dish"] (spF ⟨P, w, K⟩ C0 (m__law_jobs (q + 1)) 2) :=
      fn_g (k := 2 + q) (N := N__law_jobs) (ps := ["_law_book", "_law_dish"]) (C := C0) (b := b__law_jobs (m__law_jobs q)) F fs__law_jobs fun cdv A outer s H E hr => by
        have hnd := fs__law_jobs.nd
        exact (as_cons (as_set (i := 2) hnd rfl (.inr rfl) (ae_lst (aa_nil) (by decide) (nc_nil)))
    (as_cons (as_for (passes_of rfl) rfl (ai_seq (ae_call D__law_used hr (by omega) pass_0 rfl (aa_cons (ae_var (i := 0) rfl (.inl rfl)) (aa_cons (ae_var (i := 1) rfl (.inr (.inl rfl))) (aa_nil))) (nc_cons (nc_cons (nc_nil))))) (ag_name (i := 3) hnd rfl (.inl rfl)) (as_one (as_set (i := 2) hnd rfl (.inr rfl) (ae_bin o_add (ae_var (i := 2) rfl (.inr (.inl rfl))) (ae_lc rfl hnd (own := [("_law_job", 5)]) (ai_seq (ae_call D_self hr (by omega) pass_0 rfl (aa_cons (ae_var (i := 0) rfl (.inl rfl)) (aa_cons (ae_var (i := 3) rfl (.inl rfl)) (aa_nil))) (nc_cons (nc_cons (nc_nil))))) (blkOk_by (N := N__law_jobs) (sc := sc__law_jobs) (by decide +kernel)) (fun _ _ _ _ _ => ag_name (i := 5) hnd rfl (.inl rfl)) (fun _ _ _ _ _ => ats_one (at_cmp (o_notIn (room65 hr)) (ae_var (i := 5) rfl (.inl rfl)) (ae_var (i := 2) rfl (.inr (.inl rfl))) rfl)) (fun _ _ _ _ _ => ae_var (i := 5) rfl (.inl rfl)) (by decide))))))
    (ass_kill [3] (as_one (as_ret (ae_bin o_add (ae_var (i := 2) rfl (.inr (.inl rfl))) (ae_lc rfl hnd (own := [("_law_step_here", 4)]) (ai_seq (ae_ix (ae_call D__law_recipe hr (by omega) pass_0 rfl (aa_cons (ae_var (i := 0) rfl (.inl rfl)) (aa_cons (ae_var (i := 1) rfl (.inr (.inl rfl))) (aa_nil))) (nc_cons (nc_cons (nc_nil)))) (ae_int))) (blkOk_by (N := N__law_jobs) (sc := sc__law_jobs) (by decide +kernel)) (fun _ _ _ _ _ => ag_name (i := 4) hnd rfl (.inl rfl)) (fun _ _ _ _ _ => ats_nil) (fun _ _ _ _ _ => ae_tup (aa_cons (ae_var (i := 1) rfl (.inr (.inl rfl))) (aa_cons (ae_ix (ae_var (i := 4) rfl (.inl rfl)) (ae_int)) (aa_nil))) (by decide) (nc_cons (nc_cons (nc_nil)))) (by decide))))))))
    exact ⟨⟨f, fd, ["_law_book", "_law_dish"], G, hm, F.kp, (F.bindsN fun _ _ _ _ _ _ us hl => match us, hl with | [_, _], _ => rfl)⟩⟩

def N__law_step_of : List Str := ["_law_book", "_law_job", "_law_step_here"]
abbrev sc__law_step_of : Scope := L2.defScope (top 26)
theorem fs__law_step_of : FnScope N__law_step_of ["_law_book", "_law_job"] sc__law_step_of := ⟨rfl, rfl, rfl, by decide +kernel, rfl, by decide +kernel, by decide +kernel⟩
theorem d__law_step_of {f : Addr} {fd : FuncData} (F : FunD K "_law_step_of" "_law_step_of" (L2.defArgs (top 26)) (L2.defBody (top 26)) sc__law_step_of [] [] f fd) (hm : mg "_law_step_of" = some (.ref f)) (D__law_recipe : DefF P w K mg base CX0 C0 1 "_law_recipe" 2 m__law_recipe) : DefF P w K mg base CX0 C0 2 "_law_step_of" 2 m__law_step_of := by
  have G : FnOk P w K mg base CX0 (1 + 1) f fd ["_law_book", "_law_job"] (spF ⟨P, w, K⟩ C0 m__law_step_of 2) :=
    fn_g (k := 1) (N := N__law_step_of) (ps := ["_law_book", "_law_job"]) (C := C0) (b := b__law_step_of) F fs__law_step_of fun cdv A outer s H E hr => by
      have hnd := fs__law_step_of.nd
      exact (as_one (as_ret (ae_ix (ae_lc rfl hnd (own := [("_law_step_here", 2)]) (ai_seq (ae_ix (ae_call D__law_recipe hr (by omega) pass_0 rfl (aa_cons (ae_var (i := 0) rfl (.inl rfl)) (aa_cons (ae_ix (ae_var (i := 1) rfl (.inr (.inl rfl))) (ae_int)) (aa_nil))) (nc_cons (nc_cons (nc_nil)))) (ae_int))) (blkOk_by (N := N__law_step_of) (sc := sc__law_step_of) (by decide +kernel)) (fun _ _ _ _ _ => ag_name (i := 2) hnd rfl (.inl rfl)) (fun _ _ _ _ _ => ats_one (at_cmp (o_eq hr.units) (ae_ix (ae_var (i := 2) rfl (.inl rfl)) (ae_int)) (ae_ix (ae_var (i := 1) rfl (.inr (.inl rfl))) (ae_int)) (nomark _))) (fun _ _ _ _ _ => ae_var (i := 2) rfl (.inl rfl)) (by decide)) (ae_int))))
  exact ⟨⟨f, fd, ["_law_book", "_law_job"], G, hm, F.kp, (F.bindsN fun _ _ _ _ _ _ us hl => match us, hl with | [_, _], _ => rfl)⟩⟩

def N__law_ahead : List Str := ["_law_book", "_law_job", "_law_step_here", "_law_names", "_law_found", "_law_one_here", "_law_amount_here", "_law_steps", "_law_some", "_law_recipe_here", "_law_word", "_law_other"]
abbrev sc__law_ahead : Scope := L2.defScope (top 27)
theorem fs__law_ahead : FnScope N__law_ahead ["_law_book", "_law_job"] sc__law_ahead := ⟨rfl, rfl, rfl, by decide +kernel, rfl, by decide +kernel, by decide +kernel⟩
theorem d__law_ahead {f : Addr} {fd : FuncData} (F : FunD K "_law_ahead" "_law_ahead" (L2.defArgs (top 27)) (L2.defBody (top 27)) sc__law_ahead [] [] f fd) (hm : mg "_law_ahead" = some (.ref f)) (h_sorted : mg "sorted" = none) (D__law_recipe : DefF P w K mg base CX0 C0 1 "_law_recipe" 2 m__law_recipe) (D__law_step_of : DefF P w K mg base CX0 C0 2 "_law_step_of" 2 m__law_step_of) : DefF P w K mg base CX0 C0 3 "_law_ahead" 2 m__law_ahead := by
  have G : FnOk P w K mg base CX0 (2 + 1) f fd ["_law_book", "_law_job"] (spF ⟨P, w, K⟩ C0 m__law_ahead 2) :=
    fn_g (k := 2) (N := N__law_ahead) (ps := ["_law_book", "_law_job"]) (C := C0) (b := b__law_ahead) F fs__law_ahead fun cdv A outer s H E hr => by
      have hnd := fs__law_ahead.nd
      exact (as_cons (as_set (i := 2) hnd rfl (.inl rfl) (ae_call D__law_step_of hr (by omega) pass_0 rfl (aa_cons (ae_var (i := 0) rfl (.inl rfl)) (aa_cons (ae_var (i := 1) rfl (.inr (.inl rfl))) (aa_nil))) (nc_cons (nc_cons (nc_nil)))))
    (as_cons (as_setLc (i := 3) rfl hnd rfl rfl rfl (own := [("_law_recipe_here", 9)]) (ai_seq (ae_var (i := 0) rfl (.inl rfl))) (blkOk_by (N := N__law_ahead) (sc := sc__law_ahead) (by decide +kernel)) (fun _ _ _ _ _ => ag_name (i := 9) hnd rfl (.inl rfl)) (fun _ _ _ _ _ => ats_nil) (fun _ _ _ _ _ => ae_ix (ae_var (i := 9) rfl (.inl rfl)) (ae_int)) (by decide))
    (as_cons (as_setLcF (i := 4) rfl hnd rfl rfl rfl (own := [("_law_word", 10)]) (ai_seq (ae_ix (ae_var (i := 2) rfl (.inl rfl)) (ae_int))) (blkOk_by (N := N__law_ahead) (sc := sc__law_ahead) (by decide +kernel)) (fun _ _ _ _ _ => ag_name (i := 10) hnd rfl (.inl rfl)) (fun _ _ _ _ _ => ats_nil) (fun _ _ _ _ _ => ae_tup (aa_cons (ae_ix (ae_var (i := 1) rfl (.inr (.inl rfl))) (ae_int)) (aa_cons (ae_var (i := 10) rfl (.inl rfl)) (aa_nil))) (by decide) (nc_cons (nc_cons (nc_nil)))) (by decide))
    (as_cons (as_for (passes_of rfl) rfl (ai_seq (ae_ix (ae_var (i := 2) rfl (.inl rfl)) (ae_int))) (ag_tup rfl (ags_cons (i := 5) hnd rfl (.inl rfl) (ags_cons (i := 6) hnd rfl (.inl rfl) (ags_nil))) rfl) (ass_kill [6, 7, 8] (as_cons (as_set (i := 7) hnd rfl (.inl rfl) (ae_if (at_cmp (o_in (room65 hr)) (ae_var (i := 5) rfl (.inl rfl)) (ae_var (i := 3) rfl (.inl rfl)) rfl) (ae_ix (ae_call D__law_recipe hr (by omega) pass_0 rfl (aa_cons (ae_var (i := 0) rfl (.inl rfl)) (aa_cons (ae_var (i := 5) rfl (.inl rfl)) (aa_nil))) (nc_cons (nc_cons (nc_nil)))) (ae_int)) (ae_tup (aa_nil) (by decide) (nc_nil))))
    (as_one (as_for (passes_of rfl) rfl (ai_seq (ae_var (i := 7) rfl (.inl rfl))) (ag_name (i := 8) hnd rfl (.inr rfl)) (as_one (as_if (at_cmp (o_eq hr.units) (ae_lc rfl hnd (own := [("_law_other", 11)]) (ai_seq (ae_var (i := 7) rfl (.inl rfl))) (blkOk_by (N := N__law_ahead) (sc := sc__law_ahead) (by decide +kernel)) (fun _ _ _ _ _ => ag_name (i := 11) hnd rfl (.inl rfl)) (fun _ _ _ _ _ => ats_one (at_cmp (o_in (room65 hr)) (ae_ix (ae_var (i := 8) rfl (.inr (.inl rfl))) (ae_int)) (ae_ix (ae_var (i := 11) rfl (.inl rfl)) (ae_int)) rfl)) (fun _ _ _ _ _ => ae_var (i := 11) rfl (.inl rfl)) (by decide)) (ae_lst (aa_nil) (by decide) (nc_nil)) (nomark _)) (as_one (as_app (i := 4) rfl (.inl rfl) (ae_tup (aa_cons (ae_var (i := 5) rfl (.inl rfl)) (aa_cons (ae_ix (ae_var (i := 8) rfl (.inr (.inl rfl))) (ae_int)) (aa_nil))) (by decide) (nc_cons (nc_cons (nc_nil)))))) (as_nil))))))))
    (ass_kill [5, 6, 7, 8] (as_one (as_ret (ae_callB (c_sorted hr.units) rfl h_sorted boot_sorted' (aa_cons (ae_var (i := 4) rfl (.inl rfl)) (aa_nil))))))))))
  exact ⟨⟨f, fd, ["_law_book", "_law_job"], G, hm, F.kp, (F.bindsN fun _ _ _ _ _ _ us hl => match us, hl with | [_, _], _ => rfl)⟩⟩

def N__law_longest : List Str := ["_law_book", "_law_row", "_law_most_told", "_law_one_here"]
abbrev sc__law_longest : Scope := L2.defScope (top 28)
theorem fs__law_longest : FnScope N__law_longest ["_law_book", "_law_row"] sc__law_longest := ⟨rfl, rfl, rfl, by decide +kernel, rfl, by decide +kernel, by decide +kernel⟩
theorem d__law_longest {f : Addr} {fd : FuncData} (F : FunD K "_law_longest" "_law_longest" (L2.defArgs (top 28)) (L2.defBody (top 28)) sc__law_longest [] [] f fd) (hm : mg "_law_longest" = some (.ref f)) (h_max : mg "max" = none) (D__law_step_of : DefF P w K mg base CX0 C0 2 "_law_step_of" 2 m__law_step_of) (D__law_ahead : DefF P w K mg base CX0 C0 3 "_law_ahead" 2 m__law_ahead) : ∀ q : Nat, DefF P w K mg base CX0 C0 (3 + q) "_law_longest" 2 (m__law_longest q)
  | 0 => ⟨⟨f, fd, ["_law_book", "_law_row"], fn_err (N := N__law_longest) (ps := ["_law_book", "_law_row"]) (k := 2) F fs__law_longest, hm, F.kp, (F.bindsN fun _ _ _ _ _ _ us hl => match us, hl with | [_, _], _ => rfl)⟩⟩
  | q + 1 => by
    have D_self := d__law_longest F hm h_max D__law_step_of D__law_ahead q
    have G : FnOk P w K mg base CX0 (3 + q + 1) f fd ["_law_book", "_law_row"] (spF ⟨P, w, K⟩ C0 (m__law_longest (q + 1)) 2) :=
      fn_g (k := 3 + q) (N := N__law_longest) (ps := ["_law_book", "_law_row"]) (C := C0) (b := b__law_longest (m__law_longest q)) F fs__law_longest fun cdv A outer s H E hr => by
        have hnd := fs__law_longest.nd
        exact (as_cons (as_set (i := 2) hnd rfl (.inl rfl) (ae_int))
    (as_cons (as_for (passes_of rfl) rfl (ai_seq (ae_call D__law_ahead hr (by omega) pass_0 rfl (aa_cons (ae_var (i := 0) rfl (.inl rfl)) (aa_cons (ae_ix (ae_var (i := 1) rfl (.inl rfl)) (ae_un o_neg (ae_int))) (aa_nil))) (nc_cons (nc_cons (nc_nil))))) (ag_name (i := 3) hnd rfl (.inl rfl)) (as_one (as_set (i := 2) hnd rfl (.inl rfl) (ae_callB (c_max rfl) rfl h_max boot_max' (aa_cons (ae_var (i := 2) rfl (.inl rfl)) (aa_cons (ae_call D_self hr (by omega) pass_0 rfl (aa_cons (ae_var (i := 0) rfl (.inl rfl)) (aa_cons (ae_bin o_add (ae_var (i := 1) rfl (.inl rfl)) (ae_lst (aa_cons (ae_var (i := 3) rfl (.inl rfl)) (aa_nil)) (by decide) (nc_cons (nc_nil)))) (aa_nil))) (nc_cons (nc_cons (nc_nil)))) (aa_nil)))))))
    (ass_kill [3] (as_one (as_ret (ae_bin o_add (ae_var (i := 2) rfl (.inl rfl)) (ae_ix (ae_call D__law_step_of hr (by omega) pass_0 rfl (aa_cons (ae_var (i := 0) rfl (.inl rfl)) (aa_cons (ae_ix (ae_var (i := 1) rfl (.inl rfl)) (ae_un o_neg (ae_int))) (aa_nil))) (nc_cons (nc_cons (nc_nil)))) (ae_int))))))))
    exact ⟨⟨f, fd, ["_law_book", "_law_row"], G, hm, F.kp, (F.bindsN fun _ _ _ _ _ _ us hl => match us, hl with | [_, _], _ => rfl)⟩⟩

def N__law_slower : List Str := ["_law_book", "_law_job", "_law_found", "_law_name", "_law_many", "_law_steps", "_law_rows", "_law_step_here"]
abbrev sc__law_slower : Scope := L2.defScope (top 29)
theorem fs__law_slower : FnScope N__law_slower ["_law_book", "_law_job"] sc__law_slower := ⟨rfl, rfl, rfl, by decide +kernel, rfl, by decide +kernel, by decide +kernel⟩
theorem d__law_slower {f : Addr} {fd : FuncData} (F : FunD K "_law_slower" "_law_slower" (L2.defArgs (top 29)) (L2.defBody (top 29)) sc__law_slower [] [] f fd) (hm : mg "_law_slower" = some (.ref f)) (h_int : mg "int" = none) (h_tuple : mg "tuple" = none) : DefF P w K mg base CX0 C0 1 "_law_slower" 2 m__law_slower := by
  have G : FnOk P w K mg base CX0 (0 + 1) f fd ["_law_book", "_law_job"] (spF ⟨P, w, K⟩ C0 m__law_slower 2) :=
    fn_g (k := 0) (N := N__law_slower) (ps := ["_law_book", "_law_job"]) (C := C0) (b := b__law_slower) F fs__law_slower fun cdv A outer s H E hr => by
      have hnd := fs__law_slower.nd
      exact (as_cons (as_set (i := 2) hnd rfl (.inl rfl) (ae_newL (aa_nil) (by decide) (nc_nil)))
    (as_cons (as_for (passes_of rfl) rfl (ai_seq (ae_var (i := 0) rfl (.inl rfl))) (ag_tup rfl (ags_cons (i := 3) hnd rfl (.inl rfl) (ags_cons (i := 4) hnd rfl (.inl rfl) (ags_cons (i := 5) hnd rfl (.inl rfl) (ags_nil)))) rfl) (ass_kill [6, 7] (ass_gc (as_cons (as_set (i := 6) hnd rfl (.inl rfl) (ae_newL (aa_nil) (by decide) (nc_nil)))
    (as_cons (as_for (passes_of rfl) rfl (ai_seq (ae_var (i := 5) rfl (.inl rfl))) (ag_name (i := 7) hnd rfl (.inl rfl)) (as_one (as_app (i := 6) rfl (.inl rfl) (ae_bin o_add (ae_bin o_add (ae_sl (ae_var (i := 7) rfl (.inl rfl)) (ao_none) (ao_some (ae_int))) (ae_tup (aa_cons (ae_bin o_add (ae_ix (ae_var (i := 7) rfl (.inl rfl)) (ae_int)) (ae_callT c_int rfl h_int boot_int' (aa_cons (ae_cmp (o_eq hr.units) (ae_tup (aa_cons (ae_var (i := 3) rfl (.inl rfl)) (aa_cons (ae_ix (ae_var (i := 7) rfl (.inl rfl)) (ae_int)) (aa_nil))) (by decide) (nc_cons (nc_cons (nc_nil)))) (ae_var (i := 1) rfl (.inl rfl)) (nomark _)) (aa_nil)))) (aa_nil)) (by decide) (nc_cons (nc_nil)))) (ae_sl (ae_var (i := 7) rfl (.inl rfl)) (ao_some (ae_int)) (ao_none))))))
    (ass_kill [7] (as_one (as_app (i := 2) rfl (.inl rfl) (ae_tup (aa_cons (ae_var (i := 3) rfl (.inl rfl)) (aa_cons (ae_var (i := 4) rfl (.inl rfl)) (aa_cons (ae_callT c_tuple rfl h_tuple boot_tuple' (aa_cons (ae_var (i := 6) rfl (.inl rfl)) (aa_nil))) (aa_nil)))) (by decide) (nc_cons (nc_cons (nc_cons (nc_nil)))))))))))))
    (ass_kill [3, 4, 5, 6, 7] (as_one (as_ret (ae_callT c_tuple rfl h_tuple boot_tuple' (aa_cons (ae_var (i := 2) rfl (.inl rfl)) (aa_nil))))))))
  exact ⟨⟨f, fd, ["_law_book", "_law_job"], G, hm, F.kp, (F.bindsN fun _ _ _ _ _ _ us hl => match us, hl with | [_, _], _ => rfl)⟩⟩

def N_law : List Str := ["_law_script", "_law_cell", "_law_deck_here", "_law_book", "_law_recipe_here", "_law_dish", "_law_some", "_law_due", "_law_told", "_law_whole_sum", "_law_longer", "_law_job", "_law_name", "_law_minutes"]
abbrev sc_law : Scope := L2.defScope (top 30)
theorem fs_law : FnScope N_law ["_law_script"] sc_law := ⟨rfl, rfl, rfl, by decide +kernel, rfl, by decide +kernel, by decide +kernel⟩
theorem d_law {f : Addr} {fd : FuncData} (F : FunD K "law" "law" (L2.defArgs (top 30)) (L2.defBody (top 30)) sc_law [] [] f fd) (hm : mg "law" = some (.ref f)) (h_len : mg "len" = none) (h_max : mg "max" = none) (h_sum : mg "sum" = none) (D_by_stations : DefF P w K mg base CX0 C0 15 "by_stations" 2 m_by_stations) (D_least_minutes : DefF P w K mg base CX0 C0 15 "least_minutes" 2 m_least_minutes) (D__law_deck : DefF P w K mg base CX0 C0 1 "_law_deck" 2 m__law_deck) (D__law_pick : DefF P w K mg base CX0 C0 1 "_law_pick" 2 m__law_pick) (D__law_goods : DefF P w K mg base CX0 C0 3 "_law_goods" 1 m__law_goods) (D__law_cookbook : DefF P w K mg base CX0 C0 5 "_law_cookbook" 2 m__law_cookbook) (D__law_used : DefF P w K mg base CX0 C0 2 "_law_used" 2 m__law_used) (D__law_jobs : DefF P w K mg base CX0 C0 14 "_law_jobs" 2 (m__law_jobs 12)) (D__law_longest : DefF P w K mg base CX0 C0 15 "_law_longest" 2 (m__law_longest 12)) (D__law_slower : DefF P w K mg base CX0 C0 1 "_law_slower" 2 m__law_slower) : FnOk P w K mg base CX0 (15 + 1) f fd ["_law_script"] (spF ⟨P, w, K⟩ C0 m_law 1) :=
    fn_g (k := 15) (N := N_law) (ps := ["_law_script"]) (C := C0) (b := b_law) F fs_law fun cdv A outer s H E hr => by
      have hnd := fs_law.nd
      exact (as_cons (as_for (passes_of rfl) rfl (ai_seq (ae_bin o_add (ae_lst (aa_cons (ae_int) (aa_nil)) (by decide) (nc_cons (nc_nil))) (ae_sl (ae_var (i := 0) rfl (.inl rfl)) (ao_none) (ao_some (ae_int))))) (ag_name (i := 1) hnd rfl (.inl rfl)) (ass_kill [2, 3, 4, 5, 6, 7, 8, 9, 10, 11] (ass_gc (as_cons (as_set (i := 2) hnd rfl (.inl rfl) (ae_callF D__law_deck hr (by omega) pass_0 rfl (aa_cons (ae_var (i := 1) rfl (.inl rfl)) (aa_cons (ae_int) (aa_nil))) (nc_cons (nc_cons (nc_nil)))))
    (as_cons (as_set (i := 3) hnd rfl (.inr rfl) (ae_call D__law_cookbook hr (by omega) pass_0 rfl (aa_cons (ae_var (i := 2) rfl (.inl rfl)) (aa_cons (ae_call D__law_goods hr (by omega) pass_0 rfl (aa_cons (ae_var (i := 2) rfl (.inl rfl)) (aa_nil)) (nc_cons (nc_nil))) (aa_nil))) (nc_cons (nc_cons (nc_nil)))))
    (as_one (as_for (passes_of rfl) rfl (ai_seq (ae_var (i := 3) rfl (.inr (.inl rfl)))) (ag_name (i := 4) hnd rfl (.inl rfl)) (ass_kill [5, 6, 7, 8, 9, 10, 11] (as_cons (as_set (i := 5) hnd rfl (.inl rfl) (ae_ix (ae_var (i := 4) rfl (.inl rfl)) (ae_int)))
    (as_cons (as_set (i := 6) hnd rfl (.inl rfl) (ae_call D__law_jobs hr (by omega) pass_0 rfl (aa_cons (ae_var (i := 3) rfl (.inr (.inl rfl))) (aa_cons (ae_var (i := 5) rfl (.inl rfl)) (aa_nil))) (nc_cons (nc_cons (nc_nil)))))
    (as_cons (as_set (i := 7) hnd rfl (.inl rfl) (ae_callB (c_maxL rfl) rfl h_max boot_max' (aa_cons (ae_lc rfl hnd (own := [("_law_job", 11)]) (ai_seq (ae_var (i := 6) rfl (.inl rfl))) (blkOk_by (N := N_law) (sc := sc_law) (by decide +kernel)) (fun _ _ _ _ _ => ag_name (i := 11) hnd rfl (.inl rfl)) (fun _ _ _ _ _ => ats_nil) (fun _ _ _ _ _ => ae_call D__law_longest hr (by omega) pass_0 rfl (aa_cons (ae_var (i := 3) rfl (.inr (.inl rfl))) (aa_cons (ae_lst (aa_cons (ae_var (i := 11) rfl (.inl rfl)) (aa_nil)) (by decide) (nc_cons (nc_nil))) (aa_nil))) (nc_cons (nc_cons (nc_nil)))) (by decide)) (aa_nil))))
    (as_cons (as_set (i := 8) hnd rfl (.inr rfl) (ae_call D_least_minutes hr (by omega) pass_0 rfl (aa_cons (ae_var (i := 3) rfl (.inr (.inl rfl))) (aa_cons (ae_var (i := 5) rfl (.inl rfl)) (aa_nil))) (nc_cons (nc_cons (nc_nil)))))
    (as_cons (as_set (i := 9) hnd rfl (.inl rfl) (ae_callB (c_sum rfl) rfl h_sum boot_sum' (aa_cons (ae_lc rfl hnd (own := [("_law_name", 12), ("_law_minutes", 13)]) (ai_seq (ae_call D_by_stations hr (by omega) pass_0 rfl (aa_cons (ae_var (i := 3) rfl (.inr (.inl rfl))) (aa_cons (ae_var (i := 5) rfl (.inl rfl)) (aa_nil))) (nc_cons (nc_cons (nc_nil))))) (blkOk_by (N := N_law) (sc := sc_law) (by decide +kernel)) (fun _ _ _ _ _ => ag_tup rfl (ags_cons (i := 12) hnd rfl (.inl rfl) (ags_cons (i := 13) hnd rfl (.inl rfl) (ags_nil))) rfl) (fun _ _ _ _ _ => ats_nil) (fun _ _ _ _ _ => ae_var (i := 13) rfl (.inl rfl)) (by decide)) (aa_nil))))
    (as_cons (as_if (at_w (aw_or (at_cmp (o_ne hr.units) (ae_var (i := 8) rfl (.inr (.inl rfl))) (ae_var (i := 7) rfl (.inl rfl)) (nomark _)) (aw_or1 (at_cmp o_gt (ae_var (i := 8) rfl (.inr (.inl rfl))) (ae_var (i := 9) rfl (.inl rfl)) (nomark _))))) (as_one (as_ret (ae_bl))) (as_nil))
    (as_cons (as_setLc (i := 10) rfl hnd rfl rfl rfl (own := [("_law_name", 12)]) (ai_seq (ae_call D__law_used hr (by omega) pass_0 rfl (aa_cons (ae_var (i := 3) rfl (.inr (.inl rfl))) (aa_cons (ae_var (i := 5) rfl (.inl rfl)) (aa_nil))) (nc_cons (nc_cons (nc_nil))))) (blkOk_by (N := N_law) (sc := sc_law) (by decide +kernel)) (fun _ _ _ _ _ => ag_name (i := 12) hnd rfl (.inl rfl)) (fun _ _ _ _ _ => ats_one (at_cmp o_gt (ae_call D_least_minutes hr (by omega) pass_0 rfl (aa_cons (ae_var (i := 3) rfl (.inr (.inl rfl))) (aa_cons (ae_var (i := 12) rfl (.inl rfl)) (aa_nil))) (nc_cons (nc_cons (nc_nil)))) (ae_var (i := 8) rfl (.inr (.inl rfl))) (nomark _))) (fun _ _ _ _ _ => ae_var (i := 12) rfl (.inl rfl)) (by decide))
    (as_cons (as_if (at_cmp (o_ne hr.units) (ae_var (i := 10) rfl (.inl rfl)) (ae_lst (aa_nil) (by decide) (nc_nil)) (nomark _)) (as_one (as_ret (ae_bl))) (as_nil))
    (as_cons (as_set (i := 11) hnd rfl (.inl rfl) (ae_ix (ae_var (i := 6) rfl (.inl rfl)) (ae_call D__law_pick hr (by omega) pass_0 rfl (aa_cons (ae_var (i := 2) rfl (.inl rfl)) (aa_cons (ae_callB c_len rfl h_len boot_len' (aa_cons (ae_var (i := 6) rfl (.inl rfl)) (aa_nil))) (aa_nil))) (nc_cons (nc_cons (nc_nil))))))
    (as_one (as_if (at_cmp (o_notIn (room65 hr)) (ae_bin o_sub (ae_call D_least_minutes hr (by omega) pass_0 rfl (aa_cons (ae_call D__law_slower hr (by omega) pass_0 rfl (aa_cons (ae_var (i := 3) rfl (.inr (.inl rfl))) (aa_cons (ae_var (i := 11) rfl (.inl rfl)) (aa_nil))) (nc_cons (nc_cons (nc_nil)))) (aa_cons (ae_var (i := 5) rfl (.inl rfl)) (aa_nil))) (nc_cons (nc_cons (nc_nil)))) (ae_var (i := 8) rfl (.inr (.inl rfl)))) (ae_tup (aa_cons (ae_int) (aa_cons (ae_int) (aa_nil))) (by decide) (nc_cons (nc_cons (nc_nil)))) rfl) (as_one (as_ret (ae_bl))) (as_nil))))))))))))))))))))
    (ass_kill [1, 2, 3, 4, 5, 6, 7, 8, 9, 10, 11] (as_one (as_ret (ae_bl)))))

end
def dOf (n : Str) (i : Nat) (kw : List (Str × He.Dv)) : He.DefD := ⟨(n, none), n, n, L2.defArgs (top i), L2.defBody (top i), L2.defScope (top i), [], kw⟩
def kwAt (f : Str × Option Str) (x : Str) (K : PySem.W.Frag) : Addr := match K.lookup (He.fAd K f) with
  | some ⟨_, _, .func fd, _⟩ => (match fd.kwdefaults with
    | .ref D => (match PySem.W.nsIn K D x with
      | some (some (.ref b)) => b
      | _ => 0)
    | _ => 0)
  | _ => 0
def tupAt (K : PySem.W.Frag) (a : Addr) (vs : List He.Dv) : Bool := match K.lookup a with
  | some ⟨.type c, _, .seq its _, _⟩ => decide (c = "tuple") && (decide (its.size ≤ sizeLine) && He.relAll (vs.map (He.Dv.v K)) its.toList)
  | _ => false
theorem tupAt_ok {K : PySem.W.Frag} {a : Addr} {vs : List He.Dv} (h : tupAt K a vs = true) (H : Hp) : SqT K H a (vs.map (He.Dv.v K)) := by
  unfold tupAt at h
  split at h
  · rename_i c d its n sl q
    rw [Bool.and_eq_true, Bool.and_eq_true] at h
    exact .inr ⟨_, its, n, q, by rw [of_decide_eq_true h.1], rfl, of_decide_eq_true h.2.1, He.relAll_ok h.2.2⟩
  · cases h
def hdFn : List He.DefD := @List.append He.DefD [dOf "recipe_of" 1 [], dOf "uses_of" 2 [], dOf "used_recipes" 3 [], dOf "jobs" 5 [], dOf "step_of" 6 [], dOf "ends" 7 [], dOf "ahead" 8 [], dOf "by_stations" 9 [], dOf "least_minutes" 10 [], dOf "_law_deck" 12 [], dOf "_law_pick" 13 [], dOf "_law_one" 14 [], dOf "_law_frac" 15 [], dOf "_law_plus" 16 []] ([dOf "_law_times" 17 [], dOf "_law_amount" 18 [], dOf "_law_marks" 19 [], dOf "_law_goods" 20 [], dOf "_law_step" 21 [], dOf "_law_cookbook" 22 [], dOf "_law_recipe" 23 [], dOf "_law_used" 24 [], dOf "_law_jobs" 25 [], dOf "_law_step_of" 26 [], dOf "_law_ahead" 27 [], dOf "_law_longest" 28 [], dOf "_law_slower" 29 [], dOf "law" 30 []])
def hdFa : List He.Fa := @List.append He.Fa [.glo "recipe_of", .glo "uses_of", .glo "used_recipes", .glo "jobs", .glo "step_of", .glo "ends", .glo "ahead", .glo "by_stations", .glo "least_minutes", .glo "_law_deck", .glo "_law_pick", .glo "_law_one", .glo "_law_frac", .glo "_law_plus"] (@List.append He.Fa [.glo "_law_times", .glo "_law_amount", .glo "_law_marks", .glo "_law_goods", .glo "_law_step", .glo "_law_cookbook", .glo "_law_recipe", .glo "_law_used", .glo "_law_jobs", .glo "_law_step_of", .glo "_law_ahead", .glo "_law_longest", .glo "_law_slower", .glo "law"] ([.free "abs", .free "any", .free "int", .free "len", .free "max", .free "range", .free "sorted", .free "sum", .free "tuple"]))
def hdLoose : List PySem.Str := @List.append PySem.Str ["recipe_of", "uses_of", "used_recipes", "jobs", "step_of", "ends", "ahead", "by_stations", "least_minutes", "_law_deck", "_law_pick", "_law_one", "_law_frac", "_law_plus"] (["_law_times", "_law_amount", "_law_marks", "_law_goods", "_law_step", "_law_cookbook", "_law_recipe", "_law_used", "_law_jobs", "_law_step_of", "_law_ahead", "_law_longest", "_law_slower"])
abbrev hdR : PySem.W.OpenRow := PySem.W.OpenLaw.row PySem.Challenge.rw_galleyward_k07_whole_least_minutes
def hdTb : List (Str × List He.Dv) := []
abbrev AlT : Type := He.AlD × Bool
def hdKw : List (Str × Str × List He.Dv) := []
def tbB (K : PySem.W.Frag) : Bool := (hdTb.all fun q => He.tupB K q.1 q.2) && (hdKw.all fun q => tupAt K (kwAt (q.1, none) q.2.1 K) q.2.2)
def obsT (K : PySem.W.Frag) : AlT := (He.obsD hdFa hdFn K, tbB K)
def hdOf (g : Addr → Option Obj) : AlT := obsT (He.frG g (He.asD g 6))
def hdK : PySem.W.Hook where
  α := AlT
  obs := fun s => hdOf s.heap.get?
  val := fun _ => (He.valD hdFn, true)
  says := fun _ h => ∃ K : PySem.W.Frag, K.In h ∧ He.SaysD hdFa hdFn K ∧ tbB K = true
  of := fun _ _ e => ⟨_, He.frG_in, congrArg Prod.fst e, congrArg Prod.snd e⟩
  keeps := fun _ _ _ ⟨K, hK, c⟩ k => ⟨K, PySem.W.Frag.In.keeps hK k, c⟩
def hdOb (s : PySem.W.SharedT) : AlT := hdOf (HandSHeadRun.getT s)
theorem hdOb_eq (s : PySem.W.SharedT) : hdOb s = hdK.obs s.abs := by
  have e : HandSHeadRun.getT s = s.abs.heap.get? := funext (HandSHeadRun.getT_eq s)
  show hdOf (HandSHeadRun.getT s) = hdOf s.abs.heap.get?
  rw [e]
theorem hdRun (w : World) : HandSHeadRun.RunEq hdR (PySem.W.view hdR.prog [30]) hdK hdOb 1600 hdLoose w := by
  intro os
  kernel_rfl
theorem hdFacts {P : Program} {w : World} {K : PySem.W.Frag} {h : Heap} {mg : Str → Option Value} {f : Addr} (X : K.In h) (G : h.Ns mainGlobals mg) (hfa : mg ("law" : Str) = some (.ref f)) (c : He.SaysD hdFa hdFn K) (ct0 : tbB K = true) :
    ∃ fd : FuncData, (∀ (s : Shared) (v : Value), BindsTo s fd ⟨[v], []⟩ [("_law_script", v)]) ∧ ∀ base : Heap, K.In base → base.Ns mainGlobals mg → FnOk P w K mg base CX0 16 f fd ["_law_script"] (spF ⟨P, w, K⟩ C0 m_law 1) := by
  obtain ⟨fd, F⟩ := c.def_ 27 (d := dOf "law" 30 []) rfl
  have ct := (Bool.and_eq_true_iff.mp ct0).1
  have ck := (Bool.and_eq_true_iff.mp ct0).2
  have e := hfa.symm.trans (He.glo_ok X G (c.fact 27 (f := .glo "law") rfl))
  cases e
  have b := FunD.bindsA (ps := ["_law_script"]) F fun _ _ _ _ _ _ us hl => match us, hl with | [_], _ => rfl
  refine ⟨fd, fun s v => b s [v] rfl, fun base _ _ => ?_⟩
  obtain ⟨fd_recipe_of, F_recipe_of⟩ := c.def_ 0 (d := dOf "recipe_of" 1 []) rfl
  have g_recipe_of := He.glo_ok X G (c.fact 0 (f := .glo "recipe_of") rfl)
  obtain ⟨fd_uses_of, F_uses_of⟩ := c.def_ 1 (d := dOf "uses_of" 2 []) rfl
  have g_uses_of := He.glo_ok X G (c.fact 1 (f := .glo "uses_of") rfl)
  obtain ⟨fd_used_recipes, F_used_recipes⟩ := c.def_ 2 (d := dOf "used_recipes" 3 []) rfl
  have g_used_recipes := He.glo_ok X G (c.fact 2 (f := .glo "used_recipes") rfl)
  obtain ⟨fd_jobs, F_jobs⟩ := c.def_ 3 (d := dOf "jobs" 5 []) rfl
  have g_jobs := He.glo_ok X G (c.fact 3 (f := .glo "jobs") rfl)
  obtain ⟨fd_step_of, F_step_of⟩ := c.def_ 4 (d := dOf "step_of" 6 []) rfl
  have g_step_of := He.glo_ok X G (c.fact 4 (f := .glo "step_of") rfl)
  obtain ⟨fd_ends, F_ends⟩ := c.def_ 5 (d := dOf "ends" 7 []) rfl
  have g_ends := He.glo_ok X G (c.fact 5 (f := .glo "ends") rfl)
  obtain ⟨fd_ahead, F_ahead⟩ := c.def_ 6 (d := dOf "ahead" 8 []) rfl
  have g_ahead := He.glo_ok X G (c.fact 6 (f := .glo "ahead") rfl)
  obtain ⟨fd_by_stations, F_by_stations⟩ := c.def_ 7 (d := dOf "by_stations" 9 []) rfl
  have g_by_stations := He.glo_ok X G (c.fact 7 (f := .glo "by_stations") rfl)
  obtain ⟨fd_least_minutes, F_least_minutes⟩ := c.def_ 8 (d := dOf "least_minutes" 10 []) rfl
  have g_least_minutes := He.glo_ok X G (c.fact 8 (f := .glo "least_minutes") rfl)
  obtain ⟨fd__law_deck, F__law_deck⟩ := c.def_ 9 (d := dOf "_law_deck" 12 []) rfl
  have g__law_deck := He.glo_ok X G (c.fact 9 (f := .glo "_law_deck") rfl)
  obtain ⟨fd__law_pick, F__law_pick⟩ := c.def_ 10 (d := dOf "_law_pick" 13 []) rfl
  have g__law_pick := He.glo_ok X G (c.fact 10 (f := .glo "_law_pick") rfl)
  obtain ⟨fd__law_one, F__law_one⟩ := c.def_ 11 (d := dOf "_law_one" 14 []) rfl
  have g__law_one := He.glo_ok X G (c.fact 11 (f := .glo "_law_one") rfl)
  obtain ⟨fd__law_frac, F__law_frac⟩ := c.def_ 12 (d := dOf "_law_frac" 15 []) rfl
  have g__law_frac := He.glo_ok X G (c.fact 12 (f := .glo "_law_frac") rfl)
  obtain ⟨fd__law_plus, F__law_plus⟩ := c.def_ 13 (d := dOf "_law_plus" 16 []) rfl
  have g__law_plus := He.glo_ok X G (c.fact 13 (f := .glo "_law_plus") rfl)
  obtain ⟨fd__law_times, F__law_times⟩ := c.def_ 14 (d := dOf "_law_times" 17 []) rfl
  have g__law_times := He.glo_ok X G (c.fact 14 (f := .glo "_law_times") rfl)
  obtain ⟨fd__law_amount, F__law_amount⟩ := c.def_ 15 (d := dOf "_law_amount" 18 []) rfl
  have g__law_amount := He.glo_ok X G (c.fact 15 (f := .glo "_law_amount") rfl)
  obtain ⟨fd__law_marks, F__law_marks⟩ := c.def_ 16 (d := dOf "_law_marks" 19 []) rfl
  have g__law_marks := He.glo_ok X G (c.fact 16 (f := .glo "_law_marks") rfl)
  obtain ⟨fd__law_goods, F__law_goods⟩ := c.def_ 17 (d := dOf "_law_goods" 20 []) rfl
  have g__law_goods := He.glo_ok X G (c.fact 17 (f := .glo "_law_goods") rfl)
  obtain ⟨fd__law_step, F__law_step⟩ := c.def_ 18 (d := dOf "_law_step" 21 []) rfl
  have g__law_step := He.glo_ok X G (c.fact 18 (f := .glo "_law_step") rfl)
  obtain ⟨fd__law_cookbook, F__law_cookbook⟩ := c.def_ 19 (d := dOf "_law_cookbook" 22 []) rfl
  have g__law_cookbook := He.glo_ok X G (c.fact 19 (f := .glo "_law_cookbook") rfl)
  obtain ⟨fd__law_recipe, F__law_recipe⟩ := c.def_ 20 (d := dOf "_law_recipe" 23 []) rfl
  have g__law_recipe := He.glo_ok X G (c.fact 20 (f := .glo "_law_recipe") rfl)
  obtain ⟨fd__law_used, F__law_used⟩ := c.def_ 21 (d := dOf "_law_used" 24 []) rfl
  have g__law_used := He.glo_ok X G (c.fact 21 (f := .glo "_law_used") rfl)
  obtain ⟨fd__law_jobs, F__law_jobs⟩ := c.def_ 22 (d := dOf "_law_jobs" 25 []) rfl
  have g__law_jobs := He.glo_ok X G (c.fact 22 (f := .glo "_law_jobs") rfl)
  obtain ⟨fd__law_step_of, F__law_step_of⟩ := c.def_ 23 (d := dOf "_law_step_of" 26 []) rfl
  have g__law_step_of := He.glo_ok X G (c.fact 23 (f := .glo "_law_step_of") rfl)
  obtain ⟨fd__law_ahead, F__law_ahead⟩ := c.def_ 24 (d := dOf "_law_ahead" 27 []) rfl
  have g__law_ahead := He.glo_ok X G (c.fact 24 (f := .glo "_law_ahead") rfl)
  obtain ⟨fd__law_longest, F__law_longest⟩ := c.def_ 25 (d := dOf "_law_longest" 28 []) rfl
  have g__law_longest := He.glo_ok X G (c.fact 25 (f := .glo "_law_longest") rfl)
  obtain ⟨fd__law_slower, F__law_slower⟩ := c.def_ 26 (d := dOf "_law_slower" 29 []) rfl
  have g__law_slower := He.glo_ok X G (c.fact 26 (f := .glo "_law_slower") rfl)
  have h_abs := He.free_ok X G (c.fact 28 (f := .free "abs") rfl)
  have h_any := He.free_ok X G (c.fact 29 (f := .free "any") rfl)
  have h_int := He.free_ok X G (c.fact 30 (f := .free "int") rfl)
  have h_len := He.free_ok X G (c.fact 31 (f := .free "len") rfl)
  have h_max := He.free_ok X G (c.fact 32 (f := .free "max") rfl)
  have h_range := He.free_ok X G (c.fact 33 (f := .free "range") rfl)
  have h_sorted := He.free_ok X G (c.fact 34 (f := .free "sorted") rfl)
  have h_sum := He.free_ok X G (c.fact 35 (f := .free "sum") rfl)
  have h_tuple := He.free_ok X G (c.fact 36 (f := .free "tuple") rfl)
  have D_recipe_of := d_recipe_of (P := P) (w := w) (base := base) F_recipe_of g_recipe_of  
  have D_uses_of := d_uses_of (P := P) (w := w) (base := base) F_uses_of g_uses_of  
  have D_used_recipes := d_used_recipes (P := P) (w := w) (base := base) F_used_recipes g_used_recipes h_sorted D_recipe_of D_uses_of
  have D_jobs := d_jobs (P := P) (w := w) (base := base) F_jobs g_jobs  D_recipe_of D_used_recipes 12
  have D_step_of := d_step_of (P := P) (w := w) (base := base) F_step_of g_step_of  D_recipe_of
  have D_ends := d_ends (P := P) (w := w) (base := base) F_ends g_ends h_any D_recipe_of
  have D_ahead := d_ahead (P := P) (w := w) (base := base) F_ahead g_ahead h_sorted D_step_of D_ends
  have D_by_stations := d_by_stations (P := P) (w := w) (base := base) F_by_stations g_by_stations h_sorted D_jobs D_step_of
  have D_least_minutes := d_least_minutes (P := P) (w := w) (base := base) F_least_minutes g_least_minutes h_max D_jobs D_step_of D_ahead
  have D__law_deck := d__law_deck (P := P) (w := w) (base := base) F__law_deck g__law_deck  
  have D__law_pick := d__law_pick (P := P) (w := w) (base := base) F__law_pick g__law_pick  
  have D__law_one := d__law_one (P := P) (w := w) (base := base) F__law_one g__law_one h_len D__law_pick
  have D__law_frac := d__law_frac (P := P) (w := w) (base := base) F__law_frac g__law_frac h_abs 
  have D__law_plus := d__law_plus (P := P) (w := w) (base := base) F__law_plus g__law_plus  D__law_frac
  have D__law_times := d__law_times (P := P) (w := w) (base := base) F__law_times g__law_times  D__law_frac
  have D__law_amount := d__law_amount (P := P) (w := w) (base := base) F__law_amount g__law_amount  D__law_pick D__law_one D__law_frac
  have D__law_marks := d__law_marks (P := P) (w := w) (base := base) F__law_marks g__law_marks h_tuple D__law_pick
  have D__law_goods := d__law_goods (P := P) (w := w) (base := base) F__law_goods g__law_goods h_tuple D__law_pick D__law_one D__law_marks
  have D__law_step := d__law_step (P := P) (w := w) (base := base) F__law_step g__law_step h_range h_sorted h_tuple D__law_pick D__law_one D__law_amount
  have D__law_cookbook := d__law_cookbook (P := P) (w := w) (base := base) F__law_cookbook g__law_cookbook h_sorted h_tuple D__law_pick D__law_one D__law_step
  have D__law_recipe := d__law_recipe (P := P) (w := w) (base := base) F__law_recipe g__law_recipe  
  have D__law_used := d__law_used (P := P) (w := w) (base := base) F__law_used g__law_used h_sorted D__law_recipe
  have D__law_jobs := d__law_jobs (P := P) (w := w) (base := base) F__law_jobs g__law_jobs  D__law_recipe D__law_used 12
  have D__law_step_of := d__law_step_of (P := P) (w := w) (base := base) F__law_step_of g__law_step_of  D__law_recipe
  have D__law_ahead := d__law_ahead (P := P) (w := w) (base := base) F__law_ahead g__law_ahead h_sorted D__law_recipe D__law_step_of
  have D__law_longest := d__law_longest (P := P) (w := w) (base := base) F__law_longest g__law_longest h_max D__law_step_of D__law_ahead 12
  have D__law_slower := d__law_slower (P := P) (w := w) (base := base) F__law_slower g__law_slower h_int h_tuple 
  exact d_law F hfa h_len h_max h_sum D_by_stations D_least_minutes D__law_deck D__law_pick D__law_goods D__law_cookbook D__law_used D__law_jobs D__law_longest D__law_slower
theorem law_end {p : Par} {C : CExc} {m : AFun} {H : Hp} {a : Addr} {ns : List Int} (hO : Only H) (hS : SqL p.K H a (ns.map V.int)) (hl : ns.length ≤ 63) (hm : m [.scr ns] [] = .ok (.dat (.bool true)) []) : spF p C m 1 [.ref a] H (fun v _ => v = .bl true) (fun _ _ _ => False) := by
  refine ⟨rfl, fun _ => False, [], [.scr ns], [], .cons ⟨by rw [sizeLine_eq]; omega, a, rfl, ?_⟩ .nil, .nil, rfl, fun i b e => by simp at e, ?_⟩
  · rcases hS with (h | ⟨o, h⟩) | h
    · rcases hO a with z | ⟨o, xs, z⟩
      · rw [z] at h; cases h
      · rw [z] at h; cases h
    · exact .inl ⟨o, h⟩
    · exact .inr (.inr h)
  · rw [hm]
    exact fun v H' _ r => RepB.bool (.inl r)
end G
open PySem PySem.W PySem.Calls PyProof.Rows in
theorem PySem.Challenge.cw_galleyward_k07_whole_least_minutes_holds : PySem.Challenge.rw_galleyward_k07_whole_least_minutes.Holds := by
  w_on; o_law
  refine HandSHeadRun.head_any (r := OpenLaw.row PySem.Challenge.rw_galleyward_k07_whole_least_minutes) (q := view (OpenLaw.row PySem.Challenge.rw_galleyward_k07_whole_least_minutes).prog [30]) (H := G.hdK) (ob := G.hdOb) (M := 1600) (loose := G.hdLoose) (d := HandSHeadRun.topDef (OpenLaw.row PySem.Challenge.rw_galleyward_k07_whole_least_minutes).prog 30) (kwd := []) G.hdOb_eq
    (by kernel_rfl) (fun s => by kernel_rfl) G.hdRun (by kernel_rfl) (by kernel_rfl) (by kernel_rfl) (by rfl) (by first | assumption | decide +kernel) (by decide +kernel) ⟨rfl, rfl, rfl, rfl, rfl, by decide +kernel⟩ ?hw ?hc
  case hw => w_witness2
  case hc =>
    refine L2.walk_ofE (l := PySem.Challenge.rw_galleyward_k07_whole_least_minutes) (n := 63) (k := 16) (x := "_law_script") (CX := L2.CX0) rfl (by decide) (by kernel_rfl) ⟨rfl, by decide, by decide⟩ ?F (fun _ _ _ _ z => z)
    intro w mg fa h Y G0 hmg0
    obtain ⟨K, KX, c, ct⟩ := Y
    have hmg : mg ("law" : PySem.Str) = some (.ref fa) := by
      have e : (HandSHeadRun.topDef (OpenLaw.row PySem.Challenge.rw_galleyward_k07_whole_least_minutes).prog 30).name = ("law" : PySem.Str) := by kernel_rfl
      rw [← e]
      exact hmg0
    obtain ⟨fd, hb, hF⟩ := G.hdFacts (P := (PySem.Challenge.rw_galleyward_k07_whole_least_minutes).prog) (w := w) KX G0 hmg c ct
    exact ⟨K, fd, G.spF ⟨(PySem.Challenge.rw_galleyward_k07_whole_least_minutes).prog, w, K⟩ G.C0 G.m_law 1, KX, hb, fun H a ns hl hO hS => G.law_end hO hS hl (G.s_law ns hl), hF⟩
