import PyProof.Rows.All
import Wide.All
import OpenK.AllK
import Wide.FinOn
import KE.KStateDown
import Lean
import HandS.Base
import HandS.Call
import HandS.Ends
import HandS.More
import HandS.Words
import HandS.WordsExc
import HandS.Codes
import HandS.Defaults
import HandS.Head0
import HandS.Head1
import HandS.Head2
import HandS.HeadEnd
import HandS.HeadHook1
import HandS.HeadHook2
import HandS.CallLocal
import HandS.CallSlots
import HandS.Comp
import HandS.Conv
import HandS.Deep
import HandS.Dict
import HandS.DictComp
import HandS.DictSubView
import HandS.DictTup
import HandS.EndTab
import HandS.ExcCtx
import HandS.ExcField
import HandS.ExcInit
import HandS.ExcOwn
import HandS.ForExc
import HandS.ForMost
import HandS.HeadHook4
import HandS.HeadWalk
import HandS.HotCalls
import HandS.IsInst
import HandS.Iter
import HandS.Lambda
import HandS.List
import HandS.RaiseMore
import HandS.SetFor
import HandS.SetKeys
import HandS.SortKw
import HandS.Strs
import HandS.Style
import HandS.TupAny
import HandS.TupMul
import HandS.TupSets
import HandS.Walk
import HandS.Wide
import KE.DataCmp
import KE.DataMinMax
import KE.GoesEnum
import KE.GoesZip
import KE.KDictKeyed
import KE.KDictList
import KE.KDictPairs
import KE.KDictSum
import KE.KDictWalk
import KE.KEqDict
import KE.KExcIs
import KE.KLam
import KE.KTryMore
import KE.KeyNested
import KE.SortData
import KE.SortKeyed
import KE.SortLaws
import PyProof.DictRoadsH
import PyProof.P3Eq
import PyProof.ReprRoads
import PyProof.ZipIter
import PySem.Challenge.RW_galleyward_k54_whole_how_long_stores_las
set_option Elab.async false
set_option linter.all false
set_option maxRecDepth 100000
set_option maxHeartbeats 0
set_option exponentiation.threshold 2000
namespace G
open PySem PySem.Spec PyProof.Rows L2
inductive AV where
  /-- data that nobody writes -/
  | dat (x : PyData)
  /-- a dict that nobody writes -/
  | dct (tp : Bool) (kvs : List (PyData × PyData))
  /-- the frame's own cell -/
  | cel (i : Nat)
  /-- the law's script -/
  | scr (ns : List Int)
  /-- a board: its rooms, its cooks, the cell of what is used -/
  | brd (rooms : List (PyData × PyData)) (cooks : PyData) (i : Nat)
  /-- a def, by its name; or a thing at its place, of the kind n -/
  | fn (n : Str) (o : Option Addr)
  /-- a place that holds just this (ghosts alone) -/
  | pin (φ : Heap → Prop)
inductive Cell where
  | lst (xs : List PyData)
  | dct (tp : Bool) (kvs : List (PyData × PyData))
  | gone
  /-- a list of lists: cells of the frame's own, made ahead of it -/
  | rows (ks : List Nat)
  /-- an object of the class cl: its fields' values -/
  | obj (cl : Str) (fs : List (Str × AV))
structure Fr where
  vars : List (Option AV)
  cells : List Cell
  /-- how many cells were handed in -/
  base : Nat
inductive Res (α : Type) where
  | ok (a : α) (f : Fr)
  | exc (c : Str) (fs : List (Str × PyData)) (f : Fr)
  | err
/-- a list of the written part -/
def KL (K : PySem.W.Frag) (a : Addr) (xs : List V) : Prop := SqL K (fun _ => none) a xs
theorem KL.sql {K : PySem.W.Frag} {a : Addr} {xs : List V} (h : KL K a xs) (H : Hp) : SqL K H a xs := by
  rcases h with (h | ⟨_, h⟩) | h
  · cases h
  · cases h
  · exact .inr h
/-- the tuple at a, without a dict -/
def BrT (K : PySem.W.Frag) (H : Hp) (a : Addr) (xs : List V) : Prop := (∃ o, o.dict = none ∧ H a = some (.frz o (.tup xs))) ∨
  ∃ o its n, o.dict = none ∧ K.lookup a = some o ∧ o.cls = .type "tuple" ∧ o.data = .seq its n ∧ xs.length ≤ sizeLine ∧ Vals xs its.toList
/-- its first item is no object -/
def hdB : List V → Bool
  | .ref _ :: _ => false
  | _ :: _ => true
  | [] => false
/-- a tuple, and more: without a dict, or a pair whose first item is no object (out of enumerate, items) -/
structure SqU (K : PySem.W.Frag) (H : Hp) (a : Addr) (xs : List V) : Prop where
  sq : SqT K H a xs
  tb : hdB xs = true ∨ BrT K H a xs
theorem SqU.pair {K : PySem.W.Frag} {H : Hp} {a : Addr} {xs : List V} (h : SqT K H a xs) (e : hdB xs = true) : SqU K H a xs := ⟨h, .inl e⟩
theorem SqU.new {K : PySem.W.Frag} {H : Hp} {a : Addr} {xs : List V} {o : Obj} (e : o.dict = none) (h : H a = some (.frz o (.tup xs))) : SqU K H a xs := ⟨.inl (.inr ⟨o, h⟩), .inr (.inl ⟨o, e, h⟩)⟩
mutual
inductive Rep (K : PySem.W.Frag) (H : Hp) (ok : Addr → Prop) : V → PyData → Prop
  | non : Rep K H ok .non .none
  | bl (b : Bool) : Rep K H ok (.bl b) (.bool b)
  | int (i : Int) : Rep K H ok (.int i) (.int i)
  | str (x : Str) (h : PyData.strOk x = true) : Rep K H ok (.str x) (.str x)
  | lst {a : Addr} {xs : List V} {ds : List PyData} : ok a → H a = some (.lst xs) → ds.length ≤ sizeLine → RepL K H ok xs ds → Rep K H ok (.ref a) (.list ds)
  | tup {a : Addr} {xs : List V} {ds : List PyData} : SqU K H a xs → ds.length ≤ sizeLine → RepL K H ok xs ds → Rep K H ok (.ref a) (.tuple ds)
inductive RepL (K : PySem.W.Frag) (H : Hp) (ok : Addr → Prop) : List V → List PyData → Prop
  | nil : RepL K H ok [] []
  | cons {v : V} {vs : List V} {d : PyData} {ds : List PyData} : Rep K H ok v d → RepL K H ok vs ds → RepL K H ok (v :: vs) (d :: ds)
end
/-- tuples stand -/
abbrev TupK (H H' : Hp) : Prop := ∀ (a : Addr) (xs : List V), (Rd H a (.tup xs) → Rd H' a (.tup xs)) ∧ ∀ o, H a = some (.frz o (.tup xs)) → H' a = some (.frz o (.tup xs))
/-- no table of code objects (those alone grow) -/
def nt : HO → Prop
  | .tbl _ => False
  | _ => True
/-- what is kept from a heap to a later one -/
structure Keep (H H' : Hp) (ok ok' : Addr → Prop) : Prop where
  l : ∀ a o, ok a → H a = some o → ok' a ∧ (nt o → H' a = some o)
  t : TupK H H'
theorem tk_same {H : Hp} : TupK H H := fun _ _ => ⟨id, fun _ => id⟩
theorem Keep.refl {H : Hp} {ok : Addr → Prop} : Keep H H ok ok := ⟨fun _ _ h e => ⟨h, fun _ => e⟩, tk_same⟩
theorem Keep.sqt {K : PySem.W.Frag} {H H' : Hp} {ok ok' : Addr → Prop} (k : Keep H H' ok ok') {a : Addr} {xs : List V} (r : SqT K H a xs) : SqT K H' a xs := by
  rcases r with r | r
  · exact .inl ((k.t a xs).1 r)
  · exact .inr r
theorem Keep.squ {K : PySem.W.Frag} {H H' : Hp} {ok ok' : Addr → Prop} (k : Keep H H' ok ok') {a : Addr} {xs : List V} (r : SqU K H a xs) : SqU K H' a xs := ⟨k.sqt r.sq, r.tb.imp id fun b => b.imp (fun ⟨o, h1, h2⟩ => ⟨o, h1, (k.t a xs).2 o h2⟩) id⟩
mutual
theorem Rep.keep {K : PySem.W.Frag} {H H' : Hp} {ok ok' : Addr → Prop} (k : Keep H H' ok ok') : ∀ {v : V} {x : PyData}, Rep K H ok v x → Rep K H' ok' v x
  | _, _, .non => .non
  | _, _, .bl b => .bl b
  | _, _, .int i => .int i
  | _, _, .str x h => .str x h
  | _, _, .lst o r l rs => .lst (k.l _ _ o r).1 ((k.l _ _ o r).2 trivial) l (RepL.keep k rs)
  | _, _, .tup r l rs => .tup (k.squ r) l (RepL.keep k rs)
theorem RepL.keep {K : PySem.W.Frag} {H H' : Hp} {ok ok' : Addr → Prop} (k : Keep H H' ok ok') : ∀ {vs : List V} {xs : List PyData}, RepL K H ok vs xs → RepL K H' ok' vs xs
  | _, _, .nil => .nil
  | _, _, .cons r rs => .cons (Rep.keep k r) (RepL.keep k rs)
end
theorem RepL.length {K : PySem.W.Frag} {H : Hp} {ok : Addr → Prop} : ∀ {vs : List V} {xs : List PyData}, RepL K H ok vs xs → vs.length = xs.length
  | _, _, .nil => rfl
  | _, _, .cons _ rs => by rw [List.length_cons, List.length_cons, RepL.length rs]
theorem RepL.get {K : PySem.W.Frag} {H : Hp} {ok : Addr → Prop} : ∀ {vs : List V} {xs : List PyData} {i : Nat} {x : PyData}, RepL K H ok vs xs → xs[i]? = some x → ∃ v, vs[i]? = some v ∧ Rep K H ok v x
  | _, _, _, _, .nil, e => by simp at e
  | _, _, 0, _, .cons r _, e => by simp at e; subst e; exact ⟨_, rfl, r⟩
  | _, _, i + 1, x, .cons _ rs, e => by
    obtain ⟨v, h1, h2⟩ := RepL.get (i := i) (x := x) rs (by simpa using e)
    exact ⟨v, by simpa using h1, h2⟩
theorem RepL.append {K : PySem.W.Frag} {H : Hp} {ok : Addr → Prop} : ∀ {vs ws : List V} {xs ys : List PyData}, RepL K H ok vs xs → RepL K H ok ws ys → RepL K H ok (vs ++ ws) (xs ++ ys)
  | _, _, _, _, .nil, s => s
  | _, _, _, _, .cons r rs, s => .cons r (RepL.append rs s)
theorem RepL.take {K : PySem.W.Frag} {H : Hp} {ok : Addr → Prop} : ∀ {vs : List V} {xs : List PyData} (n : Nat), RepL K H ok vs xs → RepL K H ok (vs.take n) (xs.take n)
  | _, _, 0, _ => .nil
  | _, _, _ + 1, .nil => .nil
  | _, _, n + 1, .cons r rs => .cons r (RepL.take n rs)
theorem RepL.drop {K : PySem.W.Frag} {H : Hp} {ok : Addr → Prop} : ∀ {vs : List V} {xs : List PyData} (n : Nat), RepL K H ok vs xs → RepL K H ok (vs.drop n) (xs.drop n)
  | _, _, 0, r => r
  | _, _, _ + 1, .nil => .nil
  | _, _, n + 1, .cons _ rs => RepL.drop n rs
theorem RepL.set {K : PySem.W.Frag} {H : Hp} {ok : Addr → Prop} {v : V} {x : PyData} (r : Rep K H ok v x) : ∀ {vs : List V} {xs : List PyData} (i : Nat), RepL K H ok vs xs → RepL K H ok (vs.set i v) (xs.set i x)
  | _, _, _, .nil => .nil
  | _, _, 0, .cons _ t => .cons r t
  | _, _, i + 1, .cons q t => .cons q (RepL.set r i t)
theorem RepL.ints {K : PySem.W.Frag} {H : Hp} {ok : Addr → Prop} : ∀ ns : List Int, RepL K H ok (ns.map V.int) (ns.map PyData.int)
  | [] => .nil
  | _ :: ns => .cons (.int _) (RepL.ints ns)
/-- to be read: data, or a list whose items are data -/
def RepB (K : PySem.W.Frag) (H : Hp) (ok : Addr → Prop) (v : V) (x : PyData) : Prop :=
  Rep K H ok v x ∨ ∃ a xs ds, v = .ref a ∧ x = .list ds ∧ SqL K H a xs ∧ ds.length ≤ sizeLine ∧ RepL K H ok xs ds
theorem Rep.b {K : PySem.W.Frag} {H : Hp} {ok : Addr → Prop} {v : V} {x : PyData} (r : Rep K H ok v x) : RepB K H ok v x := .inl r
/-- a list that is read -/
theorem RepB.list {K : PySem.W.Frag} {H : Hp} {ok : Addr → Prop} {v : V} {ds : List PyData} (r : RepB K H ok v (.list ds)) : ∃ a xs, v = .ref a ∧ SqL K H a xs ∧ ds.length ≤ sizeLine ∧ RepL K H ok xs ds := by
  rcases r with r | ⟨a, xs, ds', rfl, e, h1, h2, h3⟩
  · cases r with
    | lst o r l rs => exact ⟨_, _, rfl, SqL.of r, l, rs⟩
  · injection e with e
    subst e
    exact ⟨a, xs, rfl, h1, h2, h3⟩
theorem RepB.tuple {K : PySem.W.Frag} {H : Hp} {ok : Addr → Prop} {v : V} {ds : List PyData} (r : RepB K H ok v (.tuple ds)) : ∃ a xs, v = .ref a ∧ SqT K H a xs ∧ ds.length ≤ sizeLine ∧ RepL K H ok xs ds := by
  rcases r with r | ⟨a, xs, ds', _, e, _⟩
  · cases r with
    | tup r l rs => exact ⟨_, _, rfl, r.sq, l, rs⟩
  · cases e
theorem RepB.tupleB {K : PySem.W.Frag} {H : Hp} {ok : Addr → Prop} {v : V} {ds : List PyData} (r : RepB K H ok v (.tuple ds)) : ∃ a xs, v = .ref a ∧ SqU K H a xs ∧ ds.length ≤ sizeLine ∧ RepL K H ok xs ds := by
  rcases r with r | ⟨a, xs, ds', _, e, _⟩
  · cases r with
    | tup r l rs => exact ⟨_, _, rfl, r, l, rs⟩
  · cases e
theorem RepB.int {K : PySem.W.Frag} {H : Hp} {ok : Addr → Prop} {v : V} {i : Int} (r : RepB K H ok v (.int i)) : v = .int i := by
  rcases r with r | ⟨_, _, _, _, e, _⟩
  · cases r; rfl
  · cases e
theorem RepB.bool {K : PySem.W.Frag} {H : Hp} {ok : Addr → Prop} {v : V} {i : Bool} (r : RepB K H ok v (.bool i)) : v = .bl i := by
  rcases r with r | ⟨_, _, _, _, e, _⟩
  · cases r; rfl
  · cases e
theorem RepB.str {K : PySem.W.Frag} {H : Hp} {ok : Addr → Prop} {v : V} {i : Str} (r : RepB K H ok v (.str i)) : v = .str i ∧ PyData.strOk i = true := by
  rcases r with r | ⟨_, _, _, _, e, _⟩
  · cases r with
    | str _ h => exact ⟨rfl, h⟩
  · cases e
theorem RepB.none {K : PySem.W.Frag} {H : Hp} {ok : Addr → Prop} {v : V} (r : RepB K H ok v .none) : v = .non := by
  rcases r with r | ⟨_, _, _, _, e, _⟩
  · cases r; rfl
  · cases e
mutual
theorem Rep.dp {K : PySem.W.Frag} {H : Hp} {ok : Addr → Prop} : ∀ {v : V} {x : PyData}, Rep K H ok v x → Dp K H v x
  | _, _, .non => .non
  | _, _, .bl b => .bl b
  | _, _, .int i => .int i
  | _, _, .str x _ => .str x
  | _, _, .lst _ r _ rs => .lst (SqL.of r) (RepL.dp rs)
  | _, _, .tup r _ rs => .tup r.sq (RepL.dp rs)
theorem RepL.dp {K : PySem.W.Frag} {H : Hp} {ok : Addr → Prop} : ∀ {vs : List V} {xs : List PyData}, RepL K H ok vs xs → DpAll K H vs xs
  | _, _, .nil => .nil
  | _, _, .cons r rs => .cons (Rep.dp r) (RepL.dp rs)
end
theorem RepB.dp {K : PySem.W.Frag} {H : Hp} {ok : Addr → Prop} {v : V} {x : PyData} (r : RepB K H ok v x) : Dp K H v x := by
  rcases r with r | ⟨a, xs, ds, rfl, rfl, h1, _, h2⟩
  · exact r.dp
  · exact .lst h1 h2.dp
mutual
theorem Rep.lay {K : PySem.W.Frag} {H : Hp} {ok : Addr → Prop} : ∀ {v : V} {x : PyData}, Rep K H ok v x → x.canLay0 = true
  | _, _, .non => rfl
  | _, _, .bl b => rfl
  | _, _, .int i => rfl
  | _, _, .str x h => h
  | _, _, .lst _ _ _ rs => RepL.lay rs
  | _, _, .tup _ _ rs => RepL.lay rs
theorem RepL.lay {K : PySem.W.Frag} {H : Hp} {ok : Addr → Prop} : ∀ {vs : List V} {xs : List PyData}, RepL K H ok vs xs → PyData.canLayAll0 xs = true
  | _, _, .nil => rfl
  | _, _, .cons r rs => by
    show (PyData.canLay0 _ && PyData.canLayAll0 _) = true
    rw [Rep.lay r, RepL.lay rs]; rfl
end
theorem RepB.lay {K : PySem.W.Frag} {H : Hp} {ok : Addr → Prop} {v : V} {x : PyData} (r : RepB K H ok v x) : x.canLay0 = true := by
  rcases r with r | ⟨a, xs, ds, rfl, rfl, h1, _, h2⟩
  · exact r.lay
  · exact h2.lay
def Grow (H H' : Hp) : Prop := ∀ b o, H b = some o → H' b = some o
theorem Grow.refl {H : Hp} : Grow H H := fun _ _ e => e
theorem Grow.new {H : Hp} {p : Addr} {o : HO} (n : H p = none) : Grow H (upd H p o) := fun b u e => by rw [upd_ne (ne_of_none e n)]; exact e
theorem Grow.keep {H H' : Hp} {ok : Addr → Prop} (g : Grow H H') : Keep H H' ok ok where
  l := fun a o h e => ⟨h, fun _ => g a o e⟩
  t := fun a xs => ⟨fun r => by
    rcases r with r | ⟨o, r⟩
    · exact .inl (g a _ r)
    · exact .inr ⟨o, g a _ r⟩, fun o r => g a _ r⟩
end G
namespace G
open PySem PySem.Spec PyProof.Rows L2
section
variable {X : Cx} {pins : List (Addr × Obj)} {σ : L2.St} {H : Hp} {s : Shared} {pos : Pos} {es : List Expr}
theorem BrT.is {a : Addr} {xs : List V} (I : Inv X pins σ H s) (b : BrT X.K H a xs) : ∃ (o : Obj) (its : List Value) (n : Nat), Vals xs its ∧ xs.length ≤ sizeLine ∧ s.heap.get? a = some o ∧ o.cls = .type "tuple" ∧ o.dict = none ∧ o.data = .seq its.toArray n := by
  rcases b with ⟨o, hd, e⟩ | ⟨o, its, n, hd, hk, hc, hs, hz, r⟩
  · obtain ⟨h1, h2, its, r, o2, h3, h4, n, h5⟩ := (show ObjOk X.prog X.w H s.heap a (.frz o (.tup xs)) from I.hok a _ e)
    rw [h1] at h3
    cases h3
    exact ⟨o, its, n, r, h2, h1, h4, hd, h5⟩
  · exact ⟨o, its.toList, n, r, hz, I.kIn a o hk, hc, hd, by simpa using hs⟩
/-- a tuple displayed -/
theorem pe_tupB {x1 : Nat} {t : TA} (h : PA X es t) : PE X (.Tuple es x1 pos) fun σ H Q => t σ H fun xs H1 => xs.length ≤ sizeLine ∧ ∀ p ob, H1 p = none → ob.dict = none → Q (.ref p) (upd H1 p (.frz ob (.tup xs))) := by
  refine ⟨fun pins s σ H Q I hq => wpAny_Tuple_spliced (thn (h.run pos pins s σ H _ I hq) fun us s1 ⟨xs, H1, I1, r, z, q⟩ => ⟨by rw [← r.length]; exact z, ?_⟩)⟩
  let ob : Obj := { cls := .type "tuple", data := .seq us.toArray }
  refine ⟨.ref s1.heap.objs.size, upd H1 s1.heap.objs.size (.frz ob (.tup xs)), I1.laid (t' := s1.toks) (fun b u e => Heap.get?_push_of_some _ e) (Nat.le_refl _) ?_, rfl, q _ ob (I1.hok.fresh (Nat.le_refl _)) rfl⟩
  exact ⟨Heap.get?_push_size _ rfl, z, us, r, ⟨_, Heap.get?_push_size _ rfl, rfl, _, rfl⟩⟩
/-- tuple(list) -/
theorem call_tupB : CallR X (.type "tuple") (fun xs H Q => ∃ p ys, xs = [.ref p] ∧ SqL X.K H p ys ∧ ∀ l ob, H l = none → ob.dict = none → Q (.ref l) (upd H l (.frz ob (.tup ys)))) := by
  intro pins s σ H xs us Q I r h
  obtain ⟨p, ys, rfl, hq, q⟩ := h
  obtain ⟨u, rfl, rx⟩ := vals1 r
  cases rx
  obtain ⟨its, r', pl, hz⟩ := I.list hq
  have hlen := r'.length
  refine call_tuple_list pl.isList (fun h' kp => ?_) (by simp only [List.size_toArray] <;> omega)
  have I1 : Inv X pins σ H { s with heap := h' } := I.kept (t' := s.toks) kp
  let ob : Obj := { cls := .type "tuple", data := .seq its.toArray }
  have I2 : Inv X pins σ (upd H h'.objs.size (.frz ob (.tup ys))) { s with heap := h'.push ob } :=
    I1.laid (t' := s.toks) (fun b o e => Heap.get?_push_of_some _ e) (Nat.le_refl _) ⟨Heap.get?_push_size _ rfl, hz, its, r', IsTup.new _ _⟩
  exact ⟨.ref h'.objs.size, _, I2, rfl, q _ ob (I1.hok.fresh (Nat.le_refl _)) rfl⟩
open Classical in
/-- dict(tuple of pairs) -/
theorem call_dictT (hcalm : X.calm = true) : CallR X (.type "dict") (fun xs H Q => ∃ (a : Addr) (ps : List Addr) (kvs : List (Key × V)), xs = [.ref a] ∧ BrT X.K H a (ps.map V.ref) ∧ Paired (fun p kv => SqT X.K H p [kV kv.1, kv.2]) ps kvs ∧
    ∀ p, H p = none → Q (.ref p) (upd H p (.dK (mergeK [] kvs)))) := by
  intro pins s σ H xs us Q I r q
  obtain ⟨a, ps, kvs, rfl, hq, hp, q⟩ := q
  obtain ⟨u, rfl, rx⟩ := vals1 r
  cases rx
  obtain ⟨o, its, n, rv, hz, ho, hc, hd, hdat⟩ := hq.is I
  have ei := refs_at rv
  subst ei
  rw [List.length_map] at hz
  obtain ⟨prs, rel, hl, hpr⟩ := pairs_of I hp
  -- the keys, as values
  let f : Nat → Value := fun j => if h : ∃ u, ∃ b q, prs[j]? = some q ∧ ps[j]? = some b ∧ IsTup s.heap b #[u, q.2] ∧ keyIs q.1 u = true then Classical.choose h else .none
  have hf : ∀ j q, prs[j]? = some q → ∃ b, ps[j]? = some b ∧ IsTup s.heap b #[f j, q.2] ∧ keyIs q.1 (f j) = true := fun j q e => by
    obtain ⟨b, u, e1, e2, e3⟩ := hpr j q e
    have h : ∃ u, ∃ b q, prs[j]? = some q ∧ ps[j]? = some b ∧ IsTup s.heap b #[u, q.2] ∧ keyIs q.1 u = true := ⟨u, b, q, e, e1, e2, e3⟩
    obtain ⟨b', q', g1, g2, g3, g4⟩ := Classical.choose_spec h
    have ef : f j = Classical.choose h := dif_pos h
    rw [e] at g1
    cases g1
    rw [ef]
    exact ⟨b', g2, g3, g4⟩
  let psV : List (Value × Value) := (List.range prs.length).map fun j => (f j, (prs.getD j (.inl 0, .none)).2)
  have hV : ∀ j k v, psV[j]? = some (k, v) → ∃ q, prs[j]? = some q ∧ k = f j ∧ v = q.2 := fun j k v e => by
    have hj : j < prs.length := by
      have := (List.getElem?_eq_some_iff.mp e).1
      simpa [psV] using this
    have e2 : psV[j]? = some (f j, (prs.getD j (.inl 0, .none)).2) := by
      simp only [psV, List.getElem?_map, List.getElem?_range hj, Option.map_some]
    rw [e2] at e
    cases e
    refine ⟨prs[j], List.getElem?_eq_getElem hj, rfl, ?_⟩
    rw [List.getD_eq_getElem?_getD, List.getElem?_eq_getElem hj]; rfl
  have lV : psV.length = prs.length := by simp [psV]
  have P := PairArg.tuple (prog := X.prog) (w := X.w) a (ps.map Value.ref).toArray (fun j => ps.getD j 0) psV
  refine call_dict_pairs (knd := mixKind X.prog X.w) (kvs := prs) P (I.ok.hd hcalm) ⟨⟨o, n, ho, hc, hd, hdat⟩, by simp [lV, hl], fun j k v e => ?_⟩ ⟨lV.symm, fun i k v e => ?_⟩ (by rw [lV, hl]; exact hz) fun h' tk hd' k => ?_
  · obtain ⟨q, e1, rfl, rfl⟩ := hV j k v e
    obtain ⟨b, e2, e3, _⟩ := hf j q e1
    refine ⟨by simp [e2, List.getD_eq_getElem?_getD], ?_⟩
    show PairAt s.heap (ps.getD j 0) (f j) q.2
    rw [List.getD_eq_getElem?_getD, e2]
    exact .inl e3
  · obtain ⟨q, e1, rfl, rfl⟩ := hV i k v e
    obtain ⟨b, _, _, e4⟩ := hf i q e1
    exact ⟨q.1, e1, e4⟩
  · have hm : (s.heap.objs.size == sysModules) = false := beq_eq_false_iff_ne.mpr (Nat.ne_of_gt I.big)
    have hlen : (mergeK [] kvs).length ≤ sizeLine := by
      refine Nat.le_trans (length_mergeK kvs []) ?_
      rw [List.length_nil, Nat.zero_add, rel.length, hl]
      exact hz
    exact ⟨.ref s.heap.objs.size, upd H s.heap.objs.size (.dK (mergeK [] kvs)), I.laid (t' := tk) (fun b o e => k b o (fun z => nomatch z) e) (Nat.le_refl _) (show ObjOk X.prog X.w _ _ _ (.dK (mergeK [] kvs)) from ⟨hlen, hm, merged [] prs, KV.merge rel .nil, hd'⟩), rfl, q _ (I.hok.fresh (Nat.le_refl _))⟩
/-- t[lo:hi] -/
theorem sl_tupB : SlR X (fun x lo hi H Q => ∃ a xs, x = .ref a ∧ SqT X.K H a xs ∧ (HT.sIx xs.length 0 lo = 0 ∧ HT.sIx xs.length xs.length hi = xs.length → Q (.ref a) H) ∧
    (¬ (HT.sIx xs.length 0 lo = 0 ∧ HT.sIx xs.length xs.length hi = xs.length) → ∀ p ob, H p = none → ob.dict = none → Q (.ref p) (upd H p (.frz ob (.tup (cutV xs lo hi)))))) := by
  intro pins s σ H x v vl vu lo hi sl Q I rx hs pl pu h
  obtain ⟨a, xs, rfl, hx, q1, q2⟩ := h
  cases rx
  obtain ⟨its, r, ht, hz⟩ := I.tuple hx
  have hlen : its.toArray.size = xs.length := by rw [List.size_toArray]; exact r.length.symm
  refine ⟨"tuple", _, PyProof.Rows.slot_tuple_getitem.lookup, ht.typeIs, ?_⟩
  by_cases hw : HT.sIx xs.length 0 lo = 0 ∧ HT.sIx xs.length xs.length hi = xs.length
  · exact getItem_tuple_whole ht hs pl pu (by rw [hlen]; exact hw) ⟨.ref a, H, I, rfl, q1 hw⟩
  · refine HT.getItem_tuple_cut ht hs pl pu (by rw [hlen]; exact hw) ?_ (by rw [hlen]; exact hz)
    rw [hlen]
    let ob : Obj := { cls := .type "tuple", data := .seq ((its.toArray.toList.drop (HT.sIx xs.length 0 lo)).take (HT.sIx xs.length xs.length hi - HT.sIx xs.length 0 lo)).toArray }
    have I2 : Inv X pins σ (upd H s.heap.objs.size (.frz ob (.tup (cutV xs lo hi)))) { s with heap := s.heap.push ob } :=
      I.laid (t' := s.toks) (fun b o q => Heap.get?_push_of_some _ q) (Nat.le_refl _) ⟨Heap.get?_push_size _ rfl, Nat.le_trans (cutV_length xs lo hi) hz, _, (r.drop (HT.sIx xs.length 0 lo)).take (HT.sIx xs.length xs.length hi - HT.sIx xs.length 0 lo), IsTup.new _ _⟩
    exact ⟨.ref s.heap.objs.size, _, I2, rfl, q2 hw _ ob (I.hok.fresh (Nat.le_refl _)) rfl⟩
/-- t + u -/
theorem op_catB : OpR X (binaryOp .Add) (fun x y H Q => ∃ a b xs ys, x = .ref a ∧ y = .ref b ∧ SqT X.K H a xs ∧ SqT X.K H b ys ∧ xs.length + ys.length ≤ sizeLine ∧
    (xs = [] → Q (.ref b) H) ∧ (xs ≠ [] → ys = [] → Q (.ref a) H) ∧ (xs ≠ [] → ys ≠ [] → ∀ p ob, H p = none → ob.dict = none → Q (.ref p) (upd H p (.frz ob (.tup (xs ++ ys)))))) := by
  intro pins s σ H x y v u Q I rx ry h
  obtain ⟨a, b, xs, ys, rfl, rfl, ha, hb, hz, q0, q1, q2⟩ := h
  cases rx
  cases ry
  obtain ⟨its, r1, p1, _⟩ := I.tuple ha
  obtain ⟨its2, r2, p2, _⟩ := I.tuple hb
  by_cases hx : xs = []
  · subst hx
    cases r1
    exact cat_tup0 p1 p2 ⟨.ref b, H, I, rfl, q0 rfl⟩
  · refine HT.cat_tup p1 p2 (fun z => hx (r1.nil_iff.mp z)) (fun z => ⟨.ref a, H, I, rfl, q1 hx (r2.nil_iff.mp z)⟩) (fun z => ?_) (by rw [← r1.length, ← r2.length]; exact hz)
    let ob : Obj := { cls := .type "tuple", data := .seq (its ++ its2).toArray }
    have I2 : Inv X pins σ (upd H s.heap.objs.size (.frz ob (.tup (xs ++ ys)))) { s with heap := s.heap.push ob } :=
      I.laid (t' := s.toks) (fun b o q => Heap.get?_push_of_some _ q) (Nat.le_refl _) ⟨Heap.get?_push_size _ rfl, by rw [List.length_append]; exact hz, _, r1.append r2, IsTup.new _ _⟩
    exact ⟨.ref s.heap.objs.size, _, I2, rfl, q2 hx (fun w => z (r2.nil_iff.mpr w)) _ ob (I.hok.fresh (Nat.le_refl _)) rfl⟩
end
end G
namespace G
open PySem PySem.Spec PyProof.Rows L2
structure Par where
  P : Program
  w : World
  K : PySem.W.Frag
/-- what a body began with: the heap, the old lists that it may hold, the cells that it was handed -/
structure Ent where
  He : Hp
  S : Addr → Prop
  W0 : List Addr
  /-- what a loop walks -/
  gh : List (V × AV) := []
  /-- lists that a comprehension is filling -/
  prot : List Addr := []
  /-- how many of W0 are one's own, held -/
  up : Nat := 0
/-- from where on cells may lie in a list of one's own -/
abbrev Ent.lo (c : Ent) : Nat := c.W0.length - c.up
def keyD : Key → PyData
  | .inl i => .int i
  | .inr x => .str x
def keyS : Key → Prop
  | .inl _ => True
  | .inr x => PyData.strOk x = true
mutual
def nkD : NestedKey → PyData
  | .none => .none
  | .num i => .int i
  | .text x => .str x
  | .tup ks => .tuple (nkDs ks)
def nkDs : List NestedKey → List PyData
  | [] => []
  | k :: ks => nkD k :: nkDs ks
end
/-- the dict object at a, whole -/
def dTh (a : Addr) (es : Array DictEntry) (ep : Nat) : HO := .ext fun h => ∃ o, h.get? a = some o ∧ o.ExactDict ∧ o.data = .dict es ep
def DctAt (p : Par) (H : Hp) (ok : Addr → Prop) (a : Addr) : Bool → List (PyData × PyData) → Prop
  | false, kvs => ∃ ks : List (Key × V), H a = some (.dK ks) ∧ Paired (fun (x : Key × V) (q : PyData × PyData) => q.1 = keyD x.1 ∧ keyS x.1 ∧ Rep p.K H ok x.2 q.2) ks kvs
  | true, kvs => ∃ (es : Array DictEntry) (ep : Nat) (xs : List (NestedKey × Addr × Value)), H a = some (dTh a es ep) ∧ es.toList = xs.map (entryOfKey (nestedKind p.P p.w)) ∧ (xs.map (·.1)).Nodup ∧ (a == sysModules) = false ∧ kvs.length ≤ sizeLine ∧
      Paired (fun (x : NestedKey × Addr × Value) (q : PyData × PyData) => q.1 = nkD x.1 ∧ x.1.depth ≤ 8 ∧ Rep p.K H ok (.ref x.2.1) q.1 ∧ ∃ v, RelV v x.2.2 ∧ Rep p.K H ok v q.2) xs kvs
theorem DctAt.keep {p : Par} {H H' : Hp} {ok ok' : Addr → Prop} {a : Addr} (k : Keep H H' ok ok') (ha : ∀ o, H a = some o → H' a = some o) : ∀ {tp : Bool} {kvs : List (PyData × PyData)}, DctAt p H ok a tp kvs → DctAt p H' ok' a tp kvs
  | false, _, ⟨ks, e, r⟩ => ⟨ks, ha _ e, Paired.mapP r fun _ _ ⟨h1, h2, h3⟩ => ⟨h1, h2, h3.keep k⟩⟩
  | true, _, ⟨es, ep, xs, e, h1, h2, h3, h4, r⟩ => ⟨es, ep, xs, ha _ e, h1, h2, h3, h4, Paired.mapP r fun _ _ ⟨q1, q2, q3, v, q4, q5⟩ => ⟨q1, q2, q3.keep k, v, q4, q5.keep k⟩⟩
theorem DctAt.there {p : Par} {H : Hp} {ok : Addr → Prop} {a : Addr} : ∀ {tp : Bool} {kvs : List (PyData × PyData)}, DctAt p H ok a tp kvs → ∃ o, H a = some o ∧ ∀ xs, ¬ Rd H a (.tup xs)
  | false, _, ⟨ks, e, _⟩ => ⟨_, e, fun xs r => by rcases r with r | ⟨_, r⟩ <;> (rw [e] at r; cases r)⟩
  | true, _, ⟨es, ep, xs, e, _⟩ => ⟨_, e, fun xs r => by
      rcases r with r | ⟨_, r⟩
      · rw [e] at r
        have r' : dTh a es ep = HO.tup xs := Option.some.inj r
        cases r'
      · rename_i o
        rw [e] at r
        have r' : dTh a es ep = HO.frz o (.tup xs) := Option.some.inj r
        cases r'⟩
/-- .. or locked, while it is walked -/
def DctR (p : Par) (H : Hp) (ok : Addr → Prop) (a : Addr) (tp : Bool) (kvs : List (PyData × PyData)) : Prop :=
  DctAt p H ok a tp kvs ∨ (tp = false ∧ ∃ (o : Obj) (ks : List (Key × V)), H a = some (.frz o (.dK ks)) ∧ Paired (fun (x : Key × V) (q : PyData × PyData) => q.1 = keyD x.1 ∧ keyS x.1 ∧ Rep p.K H ok x.2 q.2) ks kvs)
theorem DctAt.r {p : Par} {H : Hp} {ok : Addr → Prop} {a : Addr} {tp : Bool} {kvs : List (PyData × PyData)} (d : DctAt p H ok a tp kvs) : DctR p H ok a tp kvs := .inl d
theorem DctR.rd {p : Par} {H : Hp} {ok : Addr → Prop} {a : Addr} {kvs : List (PyData × PyData)} (d : DctR p H ok a false kvs) : ∃ ks : List (Key × V), Rd H a (.dK ks) ∧ Paired (fun (x : Key × V) (q : PyData × PyData) => q.1 = keyD x.1 ∧ keyS x.1 ∧ Rep p.K H ok x.2 q.2) ks kvs := by
  rcases d with ⟨ks, e, r⟩ | ⟨_, o, ks, e, r⟩
  · exact ⟨ks, .inl e, r⟩
  · exact ⟨ks, .inr ⟨o, e⟩, r⟩
theorem DctR.tt {p : Par} {H : Hp} {ok : Addr → Prop} {a : Addr} {kvs : List (PyData × PyData)} (d : DctR p H ok a true kvs) : DctAt p H ok a true kvs := by
  rcases d with d | ⟨h, _⟩
  · exact d
  · cases h
theorem DctR.keep {p : Par} {H H' : Hp} {ok ok' : Addr → Prop} {a : Addr} (k : Keep H H' ok ok') (ha : ∀ o, H a = some o → H' a = some o) {tp : Bool} {kvs : List (PyData × PyData)} (d : DctR p H ok a tp kvs) : DctR p H' ok' a tp kvs := by
  rcases d with d | ⟨h, o, ks, e, r⟩
  · exact .inl (d.keep k ha)
  · exact .inr ⟨h, o, ks, ha _ e, Paired.mapP r fun _ _ ⟨h1, h2, h3⟩ => ⟨h1, h2, h3.keep k⟩⟩
theorem DctR.there {p : Par} {H : Hp} {ok : Addr → Prop} {a : Addr} {tp : Bool} {kvs : List (PyData × PyData)} (d : DctR p H ok a tp kvs) : ∃ o, H a = some o ∧ ∀ xs, ¬ Rd H a (.tup xs) := by
  rcases d with d | ⟨_, o, ks, e, _⟩
  · exact d.there
  · exact ⟨_, e, fun xs r => by rcases r with r | ⟨_, r⟩ <;> (rw [e] at r; cases r)⟩
theorem DctAt.ntO {p : Par} {H : Hp} {ok : Addr → Prop} {a : Addr} {o : HO} : ∀ {tp : Bool} {kvs : List (PyData × PyData)}, DctAt p H ok a tp kvs → H a = some o → nt o
  | false, _, ⟨ks, e, _⟩, z => by rw [e] at z; cases z; trivial
  | true, _, ⟨es, ep, xs, e, _⟩, z => by
    rw [e] at z
    rw [← Option.some.inj z]
    trivial
theorem DctR.ntO {p : Par} {H : Hp} {ok : Addr → Prop} {a : Addr} {o : HO} {tp : Bool} {kvs : List (PyData × PyData)} (d : DctR p H ok a tp kvs) (z : H a = some o) : nt o := by
  rcases d with d | ⟨_, u, ks, e, _⟩
  · exact d.ntO z
  · rw [e] at z; cases z; trivial
/-- the board at a -/
def BrdAt (p : Par) (H : Hp) (ok : Addr → Prop) (a u : Addr) (rooms : List (PyData × PyData)) (cooks : PyData) : Prop := ∃ (d r : Addr) (vc : V), H a = some (.ins (He.ga p.K "Board") d [("rooms", .ref r), ("cooks", vc), ("used", .ref u)]) ∧ ok r ∧ DctR p H ok r false rooms ∧ Rep p.K H ok vc cooks
theorem BrdAt.keep {p : Par} {H H' : Hp} {ok ok' : Addr → Prop} {a u : Addr} {rooms : List (PyData × PyData)} {cooks : PyData} (k : Keep H H' ok ok') (ha : ∀ o, H a = some o → H' a = some o) (d : BrdAt p H ok a u rooms cooks) : BrdAt p H' ok' a u rooms cooks := by
  obtain ⟨dx, r, vc, e, h1, h2, h3⟩ := d
  obtain ⟨o, e2, _⟩ := h2.there
  exact ⟨dx, r, vc, ha _ e, (k.l _ _ h1 e2).1, h2.keep k fun o z => (k.l _ _ h1 z).2 (h2.ntO z), h3.keep k⟩
theorem BrdAt.there {p : Par} {H : Hp} {ok : Addr → Prop} {a u : Addr} {rooms : List (PyData × PyData)} {cooks : PyData} (d : BrdAt p H ok a u rooms cooks) : ∃ o, H a = some o := by
  obtain ⟨dx, r, vc, e, _⟩ := d
  exact ⟨_, e⟩
theorem BrdAt.ntO {p : Par} {H : Hp} {ok : Addr → Prop} {a u : Addr} {rooms : List (PyData × PyData)} {cooks : PyData} (d : BrdAt p H ok a u rooms cooks) {o : HO} (z : H a = some o) : nt o := by
  obtain ⟨dx, r, vc, e, _⟩ := d
  rw [e] at z; cases z; trivial
def RepA (p : Par) (H : Hp) (ok : Addr → Prop) (ad : List (Option Addr)) (v : V) : AV → Prop
  | .dat x => Rep p.K H ok v x
  | .dct tp kvs => ∃ a, v = .ref a ∧ ok a ∧ DctR p H ok a tp kvs
  | .cel i => ∃ a : Addr, v = .ref a ∧ ad[i]? = some (some a)
  | .scr ns => ns.length ≤ sizeLine ∧ ∃ a, v = .ref a ∧ ((∃ o, H a = some (.frz o (.lst (ns.map V.int)))) ∨ KL p.K a (ns.map V.int))
  | .brd rooms cooks i => ∃ a u : Addr, v = .ref a ∧ ok a ∧ BrdAt p H ok a u rooms cooks ∧ ad[i]? = some (some u)
  | .fn n o => v = .ref (o.getD (He.ga p.K n))
  | .pin φ => ∃ a, v = .ref a ∧ ok a ∧ H a = some (.ext φ)
/-- a list of lists of one's own -/
def RowsAt (H : Hp) (rf : Nat → Option Addr) (a : Addr) (ks : List Nat) : Prop := ∃ xs, H a = some (.lst xs) ∧ ks.length ≤ sizeLine ∧ Paired (fun (v : V) (k : Nat) => ∃ b, v = .ref b ∧ rf k = some b) xs ks
/-- what a field may hold -/
def ObjV (p : Par) (H : Hp) (ok : Addr → Prop) (v : V) : AV → Prop
  | .dat x => Rep p.K H ok v x
  | .dct tp kvs => ∃ b, v = .ref b ∧ ok b ∧ DctR p H ok b tp kvs
  | _ => False
def ObjAt (p : Par) (H : Hp) (ok : Addr → Prop) (a : Addr) (cl : Str) (fs : List (Str × AV)) : Prop := ∃ (d : Addr) (vs : List (Str × V)), H a = some (.ins (He.ga p.K cl) d vs) ∧ Paired (fun (x : Str × V) (q : Str × AV) => x.1 = q.1 ∧ ObjV p H ok x.2 q.2) vs fs
theorem RowsAt.keep {H H' : Hp} {rf rf' : Nat → Option Addr} {a : Addr} {ks : List Nat} (h : RowsAt H rf a ks) (ha : ∀ o, H a = some o → H' a = some o) (hr : ∀ k b, rf k = some b → rf' k = some b) : RowsAt H' rf' a ks := by
  obtain ⟨xs, h1, h2, h3⟩ := h
  exact ⟨xs, ha _ h1, h2, Paired.mapP h3 fun _ _ ⟨b, e1, e2⟩ => ⟨b, e1, hr _ _ e2⟩⟩
theorem ObjV.keep {p : Par} {H H' : Hp} {ok ok' : Addr → Prop} (k : Keep H H' ok ok') {v : V} : ∀ {av : AV}, ObjV p H ok v av → ObjV p H' ok' v av
  | .dat _, r => Rep.keep k r
  | .dct _ _, ⟨b, e, h, d⟩ => by
    obtain ⟨o, q, _⟩ := d.there
    exact ⟨b, e, (k.l b o h q).1, d.keep k fun o q => (k.l b o h q).2 (d.ntO q)⟩
theorem ObjAt.keep {p : Par} {H H' : Hp} {ok ok' : Addr → Prop} {a : Addr} {cl : Str} {fs : List (Str × AV)} (k : Keep H H' ok ok') (h : ObjAt p H ok a cl fs) (ha : ∀ o, H a = some o → H' a = some o) : ObjAt p H' ok' a cl fs := by
  obtain ⟨d, vs, h1, h2⟩ := h
  exact ⟨d, vs, ha _ h1, Paired.mapP h2 fun _ _ ⟨e1, e2⟩ => ⟨e1, e2.keep k⟩⟩
def CellAt (p : Par) (H : Hp) (ok : Addr → Prop) (rf : Nat → Option Addr) (a : Addr) : Cell → Prop
  | .lst ds => ∃ xs, H a = some (.lst xs) ∧ ds.length ≤ sizeLine ∧ RepL p.K H ok xs ds
  | .dct tp kvs => DctAt p H ok a tp kvs
  | .gone => False
  | .rows ks => RowsAt H rf a ks
  | .obj cl fs => ObjAt p H ok a cl fs
theorem CellAt.keep {p : Par} {H H' : Hp} {ok ok' : Addr → Prop} {rf : Nat → Option Addr} {a : Addr} (k : Keep H H' ok ok') (ha : ∀ o, H a = some o → H' a = some o) : ∀ {cl : Cell}, CellAt p H ok rf a cl → CellAt p H' ok' rf a cl
  | .lst _, ⟨xs, h1, h2, h3⟩ => ⟨xs, ha _ h1, h2, h3.keep k⟩
  | .dct _ _, h => DctAt.keep k ha h
  | .rows _, h => RowsAt.keep h ha fun _ _ e => e
  | .obj _ _, h => ObjAt.keep k h ha
theorem CellAt.mono {p : Par} {H : Hp} {ok ok' : Addr → Prop} {rf : Nat → Option Addr} (h : ∀ a, ok a → ok' a) {a : Addr} {cl : Cell} (r : CellAt p H ok rf a cl) : CellAt p H ok' rf a cl := CellAt.keep ⟨fun a o ha e => ⟨h a ha, fun _ => e⟩, tk_same⟩ (fun _ e => e) r
theorem CellAt.rfm {p : Par} {H : Hp} {ok : Addr → Prop} {rf rf' : Nat → Option Addr} {a : Addr} (hr : ∀ k b, rf k = some b → rf' k = some b) : ∀ {cl : Cell}, CellAt p H ok rf a cl → CellAt p H ok rf' a cl
  | .lst _, h => h
  | .dct _ _, h => h
  | .rows _, h => RowsAt.keep h (fun _ e => e) hr
  | .obj _ _, h => h
theorem CellAt.there {p : Par} {H : Hp} {ok : Addr → Prop} {rf : Nat → Option Addr} {a : Addr} : ∀ {cl : Cell}, CellAt p H ok rf a cl → ∃ o, H a = some o ∧ nt o ∧ (∀ xs, ¬ Rd H a (.tup xs)) ∧ ∀ u ns, o ≠ .frz u (.lst ns)
  | .lst _, ⟨xs, e, _⟩ => ⟨_, e, trivial, fun ys r => by rcases r with r | ⟨_, r⟩ <;> (rw [e] at r; cases r), fun u ns z => by cases z⟩
  | .dct _ _, h => by
    obtain ⟨o, e, z⟩ := DctAt.there h
    refine ⟨o, e, DctAt.ntO h e, z, fun u ns y => ?_⟩
    rename_i tp kvs
    cases tp with
    | false =>
      obtain ⟨ks, e3, _⟩ := h
      rw [e] at e3; cases e3; cases y
    | true =>
      obtain ⟨es, ep, xs, e3, _⟩ := h
      rw [e] at e3
      rw [Option.some.inj e3] at y
      cases y
  | .rows _, ⟨xs, e, _⟩ => ⟨_, e, trivial, fun ys r => by rcases r with r | ⟨_, r⟩ <;> (rw [e] at r; cases r), fun u ns z => by cases z⟩
  | .obj _ _, ⟨d, vs, e, _⟩ => ⟨_, e, trivial, fun ys r => by rcases r with r | ⟨_, r⟩ <;> (rw [e] at r; cases r), fun u ns z => by cases z⟩
@[simp] def isRow : Cell → Bool
  | .rows _ => true
  | _ => false
theorem CellAt.nrow {p : Par} {H : Hp} {ok : Addr → Prop} {rf rf' : Nat → Option Addr} {a : Addr} : ∀ {cl : Cell}, isRow cl = false → CellAt p H ok rf a cl → CellAt p H ok rf' a cl
  | .lst _, _, h => h
  | .dct _ _, _, h => h
  | .obj _ _, _, h => h
  | .rows _, z, _ => by cases z
theorem any_row {cs : List Cell} (h : ¬ cs.any isRow = true) {cl : Cell} (hm : cl ∈ cs) : isRow cl = false := by
  cases q : isRow cl with
  | false => rfl
  | true => exact absurd (List.any_eq_true.mpr ⟨cl, hm, q⟩) h
theorem drop_mem {cs : List Cell} {i j : Nat} (h : i < j) {cl : Cell} (e : cs[j]? = some cl) : cl ∈ cs.drop (i + 1) := by
  refine List.mem_of_getElem? (i := j - (i + 1)) ?_
  rw [List.getElem?_drop, show i + 1 + (j - (i + 1)) = j by omega]
  exact e
/-- the cells that the cell at i may hold: own ones, ahead of it -/
def rfA (n : Nat) (ad : List (Option Addr)) (i : Nat) (k : Nat) : Option Addr := if n ≤ k ∧ k < i then (ad[k]?).join else none
theorem rfA_pre {n i : Nat} {ad ad' : List (Option Addr)} (h : ∀ (k : Nat) (a : Addr), k < i → ad[k]? = some (some a) → ad'[k]? = some (some a)) : ∀ k b, rfA n ad i k = some b → rfA n ad' i k = some b := fun k b e => by
  unfold rfA at e ⊢
  split at e
  · rename_i c
    rw [if_pos c]
    cases q : ad[k]? with
    | none => rw [q] at e; cases e
    | some x =>
      rw [q] at e
      have e' : x = some b := e
      rw [h k b c.2 (by rw [q, e'])]
      rfl
  · cases e
theorem rfA_low {n i : Nat} {ad : List (Option Addr)} (h : i ≤ n) (k : Nat) (b : Addr) (e : rfA n ad i k = some b) : False := by
  unfold rfA at e
  split at e
  · omega
  · cases e
def isDat : AV → Bool
  | .dat _ => true
  | .dct _ _ => true
  | .pin _ => true
  | _ => false
def okP (c : Ent) (ad : List (Option Addr)) (a : Addr) : Prop := ((c.He a = none ∨ c.S a) ∧ a ∉ c.prot) ∧ some a ∉ ad
/-- the defs that make lambdas, the lambdas' names -/
def lamNames : List (Str × Str) := List.map (fun n : Str => (n, n ++ ".<locals>." ++ "<lambda>")) ["latest", "uses_by_tools", "borne", "_law_planned", "law", "_law_due", "_law_subsets", "_law_pair", "_law_cook", "_law_told"]
def lamT (K : PySem.W.Frag) : List (Addr × Str) := lamNames.filterMap fun q => match K.lookup (He.fAd K (q.1, none)) with
  | some ⟨_, _, .func fd, _⟩ => (match fd.code with
    | .ref c => some (He.tabOf K c, q.2)
    | _ => none)
  | _ => none
/-- the tables stand; their code objects are no cells; they are new, or stood in the table at first (H0) -/
def TabF (K : PySem.W.Frag) (H0 H : Hp) (ad : List (Option Addr)) : Prop := ∀ q ∈ lamT K, ∃ ps : Array Value, H q.1 = some (.tbl ps) ∧ TriplesOk ps.toList ∧ ∀ (pos : Pos) (cv : Value), codeAmong pos ps.toList = some cv → ∃ c, cv = .ref c ∧ H c = some (LamX.CodeO c q.2) ∧ some c ∉ ad ∧
  (H0 c = none ∨ ∃ (ps0 : Array Value) (pos0 : Pos), H0 q.1 = some (.tbl ps0) ∧ codeAmong pos0 ps0.toList = some (.ref c))
theorem TabF.grow {K : PySem.W.Frag} {H0 H H' : Hp} {ad : List (Option Addr)} (t : TabF K H0 H ad) (g : Grow H H') : TabF K H0 H' ad := fun q hq => by
  obtain ⟨ps, h1, h2, h3⟩ := t q hq
  refine ⟨ps, g _ _ h1, h2, fun pos cv hc => ?_⟩
  obtain ⟨c, e, h4, h5, h6⟩ := h3 pos cv hc
  exact ⟨c, e, g _ _ h4, h5, h6⟩
theorem TabF.sub {K : PySem.W.Frag} {H0 H : Hp} {ad ad' : List (Option Addr)} (t : TabF K H0 H ad) (h : ∀ a, some a ∈ ad' → some a ∈ ad) : TabF K H0 H ad' := fun q hq => by
  obtain ⟨ps, h1, h2, h3⟩ := t q hq
  refine ⟨ps, h1, h2, fun pos cv hc => ?_⟩
  obtain ⟨c, e, h4, h5, h6⟩ := h3 pos cv hc
  exact ⟨c, e, h4, fun z => h5 (h c z), h6⟩
/-- a new place among the cells -/
theorem TabF.add {K : PySem.W.Frag} {H0 H : Hp} {ad : List (Option Addr)} {a : Addr} (t : TabF K H0 H ad) (n : ∀ c q, H c = some (LamX.CodeO c q) → c ≠ a) : TabF K H0 H (ad ++ [some a]) := fun q hq => by
  obtain ⟨ps, h1, h2, h3⟩ := t q hq
  refine ⟨ps, h1, h2, fun pos cv hc => ?_⟩
  obtain ⟨c, e, h4, h5, h6⟩ := h3 pos cv hc
  refine ⟨c, e, h4, fun z => ?_, h6⟩
  rcases List.mem_append.mp z with z | z
  · exact h5 z
  · exact n c _ h4 (by simpa using z)
theorem TabF.addL {K : PySem.W.Frag} {H0 H : Hp} {ad pr : List (Option Addr)} {a : Addr} (t : TabF K H0 H (ad ++ pr)) (n : ∀ c q, H c = some (LamX.CodeO c q) → c ≠ a) : TabF K H0 H ((ad ++ [some a]) ++ pr) := (t.add n).sub fun b z => by
  simp only [List.mem_append] at z ⊢
  rcases z with (z | z) | z
  · exact .inl (.inl z)
  · exact .inr z
  · exact .inl (.inr z)
/-- protected ones among the cells -/
theorem TabF.hold {K : PySem.W.Frag} {H0 H : Hp} {ad : List (Option Addr)} {pr : List Addr} {a : Addr} (t : TabF K H0 H (ad ++ pr.map some)) (n : ∀ c q, H c = some (LamX.CodeO c q) → c ≠ a) : TabF K H0 H (ad ++ (a :: pr).map some) := (t.add n).sub fun b z => by
  simp only [List.mem_append, List.map_cons, List.mem_cons] at z ⊢
  rcases z with z | z | z
  · exact .inl (.inl z)
  · exact .inr (.inl z)
  · exact .inl (.inr z)
theorem TabF.adopt {K : PySem.W.Frag} {H0 H : Hp} {ad : List (Option Addr)} {pr : List Addr} {a : Addr} (t : TabF K H0 H (ad ++ (a :: pr).map some)) : TabF K H0 H ((ad ++ [some a]) ++ pr.map some) := t.sub fun b z => by
  simp only [List.mem_append, List.map_cons, List.mem_cons] at z ⊢
  rcases z with (z | z) | z
  · exact .inl z
  · exact .inr (.inl (by simpa using z))
  · exact .inr (.inr z)
/-- a list, a dict is no code object -/
theorem ne_code {H : Hp} {a : Addr} {o : HO} (e : H a = some o) (h : ∀ φ, o ≠ .ext φ) : ∀ c q, H c = some (LamX.CodeO c q) → c ≠ a := fun c q z w => by
  rw [w, e] at z
  exact h _ (Option.some.inj z)
/-- a store at a place that is no code object, no table -/
theorem TabF.putN {K : PySem.W.Frag} {H0 H : Hp} {ad : List (Option Addr)} {a : Addr} {o o' : HO} (t : TabF K H0 H ad) (m : ∀ c q, H c = some (LamX.CodeO c q) → some c ∉ ad → c ≠ a) (e : H a = some o) (n : nt o) : TabF K H0 (upd H a o') ad := fun q hq => by
  obtain ⟨ps, h1, h2, h3⟩ := t q hq
  refine ⟨ps, ?_, h2, fun pos cv hc => ?_⟩
  · rw [upd_ne]
    · exact h1
    · intro z
      rw [z, e] at h1
      rw [Option.some.inj h1] at n
      exact n
  · obtain ⟨c, e, h4, h5, h6⟩ := h3 pos cv hc
    exact ⟨c, e, by rw [upd_ne (m c _ h4 h5)]; exact h4, h5, h6⟩
/-- a store at a cell -/
theorem TabF.put {K : PySem.W.Frag} {H0 H : Hp} {ad : List (Option Addr)} {a : Addr} {o o' : HO} (t : TabF K H0 H ad) (m : some a ∈ ad) (e : H a = some o) (n : nt o) : TabF K H0 (upd H a o') ad :=
  t.putN (fun c _ _ h z => h (by rw [z]; exact m)) e n
/-- behind what began at H -/
theorem TabF.trans {K : PySem.W.Frag} {H0 H H' : Hp} {ad : List (Option Addr)} (t : TabF K H0 H ad) (t2 : TabF K H H' []) (ha : ∀ a, some a ∈ ad → H a ≠ none) (hb : ∀ b, H0 b ≠ none → H b ≠ none) : TabF K H0 H' ad := fun q hq => by
  obtain ⟨ps, h1, h2, h3⟩ := t q hq
  obtain ⟨ps', g1, g2, g3⟩ := t2 q hq
  refine ⟨ps', g1, g2, fun pos cv hc => ?_⟩
  obtain ⟨c, e, h4, -, h6⟩ := g3 pos cv hc
  refine ⟨c, e, h4, ?_⟩
  rcases h6 with h6 | ⟨ps0, pos0, k1, k2⟩
  · refine ⟨fun z => ha c z h6, .inl ?_⟩
    cases z : H0 c with
    | none => rfl
    | some o => exact absurd h6 (hb c (by rw [z]; simp))
  · rw [h1] at k1
    cases k1
    obtain ⟨c0, e0, _, k5, k6⟩ := h3 pos0 _ k2
    cases e0
    exact ⟨k5, k6⟩
/-- at first -/
theorem TabF.self {K : PySem.W.Frag} {H0 H : Hp} {ad : List (Option Addr)} (t : TabF K H0 H ad) : TabF K H H ad := fun q hq => by
  obtain ⟨ps, h1, h2, h3⟩ := t q hq
  refine ⟨ps, h1, h2, fun pos cv hc => ?_⟩
  obtain ⟨c, e, h4, h5, _⟩ := h3 pos cv hc
  subst e
  exact ⟨c, rfl, h4, h5, .inr ⟨ps, pos, h1, hc⟩⟩
structure FR (p : Par) (c : Ent) (fr : Fr) (ad : List (Option Addr)) (σ : L2.St) (H : Hp) : Prop where
  len : fr.vars.length = σ.length
  var : ∀ (i : Nat) (av : AV), fr.vars[i]? = some (some av) → ∃ v, σ[i]? = some (some v) ∧ RepA p H (okP c ad) ad v av
  clen : fr.cells.length = ad.length
  cel : ∀ (i : Nat) (a : Addr), ad[i]? = some (some a) → ∃ cl, fr.cells[i]? = some cl ∧ CellAt p H (okP c ad) (rfA c.lo ad i) a cl
  nd : ∀ (i j : Nat) (a : Addr), ad[i]? = some (some a) → ad[j]? = some (some a) → i = j
  old : ∀ b o, c.He b = some o → b ∉ c.W0 → ∃ o', H b = some o' ∧ (nt o → o' = o)
  sub : ∀ (i : Nat) (a : Addr), c.W0[i]? = some a → ad[i]? = some (some a)
  adw : ∀ a, some a ∈ ad → a ∈ c.W0 ∨ c.He a = none
  gh : ∀ q ∈ c.gh, isDat q.2 = true ∧ RepA p H (okP c ad) ad q.1 q.2
  pr : ∀ a ∈ c.prot, some a ∉ ad ∧ ∃ vs, H a = some vs
  bs : fr.base = c.W0.length
  tabs : TabF p.K c.He H (ad ++ c.prot.map some)
/-- an expression has gone: what is not a cell stands, cells stand by their places, new ones are new -/
structure Mv (H : Hp) (ad : List (Option Addr)) (H' : Hp) (ad' : List (Option Addr)) : Prop where
  keep : ∀ b o, H b = some o → some b ∉ ad → nt o → H' b = some o
  pre : ∀ (i : Nat) (x : Option Addr), ad[i]? = some x → ad'[i]? = some x
  new : ∀ a, some a ∈ ad' → some a ∈ ad ∨ H a = none
  there : ∀ b, H b ≠ none → H' b ≠ none
section
variable {p : Par} {c : Ent} {fr fr' : Fr} {ad ad' ad2 : List (Option Addr)} {σ : L2.St} {H H' H2 : Hp}
theorem Mv.refl : Mv H ad H ad := ⟨fun _ _ e _ _ => e, fun _ _ e => e, fun _ h => .inl h, fun _ h => h⟩
theorem Mv.grow (g : Grow H H') : Mv H ad H' ad := ⟨fun b o e _ _ => g b o e, fun _ _ e => e, fun _ h => .inl h, fun b h => by
  cases q : H b with
  | none => exact absurd q h
  | some o => rw [g b o q]; simp⟩
theorem mem_at {α : Type} {l : List α} {x : α} (h : x ∈ l) : ∃ i : Nat, l[i]? = some x := by
  obtain ⟨i, hi, e⟩ := List.getElem_of_mem h
  exact ⟨i, by rw [List.getElem?_eq_getElem hi, e]⟩
theorem Mv.sub (m : Mv H ad H' ad') {a : Addr} (h : some a ∈ ad) : some a ∈ ad' := by
  obtain ⟨i, e⟩ := mem_at h
  exact List.mem_of_getElem? (m.pre i _ e)
theorem FR.track (F : FR p c fr ad σ H) {a : Addr} (h : some a ∈ ad) : ∃ o, H a = some o ∧ ∀ xs, ¬ Rd H a (.tup xs) := by
  obtain ⟨i, e⟩ := mem_at h
  obtain ⟨cl, _, q⟩ := F.cel i a e
  obtain ⟨o, h1, _, h3, _⟩ := q.there
  exact ⟨o, h1, h3⟩
theorem FR.trackN (F : FR p c fr ad σ H) {a : Addr} (h : some a ∈ ad) {o : HO} (z : H a = some o) : nt o := by
  obtain ⟨i, e⟩ := mem_at h
  obtain ⟨cl, _, q⟩ := F.cel i a e
  obtain ⟨o', h1, h2, _⟩ := q.there
  rw [h1] at z; cases z; exact h2
/-- what stood at first stands, somehow -/
theorem FR.thr (F : FR p c fr ad σ H) : ∀ b, c.He b ≠ none → H b ≠ none := fun b h => by
  cases q : c.He b with
  | none => exact absurd q h
  | some o =>
    by_cases hw : b ∈ c.W0
    · obtain ⟨i, e⟩ := mem_at hw
      obtain ⟨o', e', _⟩ := F.track (List.mem_of_getElem? (F.sub i b e))
      rw [e']; simp
    · obtain ⟨o', e', _⟩ := F.old b o q hw
      rw [e']; simp
theorem FR.adH (F : FR p c fr ad σ H) : ∀ a, some a ∈ ad ++ c.prot.map some → H a ≠ none := fun a h => by
  rcases List.mem_append.mp h with h | h
  · obtain ⟨o, e, _⟩ := F.track h
    rw [e]; simp
  · obtain ⟨b, hb, e⟩ := List.mem_map.mp h
    cases e
    obtain ⟨_, o, e⟩ := F.pr a hb
    rw [e]; simp
theorem adp_sub {c : Ent} {ad ad' : List (Option Addr)} (h : ∀ a, some a ∈ ad' → some a ∈ ad) : ∀ a, some a ∈ ad' ++ c.prot.map some → some a ∈ ad ++ c.prot.map some := fun a z => by
  rcases List.mem_append.mp z with z | z
  · exact List.mem_append_left _ (h a z)
  · exact List.mem_append_right _ z
theorem adp_l {c : Ent} {ad : List (Option Addr)} : ∀ a, some a ∈ ad → some a ∈ ad ++ c.prot.map some := fun a z => List.mem_append_left _ z
theorem Mv.trans (F : FR p c fr ad σ H) (m : Mv H ad H' ad') (m2 : Mv H' ad' H2 ad2) : Mv H ad H2 ad2 where
  keep := fun b o e n t => m2.keep b o (m.keep b o e n t) (fun h => by
    rcases m.new b h with q | q
    · exact n q
    · rw [e] at q; cases q) t
  pre := fun i x e => m2.pre i x (m.pre i x e)
  new := fun a h => by
    rcases m2.new a h with q | q
    · exact m.new a q
    · refine .inr ?_
      cases z : H a with
      | none => rfl
      | some o => exact absurd q (m.there a (by rw [z]; simp))
  there := fun b h => m2.there b (m.there b h)
theorem okP_new (F : FR p c fr ad σ H) {a : Addr} (n : H a = none) : okP c ad a := by
  refine ⟨⟨.inl ?_, fun h => by obtain ⟨_, vs, e⟩ := F.pr a h; rw [n] at e; cases e⟩, fun h => ?_⟩
  · cases q : c.He a with
    | none => rfl
    | some o =>
      by_cases hw : a ∈ c.W0
      · obtain ⟨i, e⟩ := mem_at hw
        obtain ⟨o', e', _⟩ := F.track (List.mem_of_getElem? (F.sub i a e))
        rw [n] at e'; cases e'
      · obtain ⟨o', this, _⟩ := F.old a o q hw
        rw [n] at this; cases this
  · obtain ⟨o', e', _⟩ := F.track h
    rw [n] at e'; cases e'
/-- what data lean on is kept over a move -/
theorem Mv.kp (F : FR p c fr ad σ H) (m : Mv H ad H' ad') : Keep H H' (okP c ad) (okP c ad') where
  l := fun a o h e => ⟨⟨h.1, fun q => by
    rcases m.new a q with z | z
    · exact h.2 z
    · rw [e] at z; cases z⟩, m.keep a o e h.2⟩
  t := fun a xs => by
    have n : Rd H a (.tup xs) → some a ∉ ad := fun r h => by
      obtain ⟨o, e, z⟩ := F.track h
      exact z xs r
    refine ⟨fun r => ?_, fun o r => m.keep a _ r (n (.inr ⟨o, r⟩)) trivial⟩
    have n := n r
    rcases r with r | ⟨o, r⟩
    · exact .inl (m.keep a _ r n trivial)
    · exact .inr ⟨o, m.keep a _ r n trivial⟩
theorem RepA.mv (F : FR p c fr ad σ H) (m : Mv H ad H' ad') {v : V} : ∀ {av : AV}, RepA p H (okP c ad) ad v av → RepA p H' (okP c ad') ad' v av
  | .dat x, r => Rep.keep (m.kp F) r
  | .dct tp kvs, ⟨a, e, h, d⟩ => ⟨a, e, by
      obtain ⟨o, q, _⟩ := d.there
      exact ((m.kp F).l a o h q).1, d.keep (m.kp F) fun o q => m.keep a o q h.2 (d.ntO q)⟩
  | .cel i, ⟨a, e, q⟩ => ⟨a, e, m.pre i _ q⟩
  | .scr ns, ⟨hl, a, e, q⟩ => ⟨hl, a, e, by
      rcases q with ⟨o, q⟩ | q
      · refine .inl ⟨o, m.keep a _ q (fun h => ?_) trivial⟩
        obtain ⟨i, e2⟩ := mem_at h
        obtain ⟨cl, _, z⟩ := F.cel i a e2
        obtain ⟨o', h1, _, _, h4⟩ := z.there
        rw [q] at h1
        exact h4 o (ns.map V.int) (Option.some.inj h1).symm
      · exact .inr q⟩
  | .brd rooms cooks i, ⟨a, u, e, h, d, q⟩ => ⟨a, u, e, by
      obtain ⟨o, q2⟩ := d.there
      exact ((m.kp F).l a o h q2).1, d.keep (m.kp F) fun o q => m.keep a o q h.2 (d.ntO q), m.pre i _ q⟩
  | .fn n o, e => e
  | .pin φ, ⟨a, e, h, d⟩ => ⟨a, e, ((m.kp F).l a _ h d).1, m.keep a _ d h.2 trivial⟩
theorem Mv.prs (F : FR p c fr ad σ H) (m : Mv H ad H' ad') : ∀ a ∈ c.prot, some a ∉ ad' ∧ ∃ vs, H' a = some vs := fun a ha => by
  obtain ⟨n, vs, e⟩ := F.pr a ha
  refine ⟨fun h => ?_, Option.ne_none_iff_exists'.mp (m.there a (by rw [e]; simp))⟩
  rcases m.new a h with z | z
  · exact n z
  · rw [e] at z; cases z
/-- only grown: the frame stands -/
theorem FR.grow (F : FR p c fr ad σ H) (g : Grow H H') : FR p c fr ad σ H' where
  len := F.len
  var := fun i av e => by
    obtain ⟨v, h1, h2⟩ := F.var i av e
    exact ⟨v, h1, RepA.mv F (Mv.grow g) h2⟩
  clen := F.clen
  cel := fun i a e => by
    obtain ⟨cl, h1, h2⟩ := F.cel i a e
    exact ⟨cl, h1, CellAt.keep (Mv.kp F (Mv.grow g)) (fun o q => g _ _ q) h2⟩
  nd := F.nd
  old := fun b o e n => let ⟨o', h1, h2⟩ := F.old b o e n; ⟨o', g _ _ h1, h2⟩
  sub := F.sub
  adw := F.adw
  gh := fun q hq => ⟨(F.gh q hq).1, RepA.mv F (Mv.grow g) (F.gh q hq).2⟩
  pr := fun a ha => ⟨(F.pr a ha).1, by obtain ⟨vs, e⟩ := (F.pr a ha).2; exact ⟨vs, g _ _ e⟩⟩
  bs := F.bs
  tabs := F.tabs.grow g
end
/-- an exception of the class c (its address cA) with the fields fs; set by the layer above -/
structure XW where
  /-- the wish -/
  W : WX
  /-- where the classes stand, how the fields lie -/
  C : Str → List (Str × PyData) → Hp → Value → Option Addr → Prop
def Out {α : Type} (p : Par) (x : XW) (c : Ent) (ad : List (Option Addr)) (σ : L2.St) (H : Hp) (r : Res α) (k : α → Fr → List (Option Addr) → Hp → Prop) : Prop :=
  match r with
  | .ok a fr' => ∀ ad' H', FR p c fr' ad' σ H' → Mv H ad H' ad' → k a fr' ad' H'
  | .exc cl fs fr' => ∀ ad' H' C d, FR p c fr' ad' σ H' → Mv H ad H' ad' → x.C cl fs H' C d → x.W C d σ H'
  | .err => False
@[simp] def Res.bind {α β : Type} (r : Res α) (g : α → Fr → Res β) : Res β := match r with
  | .ok a f => g a f
  | .exc c fs f => .exc c fs f
  | .err => .err
section
variable {α β : Type} {p : Par} {x : XW} {c : Ent} {ad : List (Option Addr)} {σ : L2.St} {H : Hp} {r : Res α} {g : α → Fr → Res β} {k : β → Fr → List (Option Addr) → Hp → Prop} {k1 k2 : α → Fr → List (Option Addr) → Hp → Prop}
theorem Out.mono (o : Out p x c ad σ H r k1) (h : ∀ a fr' ad' H', FR p c fr' ad' σ H' → Mv H ad H' ad' → k1 a fr' ad' H' → k2 a fr' ad' H') : Out p x c ad σ H r k2 := by
  cases r with
  | ok a fr' => exact fun ad' H' F m => h _ _ _ _ F m (o ad' H' F m)
  | exc cl fs fr' => exact o
  | err => exact o
theorem Out.bind {fr : Fr} (F : FR p c fr ad σ H) (o : Out p x c ad σ H (r.bind g) k) : Out p x c ad σ H r fun a fr' ad' H' => Out p x c ad' σ H' (g a fr') k := by
  cases r with
  | ok a fr' =>
    intro ad' H' F' m
    have o' : Out p x c ad σ H (g a fr') k := o
    cases q : g a fr' with
    | ok b fr2 => rw [q] at o'; exact fun ad2 H2 F2 m2 => o' ad2 H2 F2 (m.trans F m2)
    | exc cl fs fr2 => rw [q] at o'; exact fun ad2 H2 C d F2 m2 h => o' ad2 H2 C d F2 (m.trans F m2) h
    | err => rw [q] at o'; exact o'
  | exc cl fs fr' => exact o
  | err => exact o
end
/-- an expression's reading: the frame's function f -/
def tE (p : Par) (x : XW) (f : Fr → Res AV) : TE := fun σ H Q => ∃ c fr ad, FR p c fr ad σ H ∧ Out p x c ad σ H (f fr) fun a _ ad' H' => ∀ v, RepA p H' (okP c ad') ad' v a → Q v H'
/-- a list of arguments -/
def RepAs (p : Par) (H : Hp) (ok : Addr → Prop) (ad : List (Option Addr)) : List V → List AV → Prop := Paired fun v a => RepA p H ok ad v a
def tA (p : Par) (x : XW) (f : Fr → Res (List AV)) : TA := fun σ H Q => ∃ c fr ad, FR p c fr ad σ H ∧ Out p x c ad σ H (f fr) fun a _ ad' H' => ∀ v, RepAs p H' (okP c ad') ad' v a → Q v H'
/-- a test -/
def tT (p : Par) (x : XW) (f : Fr → Res Bool) : TT := fun σ H Q => ∃ c fr ad, FR p c fr ad σ H ∧ Out p x c ad σ H (f fr) fun a _ _ H' => Q a H'
abbrev pX (X : Cx) : Par := ⟨X.prog, X.w, X.K⟩
abbrev AE (X : Cx) (x : XW) (e : Expr) (f : Fr → Res AV) : Prop := PE X e (tE (pX X) x f)
abbrev AA (X : Cx) (x : XW) (es : List Expr) (f : Fr → Res (List AV)) : Prop := PA X es (tA (pX X) x f)
abbrev AT (X : Cx) (x : XW) (e : Expr) (f : Fr → Res Bool) : Prop := PT X e (tT (pX X) x f)
abbrev AW (X : Cx) (x : XW) (e : Expr) (f : Fr → Res Bool) : Prop := PW X e (tT (pX X) x f)
theorem _root_.L2.PE.imp {X : Cx} {e : Expr} {t t' : TE} (h : PE X e t) (hi : ∀ σ H Q, t' σ H Q → t σ H Q) : PE X e t' := ⟨fun pins s σ H Q I q => h.run pins s σ H Q I (hi σ H Q q)⟩
theorem _root_.L2.PA.imp {X : Cx} {e : List Expr} {t t' : TA} (h : PA X e t) (hi : ∀ σ H Q, t' σ H Q → t σ H Q) : PA X e t' := ⟨fun pos pins s σ H Q I q => h.run pos pins s σ H Q I (hi σ H Q q)⟩
theorem _root_.L2.PT.imp {X : Cx} {e : Expr} {t t' : TT} (h : PT X e t) (hi : ∀ σ H Q, t' σ H Q → t σ H Q) : PT X e t' := ⟨fun pins s σ H Q I q => h.run pins s σ H Q I (hi σ H Q q)⟩
theorem _root_.L2.PW.imp {X : Cx} {e : Expr} {t t' : TT} (h : PW X e t) (hi : ∀ σ H Q, t' σ H Q → t σ H Q) : PW X e t' := ⟨fun wh pins s σ H Q I q => h.run wh pins s σ H Q I (hi σ H Q q)⟩
theorem _root_.L2.PS.imp {X : Cx} {e : Stmt} {t t' : TS} (h : PS X e t) (hi : ∀ D σ H, t' D σ H → t D σ H) : PS X e t' := ⟨fun pins s σ H D I q => h.run pins s σ H D I (hi D σ H q)⟩
theorem _root_.L2.PSs.imp {X : Cx} {e : List Stmt} {t t' : TS} (h : PSs X e t) (hi : ∀ D σ H, t' D σ H → t D σ H) : PSs X e t' := ⟨fun pins s σ H D I q => h.run pins s σ H D I (hi D σ H q)⟩
end G
namespace G
open PySem PySem.Spec PyProof.Rows L2
@[simp] def Fr.view (fr : Fr) : AV → Option PyData
  | .dat x => some x
  | .scr ns => some (.list (ns.map PyData.int))
  | .cel i => match fr.cells[i]? with
    | some (.lst xs) => some (.list xs)
    | _ => none
  | .dct _ _ => none
  | .brd _ _ _ => none
  | .fn _ _ => none
  | .pin _ => none
section
variable {p : Par} {c : Ent} {fr fr' : Fr} {ad ad' : List (Option Addr)} {σ : L2.St} {H H' : Hp}
theorem view_rep (F : FR p c fr ad σ H) {v : V} {a : AV} {x : PyData} (r : RepA p H (okP c ad) ad v a) (e : fr.view a = some x) : RepB p.K H (okP c ad) v x := by
  cases a with
  | dat y => cases e; exact .inl r
  | dct tp kvs => cases e
  | brd _ _ _ => cases e
  | fn _ _ => cases e
  | pin _ => cases e
  | scr ns =>
    cases e
    obtain ⟨hl, a, rfl, q⟩ := r
    refine .inr ⟨a, ns.map V.int, _, rfl, rfl, ?_, by simpa using hl, RepL.ints ns⟩
    rcases q with ⟨o, q⟩ | q
    · exact .inl (.inr ⟨o, q⟩)
    · exact q.sql H
  | cel i =>
    obtain ⟨a, rfl, q⟩ := r
    obtain ⟨cl, h1, h2⟩ := F.cel i a q
    unfold Fr.view at e
    simp only [h1] at e
    cases cl with
    | lst xs =>
      cases e
      obtain ⟨vs, h3, hz, h4⟩ := h2
      exact .inr ⟨a, vs, _, rfl, rfl, SqL.of h3, hz, h4⟩
    | dct tp kvs => cases e
    | gone => cases e
    | rows ks => cases e
    | obj cl fs => cases e
end
@[simp] def xVar (i : Nat) : Fr → Res AV := fun fr => match fr.vars[i]? with
  | some (some a) => .ok a fr
  | _ => .err
@[simp] def xC (x : PyData) : Fr → Res AV := fun fr => .ok (.dat x) fr
/-- of what is read of a value -/
def rd (fr : Fr) (a : AV) (k : PyData → Fr → Res AV) : Res AV := match fr.view a with
  | some x => k x fr
  | none => .err
@[simp] def ofO (fr : Fr) (o : Option PyData) : Res AV := match o with
  | some r => .ok (.dat r) fr
  | none => .err
@[simp] def xOp2 (sem : PyData → PyData → Option PyData) (f g : Fr → Res AV) : Fr → Res AV := fun fr => (f fr).bind fun a fr1 => (g fr1).bind fun b fr2 => match fr2.view a, fr2.view b with
  | some x, some y => ofO fr2 (sem x y)
  | _, _ => .err
@[simp] def xOp1 (sem : PyData → Option PyData) (f : Fr → Res AV) : Fr → Res AV := fun fr => (f fr).bind fun a fr1 => match fr1.view a with
  | some x => ofO fr1 (sem x)
  | none => .err
@[simp] def xNil : Fr → Res (List AV) := fun fr => .ok [] fr
@[simp] def xCons (f : Fr → Res AV) (g : Fr → Res (List AV)) : Fr → Res (List AV) := fun fr => (f fr).bind fun a fr1 => (g fr1).bind fun as fr2 => .ok (a :: as) fr2
@[simp] def views (fr : Fr) : List AV → Option (List PyData)
  | [] => some []
  | a :: as => match fr.view a, views fr as with
    | some x, some xs => some (x :: xs)
    | _, _ => none
/-- data alone -/
@[simp] def dats : List AV → Option (List PyData)
  | [] => some []
  | .dat x :: as => match dats as with
    | some xs => some (x :: xs)
    | none => none
  | _ :: _ => none
@[simp] def xTup (g : Fr → Res (List AV)) : Fr → Res AV := fun fr => (g fr).bind fun as fr1 => match dats as with
  | some xs => .ok (.dat (.tuple xs)) fr1
  | none => .err
@[simp] def xLst (g : Fr → Res (List AV)) : Fr → Res AV := fun fr => (g fr).bind fun as fr1 => match dats as with
  | some xs => .ok (.dat (.list xs)) fr1
  | none => .err
/-- a test by a value -/
@[simp] def xB (f : Fr → Res AV) : Fr → Res Bool := fun fr => (f fr).bind fun a fr1 => match a with
  | .dat (.bool b) => .ok b fr1
  | _ => .err
@[simp] def xV (f : Fr → Res Bool) : Fr → Res AV := fun fr => (f fr).bind fun b fr1 => .ok (.dat (.bool b)) fr1
@[simp] def xAnd (f g : Fr → Res Bool) : Fr → Res Bool := fun fr => (f fr).bind fun b fr1 => if b = true then g fr1 else .ok false fr1
@[simp] def xOr (f g : Fr → Res Bool) : Fr → Res Bool := fun fr => (f fr).bind fun b fr1 => if b = true then .ok true fr1 else g fr1
@[simp] def xNot (f : Fr → Res Bool) : Fr → Res Bool := fun fr => (f fr).bind fun b fr1 => .ok (!b) fr1
@[simp] def xIf (t : Fr → Res Bool) (f g : Fr → Res AV) : Fr → Res AV := fun fr => (t fr).bind fun b fr1 => if b = true then f fr1 else g fr1
def rOp2 (K : PySem.W.Frag) (sem : PyData → PyData → Option PyData) : R2 := fun x y H Q => ∃ (ok : Addr → Prop) (dx dy r : PyData), (∀ p, H p = none → ok p) ∧ RepB K H ok x dx ∧ RepB K H ok y dy ∧ sem dx dy = some r ∧ ∀ v H', Grow H H' → Rep K H' ok v r → Q v H'
inductive RepBs (K : PySem.W.Frag) (H : Hp) (ok : Addr → Prop) : List V → List PyData → Prop
  | nil : RepBs K H ok [] []
  | cons {v : V} {vs : List V} {d : PyData} {ds : List PyData} : RepB K H ok v d → RepBs K H ok vs ds → RepBs K H ok (v :: vs) (d :: ds)
def rCall (K : PySem.W.Frag) (sem : List PyData → Option PyData) : List V → Hp → VK → Prop := fun xs H Q => ∃ (ok : Addr → Prop) (ds : List PyData) (r : PyData), (∀ p, H p = none → ok p) ∧ RepBs K H ok xs ds ∧ sem ds = some r ∧ ∀ v H', Grow H H' → Rep K H' ok v r → Q v H'
section
variable {X : Cx} {x : XW} {a b d : Expr} {f g h : Fr → Res AV} {pos : Pos}
theorem ae_var {i : Nat} {n : Str} (hN : X.N[i]? = some n) (hv : Vis X.env.scope n) (hd : (n == ("__debug__" : Str)) = false := by decide) (hcd : (n == ("__classdict__" : Str)) = false := by decide) : AE X x (.Name n pos) (xVar i) := by
  refine (pe_var hN hv hd hcd).imp fun σ H Q ⟨c, fr, ad, F, o⟩ => ?_
  unfold xVar at o
  cases q : fr.vars[i]? with
  | none => rw [q] at o; exact o.elim
  | some w =>
    rw [q] at o
    cases w with
    | none => exact o.elim
    | some av =>
      obtain ⟨v, h1, h2⟩ := F.var i av q
      exact ⟨v, h1, o ad H F Mv.refl v h2⟩
theorem ae_int {i : Int} {j : Nat} : AE X x (.Constant (.int i) j pos) (xC (.int i)) :=
  pe_int.imp fun σ H Q ⟨c, fr, ad, F, o⟩ => o ad H F Mv.refl _ (.int i)
theorem ae_bl {i : Bool} {j : Nat} : AE X x (.Constant (.bool i) j pos) (xC (.bool i)) :=
  pe_bl.imp fun σ H Q ⟨c, fr, ad, F, o⟩ => o ad H F Mv.refl _ (.bl i)
theorem ae_non {j : Nat} : AE X x (.Constant .none j pos) (xC .none) :=
  pe_non.imp fun σ H Q ⟨c, fr, ad, F, o⟩ => o ad H F Mv.refl _ .non
theorem ae_str {i : Str} {j : Nat} (h : PyData.strOk i = true := by decide +kernel) : AE X x (.Constant (.str i) j pos) (xC (.str i)) :=
  pe_str.imp fun σ H Q ⟨c, fr, ad, F, o⟩ => o ad H F Mv.refl _ (.str i h)
/-- a constant of the module -/
theorem ae_gint {n : Str} {i : Int} {t : Tok} (hg : Gl X n) (hm : X.mg n = some (.int i t)) (hd : (n == ("__debug__" : Str)) = false := by decide) : AE X x (.Name n pos) (xC (.int i)) :=
  (pe_glob (v := .int i) hg hm ⟨t, rfl⟩ hd).imp fun σ H Q ⟨c, fr, ad, F, o⟩ => o ad H F Mv.refl _ (.int i)
/-- two parts in a row, then an operator -/
theorem tE_op2 {sem : PyData → PyData → Option PyData} {σ : L2.St} {H : Hp} {Q : VK} (h : tE (pX X) x (xOp2 sem f g) σ H Q) : tOp (rOp2 X.K sem) (tE (pX X) x f) (tE (pX X) x g) σ H Q := by
  obtain ⟨c, fr, ad, F, o⟩ := h
  refine ⟨c, fr, ad, F, (Out.bind F o).mono fun av fr1 ad1 H1 F1 m1 o1 v rv => ?_⟩
  refine ⟨c, fr1, ad1, F1, (Out.bind F1 o1).mono fun bv fr2 ad2 H2 F2 m2 o2 u ru => ?_⟩
  have rv2 := RepA.mv F1 m2 rv
  cases q1 : fr2.view av with
  | none => rw [q1] at o2; exact o2.elim
  | some dx =>
    cases q2 : fr2.view bv with
    | none => rw [q1, q2] at o2; exact o2.elim
    | some dy =>
      rw [q1, q2] at o2
      simp only [ofO] at o2
      cases q3 : sem dx dy with
      | none => rw [q3] at o2; exact o2.elim
      | some r =>
        rw [q3] at o2
        exact ⟨okP c ad2, dx, dy, r, fun p hp => okP_new F2 hp, view_rep F2 rv2 q1, view_rep F2 ru q2, q3, fun w H3 gr rw => o2 ad2 H3 (F2.grow gr) (Mv.grow gr) w rw⟩
theorem ae_bin {op : Operator} {sem : PyData → PyData → Option PyData} (ho : OpR X (binaryOp op) (rOp2 X.K sem)) (ha : AE X x a f) (hb : AE X x b g) : AE X x (.BinOp a op b pos) (xOp2 sem f g) :=
  (pe_op ho ha hb).imp fun _ _ _ h => tE_op2 h
theorem ae_cmp {op : CmpOp} {sem : PyData → PyData → Option PyData} (ho : OpR X (compareOp op) (rOp2 X.K sem)) (ha : AE X x a f) (hb : AE X x b g) (hm : behindInMarks op b = false) : AE X x (.Compare a [op] [b] pos) (xOp2 sem f g) :=
  (pe_cmpR ho ha hb hm).imp fun _ _ _ h => tE_op2 h
theorem tT_tB {f : Fr → Res AV} {σ : L2.St} {H : Hp} {Q : Bool → Hp → Prop} (h : tT (pX X) x (xB f) σ H Q) : tB (tE (pX X) x f) σ H Q := by
  obtain ⟨c, fr, ad, F, o⟩ := h
  refine ⟨c, fr, ad, F, (Out.bind F o).mono fun av fr1 ad1 H1 F1 m1 o1 v rv => ?_⟩
  cases av with
  | dat y =>
    cases y with
    | bool k =>
      have e : v = .bl k := RepB.bool (.inl rv)
      subst e
      exact ⟨k, rfl, o1 ad1 H1 F1 Mv.refl⟩
    | _ => exact o1.elim
  | _ => exact o1.elim
theorem at_val (ha : AE X x a f) (he : ∀ whole, isTrue a X.env whole = (do let v ← whole; standAt a.pos; holding [v] (truthy v)) := by intro _; rfl) : AT X x a (xB f) :=
  (pt_val ha he).imp fun _ _ _ h => tT_tB h
theorem at_cmp {op : CmpOp} {sem : PyData → PyData → Option PyData} (ho : OpR X (compareOp op) (rOp2 X.K sem)) (ha : AE X x a f) (hb : AE X x b g) (hm : behindInMarks op b = false) : AT X x (.Compare a [op] [b] pos) (xB (xOp2 sem f g)) := by
  refine (pt_cmpR ho ha hb hm).imp fun σ H Q h => ?_
  have h1 := tT_tB h
  exact tE_op2 h1
theorem at_not {t : Fr → Res Bool} (ha : AT X x a t) : AT X x (.UnaryOp .Not a pos) (xNot t) :=
  (pt_not ha).imp fun σ H Q ⟨c, fr, ad, F, o⟩ => ⟨c, fr, ad, F, (Out.bind F o).mono fun b fr1 ad1 H1 F1 m1 o1 => o1 ad1 H1 F1 Mv.refl⟩
theorem aw_and1 {t : Fr → Res Bool} (ha : AT X x a t) : AW X x (.BoolOp .And [a] pos) t := pw_and1 ha
theorem aw_or1 {t : Fr → Res Bool} (ha : AT X x a t) : AW X x (.BoolOp .Or [a] pos) t := pw_or1 ha
theorem aw_and {t u : Fr → Res Bool} {rest : List Expr} (ha : AT X x a t) (hb : AW X x (.BoolOp .And (b :: rest) pos) u) : AW X x (.BoolOp .And (a :: b :: rest) pos) (xAnd t u) := by
  refine (pw_and ha hb).imp fun σ H Q ⟨c, fr, ad, F, o⟩ => ⟨c, fr, ad, F, (Out.bind F o).mono fun k fr1 ad1 H1 F1 m1 o1 => ?_⟩
  cases k with
  | true => exact ⟨c, fr1, ad1, F1, o1⟩
  | false => exact o1 ad1 H1 F1 Mv.refl
theorem aw_or {t u : Fr → Res Bool} {rest : List Expr} (ha : AT X x a t) (hb : AW X x (.BoolOp .Or (b :: rest) pos) u) : AW X x (.BoolOp .Or (a :: b :: rest) pos) (xOr t u) := by
  refine (pw_or ha hb).imp fun σ H Q ⟨c, fr, ad, F, o⟩ => ⟨c, fr, ad, F, (Out.bind F o).mono fun k fr1 ad1 H1 F1 m1 o1 => ?_⟩
  cases k with
  | false => exact ⟨c, fr1, ad1, F1, o1⟩
  | true => exact o1 ad1 H1 F1 Mv.refl
theorem at_w {t : Fr → Res Bool} (h : AW X x a t) : AT X x a t := PW.pt h
theorem ae_if {t : Fr → Res Bool} (hc : AT X x d t) (ha : AE X x a f) (hb : AE X x b g) : AE X x (.IfExp d a b pos) (xIf t f g) := by
  refine (pe_ifExp hc ha hb).imp fun σ H Q ⟨c, fr, ad, F, o⟩ => ⟨c, fr, ad, F, (Out.bind F o).mono fun k fr1 ad1 H1 F1 m1 o1 => ?_⟩
  cases k with
  | true => exact ⟨c, fr1, ad1, F1, o1⟩
  | false => exact ⟨c, fr1, ad1, F1, o1⟩
theorem aa_nil : AA X x [] xNil := pa_nil.imp fun σ H Q ⟨c, fr, ad, F, o⟩ => o ad H F Mv.refl [] .nil
theorem aa_cons {es : List Expr} {gs : Fr → Res (List AV)} (ha : AE X x a f) (hr : AA X x es gs) (hs : starEach (a :: es) X.env = (false, eval a X.env) :: starEach es X.env := by rfl) : AA X x (a :: es) (xCons f gs) := by
  refine (pa_cons ha hr hs).imp fun σ H Q ⟨c, fr, ad, F, o⟩ => ⟨c, fr, ad, F, (Out.bind F o).mono fun av fr1 ad1 H1 F1 m1 o1 v rv => ?_⟩
  exact ⟨c, fr1, ad1, F1, (Out.bind F1 o1).mono fun as fr2 ad2 H2 F2 m2 o2 vs rvs => o2 ad2 H2 F2 Mv.refl _ (.cons (RepA.mv F1 m2 rv) rvs)⟩
theorem dats_rep {p : Par} {H : Hp} {ok : Addr → Prop} {ad : List (Option Addr)} : ∀ {vs : List V} {as : List AV} {xs : List PyData}, RepAs p H ok ad vs as → dats as = some xs → RepL p.K H ok vs xs
  | _, _, _, .nil, e => by cases e; exact .nil
  | _, .dat y :: as, _, .cons r rs, e => by
    unfold dats at e
    cases q : dats as with
    | none => rw [q] at e; cases e
    | some ys => rw [q] at e; cases e; exact .cons r (dats_rep rs q)
  | _, .dct _ _ :: as, _, .cons r rs, e => by cases e
  | _, .cel _ :: as, _, .cons r rs, e => by cases e
  | _, .scr _ :: as, _, .cons r rs, e => by cases e
  | _, .brd _ _ _ :: as, _, .cons r rs, e => by cases e
  | _, .fn _ _ :: as, _, .cons r rs, e => by cases e
  | _, .pin _ :: as, _, .cons r rs, e => by cases e
theorem ae_tup {es : List Expr} {k : Nat} {gs : Fr → Res (List AV)} (h : AA X x es gs) (hl : es.length ≤ 1000 := by decide) (hn : ∀ fr as fr', gs fr = .ok as fr' → as.length = es.length) : AE X x (.Tuple es k pos) (xTup gs) := by
  refine (pe_tupB h).imp fun σ H Q ⟨c, fr, ad, F, o⟩ => ⟨c, fr, ad, F, ?_⟩
  have o4 := Out.bind F o
  cases q : gs fr with
  | ok as fr1 =>
    rw [q] at o4
    intro ad1 H1 F1 m1 vs rvs
    have o5 := o4 ad1 H1 F1 m1
    have hlen := hn fr as fr1 q
    cases q2 : dats as with
    | none => simp only [q2] at o5; exact o5.elim
    | some xs =>
      simp only [q2] at o5
      have rl := dats_rep rvs q2
      have e1 : vs.length = as.length := Paired.length rvs
      have e2 := rl.length
      have z : vs.length ≤ sizeLine := by rw [sizeLine_eq]; omega
      refine ⟨z, fun p ob hp hob => ?_⟩
      have gr : Grow H1 (upd H1 p (.frz ob (.tup vs))) := Grow.new hp
      exact o5 ad1 _ (F1.grow gr) (Mv.grow gr) _ (.tup (SqU.new hob upd_same) (by rw [← e2]; exact z) (rl.keep gr.keep))
  | exc cl fs fr1 => rw [q] at o4; exact o4
  | err => rw [q] at o4; exact o4
theorem ae_lst {es : List Expr} {gs : Fr → Res (List AV)} (h : AA X x es gs) (hl : es.length ≤ 1000 := by decide) (hn : ∀ fr as fr', gs fr = .ok as fr' → as.length = es.length) : AE X x (.List es pos) (xLst gs) := by
  refine (pe_lst h).imp fun σ H Q ⟨c, fr, ad, F, o⟩ => ⟨c, fr, ad, F, ?_⟩
  have o4 := Out.bind F o
  cases q : gs fr with
  | ok as fr1 =>
    rw [q] at o4
    intro ad1 H1 F1 m1 vs rvs
    have o5 := o4 ad1 H1 F1 m1
    have hlen := hn fr as fr1 q
    cases q2 : dats as with
    | none => simp only [q2] at o5; exact o5.elim
    | some xs =>
      simp only [q2] at o5
      have rl := dats_rep rvs q2
      have e1 : vs.length = as.length := Paired.length rvs
      have e2 := rl.length
      have z : vs.length ≤ sizeLine := by rw [sizeLine_eq]; omega
      refine ⟨z, fun p hp => ?_⟩
      have gr : Grow H1 (upd H1 p (.lst vs)) := Grow.new hp
      exact o5 ad1 _ (F1.grow gr) (Mv.grow gr) _ (.lst (okP_new F1 hp) upd_same (by rw [← e2]; exact z) (rl.keep gr.keep))
  | exc cl fs fr1 => rw [q] at o4; exact o4
  | err => rw [q] at o4; exact o4
end
end G
namespace G
open PySem PySem.Spec PyProof.Rows L2
abbrev CMulP (i j : Int) : Prop := i.natAbs.log2 + j.natAbs.log2 < 1000000
abbrev CDivP (j : Int) : Prop := 0 < j ∧ j.natAbs.log2 < 9000
abbrev CPowP (i j : Int) : Prop := 0 ≤ j ∧ j ≤ 1000000 ∧ i.natAbs < 2 ^ 64
def mulOk (i j : Int) : Bool := decide (CMulP i j)
def divOk (j : Int) : Bool := decide (CDivP j)
def powOk (i j : Int) : Bool := decide (CPowP i j)
def dAdd : PyData → PyData → Option PyData
  | .int i, .int j => some (.int (i + j))
  | .str a, .str b => if a.length + b.length ≤ 1000000 then some (.str (a ++ b)) else none
  | .list a, .list b => if a.length + b.length ≤ 1000000 then some (.list (a ++ b)) else none
  | .tuple a, .tuple b => if a.length + b.length ≤ 1000000 then some (.tuple (a ++ b)) else none
  | _, _ => none
def dSub : PyData → PyData → Option PyData
  | .int i, .int j => some (.int (i - j))
  | _, _ => none
def dMul : PyData → PyData → Option PyData
  | .int i, .int j => if mulOk i j = true then some (.int (i * j)) else none
  | _, _ => none
def dFdiv : PyData → PyData → Option PyData
  | .int i, .int j => if divOk j = true then some (.int (i / j)) else none
  | _, _ => none
def dMod : PyData → PyData → Option PyData
  | .int i, .int j => if 0 < j then some (.int (i % j)) else none
  | _, _ => none
def dPow : PyData → PyData → Option PyData
  | .int i, .int j => if powOk i j = true then some (.int (i ^ j.toNat)) else none
  | _, _ => none
def eqOk (x y : PyData) : Bool := decide (min x.depth y.depth ≤ 64)
def dEq (x y : PyData) : Option PyData := if eqOk x y = true then some (.bool (PyData.eqv x y)) else none
def dNe (x y : PyData) : Option PyData := if eqOk x y = true then some (.bool (!PyData.eqv x y)) else none
/-- two tuples that can be compared -/
def cmpOk (x y : PyData) : Bool := PySem.W.alike x y && decide (min x.depth y.depth ≤ 32)
def dLt : PyData → PyData → Option PyData
  | .int i, .int j => some (.bool (decide (i < j)))
  | .str a, .str b => some (.bool (decide (a.cps.toList < b.cps.toList)))
  | .tuple a, .tuple b => if cmpOk (.tuple a) (.tuple b) = true then some (.bool (PySem.W.dataLt (.tuple a) (.tuple b))) else none
  | _, _ => none
def dGt : PyData → PyData → Option PyData
  | .int i, .int j => some (.bool (decide (j < i)))
  | _, _ => none
def dGe : PyData → PyData → Option PyData
  | .int i, .int j => some (.bool (decide (j ≤ i)))
  | _, _ => none
/-- x in a list, a tuple -/
def inOk (x : PyData) (ds : List PyData) : Bool := decide (min (PyData.depthAll ds) x.depth ≤ 64)
def dIx : PyData → PyData → Option PyData
  | .list ds, .int i => atI ds i
  | .tuple ds, .int i => atI ds i
  | _, _ => none
/-- a slice with its bounds -/
def cutD (xs : List PyData) (lo hi : Option Int) : List PyData := (xs.drop (HT.sIx xs.length 0 lo)).take (HT.sIx xs.length xs.length hi - HT.sIx xs.length 0 lo)
def dSl (x : PyData) (lo hi : Option Int) : Option PyData := match x with
  | .list ds => some (.list (cutD ds lo hi))
  | .tuple ds => some (.tuple (cutD ds lo hi))
  | .str z => if z.length ≤ 1000000 then some (.str (cutS z lo hi)) else none
  | _ => none
@[simp] def dLen : List PyData → Option PyData
  | [.list ds] => some (.int ds.length)
  | [.tuple ds] => some (.int ds.length)
  | [.str z] => if z.length ≤ 1000000 then some (.int z.length) else none
  | _ => none
@[simp] def dAbs : List PyData → Option PyData
  | [.int i] => some (.int (if i < 0 then -i else i))
  | _ => none
@[simp] def dList : List PyData → Option PyData
  | [.list ds] => some (.list ds)
  | [.tuple ds] => some (.list ds)
  | _ => none
@[simp] def dTuple : List PyData → Option PyData
  | [.list ds] => some (.tuple ds)
  | [.tuple ds] => some (.tuple ds)
  | _ => none
section
variable {X : Cx}
theorem strOk_append {a b : Str} (h1 : PyData.strOk a = true) (h2 : PyData.strOk b = true) : PyData.strOk (a ++ b) = true := by
  unfold PyData.strOk at *
  show (a.cps ++ b.cps).all _ = true
  rw [Array.all_append, h1, h2]; rfl
theorem sz6 {n : Nat} (h : n ≤ 1000000) : n ≤ sizeLine := by rw [sizeLine_eq]; omega
theorem lists_cat {pins : List (Addr × Obj)} {σ : L2.St} {H : Hp} {s : Shared} {a b : Addr} {xs ys : List V} {Q : VK} (I : Inv X pins σ H s) (ha : SqL X.K H a xs) (hb : SqL X.K H b ys) (hz : xs.length + ys.length ≤ sizeLine)
    (q : ∀ p, H p = none → Q (.ref p) (upd H p (.lst (xs ++ ys)))) : wpAny (model X.prog X.w) X.A (binaryOp .Add (.ref a) (.ref b)) (EP X pins σ Q) X.xe s := by
  obtain ⟨its, r1, p1, _⟩ := I.list ha
  obtain ⟨its2, r2, p2, _⟩ := I.list hb
  obtain ⟨o1, n1, e1, c1, d1, t1⟩ := p1
  obtain ⟨o2, n2, e2, c2, d2, t2⟩ := p2
  obtain ⟨cls1, dd1, data1, sl1⟩ := o1
  obtain ⟨cls2, dd2, data2, sl2⟩ := o2
  simp only at c1 c2 d1 d2 t1 t2
  subst c1 c2 d1 d2 t1 t2
  refine concat_meets ⟨_, e1, rfl⟩ ⟨_, e2, rfl⟩ noFill_list_add seq_list_add F.slot_list_add F.entry_list_add (F.args_list_add_2 _ _)
    (list_addW a b its.toArray its2.toArray n1 n2 none none sl1 sl2 (by rw [List.size_toArray, List.size_toArray, ← r1.length, ← r2.length]; exact hz)) ⟨e1, e2, ?_⟩
  rw [show its.toArray ++ its2.toArray = (its ++ its2).toArray by simp]
  exact ⟨.ref _, _, I.lnew (t' := s.toks) (r1.append r2) (by rw [List.length_append]; exact hz), rfl, q _ I.fresh⟩
theorem o_add : OpR X (binaryOp .Add) (rOp2 X.K dAdd) := by
  intro pins s σ H xv yv v u Q I rx ry ⟨ok, dx, dy, r, hok, hx, hy, e, q⟩
  cases dx with
  | int i =>
    cases dy with
    | int j =>
      cases e; cases hx.int; cases hy.int
      exact op_add pins s σ H _ _ v u Q I rx ry ⟨i, j, rfl, rfl, q _ H Grow.refl (.int _)⟩
    | _ => cases e
  | str a =>
    cases dy with
    | str b =>
      simp only [dAdd] at e
      split at e
      · rename_i hz
        cases e
        obtain ⟨rfl, s1⟩ := hx.str
        obtain ⟨rfl, s2⟩ := hy.str
        exact op_add_str pins s σ H _ _ v u Q I rx ry ⟨a, b, rfl, rfl, sz6 hz, q _ H Grow.refl (.str _ (strOk_append s1 s2))⟩
      · cases e
    | _ => cases e
  | list a =>
    cases dy with
    | list b =>
      simp only [dAdd] at e
      split at e
      · rename_i hz
        cases e
        obtain ⟨l, xs, rfl, h1, z1, r1⟩ := hx.list
        obtain ⟨m, ys, rfl, h2, z2, r2⟩ := hy.list
        cases rx; cases ry
        have e1 := r1.length
        have e2 := r2.length
        refine lists_cat I h1 h2 (sz6 (by omega)) fun p hp => q _ _ (Grow.new hp) (.lst (hok p hp) upd_same (by rw [List.length_append]; exact sz6 hz) (RepL.keep (Grow.new hp).keep (r1.append r2)))
      · cases e
    | _ => cases e
  | tuple a =>
    cases dy with
    | tuple b =>
      simp only [dAdd] at e
      split at e
      · rename_i hz
        cases e
        obtain ⟨l, xs, rfl, h1, z1, r1⟩ := hx.tupleB
        obtain ⟨m, ys, rfl, h2, z2, r2⟩ := hy.tupleB
        have e1 := r1.length
        have e2 := r2.length
        refine op_catB pins s σ H _ _ v u Q I rx ry ⟨l, m, xs, ys, rfl, rfl, h1.sq, h2.sq, sz6 (by omega), fun hn => ?_, fun hn hm => ?_, fun hn hm p ob hp hob => ?_⟩
        · subst hn
          cases r1
          exact q _ H Grow.refl (.tup h2 z2 r2)
        · subst hm
          cases r2
          rw [List.append_nil] at q
          exact q _ H Grow.refl (.tup h1 z1 r1)
        · exact q _ _ (Grow.new hp) (.tup (SqU.new hob upd_same) (by rw [List.length_append]; exact sz6 hz) (RepL.keep (Grow.new hp).keep (r1.append r2)))
      · cases e
    | _ => cases e
  | _ => cases e
/-- an operator on two ints -/
theorem o_int2 {f : Value → Value → Sem Value} {C : Int → Int → Prop} {g : Int → Int → Int} {sem : PyData → PyData → Option PyData} (ho : OpR X f (rI C fun i j => .int (g i j)))
    (hs : ∀ x y r, sem x y = some r → ∃ i j, x = .int i ∧ y = .int j ∧ r = .int (g i j) ∧ C i j) : OpR X f (rOp2 X.K sem) := by
  intro pins s σ H xv yv v u Q I rx ry ⟨ok, dx, dy, r, hok, hx, hy, e, q⟩
  obtain ⟨i, j, rfl, rfl, rfl, hc⟩ := hs _ _ _ e
  cases hx.int; cases hy.int
  exact ho pins s σ H _ _ v u Q I rx ry ⟨i, j, rfl, rfl, hc, q _ H Grow.refl (.int _)⟩
theorem o_sub : OpR X (binaryOp .Sub) (rOp2 X.K dSub) := by
  refine o_int2 (C := fun _ _ => True) (g := fun i j => i - j) (fun pins s σ H x y v u Q I rx ry ⟨i, j, h1, h2, _, q⟩ => op_sub pins s σ H x y v u Q I rx ry ⟨i, j, h1, h2, q⟩) fun x y r e => ?_
  cases x <;> cases y <;> first | cases e | skip
  exact ⟨_, _, rfl, rfl, rfl, trivial⟩
theorem o_mul : OpR X (binaryOp .Mult) (rOp2 X.K dMul) := by
  refine o_int2 (g := fun i j => i * j) op_mulW fun x y r e => ?_
  cases x <;> cases y <;> first | cases e | skip
  simp only [dMul] at e
  split at e
  · rename_i h
    cases e
    exact ⟨_, _, rfl, rfl, rfl, by first | exact of_decide_eq_true (p := CMulP _ _) h | exact of_decide_eq_true (p := CDivP _) h | exact of_decide_eq_true (p := CPowP _ _) h⟩
  · cases e
theorem o_fdiv : OpR X (binaryOp .FloorDiv) (rOp2 X.K dFdiv) := by
  refine o_int2 (g := fun i j => i / j) op_fdivW fun x y r e => ?_
  cases x <;> cases y <;> first | cases e | skip
  simp only [dFdiv] at e
  split at e
  · rename_i h
    cases e
    exact ⟨_, _, rfl, rfl, rfl, by first | exact of_decide_eq_true (p := CMulP _ _) h | exact of_decide_eq_true (p := CDivP _) h | exact of_decide_eq_true (p := CPowP _ _) h⟩
  · cases e
theorem o_mod : OpR X (binaryOp .Mod) (rOp2 X.K dMod) := by
  refine o_int2 (g := fun i j => i % j) op_mod fun x y r e => ?_
  cases x <;> cases y <;> first | cases e | skip
  simp only [dMod] at e
  split at e
  · rename_i h
    cases e
    exact ⟨_, _, rfl, rfl, rfl, h⟩
  · cases e
theorem o_pow : OpR X (binaryOp .Pow) (rOp2 X.K dPow) := by
  refine o_int2 (g := fun i j => i ^ j.toNat) op_pow fun x y r e => ?_
  cases x <;> cases y <;> first | cases e | skip
  simp only [dPow] at e
  split at e
  · rename_i h
    cases e
    exact ⟨_, _, rfl, rfl, rfl, by first | exact of_decide_eq_true (p := CMulP _ _) h | exact of_decide_eq_true (p := CDivP _) h | exact of_decide_eq_true (p := CPowP _ _) h⟩
  · cases e
theorem eq_room {x y : PyData} {n : Nat} (h : eqOk x y = true) (hu : n + 64 < cLine) : n + min x.depth y.depth < cLine := by
  have := of_decide_eq_true h
  omega
theorem o_eq (hu : X.A.units + 64 < cLine) : OpR X (compareOp .Eq) (rOp2 X.K dEq) := by
  intro pins s σ H xv yv v u Q I rx ry ⟨ok, dx, dy, r, hok, hx, hy, e, q⟩
  unfold dEq at e
  split at e
  · rename_i h
    cases e
    obtain ⟨as, r1⟩ := Dp.reads I dx xv v hx.dp rx
    obtain ⟨bs, r2⟩ := Dp.reads I dy yv u hy.dp ry
    exact SeqAt.compareEq_reads r1 r2 hx.lay hy.lay (eq_room h hu) ⟨.bl _, H, I, rfl, q _ H Grow.refl (.bl _)⟩
  · cases e
theorem o_ne (hu : X.A.units + 64 < cLine) : OpR X (compareOp .NotEq) (rOp2 X.K dNe) := by
  intro pins s σ H xv yv v u Q I rx ry ⟨ok, dx, dy, r, hok, hx, hy, e, q⟩
  unfold dNe at e
  split at e
  · rename_i h
    cases e
    obtain ⟨as, r1⟩ := Dp.reads I dx xv v hx.dp rx
    obtain ⟨bs, r2⟩ := Dp.reads I dy yv u hy.dp ry
    exact SeqAt.compareNe_reads r1 r2 hx.lay hy.lay (eq_room h hu) ⟨.bl _, H, I, rfl, q _ H Grow.refl (.bl _)⟩
  · cases e
theorem o_lt (hu : X.A.units + 64 < cLine) : OpR X (compareOp .Lt) (rOp2 X.K dLt) := by
  intro pins s σ H xv yv v u Q I rx ry ⟨ok, dx, dy, r, hok, hx, hy, e, q⟩
  cases dx with
  | int i =>
    cases dy with
    | int j =>
      cases e; cases hx.int; cases hy.int
      exact op_lt pins s σ H _ _ v u Q I rx ry ⟨i, j, rfl, rfl, q _ H Grow.refl (.bl _)⟩
    | _ => cases e
  | str a =>
    cases dy with
    | str b =>
      cases e
      obtain ⟨rfl, _⟩ := hx.str
      obtain ⟨rfl, _⟩ := hy.str
      exact op_lt_str pins s σ H _ _ v u Q I rx ry ⟨a, b, rfl, rfl, q _ H Grow.refl (.bl _)⟩
    | _ => cases e
  | tuple a =>
    cases dy with
    | tuple b =>
      simp only [dLt] at e
      split at e
      · rename_i h
        cases e
        unfold cmpOk at h
        rw [Bool.and_eq_true, decide_eq_true_eq] at h
        obtain ⟨as, r1⟩ := Dp.reads I _ xv v hx.dp rx
        obtain ⟨bs, r2⟩ := Dp.reads I _ yv u hy.dp ry
        exact PySem.W.lt_data r1 r2 h.1 (fun z => nomatch z) (by have := h.2; omega) ⟨.bl _, H, I, rfl, q _ H Grow.refl (.bl _)⟩
      · cases e
    | _ => cases e
  | _ => cases e
theorem o_gt : OpR X (compareOp .Gt) (rOp2 X.K dGt) := by
  intro pins s σ H xv yv v u Q I rx ry ⟨ok, dx, dy, r, hok, hx, hy, e, q⟩
  cases dx with
  | int i =>
    cases dy with
    | int j =>
      cases e; cases hx.int; cases hy.int
      exact op_gt pins s σ H _ _ v u Q I rx ry ⟨i, j, rfl, rfl, q _ H Grow.refl (.bl _)⟩
    | _ => cases e
  | _ => cases e
theorem o_ge : OpR X (compareOp .GtE) (rOp2 X.K dGe) := by
  intro pins s σ H xv yv v u Q I rx ry ⟨ok, dx, dy, r, hok, hx, hy, e, q⟩
  cases dx with
  | int i =>
    cases dy with
    | int j =>
      cases e; cases hx.int; cases hy.int
      exact op_ge pins s σ H _ _ v u Q I rx ry ⟨i, j, rfl, rfl, q _ H Grow.refl (.bl _)⟩
    | _ => cases e
  | _ => cases e
theorem in_room {x : PyData} {ds : List PyData} {n : Nat} (h : inOk x ds = true) (hu : n + 65 < cLine) : n + 1 + min (PyData.depthAll ds) x.depth < cLine := by
  have := of_decide_eq_true h
  omega
theorem atI_rep {K : PySem.W.Frag} {H : Hp} {ok : Addr → Prop} {vs : List V} {ds : List PyData} {i : Int} {r : PyData} (rl : RepL K H ok vs ds) (e : atI ds i = some r) : ∃ v, atI vs i = some v ∧ Rep K H ok v r := by
  unfold atI at *
  rw [rl.length]
  cases q : ixN ds.length i with
  | none => rw [q] at e; cases e
  | some j =>
    rw [q] at e
    exact rl.get (i := j) e
theorem o_ix : IxR X (rOp2 X.K dIx) := by
  intro ea eb pins s σ H xv yv v u Q I rx ry h hsub
  obtain ⟨ok, dx, dy, r, hok, hx, hy, e, q⟩ := h
  cases dx with
  | list ds =>
    cases dy with
    | int i =>
      obtain ⟨l, xs, rfl, h1, z1, r1⟩ := hx.list
      cases hy.int
      obtain ⟨w, e1, rw⟩ := atI_rep r1 e
      exact ix_list ea eb pins s σ H _ _ v u Q I rx ry ⟨l, xs, i, w, rfl, rfl, h1, e1, q _ H Grow.refl rw⟩ hsub
    | _ => cases e
  | tuple ds =>
    cases dy with
    | int i =>
      obtain ⟨l, xs, rfl, h1, z1, r1⟩ := hx.tuple
      cases hy.int
      obtain ⟨w, e1, rw⟩ := atI_rep r1 e
      exact ix_tup ea eb pins s σ H _ _ v u Q I rx ry ⟨l, xs, i, w, rfl, rfl, h1, e1, q _ H Grow.refl rw⟩ hsub
    | _ => cases e
  | _ => cases e
theorem cut_rep {K : PySem.W.Frag} {H : Hp} {ok : Addr → Prop} {vs : List V} {ds : List PyData} (rl : RepL K H ok vs ds) (lo hi : Option Int) : RepL K H ok (cutV vs lo hi) (cutD ds lo hi) := by
  unfold cutV cutD
  rw [rl.length]
  exact (rl.drop _).take _
theorem cut_len (ds : List PyData) (lo hi : Option Int) : (cutD ds lo hi).length ≤ ds.length := by
  unfold cutD
  rw [List.length_take, List.length_drop]
  omega
theorem cut_whole {K : PySem.W.Frag} {H : Hp} {ok : Addr → Prop} {vs : List V} {ds : List PyData} (rl : RepL K H ok vs ds) {lo hi : Option Int} (h : HT.sIx vs.length 0 lo = 0 ∧ HT.sIx vs.length vs.length hi = vs.length) : cutD ds lo hi = ds := by
  unfold cutD
  rw [← rl.length, h.1, h.2, List.drop_zero, Nat.sub_zero, rl.length, List.take_length]
def rSl (K : PySem.W.Frag) : V → Option Int → Option Int → Hp → VK → Prop := fun xv lo hi H Q => ∃ (ok : Addr → Prop) (dx r : PyData), (∀ p, H p = none → ok p) ∧ RepB K H ok xv dx ∧ dSl dx lo hi = some r ∧ ∀ v H', Grow H H' → Rep K H' ok v r → Q v H'
theorem strOk_cut {z : Str} (h : PyData.strOk z = true) {lo hi : Option Int} : PyData.strOk (cutS z lo hi) = true := by
  unfold PyData.strOk cutS at *
  rw [List.all_toArray, List.all_eq_true]
  rw [← Array.all_toList, List.all_eq_true] at h
  exact fun c hc => h c (List.mem_of_mem_drop (List.mem_of_mem_take hc))
theorem o_sl : SlR X (rSl X.K) := by
  intro pins s σ H xv v vl vu lo hi sl Q I rx hs pl pu h
  obtain ⟨ok, dx, r, hok, hx, e, q⟩ := h
  cases dx with
  | list ds =>
    cases e
    obtain ⟨l, xs, rfl, h1, z1, r1⟩ := hx.list
    exact sl_list pins s σ H _ v vl vu lo hi sl Q I rx hs pl pu ⟨l, xs, rfl, h1, fun p hp =>
      q _ _ (Grow.new hp) (.lst (hok p hp) upd_same (Nat.le_trans (cut_len ds lo hi) z1) (RepL.keep (Grow.new hp).keep (cut_rep r1 lo hi)))⟩
  | tuple ds =>
    cases e
    obtain ⟨l, xs, rfl, h1, z1, r1⟩ := hx.tupleB
    refine sl_tupB pins s σ H _ v vl vu lo hi sl Q I rx hs pl pu ⟨l, xs, rfl, h1.sq, fun w => ?_, fun _ p ob hp hob => ?_⟩
    · rw [cut_whole r1 w] at q
      exact q _ H Grow.refl (.tup h1 z1 r1)
    · exact q _ _ (Grow.new hp) (.tup (SqU.new hob upd_same) (Nat.le_trans (cut_len ds lo hi) z1) (RepL.keep (Grow.new hp).keep (cut_rep r1 lo hi)))
  | str z =>
    simp only [dSl] at e
    split at e
    · rename_i hz
      cases e
      obtain ⟨rfl, hs1⟩ := hx.str
      exact sl_str pins s σ H _ v vl vu lo hi sl Q I rx hs pl pu ⟨z, rfl, sz6 hz, q _ H Grow.refl (.str _ (strOk_cut hs1))⟩
    · cases e
  | _ => cases e
theorem RepBs.one {K : PySem.W.Frag} {H : Hp} {ok : Addr → Prop} {vs : List V} {d : PyData} (r : RepBs K H ok vs [d]) : ∃ v, vs = [v] ∧ RepB K H ok v d := by
  cases r with
  | cons h t => cases t; exact ⟨_, rfl, h⟩
theorem c_len : CallR X (.builtin "len") (rCall X.K dLen) := by
  intro pins s σ H xs us Q I rx ⟨ok, ds, r, hok, hx, e, q⟩
  match ds, e with
  | [.list ds], e =>
    cases e
    obtain ⟨v, rfl, h⟩ := hx.one
    obtain ⟨l, ys, rfl, h1, z1, r1⟩ := h.list
    rw [← r1.length] at q
    exact call_len_seq pins s σ H _ us Q I rx ⟨l, ys, rfl, .inl h1, q _ H Grow.refl (.int _)⟩
  | [.tuple ds], e =>
    cases e
    obtain ⟨v, rfl, h⟩ := hx.one
    obtain ⟨l, ys, rfl, h1, z1, r1⟩ := h.tuple
    rw [← r1.length] at q
    exact call_len_seq pins s σ H _ us Q I rx ⟨l, ys, rfl, .inr h1, q _ H Grow.refl (.int _)⟩
  | [.str z], e =>
    simp only [dLen] at e
    split at e
    · rename_i hz
      cases e
      obtain ⟨v, rfl, h⟩ := hx.one
      obtain ⟨rfl, _⟩ := h.str
      exact call_len_str pins s σ H _ us Q I rx ⟨z, rfl, sz6 hz, q _ H Grow.refl (.int _)⟩
    · cases e
theorem c_abs : CallR X (.builtin "abs") (rCall X.K dAbs) := by
  intro pins s σ H xs us Q I rx ⟨ok, ds, r, hok, hx, e, q⟩
  match ds, e with
  | [.int i], e =>
    cases e
    obtain ⟨v, rfl, h⟩ := hx.one
    cases h.int
    exact call_abs pins s σ H _ us Q I rx ⟨i, rfl, q _ H Grow.refl (.int _)⟩
theorem c_tuple : CallR X (.type "tuple") (rCall X.K dTuple) := by
  intro pins s σ H xs us Q I rx ⟨ok, ds, r, hok, hx, e, q⟩
  match ds, e with
  | [.list ds], e =>
    cases e
    obtain ⟨v, rfl, h⟩ := hx.one
    obtain ⟨l, ys, rfl, h1, z1, r1⟩ := h.list
    exact call_tupB pins s σ H _ us Q I rx ⟨l, ys, rfl, h1, fun p ob hp hob => q _ _ (Grow.new hp) (.tup (SqU.new hob upd_same) z1 (RepL.keep (Grow.new hp).keep r1))⟩
  | [.tuple ds], e =>
    cases e
    obtain ⟨v, rfl, h⟩ := hx.one
    obtain ⟨l, ys, rfl, h1, z1, r1⟩ := h.tupleB
    exact call_tuple_of pins s σ H _ us Q I rx ⟨l, ys, rfl, .inr ⟨h1.sq, q _ H Grow.refl (.tup h1 z1 r1)⟩⟩
end
end G
namespace G
open PySem PySem.Spec PyProof.Rows L2
@[simp] def xIx (f g : Fr → Res AV) : Fr → Res AV := xOp2 dIx f g
/-- a bound of a slice -/
@[simp] def xNo : Fr → Res (Option Int) := fun fr => .ok none fr
@[simp] def xSo (f : Fr → Res AV) : Fr → Res (Option Int) := fun fr => (f fr).bind fun a fr1 => match a with
  | .dat (.int i) => .ok (some i) fr1
  | _ => .err
@[simp] def xSl (f : Fr → Res AV) (l u : Fr → Res (Option Int)) : Fr → Res AV := fun fr => (f fr).bind fun a fr1 => (l fr1).bind fun lo fr2 => (u fr2).bind fun hi fr3 => match fr3.view a with
  | some x => ofO fr3 (dSl x lo hi)
  | none => .err
@[simp] def xB1 (sem : List PyData → Option PyData) (gs : Fr → Res (List AV)) : Fr → Res AV := fun fr => (gs fr).bind fun as fr1 => match views fr1 as with
  | some ds => ofO fr1 (sem ds)
  | none => .err
section
variable {X : Cx} {x : XW} {a b d : Expr} {f g h : Fr → Res AV} {pos : Pos}
theorem ae_ix (ha : AE X x a f) (hb : AE X x b g) (hs : PlainIx b := by intro _ _; rfl) : AE X x (.Subscript a b pos) (xIx f g) :=
  (pe_ix o_ix ha hb hs).imp fun _ _ _ h => tE_op2 h
/-- a part of a slice -/
abbrev AO (X : Cx) (x : XW) (o : Option Expr) (l : Fr → Res (Option Int)) : Prop :=
  PO X o fun σ H Q => ∃ c fr ad, FR (pX X) c fr ad σ H ∧ Out (pX X) x c ad σ H (l fr) fun i _ _ H' => Q i H'
theorem _root_.L2.PO.imp {X : Cx} {o : Option Expr} {t t' : TO} (h : PO X o t) (hi : ∀ σ H Q, t' σ H Q → t σ H Q) : PO X o t' := ⟨fun pins s σ H Q I q => h.run pins s σ H Q I (hi σ H Q q)⟩
theorem ao_none : AO X x none xNo := (po_none).imp fun σ H Q ⟨c, fr, ad, F, o⟩ => o ad H F Mv.refl
theorem ao_some (ha : AE X x a f) : AO X x (some a) (xSo f) := by
  refine (po_some ha).imp fun σ H Q ⟨c, fr, ad, F, o⟩ => ⟨c, fr, ad, F, (Out.bind F o).mono fun av fr1 ad1 H1 F1 m1 o1 v rv => ?_⟩
  cases av with
  | dat y =>
    cases y with
    | int i =>
      cases RepB.int (.inl rv)
      exact ⟨i, rfl, o1 ad1 H1 F1 Mv.refl⟩
    | _ => exact o1.elim
  | _ => exact o1.elim
theorem ae_sl {lo hi : Option Expr} {l u : Fr → Res (Option Int)} {p2 : Pos} (ha : AE X x a f) (hl : AO X x lo l) (hu : AO X x hi u) : AE X x (.Subscript a (.Slice lo hi none p2) pos) (xSl f l u) := by
  refine (pe_slice o_sl ha hl hu).imp fun σ H Q ⟨c, fr, ad, F, o⟩ => ⟨c, fr, ad, F, (Out.bind F o).mono fun av fr1 ad1 H1 F1 m1 o1 v rv => ?_⟩
  refine ⟨c, fr1, ad1, F1, (Out.bind F1 o1).mono fun i fr2 ad2 H2 F2 m2 o2 => ?_⟩
  refine ⟨c, fr2, ad2, F2, (Out.bind F2 o2).mono fun j fr3 ad3 H3 F3 m3 o3 => ?_⟩
  have r3 := RepA.mv F2 m3 (RepA.mv F1 m2 rv)
  cases q1 : fr3.view av with
  | none => rw [q1] at o3; exact o3.elim
  | some dx =>
    rw [q1] at o3
    simp only [ofO] at o3
    cases q3 : dSl dx i j with
    | none => rw [q3] at o3; exact o3.elim
    | some r =>
      rw [q3] at o3
      exact ⟨okP c ad3, dx, r, fun p hp => okP_new F3 hp, view_rep F3 r3 q1, q3, fun w H4 gr rw => o3 ad3 H4 (F3.grow gr) (Mv.grow gr) w rw⟩
theorem views_rep {p : Par} {c : Ent} {fr : Fr} {ad : List (Option Addr)} {σ : L2.St} {H : Hp} (F : FR p c fr ad σ H) : ∀ {vs : List V} {as : List AV} {ds : List PyData}, RepAs p H (okP c ad) ad vs as → views fr as = some ds → RepBs p.K H (okP c ad) vs ds
  | _, _, _, .nil, e => by cases e; exact .nil
  | _, a :: as, ds, .cons r rs, e => by
    unfold views at e
    cases q1 : fr.view a with
    | none => rw [q1] at e; cases e
    | some y =>
      cases q2 : views fr as with
      | none => rw [q1, q2] at e; cases e
      | some ys =>
        rw [q1, q2] at e
        cases e
        exact .cons (view_rep F r q1) (views_rep F rs q2)
theorem tA_call {sem : List PyData → Option PyData} {gs : Fr → Res (List AV)} {σ : L2.St} {H : Hp} {Q : VK} (h : tE (pX X) x (xB1 sem gs) σ H Q) : tA (pX X) x gs σ H fun vs H1 => rCall X.K sem vs H1 Q := by
  obtain ⟨c, fr, ad, F, o⟩ := h
  refine ⟨c, fr, ad, F, (Out.bind F o).mono fun as fr1 ad1 H1 F1 m1 o1 vs rvs => ?_⟩
  cases q1 : views fr1 as with
  | none => rw [q1] at o1; exact o1.elim
  | some ds =>
    rw [q1] at o1
    simp only [ofO] at o1
    cases q3 : sem ds with
    | none => rw [q3] at o1; exact o1.elim
    | some r =>
      rw [q3] at o1
      exact ⟨okP c ad1, ds, r, fun p hp => okP_new F1 hp, views_rep F1 rvs q1, q3, fun w H3 gr rw => o1 ad1 H3 (F1.grow gr) (Mv.grow gr) w rw⟩
/-- a built-in function, a built-in class, called -/
theorem ae_callB {id : String} {n : Str} {sem : List PyData → Option PyData} {gs : Fr → Res (List AV)} {es : List Expr} {p1 : Pos} (hc : CallR X (.builtin id) (rCall X.K sem)) (hg : Gl X n) (hm : X.mg n = none) (hv : bootBuiltins n = some (.builtin id)) (ha : AA X x (a :: es) gs)
    (hn : n ≠ "__name__" := by decide) (hdb : (n == ("__debug__" : Str)) = false := by decide) (he : starEach (a :: es) X.env = (false, eval a X.env) :: starEach es X.env := by rfl) (hpl : (backTo pos (starEach es X.env)).any (·.1) = false := by rfl) :
    AE X x (.Call (.Name n p1) (a :: es) [] pos) (xB1 sem gs) :=
  (pe_callB hc hg hm hv ha hn hdb he hpl).imp fun _ _ _ h => tA_call h
theorem ae_callT {T : String} {n : Str} {sem : List PyData → Option PyData} {gs : Fr → Res (List AV)} {es : List Expr} {p1 : Pos} (hc : CallR X (.type T) (rCall X.K sem)) (hg : Gl X n) (hm : X.mg n = none) (hv : bootBuiltins n = some (.type T)) (ha : AA X x (a :: es) gs)
    (hn : n ≠ "__name__" := by decide) (hdb : (n == ("__debug__" : Str)) = false := by decide) (he : starEach (a :: es) X.env = (false, eval a X.env) :: starEach es X.env := by rfl) (hpl : (backTo pos (starEach es X.env)).any (·.1) = false := by rfl) :
    AE X x (.Call (.Name n p1) (a :: es) [] pos) (xB1 sem gs) :=
  (pe_callTy hc hg hm hv ha hn hdb he hpl).imp fun _ _ _ h => tA_call h
def tyN : PyData → String
  | .none => "NoneType"
  | .bool _ => "bool"
  | .int _ => "int"
  | .str _ => "str"
  | .list _ => "list"
  | .tuple _ => "tuple"
  | .dict _ => "dict"
def isiN (T n : String) : Bool := n == T || (T == "int" && n == "bool")
def isi (T : String) (d : PyData) : Bool := isiN T (tyN d)
def kinds : List String := ["NoneType", "bool", "int", "str", "list", "tuple"]
def TyOk (T : String) : Prop := ∀ n ∈ kinds, kitB n T = some (isiN T n)
theorem tyOk_int : TyOk "int" := by unfold TyOk kinds; decide +kernel
theorem tyOk_bool : TyOk "bool" := by unfold TyOk kinds; decide +kernel
theorem tyOk_list : TyOk "list" := by unfold TyOk kinds; decide +kernel
theorem tyOk_tuple : TyOk "tuple" := by unfold TyOk kinds; decide +kernel
theorem kind_mem {K : PySem.W.Frag} {H : Hp} {ok : Addr → Prop} {v : V} {y : PyData} (r : RepB K H ok v y) : tyN y ∈ kinds := by
  have hl := r.lay
  cases y <;> first | (simp [tyN, kinds]; done) | cases hl
/-- what the library's isinstance asks of a value -/
theorem kit_rep {pins : List (Addr × Obj)} {σ : L2.St} {H : Hp} {s : Shared} {ok : Addr → Prop} {v : V} {u : Value} {y : PyData} (I : Inv X pins σ H s) (rv : RelV v u) (r : RepB X.K H ok v y) :
    ∃ P : Heap → Prop, PySem.W.KitX X.K u (.type (tyN y)) P ∧ P s.heap ∧ u ≠ .builtin "__main__.__loader__#opaque" := by
  cases y with
  | none => cases r.none; cases rv; exact ⟨_, PySem.W.kitx_none, True.intro, fun z => nomatch z⟩
  | bool k => cases r.bool; cases rv; exact ⟨_, PySem.W.kitx_bool, True.intro, fun z => nomatch z⟩
  | int i => cases r.int; obtain ⟨t, rfl⟩ := rv; exact ⟨_, PySem.W.kitx_int, True.intro, fun z => nomatch z⟩
  | str z => obtain ⟨rfl, _⟩ := r.str; obtain ⟨t, rfl⟩ := rv; exact ⟨_, PySem.W.kitx_str, True.intro, fun z => nomatch z⟩
  | list ds =>
    obtain ⟨l, xs, rfl, h1, _, _⟩ := r.list
    cases rv
    obtain ⟨its, _, ⟨o, n, e, hc, _⟩, _⟩ := I.list h1
    exact ⟨_, PySem.W.kitx_list, ⟨o, e, hc⟩, fun z => nomatch z⟩
  | tuple ds =>
    obtain ⟨l, xs, rfl, h1, _, _⟩ := r.tuple
    cases rv
    obtain ⟨its, _, ⟨o, e, hc, _⟩, _⟩ := I.tuple h1
    exact ⟨_, PySem.W.kitx_tuple, ⟨o, e, hc⟩, fun z => nomatch z⟩
  | dict kvs => have z := r.lay; cases z
def rIs1 (K : PySem.W.Frag) (T : String) : List V → Hp → VK → Prop := fun xs H Q => ∃ (ok : Addr → Prop) (v : V) (y : PyData), xs = [v, .ty T] ∧ RepB K H ok v y ∧ Q (.bl (isi T y)) H
theorem c_is1 {T : String} (ht : TyOk T) : CallR X (.builtin "isinstance") (rIs1 X.K T) := by
  intro pins s σ H xs us Q I r h
  obtain ⟨ok, v, y, rfl, ry, q⟩ := h
  obtain ⟨u1, u2, rfl, r1, r2⟩ := vals2 r
  cases (show u2 = Value.type T from r2)
  obtain ⟨P, Z, p, hx⟩ := kit_rep I r1 ry
  exact PySem.W.kia_one Z I.kIn p (kit_ty (ht _ (kind_mem ry))) hx fun tk => ⟨.bl _, H, I.tok tk, rfl, q⟩
def rIs2 (K : PySem.W.Frag) (T U : String) : List V → Hp → VK → Prop := fun xs H Q => ∃ (ok : Addr → Prop) (v : V) (y : PyData) (tp : Addr), xs = [v, .ref tp] ∧ H tp = some (.tup [.ty T, .ty U]) ∧ RepB K H ok v y ∧ Q (.bl (isi T y || isi U y)) H
theorem c_is2 {T U : String} (ht : TyOk T) (hu : TyOk U) : CallR X (.builtin "isinstance") (rIs2 X.K T U) := by
  intro pins s σ H xs us Q I r h
  obtain ⟨ok, v, y, tp, rfl, hT, ry, q⟩ := h
  obtain ⟨u1, u2, rfl, r1, r2⟩ := vals2 r
  cases (show u2 = Value.ref tp from r2)
  obtain ⟨P, Z, p, hx⟩ := kit_rep I r1 ry
  obtain ⟨_, its, rv, o, h1, h2, n, h3⟩ := (show ObjOk X.prog X.w H s.heap tp (.tup [.ty T, .ty U]) from I.hok tp _ hT)
  obtain ⟨w1, w2, rfl, q1, q2⟩ := vals2 rv
  cases (show w1 = Value.type T from q1)
  cases (show w2 = Value.type U from q2)
  obtain ⟨oc, od, dt, sl⟩ := o
  simp only at h2 h3
  subst h2 h3
  have e : PySem.W.kitAny X.K (.type (tyN y)) [.type T, .type U] = some (isi T y || isi U y) := by
    refine kitAny_cons (kit_ty (ht _ (kind_mem ry))) (fun h => ?_) fun h => ?_
    · have h' : isi T y = false := h
      rw [h', Bool.false_or]
      refine kitAny_cons (kit_ty (hu _ (kind_mem ry))) (fun h2 => ?_) fun h2 => h2
      have h2' : isi U y = false := h2
      rw [h2']
      exact kitAny_nil
    · have h' : isi T y = true := h
      rw [h', Bool.true_or]
  exact PySem.W.kia_tup Z I.kIn p h1 e hx fun tk => ⟨.bl _, H, I.tok tk, rfl, q⟩
@[simp] def xIsi (k : PyData → Bool) (f : Fr → Res AV) : Fr → Res AV := fun fr => (f fr).bind fun a fr1 => match fr1.view a with
  | some y => .ok (.dat (.bool (k y))) fr1
  | none => .err
theorem ae_is1 {T : String} {n : Str} {p1 p2 : Pos} (ht : TyOk T) (hi : Gl X "isinstance") (mi : X.mg "isinstance" = none) (hg : Gl X n) (hm : X.mg n = none) (hv : bootBuiltins n = some (.type T)) (ha : AE X x a f)
    (hn : n ≠ "__name__" := by decide) (hdb : (n == ("__debug__" : Str)) = false := by decide) (hst : starEach [a, .Name n p2] X.env = (false, eval a X.env) :: starEach [.Name n p2] X.env := by rfl) :
    AE X x (.Call (.Name "isinstance" p1) [a, .Name n p2] [] pos) (xIsi (isi T) f) := by
  refine (pe_callB (c_is1 ht) hi mi (by decide +kernel) (pa_cons ha (pa_cons (pe_bltn (v := .ty T) hg hm hv rfl hn hdb) pa_nil) hst) (by decide) (by decide) hst).imp fun σ H Q ⟨c, fr, ad, F, o⟩ => ?_
  refine ⟨c, fr, ad, F, (Out.bind F o).mono fun av fr1 ad1 H1 F1 m1 o1 v rv => ?_⟩
  cases q1 : fr1.view av with
  | none => rw [q1] at o1; exact o1.elim
  | some y =>
    rw [q1] at o1
    exact ⟨okP c ad1, v, y, rfl, view_rep F1 rv q1, o1 ad1 H1 F1 Mv.refl _ (.bl _)⟩
theorem ae_is2 {T U : String} {n m : Str} {k : Nat} {p1 p2 p3 p4 : Pos} (ht : TyOk T) (hu : TyOk U) (hi : Gl X "isinstance") (mi : X.mg "isinstance" = none) (hg : Gl X n) (hm : X.mg n = none) (hv : bootBuiltins n = some (.type T)) (hg2 : Gl X m) (hm2 : X.mg m = none) (hv2 : bootBuiltins m = some (.type U)) (ha : AE X x a f)
    (hn : n ≠ "__name__" := by decide) (hdb : (n == ("__debug__" : Str)) = false := by decide) (hn2 : m ≠ "__name__" := by decide) (hdb2 : (m == ("__debug__" : Str)) = false := by decide) (hst : starEach [a, .Tuple [.Name n p2, .Name m p3] k p4] X.env = (false, eval a X.env) :: starEach [.Tuple [.Name n p2, .Name m p3] k p4] X.env := by rfl) :
    AE X x (.Call (.Name "isinstance" p1) [a, .Tuple [.Name n p2, .Name m p3] k p4] [] pos) (xIsi (fun y => isi T y || isi U y) f) := by
  refine (pe_callB (c_is2 ht hu) hi mi (by decide +kernel) (pa_cons ha (pa_cons (pe_tup (pa_cons (pe_bltn (v := .ty T) hg hm hv rfl hn hdb) (pa_cons (pe_bltn (v := .ty U) hg2 hm2 hv2 rfl hn2 hdb2) pa_nil))) pa_nil) hst) (by decide) (by decide) hst).imp fun σ H Q ⟨c, fr, ad, F, o⟩ => ?_
  refine ⟨c, fr, ad, F, (Out.bind F o).mono fun av fr1 ad1 H1 F1 m1 o1 v rv => ?_⟩
  cases q1 : fr1.view av with
  | none => rw [q1] at o1; exact o1.elim
  | some y =>
    rw [q1] at o1
    refine ⟨by show 2 ≤ sizeLine; rw [sizeLine_eq]; decide, fun p hp => ?_⟩
    have gr : Grow H1 (upd H1 p (.tup [.ty T, .ty U])) := Grow.new hp
    refine ⟨okP c ad1, v, y, p, rfl, upd_same, ?_, o1 ad1 _ (F1.grow gr) (Mv.grow gr) _ (.bl _)⟩
    exact view_rep (F1.grow gr) (RepA.mv F1 (Mv.grow gr) rv) q1
end
end G
namespace G
open PySem PySem.Spec PyProof.Rows L2
inductive SRes where
  | nx (f : Fr)
  | ret (a : AV) (f : Fr)
  | bk (f : Fr)
  | ct (f : Fr)
  | exc (c : Str) (fs : List (Str × PyData)) (f : Fr)
  | err
def SOut (p : Par) (x : XW) (c : Ent) (r : SRes) (D : Ends) : Prop := match r with
  | .nx fr' => ∀ ad' σ' H', FR p c fr' ad' σ' H' → D.nx σ' H'
  | .ret a fr' => ∀ ad' σ' H' v, FR p c fr' ad' σ' H' → RepA p H' (okP c ad') ad' v a → D.rt v H'
  | .bk fr' => ∀ ad' σ' H', FR p c fr' ad' σ' H' → D.bk σ' H'
  | .ct fr' => ∀ ad' σ' H', FR p c fr' ad' σ' H' → D.ct σ' H'
  | .exc cl fs fr' => ∀ ad' σ' H' C d, FR p c fr' ad' σ' H' → x.C cl fs H' C d → x.W C d σ' H'
  | .err => False
def tS (p : Par) (x : XW) (f : Fr → SRes) : TS := fun D σ H => ∃ c fr ad, FR p c fr ad σ H ∧ SOut p x c (f fr) D
abbrev AS (X : Cx) (x : XW) (st : Stmt) (f : Fr → SRes) : Prop := PS X st (tS (pX X) x f)
abbrev ASs (X : Cx) (x : XW) (st : List Stmt) (f : Fr → SRes) : Prop := PSs X st (tS (pX X) x f)
/-- from an expression's result to a statement's -/
@[simp] def Res.toS {α : Type} (r : Res α) (k : α → Fr → SRes) : SRes := match r with
  | .ok a f => k a f
  | .exc c fs f => .exc c fs f
  | .err => .err
@[simp] def SRes.then (r : SRes) (k : Fr → SRes) : SRes := match r with
  | .nx f => k f
  | r => r
section
variable {p : Par} {c : Ent} {fr : Fr} {ad : List (Option Addr)} {σ : L2.St} {H H' : Hp}
@[simp] def Fr.setv (fr : Fr) (i : Nat) (a : Option AV) : Fr := ⟨fr.vars.set i a, fr.cells, fr.base⟩
theorem FR.setv (F : FR p c fr ad σ H) {i : Nat} {v : V} {a : AV} (r : RepA p H (okP c ad) ad v a) : FR p c (fr.setv i (some a)) ad (σ.set i (some v)) H where
  len := by simp [Fr.setv, F.len]
  var := fun j av e => by
    by_cases h : i = j
    · subst h
      by_cases hl : i < fr.vars.length
      · rw [Fr.setv, List.getElem?_set_self hl] at e
        cases e
        exact ⟨v, List.getElem?_set_self (by rw [← F.len]; exact hl), r⟩
      · rw [Fr.setv, List.getElem?_eq_none (by simpa using hl)] at e
        cases e
    · rw [Fr.setv, List.getElem?_set_ne h] at e
      obtain ⟨w, h1, h2⟩ := F.var j av e
      exact ⟨w, by rw [List.getElem?_set_ne h]; exact h1, h2⟩
  clen := F.clen
  cel := F.cel
  nd := F.nd
  old := F.old
  sub := F.sub
  adw := F.adw
  gh := F.gh
  pr := F.pr
  bs := F.bs
  tabs := F.tabs
/-- slots forgotten -/
@[simp] def kill : List Nat → List (Option AV) → List (Option AV)
  | [], vs => vs
  | i :: is, vs => (kill is vs).set i none
theorem kill_len (vs : List (Option AV)) : ∀ is : List Nat, (kill is vs).length = vs.length
  | [] => rfl
  | i :: is => by rw [kill, List.length_set, kill_len vs is]
theorem kill_some {vs : List (Option AV)} {j : Nat} {a : AV} : ∀ {is : List Nat}, (kill is vs)[j]? = some (some a) → vs[j]? = some (some a) ∧ j ∉ is
  | [], h => ⟨h, by simp⟩
  | i :: is, h => by
    rw [kill] at h
    by_cases hi : i = j
    · subst hi
      by_cases hl : i < (kill is vs).length
      · rw [List.getElem?_set_self hl] at h; cases h
      · rw [List.getElem?_eq_none (by simpa using hl)] at h; cases h
    · rw [List.getElem?_set_ne hi] at h
      obtain ⟨h1, h2⟩ := kill_some h
      exact ⟨h1, by simp only [List.mem_cons, not_or]; exact ⟨fun e => hi e.symm, h2⟩⟩
@[simp] def Fr.kill (fr : Fr) (is : List Nat) : Fr := ⟨G.kill is fr.vars, fr.cells, fr.base⟩
theorem FR.kill (F : FR p c fr ad σ H) (is : List Nat) : FR p c (fr.kill is) ad σ H where
  len := by rw [Fr.kill, kill_len]; exact F.len
  var := fun j av e => F.var j av (kill_some e).1
  clen := F.clen
  cel := F.cel
  nd := F.nd
  old := F.old
  sub := F.sub
  adw := F.adw
  gh := F.gh
  pr := F.pr
  bs := F.bs
  tabs := F.tabs
/-- a new cell, at a new place -/
@[simp] def Fr.newc (fr : Fr) (cl : Cell) : Fr := ⟨fr.vars, fr.cells ++ [cl], fr.base⟩
theorem snoc_at {α : Type} {l : List α} {x y : α} {i : Nat} (h : (l ++ [x])[i]? = some y) : l[i]? = some y ∨ (i = l.length ∧ y = x) := by
  by_cases hi : i < l.length
  · rw [List.getElem?_append_left hi] at h; exact .inl h
  · rw [List.getElem?_append_right (Nat.le_of_not_lt hi)] at h
    cases hk : i - l.length with
    | zero => rw [hk] at h; simp at h; exact .inr ⟨by omega, h.symm⟩
    | succ n => rw [hk] at h; simp at h
theorem snoc_pre {α : Type} {l : List α} {x y : α} {i : Nat} (h : l[i]? = some y) : (l ++ [x])[i]? = some y := by
  have hi : i < l.length := by
    rcases Nat.lt_or_ge i l.length with q | q
    · exact q
    · rw [List.getElem?_eq_none q] at h; cases h
  rw [List.getElem?_append_left hi]; exact h
theorem mv_new {a : Addr} {o : HO} (n : H a = none) : Mv H ad (upd H a o) (ad ++ [some a]) where
  keep := fun b u e _ _ => Grow.new n b u e
  pre := fun i x e => snoc_pre e
  new := fun b h => by
    rcases List.mem_append.mp h with q | q
    · exact .inl q
    · have e : b = a := by simpa using q
      exact .inr (by rw [e]; exact n)
  there := fun b h => by
    by_cases e : b = a
    · subst e; rw [upd_same]; simp
    · rw [upd_ne e]; exact h
theorem he_new (F : FR p c fr ad σ H) {a : Addr} (n : H a = none) : c.He a = none := by
  cases q : c.He a with
  | none => rfl
  | some o =>
    by_cases hw : a ∈ c.W0
    · obtain ⟨i, e⟩ := mem_at hw
      obtain ⟨o', e', _⟩ := F.track (List.mem_of_getElem? (F.sub i a e))
      rw [n] at e'; cases e'
    · obtain ⟨o', this, _⟩ := F.old a o q hw
      rw [n] at this; cases this
theorem FR.newc (F : FR p c fr ad σ H) {a : Addr} {o : HO} {cl : Cell} (n : H a = none) (q : ∀ ok : Addr → Prop, (∀ b u, okP c ad b → H b = some u → ok b) → CellAt p (upd H a o) ok (rfA c.lo ad ad.length) a cl) : FR p c (fr.newc cl) (ad ++ [some a]) σ (upd H a o) := by
  have m : Mv H ad (upd H a o) (ad ++ [some a]) := mv_new n
  refine ⟨F.len, fun i av e => ?_, by simp [Fr.newc, F.clen], fun i b e => ?_, fun i j b e1 e2 => ?_, fun b u e h => ?_, fun i b e => snoc_pre (F.sub i b e), fun b h => ?_, fun g hg => ⟨(F.gh g hg).1, RepA.mv F m (F.gh g hg).2⟩, m.prs F, F.bs, ((F.tabs.add (a := a) fun c q h z => by rw [z, n] at h; cases h).sub fun b z => by
    simp only [List.mem_append] at z ⊢
    rcases z with (z | z) | z
    · exact .inl (.inl z)
    · exact .inr z
    · exact .inl (.inr z)).grow (Grow.new n)⟩
  · obtain ⟨v, h1, h2⟩ := F.var i av e
    exact ⟨v, h1, RepA.mv F m h2⟩
  · rcases snoc_at e with e | ⟨hi, e⟩
    · obtain ⟨cl', h1, h2⟩ := F.cel i b e
      refine ⟨cl', snoc_pre h1, ?_⟩
      have g : Grow H (upd H a o) := Grow.new n
      exact CellAt.rfm (rfA_pre fun k b _ z => snoc_pre z) (CellAt.keep (m.kp F) (fun u z => g _ _ z) h2)
    · cases e
      refine ⟨cl, ?_, CellAt.rfm (by rw [hi]; exact rfA_pre fun k b _ z => snoc_pre z) (q _ fun b u h1 h2 => ((m.kp F).l b u h1 h2).1)⟩
      rw [Fr.newc, hi, ← F.clen]
      simp
  · rcases snoc_at e1 with z1 | ⟨i1, z1⟩
    · rcases snoc_at e2 with z2 | ⟨i2, z2⟩
      · exact F.nd i j b z1 z2
      · cases z2
        obtain ⟨o', e', _⟩ := F.track (List.mem_of_getElem? z1)
        rw [n] at e'; cases e'
    · cases z1
      rcases snoc_at e2 with z2 | ⟨i2, z2⟩
      · obtain ⟨o', e', _⟩ := F.track (List.mem_of_getElem? z2)
        rw [n] at e'; cases e'
      · omega
  · obtain ⟨o', q1, q2⟩ := F.old b u e h
    exact ⟨o', Grow.new n b o' q1, q2⟩
  · rcases List.mem_append.mp h with z | z
    · exact F.adw b z
    · have e : b = a := by simpa using z
      subst e
      exact .inr (he_new F n)
/-- a cell is written -/
@[simp] def Fr.putc (fr : Fr) (i : Nat) (cl : Cell) : Fr := ⟨fr.vars, fr.cells.set i cl, fr.base⟩
theorem FR.putc (F : FR p c fr ad σ H) {i : Nat} {a : Addr} {o : HO} {cl : Cell} (e : ad[i]? = some (some a)) (ht : TupK H (upd H a o)) (q : CellAt p (upd H a o) (okP c ad) (rfA c.lo ad i) a cl) : FR p c (fr.putc i cl) ad σ (upd H a o) := by
  have hm : some a ∈ ad := List.mem_of_getElem? e
  have kp : Keep H (upd H a o) (okP c ad) (okP c ad) := ⟨fun b u h hb => ⟨h, fun _ => by
    have ne : b ≠ a := fun z => h.2 (by rw [z]; exact hm)
    rw [upd_ne ne]; exact hb⟩, ht⟩
  have hne : ∀ j b, ad[j]? = some (some b) → j ≠ i → b ≠ a := fun j b hb hj z => hj (F.nd j i a (by rw [← z]; exact hb) e)
  have rep : ∀ {v : V} {av : AV}, RepA p H (okP c ad) ad v av → RepA p (upd H a o) (okP c ad) ad v av := fun {v av} h2 => by
    cases av with
    | dat y => exact Rep.keep kp h2
    | dct tp kvs =>
      obtain ⟨b, rfl, hb, d⟩ := h2
      have ne : b ≠ a := fun z => hb.2 (by rw [z]; exact hm)
      exact ⟨b, rfl, hb, d.keep kp fun u z => by rw [upd_ne ne]; exact z⟩
    | cel k => exact h2
    | fn n _ => exact h2
    | pin φ =>
      obtain ⟨b, rfl, hb, d⟩ := h2
      have ne : b ≠ a := fun z => hb.2 (by rw [z]; exact hm)
      exact ⟨b, rfl, hb, by rw [upd_ne ne]; exact d⟩
    | brd rms cks k =>
      obtain ⟨b, u0, rfl, hb, d, z⟩ := h2
      have ne : b ≠ a := fun z => hb.2 (by rw [z]; exact hm)
      exact ⟨b, u0, rfl, hb, d.keep kp fun u z => by rw [upd_ne ne]; exact z, z⟩
    | scr ns =>
      obtain ⟨hl, b, rfl, z⟩ := h2
      refine ⟨hl, b, rfl, ?_⟩
      rcases z with ⟨u, z⟩ | z
      · refine .inl ⟨u, ?_⟩
        have ne : b ≠ a := fun w => by
          obtain ⟨cl', _, y⟩ := F.cel i a e
          rw [w] at z
          obtain ⟨o', y1, _, _, y4⟩ := y.there
          rw [z] at y1
          exact y4 u (ns.map V.int) (Option.some.inj y1).symm
        rw [upd_ne ne]; exact z
      · exact .inr z
  refine ⟨F.len, fun j av e2 => ?_, by simp [Fr.putc, F.clen], fun j b e2 => ?_, F.nd, fun b u h1 h2 => ?_, F.sub, F.adw, fun g hg => ⟨(F.gh g hg).1, rep (F.gh g hg).2⟩, fun b hb => ⟨(F.pr b hb).1, by
    obtain ⟨n, vs, z⟩ := F.pr b hb
    exact ⟨vs, by rw [upd_ne fun w => n (by rw [w]; exact hm)]; exact z⟩⟩, F.bs, by
    obtain ⟨o0, z, _⟩ := F.track hm
    exact F.tabs.put (adp_l _ hm) z (F.trackN hm z)⟩
  · obtain ⟨v, h1, h2⟩ := F.var j av e2
    exact ⟨v, h1, rep h2⟩
  · by_cases hj : j = i
    · subst hj
      rw [e] at e2; cases e2
      obtain ⟨cl', h1, _⟩ := F.cel j a e
      have hi : j < fr.cells.length := by
        rcases Nat.lt_or_ge j fr.cells.length with z | z
        · exact z
        · rw [List.getElem?_eq_none z] at h1; cases h1
      exact ⟨cl, List.getElem?_set_self hi, q⟩
    · obtain ⟨cl', h1, h2⟩ := F.cel j b e2
      have ne := hne j b e2 hj
      exact ⟨cl', by rw [Fr.putc, List.getElem?_set_ne (Ne.symm hj)]; exact h1, CellAt.keep kp (fun u z => by rw [upd_ne ne]; exact z) h2⟩
  · by_cases hb : b = a
    · subst hb
      rcases F.adw b hm with z | z
      · exact absurd z h2
      · rw [z] at h1; cases h1
    · rw [upd_ne hb]; exact F.old b u h1 h2
/-- a cell is given up: its names hold what it held -/
@[simp] def frzv (i : Nat) (a : AV) : Option AV → Option AV
  | some (.cel j) => if j = i then some a else some (.cel j)
  | some (.brd rooms cooks j) => if j = i then none else some (.brd rooms cooks j)
  | v => v
@[simp] def celv : Cell → Option AV
  | .lst xs => some (.dat (.list xs))
  | .dct tp kvs => some (.dct tp kvs)
  | .gone => none
  | .rows _ => none
  | .obj _ _ => none
/-- only a cell of one's own -/
@[simp] def Fr.frz (fr : Fr) (i : Nat) : Option Fr := if fr.base ≤ i then (match fr.cells[i]? with
  | some cl => (match celv cl with
    | some a => if (fr.cells.drop (i + 1)).any isRow = true then none else some ⟨fr.vars.map (frzv i a), fr.cells.set i .gone, fr.base⟩
    | none => none)
  | none => none) else none
end
theorem RepL.mono {K : PySem.W.Frag} {H : Hp} {ok ok' : Addr → Prop} (h : ∀ a, ok a → ok' a) {vs : List V} {xs : List PyData} (r : RepL K H ok vs xs) : RepL K H ok' vs xs := r.keep ⟨fun a o ha e => ⟨h a ha, fun _ => e⟩, tk_same⟩
theorem Rep.mono {K : PySem.W.Frag} {H : Hp} {ok ok' : Addr → Prop} (h : ∀ a, ok a → ok' a) {v : V} {y : PyData} (r : Rep K H ok v y) : Rep K H ok' v y := r.keep ⟨fun a o ha e => ⟨h a ha, fun _ => e⟩, tk_same⟩
theorem DctAt.mono {p : Par} {H : Hp} {ok ok' : Addr → Prop} (h : ∀ a, ok a → ok' a) {a : Addr} {tp : Bool} {kvs : List (PyData × PyData)} (r : DctAt p H ok a tp kvs) : DctAt p H ok' a tp kvs := r.keep ⟨fun a o ha e => ⟨h a ha, fun _ => e⟩, tk_same⟩ fun _ z => z
section
variable {p : Par} {c : Ent} {fr fr2 : Fr} {ad : List (Option Addr)} {σ : L2.St} {H H' : Hp}
theorem DctR.mono {p : Par} {H : Hp} {ok ok' : Addr → Prop} (h : ∀ a, ok a → ok' a) {a : Addr} {tp : Bool} {kvs : List (PyData × PyData)} (r : DctR p H ok a tp kvs) : DctR p H ok' a tp kvs := by
  rcases r with d | ⟨z, o, ks, e, r⟩
  · exact .inl (d.mono h)
  · exact .inr ⟨z, o, ks, e, Paired.mapP r fun _ _ ⟨h1, h2, h3⟩ => ⟨h1, h2, h3.mono h⟩⟩
theorem BrdAt.mono {p : Par} {H : Hp} {ok ok' : Addr → Prop} (h : ∀ a, ok a → ok' a) {a u : Addr} {rooms : List (PyData × PyData)} {cooks : PyData} (d : BrdAt p H ok a u rooms cooks) : BrdAt p H ok' a u rooms cooks := by
  obtain ⟨dx, r, vc, e, h1, h2, h3⟩ := d
  exact ⟨dx, r, vc, e, h r h1, h2.mono h, h3.mono h⟩
theorem FR.frz (F : FR p c fr ad σ H) {i : Nat} (h : fr.frz i = some fr2) : ∃ ad', FR p c fr2 ad' σ H := by
  unfold Fr.frz at h
  split at h
  rotate_left
  · cases h
  rename_i hk
  rw [F.bs] at hk
  cases q1 : fr.cells[i]? with
  | none => rw [q1] at h; cases h
  | some cl =>
    rw [q1] at h
    simp only at h
    cases q2 : celv cl with
    | none => rw [q2] at h; cases h
    | some av =>
      rw [q2] at h
      simp only at h
      split at h
      · cases h
      rename_i hnr
      cases h
      refine ⟨ad.set i none, ?_⟩
      have hi : i < ad.length := by
        rw [← F.clen]
        rcases Nat.lt_or_ge i fr.cells.length with z | z
        · exact z
        · rw [List.getElem?_eq_none z] at q1; cases q1
      have mono : ∀ b, okP c ad b → okP c (ad.set i none) b := fun b hb => ⟨hb.1, fun hm => by
        obtain ⟨j, e⟩ := mem_at hm
        by_cases hj : i = j
        · subst hj; rw [List.getElem?_set_self hi] at e; cases e
        · rw [List.getElem?_set_ne hj] at e; exact hb.2 (List.mem_of_getElem? e)⟩
      have okA : ∀ a, ad[i]? = some (some a) → okP c (ad.set i none) a := fun a ha => by
        refine ⟨⟨.inl ?_, fun hp => (F.pr a hp).1 (List.mem_of_getElem? ha)⟩, fun hm => ?_⟩
        · rcases F.adw a (List.mem_of_getElem? ha) with z | z
          · obtain ⟨j, e⟩ := mem_at z
            have := F.nd j i a (F.sub j a e) ha
            have hj : j < c.W0.length := by
              rcases Nat.lt_or_ge j c.W0.length with y | y
              · exact y
              · rw [List.getElem?_eq_none y] at e; cases e
            omega
          · exact z
        · obtain ⟨j, e⟩ := mem_at hm
          by_cases hj : i = j
          · subst hj; rw [List.getElem?_set_self hi] at e; cases e
          · rw [List.getElem?_set_ne hj] at e; exact hj (F.nd i j a ha e)
      have repA : ∀ a, ad[i]? = some (some a) → RepA p H (okP c (ad.set i none)) (ad.set i none) (.ref a) av := fun a ha => by
        obtain ⟨cl', h1, h2⟩ := F.cel i a ha
        rw [q1] at h1; cases h1
        cases cl with
        | lst ds =>
          cases q2
          obtain ⟨xs, h3, hz, h4⟩ := h2
          exact .lst (okA a ha) h3 hz (h4.mono mono)
        | dct tp kvs =>
          cases q2
          exact ⟨a, rfl, okA a ha, (h2.mono mono).r⟩
        | gone => exact h2.elim
        | rows _ => cases q2
        | obj _ _ => cases q2
      refine ⟨by simp [F.len], fun j bv e => ?_, by simp [F.clen], fun j b e => ?_, fun j k b e1 e2 => ?_, F.old, fun j b e => ?_, fun b hm => ?_, fun g hg => ⟨(F.gh g hg).1, ?_⟩, fun b hb => ⟨fun hm => ?_, (F.pr b hb).2⟩, F.bs, F.tabs.sub <| adp_sub fun a hm => by
        obtain ⟨j, e⟩ := mem_at hm
        by_cases hj : i = j
        · subst hj; rw [List.getElem?_set_self hi] at e; cases e
        · rw [List.getElem?_set_ne hj] at e; exact List.mem_of_getElem? e⟩
      · rw [List.getElem?_map] at e
        cases q3 : fr.vars[j]? with
        | none => rw [q3] at e; cases e
        | some w =>
          rw [q3] at e
          have e' : frzv i av w = some bv := Option.some.inj e
          cases w with
          | none => cases e'
          | some w =>
            obtain ⟨v, h1, h2⟩ := F.var j w q3
            refine ⟨v, h1, ?_⟩
            cases w with
            | dat y => cases e'; exact Rep.mono mono h2
            | dct tp kvs =>
              cases e'
              obtain ⟨b, hb, h3, h4⟩ := h2
              exact ⟨b, hb, mono b h3, h4.mono mono⟩
            | scr ns => cases e'; exact h2
            | fn n _ => cases e'; exact h2
            | pin φ => cases e'; obtain ⟨b, hb, h3, h4⟩ := h2; exact ⟨b, hb, mono b h3, h4⟩
            | brd rms cks k =>
              obtain ⟨b, u0, rfl, hb, d, h3⟩ := h2
              have e'' : (if k = i then none else some (AV.brd rms cks k)) = some bv := e'
              split at e''
              · cases e''
              · rename_i hki
                cases e''
                exact ⟨b, u0, rfl, mono b hb, d.mono mono, by rw [List.getElem?_set_ne (Ne.symm hki)]; exact h3⟩
            | cel k =>
              obtain ⟨b, rfl, h3⟩ := h2
              have e'' : (if k = i then some av else some (.cel k)) = some bv := e'
              split at e''
              · rename_i hki
                subst hki
                cases e''
                exact repA b h3
              · rename_i hki
                cases e''
                exact ⟨b, rfl, by rw [List.getElem?_set_ne (Ne.symm hki)]; exact h3⟩
      · by_cases hj : i = j
        · subst hj; rw [List.getElem?_set_self hi] at e; cases e
        · rw [List.getElem?_set_ne hj] at e
          obtain ⟨cl', h1, h2⟩ := F.cel j b e
          refine ⟨cl', by rw [List.getElem?_set_ne hj]; exact h1, ?_⟩
          have h3 := CellAt.keep (ok' := okP c (ad.set i none)) ⟨fun a o ha e => ⟨mono a ha, fun _ => e⟩, tk_same⟩ (fun o z => z) h2
          by_cases hji : j < i
          · exact CellAt.rfm (rfA_pre fun k b hk z => by rw [List.getElem?_set_ne (by omega)]; exact z) h3
          · exact CellAt.nrow (any_row hnr (drop_mem (by omega) h1)) h3
      · by_cases hj : i = j
        · subst hj; rw [List.getElem?_set_self hi] at e1; cases e1
        · by_cases hk : i = k
          · subst hk; rw [List.getElem?_set_self hi] at e2; cases e2
          · rw [List.getElem?_set_ne hj] at e1
            rw [List.getElem?_set_ne hk] at e2
            exact F.nd j k b e1 e2
      · have hj : i ≠ j := fun z => by
          subst z
          rw [List.getElem?_eq_none hk] at e; cases e
        rw [List.getElem?_set_ne hj]; exact F.sub j b e
      · obtain ⟨j, e⟩ := mem_at hm
        by_cases hj : i = j
        · subst hj; rw [List.getElem?_set_self hi] at e; cases e
        · rw [List.getElem?_set_ne hj] at e; exact F.adw b (List.mem_of_getElem? e)
      · obtain ⟨h1, h2⟩ := F.gh g hg
        revert h1 h2
        cases g.2 with
        | dat y => exact fun _ h2 => Rep.mono mono h2
        | dct tp kvs => exact fun _ ⟨b, hb, h3, h4⟩ => ⟨b, hb, mono b h3, h4.mono mono⟩
        | cel k => exact fun h1 _ => nomatch h1
        | scr ns => exact fun h1 _ => nomatch h1
        | fn _ _ => exact fun h1 _ => nomatch h1
        | pin φ => exact fun _ ⟨b, hb, h3, h4⟩ => ⟨b, hb, mono b h3, h4⟩
        | brd _ _ _ => exact fun h1 _ => nomatch h1
      · obtain ⟨j, e⟩ := mem_at hm
        by_cases hj : i = j
        · subst hj; rw [List.getElem?_set_self hi] at e; cases e
        · rw [List.getElem?_set_ne hj] at e; exact (F.pr b hb).1 (List.mem_of_getElem? e)
end
end G
namespace G
open PySem PySem.Spec PyProof.Rows L2
@[simp] def sRet (f : Fr → Res AV) : Fr → SRes := fun fr => (f fr).toS fun a fr1 => .ret a fr1
@[simp] def sRetN : Fr → SRes := fun fr => .ret (.dat .none) fr
@[simp] def sDrop (f : Fr → Res AV) : Fr → SRes := fun fr => (f fr).toS fun _ fr1 => .nx fr1
@[simp] def sSet (i : Nat) (f : Fr → Res AV) : Fr → SRes := fun fr => (f fr).toS fun a fr1 => .nx (fr1.setv i (some a))
@[simp] def sNx : Fr → SRes := fun fr => .nx fr
@[simp] def sCt : Fr → SRes := fun fr => .ct fr
@[simp] def sSeq (f g : Fr → SRes) : Fr → SRes := fun fr => (f fr).then g
@[simp] def sIf (t : Fr → Res Bool) (f g : Fr → SRes) : Fr → SRes := fun fr => (t fr).toS fun b fr1 => if b = true then f fr1 else g fr1
/-- slots are forgotten first -/
@[simp] def sKill (is : List Nat) (f : Fr → SRes) : Fr → SRes := fun fr => f (fr.kill is)
@[simp] def sApp (i : Nat) (f : Fr → Res AV) : Fr → SRes := fun fr => match fr.vars[i]? with
  | some (some (.cel k)) => (match fr.cells[k]? with
    | some (.lst _) => (f fr).toS fun a fr1 => (match a, fr1.cells[k]? with
      | .dat y, some (.lst xs) => if xs.length < 1000000 then .nx (fr1.putc k (.lst (xs ++ [y]))) else .err
      | _, _ => .err)
    | _ => .err)
  | _ => .err
/-- name[..] = ..: the value first -/
@[simp] def sSetIx (i : Nat) (fi fv : Fr → Res AV) : Fr → SRes := fun fr => (fv fr).toS fun a fr1 => match fr1.vars[i]? with
  | some (some (.cel k)) => (fi fr1).toS fun b fr2 => (match a, b, fr2.cells[k]? with
    | .dat y, .dat (.int n), some (.lst xs) => (match ixN xs.length n with
      | some j => .nx (fr2.putc k (.lst (xs.set j y)))
      | none => .err)
    | _, _, _ => .err)
  | _ => .err
section
variable {α : Type} {p : Par} {x : XW} {c : Ent} {ad : List (Option Addr)} {σ : L2.St} {H : Hp} {r : Res α} {k : α → Fr → SRes} {D : Ends}
theorem SOut.of {fr : Fr} (F : FR p c fr ad σ H) (o : SOut p x c (r.toS k) D) : Out p x c ad σ H r fun a fr1 _ _ => SOut p x c (k a fr1) D := by
  cases r with
  | ok a fr' => exact fun ad' H' F' m => o
  | exc cl fs fr' => exact fun ad' H' C d F' m h => o ad' σ H' C d F' h
  | err => exact o
end
section
variable {X : Cx} {x : XW} {a b d : Expr} {f g h : Fr → Res AV} {pos : Pos} {st : Stmt} {s t u : Fr → SRes}
theorem as_ret (ha : AE X x a f) : AS X x (.Return (some a) pos) (sRet f) :=
  (ps_ret ha).imp fun D σ H ⟨c, fr, ad, F, o⟩ => ⟨c, fr, ad, F, (SOut.of F o).mono fun av fr1 ad1 H1 F1 m1 o1 v rv => o1 ad1 σ H1 v F1 rv⟩
theorem as_set {i : Nat} {n : Str} {p1 : Pos} (hN : X.N.Nodup) (hi : X.N[i]? = some n) (hx : Loc X.env.scope n) (ha : AE X x a f) (hs : swapsWith a (some (.Name n p1)) pos.line X.env = pure false := by rfl)
    (hf : X.fn n = true ∨ X.env.scope.names.lookup n = some .local := by first | exact .inl rfl | exact .inr rfl | assumption) : AS X x (.Assign [.Name n p1] a pos) (sSet i f) :=
  (ps_set hN hi hx ha hs hf).imp fun D σ H ⟨c, fr, ad, F, o⟩ => ⟨c, fr, ad, F, (SOut.of F o).mono fun av fr1 ad1 H1 F1 m1 o1 v rv => o1 ad1 _ H1 (F1.setv rv)⟩
theorem as_nil : ASs X x [] sNx := pss_nil.imp fun D σ H ⟨c, fr, ad, F, o⟩ => o ad σ H F
theorem SOut.seq {p : Par} {c : Ent} {fr : Fr} {D : Ends} (o : SOut p x c ((s fr).then t) D) : SOut p x c (s fr) { D with nx := tS p x t D } := by
  cases q : s fr with
  | nx fr1 => rw [q] at o; exact fun ad' σ' H' F => ⟨c, fr1, ad', F, o⟩
  | ret a fr1 => rw [q] at o; exact o
  | bk fr1 => rw [q] at o; exact o
  | ct fr1 => rw [q] at o; exact o
  | exc cl fs fr1 => rw [q] at o; exact o
  | err => rw [q] at o; exact o
theorem as_cons {rest : List Stmt} (h1 : AS X x st s) (h2 : ASs X x rest t) : ASs X x (st :: rest) (sSeq s t) :=
  (pss_cons h1 h2).imp fun D σ H ⟨c, fr, ad, F, o⟩ => ⟨c, fr, ad, F, SOut.seq o⟩
theorem as_one (h1 : AS X x st s) : ASs X x [st] s := pss_one h1
theorem as_if {tt : Fr → Res Bool} {as bs : List Stmt} (hc : AT X x a tt) (ha : ASs X x as s) (hb : ASs X x bs t) : AS X x (.If a as bs pos) (sIf tt s t) := by
  refine (ps_if hc ha hb).imp fun D σ H ⟨c, fr, ad, F, o⟩ => ⟨c, fr, ad, F, (SOut.of F o).mono fun k fr1 ad1 H1 F1 m1 o1 => ?_⟩
  cases k with
  | true => exact ⟨c, fr1, ad1, F1, o1⟩
  | false => exact ⟨c, fr1, ad1, F1, o1⟩
theorem ass_kill (is : List Nat) {ss : List Stmt} (h1 : ASs X x ss s) : ASs X x ss (sKill is s) := L2.PSs.imp h1 fun D σ H ⟨c, fr, ad, F, o⟩ => ⟨c, _, ad, F.kill is, o⟩
theorem cell_lst {p : Par} {c : Ent} {fr : Fr} {ad : List (Option Addr)} {σ : L2.St} {H : Hp} (F : FR p c fr ad σ H) {k : Nat} {l : Addr} {xs : List PyData} (e : ad[k]? = some (some l)) (q : fr.cells[k]? = some (.lst xs)) : ∃ vs, H l = some (.lst vs) ∧ xs.length ≤ sizeLine ∧ RepL p.K H (okP c ad) vs xs := by
  obtain ⟨cl, h1, h2⟩ := F.cel k l e
  rw [q] at h1; cases h1
  exact h2
/-- a list that is written: what else is said stands -/
theorem wr_t {H : Hp} {l : Addr} {vs : List V} {o : HO} (e : H l = some (.lst vs)) : TupK H (upd H l o) := fun b xs => by
  have ne : ∀ u, H b = some u → u ≠ .lst vs → b ≠ l := fun u h n z => by
    subst z
    rw [e] at h
    exact n (Option.some.inj h).symm
  refine ⟨fun r => ?_, fun u r => by rw [upd_ne (ne _ r (fun z => nomatch z))]; exact r⟩
  rcases r with r | ⟨u, r⟩
  · exact .inl (by rw [upd_ne (ne _ r (fun z => nomatch z))]; exact r)
  · exact .inr ⟨u, by rw [upd_ne (ne _ r (fun z => nomatch z))]; exact r⟩
theorem wr_k {c : Ent} {ad : List (Option Addr)} {H : Hp} {l : Addr} {vs : List V} {o : HO} (m : some l ∈ ad) (e : H l = some (.lst vs)) : Keep H (upd H l o) (okP c ad) (okP c ad) :=
  ⟨fun b u h hb => ⟨h, fun _ => by rw [upd_ne fun z => h.2 (by rw [z]; exact m)]; exact hb⟩, wr_t e⟩
theorem as_app {i : Nat} {n : Str} {p1 p2 p3 : Pos} (hN : X.N[i]? = some n) (hv : Vis X.env.scope n) (ha : AE X x a f) (hd : (n == ("__debug__" : Str)) = false := by decide) (hcd : (n == ("__classdict__" : Str)) = false := by decide)
    (hst : starEach [a] X.env = (false, eval a X.env) :: starEach [] X.env := by rfl)
    (hfew : ((backTo p3 (starEach [a] X.env)).all (fun z => !z.1) && (backToKw p3 (keywordEach [] X.env)).all (fun z => z.1.isSome) && decide ([a].length + ([] : List Keyword).length + (if ([] : List Keyword).isEmpty then 0 else 1) < 30)) = true := by rfl)
    (hline : (p2.endLine == p3.line) = true := by rfl)
    (hs : swapsWith (.Call (.Attribute (.Name n p1) "append" p2) [a] [] p3) none pos.line X.env = pure false := by rfl) : AS X x (.Expr (.Call (.Attribute (.Name n p1) "append" p2) [a] [] p3) pos) (sApp i f) := by
  refine (ps_expr (pe_bm PySem.F.plainAttrs_list PySem.F.slot_list_append PySem.F.type_list_append mt_append (pe_var hN hv hd hcd) (pa_cons ha pa_nil hst) rfl hfew hline hst) hs).imp fun D σ H ⟨c, fr, ad, F, o⟩ => ?_
  unfold sApp at o
  cases q : fr.vars[i]? with
  | none => rw [q] at o; exact o.elim
  | some w =>
    rw [q] at o
    cases w with
    | none => exact o.elim
    | some av =>
      obtain ⟨v, h1, h2⟩ := F.var i av q
      cases av with
      | cel k =>
        obtain ⟨l, rfl, hl⟩ := h2
        obtain ⟨cl, hc, hcl⟩ := F.cel k l hl
        simp only [hc] at o
        cases cl with
        | dct tp kvs => exact o.elim
        | gone => exact o.elim
        | rows _ => exact o.elim
        | obj _ _ => exact o.elim
        | lst ds =>
          simp only at o
          obtain ⟨xs0, h0, _⟩ := hcl
          refine ⟨_, h1, .inl ⟨rfl, xs0, SqL.of h0⟩, c, fr, ad, F, ?_⟩
          refine (SOut.of F o).mono fun av fr1 ad1 H1 F1 m1 o1 w rw_ => ?_
          cases av with
          | dat y =>
            cases q2 : fr1.cells[k]? with
            | none => simp only [q2] at o1; exact o1.elim
            | some cl1 =>
              cases cl1 with
              | lst xs =>
                simp only [q2] at o1
                split at o1
                · rename_i hz
                  have e1 := m1.pre k _ hl
                  obtain ⟨vs, h3, hz3, h4⟩ := cell_lst F1 e1 q2
                  have e2 := h4.length
                  refine ⟨l, vs, w, rfl, rfl, h3, by rw [sizeLine_eq]; omega, ?_⟩
                  have m := List.mem_of_getElem? e1
                  exact o1 _ _ _ (F1.putc e1 (wr_t h3) ⟨_, upd_same, by rw [List.length_append]; exact sz6 (by simp; omega), RepL.append (h4.keep (wr_k m h3)) (.cons (Rep.keep (wr_k m h3) rw_) .nil)⟩)
                · exact o1.elim
              | _ => simp only [q2] at o1; exact o1.elim
          | _ => exact o1.elim
      | _ => exact o.elim
end
end G
namespace G
open PySem PySem.Spec PyProof.Rows L2
inductive CRes where
  | ok (r : AV) (cs : List Cell)
  | exc (c : Str) (fs : List (Str × PyData)) (cs : List Cell)
  | err
abbrev AFun := List AV → List Cell → CRes
def okF (H : Hp) (S : Addr → Prop) (W0 : List Addr) (a : Addr) : Prop := (H a = none ∨ S a) ∧ a ∉ W0
structure PostF (p : Par) (H : Hp) (S : Addr → Prop) (W0 : List Addr) (cs : List Cell) (H' : Hp) : Prop where
  keep : ∀ b o, H b = some o → b ∉ W0 → nt o → H' b = some o
  there : ∀ b, H b ≠ none → H' b ≠ none
  cel : ∀ (i : Nat) (a : Addr), W0[i]? = some a → ∃ cl, cs[i]? = some cl ∧ CellAt p H' (okF H S W0) (fun _ => none) a cl
  tabs : TabF p.K H H' []
abbrev ok0 (S : Addr → Prop) (W0 : List Addr) (a : Addr) : Prop := S a ∧ a ∉ W0
abbrev CExc := Str → List (Str × PyData) → Hp → Value → Option Addr → Prop
def spF (p : Par) (C : CExc) (m : AFun) (n : Nat) : Sp := fun vs H Q E => vs.length = n ∧ ∃ (S : Addr → Prop) (W0 : List Addr) (as : List AV) (cells : List Cell),
  RepAs p H (ok0 S W0) (W0.map some) vs as ∧ W0.Nodup ∧ cells.length = W0.length ∧ (∀ (i : Nat) (a : Addr), W0[i]? = some a → ∃ cl, cells[i]? = some cl ∧ CellAt p H (ok0 S W0) (fun _ => none) a cl) ∧ TabF p.K H H (W0.map some) ∧
  match m as cells with
  | .ok r cs => ∀ v H', PostF p H S W0 cs H' → RepA p H' (okF H S W0) [] v r → Q v H'
  | .exc cl fs cs => ∀ Cv d H', PostF p H S W0 cs H' → C cl fs H' Cv d → E Cv d H'
  | .err => False
/-- what a body hands back -/
@[simp] def outv (k : Nat) (fr : Fr) : AV → Option AV
  | .dat y => some (.dat y)
  | .dct tp kvs => some (.dct tp kvs)
  | .cel i => if k ≤ i then (match fr.cells[i]? with
    | some cl => celv cl
    | none => none) else none
  | .scr _ => none
  | .brd _ _ _ => none
  | .fn _ _ => none
  | .pin _ => none
@[simp] def finish (k : Nat) : SRes → CRes
  | .nx f => .ok (.dat .none) (f.cells.take k)
  | .ret a f => match outv k f a with
    | some r => .ok r (f.cells.take k)
    | none => .err
  | .exc c fs f => .exc c fs (f.cells.take k)
  | _ => .err
@[simp] def mkFun (N n : Nat) (b : Fr → SRes) : AFun := fun as cells => if as.length = n then finish cells.length (b ⟨as.map some ++ List.replicate (N - n) none, cells, cells.length⟩) else .err
section
variable {p : Par} {c : Ent} {fr : Fr} {ad : List (Option Addr)} {σ : L2.St} {H H' : Hp}
theorem take_at {α : Type} {l : List α} {k i : Nat} {y : α} (hk : i < k) (h : l[i]? = some y) : (l.take k)[i]? = some y := by
  rw [List.getElem?_take, if_pos hk]; exact h
theorem lt_of_at {α : Type} {l : List α} {i : Nat} {y : α} (h : l[i]? = some y) : i < l.length := by
  rcases Nat.lt_or_ge i l.length with q | q
  · exact q
  · rw [List.getElem?_eq_none q] at h; cases h
theorem okP_okF {S : Addr → Prop} {W0 : List Addr} (F : FR p ⟨H, S, W0, [], [], 0⟩ fr ad σ H') : ∀ a, okP ⟨H, S, W0, [], [], 0⟩ ad a → okF H S W0 a := fun a h => ⟨h.1.1, fun m => by
  obtain ⟨i, e⟩ := mem_at m
  exact h.2 (List.mem_of_getElem? (F.sub i a e))⟩
theorem FR.post {S : Addr → Prop} {W0 : List Addr} (F : FR p ⟨H, S, W0, [], [], 0⟩ fr ad σ H') : PostF p H S W0 (fr.cells.take W0.length) H' where
  keep := fun b o e n t => by
    obtain ⟨o', h1, h2⟩ := F.old b o e n
    rw [h1, h2 t]
  there := fun b h => by
    by_cases hb : b ∈ W0
    · obtain ⟨i, e⟩ := mem_at hb
      obtain ⟨o, q, _⟩ := F.track (List.mem_of_getElem? (F.sub i b e))
      rw [q]; simp
    · cases q : H b with
      | none => exact absurd q h
      | some o => obtain ⟨o', h1, _⟩ := F.old b o q hb; rw [h1]; simp
  tabs := F.tabs.sub fun a h => absurd h (by simp)
  cel := fun i a e => by
    obtain ⟨cl, h1, h2⟩ := F.cel i a (F.sub i a e)
    refine ⟨cl, take_at (lt_of_at e) h1, ?_⟩
    exact CellAt.rfm (fun k b z => (rfA_low (Nat.le_of_lt (lt_of_at e)) k b z).elim) (CellAt.mono (okP_okF F) h2)
theorem FR.out {S : Addr → Prop} {W0 : List Addr} (F : FR p ⟨H, S, W0, [], [], 0⟩ fr ad σ H') {v : V} {a r : AV} (h : RepA p H' (okP ⟨H, S, W0, [], [], 0⟩ ad) ad v a) (e : outv W0.length fr a = some r) : RepA p H' (okF H S W0) [] v r := by
  cases a with
  | dat y => cases e; exact Rep.mono (okP_okF F) h
  | dct tp kvs =>
    cases e
    obtain ⟨b, e, h1, h2⟩ := h
    exact ⟨b, e, okP_okF F b h1, h2.mono (okP_okF F)⟩
  | scr ns => cases e
  | brd _ _ _ => cases e
  | fn _ _ => cases e
  | pin _ => cases e
  | cel i =>
    unfold outv at e
    simp only at e
    split at e
    · rename_i hk
      obtain ⟨b, rfl, hb⟩ := h
      obtain ⟨cl, h1, h2⟩ := F.cel i b hb
      rw [h1] at e
      have okb : okF H S W0 b := by
        have n : b ∉ W0 := fun m => by
          obtain ⟨j, e2⟩ := mem_at m
          have := F.nd j i b (F.sub j b e2) hb
          have := lt_of_at e2
          omega
        refine ⟨.inl ?_, n⟩
        rcases F.adw b (List.mem_of_getElem? hb) with z | z
        · exact absurd z n
        · exact z
      cases cl with
      | lst ds =>
        cases e
        obtain ⟨xs, h3, hz, h4⟩ := h2
        exact .lst okb h3 hz (h4.mono (okP_okF F))
      | dct tp kvs => cases e; exact ⟨b, rfl, okb, (h2.mono (okP_okF F)).r⟩
      | gone => cases e
      | rows _ => cases e
      | obj _ _ => cases e
    · cases e
end
/-- a def's body, from its arguments -/
theorem body_g {P : Program} {w : World} {K : PySem.W.Frag} {N ps : List Str} {C : CExc} {b : Fr → SRes} {vs : List V} {H : Hp} {Q : VK} {E : XK} (hsp : spF ⟨P, w, K⟩ C (mkFun N.length ps.length b) ps.length vs H Q E) :
    tS ⟨P, w, K⟩ ⟨fun cl d _ H' => E cl d H', C⟩ b { nx := fun _ H' => Q .non H', rt := Q } (L2.start N vs) H := by
  obtain ⟨hlen, S0, W0, as, cells, ra, nd, cl, hc, htb, hm⟩ := hsp
  have e1 : vs.length = as.length := Paired.length ra
  unfold mkFun at hm
  rw [if_pos (by omega)] at hm
  have mono : ∀ a, ok0 S0 W0 a → okP ⟨H, S0, W0, [], [], 0⟩ (W0.map some) a := fun a h => ⟨⟨.inr h.1, fun z => nomatch z⟩, fun m => by
    obtain ⟨y, hy, e⟩ := List.mem_map.mp m
    cases e; exact h.2 hy⟩
  refine ⟨⟨H, S0, W0, [], [], 0⟩, ⟨as.map some ++ List.replicate (N.length - ps.length) none, cells, cells.length⟩, W0.map some, ⟨?_, fun i av e => ?_, by simp [cl], fun i a e => ?_, fun i j a h1 h2 => ?_, fun b o e _ => ⟨o, e, fun _ => rfl⟩, fun i a e => by rw [List.getElem?_map, e]; rfl, fun a h => ?_, (fun q hq => nomatch hq), (fun q hq => nomatch hq), cl, htb.sub fun a z => by simpa using z⟩, ?_⟩
  · simp only [L2.start, List.length_append, List.length_map, List.length_replicate]
    omega
  · have hi : i < as.length := by
      rcases Nat.lt_or_ge i as.length with q | q
      · exact q
      · rw [List.getElem?_append_right (by simpa using q)] at e
        rw [List.getElem?_replicate] at e
        split at e <;> cases e
    rw [List.getElem?_append_left (by simpa using hi), List.getElem?_map] at e
    have e' : as[i]? = some av := by
      cases q : as[i]? with
      | none => rw [q] at e; cases e
      | some y => rw [q] at e; cases e; rfl
    have get : ∀ {vs : List V} {as : List AV} {i : Nat} {av : AV}, RepAs ⟨P, w, K⟩ H (ok0 S0 W0) (W0.map some) vs as → as[i]? = some av → ∃ v, vs[i]? = some v ∧ RepA ⟨P, w, K⟩ H (ok0 S0 W0) (W0.map some) v av := by
      intro vs as i av h
      induction h generalizing i with
      | nil => intro e; simp at e
      | cons r _ ih =>
        intro e
        cases i with
        | zero => simp at e; subst e; exact ⟨_, rfl, r⟩
        | succ j =>
          obtain ⟨v, q1, q2⟩ := ih (i := j) (by simpa using e)
          exact ⟨v, by simpa using q1, q2⟩
    obtain ⟨v, h1, h2⟩ := get ra e'
    refine ⟨v, ?_, ?_⟩
    · show (vs.map some ++ List.replicate (N.length - vs.length) none)[i]? = _
      rw [List.getElem?_append_left (by simp; omega), List.getElem?_map, h1]; rfl
    · cases av with
      | dat y => exact Rep.mono mono h2
      | dct tp kvs =>
        obtain ⟨b, q1, q2, q3⟩ := h2
        exact ⟨b, q1, mono b q2, q3.mono mono⟩
      | cel j => exact h2
      | scr ns => exact h2
      | fn n o => exact h2
      | pin φ =>
        obtain ⟨b, q1, q2, q3⟩ := h2
        exact ⟨b, q1, mono b q2, q3⟩
      | brd rms cks j =>
        obtain ⟨b, u, q1, q2, q3, q4⟩ := h2
        exact ⟨b, u, q1, mono b q2, q3.mono mono, q4⟩
  · rw [List.getElem?_map] at e
    cases q : W0[i]? with
    | none => rw [q] at e; cases e
    | some y =>
      rw [q] at e
      cases e
      obtain ⟨cl', h1, h2⟩ := hc i a q
      refine ⟨cl', h1, ?_⟩
      exact CellAt.rfm (fun k b z => by cases z) (CellAt.mono mono h2)
  · rw [List.getElem?_map] at h1 h2
    cases q1 : W0[i]? with
    | none => rw [q1] at h1; cases h1
    | some y =>
      cases q2 : W0[j]? with
      | none => rw [q2] at h2; cases h2
      | some z =>
        rw [q1] at h1; rw [q2] at h2
        cases h1; cases h2
        exact (List.getElem?_inj (lt_of_at q1) nd).mp (q1.trans q2.symm)
  · obtain ⟨y, hy, e⟩ := List.mem_map.mp h
    cases e
    exact .inl hy
  · cases q : b ⟨as.map some ++ List.replicate (N.length - ps.length) none, cells, cells.length⟩ with
    | nx fr1 =>
      rw [q] at hm
      intro ad' σ' H' F1
      have hm' : ∀ v H', PostF ⟨P, w, K⟩ H S0 W0 (fr1.cells.take cells.length) H' → RepA ⟨P, w, K⟩ H' (okF H S0 W0) [] v (.dat .none) → Q v H' := hm
      rw [cl] at hm'
      exact hm' _ H' F1.post .non
    | ret a fr1 =>
      rw [q] at hm
      intro ad' σ' H' v F1 rv
      unfold finish at hm
      simp only at hm
      rw [cl] at hm
      cases q2 : outv W0.length fr1 a with
      | none => rw [q2] at hm; exact hm.elim
      | some r =>
        rw [q2] at hm
        exact hm v H' F1.post (F1.out rv q2)
    | bk fr1 => rw [q] at hm; exact hm.elim
    | ct fr1 => rw [q] at hm; exact hm.elim
    | exc cl' fs fr1 =>
      rw [q] at hm
      intro ad' σ' H' Cv d F1 hx
      have hm' : ∀ Cv d H', PostF ⟨P, w, K⟩ H S0 W0 (fr1.cells.take cells.length) H' → C cl' fs H' Cv d → E Cv d H' := hm
      rw [cl] at hm'
      exact hm' Cv d H' F1.post hx
    | err => rw [q] at hm; exact hm.elim
/-- THE RULE of a def -/
theorem fn_g {P : Program} {w : World} {K : PySem.W.Frag} {mg : Str → Option Value} {base : Heap} {CX : CXT} {n qual : Str} {params : Arguments} {body : List Stmt} {scope : Scope} {dvs : List V} {kws : List (Str × V)} {f : Addr} {fd : FuncData} {N ps : List Str} {k : Nat} {C : CExc} {b : Fr → SRes}
    (F : FunD K n qual params body scope dvs kws f fd) (S : FnScope N ps scope)
    (hb : ∀ (cdv : Value) (A : Around) (outer : List Env) (s : Shared) (H : Hp) (E : XK), Room k (A.deeper (envOfC qual scope s.heap.objs.size f cdv)) →
      ASs (cxOf CX P w K mg base N qual scope f cdv A outer s H E) ⟨fun cl d _ H' => E cl d H', C⟩ body b) :
    FnOk P w K mg base CX (k + 1) f fd ps (spF ⟨P, w, K⟩ C (mkFun N.length ps.length b) ps.length) := by
  exact F.ok S (fun vs H Q E h => h.1) fun cdv A outer s H vs Q E hr hsp => ⟨_, hb cdv A outer s H E hr, body_g hsp⟩
end G
namespace G
open PySem PySem.Spec PyProof.Rows L2
@[simp] def celsOf : List AV → List Nat
  | [] => []
  | .cel i :: r => i :: celsOf r
  | .brd _ _ i :: r => i :: celsOf r
  | _ :: r => celsOf r
/-- the arguments as the callee has them: its cells in the order of the arguments -/
@[simp] def relab : Nat → List AV → List AV
  | _, [] => []
  | n, .cel _ :: r => .cel n :: relab (n + 1) r
  | n, .brd rooms cooks _ :: r => .brd rooms cooks n :: relab (n + 1) r
  | n, a :: r => a :: relab n r
@[simp] def noScr : List AV → Bool
  | [] => true
  | .scr _ :: _ => false
  | _ :: r => noScr r
@[simp] def getAll (cs : List Cell) : List Nat → Option (List Cell)
  | [] => some []
  | i :: is => match cs[i]?, getAll cs is with
    | some .gone, _ => none
    | some (.rows _), _ => none
    | some cl, some r => some (cl :: r)
    | _, _ => none
@[simp] def putAll (cs : List Cell) : List Nat → List Cell → List Cell
  | i :: is, cl :: r => (putAll cs is r).set i cl
  | _, _ => cs
@[simp] def callM (m : AFun) (as : List AV) : Fr → Res AV := fun fr => if (decide (celsOf as).Nodup && noScr as) = true then (match getAll fr.cells (celsOf as) with
  | some cs => (match m (relab 0 as) cs with
    | .ok r cs' => .ok r ⟨fr.vars, putAll fr.cells (celsOf as) cs', fr.base⟩
    | .exc c fs cs' => .exc c fs ⟨fr.vars, putAll fr.cells (celsOf as) cs', fr.base⟩
    | .err => .err)
  | none => .err) else .err
@[simp] def xCall (m : AFun) (gs : Fr → Res (List AV)) : Fr → Res AV := fun fr => (gs fr).bind fun as fr1 => callM m as fr1
/-- the addresses of the cells -/
def celAds (ad : List (Option Addr)) (as : List AV) : List Addr := (celsOf as).map fun i => (ad[i]?.join).getD 0
section
variable {p : Par} {c : Ent} {fr : Fr} {ad : List (Option Addr)} {σ : L2.St} {H H' : Hp}
theorem cel_in {ok : Addr → Prop} : ∀ {vs : List V} {as : List AV}, RepAs p H ok ad vs as → ∀ i ∈ celsOf as, ∃ a, ad[i]? = some (some a)
  | _, _, .nil => fun i h => by cases h
  | v :: vs, .cel k :: as, .cons ⟨a, e, h⟩ rs => fun i hi => by
    rcases List.mem_cons.mp hi with z | z
    · exact ⟨a, by rw [z]; exact h⟩
    · exact cel_in rs i z
  | v :: vs, .brd rms cks k :: as, .cons ⟨a, u, e, h1, h2, h⟩ rs => fun i hi => by
    rcases List.mem_cons.mp hi with z | z
    · exact ⟨u, by rw [z]; exact h⟩
    · exact cel_in rs i z
  | v :: vs, .dat y :: as, .cons r rs => fun i hi => cel_in rs i hi
  | v :: vs, .dct tp kvs :: as, .cons r rs => fun i hi => cel_in rs i hi
  | v :: vs, .scr ns :: as, .cons r rs => fun i hi => cel_in rs i hi
  | v :: vs, .fn n _ :: as, .cons r rs => fun i hi => cel_in rs i hi
  | v :: vs, .pin _ :: as, .cons r rs => fun i hi => cel_in rs i hi
theorem celAds_at {ok : Addr → Prop} {vs : List V} {as : List AV} (r : RepAs p H ok ad vs as) : (celAds ad as).length = (celsOf as).length ∧ ∀ (j i : Nat), (celsOf as)[j]? = some i → ∃ a, (celAds ad as)[j]? = some a ∧ ad[i]? = some (some a) := by
  refine ⟨List.length_map .., fun j i e => ?_⟩
  obtain ⟨a, h⟩ := cel_in r i (List.mem_of_getElem? e)
  refine ⟨a, ?_, h⟩
  unfold celAds
  rw [List.getElem?_map, e]
  simp [h]
theorem ads_tab {ok : Addr → Prop} {vs : List V} {as : List AV} (F : FR p c fr ad σ H) (r : RepAs p H ok ad vs as) : TabF p.K H H ((celAds ad as).map some) := F.tabs.self.sub fun b hb => by
  obtain ⟨b', h1, h2⟩ := List.mem_map.mp hb
  cases h2
  obtain ⟨lW, hW⟩ := celAds_at r
  obtain ⟨j, e⟩ := mem_at h1
  have hj : j < (celsOf as).length := by rw [← lW]; exact lt_of_at e
  obtain ⟨b', h1, h2⟩ := hW j (celsOf as)[j] (by rw [List.getElem?_eq_getElem hj])
  rw [e] at h1; cases h1
  exact adp_l _ (List.mem_of_getElem? h2)
theorem relab_rep {ok ok' : Addr → Prop} {W : List Addr} (mono : ∀ a, ok a → ok' a) : ∀ {vs : List V} {as : List AV} {n : Nat}, RepAs p H ok ad vs as → noScr as = true → (∀ (j : Nat) (a : Addr), (celAds ad as)[j]? = some a → W[n + j]? = some a) → RepAs p H ok' (W.map some) vs (relab n as)
  | _, _, _, .nil, _, _ => .nil
  | v :: vs, .cel k :: as, n, .cons ⟨a, e, h⟩ rs, hs, hw => by
    subst e
    refine .cons ⟨a, rfl, by rw [List.getElem?_map, show W[n]? = some a from hw 0 a (by simp [celAds, h])]; rfl⟩ (relab_rep mono rs hs fun j b e => ?_)
    have := hw (j + 1) b (by simpa [celAds] using e)
    rw [show n + 1 + j = n + (j + 1) by omega]
    exact this
  | v :: vs, .brd rms cks k :: as, n, .cons ⟨a, u, e, h1, h2, h⟩ rs, hs, hw => by
    subst e
    refine .cons ⟨a, u, rfl, mono a h1, h2.mono mono, by rw [List.getElem?_map, show W[n]? = some u from hw 0 u (by simp [celAds, h])]; rfl⟩ (relab_rep mono rs hs fun j b e => ?_)
    have := hw (j + 1) b (by simpa [celAds] using e)
    rw [show n + 1 + j = n + (j + 1) by omega]
    exact this
  | v :: vs, .dat y :: as, n, .cons r rs, hs, hw => .cons (Rep.mono mono r) (relab_rep mono rs hs fun j b e => hw j b e)
  | v :: vs, .dct tp kvs :: as, n, .cons ⟨b, e, h1, h2⟩ rs, hs, hw => .cons ⟨b, e, mono b h1, h2.mono mono⟩ (relab_rep mono rs hs fun j b2 e2 => hw j b2 e2)
  | v :: vs, .scr ns :: as, n, .cons r rs, hs, hw => by cases hs
  | v :: vs, .fn m _ :: as, n, .cons r rs, hs, hw => .cons r (relab_rep mono rs hs fun j b e => hw j b e)
  | v :: vs, .pin φ :: as, n, .cons ⟨b, e, h1, h2⟩ rs, hs, hw => .cons ⟨b, e, mono b h1, h2⟩ (relab_rep mono rs hs fun j b2 e2 => hw j b2 e2)
theorem getAll_row {cs : List Cell} : ∀ {is : List Nat} {r : List Cell}, getAll cs is = some r → ∀ (i : Nat) (cl : Cell), i ∈ is → cs[i]? = some cl → isRow cl = false
  | [], r, e => fun i cl h => by cases h
  | i :: is, r, e => fun j cl h q => by
    unfold getAll at e
    cases q2 : getAll cs is with
    | none =>
      rw [q2] at e
      cases q1 : cs[i]? with
      | none => rw [q1] at e; cases e
      | some cl => rw [q1] at e; cases cl <;> cases e
    | some r' =>
      rcases List.mem_cons.mp h with z | z
      · subst z
        rw [q, q2] at e
        cases cl <;> first | rfl | cases e
      · exact getAll_row q2 j cl z q
theorem getAll_at {cs : List Cell} : ∀ {is : List Nat} {r : List Cell}, getAll cs is = some r → r.length = is.length ∧ ∀ (j i : Nat), is[j]? = some i → ∃ cl, cs[i]? = some cl ∧ r[j]? = some cl
  | [], r, e => by cases e; exact ⟨rfl, fun j i h => by simp at h⟩
  | i :: is, r, e => by
    unfold getAll at e
    cases q1 : cs[i]? with
    | none => rw [q1] at e; cases e
    | some cl =>
      cases q2 : getAll cs is with
      | none => rw [q1, q2] at e; cases cl <;> cases e
      | some r' =>
        rw [q1, q2] at e
        obtain ⟨h1, h2⟩ := getAll_at q2
        have fin : r = cl :: r' := by cases cl <;> first | (cases e; rfl) | cases e
        subst fin
        refine ⟨by simp [h1], fun j k h => ?_⟩
        cases j with
        | zero => simp at h; subst h; exact ⟨cl, q1, rfl⟩
        | succ j => exact h2 j k (by simpa using h)
theorem putAll_len {cs : List Cell} : ∀ {is : List Nat} {r : List Cell}, (putAll cs is r).length = cs.length
  | [], _ => rfl
  | _ :: _, [] => rfl
  | i :: is, cl :: r => by rw [putAll, List.length_set, putAll_len]
theorem putAll_out {cs : List Cell} {k : Nat} : ∀ {is : List Nat} {r : List Cell}, k ∉ is → (putAll cs is r)[k]? = cs[k]?
  | [], _, _ => rfl
  | _ :: _, [], _ => rfl
  | i :: is, cl :: r, h => by
    rw [putAll, List.getElem?_set_ne (by intro e; exact h (by simp [e]))]
    exact putAll_out fun m => h (List.mem_cons_of_mem _ m)
theorem putAll_in {cs : List Cell} : ∀ {is : List Nat} {r : List Cell} {j i : Nat} {cl : Cell}, is.Nodup → is[j]? = some i → r[j]? = some cl → i < cs.length → (putAll cs is r)[i]? = some cl
  | [], _, _, _, _, _, h, _, _ => by simp at h
  | _ :: _, [], _, _, _, _, _, h, _ => by simp at h
  | k :: is, cl' :: r, j, i, cl, nd, h1, h2, hl => by
    cases j with
    | zero =>
      simp at h1 h2
      subst h1 h2
      rw [putAll, List.getElem?_set_self (by rw [putAll_len]; exact hl)]
    | succ j =>
      have h1' : is[j]? = some i := by simpa using h1
      have ne : k ≠ i := fun e => (List.nodup_cons.mp nd).1 (by rw [e]; exact List.mem_of_getElem? h1')
      rw [putAll, List.getElem?_set_ne ne]
      exact putAll_in (List.nodup_cons.mp nd).2 h1' (by simpa using h2) hl
/-- behind a call -/
theorem call_end {S : Addr → Prop} {W : List Addr} {ids : List Nat} {cs' : List Cell} (F : FR p c fr ad σ H) (nd : ids.Nodup) (hW : ∀ (j i : Nat), ids[j]? = some i → ∃ a, W[j]? = some a ∧ ad[i]? = some (some a)) (hl : W.length = ids.length)
    (hS : ∀ a, S a → a ∉ W → okP c ad a) (P : PostF p H S W cs' H') : FR p c ⟨fr.vars, putAll fr.cells ids cs', fr.base⟩ ad σ H' ∧ Mv H ad H' ad ∧ ∀ a, okF H S W a → okP c ad a := by
  have wad : ∀ a, a ∈ W → ∃ j i, ids[j]? = some i ∧ W[j]? = some a ∧ ad[i]? = some (some a) := fun a m => by
    obtain ⟨j, e⟩ := mem_at m
    have hj : j < ids.length := by rw [← hl]; exact lt_of_at e
    obtain ⟨b, h1, h2⟩ := hW j ids[j] (by rw [List.getElem?_eq_getElem hj])
    rw [e] at h1; cases h1
    exact ⟨j, ids[j], by rw [List.getElem?_eq_getElem hj], e, h2⟩
  have m : Mv H ad H' ad := ⟨fun b o e n t => P.keep b o e (fun hm => by
    obtain ⟨j, i, _, _, h⟩ := wad b hm
    exact n (List.mem_of_getElem? h)) t, fun _ _ e => e, fun _ h => .inl h, P.there⟩
  have okk : ∀ a, okF H S W a → okP c ad a := fun a ⟨h1, h2⟩ => by
    rcases h1 with h1 | h1
    · exact okP_new F h1
    · exact hS a h1 h2
  refine ⟨⟨F.len, fun i av e => ?_, by rw [putAll_len]; exact F.clen, fun i a e => ?_, F.nd, fun b o e n => ?_, F.sub, F.adw, fun q hq => ⟨(F.gh q hq).1, RepA.mv F m (F.gh q hq).2⟩, m.prs F, F.bs, F.tabs.trans P.tabs F.adH F.thr⟩, m, okk⟩
  · obtain ⟨v, h1, h2⟩ := F.var i av e
    exact ⟨v, h1, RepA.mv F m h2⟩
  · by_cases hm : i ∈ ids
    · obtain ⟨j, hj⟩ := mem_at hm
      obtain ⟨b, h1, h2⟩ := hW j i hj
      rw [e] at h2; cases h2
      obtain ⟨cl, h3, h4⟩ := P.cel j a h1
      refine ⟨cl, putAll_in nd hj h3 (by rw [F.clen]; exact lt_of_at e), ?_⟩
      exact CellAt.rfm (fun k b z => by cases z) (CellAt.mono okk h4)
    · obtain ⟨cl, h1, h2⟩ := F.cel i a e
      have na : a ∉ W := fun hw => by
        obtain ⟨j, k, h3, _, h4⟩ := wad a hw
        have := F.nd k i a h4 e
        subst this
        exact hm (List.mem_of_getElem? h3)
      refine ⟨cl, by rw [putAll_out hm]; exact h1, ?_⟩
      have kp : ∀ o, H a = some o → H' a = some o := fun o z => P.keep a o z na (F.trackN (List.mem_of_getElem? e) z)
      exact CellAt.keep (m.kp F) kp h2
  · obtain ⟨o', q1, q2⟩ := F.old b o e n
    have nw : b ∉ W := fun hw => by
      obtain ⟨j, k, _, _, h4⟩ := wad b hw
      rcases F.adw b (List.mem_of_getElem? h4) with z | z
      · exact n z
      · rw [z] at e; cases e
    obtain ⟨o2, q3⟩ := Option.ne_none_iff_exists'.mp (P.there b (by rw [q1]; simp))
    refine ⟨o2, q3, fun t => ?_⟩
    have q4 := P.keep b o' q1 nw (by rw [q2 t]; exact t)
    rw [q3] at q4
    cases q4
    exact q2 t
end
section
variable {X : Cx} {x : XW} {a : Expr} {f g h : Fr → Res AV} {pos : Pos}
theorem tE_call {m : AFun} {n : Nat} {gs : Fr → Res (List AV)} {σ : L2.St} {H : Hp} {Q : VK} (hn : ∀ fr as fr', gs fr = .ok as fr' → as.length = n) (h : tE (pX X) x (xCall m gs) σ H Q) : tA (pX X) x gs σ H fun vs H1 => spF (pX X) x.C m n vs H1 Q fun C d H' => x.W C d σ H' := by
  obtain ⟨c, fr, ad, F, o⟩ := h
  refine ⟨c, fr, ad, F, ?_⟩
  have o2 := Out.bind F o
  cases qg : gs fr with
  | exc cl fs fr1 => rw [qg] at o2; exact o2
  | err => rw [qg] at o2; exact o2
  | ok as fr1 =>
    rw [qg] at o2
    intro ad1 H1 F1 m1 vs rvs
    have o1 : Out (pX X) x c ad1 σ H1 (callM m as fr1) _ := o2 ad1 H1 F1 m1
    refine ⟨by rw [Paired.length rvs]; exact hn fr as fr1 qg, ?_⟩
    unfold callM at o1
    split at o1
    rotate_left
    · exact o1.elim
    rename_i hcond
    obtain ⟨hnd, hsc⟩ := Bool.and_eq_true_iff.mp hcond
    have nd := of_decide_eq_true hnd
    cases q1 : getAll fr1.cells (celsOf as) with
    | none => rw [q1] at o1; exact o1.elim
    | some cs =>
      rw [q1] at o1
      simp only at o1
      obtain ⟨lW, hW⟩ := celAds_at rvs
      obtain ⟨lc, hcs⟩ := getAll_at q1
      have inW : ∀ b, b ∈ celAds ad1 as → some b ∈ ad1 := fun b hb => by
        obtain ⟨j, e⟩ := mem_at hb
        have hj : j < (celsOf as).length := by rw [← lW]; exact lt_of_at e
        obtain ⟨b', h1, h2⟩ := hW j (celsOf as)[j] (by rw [List.getElem?_eq_getElem hj])
        rw [e] at h1; cases h1
        exact List.mem_of_getElem? h2
      have mono : ∀ b, okP c ad1 b → ok0 (okP c ad1) (celAds ad1 as) b := fun b hb => ⟨hb, fun z => hb.2 (inW b z)⟩
      have hS : ∀ b, okP c ad1 b → b ∉ celAds ad1 as → okP c ad1 b := fun b hb _ => hb
      have ndW : (celAds ad1 as).Nodup := by
        unfold List.Nodup
        rw [List.pairwise_iff_getElem]
        intro j k hj hk hjk e
        have hk' : k < (celsOf as).length := by rw [← lW]; exact hk
        have hj' : j < (celsOf as).length := by omega
        obtain ⟨b1, h1, h2⟩ := hW j (celsOf as)[j] (by rw [List.getElem?_eq_getElem hj'])
        obtain ⟨b2, h3, h4⟩ := hW k (celsOf as)[k] (by rw [List.getElem?_eq_getElem hk'])
        rw [List.getElem?_eq_getElem hj] at h1
        rw [List.getElem?_eq_getElem hk] at h3
        have eb : b1 = b2 := by rw [← Option.some.inj h1, ← Option.some.inj h3]; exact e
        subst eb
        have := F1.nd _ _ _ h2 h4
        have := (List.getElem_inj nd).mp this
        omega
      refine ⟨okP c ad1, celAds ad1 as, relab 0 as, cs, relab_rep mono rvs hsc fun j b e => by rw [Nat.zero_add]; exact e, ndW, by rw [lc, lW], fun i b e => ?_, ads_tab F1 rvs, ?_⟩
      · have hi : i < (celsOf as).length := by rw [← lW]; exact lt_of_at e
        obtain ⟨b', h1, h2⟩ := hW i (celsOf as)[i] (by rw [List.getElem?_eq_getElem hi])
        rw [e] at h1; cases h1
        obtain ⟨cl, h3, h4⟩ := hcs i (celsOf as)[i] (by rw [List.getElem?_eq_getElem hi])
        obtain ⟨cl', h5, h6⟩ := F1.cel _ b h2
        rw [h3] at h5; cases h5
        refine ⟨cl, h4, ?_⟩
        exact CellAt.nrow (getAll_row q1 _ _ (List.getElem_mem hi) h3) (CellAt.mono mono h6)
      · cases q2 : m (relab 0 as) cs with
        | ok r cs' =>
          rw [q2] at o1
          intro v H2 P rv
          obtain ⟨F2, m2, okk⟩ := call_end F1 nd hW lW hS P
          refine o1 ad1 H2 F2 m2 v ?_
          cases r with
          | dat y => exact Rep.mono okk rv
          | dct tp kvs =>
            obtain ⟨b, z1, z2, z3⟩ := rv
            exact ⟨b, z1, okk b z2, z3.mono okk⟩
          | cel i => obtain ⟨b, _, z⟩ := rv; simp at z
          | scr ns => exact rv
          | fn n _ => exact rv
          | pin φ =>
            obtain ⟨b, z1, z2, z3⟩ := rv
            exact ⟨b, z1, okk b z2, z3⟩
          | brd _ _ _ => obtain ⟨b, u, _, _, _, z⟩ := rv; simp at z
        | exc cl fs cs' =>
          rw [q2] at o1
          intro Cv d H2 P hx
          obtain ⟨F2, m2, okk⟩ := call_end F1 nd hW lW hS P
          exact o1 ad1 H2 Cv d F2 m2 hx
        | err => rw [q2] at o1; exact o1.elim
/-- a call of a def: facts about it -/
structure DefF (P : Program) (w : World) (K : PySem.W.Frag) (mg : Str → Option Value) (base : Heap) (CX : CXT) (C : CExc) (k : Nat) (n : Str) (np : Nat) (m : AFun) : Prop where
  ex : ∃ (f : Addr) (fd : FuncData) (ps : List Str), FnOk P w K mg base CX k f fd ps (spF ⟨P, w, K⟩ C m np) ∧ mg n = some (.ref f) ∧ PySem.W.keepIn K (.ref f) = true ∧ Binds K fd ps []
theorem ae_call {CX : CXT} {k j : Nat} {n : Str} {m : AFun} {es : List Expr} {gs : Fr → Res (List AV)} {p1 : Pos} {np : Nat} (D : DefF X.prog X.w X.K X.mg X.base CX x.C k n np m) (hr : Room j X.A) (hk : k ≤ j) (hx : ∀ σ, PassesAt CX X σ fun C d H' => x.W C d σ H') (hg : Gl X n) (ha : AA X x (a :: es) gs) (hn : ∀ fr as fr', gs fr = .ok as fr' → as.length = np)
    (hdb : (n == ("__debug__" : Str)) = false := by decide) (he : starEach (a :: es) X.env = (false, eval a X.env) :: starEach es X.env := by rfl) (hpl : (backTo pos (starEach es X.env)).any (·.1) = false := by rfl) :
    AE X x (.Call (.Name n p1) (a :: es) [] pos) (xCall m gs) := by
  obtain ⟨f, fd, ps, F, hm, kp, b⟩ := D.ex
  refine (pe_callSD F (hr.mono hk) hg hm kp b .nil (E := fun σ C d H' => x.W C d σ H') hx ha hdb he hpl).imp fun σ H Q h => ?_
  have z := tE_call hn h
  unfold tCallSD
  simpa only [List.append_nil] using z
theorem pass_0 {W : WX} : ∀ σ, PassesAt CX0 X σ fun C d H' => W C d σ H' := fun _ _ _ _ _ _ _ z => z.elim
end
end G
namespace G
open PySem PySem.Spec PyProof.Rows L2
abbrev Tg := PyData → Fr → Option Fr
@[simp] def tName (i : Nat) : Tg := fun y fr => some (fr.setv i (some (.dat y)))
@[simp] def setAll : List Nat → List PyData → Fr → Option Fr
  | [], [], fr => some fr
  | i :: is, y :: ys, fr => setAll is ys (fr.setv i (some (.dat y)))
  | _, _, _ => none
@[simp] def tNames (is : List Nat) : Tg := fun y fr => match y with
  | .tuple ys => setAll is ys fr
  | _ => none
/-- the slots that a target writes -/
def OnlyAt (is : List Nat) (σ σ' : L2.St) : Prop := ∀ vs : List Nat, (∀ i ∈ is, i ∈ vs) → wipe σ' vs = wipe σ vs
def tG (p : Par) (is : List Nat) (g : Tg) : TG := fun v σ H Q => ∃ c fr ad y fr', FR p c fr ad σ H ∧ Rep p.K H (okP c ad) v y ∧ g y fr = some fr' ∧ ∀ σ', FR p c fr' ad σ' H → OnlyAt is σ σ' → Q σ' H
abbrev AG (X : Cx) (tg : Expr) (is : List Nat) (g : Tg) : Prop := PG X tg (tG (pX X) is g)
theorem _root_.L2.PG.imp {X : Cx} {e : Expr} {t t' : TG} (h : PG X e t) (hi : ∀ v σ H Q, t' v σ H Q → t v σ H Q) : PG X e t' := ⟨fun pins s σ H v u Q I r q => h.run pins s σ H v u Q I r (hi v σ H Q q)⟩
theorem wipe_set {σ : L2.St} {i : Nat} {x : Option V} : ∀ {vs : List Nat}, i ∈ vs → wipe (σ.set i x) vs = wipe σ vs
  | [], h => by simp at h
  | v :: vs, h => by
    unfold wipe
    by_cases hv : i ∈ vs
    · rw [wipe_set hv]
    · have e : i = v := by
        rcases List.mem_cons.mp h with e | e
        · exact e
        · exact absurd e hv
      subst e
      have step : ∀ {vs : List Nat}, i ∉ vs → wipe (σ.set i x) vs = (wipe σ vs).set i x := by
        intro vs
        induction vs with
        | nil => intro _; rfl
        | cons w ws ih =>
          intro hn
          simp only [List.mem_cons, not_or] at hn
          unfold wipe
          rw [ih hn.2, List.set_comm _ _ (Ne.symm hn.1)]
      rw [step hv, List.set_set]
theorem OnlyAt.set {σ : L2.St} {i : Nat} {x : Option V} {is : List Nat} (h : i ∈ is) : OnlyAt is σ (σ.set i x) := fun vs hv => wipe_set (hv i h)
section
variable {X : Cx} {pos : Pos}
theorem ag_name {i : Nat} {n : Str} (hN : X.N.Nodup) (hi : X.N[i]? = some n) (hx : Loc X.env.scope n) (hf : X.fn n = true ∨ X.env.scope.names.lookup n = some .local := by first | exact .inl rfl | exact .inr rfl | assumption) : AG X (.Name n pos) [i] (tName i) :=
  (pg_name hN hi hx hf).imp fun v σ H Q ⟨c, fr, ad, y, fr', F, r, e, q⟩ => by
    cases e
    exact q _ (F.setv (a := .dat y) r) (OnlyAt.set (by simp))
/-- several names, one after another -/
def tGs (p : Par) (is : List Nat) : TGs := fun vs σ H Q => ∃ c fr ad ys fr', FR p c fr ad σ H ∧ RepL p.K H (okP c ad) vs ys ∧ setAll is ys fr = some fr' ∧ ∀ σ', FR p c fr' ad σ' H → OnlyAt is σ σ' → Q σ' H
theorem _root_.L2.PGs.imp {X : Cx} {e : List Expr} {t t' : TGs} (h : PGs X e t) (hi : ∀ v σ H Q, t' v σ H Q → t v σ H Q) : PGs X e t' := ⟨fun pins s σ H v u Q I r q => h.run pins s σ H v u Q I r (hi v σ H Q q)⟩
theorem ags_nil : PGs X [] (tGs (pX X) []) := (pgs_nil).imp fun vs σ H Q ⟨c, fr, ad, ys, fr', F, r, e, q⟩ => by
  cases r with
  | nil => cases e; exact ⟨rfl, q σ F fun _ _ => rfl⟩
  | cons => cases e
theorem ags_cons {n : Str} {p1 : Pos} {es : List Expr} {i : Nat} {is : List Nat} (hN : X.N.Nodup) (hi : X.N[i]? = some n) (hx : Loc X.env.scope n) (hr : PGs X es (tGs (pX X) is)) (hf : X.fn n = true ∨ X.env.scope.names.lookup n = some .local := by first | exact .inl rfl | exact .inr rfl | assumption)
    (hs : (assignEach (.Name n p1 :: es) X.env).map (·.2) = assign (.Name n p1) X.env :: (assignEach es X.env).map (·.2) := by rfl) : PGs X (.Name n p1 :: es) (tGs (pX X) (i :: is)) :=
  (pgs_cons (pg_name hN hi hx hf) hr hs).imp fun vs σ H Q ⟨c, fr, ad, ys, fr', F, r, e, q⟩ => by
    cases r with
    | nil => cases e
    | cons r rs =>
      refine ⟨_, _, rfl, c, _, ad, _, fr', F.setv (a := .dat _) r, rs, e, fun σ' F' oa => q σ' F' fun vs hv => ?_⟩
      rw [oa vs fun j hj => hv j (List.mem_cons_of_mem _ hj)]
      exact wipe_set (hv i (by simp))
theorem ag_tup {es : List Expr} {k : Nat} {is : List Nat} (hc : X.calm = true) (h : PGs X es (tGs (pX X) is)) (hl : is.length = es.length)
    (hn : (assignEach es X.env).length = es.length := by rfl) (hst : (assignEach es X.env).findIdx? (·.1) = none := by rfl) : AG X (.Tuple es k pos) is (tNames is) :=
  (pg_tup hc h hn hst).imp fun v σ H Q ⟨c, fr, ad, y, fr', F, r, e, q⟩ => by
    cases y with
    | tuple ys =>
      obtain ⟨a, xs, rfl, h1, _, h2⟩ := RepB.tuple (.inl r)
      refine ⟨a, xs, rfl, h1, ?_, c, fr, ad, ys, fr', F, h2, e, q⟩
      have len : ∀ {is : List Nat} {ys : List PyData} {fr fr' : Fr}, setAll is ys fr = some fr' → is.length = ys.length := by
        intro is
        induction is with
        | nil => intro ys fr fr' e; cases ys with
          | nil => rfl
          | cons => cases e
        | cons i is ih => intro ys fr fr' e; cases ys with
          | nil => cases e
          | cons y ys => rw [List.length_cons, List.length_cons, ih e]
      rw [h2.length, ← len e, hl]
    | _ => cases e
end
structure Wk (p : Par) (J : It) (qs : List (V × AV)) (items : List PyData) : Prop where
  go : ∀ (ok : Addr → Prop) (H : Hp) (i : Nat) (y : PyData), (∀ q ∈ qs, RepA p H ok [] q.1 q.2) → items[i]? = some y → J.go i H ∧ ∀ v H', J.yld i H v H' → Grow H H' ∧ Rep p.K H' ok v y
  stop : ∀ (ok : Addr → Prop) (H : Hp), (∀ q ∈ qs, RepA p H ok [] q.1 q.2) → J.stop items.length H
def tI (p : Par) (x : XW) (f : Fr → Res (List PyData)) : TI := fun σ H R => ∃ c fr ad, FR p c fr ad σ H ∧ Out p x c ad σ H (f fr) fun items _ ad' H' => ∀ J qs, (∀ q ∈ qs, isDat q.2 = true ∧ RepA p H' (okP c ad') ad' q.1 q.2) → Wk p J qs items → R J H'
abbrev AI (X : Cx) (x : XW) (tg e : Expr) (f : Fr → Res (List PyData)) : Prop := PI X tg e (tI (pX X) x f)
@[simp] def xItems (f : Fr → Res AV) : Fr → Res (List PyData) := fun fr => (f fr).bind fun a fr1 => match a with
  | .dat (.list ys) => .ok ys fr1
  | .dat (.tuple ys) => .ok ys fr1
  | _ => .err
section
variable {X : Cx} {x : XW} {tg e : Expr} {f : Fr → Res AV}
theorem it_tup {pins : List (Addr × Obj)} {σ : L2.St} {H : Hp} {s1 : Shared} {R : It → Hp → Prop} {a : Addr} {xs : List V} (I : Inv X pins σ H s1) (h : SqT X.K H a xs) (q : R (Itt X.K a) H) : wpAny (model X.prog X.w) X.A (pyIter (.ref a)) (PIE X pins σ tg R) X.xe s1 := by
  obtain ⟨its, rv, ht, _⟩ := I.tuple h
  have hn := I.hok.fresh (Nat.le_refl s1.heap.objs.size)
  refine wpAny_pyIter_tuple (show s1.heap.IsTuple a its.toArray from ht) ⟨s1.heap.objs.size, [s1.heap.objs.size], _, _, H, rfl, I.kept (t' := s1.toks) fun b o z => Heap.get?_push_of_some _ z, turn_tuple a _, ⟨_, Heap.get?_push_size _ rfl, rfl, rfl⟩, fun b hb => ?_, q⟩
  cases List.mem_singleton.mp hb
  exact I.fpOk (Nat.le_refl _) hn
theorem it_lst {pins : List (Addr × Obj)} {σ : L2.St} {H : Hp} {s1 : Shared} {R : It → Hp → Prop} {a : Addr} {xs : List V} (I : Inv X pins σ H s1) (h : SqL X.K H a xs) (q : R (Itl X.K a) H) : wpAny (model X.prog X.w) X.A (pyIter (.ref a)) (PIE X pins σ tg R) X.xe s1 := by
  obtain ⟨its, rv, hl, _⟩ := I.list h
  have hn := I.hok.fresh (Nat.le_refl s1.heap.objs.size)
  refine wpAny_pyIter_list hl.isList ⟨s1.heap.objs.size, [s1.heap.objs.size], _, _, H, rfl, I.kept (t' := s1.toks) fun b o z => Heap.get?_push_of_some _ z, turn_list a _, ⟨_, Heap.get?_push_size _ rfl, rfl, rfl⟩, fun b hb => ?_, q⟩
  cases List.mem_singleton.mp hb
  exact I.fpOk (Nat.le_refl _) hn
theorem wk_lst {p : Par} {a : Addr} {ys : List PyData} : Wk p (Itl p.K a) [(.ref a, .dat (.list ys))] ys where
  go := fun ok H i y hq e => by
    have r : Rep p.K H ok (.ref a) (.list ys) := hq (.ref a, .dat (.list ys)) (by simp)
    obtain ⟨b, xs, z, h1, _, h2⟩ := RepB.list (.inl r)
    cases z
    obtain ⟨v, h3, h4⟩ := h2.get e
    refine ⟨⟨xs, v, h1, h3⟩, fun w H' hy => ?_⟩
    obtain ⟨rfl, hy⟩ := hy
    have h5 := hy xs h1
    rw [h3] at h5; cases h5
    exact ⟨Grow.refl, h4⟩
  stop := fun ok H hq => by
    have r : Rep p.K H ok (.ref a) (.list ys) := hq (.ref a, .dat (.list ys)) (by simp)
    obtain ⟨b, xs, z, h1, _, h2⟩ := RepB.list (.inl r)
    cases z
    exact ⟨xs, h1, by rw [h2.length]; exact Nat.le_refl _⟩
theorem wk_tup {p : Par} {a : Addr} {ys : List PyData} : Wk p (Itt p.K a) [(.ref a, .dat (.tuple ys))] ys where
  go := fun ok H i y hq e => by
    have r : Rep p.K H ok (.ref a) (.tuple ys) := hq (.ref a, .dat (.tuple ys)) (by simp)
    obtain ⟨b, xs, z, h1, _, h2⟩ := RepB.tuple (.inl r)
    cases z
    obtain ⟨v, h3, h4⟩ := h2.get e
    refine ⟨⟨xs, v, h1, h3⟩, fun w H' hy => ?_⟩
    obtain ⟨rfl, hy⟩ := hy
    have h5 := hy xs h1
    rw [h3] at h5; cases h5
    exact ⟨Grow.refl, h4⟩
  stop := fun ok H hq => by
    have r : Rep p.K H ok (.ref a) (.tuple ys) := hq (.ref a, .dat (.tuple ys)) (by simp)
    obtain ⟨b, xs, z, h1, _, h2⟩ := RepB.tuple (.inl r)
    cases z
    exact ⟨xs, h1, by rw [h2.length]; exact Nat.le_refl _⟩
/-- a list or a tuple -/
theorem ai_seq (ha : AE X x e f) : AI X x tg e (xItems f) := by
  refine ⟨fun pins s σ H R I h => ?_⟩
  obtain ⟨c, fr, ad, F, o⟩ := h
  have h2 : tE (pX X) x f σ H fun v H1 => ∃ c fr1 ad1 av, FR (pX X) c fr1 ad1 σ H1 ∧ RepA (pX X) H1 (okP c ad1) ad1 v av ∧ (match av with
      | .dat (.list ys) => ∀ J qs, (∀ q ∈ qs, isDat q.2 = true ∧ RepA (pX X) H1 (okP c ad1) ad1 q.1 q.2) → Wk (pX X) J qs ys → R J H1
      | .dat (.tuple ys) => ∀ J qs, (∀ q ∈ qs, isDat q.2 = true ∧ RepA (pX X) H1 (okP c ad1) ad1 q.1 q.2) → Wk (pX X) J qs ys → R J H1
      | _ => False) := by
    refine ⟨c, fr, ad, F, (Out.bind F o).mono fun av fr1 ad1 H1 F1 m1 o1 v rv => ⟨c, fr1, ad1, av, F1, rv, ?_⟩⟩
    cases av with
    | dat y =>
      cases y with
      | list ys => exact o1 ad1 H1 F1 Mv.refl
      | tuple ys => exact o1 ad1 H1 F1 Mv.refl
      | _ => exact o1.elim
    | _ => exact o1.elim
  refine thn (ha.run pins s σ H _ I h2) fun u s1 hq => ?_
  obtain ⟨v, H1, I1, r1, c1, fr1, ad1, av, F1, rv, q⟩ := hq
  cases av with
  | dat y =>
    cases y with
    | list ys =>
      obtain ⟨a, xs, rfl, h1, _, h3⟩ := RepB.list (.inl rv)
      cases r1
      exact it_lst I1 h1 (q _ [(.ref a, .dat (.list ys))] (fun z hz => by cases List.mem_singleton.mp hz; exact ⟨rfl, rv⟩) wk_lst)
    | tuple ys =>
      obtain ⟨a, xs, rfl, h1, _, h3⟩ := RepB.tuple (.inl rv)
      cases r1
      exact it_tup I1 h1 (q _ [(.ref a, .dat (.tuple ys))] (fun z hz => by cases List.mem_singleton.mp hz; exact ⟨rfl, rv⟩) wk_tup)
    | _ => exact q.elim
  | _ => exact q.elim
end
def forA (g : Tg) (b : Fr → SRes) : List PyData → Fr → SRes
  | [], fr => .nx fr
  | y :: ys, fr => match g y fr with
    | some fr1 => (match b fr1 with
      | .nx f2 => forA g b ys f2
      | .ct f2 => forA g b ys f2
      | .bk f2 => .nx f2
      | r => r)
    | none => .err
@[simp] def sFor (f : Fr → Res (List PyData)) (g : Tg) (b : Fr → SRes) : Fr → SRes := fun fr => (f fr).toS fun ys fr1 => forA g b ys fr1
section
variable {p : Par} {c : Ent} {fr : Fr} {ad : List (Option Addr)} {σ : L2.St} {H : Hp}
abbrev Ent.plus (c : Ent) (qs : List (V × AV)) : Ent := { c with gh := qs ++ c.gh }
theorem FR.plus (F : FR p c fr ad σ H) {qs : List (V × AV)} (h : ∀ q ∈ qs, isDat q.2 = true ∧ RepA p H (okP c ad) ad q.1 q.2) : FR p (c.plus qs) fr ad σ H :=
  ⟨F.len, F.var, F.clen, F.cel, F.nd, F.old, F.sub, F.adw, fun q hq => (List.mem_append.mp hq).elim (h q) (F.gh q), F.pr, F.bs, F.tabs⟩
theorem FR.less {qs : List (V × AV)} (F : FR p (c.plus qs) fr ad σ H) : FR p c fr ad σ H :=
  ⟨F.len, F.var, F.clen, F.cel, F.nd, F.old, F.sub, F.adw, fun q hq => F.gh q (List.mem_append_right _ hq), F.pr, F.bs, F.tabs⟩
theorem FR.ghs {qs : List (V × AV)} (F : FR p (c.plus qs) fr ad σ H) : ∀ q ∈ qs, RepA p H (okP c ad) [] q.1 q.2 := fun q hq => by
  obtain ⟨h1, h2⟩ := F.gh q (List.mem_append_left _ hq)
  revert h1 h2
  cases q.2 with
  | dat y => exact fun _ h => h
  | dct tp kvs => exact fun _ h => h
  | cel i => exact fun h => nomatch h
  | scr ns => exact fun h => nomatch h
  | brd _ _ _ => exact fun h => nomatch h
  | fn _ _ => exact fun h => nomatch h
  | pin _ => exact fun _ h => h
end
section
variable {X : Cx} {x : XW} {tg e : Expr} {f : Fr → Res (List PyData)} {g : Tg} {b : Fr → SRes} {is : List Nat} {body : List Stmt} {pos : Pos}
theorem as_for (hp : PassesOwn (model X.prog X.w) X.A X.env X.xe) (hc : X.calm = true) (hi : AI X x tg e f) (hg : AG X tg is g) (hb : ASs X x body b)
    (hs : ∀ z, foldedSetIterable e X.env z = pure z := by intro _; rfl) : AS X x (.For tg e body [] pos) (sFor f g b) := by
  refine (ps_for hp hc hi hg hb hs).imp fun D σ H ⟨c, fr, ad, F, o⟩ => ⟨c, fr, ad, F, (SOut.of F o).mono fun ys fr1 ad1 H1 F1 m1 o1 J qs hq wk => ?_⟩
  refine ⟨fun i m σ H => i ≤ ys.length ∧ m = ys.length - i ∧ ∃ fr ad, FR (pX X) (c.plus qs) fr ad σ H ∧ SOut (pX X) x c (forA g b (ys.drop i) fr) D, ⟨ys.length, Nat.zero_le _, by simp, fr1, ad1, F1.plus hq, o1⟩, ?_⟩
  rintro i m σ2 H2 ⟨hi2, rfl, fr2, ad2, F2, o2⟩
  by_cases hlt : i < ys.length
  · right
    have ey : ys[i]? = some ys[i] := by rw [List.getElem?_eq_getElem hlt]
    obtain ⟨h1, h2⟩ := wk.go _ H2 i _ F2.ghs ey
    refine ⟨h1, fun σ' H' => ∃ fr ad, FR (pX X) (c.plus qs) fr ad σ' H' ∧ SOut (pX X) x c (forA g b (ys.drop (i + 1)) fr) D, fun σ' H' h => ⟨ys.length - (i + 1), by omega, hlt, rfl, h⟩, fun v H3 hy => ?_⟩
    obtain ⟨gr, rv⟩ := h2 v H3 hy
    rw [List.drop_eq_getElem_cons hlt] at o2
    unfold forA at o2
    cases q1 : g ys[i] fr2 with
    | none => rw [q1] at o2; exact o2.elim
    | some fr3 =>
      rw [q1] at o2
      simp only at o2
      refine ⟨c.plus qs, fr2, ad2, _, fr3, F2.grow gr, rv, q1, fun σ3 F3 _ => ⟨c.plus qs, fr3, ad2, F3, ?_⟩⟩
      cases q2 : b fr3 with
      | nx f4 => rw [q2] at o2; exact fun ad4 σ4 H4 F4 => ⟨f4, ad4, F4, o2⟩
      | ct f4 => rw [q2] at o2; exact fun ad4 σ4 H4 F4 => ⟨f4, ad4, F4, o2⟩
      | bk f4 => rw [q2] at o2; exact fun ad4 σ4 H4 F4 => o2 ad4 σ4 H4 F4.less
      | ret a f4 => rw [q2] at o2; exact fun ad4 σ4 H4 v4 F4 r4 => o2 ad4 σ4 H4 v4 F4.less r4
      | exc cl fs f4 => rw [q2] at o2; exact fun ad4 σ4 H4 C d F4 hx => o2 ad4 σ4 H4 C d F4.less hx
      | err => rw [q2] at o2; exact o2.elim
  · have e1 : i = ys.length := by omega
    subst e1
    left
    refine ⟨wk.stop _ H2 F2.ghs, ?_⟩
    rw [List.drop_length] at o2
    exact o2 ad2 σ2 H2 F2.less
end
def whA (t : Fr → Res Bool) (b : Fr → SRes) : Nat → Fr → SRes
  | 0, _ => .err
  | n + 1, fr => (t fr).toS fun k fr1 => if k = true then (match b fr1 with
    | .nx f2 => whA t b n f2
    | .ct f2 => whA t b n f2
    | .bk f2 => .nx f2
    | r => r) else .nx fr1
section
variable {X : Cx} {x : XW} {t : Fr → Res Bool} {b : Fr → SRes} {tst : Expr} {body : List Stmt} {pos : Pos}
theorem as_while (m : Fr → Nat) (hp : PassesOwn (model X.prog X.w) X.A X.env X.xe) (hc : AT X x tst t) (hb : ASs X x body b) : AS X x (.While tst body [] pos) (fun fr => whA t b (m fr) fr) := by
  refine (ps_while hp hc hb).imp fun D σ H ⟨c, fr, ad, F, o⟩ => ?_
  refine ⟨fun n σ H => ∃ fr ad, FR (pX X) c fr ad σ H ∧ SOut (pX X) x c (whA t b n fr) D, ⟨m fr, fr, ad, F, o⟩, ?_⟩
  rintro n σ1 H1 ⟨fr1, ad1, F1, o1⟩
  cases n with
  | zero => exact o1.elim
  | succ n =>
    refine ⟨c, fr1, ad1, F1, (SOut.of F1 o1).mono fun k fr2 ad2 H2 F2 m2 o2 => ?_⟩
    cases k with
    | false => exact o2 ad2 σ1 H2 F2
    | true =>
      simp only [if_true] at o2 ⊢
      refine ⟨fun σ' H' => ∃ fr ad, FR (pX X) c fr ad σ' H' ∧ SOut (pX X) x c (whA t b n fr) D, fun σ' H' h => ⟨n, by omega, h⟩, c, fr2, ad2, F2, ?_⟩
      cases q2 : b fr2 with
      | nx f4 => rw [q2] at o2; exact fun ad4 σ4 H4 F4 => ⟨f4, ad4, F4, o2⟩
      | ct f4 => rw [q2] at o2; exact fun ad4 σ4 H4 F4 => ⟨f4, ad4, F4, o2⟩
      | bk f4 => rw [q2] at o2; exact fun ad4 σ4 H4 F4 => o2 ad4 σ4 H4 F4
      | ret a f4 => rw [q2] at o2; exact fun ad4 σ4 H4 v4 F4 r4 => o2 ad4 σ4 H4 v4 F4 r4
      | exc cl fs f4 => rw [q2] at o2; exact fun ad4 σ4 H4 C d F4 hx => o2 ad4 σ4 H4 C d F4 hx
      | err => rw [q2] at o2; exact o2.elim
end
end G
namespace G
open PySem PySem.Spec PyProof.Rows L2
/-- the turns of a comprehension: the list so far, the cells -/
def compA (own : List Nat) (g : Tg) (t : Fr → Res Bool) (f : Fr → Res AV) (vars : List (Option AV)) (bs : Nat) : List PyData → List PyData → List Cell → Option (List PyData × List Cell)
  | [], acc, cs => some (acc, cs)
  | y :: ys, acc, cs => match g y ⟨kill own vars, cs, bs⟩ with
    | some fr1 => (match t fr1 with
      | .ok b fr2 => if b = true then (match f fr2 with
        | .ok (.dat z) fr3 => compA own g t f vars bs ys (acc ++ [z]) fr3.cells
        | _ => none) else compA own g t f vars bs ys acc fr2.cells
      | _ => none)
    | none => none
def xComp (own : List Nat) (e : Fr → Res (List PyData)) (g : Tg) (t : Fr → Res Bool) (f : Fr → Res AV) : Fr → Res AV := fun fr => (e fr).bind fun ys fr1 => if ys.length ≤ 1000000 then (match compA own g t f fr1.vars fr1.base ys [] fr1.cells with
  | some (acc, cs) => .ok (.dat (.list acc)) ⟨fr1.vars, cs, fr1.base⟩
  | none => .err) else .err
@[simp] def xYes : Fr → Res Bool := fun fr => .ok true fr
section
variable {p : Par} {c : Ent} {fr : Fr} {ad ad' : List (Option Addr)} {σ σ2 : L2.St} {H H' : Hp}
theorem wipe_at {σ : L2.St} {i : Nat} : ∀ {vs : List Nat}, i ∉ vs → (wipe σ vs)[i]? = σ[i]?
  | [], _ => rfl
  | v :: vs, h => by
    simp only [List.mem_cons, not_or] at h
    unfold wipe
    rw [List.getElem?_set_ne (Ne.symm h.1)]
    exact wipe_at h.2
theorem wipe_sub {σ : L2.St} {vs : List Nat} : ∀ {ws : List Nat}, (∀ i ∈ ws, i ∈ vs) → L2.wipe (L2.wipe σ ws) vs = L2.wipe σ vs
  | [], _ => rfl
  | w :: ws, h => by
    show L2.wipe ((L2.wipe σ ws).set w none) vs = _
    rw [wipe_set (h w (by simp))]
    exact wipe_sub fun i hi => h i (List.mem_cons_of_mem _ hi)
theorem FR.wipe (F : FR p c fr ad σ H) (own : List Nat) : FR p c ⟨G.kill own fr.vars, fr.cells, fr.base⟩ ad (L2.wipe σ own) H :=
  ⟨by rw [kill_len, wipe_length]; exact F.len, fun i av e => by
    obtain ⟨h1, h2⟩ := kill_some e
    obtain ⟨v, h3, h4⟩ := F.var i av h1
    exact ⟨v, by rw [wipe_at h2]; exact h3, h4⟩, F.clen, F.cel, F.nd, F.old, F.sub, F.adw, F.gh, F.pr, F.bs, F.tabs⟩
/-- the names as they were, the cells as they are -/
theorem FR.back (F : FR p c fr ad σ H) (m : Mv H ad H' ad') {fr' : Fr} (F' : FR p c fr' ad' σ2 H') : FR p c ⟨fr.vars, fr'.cells, fr.base⟩ ad' σ H' :=
  ⟨F.len, fun i av e => by
    obtain ⟨v, h1, h2⟩ := F.var i av e
    exact ⟨v, h1, RepA.mv F m h2⟩, F'.clen, F'.cel, F'.nd, F'.old, F'.sub, F'.adw, F'.gh, F'.pr, F.bs, F'.tabs⟩
abbrev Ent.hold (c : Ent) (D : Addr) : Ent := { c with prot := D :: c.prot }
theorem okP_hold {D : Addr} : ∀ a, okP (c.hold D) ad a → okP c ad a := fun a h => ⟨⟨h.1.1, fun z => h.1.2 (List.mem_cons_of_mem _ z)⟩, h.2⟩
theorem RepA.mono {ok ok' : Addr → Prop} (h : ∀ a, ok a → ok' a) {v : V} : ∀ {av : AV}, RepA p H ok ad v av → RepA p H ok' ad v av
  | .dat y, r => Rep.mono h r
  | .dct tp kvs, ⟨b, e, h1, h2⟩ => ⟨b, e, h b h1, h2.mono h⟩
  | .cel i, r => r
  | .scr ns, r => r
  | .brd _ _ _, ⟨b, u, e, h1, h2, h3⟩ => ⟨b, u, e, h b h1, h2.mono h, h3⟩
  | .fn _ _, e => e
  | .pin _, ⟨b, e, h1, h2⟩ => ⟨b, e, h b h1, h2⟩
theorem FR.unhold {D : Addr} (F : FR p (c.hold D) fr ad σ H) : FR p c fr ad σ H :=
  ⟨F.len, fun i av e => by
    obtain ⟨v, h1, h2⟩ := F.var i av e
    exact ⟨v, h1, RepA.mono okP_hold h2⟩, F.clen, fun i a e => by
    obtain ⟨cl, h1, h2⟩ := F.cel i a e
    exact ⟨cl, h1, CellAt.mono okP_hold h2⟩, F.nd, F.old, F.sub, F.adw, fun q hq => ⟨(F.gh q hq).1, RepA.mono okP_hold (F.gh q hq).2⟩, fun a ha => F.pr a (List.mem_cons_of_mem _ ha), F.bs, F.tabs.sub fun a z => by
      simp only [List.mem_append, List.map_cons, List.mem_cons] at z ⊢
      rcases z with z | z
      · exact .inl z
      · exact .inr (.inr z)⟩
/-- a new list, protected -/
theorem FR.hold (F : FR p c fr ad σ H) {D : Addr} {vs : List V} (n : H D = none) : FR p (c.hold D) fr ad σ (upd H D (.lst vs)) := by
  have gr : Grow H (upd H D (.lst vs)) := Grow.new n
  have kp : Keep H (upd H D (.lst vs)) (okP c ad) (okP (c.hold D) ad) := ⟨fun a o h e => ⟨⟨⟨h.1.1, fun z => by
    rcases List.mem_cons.mp z with z | z
    · subst z; rw [n] at e; cases e
    · exact h.1.2 z⟩, h.2⟩, fun _ => gr a o e⟩, (gr.keep (ok := okP c ad)).t⟩
  have nD : some D ∉ ad := fun m => by
    obtain ⟨o, e, _⟩ := F.track m
    rw [n] at e; cases e
  have rep : ∀ {v : V} {av : AV}, RepA p H (okP c ad) ad v av → RepA p (upd H D (.lst vs)) (okP (c.hold D) ad) ad v av := fun {v av} r => by
    cases av with
    | dat y => exact Rep.keep kp r
    | dct tp kvs =>
      obtain ⟨b, e, h1, h2⟩ := r
      obtain ⟨o, z, _⟩ := h2.there
      exact ⟨b, e, (kp.l b o h1 z).1, h2.keep kp fun o z => gr b o z⟩
    | cel i => exact r
    | fn n _ => exact r
    | pin φ => obtain ⟨b, e, h1, h2⟩ := r; exact ⟨b, e, (kp.l b _ h1 h2).1, gr b _ h2⟩
    | brd rms cks i =>
      obtain ⟨b, u, e, h1, h2, h3⟩ := r
      obtain ⟨o, z⟩ := h2.there
      exact ⟨b, u, e, (kp.l b o h1 z).1, h2.keep kp fun o z => gr b o z, h3⟩
    | scr ns => exact RepA.mv F (Mv.grow gr) r
  refine ⟨F.len, fun i av e => ?_, F.clen, fun i a e => ?_, F.nd, fun b o e h => let ⟨o', q1, q2⟩ := F.old b o e h; ⟨o', gr _ _ q1, q2⟩, F.sub, F.adw, fun q hq => ⟨(F.gh q hq).1, rep (F.gh q hq).2⟩, fun a ha => ?_, F.bs, ((F.tabs.add (a := D) fun k q h z => by rw [z, n] at h; cases h).sub fun b z => by
    simp only [List.mem_append, List.map_cons, List.mem_cons] at z ⊢
    rcases z with z | z | z
    · exact .inl (.inl z)
    · exact .inr (.inl z)
    · exact .inl (.inr z)).grow gr⟩
  · obtain ⟨v, h1, h2⟩ := F.var i av e
    exact ⟨v, h1, rep h2⟩
  · obtain ⟨cl, h1, h2⟩ := F.cel i a e
    refine ⟨cl, h1, ?_⟩
    exact CellAt.keep kp (fun o z => gr _ _ z) h2
  · rcases List.mem_cons.mp ha with e | e
    · subst e; exact ⟨nD, _, upd_same⟩
    · obtain ⟨h1, ws, h2⟩ := F.pr a e
      exact ⟨h1, ws, gr _ _ h2⟩
/-- a protected list grows -/
theorem FR.fill {D : Addr} (F : FR p (c.hold D) fr ad σ H) (hD : c.He D = none) {vs ws : List V} (e : H D = some (.lst vs)) : FR p (c.hold D) fr ad σ (upd H D (.lst ws)) ∧ Keep H (upd H D (.lst ws)) (okP (c.hold D) ad) (okP (c.hold D) ad) := by
  have nD : some D ∉ ad := (F.pr D (List.mem_cons_self ..)).1
  have ne : ∀ a, okP (c.hold D) ad a → a ≠ D := fun a h z => h.1.2 (by rw [z]; exact List.mem_cons_self ..)
  have kp : Keep H (upd H D (.lst ws)) (okP (c.hold D) ad) (okP (c.hold D) ad) := ⟨fun a o h q => ⟨h, fun _ => by rw [upd_ne (ne a h)]; exact q⟩, wr_t e⟩
  have rep : ∀ {v : V} {av : AV}, RepA p H (okP (c.hold D) ad) ad v av → RepA p (upd H D (.lst ws)) (okP (c.hold D) ad) ad v av := fun {v av} r => by
    cases av with
    | dat y => exact Rep.keep kp r
    | dct tp kvs =>
      obtain ⟨b, e, h1, h2⟩ := r
      exact ⟨b, e, h1, h2.keep kp fun o z => by rw [upd_ne (ne b h1)]; exact z⟩
    | cel i => exact r
    | fn n _ => exact r
    | pin φ => obtain ⟨b, e, h1, h2⟩ := r; exact ⟨b, e, h1, by rw [upd_ne (ne b h1)]; exact h2⟩
    | brd rms cks i =>
      obtain ⟨b, u, e, h1, h2, h3⟩ := r
      exact ⟨b, u, e, h1, h2.keep kp fun o z => by rw [upd_ne (ne b h1)]; exact z, h3⟩
    | scr ns =>
      obtain ⟨hl, b, rfl, z⟩ := r
      refine ⟨hl, b, rfl, ?_⟩
      rcases z with ⟨u, z⟩ | z
      · exact .inl ⟨u, by rw [upd_ne (by rintro rfl; rw [e] at z; cases z)]; exact z⟩
      · exact .inr z
  refine ⟨⟨F.len, fun i av q => ?_, F.clen, fun i a q => ?_, F.nd, fun b o q h => ?_, F.sub, F.adw, fun q hq => ⟨(F.gh q hq).1, rep (F.gh q hq).2⟩, fun a ha => ?_, F.bs, F.tabs.put (List.mem_append_right _ (by simp)) e trivial⟩, kp⟩
  · obtain ⟨v, h1, h2⟩ := F.var i av q
    exact ⟨v, h1, rep h2⟩
  · obtain ⟨cl, h1, h2⟩ := F.cel i a q
    have na : a ≠ D := fun z => nD (by rw [← z]; exact List.mem_of_getElem? q)
    refine ⟨cl, h1, ?_⟩
    exact CellAt.keep kp (fun o z => by rw [upd_ne na]; exact z) h2
  · have nb : b ≠ D := by
      intro z
      have q' : c.He b = some o := q
      rw [z, hD] at q'
      cases q'
    obtain ⟨o', q1, q2⟩ := F.old b o q h
    by_cases z : b = D
    · exact absurd z nb
    · exact ⟨o', by rw [upd_ne z]; exact q1, q2⟩
  · by_cases z : a = D
    · subst z; exact ⟨nD, _, upd_same⟩
    · obtain ⟨h1, us, h2⟩ := F.pr a ha
      exact ⟨h1, us, by rw [upd_ne z]; exact h2⟩
end
section
variable {X : Cx} {x : XW} {tg e elt : Expr} {ef : Fr → Res (List PyData)} {g : Tg} {t : Fr → Res Bool} {f : Fr → Res AV} {is : List Nat} {pos : Pos} {ifs : List Expr} {scope : Scope} {own : List (Str × Nat)}
/-- within a block nothing may be raised -/
abbrev xb (x : XW) : XW := ⟨fun _ _ _ _ => False, x.C⟩
abbrev Blk (X : Cx) (scope : Scope) (P : Cx → Prop) : Prop := ∀ (s : Shared) (H : Hp) (C : Addr) (cl : List (Str × Addr)) (fp : List Addr), P (X.blk s H scope (compEnvC scope cl C X.env) fp)
abbrev ATs (X : Cx) (x : XW) (ifs : List Expr) (t : Fr → Res Bool) : Prop := PTs X ifs (tT (pX X) x t)
theorem ats_nil : ATs X x [] xYes := ⟨fun pins s σ H Q I ⟨c, fr, ad, F, o⟩ => pts_nil.run pins s σ H Q I (o ad H F Mv.refl)⟩
theorem ats_one {a : Expr} (h : AT X x a t) : ATs X x [a] t := pts_one h
theorem lc_read {σ : L2.St} {H : Hp} {Q : VK} (hsub : ∀ i ∈ is, i ∈ own.map (·.2)) (h : tE (pX X) x (xComp (own.map (·.2)) ef g t f) σ H Q) :
    tLc (tI (pX X) x ef) (tG (pX X) is g) (tT (pX X) (xb x) t) (tE (pX X) (xb x) f) (own.map (·.2)) σ H Q := by
  obtain ⟨c, fr, ad, F, o⟩ := h
  refine ⟨c, fr, ad, F, (Out.bind F o).mono fun ys fr1 ad1 H1 F1 m1 o1 J qs hq wk D hD => ?_⟩
  split at o1
  rotate_left
  · exact o1.elim
  rename_i hlen
  have hDe := he_new F1 hD
  have gr1 : Grow H1 (upd H1 D (.lst [])) := Grow.new hD
  have F1h := (F1.plus hq).hold (vs := []) hD
  have Dad : some D ∉ ad1 := (F1h.pr D (List.mem_cons_self ..)).1
  generalize hown : own.map (·.2) = ow at *
  refine ⟨fun i m H => i ≤ ys.length ∧ m = ys.length - i ∧ ∃ (acc : List PyData) (cs : List Cell) (ad : List (Option Addr)) (vs : List V), FR (pX X) ((c.plus qs).hold D) ⟨fr1.vars, cs, fr1.base⟩ ad σ H ∧ H D = some (.lst vs) ∧ RepL X.K H (okP ((c.plus qs).hold D) ad) vs acc ∧ acc.length ≤ i ∧ Mv H1 ad1 H ad ∧
      (match compA ow g t f fr1.vars fr1.base (ys.drop i) acc cs with
        | some (r, cs') => ∀ ad' H', FR (pX X) c ⟨fr1.vars, cs', fr1.base⟩ ad' σ H' → Mv H1 ad1 H' ad' → ∀ v, Rep X.K H' (okP c ad') v (.list r) → Q v H'
        | none => False), ⟨ys.length, Nat.zero_le _, by simp, [], fr1.cells, ad1, [], F1h, upd_same, .nil, Nat.le_refl _, Mv.grow gr1, ?_⟩, ?_⟩
  · rw [List.drop_zero]
    cases q : compA ow g t f fr1.vars fr1.base ys [] fr1.cells with
    | none => rw [q] at o1; exact o1.elim
    | some r =>
      obtain ⟨r, cs'⟩ := r
      rw [q] at o1
      exact fun ad' H' F' m' v rv => o1 ad' H' F' m' v rv
  · rintro i m H2 ⟨hi2, rfl, acc, cs, ad2, vs, F2, hD2, racc, hacc, m2, o2⟩
    by_cases hlt : i < ys.length
    · right
      have ey : ys[i]? = some ys[i] := by rw [List.getElem?_eq_getElem hlt]
      obtain ⟨h1, h2⟩ := wk.go _ H2 i _ (FR.ghs (c := c.hold D) ⟨F2.len, F2.var, F2.clen, F2.cel, F2.nd, F2.old, F2.sub, F2.adw, F2.gh, F2.pr, F2.bs, F2.tabs⟩) ey
      refine ⟨h1, _, fun H' h => ⟨ys.length - (i + 1), by omega, hlt, rfl, h⟩, fun v H3 hy => ?_⟩
      obtain ⟨gr, rv⟩ := h2 v H3 hy
      rw [List.drop_eq_getElem_cons hlt] at o2
      unfold compA at o2
      have F3 := F2.grow gr
      have D3 := gr D _ hD2
      have r3 := racc.keep (gr.keep (ok := okP ((c.plus qs).hold D) ad2))
      cases q1 : g ys[i] ⟨kill ow fr1.vars, cs, fr1.base⟩ with
      | none => rw [q1] at o2; exact o2.elim
      | some fr4 =>
        rw [q1] at o2
        simp only at o2
        refine ⟨(c.plus qs).hold D, ⟨kill ow fr1.vars, cs, fr1.base⟩, ad2, _, fr4, F3.wipe ow, rv, q1, fun σ4 F4 oa => ⟨?_, (c.plus qs).hold D, fr4, ad2, F4, ?_⟩⟩
        · rw [oa ow hsub]
          exact wipe_sub fun _ h => h
        · cases q2 : t fr4 with
          | exc cl fs fr5 => rw [q2] at o2; exact o2.elim
          | err => rw [q2] at o2; exact o2.elim
          | ok b fr5 =>
            rw [q2] at o2
            simp only at o2
            intro ad5 H5 F5 m5
            have B5 := F3.back m5 F5
            have M5 : Mv H1 ad1 H5 ad5 := (m2.trans F1 (Mv.grow gr)).trans F1 m5
            have D5 := m5.keep D _ D3 (F3.pr D (List.mem_cons_self ..)).1 trivial
            have r5 := r3.keep (m5.kp F3)
            cases b with
            | false =>
              simp only [Bool.false_eq_true, if_false] at o2 ⊢
              exact ⟨acc, fr5.cells, ad5, vs, B5, D5, r5, by omega, M5, o2⟩
            | true =>
              simp only [if_true] at o2 ⊢
              refine ⟨(c.plus qs).hold D, fr5, ad5, F5, ?_⟩
              cases q3 : f fr5 with
              | exc cl fs fr6 => rw [q3] at o2; exact o2.elim
              | err => rw [q3] at o2; exact o2.elim
              | ok av fr6 =>
                rw [q3] at o2
                intro ad6 H6 F6 m6 w rw_
                cases av with
                | dat z =>
                  simp only at o2
                  have B6 := B5.back m6 F6
                  have M6 := M5.trans F1 m6
                  have D6 := m6.keep D _ D5 (B5.pr D (List.mem_cons_self ..)).1 trivial
                  have r6 := r5.keep (m6.kp B5)
                  have len := r6.length
                  obtain ⟨F7, k7⟩ := B6.fill hDe (ws := vs ++ [w]) D6
                  refine ⟨vs, D6, by rw [sizeLine_eq]; omega, acc ++ [z], fr6.cells, ad6, vs ++ [w], F7, upd_same, RepL.append (r6.keep k7) (.cons (Rep.keep k7 rw_) .nil), by simp; omega, ?_, o2⟩
                  refine ⟨fun b u e n => ?_, M6.pre, M6.new, fun b h => ?_⟩
                  · have nb : b ≠ D := fun z => by rw [z, hD] at e; cases e
                    rw [upd_ne nb]; exact M6.keep b u e n
                  · by_cases z : b = D
                    · subst z; rw [upd_same]; simp
                    · rw [upd_ne z]; exact M6.there b h
                | _ => exact o2.elim
    · have e1 : i = ys.length := by omega
      subst e1
      left
      refine ⟨wk.stop _ H2 (FR.ghs (c := c.hold D) ⟨F2.len, F2.var, F2.clen, F2.cel, F2.nd, F2.old, F2.sub, F2.adw, F2.gh, F2.pr, F2.bs, F2.tabs⟩), ?_⟩
      rw [List.drop_length] at o2
      have o3 : ∀ ad' H', FR (pX X) c ⟨fr1.vars, cs, fr1.base⟩ ad' σ H' → Mv H1 ad1 H' ad' → ∀ v, Rep X.K H' (okP c ad') v (.list acc) → Q v H' := o2
      refine o3 ad2 H2 F2.unhold.less m2 (.ref D) (.lst ⟨⟨.inl hDe, fun z => ?_⟩, (F2.pr D (List.mem_cons_self ..)).1⟩ hD2 (by rw [sizeLine_eq]; omega) (racc.mono okP_hold))
      obtain ⟨_, us, e⟩ := F1.pr D z
      rw [hD] at e; cases e
/-- as a value -/
theorem ae_lc (hc : X.calm = true) (hN : X.N.Nodup) (hi : AI X x tg e ef) (ok : BlkOk X.N X.env.scope scope own) (hg : Blk X scope fun Y => AG Y tg is g) (ht : Blk X scope fun Y => ATs Y (xb x) ifs t) (he : Blk X scope fun Y => AE Y (xb x) elt f)
    (hsub : ∀ i ∈ is, i ∈ own.map (·.2)) (hs : ∀ z, foldedSetIterable e X.env z = pure z := by intro _; rfl) : AE X x (.ListComp elt [⟨tg, e, ifs, 0⟩] scope pos) (xComp (own.map (·.2)) ef g t f) :=
  (pe_lc hc hN hi ok hg ht he hs).imp fun σ H Q h => lc_read hsub h
/-- name = [..] on one line -/
theorem as_setLc {i : Nat} {n : Str} {p1 spos : Pos} (hc : X.calm = true) (hN : X.N.Nodup) (hy : X.N[i]? = some n) (hyl : X.env.scope.names.lookup n = some .local) (hsw : swapsWith (.ListComp elt [⟨tg, e, ifs, 0⟩] scope pos) (some (.Name n p1)) spos.line X.env = pure true)
    (hi : AI X x tg e ef) (ok : BlkOk X.N X.env.scope scope own) (hg : Blk X scope fun Y => AG Y tg is g) (ht : Blk X scope fun Y => ATs Y (xb x) ifs t) (he : Blk X scope fun Y => AE Y (xb x) elt f)
    (hsub : ∀ i ∈ is, i ∈ own.map (·.2)) (hs : ∀ z, foldedSetIterable e X.env z = pure z := by intro _; rfl) : AS X x (.Assign [.Name n p1] (.ListComp elt [⟨tg, e, ifs, 0⟩] scope pos) spos) (sSet i (xComp (own.map (·.2)) ef g t f)) :=
  (ps_setLc hc hN hy hyl hsw hi ok hg ht he hs).imp fun D σ H ⟨c, fr, ad, F, o⟩ => lc_read hsub ⟨c, fr, ad, F, (SOut.of F o).mono fun av fr1 ad1 H1 F1 m1 o1 v rv => o1 ad1 _ H1 (F1.setv rv)⟩
end
end G
namespace G
open PySem PySem.Spec PyProof.Rows L2
section
variable {X : Cx} {x : XW} {a b d : Expr} {f g h : Fr → Res AV} {pos : Pos} {st : Stmt} {ss : List Stmt} {s t u : Fr → SRes}
/-- name[i] = value, the name a list of one's own -/
theorem as_setIx {i : Nat} {n : Str} {p1 p2 : Pos} (hN : X.N[i]? = some n) (hv : Vis X.env.scope n) (hb : AE X x b g) (ha : AE X x a f) (hd : (n == ("__debug__" : Str)) = false := by decide) (hcd : (n == ("__classdict__" : Str)) = false := by decide)
    (hsub : ∀ v, assign (.Subscript (.Name n p1) b p2) X.env v = (do
      let ov ← holding [v] (eval (.Name n p1) X.env)
      let iv ← holding [v, ov] (eval b X.env)
      standAt p2
      holding [v, ov, iv] (setItem ov iv v)
      release [v, ov, iv] []) := by intro _; rfl)
    (hs : swapsWithSole [.Subscript (.Name n p1) b p2] a pos.line X.env = pure false := by rfl) (hw : swappedStores [.Subscript (.Name n p1) b p2] a X.env = pure none := by rfl)
    (h1 : (assignEach [.Subscript (.Name n p1) b p2] X.env).map (·.2) = [assign (.Subscript (.Name n p1) b p2) X.env] := by rfl) : AS X x (.Assign [.Subscript (.Name n p1) b p2] a pos) (sSetIx i g f) := by
  refine (ps_asg ha (pg_sub (pe_var hN hv hd hcd) hb set_list hsub) hs hw h1).imp fun D σ H ⟨c, fr, ad, F, o⟩ => ⟨c, fr, ad, F, (SOut.of F o).mono fun av fr1 ad1 H1 F1 m1 o1 v rv => ?_⟩
  cases q : fr1.vars[i]? with
  | none => rw [q] at o1; exact o1.elim
  | some w =>
    rw [q] at o1
    cases w with
    | none => exact o1.elim
    | some aw =>
      obtain ⟨vw, e1, e2⟩ := F1.var i aw q
      cases aw with
      | cel k =>
        obtain ⟨l, rfl, hl⟩ := e2
        refine ⟨_, e1, c, fr1, ad1, F1, (SOut.of F1 o1).mono fun bv fr2 ad2 H2 F2 m2 o2 w rw_ => ?_⟩
        have rv2 := RepA.mv F1 m2 rv
        cases av with
        | dat y =>
          cases bv with
          | dat yb =>
            cases yb with
            | int n =>
              cases RepB.int (.inl rw_)
              cases q2 : fr2.cells[k]? with
              | none => simp only [q2] at o2; exact o2.elim
              | some cl =>
                cases cl with
                | lst xs =>
                  simp only [q2] at o2
                  cases q3 : ixN xs.length n with
                  | none => simp only [q3] at o2; exact o2.elim
                  | some j =>
                    simp only [q3] at o2
                    have e3 := m2.pre k _ hl
                    obtain ⟨vs, h3, hz, h4⟩ := cell_lst F2 e3 q2
                    have m := List.mem_of_getElem? e3
                    refine ⟨l, vs, n, j, rfl, rfl, h3, by rw [h4.length]; exact q3, ?_⟩
                    exact o2 _ _ _ (F2.putc e3 (wr_t h3) ⟨_, upd_same, by rw [List.length_set]; exact hz, RepL.set (Rep.keep (wr_k m h3) rv2) j (h4.keep (wr_k m h3))⟩)
                | _ => simp only [q2] at o2; exact o2.elim
            | _ => exact o2.elim
          | _ => exact o2.elim
        | _ => exact o2.elim
      | _ => exact o1.elim
/-- name += value, by values -/
@[simp] def sAug (i : Nat) (sem : PyData → PyData → Option PyData) (f : Fr → Res AV) : Fr → SRes := fun fr => match fr.vars[i]? with
  | some (some (.dat y)) => (f fr).toS fun av fr1 => (match fr1.view av with
    | some z => (match sem y z with
      | some r => .nx (fr1.setv i (some (.dat r)))
      | none => .err)
    | none => .err)
  | _ => .err
theorem as_aug {op : Operator} {sem : PyData → PyData → Option PyData} {i : Nat} {n : Str} {p1 : Pos} (hN : X.N.Nodup) (hi : X.N[i]? = some n) (hx : Loc X.env.scope n) (ho : OpR X (inplaceOp op) (rOp2 X.K sem)) (ha : AE X x a f)
    (hf : X.fn n = true ∨ X.env.scope.names.lookup n = some .local := by first | exact .inl rfl | exact .inr rfl | assumption) : AS X x (.AugAssign (.Name n p1) op a pos) (sAug i sem f) := by
  have hp : PIp X op (rOp2 X.K sem) := fun pins s σ H xv yv v u Q I r1 r2 h => ho pins s σ H xv yv v u Q I r1 r2 h
  refine (ps_aug hN hi hx ha hp hf).imp fun D σ H ⟨c, fr, ad, F, o⟩ => ?_
  unfold sAug at o
  cases q : fr.vars[i]? with
  | none => rw [q] at o; exact o.elim
  | some w =>
    rw [q] at o
    cases w with
    | none => exact o.elim
    | some aw =>
      obtain ⟨vw, e1, e2⟩ := F.var i aw q
      cases aw with
      | dat y =>
        refine ⟨vw, e1, c, fr, ad, F, (SOut.of F o).mono fun av fr1 ad1 H1 F1 m1 o1 v rv => ?_⟩
        have r2 : Rep X.K H1 (okP c ad1) vw y := Rep.keep (m1.kp F) e2
        cases q1 : fr1.view av with
        | none => rw [q1] at o1; exact o1.elim
        | some z =>
          rw [q1] at o1
          simp only at o1
          cases q2 : sem y z with
          | none => rw [q2] at o1; exact o1.elim
          | some r =>
            rw [q2] at o1
            exact ⟨okP c ad1, y, z, r, fun p hp => okP_new F1 hp, .inl r2, view_rep F1 rv q1, q2, fun w H2 gr rw_ => o1 ad1 _ H2 ((F1.grow gr).setv (a := .dat r) rw_)⟩
      | _ => exact o.elim
end
def rangeD (lo : Int) (n : Nat) : List PyData := (List.range n).map fun i => .int (lo + (i : Nat))
def rgOk (i : Int) : Bool := decide (-(2 ^ 62) ≤ i ∧ i < 2 ^ 62)
@[simp] def xRange1 (f : Fr → Res AV) : Fr → Res (List PyData) := fun fr => (f fr).bind fun a fr1 => match a with
  | .dat (.int j) => if rgOk j = true then .ok (rangeD 0 j.toNat) fr1 else .err
  | _ => .err
@[simp] def xRange2 (f g : Fr → Res AV) : Fr → Res (List PyData) := fun fr => (f fr).bind fun a fr1 => (g fr1).bind fun b fr2 => match a, b with
  | .dat (.int i), .dat (.int j) => if rgOk i = true ∧ rgOk j = true then .ok (rangeD i (j - i).toNat) fr2 else .err
  | _, _ => .err
theorem wk_range {p : Par} {lo : Int} {n : Nat} : Wk p (Itr lo n) [] (rangeD lo n) where
  go := fun ok H i y _ e => by
    unfold rangeD at e
    rw [List.getElem?_map] at e
    have hi : i < n := by
      rcases Nat.lt_or_ge i n with q | q
      · exact q
      · rw [List.getElem?_eq_none (by simpa using q)] at e; cases e
    rw [List.getElem?_range hi] at e
    cases e
    refine ⟨hi, fun v H' hy => ?_⟩
    obtain ⟨rfl, rfl⟩ := hy
    exact ⟨Grow.refl, .int _⟩
  stop := fun ok H _ => by
    show n ≤ (rangeD lo n).length
    unfold rangeD
    simp
section
variable {X : Cx} {x : XW} {tg a b : Expr} {f g : Fr → Res AV}
theorem ai_range1 {p1 pos : Pos} (hg : Gl X "range") (hm : X.mg "range" = none) (ha : AE X x a f) (hst : starEach [a] X.env = [(false, eval a X.env)] := by rfl) : AI X x tg (.Call (.Name "range" p1) [a] [] pos) (xRange1 f) := by
  have hw := pi_range1 (tg := tg) (p := p1) (pos := pos) hg hm (pa_cons ha pa_nil hst) hst
  refine ⟨fun pins s σ H R I hh => hw.run pins s σ H R I ?_⟩
  obtain ⟨c, fr, ad, F, o⟩ := hh
  refine ⟨c, fr, ad, F, (Out.bind F o).mono fun av fr1 ad1 H1 F1 m1 o1 v rv => ?_⟩
  cases av with
  | dat y =>
    cases y with
    | int j =>
      cases RepB.int (.inl rv)
      simp only at o1
      split at o1
      · rename_i hj
        have hj2 := of_decide_eq_true hj
        exact ⟨j, rfl, hj2.1, hj2.2, o1 ad1 H1 F1 Mv.refl _ [] (fun q hq => nomatch hq) wk_range⟩
      · exact o1.elim
    | _ => exact o1.elim
  | _ => exact o1.elim
end
end G
namespace G
open PySem PySem.Spec PyProof.Rows L2
mutual
def nkO : PyData → Option NestedKey
  | .none => some .none
  | .int i => some (.num i)
  | .str x => some (.text x)
  | .tuple xs => match nkOs xs with
    | some ks => some (.tup ks)
    | none => none
  | .bool _ => none
  | .list _ => none
  | .dict _ => none
def nkOs : List PyData → Option (List NestedKey)
  | [] => some []
  | x :: xs => match nkO x, nkOs xs with
    | some k, some ks => some (k :: ks)
    | _, _ => none
end
mutual
theorem nkO_eq : ∀ {k : PyData} {n : NestedKey}, nkO k = some n → k = nkD n
  | .none, n, e => by simp [nkO] at e; subst e; rfl
  | .int i, n, e => by simp [nkO] at e; subst e; rfl
  | .str x, n, e => by simp [nkO] at e; subst e; rfl
  | .tuple xs, n, e => by
    simp only [nkO] at e
    cases q : nkOs xs with
    | none => rw [q] at e; cases e
    | some ks => rw [q] at e; cases e; rw [nkOs_eq q]; rfl
  | .bool _, _, e => by simp [nkO] at e
  | .list _, _, e => by simp [nkO] at e
  | .dict _, _, e => by simp [nkO] at e
theorem nkOs_eq : ∀ {k : List PyData} {n : List NestedKey}, nkOs k = some n → k = nkDs n
  | [], n, e => by simp [nkOs] at e; subst e; rfl
  | x :: xs, n, e => by
    simp only [nkOs] at e
    cases q1 : nkO x with
    | none => rw [q1] at e; cases e
    | some k =>
      cases q2 : nkOs xs with
      | none => rw [q1, q2] at e; cases e
      | some ks => rw [q1, q2] at e; cases e; rw [nkO_eq q1, nkOs_eq q2]; rfl
end
mutual
theorem eqv_nk : ∀ a b : NestedKey, PyData.eqv (nkD a) (nkD b) = NestedKey.beq a b
  | .none, .none => rfl
  | .num a, .num b => by simp [nkD, PyData.eqv, NestedKey.beq]; exact Bool.beq_eq_decide_eq _ _
  | .text a, .text b => by simp [nkD, PyData.eqv, NestedKey.beq]; exact Bool.beq_eq_decide_eq _ _
  | .tup a, .tup b => by simp only [nkD, PyData.eqv, NestedKey.beq]; exact eqv_nks a b
  | .none, .num _ | .none, .text _ | .none, .tup _ => rfl
  | .num _, .none | .num _, .text _ | .num _, .tup _ => rfl
  | .text _, .none | .text _, .num _ | .text _, .tup _ => rfl
  | .tup _, .none | .tup _, .num _ | .tup _, .text _ => rfl
theorem eqv_nks : ∀ a b : List NestedKey, PyData.eqvAll (nkDs a) (nkDs b) = NestedKey.beqAll a b
  | [], [] => rfl
  | a :: as, b :: bs => by simp only [nkDs, PyData.eqvAll, NestedKey.beqAll]; rw [eqv_nk a b, eqv_nks as bs]
  | [], _ :: _ => rfl
  | _ :: _, [] => rfl
end
theorem beq_dec (a b : NestedKey) : NestedKey.beq a b = decide (a = b) := by
  by_cases h : a = b
  · subst h; simp [NestedKey.beq_self]
  · rw [decide_eq_false h]
    cases q : NestedKey.beq a b with
    | false => rfl
    | true => exact absurd (NestedKey.eq_of_beq a b q) h
theorem eqv_key (a b : Key) : PyData.eqv (keyD a) (keyD b) = decide (a = b) := by
  cases a <;> cases b
  · rw [key_ll]; rfl
  · rw [key_lr]; rfl
  · rw [key_rl]; rfl
  · rw [key_rr]
    simp only [keyD, PyData.eqv]
    exact Bool.beq_eq_decide_eq _ _
def kfind (kvs : List (PyData × PyData)) (k : PyData) : Option PyData := (kvs.find? fun q => PyData.eqv q.1 k).map (·.2)
def kput (kvs : List (PyData × PyData)) (k v : PyData) : List (PyData × PyData) :=
  if (kfind kvs k).isSome = true then kvs.map fun q => if PyData.eqv q.1 k = true then (q.1, v) else q else kvs ++ [(k, v)]
/-- what may be a key of such a dict -/
def kOk : Bool → PyData → Bool
  | false, .int _ => true
  | false, .str _ => true
  | true, .tuple xs => match nkO (.tuple xs) with
    | some n => decide (n.depth ≤ 8)
    | none => false
  | _, _ => false
theorem kOk_f {k : PyData} (h : kOk false k = true) : ∃ n : Key, k = keyD n := by
  cases k with
  | int i => exact ⟨.inl i, rfl⟩
  | str x => exact ⟨.inr x, rfl⟩
  | _ => cases h
theorem kOk_t {k : PyData} (h : kOk true k = true) : ∃ ks : List NestedKey, k = nkD (.tup ks) ∧ (NestedKey.tup ks).depth ≤ 8 := by
  cases k with
  | tuple xs =>
    simp only [kOk] at h
    cases q : nkO (.tuple xs) with
    | none => rw [q] at h; cases h
    | some n =>
      rw [q] at h
      have e := nkO_eq q
      cases n with
      | tup ks => exact ⟨ks, e, of_decide_eq_true h⟩
      | none => cases e
      | num i => cases e
      | text x => cases e
  | _ => cases h
section
variable {X : Cx} {pins : List (Addr × Obj)} {σ : L2.St} {H : Hp} {s : Shared} {ok : Addr → Prop}
theorem rep_key {v : V} {n : Key} (r : Rep X.K H ok v (keyD n)) : v = kV n ∧ keyS n := by
  cases n with
  | inl i => exact ⟨RepB.int (.inl r), trivial⟩
  | inr x => exact ⟨(RepB.str (.inl r)).1, (RepB.str (.inl r)).2⟩
mutual
theorem nested_is (I : Inv X pins σ H s) : ∀ (n : NestedKey) (v : V) (u : Value), Rep X.K H ok v (nkD n) → RelV v u → NestedIs s.heap n u
  | .none, v, u, r, rv => by cases RepB.none (.inl r); cases rv; exact .none
  | .num i, v, u, r, rv => by cases RepB.int (.inl r); obtain ⟨t, rfl⟩ := rv; exact .int i t
  | .text x, v, u, r, rv => by cases (RepB.str (.inl r)).1; obtain ⟨t, rfl⟩ := rv; exact .text x t
  | .tup ks, v, u, r, rv => by
    obtain ⟨a, xs, rfl, h1, _, h2⟩ := RepB.tuple (.inl r)
    cases rv
    obtain ⟨its, rvs, ⟨o, ho, hc, n, hd⟩, _⟩ := I.tuple h1
    exact .tup ho hc hd (nested_all I ks xs its h2 rvs)
theorem nested_all (I : Inv X pins σ H s) : ∀ (ks : List NestedKey) (vs : List V) (us : List Value), RepL X.K H ok vs (nkDs ks) → Vals vs us → NestedAll s.heap ks us
  | [], _, _, .nil, .nil => .nil
  | k :: ks, _, _, .cons r rs, .cons q qs => .cons (nested_is I k _ _ r q) (nested_all I ks _ _ rs qs)
end
abbrev nK (X : Cx) := nestedKind X.prog X.w
abbrev PrT (p : Par) (H : Hp) (ok : Addr → Prop) (x : NestedKey × Addr × Value) (q : PyData × PyData) : Prop := q.1 = nkD x.1 ∧ x.1.depth ≤ 8 ∧ Rep p.K H ok (.ref x.2.1) q.1 ∧ ∃ v, RelV v x.2.2 ∧ Rep p.K H ok v q.2
abbrev PrF (p : Par) (H : Hp) (ok : Addr → Prop) (x : Key × V) (q : PyData × PyData) : Prop := q.1 = keyD x.1 ∧ keyS x.1 ∧ Rep p.K H ok x.2 q.2
/-- the dict's object as the library wants it -/
theorem dct_h (I : Inv X pins σ H s) {a : Addr} {es : Array DictEntry} {ep : Nat} {xs : List (NestedKey × Addr × Value)} {kvs : List (PyData × PyData)} (e : H a = some (dTh a es ep)) (h1 : es.toList = xs.map (entryOfKey (nK X))) (h2 : (xs.map (·.1)).Nodup) (r : Paired (PrT (pX X) H ok) xs kvs) : s.heap.DictOfH (nK X) a xs := by
  have hk : ObjOk X.prog X.w H s.heap a (dTh a es ep) := I.hok a _ e
  obtain ⟨⟨o, ho, hx, hd⟩, _⟩ := hk
  refine ⟨o, es, ep, ho, hx, hd, h1, fun x hx => ?_, h2⟩
  have : ∀ {xs : List (NestedKey × Addr × Value)} {kvs : List (PyData × PyData)}, Paired (PrT (pX X) H ok) xs kvs → ∀ x ∈ xs, (nK X).is s.heap x.1 x.2.1 := by
    intro xs kvs r
    induction r with
    | nil => intro x hx; simp at hx
    | cons q _ ih =>
      intro x hx
      rcases List.mem_cons.mp hx with e | e
      · subst e
        obtain ⟨q1, q2, q3, _⟩ := q
        rw [q1] at q3
        exact ⟨nested_is I _ _ _ q3 rfl, q2⟩
      · exact ih x e
  exact this r x hx
theorem find_t {p : Par} {n : NestedKey} : ∀ {xs : List (NestedKey × Addr × Value)} {kvs : List (PyData × PyData)}, Paired (PrT p H ok) xs kvs → (kfind kvs (nkD n) = none ∧ atKey xs n = none) ∨ ∃ y q, kfind kvs (nkD n) = some y ∧ atKey xs n = some q ∧ ∃ v, RelV v q.2 ∧ Rep p.K H ok v y
  | _, _, .nil => .inl ⟨rfl, rfl⟩
  | x :: xs, q :: kvs, .cons r rs => by
    obtain ⟨q1, q2, q3, v, q4, q5⟩ := r
    have e : PyData.eqv q.1 (nkD n) = decide (x.1 = n) := by rw [q1, eqv_nk, beq_dec]
    unfold kfind atKey
    rw [List.find?_cons, List.find?_cons, e]
    by_cases h : x.1 = n
    · rw [decide_eq_true h]
      exact .inr ⟨q.2, x.2, rfl, rfl, v, q4, q5⟩
    · rw [decide_eq_false h]
      exact find_t rs
theorem find_f {p : Par} {n : Key} : ∀ {xs : List (Key × V)} {kvs : List (PyData × PyData)}, Paired (PrF p H ok) xs kvs → (kfind kvs (keyD n) = none ∧ valV xs n = none) ∨ ∃ y v, kfind kvs (keyD n) = some y ∧ valV xs n = some v ∧ Rep p.K H ok v y
  | _, _, .nil => .inl ⟨rfl, rfl⟩
  | x :: xs, q :: kvs, .cons r rs => by
    obtain ⟨q1, q2, q3⟩ := r
    have e : PyData.eqv q.1 (keyD n) = decide (x.1 = n) := by rw [q1, eqv_key]
    unfold kfind valV
    rw [List.find?_cons, List.find?_cons, e]
    by_cases h : x.1 = n
    · rw [decide_eq_true h]
      exact .inr ⟨q.2, x.2, rfl, rfl, q3⟩
    · rw [decide_eq_false h]
      exact find_f rs
theorem room8 {n : Nat} (h : n + 64 < cLine) : n + 1 + 8 < cLine := by omega
theorem _root_.L2.DGet.kR {H : Hp} {a : Addr} {kvs : List (Key × V)} {k : Key} (e : Rd H a (.dK kvs)) : DGet H a (kV k) (valV kvs k) := .inl ⟨kvs, k, e, rfl, rfl⟩
/-- d[k], where it is -/
theorem g_get {Q : VK} {a : Addr} {tp : Bool} {kvs : List (PyData × PyData)} {y : V} {u : Value} {k r : PyData} (hu : X.A.units + 64 < cLine) (I : Inv X pins σ H s) (d : DctR (pX X) H ok a tp kvs) (ry : Rep X.K H ok y k) (rv : RelV y u) (hk : kOk tp k = true) (hf : kfind kvs k = some r)
    (q : ∀ v, Rep X.K H ok v r → Q v H) : wpAny (model X.prog X.w) X.A (getItem (.ref a) u) (EP X pins σ Q) X.xe s := by
  cases tp with
  | false =>
    obtain ⟨ks, e, r1⟩ := d.rd
    obtain ⟨n, rfl⟩ := kOk_f hk
    obtain ⟨rfl, _⟩ := rep_key ry
    rcases find_f (n := n) r1 with ⟨z, _⟩ | ⟨z, v, h1, h2, h3⟩
    · rw [hf] at z; cases z
    · rw [hf] at h1; cases h1
      exact d_getItem (v := v) (by omega) I (by rw [← h2]; exact DGet.kR e) rv fun w' s' I' rw' => ⟨v, H, I', rw', q v h3⟩
  | true =>
    obtain ⟨es, ep, xs, e, h1, h2, h3, h4, r1⟩ := d.tt
    obtain ⟨ks, rfl, hd⟩ := kOk_t hk
    obtain ⟨b, ys, rfl, _⟩ := RepB.tuple (.inl ry)
    cases rv
    rcases find_t (n := .tup ks) r1 with ⟨z, _⟩ | ⟨z, w, g1, g2, v, g3, g4⟩
    · rw [hf] at z; cases z
    · rw [hf] at g1; cases g1
      exact wpAny_getItem_heap (knd := nK X) (room8 hu) ⟨nested_is I _ _ _ ry rfl, hd⟩ (dct_h I e h1 h2 r1) g2 ⟨v, H, I.tok _, g3, q v g4⟩
/-- d.get(k, z) -/
theorem g_getD {Q : VK} {a : Addr} {tp : Bool} {kvs : List (PyData × PyData)} {y z : V} {u uz : Value} {k dz : PyData} (hu : X.A.units + 64 < cLine) (I : Inv X pins σ H s) (d : DctR (pX X) H ok a tp kvs) (ry : Rep X.K H ok y k) (rv : RelV y u) (rz : Rep X.K H ok z dz) (ruz : RelV z uz) (hk : kOk tp k = true)
    (q : ∀ v, Rep X.K H ok v ((kfind kvs k).getD dz) → Q v H) : wpAny (model X.prog X.w) X.A (call (.builtin "dict.get") [.ref a, u, uz]) (EP X pins σ Q) X.xe s := by
  cases tp with
  | false =>
    obtain ⟨ks, e, r1⟩ := d.rd
    obtain ⟨n, rfl⟩ := kOk_f hk
    obtain ⟨rfl, _⟩ := rep_key ry
    refine d_get2 (by omega) I (DGet.kR (k := n) e) rv ruz fun w' s' I' rw' => ⟨_, H, I', rw', q _ ?_⟩
    rcases find_f (n := n) r1 with ⟨z1, w⟩ | ⟨z1, v, h1, h2, h3⟩
    · rw [w, z1]; exact rz
    · rw [h2, h1]; exact h3
  | true =>
    obtain ⟨es, ep, xs, e, h1, h2, h3, h4, r1⟩ := d.tt
    obtain ⟨ks, rfl, hd⟩ := kOk_t hk
    obtain ⟨b, ys, rfl, _⟩ := RepB.tuple (.inl ry)
    cases rv
    have dd := dct_h I e h1 h2 r1
    refine call_meetsIn PySem.F.slot_dict_get dd.typeIs PySem.F.entry_dict_get (PySem.F.args_dict_get_3 _ _ _) (meetsH_dict_get_default (nK X) a b h3 uz) ⟨room8 hu, .tup ks, xs, ⟨nested_is I _ _ _ ry rfl, hd⟩, dd, ?_⟩
    rcases find_t (n := .tup ks) r1 with ⟨z1, w⟩ | ⟨z1, w, g1, g2, v, g3, g4⟩
    · rw [w]; rw [z1] at q
      exact ⟨z, H, I.tok _, ruz, q z rz⟩
    · rw [g2]; rw [g1] at q
      exact ⟨v, H, I.tok _, g3, q v g4⟩
end
end G
namespace G
open PySem PySem.Spec PyProof.Rows L2
section
variable {p : Par} {H : Hp} {ok : Addr → Prop}
theorem find_isSome {α : Type} {f : α → Bool} {l : List α} : (l.find? f).isSome = l.any f := by
  induction l with
  | nil => rfl
  | cons a l ih =>
    rw [List.find?_cons, List.any_cons]
    cases f a <;> simp [ih]
theorem kfind_any (kvs : List (PyData × PyData)) (k : PyData) : (kfind kvs k).isSome = kvs.any fun q => PyData.eqv q.1 k := by
  unfold kfind
  rw [Option.isSome_map, find_isSome]
theorem Paired.mapB {α β γ δ : Type} {R : α → β → Prop} {S : γ → δ → Prop} {f : α → γ} {g : β → δ} (h : ∀ a b, R a b → S (f a) (g b)) : ∀ {l : List α} {m : List β}, Paired R l m → Paired S (l.map f) (m.map g)
  | _, _, .nil => .nil
  | _, _, .cons r rs => .cons (h _ _ r) (Paired.mapB h rs)
theorem Paired.snoc {α β : Type} {R : α → β → Prop} {a : α} {b : β} (h : R a b) : ∀ {l : List α} {m : List β}, Paired R l m → Paired R (l ++ [a]) (m ++ [b])
  | _, _, .nil => .cons h .nil
  | _, _, .cons r rs => .cons r (Paired.snoc h rs)
theorem put_f {n : Key} {v : V} {y : PyData} {xs : List (Key × V)} {kvs : List (PyData × PyData)} (r : Paired (PrF p H ok) xs kvs) (hs : keyS n) (rv : Rep p.K H ok v y) : Paired (PrF p H ok) (putK xs n v) (kput kvs (keyD n) y) := by
  unfold putK kput
  have e : (xs.any fun kv => decide (kv.1 = n)) = (kfind kvs (keyD n)).isSome := by
    rw [valV_any]
    rcases find_f (n := n) r with ⟨h1, h2⟩ | ⟨_, _, h1, h2, _⟩ <;> rw [h1, h2] <;> rfl
  rw [e]
  split
  · refine Paired.mapB (fun a b h => ?_) r
    obtain ⟨q1, q2, q3⟩ := h
    have e : PyData.eqv b.1 (keyD n) = decide (a.1 = n) := by rw [q1, eqv_key]
    rw [e]
    by_cases ha : a.1 = n
    · rw [if_pos ha, if_pos (decide_eq_true ha)]; exact ⟨q1, q2, rv⟩
    · rw [if_neg ha, if_neg (by rw [decide_eq_false ha]; decide)]; exact ⟨q1, q2, q3⟩
  · exact Paired.snoc ⟨rfl, hs, rv⟩ r
theorem put_t {n : NestedKey} {b : Addr} {u : Value} {v : V} {y : PyData} {xs : List (NestedKey × Addr × Value)} {kvs : List (PyData × PyData)} (r : Paired (PrT p H ok) xs kvs) (hd : n.depth ≤ 8) (rk : Rep p.K H ok (.ref b) (nkD n)) (ru : RelV v u) (rv : Rep p.K H ok v y) : Paired (PrT p H ok) (storedH xs n b u) (kput kvs (nkD n) y) := by
  unfold storedH kput
  have e : (atKey xs n).isSome = (kfind kvs (nkD n)).isSome := by
    rcases find_t (n := n) r with ⟨h1, h2⟩ | ⟨_, _, h1, h2, _⟩ <;> rw [h1, h2] <;> rfl
  rw [e]
  split
  · refine Paired.mapB (fun a c h => ?_) r
    obtain ⟨q1, q2, q3, w, q4, q5⟩ := h
    have e : PyData.eqv c.1 (nkD n) = decide (a.1 = n) := by rw [q1, eqv_nk, beq_dec]
    rw [e]
    unfold putAt
    by_cases ha : a.1 = n
    · rw [if_pos ha, if_pos (decide_eq_true ha)]; exact ⟨q1, q2, q3, v, ru, rv⟩
    · rw [if_neg ha, if_neg (by rw [decide_eq_false ha]; decide)]; exact ⟨q1, q2, q3, w, q4, q5⟩
  · exact Paired.snoc ⟨rfl, hd, rk, v, ru, rv⟩ r
theorem kput_len (kvs : List (PyData × PyData)) (k v : PyData) : (kput kvs k v).length ≤ kvs.length + 1 := by
  unfold kput
  split
  · rw [List.length_map]; omega
  · simp
end
/-- a dict that is written: tuples stand -/
theorem wr_td {p : Par} {H : Hp} {ok : Addr → Prop} {a : Addr} {tp : Bool} {kvs : List (PyData × PyData)} {o : HO} (d : DctAt p H ok a tp kvs) : TupK H (upd H a o) := fun b xs => by
  obtain ⟨_, _, z⟩ := d.there
  have ne : Rd H b (.tup xs) → b ≠ a := fun r e => z xs (by rw [← e]; exact r)
  refine ⟨fun r => ?_, fun u r => by rw [upd_ne (ne (.inr ⟨u, r⟩))]; exact r⟩
  have ne := ne r
  rcases r with r | ⟨u, r⟩
  · exact .inl (by rw [upd_ne ne]; exact r)
  · exact .inr ⟨u, by rw [upd_ne ne]; exact r⟩
section
variable {X : Cx} {pins : List (Addr × Obj)} {σ : L2.St} {H : Hp} {s : Shared} {ok : Addr → Prop}
theorem g_set {Q : Hp → Prop} {a : Addr} {tp : Bool} {kvs : List (PyData × PyData)} {y v : V} {u r : Value} {k dv : PyData} (hu : X.A.units + 64 < cLine) (I : Inv X pins σ H s) (d : DctAt (pX X) H ok a tp kvs) (hne : ∀ b, ok b → b ≠ a) (ry : Rep X.K H ok y k) (ru : RelV y u) (rv : Rep X.K H ok v dv) (rr : RelV v r) (hk : kOk tp k = true) (hl : kvs.length < 1000000)
    (q : ∀ o, Keep H (upd H a o) ok ok → DctAt (pX X) (upd H a o) ok a tp (kput kvs k dv) → Q (upd H a o)) : wpAny (model X.prog X.w) X.A (setItem (.ref a) u r) (fun _ s' => ∃ H', Inv X pins σ H' s' ∧ Q H') X.xe s := by
  have kp : ∀ o, Keep H (upd H a o) ok ok := fun o => ⟨fun b w hb e => ⟨hb, fun _ => by rw [upd_ne (hne b hb)]; exact e⟩, wr_td d⟩
  cases tp with
  | false =>
    obtain ⟨ks, e, r1⟩ := d
    obtain ⟨n, rfl⟩ := kOk_f hk
    obtain ⟨rfl, hs⟩ := rep_key ry
    have l1 : ks.length = kvs.length := Paired.length r1
    refine d_setItem (by omega) I (DPut.k (k := n) (v := v) e (by rw [sizeLine_eq]; omega)) ru rr fun s' I' => ⟨_, I', q _ (kp _) ⟨_, upd_same, ?_⟩⟩
    exact Paired.mapP (put_f r1 hs rv) fun _ _ ⟨h1, h2, h3⟩ => ⟨h1, h2, h3.keep (kp _)⟩
  | true =>
    obtain ⟨es, ep, xs, e, h1, h2, h3, h4, r1⟩ := d
    obtain ⟨ks, rfl, hd⟩ := kOk_t hk
    obtain ⟨b, ys, rfl, _⟩ := RepB.tuple (.inl ry)
    cases ru
    have l1 : xs.length = kvs.length := Paired.length r1
    refine wpAny_setItem_heap (knd := nK X) (hsz := by rw [l1]; exact h4) (room8 hu) ⟨nested_is I _ _ _ ry rfl, hd⟩ (dct_h I e h1 h2 r1) fun h' dd hs => ?_
    obtain ⟨o, es', ep', ho, hx, hda, he, _, hnd⟩ := dd
    have p1 := put_t r1 hd ry rr rv
    have l2 : (storedH xs (.tup ks) b r).length = (kput kvs (nkD (.tup ks)) dv).length := Paired.length p1
    refine ⟨upd H a (dTh a es' ep'), ?_, q _ (kp _) ⟨es', ep', _, upd_same, he, hnd, h3, ?_, ?_⟩⟩
    · refine I.write (t' := _) (x := a) (e := a) (by rw [e]; exact True.intro) (.inl rfl) (fun c w hc z => (hs.2 c hc).trans z) ⟨o, ho⟩ ?_
      exact ⟨⟨o, ho, hx, hda⟩, ⟨o, ho⟩, fun g1 g2 ⟨o1, z1, z2⟩ kk => ⟨o1, kk _ z1, z2⟩⟩
    · have := kput_len kvs (nkD (.tup ks)) dv
      rw [sizeLine_eq]; omega
    · exact Paired.mapP p1 fun _ _ ⟨g1, g2, g3, w, g4, g5⟩ => ⟨g1, g2, g3.keep (kp _), w, g4, g5.keep (kp _)⟩
end
section
variable {X : Cx} {x : XW} {a b d : Expr} {f g h : Fr → Res AV} {pos : Pos}
theorem pe_newT : PE X (.Dict [] [] pos) (fun _ H Q => ∀ p, H p = none → (p == sysModules) = false → Q (.ref p) (upd H p (dTh p #[] 0))) := ⟨fun pins s σ H Q I hh => by
  have hb : (s.heap.objs.size == sysModules) = false := beq_eq_false_iff_ne.mpr (Ne.symm (Nat.ne_of_lt I.big))
  refine wpAny_Dict_empty ⟨.ref s.heap.objs.size, _, I.laid (a := s.heap.objs.size) (o := dTh s.heap.objs.size #[] 0) (t' := s.toks) (fun _ _ q => Heap.get?_push_of_some _ q) (Nat.le_refl _) ?_, rfl, hh _ (I.hok.fresh (Nat.le_refl _)) hb⟩
  refine ⟨⟨_, Heap.get?_push_size _ rfl, ⟨rfl, rfl, rfl⟩, rfl⟩, ⟨_, Heap.get?_push_size _ rfl⟩, fun g1 g2 ⟨o1, z1, z2⟩ kk => ⟨o1, kk _ z1, z2⟩⟩⟩
/-- a dict that is read -/
@[simp] def Fr.dview (fr : Fr) : AV → Option (Bool × List (PyData × PyData))
  | .dct tp kvs => some (tp, kvs)
  | .cel i => match fr.cells[i]? with
    | some (.dct tp kvs) => some (tp, kvs)
    | _ => none
  | _ => none
theorem dview_rep {p : Par} {c : Ent} {fr : Fr} {ad : List (Option Addr)} {σ : L2.St} {H : Hp} (F : FR p c fr ad σ H) {v : V} {av : AV} {tp : Bool} {kvs : List (PyData × PyData)} (r : RepA p H (okP c ad) ad v av) (e : fr.dview av = some (tp, kvs)) : ∃ l, v = .ref l ∧ DctR p H (okP c ad) l tp kvs := by
  cases av with
  | dct tp' kvs' => cases e; obtain ⟨l, rfl, _, d⟩ := r; exact ⟨l, rfl, d⟩
  | cel i =>
    obtain ⟨l, rfl, q⟩ := r
    obtain ⟨cl, h1, h2⟩ := F.cel i l q
    unfold Fr.dview at e
    simp only [h1] at e
    cases cl with
    | dct tp' kvs' => cases e; exact ⟨l, rfl, DctAt.r h2⟩
    | _ => cases e
  | _ => cases e
def dget (tp : Bool) (kvs : List (PyData × PyData)) (k : PyData) : Option PyData := if kOk tp k = true then kfind kvs k else none
@[simp] def xDGet (f g : Fr → Res AV) : Fr → Res AV := fun fr => (f fr).bind fun a fr1 => (g fr1).bind fun b fr2 => match fr2.dview a, b with
  | some (tp, kvs), .dat k => ofO fr2 (dget tp kvs k)
  | _, _ => .err
theorem dct_ty {pins : List (Addr × Obj)} {σ : L2.St} {H : Hp} {s : Shared} {ok : Addr → Prop} {l : Addr} {tp : Bool} {kvs : List (PyData × PyData)} (I : Inv X pins σ H s) (hd : DctR (pX X) H ok l tp kvs) : s.TypeIs (.ref l) "dict" := by
  cases tp with
  | false =>
    obtain ⟨ks, e, _⟩ := hd.rd
    obtain ⟨_, _, vs, _, o, es, ep, h1, h2, _⟩ := dk_rd I.hok e
    exact ⟨o, h1, h2.1⟩
  | true =>
    obtain ⟨es, ep, xs, e, _⟩ := hd.tt
    obtain ⟨⟨o, h1, h2, _⟩, _⟩ := (show ObjOk X.prog X.w H s.heap l (dTh l es ep) from I.hok l _ e)
    exact ⟨o, h1, h2.1⟩
def rDG (X : Cx) : R2 := fun xv yv H Q => ∃ (ok : Addr → Prop) (l : Addr) (tp : Bool) (kvs : List (PyData × PyData)) (k r : PyData), xv = .ref l ∧ DctR (pX X) H ok l tp kvs ∧ Rep X.K H ok yv k ∧ kOk tp k = true ∧ kfind kvs k = some r ∧ ∀ v, Rep X.K H ok v r → Q v H
theorem pe_gd {td ty : TE} (hu : X.A.units + 64 < cLine) (ho : PE X a td) (hi : PE X b ty) (hs : NoSl b) : PE X (.Subscript a b pos) (tOp (rDG X) td ty) := by
  refine ⟨fun pins s σ H Q I hh => ?_⟩
  refine subD_of PySem.F.slot_dict_getitem.lookup hs (thn (ho.run pins s σ H _ I hh) fun u s1 ⟨xv, H1, I1, rx, q1⟩ => thn (hi.run pins s1 σ H1 _ I1 q1) fun iv s2 ⟨yv, H2, I2, ry, ok, l, tp, kvs, k, r, ex, hd, hr, hk, hf, q⟩ => ?_)
  subst ex
  cases rx
  exact ⟨dct_ty I2 hd, g_get hu I2 hd hr ry hk hf q⟩
theorem ae_dget (hu : X.A.units + 64 < cLine) (ha : AE X x a f) (hb : AE X x b g) (hs : NoSl b := by intro _ _; rfl) : AE X x (.Subscript a b pos) (xDGet f g) := by
  refine (pe_gd hu ha hb hs).imp fun σ H Q ⟨c, fr, ad, F, o⟩ => ⟨c, fr, ad, F, (Out.bind F o).mono fun av fr1 ad1 H1 F1 m1 o1 v rv => ?_⟩
  refine ⟨c, fr1, ad1, F1, (Out.bind F1 o1).mono fun bv fr2 ad2 H2 F2 m2 o2 w rw_ => ?_⟩
  have rv2 := RepA.mv F1 m2 rv
  cases q1 : fr2.dview av with
  | none => rw [q1] at o2; exact o2.elim
  | some z =>
    obtain ⟨tp, kvs⟩ := z
    cases bv with
    | dat k =>
      rw [q1] at o2
      simp only [dget] at o2
      split at o2
      · rename_i hk
        cases q3 : kfind kvs k with
        | none => rw [q3] at o2; exact o2.elim
        | some r =>
          rw [q3] at o2
          obtain ⟨l, rfl, dd⟩ := dview_rep F2 rv2 q1
          exact ⟨okP c ad2, l, tp, kvs, k, r, rfl, dd, rw_, hk, q3, fun v2 r2 => o2 ad2 H2 F2 Mv.refl v2 r2⟩
      · exact o2.elim
    | _ => rw [q1] at o2; exact o2.elim
/-- k in d, k not in d -/
@[simp] def xDIn (neg : Bool) (f g : Fr → Res AV) : Fr → Res AV := fun fr => (f fr).bind fun a fr1 => (g fr1).bind fun b fr2 => match fr2.dview b, a with
  | some (tp, kvs), .dat k => if kOk tp k = true then .ok (.dat (.bool (if neg = true then !(kfind kvs k).isSome else (kfind kvs k).isSome))) fr2 else .err
  | _, _ => .err
/-- d.get(k, z) -/
@[simp] def xDGetD (f g h : Fr → Res AV) : Fr → Res AV := fun fr => (f fr).bind fun a fr1 => match fr1.dview a with
  | some _ => (g fr1).bind fun b fr2 => (h fr2).bind fun z fr3 => (match fr3.dview a, b, z with
    | some (tp, kvs), .dat k, .dat dz => if kOk tp k = true then .ok (.dat ((kfind kvs k).getD dz)) fr3 else .err
    | _, _, _ => .err)
  | none => .err
def tGD (X : Cx) (td ty tz : TE) : TE := fun σ H Q => td σ H fun xv H1 => ∃ l ok tp kvs, xv = .ref l ∧ DctR (pX X) H1 ok l tp kvs ∧ ty σ H1 fun yv H2 => tz σ H2 fun zv H3 => ∃ (ok : Addr → Prop) (tp : Bool) (kvs : List (PyData × PyData)) (k dz : PyData), DctR (pX X) H3 ok l tp kvs ∧ Rep X.K H3 ok yv k ∧ Rep X.K H3 ok zv dz ∧ kOk tp k = true ∧ ∀ v, Rep X.K H3 ok v ((kfind kvs k).getD dz) → Q v H3
theorem dct_nod {pins : List (Addr × Obj)} {σ : L2.St} {H : Hp} {s : Shared} {ok : Addr → Prop} {l : Addr} {tp : Bool} {kvs : List (PyData × PyData)} (I : Inv X pins σ H s) (hd : DctR (pX X) H ok l tp kvs) : ∃ o, s.heap.get? l = some o ∧ o.dict = none := by
  cases tp with
  | false =>
    obtain ⟨ks, e, _⟩ := hd.rd
    obtain ⟨_, _, vs, _, o, es, ep, h1, h2, _⟩ := dk_rd I.hok e
    exact ⟨o, h1, h2.2.1⟩
  | true =>
    obtain ⟨es, ep, xs, e, _⟩ := hd.tt
    obtain ⟨⟨o, h1, h2, _⟩, _⟩ := (show ObjOk X.prog X.w H s.heap l (dTh l es ep) from I.hok l _ e)
    exact ⟨o, h1, h2.2.1⟩
theorem pe_gD {td ty tz : TE} {p1 : Pos} (hu : X.A.units + 64 < cLine) (ho : PE X a td) (he : PE X b ty) (hf : PE X d tz) (m : M2 X a "get" p1 b d pos) : PE X (.Call (.Attribute a "get" p1) [b, d] [] pos) (tGD X td ty tz) := by
  refine ⟨fun pins s σ H Q I hh => ?_⟩
  refine wpAny_Call_method m.base m.few m.line PySem.F.plainAttrs_dict PySem.F.slot_dict_get PySem.F.type_dict_get (thn (ho.run pins s σ H _ I hh) fun u s1 hq => ?_)
  obtain ⟨xv, H1, I1, rx, l, ok, tp, kvs, rfl, hd, q1⟩ := hq
  cases rx
  refine ⟨dct_ty I1 hd, fun b0 e0 => by cases e0; exact dct_nod I1 hd, ?_⟩
  rw [m.trees]
  refine Calls.callWith_builtin rfl (Calls.evalArgs_plain (Calls.spliced_cons (thn (he.run pins s1 σ H1 _ I1 q1) fun iv s2 hq2 => ?_)))
  obtain ⟨yv, H2, I2, ry, q2⟩ := hq2
  refine Calls.spliced_cons (thn (hf.run pins s2 σ H2 _ I2 q2) fun fv s3 hq3 => Calls.spliced_nil ?_)
  obtain ⟨zv, H3, I3, rz, ok3, tp3, kvs3, k, dz, hd3, hr, hz, hk, q⟩ := hq3
  exact g_getD hu I3 hd3 hr ry hz rz hk q
theorem ae_dgetD {p1 : Pos} (hu : X.A.units + 64 < cLine) (ha : AE X x a f) (hb : AE X x b g) (hd : AE X x d h) (m : M2 X a "get" p1 b d pos) : AE X x (.Call (.Attribute a "get" p1) [b, d] [] pos) (xDGetD f g h) := by
  refine (pe_gD hu ha hb hd m).imp fun σ H Q ⟨c, fr, ad, F, o⟩ => ⟨c, fr, ad, F, (Out.bind F o).mono fun av fr1 ad1 H1 F1 m1 o1 v rv => ?_⟩
  cases q1 : fr1.dview av with
  | none => rw [q1] at o1; exact o1.elim
  | some z =>
    obtain ⟨tp, kvs⟩ := z
    rw [q1] at o1
    obtain ⟨l, rfl, dd⟩ := dview_rep F1 rv q1
    refine ⟨l, _, tp, kvs, rfl, dd, c, fr1, ad1, F1, (Out.bind F1 o1).mono fun bv fr2 ad2 H2 F2 m2 o2 w rw_ => ?_⟩
    refine ⟨c, fr2, ad2, F2, (Out.bind F2 o2).mono fun zv fr3 ad3 H3 F3 m3 o3 y ry => ?_⟩
    have rv3 := RepA.mv F2 m3 (RepA.mv F1 m2 rv)
    have rw3 := RepA.mv F2 m3 rw_
    cases q3 : fr3.dview av with
    | none => rw [q3] at o3; exact o3.elim
    | some z3 =>
      obtain ⟨tp3, kvs3⟩ := z3
      rw [q3] at o3
      cases bv with
      | dat k =>
        cases zv with
        | dat dz =>
          simp only at o3
          split at o3
          · rename_i hk
            obtain ⟨l3, e3, dd3⟩ := dview_rep F3 rv3 q3
            cases e3
            exact ⟨okP c ad3, tp3, kvs3, k, dz, dd3, rw3, ry, hk, fun v4 r4 => o3 ad3 H3 F3 Mv.refl v4 r4⟩
          · exact o3.elim
        | _ => exact o3.elim
      | _ => exact o3.elim
end
end G
namespace G
open PySem PySem.Spec PyProof.Rows L2
def SqB (K : PySem.W.Frag) : Bool → Hp → Addr → List V → Prop
  | true, H, a, xs => SqL K H a xs
  | false, H, a, xs => SqT K H a xs
def IterB : Bool → Heap → Addr → Addr → Nat → Prop
  | true, h, it, a, i => h.IsListIter it a i
  | false, h, it, a, i => h.IsTupleIter it a i
def IsB : Bool → Heap → Addr → Array Value → Prop
  | true, h, a, items => h.IsList a items
  | false, h, a, items => h.IsTuple a items
section
variable {prog : Program} {w : World} {A : Around} {h h' : Heap} {it a : Addr} {i : Nat} {l : Bool}
theorem IterB.at (st : IterB l h it a i) (k : ∀ o, h.get? it = some o → h'.get? it = some o) : IterB l h' it a i := by
  cases l with
  | true => exact Heap.IsListIter.at st k
  | false => exact Heap.IsTupleIter.at st k
theorem IterB.there (st : IterB l h it a i) : ∃ o, h.get? it = some o ∧ ∀ v, o.data ≠ .cell v := by
  cases l with
  | true => obtain ⟨o, e, c, d⟩ := st; exact ⟨o, e, fun v z => by rw [d] at z; cases z⟩
  | false => obtain ⟨o, e, c, d⟩ := st; exact ⟨o, e, fun v z => by rw [d] at z; cases z⟩
theorem drawsB (l : Bool) (hh : A.handled = none) (it a : Addr) (hne : a ≠ it) (items : Array Value) :
    Draws prog w A it [it, a] items.size (fun i v => items[i]? = some v) (fun i h => IterB l h it a i ∧ IsB l h a items) := by
  cases l with
  | true => exact Draws.list hh it a hne items
  | false => exact Draws.tuple hh it a hne items
def objB (l : Bool) (a : Addr) : Obj := if l = true then { cls := .type "list_iterator", data := .fields #[.ref a, .int 0 0] } else { cls := .type "tuple_iterator", data := .fields #[.ref a, .int 0 0] }
theorem beginsB (l : Bool) (a : Addr) (items : Array Value) : Begins (.ref a) (objB l a) fun h => IsB l h a items := by
  cases l with
  | true => exact begins_list a items
  | false => exact begins_tuple a items
theorem iterB_new (l : Bool) (a : Addr) (e : h.get? it = some (objB l a)) : IterB l h it a 0 := by
  cases l with
  | true => exact ⟨_, e, rfl, rfl⟩
  | false => exact ⟨_, e, rfl, rfl⟩
end
section
variable {X : Cx} {pins : List (Addr × Obj)} {σ : L2.St} {H : Hp} {s : Shared} {l : Bool} {a : Addr} {xs ys : List V}
theorem seqB (I : Inv X pins σ H s) (h : SqB X.K l H a xs) : ∃ its, Vals xs its ∧ IsB l s.heap a its.toArray ∧ a < s.heap.objs.size := by
  cases l with
  | true =>
    obtain ⟨its, r, p, _⟩ := I.list h
    exact ⟨its, r, p.isList, p.lt⟩
  | false =>
    obtain ⟨its, r, p, _⟩ := I.tuple h
    refine ⟨its, r, p, ?_⟩
    obtain ⟨o, e, _⟩ := p
    exact Heap.lt_size e
theorem injB (I : Inv X pins σ H s) (h : SqB X.K l H a xs) (h2 : SqB X.K l H a ys) : xs = ys := by
  cases l with
  | true => exact I.list_inj h h2
  | false => exact I.tuple_inj h h2
end
theorem meets_enum1 {v : Value} {o : Obj} {H : Heap → Prop} (B : Begins v o H) :
    Meets (Builtin.«enumerate.__new__» ⟨[.type "enumerate", v], []⟩) (fun _ R s => H s.heap ∧
      R (.ok (.ret (.ref (s.heap.push o).objs.size))) { s with heap := (s.heap.push o).push { cls := .type "enumerate", data := .fields #[.none, .bool false, .ref s.heap.objs.size, rawInt 0, .none, .none] } }) :=
  .of_wp fun prog w A R s h => by
    obtain ⟨hp, g, d, tk, os⟩ := s; obtain ⟨h1, h⟩ := h
    have hsub := sub_enumerate
    have q1 : ∀ {A' : Around} {E : Value → Shared → Prop} {Q : Value → Shared → Prop}, Q (.ref hp.objs.size) ⟨hp.push o, g, d, tk, os⟩ → wpAny (model prog w) A' (pyIter v) Q E ⟨hp, g, d, tk, os⟩ :=
      fun q => B.iter prog w _ _ ⟨hp, g, d, tk, os⟩ _ h1 q
    wp_walk using q1
    refine wpAny_stack_any fun st => wpAny_pure ?_
    split
    · rename_i c _ _ _ _ _
      cases (c == Value.type "enumerate")
      · wp_walk using q1
        exact ⟨_, rfl, h⟩
      · wp_walk using q1
        exact ⟨_, rfl, h⟩
    · wp_walk using q1
      exact ⟨_, rfl, h⟩
theorem call_enum1 {prog : Program} {w : World} {A : Around} {E : Value → Shared → Prop} {s : Shared} {v : Value} {o : Obj} {H : Heap → Prop} {Q : Value → Shared → Prop} (B : Begins v o H) (h1 : H s.heap)
    (h : ∀ h', IsEnum h' (s.heap.objs.size + 1) s.heap.objs.size 0 .none → h'.get? s.heap.objs.size = some o → h'.objs.size = s.heap.objs.size + 2 →
      (∀ b o, s.heap.get? b = some o → h'.get? b = some o) → Q (.ref (s.heap.objs.size + 1)) { s with heap := h' }) :
    wpAny (model prog w) A (call (.type "enumerate") [v]) Q E s := by
  refine callType_new F.called_enumerate (by decide) (F.typeCall_enumerate_1 _) (F.newCall_enumerate_1 _) (fun obj => F.args_object_init_2 obj _) F.entry_enumerate_new
    (meets_enum1 B) ⟨h1, ?_⟩
  have hz : (s.heap.push o).objs.size = s.heap.objs.size + 1 := Heap.size_push ..
  show _ ∧ _
  rw [hz]
  have he : IsEnum ((s.heap.push o).push { cls := .type "enumerate", data := .fields #[.none, .bool false, .ref s.heap.objs.size, rawInt 0, .none, .none] }) (s.heap.objs.size + 1) s.heap.objs.size 0 .none := by
    have := Heap.get?_push_size (s.heap.push o) (o := { cls := .type "enumerate", data := .fields #[.none, .bool false, .ref s.heap.objs.size, rawInt 0, .none, .none] }) rfl
    rw [hz] at this; exact this
  refine ⟨⟨_, he, rfl⟩, h _ he (Heap.get?_push_of_some _ (Heap.get?_push_size _ B.free)) (by rw [Heap.size_push, hz]) fun b o x => Heap.get?_push_of_some _ (Heap.get?_push_of_some _ x)⟩
def IteB (K : PySem.W.Frag) (l : Bool) (a : Addr) : It :=
  ⟨fun i H => ∃ (xs : List V) (x : V), SqB K l H a xs ∧ xs[i]? = some x, fun i H v H' => ∃ T x, v = .ref T ∧ H T = none ∧ H' = upd H T (.tup [.int (i : Nat), x]) ∧ ∀ xs, SqB K l H a xs → xs[i]? = some x, fun i H => ∃ xs : List V, SqB K l H a xs ∧ xs.length = i⟩
theorem turn_enumB {P : Program} {w : World} {K : PySem.W.Frag} {elts : List Expr} {kk : Nat} {tpos : Pos} (l : Bool) (a e it : Addr) :
    Turn P w K (.Tuple elts kk tpos) (IteB K l a) [e, it] e (fun i h => (∃ old, IsEnum h e it ((i : Nat) : Int) old) ∧ IterB l h it a i ∧ e ≠ it ∧ e ≠ a ∧ a ≠ it) where
  mem := by simp
  obj := fun i h st b hb => by
    obtain ⟨⟨old, he⟩, hi, _⟩ := st
    have e' : b = e ∨ b = it := by simpa using hb
    rcases e' with z | z
    · rw [z]; exact ⟨_, he, fun v q => nomatch q⟩
    · rw [z]; exact hi.there
  keep := fun i h h' st k => let ⟨⟨old, he⟩, hi, hne⟩ := st; ⟨⟨old, k e (by simp) _ he⟩, hi.at fun o q => k it (by simp) o q, hne⟩
  item := by
    intro X hP hw hK hc i pins s σ H E I hf st hg
    subst hP hw hK
    obtain ⟨⟨old, he⟩, hit, hne, hea, hai⟩ := st
    obtain ⟨xs, x, hq, hx⟩ := hg
    obtain ⟨its, rv, p, hz⟩ := seqB I hq
    obtain ⟨u0, hu, ru⟩ := rv.get hx
    have hel : e < s.heap.objs.size := Heap.lt_size he
    have hil : it < s.heap.objs.size := by obtain ⟨_, q, _⟩ := hit.there; exact Heap.lt_size q
    have D := drawsB (prog := X.prog) (w := X.w) (A := X.A.in1) l (I.ok.hd hc) it a hai its.toArray
    have hlt : i < its.toArray.size := by
      have := lt_of_at hu
      simpa using this
    refine wpAny_pyNext_enum_itemC D he ⟨hit, p⟩ hlt hne (by simp [hne, hea]) fun u h' tk hPx ho hit' hT hsz hk => ?_
    have eu : u = u0 := by
      have : its[i]? = some u := by simpa using hPx
      rw [hu] at this; exact (Option.some.inj this).symm
    subst eu
    refine ⟨_, rfl, wpAny_letOwnedTupleGo_enum (s := { s with heap := h', toks := tk + 1 }) ho fun h'' he' sb => ?_⟩
    have hT2 : h''.get? s.heap.objs.size = some { cls := .type "tuple", data := .seq #[.int i tk, u] } := (sb.2 _ (Nat.ne_of_gt hel)).trans hT
    have new : ObjOk X.prog X.w (upd H s.heap.objs.size (.tup [.int (i : Nat), x])) h'' s.heap.objs.size (.tup [.int (i : Nat), x]) :=
      ⟨by show 2 ≤ sizeLine; decide, [.int i tk, u], .cons ⟨_, rfl⟩ (.cons ru .nil), ⟨_, hT2, rfl, _, rfl⟩⟩
    have I1 : Inv X pins σ (upd H s.heap.objs.size (.tup [.int (i : Nat), x])) { s with heap := h'', toks := tk + 1 } :=
      I.turnedNew (ch := [e, it]) (fun b ob hb q => (sb.2 b (fun z => hb (by simp [z]))).trans (hk b ob (fun z => hb (by simp [z])) (fun z => hb (by simp [z])) q)) hf (Nat.le_refl _) new
    refine ⟨.ref s.heap.objs.size, _, I1, rfl, ⟨_, x, rfl, I.hok.fresh (Nat.le_refl _), rfl, fun ys hy => by rw [injB I hy hq]; exact hx⟩, ⟨⟨u, ?_⟩, hit'.1.at fun o q => (sb.2 it (Ne.symm hne)).trans q, hne, hea, hai⟩, fun b hb => ?_⟩
    · have e1 : ((i + 1 : Nat) : Int) = (i : Int) + 1 := by omega
      rw [e1]; exact he'
    · have hb' : b < s.heap.objs.size := by
        have e' : b = e ∨ b = it := by simpa using hb
        rcases e' with z | z
        · rw [z]; exact hel
        · rw [z]; exact hil
      rw [upd_ne (Nat.ne_of_lt hb')]
      exact (hf b hb).1
  done := by
    intro X hP hw hK hc i pins s σ H E I hf st hg
    subst hP hw hK
    obtain ⟨⟨old, he⟩, hit, hne, hea, hai⟩ := st
    obtain ⟨xs, hq, hx⟩ := hg
    obtain ⟨its, rv, p, hz⟩ := seqB I hq
    obtain ⟨f0, f1, f2, f3, f4, f5⟩ := hf it (by simp)
    have hl := rv.length
    have D := drawsB (prog := X.prog) (w := X.w) (A := X.A.in1) l (I.ok.hd hc) it a hai its.toArray
    have en : its.toArray.size = i := by simp; omega
    refine wpAny_pyNext_enum_endD D he (by rw [en]; exact ⟨hit, p⟩) fun h' eb => ⟨rfl, I.turned (t' := s.toks) (fun b o hb q => eb b o hb q) f0 f1 f3 f4 f5⟩
  self := fun A i s Q E st h => let ⟨⟨_, he⟩, _⟩ := st; wpAny_pyIter_enum he h
/-- a list or a tuple, by its data -/
@[simp] def seqD : PyData → Option (Bool × List PyData)
  | .list ys => some (true, ys)
  | .tuple ys => some (false, ys)
  | _ => none
theorem seqD_rep {K : PySem.W.Frag} {H : Hp} {ok : Addr → Prop} {v : V} {y : PyData} {l : Bool} {ys : List PyData} (r : Rep K H ok v y) (e : seqD y = some (l, ys)) : ∃ a xs, v = .ref a ∧ SqB K l H a xs ∧ RepL K H ok xs ys := by
  cases y with
  | list zs => cases e; obtain ⟨a, xs, h1, h2, _, h3⟩ := RepB.list (.inl r); exact ⟨a, xs, h1, h2, h3⟩
  | tuple zs => cases e; obtain ⟨a, xs, h1, h2, _, h3⟩ := RepB.tuple (.inl r); exact ⟨a, xs, h1, h2, h3⟩
  | _ => cases e
def enumD (ys : List PyData) : List PyData := ys.zipIdx.map fun q => .tuple [.int (q.2 : Nat), q.1]
theorem enumD_at {ys : List PyData} {i : Nat} {y : PyData} (e : (enumD ys)[i]? = some y) : ∃ x, ys[i]? = some x ∧ y = .tuple [.int (i : Nat), x] := by
  unfold enumD at e
  rw [List.getElem?_map, List.getElem?_zipIdx] at e
  cases q : ys[i]? with
  | none => rw [q] at e; cases e
  | some x => rw [q] at e; simp at e; exact ⟨x, rfl, e.symm⟩
theorem enumD_len {ys : List PyData} : (enumD ys).length = ys.length := by simp [enumD]
theorem two_ok : 2 ≤ sizeLine := by rw [sizeLine_eq]; decide
theorem sqB_inj {K : PySem.W.Frag} {H : Hp} {ok : Addr → Prop} {a : Addr} {y : PyData} {l : Bool} {ys : List PyData} (r : Rep K H ok (.ref a) y) (e : seqD y = some (l, ys)) : ∃ xs, SqB K l H a xs ∧ RepL K H ok xs ys := by
  obtain ⟨b, xs, h1, h2, h3⟩ := seqD_rep r e
  cases h1
  exact ⟨xs, h2, h3⟩
theorem wk_enum {p : Par} {a : Addr} {y : PyData} {l : Bool} {ys : List PyData} (e : seqD y = some (l, ys)) : Wk p (IteB p.K l a) [(.ref a, .dat y)] (enumD ys) where
  go := fun ok H i z hq e2 => by
    obtain ⟨xs, h1, h2⟩ := sqB_inj (hq (.ref a, .dat y) (by simp)) e
    obtain ⟨x, h3, rfl⟩ := enumD_at e2
    obtain ⟨v, h4, h5⟩ := h2.get h3
    refine ⟨⟨xs, v, h1, h4⟩, fun w H' hy => ?_⟩
    obtain ⟨T, v2, rfl, hn, rfl, hy⟩ := hy
    have h6 := hy xs h1
    rw [h4] at h6; cases h6
    have gr : Grow H (upd H T (.tup [.int (i : Nat), v])) := Grow.new hn
    exact ⟨gr, .tup (SqU.pair (SqT.of upd_same) rfl) two_ok (.cons (.int _) (.cons (h5.keep gr.keep) .nil))⟩
  stop := fun ok H hq => by
    obtain ⟨xs, h1, h2⟩ := sqB_inj (hq (.ref a, .dat y) (by simp)) e
    exact ⟨xs, h1, by rw [h2.length, enumD_len]⟩
@[simp] def xEnum (f : Fr → Res AV) : Fr → Res (List PyData) := fun fr => (f fr).bind fun a fr1 => match a with
  | .dat y => (match seqD y with
    | some (_, ys) => .ok (enumD ys) fr1
    | none => .err)
  | _ => .err
section
variable {X : Cx} {x : XW} {e : Expr} {f : Fr → Res AV}
def iEnumB (X : Cx) (ta : TA) : TI := fun σ H R => ta σ H fun vs H1 => ∃ a l xs, vs = [.ref a] ∧ SqB X.K l H1 a xs ∧ R (IteB X.K l a) H1
theorem pi_enumB {ta : TA} {p pos tpos : Pos} {elts : List Expr} {kk : Nat} (hg : Gl X "enumerate") (hm : X.mg "enumerate" = none) (ha : PA X [e] ta) (hs : starEach [e] X.env = [(false, eval e X.env)] := by rfl) :
    PI X (.Tuple elts kk tpos) (.Call (.Name "enumerate" p) [e] [] pos) (iEnumB X ta) := by
  refine ⟨fun pins s σ H R I h => ?_⟩
  refine Call_ (ld_blt I hg hm boot_enumerate (PyProof.Rows.callWith_type1 (thn (ha.run pos pins s σ H _ I h) fun us s1 ⟨vs, H1, I1, r1, q1⟩ => ?_) hs rfl))
  obtain ⟨a, l, xs, ex, hq, q⟩ := q1
  subst ex
  cases r1 with
  | cons r rr =>
    cases rr
    cases r
    obtain ⟨its, rv, p', hz⟩ := seqB I1 hq
    refine call_enum1 (beginsB l a its.toArray) p' fun h' he hit hsz hk => wpAny_pyIter_enum he ?_
    have I2 : Inv X pins σ H1 { s1 with heap := h' } := I1.kept (t' := s1.toks) hk
    have ha : a ≠ s1.heap.objs.size := Nat.ne_of_lt hz
    have ha1 : s1.heap.objs.size + 1 ≠ a := Nat.ne_of_gt (Nat.lt_succ_of_lt hz)
    refine ⟨s1.heap.objs.size + 1, [s1.heap.objs.size + 1, s1.heap.objs.size], _, _, H1, rfl, I2, turn_enumB l a (s1.heap.objs.size + 1) s1.heap.objs.size, ⟨⟨.none, he⟩, iterB_new l a hit, Nat.succ_ne_self _, ha1, ha⟩, fun b hb => ?_, q⟩
    have e' : b = s1.heap.objs.size + 1 ∨ b = s1.heap.objs.size := by simpa using hb
    have hle : s1.heap.objs.size ≤ b := by
      rcases e' with z | z
      · rw [z]; exact Nat.le_add_right _ _
      · rw [z]; exact Nat.le_refl _
    exact I1.fpOk hle (I1.hok.fresh hle)
theorem ai_enum {p pos tpos : Pos} {elts : List Expr} {kk : Nat} (hg : Gl X "enumerate") (hm : X.mg "enumerate" = none) (ha : AE X x e f) (hs : starEach [e] X.env = [(false, eval e X.env)] := by rfl) :
    AI X x (.Tuple elts kk tpos) (.Call (.Name "enumerate" p) [e] [] pos) (xEnum f) := by
  have hw := pi_enumB (elts := elts) (kk := kk) (tpos := tpos) (p := p) (pos := pos) hg hm (pa_cons ha pa_nil hs) hs
  refine ⟨fun pins s σ H R I hh => hw.run pins s σ H R I ?_⟩
  obtain ⟨c, fr, ad, F, o⟩ := hh
  refine ⟨c, fr, ad, F, (Out.bind F o).mono fun av fr1 ad1 H1 F1 m1 o1 v rv => ?_⟩
  cases av with
  | dat y =>
    cases q : seqD y with
    | none => simp only [q] at o1; exact o1.elim
    | some z =>
      obtain ⟨l, ys⟩ := z
      simp only [q] at o1
      obtain ⟨a, xs, rfl, h1, h2⟩ := seqD_rep rv q
      exact ⟨a, l, xs, rfl, h1, o1 ad1 H1 F1 Mv.refl _ [(.ref a, .dat y)] (fun z hz => by cases List.mem_singleton.mp hz; exact ⟨rfl, rv⟩) (wk_enum q)⟩
  | _ => exact o1.elim
end
def zipD (xs ys : List PyData) : List PyData := (xs.zip ys).map fun q => .tuple [q.1, q.2]
@[simp] def xZip (f g : Fr → Res AV) : Fr → Res (List PyData) := fun fr => (f fr).bind fun a fr1 => (g fr1).bind fun b fr2 => match a, b with
  | .dat y, .dat z => (match seqD y, seqD z with
    | some (_, ys), some (_, zs) => .ok (zipD ys zs) fr2
    | _, _ => .err)
  | _, _ => .err
end G
namespace G
open PySem PySem.Spec PyProof.Rows L2
@[simp] def xNewL (gs : Fr → Res (List AV)) : Fr → Res AV := fun fr => (gs fr).bind fun as fr1 => match dats as with
  | some xs => .ok (.cel fr1.cells.length) (fr1.newc (.lst xs))
  | none => .err
@[simp] def xNewD (tp : Bool) : Fr → Res AV := fun fr => .ok (.cel fr.cells.length) (fr.newc (.dct tp []))
section
variable {X : Cx} {x : XW} {a b d : Expr} {f g h : Fr → Res AV} {pos : Pos}
theorem newc_at {p : Par} {c : Ent} {fr : Fr} {ad : List (Option Addr)} {σ : L2.St} {H H2 : Hp} {cl : Cell} (F : FR p c fr ad σ H) {l : Addr} : RepA p H2 (okP c (ad ++ [some l])) (ad ++ [some l]) (.ref l) (.cel fr.cells.length) :=
  ⟨l, rfl, by rw [F.clen]; simp⟩
theorem ae_newL {es : List Expr} {gs : Fr → Res (List AV)} (ha : AA X x es gs) (hl : es.length ≤ 1000 := by decide) (hn : ∀ fr as fr', gs fr = .ok as fr' → as.length = es.length) : AE X x (.List es pos) (xNewL gs) := by
  refine (pe_lst ha).imp fun σ H Q ⟨c, fr, ad, F, o⟩ => ⟨c, fr, ad, F, ?_⟩
  have o4 := Out.bind F o
  cases q : gs fr with
  | ok as fr1 =>
    rw [q] at o4
    intro ad1 H1 F1 m1 vs rvs
    have o5 := o4 ad1 H1 F1 m1
    have hlen := hn fr as fr1 q
    cases q2 : dats as with
    | none => simp only [q2] at o5; exact o5.elim
    | some xs =>
      simp only [q2] at o5
      have rl := dats_rep rvs q2
      have e1 : vs.length = as.length := Paired.length rvs
      have e2 := rl.length
      have z : vs.length ≤ sizeLine := by rw [sizeLine_eq]; omega
      refine ⟨z, fun p hp => ?_⟩
      have F2 := F1.newc (o := .lst vs) (cl := .lst xs) hp fun ok hok => ⟨vs, upd_same, by rw [← e2]; exact z, rl.keep ⟨fun b u h1 h2 => ⟨hok b u h1 h2, fun _ => Grow.new hp b u h2⟩, (Grow.new hp).keep (ok := okP c ad1) |>.t⟩⟩
      exact o5 _ _ F2 (mv_new hp) _ (newc_at (cl := .gone) F1)
  | exc cl fs fr1 => rw [q] at o4; exact o4
  | err => rw [q] at o4; exact o4
theorem ae_newD (tp : Bool) : AE X x (.Dict [] [] pos) (xNewD tp) := by
  cases tp with
  | false =>
    refine pe_dnewK.imp fun σ H Q ⟨c, fr, ad, F, o⟩ p hp => ?_
    have F2 := F.newc (o := .dK []) (cl := .dct false []) hp fun ok hok => ⟨[], upd_same, .nil⟩
    exact o _ _ F2 (mv_new hp) _ (newc_at (cl := .gone) F)
  | true =>
    refine pe_newT.imp fun σ H Q ⟨c, fr, ad, F, o⟩ p hp hm => ?_
    have F2 := F.newc (o := dTh p #[] 0) (cl := .dct true []) hp fun ok hok => ⟨#[], 0, [], upd_same, rfl, List.nodup_nil, hm, Nat.zero_le _, .nil⟩
    exact o _ _ F2 (mv_new hp) _ (newc_at (cl := .gone) F)
mutual
def noL : PyData → Bool
  | .tuple xs => noLs xs
  | .list _ => false
  | .dict _ => false
  | _ => true
def noLs : List PyData → Bool
  | [] => true
  | x :: xs => noL x && noLs xs
end
mutual
theorem Rep.any {K : PySem.W.Frag} {H : Hp} {ok ok' : Addr → Prop} : ∀ {v : V} {y : PyData}, Rep K H ok v y → noL y = true → Rep K H ok' v y
  | _, _, .non, _ => .non
  | _, _, .bl b, _ => .bl b
  | _, _, .int i, _ => .int i
  | _, _, .str z h, _ => .str z h
  | _, _, .lst _ _ _ _, e => by simp [noL] at e
  | _, _, .tup r l rs, e => .tup r l (RepL.any rs (by simpa [noL] using e))
theorem RepL.any {K : PySem.W.Frag} {H : Hp} {ok ok' : Addr → Prop} : ∀ {vs : List V} {ys : List PyData}, RepL K H ok vs ys → noLs ys = true → RepL K H ok' vs ys
  | _, _, .nil, _ => .nil
  | _, _, .cons r rs, e => by
    simp only [noLs, Bool.and_eq_true] at e
    exact .cons (Rep.any r e.1) (RepL.any rs e.2)
end
@[simp] def noLA : AV → Bool
  | .dat y => noL y
  | .cel _ => true
  | _ => false
def noLC : Cell → Bool
  | .lst xs => noLs xs
  | .dct _ kvs => kvs.all fun q => noL q.1 && noL q.2
  | .gone => false
  | .rows _ => false
  | .obj _ _ => false
theorem CellAt.any {p : Par} {H : Hp} {ok ok' : Addr → Prop} {rf rf' : Nat → Option Addr} {a : Addr} : ∀ {cl : Cell}, CellAt p H ok rf a cl → noLC cl = true → CellAt p H ok' rf' a cl
  | .lst ds, ⟨xs, h1, h2, h3⟩, e => ⟨xs, h1, h2, h3.any e⟩
  | .dct false kvs, ⟨ks, e, r⟩, hn => by
    refine ⟨ks, e, ?_⟩
    have hn' : kvs.all (fun q => noL q.1 && noL q.2) = true := hn
    clear e hn
    induction r with
    | nil => exact .nil
    | cons h _ ih =>
      rw [List.all_cons, Bool.and_eq_true] at hn'
      exact .cons ⟨h.1, h.2.1, h.2.2.any (Bool.and_eq_true_iff.mp hn'.1).2⟩ (ih hn'.2)
  | .dct true kvs, ⟨es, ep, xs, e, h1, h2, h3, h4, r⟩, hn => by
    have hn' : kvs.all (fun q => noL q.1 && noL q.2) = true := hn
    refine ⟨es, ep, xs, e, h1, h2, h3, h4, ?_⟩
    clear e h1 h2 h3 h4 hn
    induction r with
    | nil => exact .nil
    | cons h _ ih =>
      rw [List.all_cons, Bool.and_eq_true] at hn'
      obtain ⟨q1, q2, q3, v, q4, q5⟩ := h
      have z := Bool.and_eq_true_iff.mp hn'.1
      exact .cons ⟨q1, q2, q3.any z.1, v, q4, q5.any z.2⟩ (ih hn'.2)
  | .gone, r, _ => r.elim
@[simp] def xCallF (m : AFun) (gs : Fr → Res (List AV)) : Fr → Res AV := fun fr => (gs fr).bind fun as fr1 => if as.all noLA = true ∧ (celsOf as).Nodup then (match getAll fr1.cells (celsOf as) with
  | some cs => if cs.all noLC = true then (match m (relab 0 as) cs with
    | .ok (.dat (.list ys)) cs' => if noLs ys = true ∧ cs'.all noLC = true then .ok (.cel fr1.cells.length) ((⟨fr1.vars, putAll fr1.cells (celsOf as) cs', fr1.base⟩ : Fr).newc (.lst ys)) else .err
    | .ok (.dat .none) cs' => .ok (.dat .none) ⟨fr1.vars, putAll fr1.cells (celsOf as) cs', fr1.base⟩
    | .ok (.dat (.tuple ys)) cs' => if noLs ys = true then .ok (.dat (.tuple ys)) ⟨fr1.vars, putAll fr1.cells (celsOf as) cs', fr1.base⟩ else .err
    | .ok _ _ => .err
    | .exc c fs cs' => .exc c fs ⟨fr1.vars, putAll fr1.cells (celsOf as) cs', fr1.base⟩
    | .err => .err) else .err
  | none => .err) else .err
theorem noScr_of : ∀ {as : List AV}, as.all noLA = true → noScr as = true
  | [], _ => rfl
  | .dat y :: as, e => noScr_of (as := as) (by rw [List.all_cons, Bool.and_eq_true] at e; exact e.2)
  | .cel k :: as, e => noScr_of (as := as) (by rw [List.all_cons, Bool.and_eq_true] at e; exact e.2)
  | .dct _ _ :: as, e => by cases e
  | .scr _ :: as, e => by cases e
  | .brd _ _ _ :: as, e => by cases e
  | .fn _ _ :: as, e => by cases e
  | .pin _ :: as, e => by cases e
theorem relab_any {p : Par} {H : Hp} {ok ok' : Addr → Prop} {ad : List (Option Addr)} : ∀ {vs : List V} {as : List AV}, RepAs p H ok ad vs as → as.all noLA = true → RepAs p H ok' ad vs as
  | _, _, .nil, _ => .nil
  | _, .dat y :: as, .cons r rs, e => by
    rw [List.all_cons, Bool.and_eq_true] at e
    exact .cons (Rep.any r e.1) (relab_any rs e.2)
  | _, .cel k :: as, .cons r rs, e => by
    rw [List.all_cons, Bool.and_eq_true] at e
    exact .cons r (relab_any rs e.2)
  | _, .dct _ _ :: as, .cons r rs, e => by cases e
  | _, .scr _ :: as, .cons r rs, e => by cases e
  | _, .brd _ _ _ :: as, .cons r rs, e => by cases e
  | _, .fn _ _ :: as, .cons r rs, e => by cases e
  | _, .pin _ :: as, .cons r rs, e => by cases e
theorem call_adopt {p : Par} {c : Ent} {fr : Fr} {ad : List (Option Addr)} {σ : L2.St} {H H' : Hp} {W : List Addr} {ids : List Nat} {cs' : List Cell} {la : Addr} {xs : List V} {ys : List PyData} {ok : Addr → Prop} (F : FR p c fr ad σ H) (nd : ids.Nodup) (hW : ∀ (j i : Nat), ids[j]? = some i → ∃ a, W[j]? = some a ∧ ad[i]? = some (some a)) (hl : W.length = ids.length)
    (P : PostF p H (fun _ => False) W cs' H') (hc : cs'.all noLC = true) (e : H' la = some (.lst xs)) (hfree : H la = none) (rl : RepL p.K H' ok xs ys) (hn : noLs ys = true) (hz : ys.length ≤ sizeLine) :
    FR p c ((⟨fr.vars, putAll fr.cells ids cs', fr.base⟩ : Fr).newc (.lst ys)) (ad ++ [some la]) σ H' ∧ Mv H ad H' (ad ++ [some la]) := by
  obtain ⟨F2, m2, _⟩ := call_end F nd hW hl (S := fun _ => False) (fun b hb _ => hb.elim) P
  have nad : some la ∉ ad := fun z => by
    obtain ⟨u, e, _⟩ := F.track z
    rw [hfree] at e; cases e
  have M3 : Mv H ad H' (ad ++ [some la]) := ⟨m2.keep, fun i x e => snoc_pre e, fun a h => by
    rcases List.mem_append.mp h with z | z
    · exact .inl z
    · have q : a = la := by simpa using z
      exact .inr (by rw [q]; exact hfree), m2.there⟩
  refine ⟨⟨F.len, fun i av q => ?_, by simp [Fr.newc, putAll_len, F.clen], fun i a q => ?_, fun i j a q1 q2 => ?_, F2.old, fun i a q => snoc_pre (F.sub i a q), fun a h => ?_, fun g hg => ⟨(F.gh g hg).1, RepA.mv F M3 (F.gh g hg).2⟩, M3.prs F, F.bs, F2.tabs.addL (ne_code e fun φ z => nomatch z)⟩, M3⟩
  · obtain ⟨v, h1, h2⟩ := F.var i av q
    exact ⟨v, h1, RepA.mv F M3 h2⟩
  · rcases snoc_at q with q | ⟨hi, q⟩
    · by_cases hm : i ∈ ids
      · obtain ⟨cl, h1, h2⟩ := F2.cel i a q
        refine ⟨cl, snoc_pre h1, CellAt.any (rf' := rfA c.lo (ad ++ [some la]) i) h2 ?_⟩
        obtain ⟨j, hj⟩ := mem_at hm
        obtain ⟨b, g1, g2⟩ := hW j i hj
        obtain ⟨cl2, g3, _⟩ := P.cel j b g1
        have g4 := putAll_in (cs := fr.cells) nd hj g3 (by rw [F.clen]; exact lt_of_at q)
        have h1' : (putAll fr.cells ids cs')[i]? = some cl := h1
        rw [g4] at h1'
        cases h1'
        exact List.all_eq_true.mp hc _ (List.mem_of_getElem? g3)
      · obtain ⟨cl, h1, h2⟩ := F.cel i a q
        refine ⟨cl, snoc_pre (by rw [show (⟨fr.vars, putAll fr.cells ids cs', fr.base⟩ : Fr).cells = putAll fr.cells ids cs' from rfl, putAll_out hm]; exact h1), ?_⟩
        have na : a ∉ W := fun hw => by
          obtain ⟨j, e1⟩ := mem_at hw
          have hj : j < ids.length := by rw [← hl]; exact lt_of_at e1
          obtain ⟨b, h3, h4⟩ := hW j ids[j] (by rw [List.getElem?_eq_getElem hj])
          rw [e1] at h3; cases h3
          have := F.nd _ i a h4 q
          exact hm (by rw [← this]; exact List.getElem_mem hj)
        have kp : ∀ o, H a = some o → H' a = some o := fun o z => P.keep a o z na (F.trackN (List.mem_of_getElem? q) z)
        exact CellAt.rfm (rfA_pre fun k b _ z => snoc_pre z) (CellAt.keep (M3.kp F) kp h2)
    · cases q
      refine ⟨.lst ys, ?_, xs, e, hz, rl.any hn⟩
      rw [Fr.newc, hi, ← F.clen]
      have : (putAll fr.cells ids cs').length = fr.cells.length := putAll_len
      rw [← this]
      simp
  · rcases snoc_at q1 with z1 | ⟨i1, z1⟩
    · rcases snoc_at q2 with z2 | ⟨i2, z2⟩
      · exact F.nd i j a z1 z2
      · cases z2; exact absurd (List.mem_of_getElem? z1) nad
    · cases z1
      rcases snoc_at q2 with z2 | ⟨i2, z2⟩
      · exact absurd (List.mem_of_getElem? z2) nad
      · omega
  · rcases List.mem_append.mp h with z | z
    · exact F.adw a z
    · have q : a = la := by simpa using z
      subst q
      exact .inr (he_new F hfree)
theorem tE_callF {m : AFun} {n : Nat} {gs : Fr → Res (List AV)} {σ : L2.St} {H : Hp} {Q : VK} (hn : ∀ fr as fr', gs fr = .ok as fr' → as.length = n) (h : tE (pX X) x (xCallF m gs) σ H Q) : tA (pX X) x gs σ H fun vs H1 => spF (pX X) x.C m n vs H1 Q fun C d H' => x.W C d σ H' := by
  obtain ⟨c, fr, ad, F, o⟩ := h
  refine ⟨c, fr, ad, F, ?_⟩
  unfold xCallF at o
  cases qg : gs fr with
  | exc cl fs fr1 => rw [qg] at o; exact o
  | err => rw [qg] at o; exact o
  | ok as fr1 =>
    have o2 := Out.bind F o
    rw [qg] at o2
    intro ad1 H1 F1 m1 vs rvs
    have o0 := o2 ad1 H1 F1 m1
    refine ⟨by rw [Paired.length rvs]; exact hn fr as fr1 qg, ?_⟩
    simp only at o0
    split at o0
    rotate_left
    · exact o0.elim
    rename_i hnl
    obtain ⟨hnl, nd⟩ := hnl
    have hsc := noScr_of hnl
    cases q1 : getAll fr1.cells (celsOf as) with
    | none => rw [q1] at o0; exact o0.elim
    | some cs =>
      rw [q1] at o0
      simp only at o0
      split at o0
      rotate_left
      · exact o0.elim
      rename_i hncs
      obtain ⟨lW, hW⟩ := celAds_at rvs
      obtain ⟨lc, hcs⟩ := getAll_at q1
      have ndW : (celAds ad1 as).Nodup := by
        unfold List.Nodup
        rw [List.pairwise_iff_getElem]
        intro j k hj hk hjk e
        have hk' : k < (celsOf as).length := by rw [← lW]; exact hk
        have hj' : j < (celsOf as).length := by omega
        obtain ⟨b1, h1, h2⟩ := hW j (celsOf as)[j] (by rw [List.getElem?_eq_getElem hj'])
        obtain ⟨b2, h3, h4⟩ := hW k (celsOf as)[k] (by rw [List.getElem?_eq_getElem hk'])
        rw [List.getElem?_eq_getElem hj] at h1
        rw [List.getElem?_eq_getElem hk] at h3
        have eb : b1 = b2 := by rw [← Option.some.inj h1, ← Option.some.inj h3]; exact e
        subst eb
        have := F1.nd _ _ _ h2 h4
        have := (List.getElem_inj nd).mp this
        omega
      refine ⟨fun _ => False, celAds ad1 as, relab 0 as, cs, relab_rep (ok := fun _ => False) (fun a z => z.elim) (relab_any rvs hnl) hsc fun j b e => by rw [Nat.zero_add]; exact e, ndW, by rw [lc, lW], fun i b e => ?_, ads_tab F1 rvs, ?_⟩
      · have hi : i < (celsOf as).length := by rw [← lW]; exact lt_of_at e
        obtain ⟨b', h1, h2⟩ := hW i (celsOf as)[i] (by rw [List.getElem?_eq_getElem hi])
        rw [e] at h1; cases h1
        obtain ⟨cl, h3, h4⟩ := hcs i (celsOf as)[i] (by rw [List.getElem?_eq_getElem hi])
        obtain ⟨cl', h5, h6⟩ := F1.cel _ b h2
        rw [h3] at h5; cases h5
        exact ⟨cl, h4, h6.any (List.all_eq_true.mp hncs cl (List.mem_of_getElem? h4))⟩
      · cases q2 : m (relab 0 as) cs with
        | ok r cs' =>
          rw [q2] at o0
          intro v H2 P rv
          cases r with
          | dat y =>
            cases y with
            | list ys =>
              simp only at o0
              split at o0
              rotate_left
              · exact o0.elim
              rename_i hny
              have rv' : Rep X.K H2 (okF H1 (fun _ => False) (celAds ad1 as)) v (.list ys) := rv
              cases rv' with
              | @lst la xs _ okl hl hz rl =>
                have hfree : H1 la = none := by
                  rcases okl.1 with z | z
                  · exact z
                  · exact z.elim
                obtain ⟨F3, M3⟩ := call_adopt F1 nd hW lW P hny.2 hl hfree rl hny.1 hz
                exact o0 _ _ F3 M3 _ (newc_at (cl := .gone) F1)
            | none =>
              obtain ⟨F2, m2, okk⟩ := call_end F1 nd hW lW (S := fun _ => False) (fun b hb _ => hb.elim) P
              have rv' : Rep X.K H2 (okF H1 (fun _ => False) (celAds ad1 as)) v .none := rv
              cases rv'
              exact o0 ad1 H2 F2 m2 _ .non
            | tuple ys =>
              simp only at o0
              split at o0
              rotate_left
              · exact o0.elim
              rename_i hny
              obtain ⟨F2, m2, okk⟩ := call_end F1 nd hW lW (S := fun _ => False) (fun b hb _ => hb.elim) P
              have rv' : Rep X.K H2 (okF H1 (fun _ => False) (celAds ad1 as)) v (.tuple ys) := rv
              exact o0 ad1 H2 F2 m2 _ (Rep.any rv' hny)
            | _ => exact o0.elim
          | _ => exact o0.elim
        | exc cl fs cs' =>
          rw [q2] at o0
          intro Cv d H2 P hx
          obtain ⟨F2, m2, okk⟩ := call_end F1 nd hW lW (S := fun _ => False) (fun b hb _ => hb.elim) P
          exact o0 ad1 H2 Cv d F2 m2 hx
        | err => rw [q2] at o0; exact o0.elim
theorem ae_callF {CX : CXT} {k j : Nat} {n : Str} {m : AFun} {es : List Expr} {gs : Fr → Res (List AV)} {p1 : Pos} {np : Nat} (D : DefF X.prog X.w X.K X.mg X.base CX x.C k n np m) (hr : Room j X.A) (hk : k ≤ j) (hx : ∀ σ, PassesAt CX X σ fun C d H' => x.W C d σ H') (hg : Gl X n) (ha : AA X x (a :: es) gs) (hn : ∀ fr as fr', gs fr = .ok as fr' → as.length = np)
    (hdb : (n == ("__debug__" : Str)) = false := by decide) (he : starEach (a :: es) X.env = (false, eval a X.env) :: starEach es X.env := by rfl) (hpl : (backTo pos (starEach es X.env)).any (·.1) = false := by rfl) :
    AE X x (.Call (.Name n p1) (a :: es) [] pos) (xCallF m gs) := by
  obtain ⟨f, fd, ps, F, hm, kp, b⟩ := D.ex
  refine (pe_callSD F (hr.mono hk) hg hm kp b .nil (E := fun σ C d H' => x.W C d σ H') hx ha hdb he hpl).imp fun σ H Q h => ?_
  have z := tE_callF hn h
  unfold tCallSD
  simpa only [List.append_nil] using z
@[simp] def sPar (i j : Nat) (gs : Fr → Res (List AV)) : Fr → SRes := fun fr => (gs fr).toS fun as fr1 => match as with
  | [a, b] => .nx ((fr1.setv i (some a)).setv j (some b))
  | _ => .err
@[simp] def sPar3 (i j l : Nat) (gs : Fr → Res (List AV)) : Fr → SRes := fun fr => (gs fr).toS fun as fr1 => match as with
  | [a, b, c] => .nx (((fr1.setv i (some a)).setv j (some b)).setv l (some c))
  | _ => .err
theorem as_par {i j : Nat} {n m : Str} {gs : Fr → Res (List AV)} {px py pt : Pos} {kt k2 pt2} (hc : X.calm = true) (hN : X.N.Nodup) (hi : X.N[i]? = some n) (hj : X.N[j]? = some m) (hij : i ≠ j)
    (hx : X.env.scope.names.lookup n = some .local) (hy : X.env.scope.names.lookup m = some .local) (ha : AA X x [a, b] gs)
    (hw : swappedStores [.Tuple [.Name n px, .Name m py] kt pt] (.Tuple [a, b] k2 pt2) X.env = pure (some [n, m]))
    (hs : swapsWithSole [.Tuple [.Name n px, .Name m py] kt pt] (.Tuple [a, b] k2 pt2) pos.line X.env = pure false := by rfl) :
    AS X x (.Assign [.Tuple [.Name n px, .Name m py] kt pt] (.Tuple [a, b] k2 pt2) pos) (sPar i j gs) := by
  refine (ps_par hc hN hi hj hij hx hy ha hw hs).imp fun D σ H ⟨c, fr, ad, F, o⟩ => ⟨c, fr, ad, F, (SOut.of F o).mono fun as fr1 ad1 H1 F1 m1 o1 vs rvs => ?_⟩
  match as, o1, rvs with
  | [a1, b1], o1, .cons r1 (.cons r2 .nil) => exact ⟨_, _, rfl, o1 ad1 _ H1 ((F1.setv r1).setv r2)⟩
  | [], o1, _ => exact o1.elim
  | [_], o1, _ => exact o1.elim
  | _ :: _ :: _ :: _, o1, _ => exact o1.elim
/-- a target that takes a value apart -/
@[simp] def sAsg (g : Tg) (f : Fr → Res AV) : Fr → SRes := fun fr => (f fr).toS fun a fr1 => match a with
  | .dat y => (match g y fr1 with
    | some fr2 => .nx fr2
    | none => .err)
  | _ => .err
@[simp] def sDSet (i : Nat) (fi fv : Fr → Res AV) : Fr → SRes := fun fr => (fv fr).toS fun a fr1 => match fr1.vars[i]? with
  | some (some (.cel k)) => (fi fr1).toS fun b fr2 => (match a, b, fr2.cells[k]? with
    | .dat y, .dat z, some (.dct tp kvs) => if kOk tp z = true ∧ kvs.length < 1000000 then .nx (fr2.putc k (.dct tp (kput kvs z y))) else .err
    | _, _, _ => .err)
  | _ => .err
def rSetD (X : Cx) : TSet := fun o i v H Q => ∃ (ok : Addr → Prop) (l : Addr) (tp : Bool) (kvs : List (PyData × PyData)) (k dv : PyData), o = .ref l ∧ DctAt (pX X) H ok l tp kvs ∧ (∀ b, ok b → b ≠ l) ∧ Rep X.K H ok i k ∧ Rep X.K H ok v dv ∧ kOk tp k = true ∧ kvs.length < 1000000 ∧
  ∀ o, Keep H (upd H l o) ok ok → DctAt (pX X) (upd H l o) ok l tp (kput kvs k dv) → Q (upd H l o)
theorem set_dict (hu : X.A.units + 64 < cLine) : PSet X (rSetD X) := by
  intro pins s σ H o i v ov iv u Q I ro ri rv hh
  obtain ⟨ok, l, tp, kvs, k, dv, rfl, hd, hne, hk, hv, ho, hl, q⟩ := hh
  cases ro
  exact g_set hu I hd hne hk ri hv rv ho hl q
theorem cell_dct {p : Par} {c : Ent} {fr : Fr} {ad : List (Option Addr)} {σ : L2.St} {H : Hp} (F : FR p c fr ad σ H) {k : Nat} {l : Addr} {tp : Bool} {kvs : List (PyData × PyData)} (e : ad[k]? = some (some l)) (q : fr.cells[k]? = some (.dct tp kvs)) : DctAt p H (okP c ad) l tp kvs := by
  obtain ⟨cl, h1, h2⟩ := F.cel k l e
  rw [q] at h1; cases h1
  exact h2
theorem as_dset {i : Nat} {n : Str} {p1 p2 : Pos} (hu : X.A.units + 64 < cLine) (hN : X.N[i]? = some n) (hv : Vis X.env.scope n) (hb : AE X x b g) (ha : AE X x a f) (hd : (n == ("__debug__" : Str)) = false := by decide) (hcd : (n == ("__classdict__" : Str)) = false := by decide)
    (hsub : ∀ v, assign (.Subscript (.Name n p1) b p2) X.env v = (do
      let ov ← holding [v] (eval (.Name n p1) X.env)
      let iv ← holding [v, ov] (eval b X.env)
      standAt p2
      holding [v, ov, iv] (setItem ov iv v)
      release [v, ov, iv] []) := by intro _; rfl)
    (hs : swapsWithSole [.Subscript (.Name n p1) b p2] a pos.line X.env = pure false := by rfl) (hw : swappedStores [.Subscript (.Name n p1) b p2] a X.env = pure none := by rfl)
    (h1 : (assignEach [.Subscript (.Name n p1) b p2] X.env).map (·.2) = [assign (.Subscript (.Name n p1) b p2) X.env] := by rfl) : AS X x (.Assign [.Subscript (.Name n p1) b p2] a pos) (sDSet i g f) := by
  refine (ps_asg ha (pg_sub (pe_var hN hv hd hcd) hb (set_dict hu) hsub) hs hw h1).imp fun D σ H ⟨c, fr, ad, F, o⟩ => ⟨c, fr, ad, F, (SOut.of F o).mono fun av fr1 ad1 H1 F1 m1 o1 v rv => ?_⟩
  cases q : fr1.vars[i]? with
  | none => rw [q] at o1; exact o1.elim
  | some w =>
    rw [q] at o1
    cases w with
    | none => exact o1.elim
    | some aw =>
      obtain ⟨vw, e1, e2⟩ := F1.var i aw q
      cases aw with
      | cel k =>
        obtain ⟨l, rfl, hl⟩ := e2
        refine ⟨_, e1, c, fr1, ad1, F1, (SOut.of F1 o1).mono fun bv fr2 ad2 H2 F2 m2 o2 w rw_ => ?_⟩
        have rv2 := RepA.mv F1 m2 rv
        cases av with
        | dat y =>
          cases bv with
          | dat yb =>
            cases q2 : fr2.cells[k]? with
            | none => simp only [q2] at o2; exact o2.elim
            | some cl =>
              cases cl with
              | dct tp kvs =>
                simp only [q2] at o2
                split at o2
                rotate_left
                · exact o2.elim
                rename_i hh
                have e3 := m2.pre k _ hl
                have dd := cell_dct F2 e3 q2
                have m := List.mem_of_getElem? e3
                refine ⟨okP c ad2, l, tp, kvs, yb, y, rfl, dd, fun b hb z => hb.2 (by rw [z]; exact m), rw_, rv2, hh.1, hh.2, fun o kp d2 => ?_⟩
                exact o2 _ _ _ (F2.putc e3 (wr_td dd) d2)
              | _ => simp only [q2] at o2; exact o2.elim
          | _ => exact o2.elim
        | _ => cases bv <;> exact o2.elim
      | _ => exact o1.elim
end
end G
namespace G
open PySem PySem.Spec PyProof.Rows L2
abbrev srtLe : PyData → PyData → Bool := PySem.W.dataLe false (fun d : PyData => d)
def allAlike (ds : List PyData) : Bool := ds.all fun x => ds.all fun y => PySem.W.alike x y
def tupB : PyData → Bool
  | .tuple (_ :: _) => true
  | _ => false
def plainB : PyData → Bool
  | .tuple _ => false
  | .none => false
  | _ => true
def sortOk (ds : List PyData) : Bool := decide (ds.length ≤ 1000000) && allAlike ds && (ds.all tupB || ds.all plainB) && ds.all fun d => decide (d.depth ≤ 32)
def dSortL (ds : List PyData) : Option PyData := if sortOk ds = true then some (.list (ds.mergeSort srtLe)) else none
theorem allAlike_of {ds : List PyData} (h : allAlike ds = true) : PySem.W.AllAlike ds := fun x hx y hy => List.all_eq_true.mp (List.all_eq_true.mp h x hx) y hy
theorem sortable_of {ds : List PyData} (h : (ds.all tupB || ds.all plainB) = true) : PySem.W.Sortable ds := by
  rcases Bool.or_eq_true_iff.mp h with h | h
  · left
    intro d hd
    have := List.all_eq_true.mp h d hd
    cases d with
    | tuple xs => cases xs with
      | nil => cases this
      | cons x r => exact ⟨x, r, rfl⟩
    | _ => cases this
  · right
    intro d hd
    have := List.all_eq_true.mp h d hd
    refine ⟨fun e => ?_, fun xs e => ?_⟩
    · subst e; cases this
    · subst e; cases this
section
variable {X : Cx}
theorem each_of {K : PySem.W.Frag} {H : Hp} {ok : Addr → Prop} : ∀ {ws : List V} {vs : List Value} {ds : List PyData}, Vals ws vs → RepL K H ok ws ds → PySem.W.EachIs (fun v d => ∃ w, RelV w v ∧ Rep K H ok w d) vs ds
  | _, _, _, .nil, .nil => .nil
  | _, _, _, .cons r rs, .cons q qs => .cons ⟨_, r, q⟩ (each_of rs qs)
theorem of_each {K : PySem.W.Frag} {H : Hp} {ok : Addr → Prop} : ∀ {vs : List Value} {ds : List PyData}, PySem.W.EachIs (fun v d => ∃ w, RelV w v ∧ Rep K H ok w d) vs ds → ∃ ws, Vals ws vs ∧ RepL K H ok ws ds
  | _, _, .nil => ⟨[], .nil, .nil⟩
  | _, _, .cons ⟨w, r, q⟩ es => by
    obtain ⟨ws, h1, h2⟩ := of_each es
    exact ⟨w :: ws, .cons r h1, .cons q h2⟩
theorem sorted_inv {pins : List (Addr × Obj)} {σ : L2.St} {H : Hp} {s : Shared} {v : Value} {ds : List PyData} {Q : VK} (hu : X.A.units + 64 < cLine) (hok : sortOk ds = true) (I : Inv X pins σ H s)
    (hcol : wpAny (model X.prog X.w) X.A.in1 (collect v) (fun vs s1 => ∃ H1 ok1 ws, Inv X pins σ H1 s1 ∧ Vals ws vs ∧ RepL X.K H1 ok1 ws ds ∧ ∀ ws' p, H1 p = none → RepL X.K H1 ok1 ws' (ds.mergeSort srtLe) → Q (.ref p) (upd H1 p (.lst ws'))) X.xe s) :
    wpAny (model X.prog X.w) X.A (call (.builtin "sorted") [v]) (EP X pins σ Q) X.xe s := by
  unfold sortOk at hok
  simp only [Bool.and_eq_true] at hok
  obtain ⟨⟨⟨h1, h2⟩, h3⟩, h4⟩ := hok
  have hl := of_decide_eq_true h1
  refine Calls.call_function_entry PyProof.Rows.kind_sorted PyProof.Rows.plain_sorted PyProof.Rows.entry_sorted (PyProof.Rows.args_sorted1 _) ?_
  unfold Builtin.«sorted»
  refine wpAny_bind (m := checkCount "sorted" 1 1 _) (wpAny_pure ?_)
  refine wpAny_bind (thn hcol fun vs s1 hq => ?_)
  obtain ⟨H1, ok1, ws, I1, rv, rl, q⟩ := hq
  have lv : vs.length = ds.length := by rw [← rv.length, rl.length]
  have hz : vs.length ≤ sizeLine := by rw [sizeLine_eq]; omega
  refine wpAny_bind (wpAny_newList ?_ hz)
  have hoL : (s1.heap.push (seqObj "list" vs.toArray 0)).get? s1.heap.objs.size = some (seqObj "list" vs.toArray 0) := Heap.get?_push_size _ rfl
  show wpAny _ _ _ _ _ { s1 with heap := s1.heap.push (seqObj "list" vs.toArray 0) }
  have er : PySem.W.EachIs (fun v d => ∃ as, Reads (PySem.W.sortingHeap (s1.heap.push (seqObj "list" vs.toArray 0)) s1.heap.objs.size vs) v d as) vs ds := by
    refine (each_of rv rl).mono fun v d ⟨w, r1, r2⟩ => ?_
    obtain ⟨as, r⟩ := Dp.reads I1 d w v r2.dp r1
    exact ⟨as, PyProof.Rows.Reads.keeps (fun b o e => PySem.W.sortingHeap_old (Nat.ne_of_lt (Heap.lt_size e)) (Heap.get?_push_of_some _ e)) r⟩
  have S := PySem.W.SortsAt.data (prog := X.prog) (w := X.w) (A := X.A.in1.in1) (s := { s1 with heap := PySem.W.sortingHeap (s1.heap.push (seqObj "list" vs.toArray 0)) s1.heap.objs.size vs }) er (allAlike_of h2) (sortable_of h3) (fun d hd => by
    have e := of_decide_eq_true (List.all_eq_true.mp h4 d hd)
    show X.A.units + 1 + 1 + d.depth < cLine
    omega)
  refine wpAny_bind (wpAny_holding (wpAny_call_entry PyProof.Rows.slot_list_sort ⟨_, hoL, rfl⟩ PyProof.Rows.entry_list_sort
    (PySem.W.list_sort_vals (s := { s1 with heap := s1.heap.push (seqObj "list" vs.toArray 0) }) hoL S hz ⟨_, rfl, ?_⟩) (PyProof.Rows.args_list_sort _)))
  have eo : PySem.W.EachIs (fun v d => ∃ w, RelV w v ∧ Rep X.K H1 ok1 w d) (PySem.W.sortVals (PySem.W.dataKind (PySem.W.sortingHeap (s1.heap.push (seqObj "list" vs.toArray 0)) s1.heap.objs.size vs) ds) false vs vs) (ds.mergeSort srtLe) := by
    have z := PySem.W.sortVals_data (enc := fun d : PyData => d) false (each_of rv rl) er (by simpa using allAlike_of h2)
    simpa using z
  obtain ⟨ws', g1, g2⟩ := of_each eo
  obtain ⟨e', he'⟩ := PyProof.Rows.sortedHeap_at (vs := vs) (out := (PySem.W.sortVals (PySem.W.dataKind (PySem.W.sortingHeap (s1.heap.push (seqObj "list" vs.toArray 0)) s1.heap.objs.size vs) ds) false vs vs).toArray) hoL
  have hlen : ws'.length ≤ sizeLine := by
    rw [g2.length, List.length_mergeSort]
    rw [sizeLine_eq]; omega
  refine wpAny_pure ⟨_, rfl, .ref s1.heap.objs.size, upd H1 s1.heap.objs.size (.lst ws'), I1.laid (t' := s1.toks) (fun b u e => ?_) (Nat.le_refl _)
    (show ObjOk X.prog X.w _ _ _ (.lst ws') from ⟨hlen, _, e', g1, he'⟩), rfl, q _ _ (I1.hok.fresh (Nat.le_refl _)) g2⟩
  have hb : b < s1.heap.objs.size := Heap.lt_size e
  rw [PyProof.Rows.sortedHeap_old (Nat.ne_of_lt hb) (by rw [size_push']; exact Nat.lt_succ_of_lt hb)]
  exact Heap.get?_push_of_some _ e
/-- a list, a tuple -/
def dSorted : List PyData → Option PyData
  | [y] => (match seqD y with
    | some (_, ds) => dSortL ds
    | none => none)
  | _ => none
theorem seqB_rep {K : PySem.W.Frag} {H : Hp} {ok : Addr → Prop} {v : V} {y : PyData} {l : Bool} {ys : List PyData} (r : RepB K H ok v y) (e : seqD y = some (l, ys)) : ∃ a xs, v = .ref a ∧ SqB K l H a xs ∧ RepL K H ok xs ys ∧ ys.length ≤ sizeLine := by
  cases y with
  | list zs => cases e; obtain ⟨a, xs, h1, h2, h4, h3⟩ := r.list; exact ⟨a, xs, h1, h2, h3, h4⟩
  | tuple zs => cases e; obtain ⟨a, xs, h1, h2, h4, h3⟩ := r.tuple; exact ⟨a, xs, h1, h2, h3, h4⟩
  | _ => cases e
theorem collect_B {pins : List (Addr × Obj)} {σ : L2.St} {H : Hp} {s : Shared} {a : Addr} {l : Bool} {xs : List V} {A : Around} {R : List Value → Shared → Prop} {E : Value → Shared → Prop} (I : Inv X pins σ H s) (h : SqB X.K l H a xs) (hz : xs.length ≤ sizeLine)
    (q : ∀ h' vs, Inv X pins σ H { s with heap := h' } → Vals xs vs → R vs { s with heap := h' }) : wpAny (model X.prog X.w) A (collect (.ref a)) R E s := by
  obtain ⟨its, rv, p, _⟩ := seqB I h
  have hs : its.toArray.size ≤ sizeLine := by simpa [← rv.length] using hz
  cases l with
  | true =>
    obtain ⟨o, e, c, n, d⟩ := p
    refine wpAny_collect_seq a (T := "list") (.inl rfl) e c d (fun h' k => ?_) hs
    exact q h' _ (I.kept (t' := s.toks) k) (by simpa using rv)
  | false =>
    obtain ⟨o, e, c, n, d⟩ := p
    refine wpAny_collect_seq a (T := "tuple") (.inr rfl) e c d (fun h' k => ?_) hs
    exact q h' _ (I.kept (t' := s.toks) k) (by simpa using rv)
theorem c_sorted (hu : X.A.units + 64 < cLine) : CallR X (.builtin "sorted") (rCall X.K dSorted) := by
  intro pins s σ H xs us Q I rx hh
  obtain ⟨ok, ds, r, hok, hx, e, q⟩ := hh
  match ds, e with
  | [y], e =>
    simp only [dSorted] at e
    cases q1 : seqD y with
    | none => rw [q1] at e; cases e
    | some z =>
      obtain ⟨l, ys⟩ := z
      rw [q1] at e
      simp only [dSortL] at e
      split at e
      · rename_i hs
        cases e
        obtain ⟨v, rfl, h⟩ := hx.one
        obtain ⟨a, xs, rfl, h1, h2, hz⟩ := seqB_rep h q1
        obtain ⟨u, rfl, ru⟩ := vals1 rx
        cases ru
        refine sorted_inv hu hs I (collect_B I h1 (by rw [h2.length]; exact hz) fun h' vs I1 rv => ⟨H, ok, xs, I1, rv, h2, fun ws' p hp rl => q _ _ (Grow.new hp) (.lst (hok p hp) upd_same ?_ (RepL.keep (Grow.new hp).keep rl))⟩)
        rw [List.length_mergeSort]
        exact hz
      · cases e
end
end G
namespace G
open PySem PySem.Spec PyProof.Rows L2
section
variable {X : Cx} {pins : List (Addr × Obj)} {σ : L2.St} {H : Hp} {s : Shared} {ok : Addr → Prop}
/-- an entry as data -/
def EntOk (K : PySem.W.Frag) (H : Hp) (ok : Addr → Prop) (en : DictEntry) (q : PyData × PyData) : Prop := ∃ k v, RelV k en.key ∧ Rep K H ok k q.1 ∧ RelV v en.val ∧ Rep K H ok v q.2
structure DRaw (X : Cx) (H : Hp) (ok : Addr → Prop) (s : Shared) (a : Addr) (kvs : List (PyData × PyData)) (es : Array DictEntry) (ep : Nat) : Prop where
  raw : s.heap.DictRaw a es ep
  lo : (a == sysModules) = false
  len : es.size = kvs.length
  le : kvs.length ≤ sizeLine
  at_ : ∀ (i : Nat) (en : DictEntry), es[i]? = some en → ∃ q, kvs[i]? = some q ∧ EntOk X.K H ok en q
theorem key_rep {n : Key} {u : Value} (hs : keyS n) (h : keyIs n u = true) : ∃ v, RelV v u ∧ Rep X.K H ok v (keyD n) := by
  refine ⟨kV n, relV_key h, ?_⟩
  cases n with
  | inl i => exact .int i
  | inr x => exact .str x hs
theorem dct_raw (I : Inv X pins σ H s) {a : Addr} {tp : Bool} {kvs : List (PyData × PyData)} (d : DctR (pX X) H ok a tp kvs) : ∃ es ep, DRaw X H ok s a kvs es ep := by
  cases tp with
  | false =>
    obtain ⟨ks, e, r1⟩ := d.rd
    obtain ⟨z, lo, vs, rel, dd⟩ := dk_rd I.hok e
    obtain ⟨es, ep, hr, hz, hat⟩ := dd.raw
    have l1 : ks.length = kvs.length := Paired.length r1
    have l2 : ks.length = vs.length := rel.length
    refine ⟨es, ep, hr, lo, by omega, by omega, fun i en he => ?_⟩
    have hi : i < es.size := by
      rcases Nat.lt_or_ge i es.size with q | q
      · exact q
      · rw [Array.getElem?_eq_none q] at he; cases he
    obtain ⟨x, hx⟩ : ∃ x, ks[i]? = some x := ⟨ks[i]'(by omega), List.getElem?_eq_getElem (by omega)⟩
    obtain ⟨q, hq1, hq2, hq3, hq4⟩ : ∃ q, kvs[i]? = some q ∧ q.1 = keyD x.1 ∧ keyS x.1 ∧ Rep X.K H ok x.2 q.2 := by
      have : ∀ {ks : List (Key × V)} {kvs : List (PyData × PyData)} {i : Nat} {x : Key × V}, Paired (PrF (pX X) H ok) ks kvs → ks[i]? = some x → ∃ q, kvs[i]? = some q ∧ PrF (pX X) H ok x q := by
        intro ks kvs i x r
        induction r generalizing i with
        | nil => intro e; simp at e
        | cons h _ ih =>
          intro e
          cases i with
          | zero => simp at e; subst e; exact ⟨_, rfl, h⟩
          | succ j => obtain ⟨q, h1, h2⟩ := ih (i := j) (by simpa using e); exact ⟨q, by simpa using h1, h2⟩
      obtain ⟨q, h1, h2⟩ := this r1 hx
      exact ⟨q, h1, h2⟩
    obtain ⟨u, hu, ru⟩ := kv_get rel (k := x.1) (v := x.2) hx
    have z2 := hat i hi x.1 u hu
    have een : es[i] = en := by
      rw [Array.getElem?_eq_getElem hi] at he; exact Option.some.inj he
    rw [een] at z2
    obtain ⟨w, hw1, hw2⟩ := key_rep (X := X) (H := H) (ok := ok) hq3 (show keyIs x.1 en.key = true from z2.1)
    refine ⟨q, hq1, w, x.2, hw1, by rw [hq2]; exact hw2, by rw [z2.2]; exact ru, hq4⟩
  | true =>
    obtain ⟨es, ep, xs, e, h1, h2, h3, h4, r1⟩ := d.tt
    obtain ⟨⟨o, ho, hx, hd⟩, _⟩ := (show ObjOk X.prog X.w H s.heap a (dTh a es ep) from I.hok a _ e)
    have l1 : xs.length = kvs.length := Paired.length r1
    have l2 : es.size = xs.length := by rw [← Array.length_toList, h1, List.length_map]
    refine ⟨es, ep, ⟨o, ho, hx, hd⟩, h3, by omega, h4, fun i en he => ?_⟩
    have he' : es.toList[i]? = some en := by rw [Array.getElem?_toList]; exact he
    rw [h1, List.getElem?_map] at he'
    cases q : xs[i]? with
    | none => rw [q] at he'; cases he'
    | some x =>
      rw [q] at he'
      have een : entryOfKey (nestedKind X.prog X.w) x = en := Option.some.inj he'
      have : ∀ {xs : List (NestedKey × Addr × Value)} {kvs : List (PyData × PyData)} {i : Nat} {x : NestedKey × Addr × Value}, Paired (PrT (pX X) H ok) xs kvs → xs[i]? = some x → ∃ q, kvs[i]? = some q ∧ PrT (pX X) H ok x q := by
        intro ks kvs i x r
        induction r generalizing i with
        | nil => intro e; simp at e
        | cons h _ ih =>
          intro e
          cases i with
          | zero => simp at e; subst e; exact ⟨_, rfl, h⟩
          | succ j => obtain ⟨q, h1, h2⟩ := ih (i := j) (by simpa using e); exact ⟨q, by simpa using h1, h2⟩
      obtain ⟨p, g1, g2, g3, g4, v, g5, g6⟩ := this r1 q
      refine ⟨p, g1, .ref x.2.1, v, ?_, g4, ?_, g6⟩
      · rw [← een]; rfl
      · rw [← een]; exact g5
theorem kdl_rawKeys {prog : Program} {w : World} {d : Addr} {es : Array DictEntry} {ep : Nat} (lo : (d == sysModules) = false) : PySem.W.KdlSrc prog w "dict" d d es.size (fun i v => ∃ hi : i < es.size, v = es[i].key) (fun h => h.DictRaw d es ep) where
  type := fun _ hm => hm.typeIs
  there := fun _ hm => let ⟨_, ho, _⟩ := hm; ⟨Heap.lt_size ho, Heap.lt_size ho⟩
  keep := fun _ _ hm hk => hm.at fun o e => hk d (.inl rfl) o e
  notList := by decide
  notTuple := by decide
  hint := fun _ _ _ _ hm hq => PySem.W.kdl_hint_dict hm.typeIs hq
  iter := fun _ s hh hm => ⟨_, _, (fun _ _ hq => wpAny_pyIter_dict_raw lo hm hq), Walks.rawKeys hh _ d (Nat.ne_of_lt (let ⟨_, ho, _⟩ := hm; Heap.lt_size ho)) es ep, ⟨⟨_, Heap.get?_push_size _ rfl, rfl, rfl⟩, hm.at fun o e => Heap.get?_push_of_some _ e⟩⟩
theorem keys_rep {a : Addr} {kvs : List (PyData × PyData)} {es : Array DictEntry} {ep : Nat} (D : DRaw X H ok s a kvs es ep) {acc : List Value} (hl : acc.length = es.size) (h : ∀ (i : Nat) (v : Value), acc[i]? = some v → ∃ hi : i < es.size, v = es[i].key) : ∃ ws, Vals ws acc ∧ RepL X.K H ok ws (kvs.map (·.1)) := by
  have go : ∀ (n : Nat) (acc : List Value) (kv : List (PyData × PyData)), acc.length = kv.length → (∀ (i : Nat) (v : Value), acc[i]? = some v → ∃ w q, kv[i]? = some q ∧ RelV w v ∧ Rep X.K H ok w q.1) → ∃ ws, Vals ws acc ∧ RepL X.K H ok ws (kv.map (·.1)) := by
    intro _ acc
    induction acc with
    | nil =>
      intro kv e _
      cases kv with
      | nil => exact ⟨[], .nil, .nil⟩
      | cons => cases e
    | cons v acc ih =>
      intro kv e h
      cases kv with
      | nil => cases e
      | cons q kv =>
        obtain ⟨w, q', h1, h2, h3⟩ := h 0 v rfl
        cases h1
        obtain ⟨ws, g1, g2⟩ := ih kv (by simpa using e) fun i v e => by
          obtain ⟨w, q, z1, z2, z3⟩ := h (i + 1) v (by simpa using e)
          exact ⟨w, q, by simpa using z1, z2, z3⟩
        exact ⟨w :: ws, .cons h2 g1, .cons h3 g2⟩
  refine go 0 acc kvs (by rw [hl, D.len]) fun i v e => ?_
  obtain ⟨hi, rfl⟩ := h i v e
  obtain ⟨q, h1, k, v, h2, h3, _⟩ := D.at_ i es[i] (by rw [Array.getElem?_eq_getElem hi])
  exact ⟨k, q, h1, h2, h3⟩
end
/-- a call with one dict -/
def rCD (X : Cx) (sem : List (PyData × PyData) → Option PyData) : List V → Hp → VK → Prop := fun xs H Q => ∃ (ok : Addr → Prop) (l : Addr) (tp : Bool) (kvs : List (PyData × PyData)) (r : PyData), (∀ p, H p = none → ok p) ∧ xs = [.ref l] ∧ DctR (pX X) H ok l tp kvs ∧ sem kvs = some r ∧ ∀ v H', Grow H H' → Rep X.K H' ok v r → Q v H'
def dSortedK (kvs : List (PyData × PyData)) : Option PyData := dSortL (kvs.map (·.1))
section
variable {X : Cx}
theorem c_sortedK (hc : X.calm = true) (hu : X.A.units + 64 < cLine) : CallR X (.builtin "sorted") (rCD X dSortedK) := by
  intro pins s σ H xs us Q I rx hh
  obtain ⟨ok, l, tp, kvs, r, hok, rfl, hd, e, q⟩ := hh
  obtain ⟨u, rfl, ru⟩ := vals1 rx
  cases ru
  simp only [dSortedK, dSortL] at e
  split at e
  rotate_left
  · cases e
  rename_i hs
  cases e
  obtain ⟨es, ep, D⟩ := dct_raw I hd
  refine sorted_inv hu hs I ?_
  refine PySem.W.kdu_collect (A := X.A.in1) (kdl_rawKeys D.lo) (I.ok.hd hc) D.raw (by rw [D.len]; exact D.le) fun h' tk acc hk hacc => ?_
  obtain ⟨ws, g1, g2⟩ := keys_rep D (acc := acc.toList) (by rw [Array.length_toList]; exact hacc.1) fun i v e => hacc.2 i v (by rw [← Array.getElem?_toList]; exact e)
  refine ⟨H, ok, ws, I.kept (t' := tk) hk, g1, g2, fun ws' p hp rl => q _ _ (Grow.new hp) (.lst (hok p hp) upd_same ?_ (RepL.keep (Grow.new hp).keep rl))⟩
  rw [List.length_mergeSort, List.length_map]
  exact D.le
/-- of a dict that is read -/
@[simp] def xD1 (sem : List (PyData × PyData) → Option PyData) (f : Fr → Res AV) : Fr → Res AV := fun fr => (f fr).bind fun a fr1 => match fr1.dview a with
  | some (_, kvs) => ofO fr1 (sem kvs)
  | none => .err
variable {x : XW} {a b d : Expr} {f g h : Fr → Res AV} {pos : Pos}
theorem tA_D1 {sem : List (PyData × PyData) → Option PyData} {σ : L2.St} {H : Hp} {Q : VK} (hh : tE (pX X) x (xD1 sem f) σ H Q) : tCons (tE (pX X) x f) tNil σ H fun vs H1 => rCD X sem vs H1 Q := by
  obtain ⟨c, fr, ad, F, o⟩ := hh
  refine ⟨c, fr, ad, F, (Out.bind F o).mono fun av fr1 ad1 H1 F1 m1 o1 v rv => ?_⟩
  cases q1 : fr1.dview av with
  | none => rw [q1] at o1; exact o1.elim
  | some z =>
    obtain ⟨tp, kvs⟩ := z
    rw [q1] at o1
    simp only [ofO] at o1
    cases q3 : sem kvs with
    | none => rw [q3] at o1; exact o1.elim
    | some r =>
      rw [q3] at o1
      obtain ⟨l, rfl, dd⟩ := dview_rep F1 rv q1
      exact ⟨okP c ad1, l, tp, kvs, r, fun p hp => okP_new F1 hp, rfl, dd, q3, fun w H3 gr rw_ => o1 ad1 H3 (F1.grow gr) (Mv.grow gr) w rw_⟩
theorem ae_callBD {id : String} {n : Str} {sem : List (PyData × PyData) → Option PyData} {p1 : Pos} (hc : CallR X (.builtin id) (rCD X sem)) (hg : Gl X n) (hm : X.mg n = none) (hv : bootBuiltins n = some (.builtin id)) (ha : AE X x a f)
    (hn : n ≠ "__name__" := by decide) (hdb : (n == ("__debug__" : Str)) = false := by decide) (he : starEach [a] X.env = (false, eval a X.env) :: starEach [] X.env := by rfl) (hpl : (backTo pos (starEach [] X.env)).any (·.1) = false := by rfl) :
    AE X x (.Call (.Name n p1) [a] [] pos) (xD1 sem f) :=
  (pe_callB hc hg hm hv (pa_cons ha pa_nil he) hn hdb he hpl).imp fun _ _ _ h => tA_D1 h
def rCI (X : Cx) (sem : List (PyData × PyData) → Option PyData) : List V → Hp → VK → Prop := fun xs H Q => ∃ (ok : Addr → Prop) (p l : Addr) (tp : Bool) (kvs : List (PyData × PyData)) (r : PyData), (∀ p, H p = none → ok p) ∧ xs = [.ref p] ∧ H p = some (DX.itemsO p l) ∧ DctR (pX X) H ok l tp kvs ∧ sem kvs = some r ∧ ∀ v H', Grow H H' → Rep X.K H' ok v r → Q v H'
def itemsD (kvs : List (PyData × PyData)) : List PyData := kvs.map fun q => .tuple [q.1, q.2]
def dSortedI (kvs : List (PyData × PyData)) : Option PyData := dSortL (itemsD kvs)
/-- new tuples, one after another -/
theorem take_items {pins : List (Addr × Obj)} {σ : L2.St} {s : Shared} {ok : Addr → Prop} {H0 : Hp} {h' : Heap} {tk : Nat} (I0 : Inv X pins σ H0 s) : ∀ (as : List Addr) (kv : List (PyData × PyData)) (H : Hp), Inv X pins σ H { s with heap := h', toks := tk } → as.Nodup → (∀ a ∈ as, s.heap.objs.size ≤ a ∧ H a = none) → as.length = kv.length →
    (∀ (j : Nat) (a : Addr), as[j]? = some a → ∃ q en, kv[j]? = some q ∧ EntOk X.K H ok en q ∧ h'.get? a = some { cls := .type "tuple", data := .seq #[en.key, en.val] }) →
    ∃ H', Inv X pins σ H' { s with heap := h', toks := tk } ∧ Grow H H' ∧ RepL X.K H' ok (as.map V.ref) (itemsD kv)
  | [], [], H, I, _, _, _, _ => ⟨H, I, Grow.refl, .nil⟩
  | [], _ :: _, _, _, _, _, e, _ => by cases e
  | _ :: _, [], _, _, _, _, e, _ => by cases e
  | a :: as, q :: kv, H, I, nd, hb, hl, hp => by
    obtain ⟨q', en, e1, ⟨k, v, r1, r2, r3, r4⟩, e2⟩ := hp 0 a rfl
    cases e1
    obtain ⟨b1, b2⟩ := hb a (List.mem_cons_self ..)
    rw [List.nodup_cons] at nd
    let ob : Obj := { cls := .type "tuple", data := .seq #[en.key, en.val] }
    have okO : ObjOk X.prog X.w (upd H a (.frz ob (.tup [k, v]))) h' a (.frz ob (.tup [k, v])) := ⟨e2, two_ok, [en.key, en.val], .cons r1 (.cons r3 .nil), ⟨_, e2, rfl, _, rfl⟩⟩
    have I2 : Inv X pins σ (upd H a (.frz ob (.tup [k, v]))) { s with heap := h', toks := tk } := I.take (h' := h') (t' := tk) (fun b ob _ e => e) (I0.fpOk b1 b2) okO
    have gr : Grow H (upd H a (.frz ob (.tup [k, v]))) := Grow.new b2
    obtain ⟨H', I3, g, rl⟩ := take_items I0 as kv _ I2 nd.2 (fun c hc => by
      obtain ⟨c1, c2⟩ := hb c (List.mem_cons_of_mem _ hc)
      exact ⟨c1, by rw [upd_ne (fun z => nd.1 (by rw [← z]; exact hc))]; exact c2⟩) (by simpa using hl) (fun j c hj => by
      obtain ⟨q, en, z1, ⟨k, v, y1, y2, y3, y4⟩, z2⟩ := hp (j + 1) c (by simpa using hj)
      exact ⟨q, en, by simpa using z1, ⟨k, v, y1, y2.keep gr.keep, y3, y4.keep gr.keep⟩, z2⟩)
    refine ⟨H', I3, fun b o e => g b o (gr b o e), .cons (.tup (SqU.new (o := ob) rfl (g _ _ upd_same)) two_ok (.cons (r2.keep (Grow.keep (ok := ok) fun b o e => g b o (gr b o e))) (.cons (r4.keep (Grow.keep (ok := ok) fun b o e => g b o (gr b o e))) .nil))) rl⟩
theorem collect_items {pins : List (Addr × Obj)} {σ : L2.St} {H : Hp} {s : Shared} {ok : Addr → Prop} {p l : Addr} {kvs : List (PyData × PyData)} {tp : Bool} {R : List Value → Shared → Prop} {A : Around} {E : Value → Shared → Prop} (hh : A.handled = none) (I : Inv X pins σ H s) (hp : H p = some (DX.itemsO p l)) (hd : DctR (pX X) H ok l tp kvs)
    (q : ∀ s1 vs H1 ws, Inv X pins σ H1 s1 → Grow H H1 → Vals ws vs → RepL X.K H1 ok ws (itemsD kvs) → R vs s1) : wpAny (model X.prog X.w) A (collect (.ref p)) R E s := by
  have view : s.heap.IsItemsView p l := (show ObjOk X.prog X.w H s.heap p (DX.itemsO p l) from I.hok p _ hp).1
  obtain ⟨es, ep, D⟩ := dct_raw I hd
  refine DT.collectI (es := es) (ep := ep) hh view D.raw (by rw [D.len]; exact D.le) fun h' tk as hk hlt hl hG => ?_
  have nd : as.Nodup := List.Pairwise.imp (fun h => Nat.ne_of_lt h) hG.rise
  obtain ⟨H1, I1, g, rl⟩ := take_items (ok := ok) I as kvs H (I.kept (t' := tk) hk) nd (fun a ha => ⟨Nat.le_of_lt (hG.above a ha), I.hok.fresh (Nat.le_of_lt (hG.above a ha))⟩) (by rw [hl, D.len]) fun j a hj => by
    obtain ⟨en, e1, e2⟩ := hG.pairs j a hj
    obtain ⟨q, h1, h2⟩ := D.at_ j en e1
    exact ⟨q, en, h1, h2, e2⟩
  refine q _ _ H1 _ I1 g ?_ rl
  have : ∀ as : List Addr, Vals (as.map V.ref) (as.map Value.ref) := by
    intro as
    induction as with
    | nil => exact .nil
    | cons a as ih => exact .cons rfl ih
  exact this as
theorem c_sortedI (hc : X.calm = true) (hu : X.A.units + 64 < cLine) : CallR X (.builtin "sorted") (rCI X dSortedI) := by
  intro pins s σ H xs us Q I rx hh
  obtain ⟨ok, p, l, tp, kvs, r, hok, rfl, hp, hd, e, q⟩ := hh
  obtain ⟨u, rfl, ru⟩ := vals1 rx
  cases ru
  simp only [dSortedI, dSortL] at e
  split at e
  rotate_left
  · cases e
  rename_i hs
  cases e
  have hle : kvs.length ≤ sizeLine := by
    obtain ⟨es, ep, D⟩ := dct_raw I hd
    exact D.le
  refine sorted_inv hu hs I (collect_items (I.ok.hd hc) I hp hd fun s1 vs H1 ws I1 g r1 r2 => ⟨H1, ok, ws, I1, r1, r2, fun ws' p' hp' rl => q _ _ (fun b o e => Grow.new hp' b o (g b o e)) (.lst (hok p' ?_) upd_same ?_ (RepL.keep (Grow.new hp').keep rl))⟩)
  · cases z : H p' with
    | none => rfl
    | some o => rw [g p' o z] at hp'; cases hp'
  · rw [List.length_mergeSort]
    unfold itemsD
    rw [List.length_map]
    exact hle
/-- d.items() -/
def tItems (X : Cx) (td : TE) : TE := fun σ H Q => td σ H fun v H1 => ∃ (ok : Addr → Prop) (l : Addr) (tp : Bool) (kvs : List (PyData × PyData)), v = .ref l ∧ DctR (pX X) H1 ok l tp kvs ∧ ∀ p, H1 p = none → Q (.ref p) (upd H1 p (DX.itemsO p l))
theorem pe_items {td : TE} {p1 : Pos} (ho : PE X a td) (hbase : attributeBase a "items" X.env (eval a X.env) = eval a X.env := by rfl) (hline : (p1.endLine == pos.line) = true := by rfl) : PE X (.Call (.Attribute a "items" p1) [] [] pos) (tItems X td) := by
  refine ⟨fun pins s σ H Q I h => ?_⟩
  refine wpAny_Call_method0_late hbase hline (thn (ho.run pins s σ H _ I h) fun v s1 ⟨y, H1, I1, r1, ok, l, tp, kvs, e, hd, q⟩ => ?_)
  subst e
  cases r1
  refine ⟨"dict", "dict.items", PySem.F.plainAttrs_dict, PySem.F.slot_dict_items, PySem.F.type_dict_items, dct_ty I1 hd, fun b0 e0 => by cases e0; exact dct_nod I1 hd, Calls.callWith_builtin rfl (PySem.evalArgs_none ?_)⟩
  obtain ⟨es, ep, D⟩ := dct_raw I1 hd
  refine DT.callItems (es := es) (ep := ep) D.lo D.raw ?_
  have hf : H1 s1.heap.objs.size = none := I1.hok.fresh (Nat.le_refl _)
  exact ⟨.ref s1.heap.objs.size, upd H1 s1.heap.objs.size (DX.itemsO s1.heap.objs.size l), I1.laid (t' := s1.toks) (fun b u e => Heap.get?_push_of_some _ e) (Nat.le_refl _) (DX.itemsO_ok (Heap.get?_push_size _ rfl)), rfl, q _ hf⟩
theorem tA_DI {sem : List (PyData × PyData) → Option PyData} {σ : L2.St} {H : Hp} {Q : VK} (hh : tE (pX X) x (xD1 sem f) σ H Q) : tCons (tItems X (tE (pX X) x f)) tNil σ H fun vs H1 => rCI X sem vs H1 Q := by
  obtain ⟨c, fr, ad, F, o⟩ := hh
  refine ⟨c, fr, ad, F, (Out.bind F o).mono fun av fr1 ad1 H1 F1 m1 o1 v rv => ?_⟩
  cases q1 : fr1.dview av with
  | none => rw [q1] at o1; exact o1.elim
  | some z =>
    obtain ⟨tp, kvs⟩ := z
    rw [q1] at o1
    simp only [ofO] at o1
    cases q3 : sem kvs with
    | none => rw [q3] at o1; exact o1.elim
    | some r =>
      rw [q3] at o1
      obtain ⟨l, rfl, dd⟩ := dview_rep F1 rv q1
      refine ⟨okP c ad1, l, tp, kvs, rfl, dd, fun p hp => ?_⟩
      have gr : Grow H1 (upd H1 p (DX.itemsO p l)) := Grow.new hp
      refine ⟨okP c ad1, p, l, tp, kvs, r, fun b hb => okP_new (F1.grow gr) hb, rfl, upd_same, dd.keep gr.keep (fun o e => gr _ o e), q3, fun w H3 g3 rw_ => ?_⟩
      exact o1 ad1 H3 ((F1.grow gr).grow g3) (Mv.grow fun b o e => g3 b o (gr b o e)) w rw_
theorem ae_callBI {id : String} {n : Str} {sem : List (PyData × PyData) → Option PyData} {p1 p2 p3 : Pos} (hc : CallR X (.builtin id) (rCI X sem)) (hg : Gl X n) (hm : X.mg n = none) (hv : bootBuiltins n = some (.builtin id)) (ha : AE X x a f)
    (hbase : attributeBase a "items" X.env (eval a X.env) = eval a X.env := by rfl) (hline : (p2.endLine == p3.line) = true := by rfl)
    (hn : n ≠ "__name__" := by decide) (hdb : (n == ("__debug__" : Str)) = false := by decide) (he : starEach [.Call (.Attribute a "items" p2) [] [] p3] X.env = (false, eval (.Call (.Attribute a "items" p2) [] [] p3) X.env) :: starEach [] X.env := by rfl) (hpl : (backTo pos (starEach [] X.env)).any (·.1) = false := by rfl) :
    AE X x (.Call (.Name n p1) [.Call (.Attribute a "items" p2) [] [] p3] [] pos) (xD1 sem f) :=
  (pe_callB hc hg hm hv (pa_cons (pe_items ha hbase hline) pa_nil he) hn hdb he hpl).imp fun _ _ _ h => tA_DI h
end
end G
namespace G
open PySem PySem.Spec PyProof.Rows L2
@[simp] def maxcel : List (Option AV) → Nat
  | [] => 0
  | some (.cel i) :: r => max (i + 1) (maxcel r)
  | some (.brd _ _ i) :: r => max (i + 1) (maxcel r)
  | _ :: r => maxcel r
@[simp] def Fr.gc (fr : Fr) : Fr := ⟨fr.vars, fr.cells.take (max fr.base (maxcel fr.vars)), fr.base⟩
def avCel : AV → Option Nat
  | .cel i => some i
  | .brd _ _ i => some i
  | _ => none
theorem maxcel_cons (v : Option AV) (vs : List (Option AV)) : maxcel vs ≤ maxcel (v :: vs) := by
  conv => rhs; unfold maxcel
  split
  · rename_i h; cases h
  · rename_i h; cases h; omega
  · rename_i h; cases h; omega
  · rename_i h; cases h; exact Nat.le_refl _
theorem maxcel_at : ∀ {vs : List (Option AV)} {j i : Nat} {av : AV}, vs[j]? = some (some av) → avCel av = some i → i < maxcel vs
  | [], _, _, _, e, _ => by simp at e
  | v :: vs, 0, i, av, e, h => by
    simp at e; subst e
    cases av with
    | cel k => cases h; unfold maxcel; omega
    | brd _ _ k => cases h; unfold maxcel; omega
    | _ => cases h
  | v :: vs, j + 1, i, av, e, h => Nat.lt_of_lt_of_le (maxcel_at (vs := vs) (j := j) (i := i) (by simpa using e) h) (maxcel_cons v vs)
section
variable {p : Par} {c : Ent} {fr : Fr} {ad : List (Option Addr)} {σ : L2.St} {H : Hp}
theorem FR.gc (F : FR p c fr ad σ H) : ∃ ad', FR p c fr.gc ad' σ H := by
  generalize hm : max fr.base (maxcel fr.vars) = m
  refine ⟨ad.take m, ?_⟩
  have sub : ∀ a, some a ∈ ad.take m → some a ∈ ad := fun a h => List.mem_of_mem_take h
  have mono : ∀ a, okP c ad a → okP c (ad.take m) a := fun a h => ⟨h.1, fun z => h.2 (sub a z)⟩
  have at' : ∀ (i : Nat) (a : Addr), (ad.take m)[i]? = some (some a) → i < m ∧ ad[i]? = some (some a) := fun i a e => by
    have hi : i < m := by
      have := lt_of_at e
      rw [List.length_take] at this; omega
    rw [List.getElem?_take, if_pos hi] at e
    exact ⟨hi, e⟩
  have rep : ∀ {v : V} {av : AV}, (∀ i, avCel av = some i → i < m) → RepA p H (okP c ad) ad v av → RepA p H (okP c (ad.take m)) (ad.take m) v av := fun {v av} hc r => by
    cases av with
    | dat y => exact Rep.mono mono r
    | dct tp kvs => obtain ⟨b, e, h1, h2⟩ := r; exact ⟨b, e, mono b h1, h2.mono mono⟩
    | cel i => obtain ⟨b, e, h⟩ := r; exact ⟨b, e, by rw [List.getElem?_take, if_pos (hc i rfl)]; exact h⟩
    | scr ns => exact r
    | fn n _ => exact r
    | pin φ => obtain ⟨b, e, h1, h2⟩ := r; exact ⟨b, e, mono b h1, h2⟩
    | brd rms cks i => obtain ⟨b, u, e, h1, h2, h⟩ := r; exact ⟨b, u, e, mono b h1, h2.mono mono, by rw [List.getElem?_take, if_pos (hc i rfl)]; exact h⟩
  have hcells : fr.gc.cells = fr.cells.take m := by unfold Fr.gc; rw [hm]
  refine ⟨F.len, fun i av e => ?_, by rw [hcells, List.length_take, List.length_take, F.clen], fun i a e => ?_, fun i j a e1 e2 => F.nd i j a (at' i a e1).2 (at' j a e2).2, F.old, fun i a e => ?_, fun a h => F.adw a (sub a h), fun q hq => ⟨(F.gh q hq).1, rep (fun i e => ?_) (F.gh q hq).2⟩, fun a ha => ⟨fun z => (F.pr a ha).1 (sub a z), (F.pr a ha).2⟩, F.bs, F.tabs.sub (adp_sub sub)⟩
  · obtain ⟨v, h1, h2⟩ := F.var i av e
    refine ⟨v, h1, rep (fun j ej => ?_) h2⟩
    have z := maxcel_at (show fr.vars[i]? = some (some av) from e) ej
    rw [← hm]; omega
  · obtain ⟨hi, e'⟩ := at' i a e
    obtain ⟨cl, h1, h2⟩ := F.cel i a e'
    exact ⟨cl, by rw [hcells, List.getElem?_take, if_pos hi]; exact h1, CellAt.rfm (rfA_pre fun k b hk z => by rw [List.getElem?_take, if_pos (by omega)]; exact z) (h2.mono mono)⟩
  · have hi := lt_of_at e
    rw [List.getElem?_take, if_pos (by rw [← hm, F.bs]; omega)]
    exact F.sub i a e
  · have := (F.gh q hq).1
    revert this e
    cases q.2 with
    | cel _ => exact fun _ h => nomatch h
    | brd _ _ _ => exact fun _ h => nomatch h
    | dat _ => exact fun h _ => nomatch h
    | dct _ _ => exact fun h _ => nomatch h
    | scr _ => exact fun h _ => nomatch h
    | fn _ _ => exact fun h _ => nomatch h
    | pin _ => exact fun h _ => nomatch h
end
@[simp] def sGc (f : Fr → SRes) : Fr → SRes := fun fr => f fr.gc
section
variable {X : Cx} {x : XW} {st : Stmt} {ss : List Stmt} {s : Fr → SRes}
theorem ass_gc (h1 : ASs X x ss s) : ASs X x ss (sGc s) := L2.PSs.imp h1 fun D σ H ⟨c, fr, ad, F, o⟩ => by
  obtain ⟨ad', F'⟩ := F.gc
  exact ⟨c, _, ad', F', o⟩
end
@[simp] def lend1 (fr : Fr) : AV → Option AV
  | .cel i => match fr.cells[i]? with
    | some (.lst xs) => some (.dat (.list xs))
    | some (.dct tp kvs) => some (.dct tp kvs)
    | _ => none
  | a => some a
@[simp] def lend (fr : Fr) : List Bool → List AV → Option (List AV)
  | [], [] => some []
  | b :: bs, a :: as => match (if b = true then lend1 fr a else some a), lend fr bs as with
    | some a', some as' => some (a' :: as')
    | _, _ => none
  | _, _ => none
@[simp] def lentOf : List Bool → List AV → List Nat
  | true :: bs, .cel i :: as => i :: lentOf bs as
  | _ :: bs, _ :: as => lentOf bs as
  | _, _ => []
@[simp] def xCallL (fl : List Bool) (m : AFun) (gs : Fr → Res (List AV)) : Fr → Res AV := fun fr => (gs fr).bind fun as0 fr1 => match lend fr1 fl as0 with
  | some as => if (celsOf as).Nodup ∧ noScr as = true ∧ ∀ i ∈ lentOf fl as0, i ∉ celsOf as then (match getAll fr1.cells (celsOf as) with
    | some cs => (match m (relab 0 as) cs with
      | .ok (.dat y) cs' => if noL y = true ∧ cs'.all noLC = true then .ok (.dat y) ⟨fr1.vars, putAll fr1.cells (celsOf as) cs', fr1.base⟩ else .err
      | _ => .err)
    | none => .err) else .err
  | none => .err
section
variable {X : Cx} {x : XW} {a : Expr} {f g h : Fr → Res AV} {pos : Pos}
@[simp] def xChain (s1 s2 : PyData → PyData → Option PyData) (f g h : Fr → Res AV) : Fr → Res AV := fun fr => (f fr).bind fun a fr1 => (g fr1).bind fun b fr2 => match fr2.view a, fr2.view b with
  | some y, some z => (match s1 y z with
    | some (.bool k) => if k = true then (h fr2).bind (fun e fr3 => match fr3.view b, fr3.view e with
      | some z', some w => ofO fr3 (s2 z' w)
      | _, _ => .err) else .ok (.dat (.bool false)) fr2
    | _ => .err)
  | _, _ => .err
theorem fn_err {P : Program} {w : World} {K : PySem.W.Frag} {mg : Str → Option Value} {base : Heap} {CX : CXT} {n qual : Str} {params : Arguments} {body : List Stmt} {scope : Scope} {dvs : List V} {kws : List (Str × V)} {f : Addr} {fd : FuncData} {N ps : List Str} {k : Nat} {C : CExc}
    (F : FunD K n qual params body scope dvs kws f fd) (S : FnScope N ps scope) : FnOk P w K mg base CX (k + 1) f fd ps (spF ⟨P, w, K⟩ C (fun _ _ => .err) ps.length) :=
  F.ok S (fun vs H Q E h => h.1) fun cdv A outer s H vs Q E hr hsp => by
    obtain ⟨_, S0, W0, as, cells, _, _, _, _, _, hm⟩ := hsp
    exact hm.elim
end
end G
namespace G
open PySem PySem.Spec PyProof.Rows L2
/-- given up where it is a cell -/
@[simp] def sFrzM (i : Nat) (f : Fr → SRes) : Fr → SRes := fun fr => match fr.vars[i]? with
  | some (some (.cel j)) => (match fr.frz j with
    | some fr1 => f fr1
    | none => .err)
  | _ => f fr
section
variable {X : Cx} {x : XW} {st : Stmt} {ss : List Stmt} {s : Fr → SRes}
theorem frzM_read {p : Par} {D : Ends} {σ : L2.St} {H : Hp} {i : Nat} (hh : tS p x (sFrzM i s) D σ H) : tS p x s D σ H := by
  obtain ⟨c, fr, ad, F, o⟩ := hh
  unfold sFrzM at o
  split at o
  · rename_i j q
    cases q2 : fr.frz j with
    | none => rw [q2] at o; exact o.elim
    | some fr2 =>
      rw [q2] at o
      obtain ⟨ad', F'⟩ := F.frz q2
      exact ⟨c, fr2, ad', F', o⟩
  · exact ⟨c, fr, ad, F, o⟩
theorem as_frzM (i : Nat) (h1 : AS X x st s) : AS X x st (sFrzM i s) := L2.PS.imp h1 fun D σ H z => frzM_read z
end
/-- a slot's int, as a measure -/
def natOf (i : Nat) (fr : Fr) : Nat := match fr.vars[i]? with
  | some (some (.dat (.int n))) => n.natAbs
  | _ => 0
theorem room65 {k : Nat} {A : Around} (r : Room k A) : A.units + 65 < cLine := by have := r.un; omega
theorem nc_nil : ∀ fr as fr', xNil fr = .ok as fr' → as.length = 0 := fun fr as fr' h => by cases h; rfl
theorem nc_cons {f : Fr → Res AV} {gs : Fr → Res (List AV)} {n : Nat} (h : ∀ fr as fr', gs fr = .ok as fr' → as.length = n) : ∀ fr as fr', xCons f gs fr = .ok as fr' → as.length = n + 1 := fun fr as fr' e => by
  unfold xCons at e
  cases q : f fr with
  | ok av fr1 =>
    rw [q] at e
    have e' : (gs fr1).bind (fun as fr2 => Res.ok (av :: as) fr2) = .ok as fr' := e
    cases q2 : gs fr1 with
    | ok bs fr2 =>
      rw [q2] at e'
      have e2 : Res.ok (av :: bs) fr2 = Res.ok as fr' := e'
      injection e2 with e3 _
      subst e3
      simp [h _ _ _ q2]
    | exc cl fs fr2 => rw [q2] at e'; cases e'
    | err => rw [q2] at e'; cases e'
  | exc cl fs fr1 => rw [q] at e; cases e
  | err => rw [q] at e; cases e
@[simp] def sWh (t : Fr → Res Bool) (b : Fr → SRes) (m : Fr → Nat) : Fr → SRes := fun fr => whA t b (m fr) fr
abbrev C0 : CExc := fun _ _ _ _ _ => False
theorem boot_len' : bootBuiltins "len" = some (.builtin "len") := by kernel_rfl
theorem boot_abs' : bootBuiltins "abs" = some (.builtin "abs") := by kernel_rfl
theorem boot_sorted' : bootBuiltins "sorted" = some (.builtin "sorted") := by kernel_rfl
theorem boot_int' : bootBuiltins "int" = some (.type "int") := by kernel_rfl
theorem boot_bool' : bootBuiltins "bool" = some (.type "bool") := by kernel_rfl
theorem boot_list' : bootBuiltins "list" = some (.type "list") := by kernel_rfl
theorem boot_tuple' : bootBuiltins "tuple" = some (.type "tuple") := by kernel_rfl
theorem boot_dict' : bootBuiltins "dict" = some (.type "dict") := by kernel_rfl
end G
namespace G
open PySem PySem.Spec PyProof.Rows L2
section
variable {X : Cx} {x : XW} {a b d : Expr} {f g h : Fr → Res AV} {pos : Pos}
@[simp] def xListF (f : Fr → Res AV) : Fr → Res AV := fun fr => (f fr).bind fun a fr1 => match fr1.view a with
  | some y => (match seqD y with
    | some (_, ys) => .ok (.cel fr1.cells.length) (fr1.newc (.lst ys))
    | none => .err)
  | none => .err
def rListF (K : PySem.W.Frag) : List V → Hp → VK → Prop := fun vs H Q => ∃ (l : Addr) (b : Bool) (xs : List V), vs = [.ref l] ∧ SqB K b H l xs ∧ ∀ p, H p = none → Q (.ref p) (upd H p (.lst xs))
theorem c_listF : CallR X (.type "list") (rListF X.K) := by
  intro pins s σ H xs us Q I rx hh
  obtain ⟨l, b, ys, rfl, h1, q⟩ := hh
  cases b with
  | true => exact call_list_of pins s σ H _ us Q I rx ⟨l, ys, rfl, .inl h1, q⟩
  | false => exact call_list_of pins s σ H _ us Q I rx ⟨l, ys, rfl, .inr h1, q⟩
theorem ae_listF {p1 : Pos} (hg : Gl X "list") (hm : X.mg "list" = none) (ha : AE X x a f) (he : starEach [a] X.env = (false, eval a X.env) :: starEach [] X.env := by rfl) (hpl : (backTo pos (starEach [] X.env)).any (·.1) = false := by rfl) :
    AE X x (.Call (.Name "list" p1) [a] [] pos) (xListF f) := by
  refine (pe_callTy c_listF hg hm boot_list' (pa_cons ha pa_nil he) (by decide) (by decide) he hpl).imp fun σ H Q ⟨c, fr, ad, F, o⟩ => ?_
  refine ⟨c, fr, ad, F, (Out.bind F o).mono fun av fr1 ad1 H1 F1 m1 o1 v rv => ?_⟩
  cases q1 : fr1.view av with
  | none => rw [q1] at o1; exact o1.elim
  | some y =>
    rw [q1] at o1
    simp only at o1
    cases q2 : seqD y with
    | none => rw [q2] at o1; exact o1.elim
    | some z =>
      obtain ⟨b, ys⟩ := z
      rw [q2] at o1
      obtain ⟨l, xs, rfl, h1, h2, hz⟩ := seqB_rep (view_rep F1 rv q1) q2
      refine ⟨l, b, xs, rfl, h1, fun p hp => ?_⟩
      have F2 := F1.newc (o := .lst xs) (cl := .lst ys) hp fun ok hok => ⟨xs, upd_same, hz, h2.keep ⟨fun b u h1 h2 => ⟨hok b u h1 h2, fun _ => Grow.new hp b u h2⟩, (Grow.new hp).keep (ok := okP c ad1) |>.t⟩⟩
      exact o1 _ _ F2 (mv_new hp) _ (newc_at (cl := .gone) F1)
end
end G
namespace G
open PySem PySem.Spec PyProof.Rows L2
@[simp] def xErr : Fr → Res AV := fun _ => .err
@[simp] def sErr : Fr → SRes := fun _ => .err
section
variable {X : Cx} {x : XW} {a b d : Expr} {f g h : Fr → Res AV} {pos : Pos} {st : Stmt}
theorem as_err : AS X x st sErr := ⟨fun pins s σ H D I ⟨_, _, _, _, o⟩ => o.elim⟩
/-- a tuple of the module -/
theorem ae_gtup {n : Str} {l : Addr} {vs : List V} {ds : List PyData} (hg : Gl X n) (hm : X.mg n = some (.ref l)) (ht : ∀ H, SqT X.K H l vs) (hr : ∀ H ok, RepL X.K H ok vs ds) (hz : ds.length ≤ 1000 := by decide) (hb : hdB vs = true := by rfl) (hd : (n == ("__debug__" : Str)) = false := by decide) : AE X x (.Name n pos) (xC (.tuple ds)) :=
  (pe_glob (v := .ref l) hg hm rfl hd).imp fun σ H Q ⟨c, fr, ad, F, o⟩ => o ad H F Mv.refl _ (.tup (.pair (ht H) hb) (by rw [sizeLine_eq]; omega) (hr H _))
def pairsD : List PyData → Option (List (PyData × PyData))
  | [] => some []
  | .tuple [k, v] :: ds => if kOk false k = true then (match pairsD ds with
    | some r => some ((k, v) :: r)
    | none => none) else none
  | _ :: _ => none
def mergeD : List (PyData × PyData) → List (PyData × PyData) → List (PyData × PyData)
  | acc, [] => acc
  | acc, q :: r => mergeD (kput acc q.1 q.2) r
theorem pairs_rep {K : PySem.W.Frag} {H : Hp} {ok : Addr → Prop} : ∀ {ds : List PyData} {vs : List V} {kvs : List (PyData × PyData)}, RepL K H ok vs ds → pairsD ds = some kvs →
    ∃ (ps : List Addr) (ks : List (Key × V)), vs = ps.map V.ref ∧ Paired (fun p kv => SqT K H p [kV kv.1, kv.2]) ps ks ∧ Paired (fun (x : Key × V) (q : PyData × PyData) => q.1 = keyD x.1 ∧ keyS x.1 ∧ Rep K H ok x.2 q.2) ks kvs
  | [], _, _, .nil, e => by cases e; exact ⟨[], [], rfl, .nil, .nil⟩
  | d :: ds, _, kvs, .cons r rs, e => by
    unfold pairsD at e
    split at e
    · rename_i z; cases z
    · rename_i k v ds' h
      cases h
      split at e
      rotate_left
      · cases e
      rename_i hk
      cases q : pairsD ds with
      | none => rw [q] at e; cases e
      | some r2 =>
        rw [q] at e
        cases e
        obtain ⟨ps, ks, h1, h2, h3⟩ := pairs_rep rs q
        obtain ⟨l, xs, rfl, g1, _, g2⟩ := RepB.tuple (.inl r)
        cases g2 with
        | cons rk g2 =>
          cases g2 with
          | cons rv g2 =>
            cases g2
            obtain ⟨n, rfl⟩ := kOk_f hk
            obtain ⟨z1, z2⟩ : _ = kV n ∧ keyS n := by
              cases n with
              | inl i => exact ⟨RepB.int (.inl rk), trivial⟩
              | inr x => exact ⟨(RepB.str (.inl rk)).1, (RepB.str (.inl rk)).2⟩
            subst z1
            exact ⟨l :: ps, (n, _) :: ks, by rw [h1]; rfl, .cons g1 h2, .cons ⟨rfl, z2, rv⟩ h3⟩
    · cases e
theorem merge_rep {p : Par} {H : Hp} {ok : Addr → Prop} : ∀ {ks acc : List (Key × V)} {kvs kacc : List (PyData × PyData)}, Paired (PrF p H ok) ks kvs → Paired (PrF p H ok) acc kacc → Paired (PrF p H ok) (mergeK acc ks) (mergeD kacc kvs)
  | [], _, _, _, .nil, h => h
  | x :: ks, acc, _, kacc, .cons (b := q) r rs, h => by
    obtain ⟨r1, r2, r3⟩ := r
    show Paired _ (mergeK (putK acc x.1 x.2) ks) (mergeD (kput kacc q.1 q.2) _)
    rw [r1]
    exact merge_rep rs (put_f h r2 r3)
@[simp] def xDictF (f : Fr → Res AV) : Fr → Res AV := fun fr => (f fr).bind fun a fr1 => match fr1.view a with
  | some (.list ds) => (match pairsD ds with
    | some kvs => .ok (.cel fr1.cells.length) (fr1.newc (.dct false (mergeD [] kvs)))
    | none => .err)
  | some (.tuple ds) => (match pairsD ds with
    | some kvs => .ok (.cel fr1.cells.length) (fr1.newc (.dct false (mergeD [] kvs)))
    | none => .err)
  | _ => .err
/-- dict(list or tuple of pairs) -/
theorem call_dictLT (hcalm : X.calm = true) : CallR X (.type "dict") (fun xs H Q => ∃ (a : Addr) (ps : List Addr) (kvs : List (Key × V)), xs = [.ref a] ∧ (SqL X.K H a (ps.map V.ref) ∨ BrT X.K H a (ps.map V.ref)) ∧ Paired (fun p kv => SqT X.K H p [kV kv.1, kv.2]) ps kvs ∧
    ∀ p, H p = none → Q (.ref p) (upd H p (.dK (mergeK [] kvs)))) := by
  intro pins s σ H xs us Q I r ⟨a, ps, kvs, e, h, hp, q⟩
  rcases h with h | h
  · exact call_dictP hcalm pins s σ H xs us Q I r ⟨a, ps, kvs, e, h, hp, q⟩
  · exact call_dictT hcalm pins s σ H xs us Q I r ⟨a, ps, kvs, e, h, hp, q⟩
theorem ae_dictF {p1 : Pos} (hc : X.calm = true) (hg : Gl X "dict") (hm : X.mg "dict" = none) (ha : AE X x a f) (he : starEach [a] X.env = (false, eval a X.env) :: starEach [] X.env := by rfl) (hpl : (backTo pos (starEach [] X.env)).any (·.1) = false := by rfl) :
    AE X x (.Call (.Name "dict" p1) [a] [] pos) (xDictF f) := by
  refine (pe_callTy (call_dictLT hc) hg hm boot_dict' (pa_cons ha pa_nil he) (by decide) (by decide) he hpl).imp fun σ H Q ⟨c, fr, ad, F, o⟩ => ?_
  refine ⟨c, fr, ad, F, (Out.bind F o).mono fun av fr1 ad1 H1 F1 m1 o1 v rv => ?_⟩
  have fin : ∀ (ds : List PyData) (l : Addr) (xs : List V), v = .ref l → (SqL X.K H1 l xs ∨ SqU X.K H1 l xs) → RepL X.K H1 (okP c ad1) xs ds →
      Out (pX X) x c ad1 σ H1 (match pairsD ds with
    | some kvs => .ok (.cel fr1.cells.length) (fr1.newc (.dct false (mergeD [] kvs)))
    | none => .err) (fun a _ ad' H' => ∀ v, RepA (pX X) H' (okP c ad') ad' v a → Q v H') →
      ∃ (a : Addr) (ps : List Addr) (kvs : List (Key × V)), [v] = [.ref a] ∧ (SqL X.K H1 a (ps.map V.ref) ∨ BrT X.K H1 a (ps.map V.ref)) ∧ Paired (fun p kv => SqT X.K H1 p [kV kv.1, kv.2]) ps kvs ∧ ∀ p, H1 p = none → Q (.ref p) (upd H1 p (.dK (mergeK [] kvs))) := by
    intro ds l xs ev h1 h2 o1
    subst ev
    cases q2 : pairsD ds with
    | none => rw [q2] at o1; exact o1.elim
    | some kvs =>
      rw [q2] at o1
      obtain ⟨ps, ks, rfl, g1, g2⟩ := pairs_rep h2 q2
      refine ⟨l, ps, ks, rfl, h1.imp id fun u => u.tb.elim (fun z => absurd z (by cases ps <;> simp [hdB])) id, g1, fun p hp => ?_⟩
      have F2 := F1.newc (o := .dK (mergeK [] ks)) (cl := .dct false (mergeD [] kvs)) hp fun ok hok => ⟨_, upd_same, Paired.mapP (merge_rep (p := pX X) (H := H1) (ok := okP c ad1) g2 .nil) fun _ _ ⟨z1, z2, z3⟩ => ⟨z1, z2, z3.keep ⟨fun b u h1 h2 => ⟨hok b u h1 h2, fun _ => Grow.new hp b u h2⟩, (Grow.new hp).keep (ok := okP c ad1) |>.t⟩⟩⟩
      exact o1 _ _ F2 (mv_new hp) _ (newc_at (cl := .gone) F1)
  cases q1 : fr1.view av with
  | none => rw [q1] at o1; exact o1.elim
  | some y =>
    rw [q1] at o1
    cases y with
    | list ds =>
      obtain ⟨l, xs, e, h1, hz, h2⟩ := (view_rep F1 rv q1).list
      exact fin ds l xs e (.inl h1) h2 o1
    | tuple ds =>
      obtain ⟨l, xs, e, h1, hz, h2⟩ := (view_rep F1 rv q1).tupleB
      exact fin ds l xs e (.inr h1) h2 o1
    | _ => exact o1.elim
end
end G
namespace G
open PySem PySem.Spec PyProof.Rows L2
def deqB (kvs kls : List (PyData × PyData)) : Bool := kvs.length == kls.length && kvs.all fun q => match kfind kls q.1 with
  | some y => PyData.eqv q.2 y
  | none => false
def deqOk (kvs : List (PyData × PyData)) : Bool := kvs.all fun q => decide (q.2.depth ≤ 32)
@[simp] def xDEq (neg : Bool) (f g : Fr → Res AV) : Fr → Res AV := fun fr => (f fr).bind fun a fr1 => (g fr1).bind fun b fr2 => match fr2.dview a, fr2.dview b with
  | some (false, kvs), some (false, kls) => if deqOk kvs = true then .ok (.dat (.bool (if neg = true then !deqB kvs kls else deqB kvs kls))) fr2 else .err
  | _, _ => .err
end G
namespace G
open PySem PySem.Spec PyProof.Rows L2
section
variable {p : Par} {c : Ent} {fr : Fr} {ad : List (Option Addr)} {σ : L2.St} {H : Hp}
theorem okP_adopt {D : Addr} : ∀ a, okP (c.hold D) ad a → okP c (ad ++ [some D]) a := fun a h => by
  refine ⟨⟨h.1.1, fun z => h.1.2 (List.mem_cons_of_mem _ z)⟩, fun m => ?_⟩
  rcases List.mem_append.mp m with m | m
  · exact h.2 m
  · have e : a = D := by simpa using m
    exact h.1.2 (by rw [e]; exact List.mem_cons_self ..)
/-- what was protected becomes a cell -/
theorem FR.adopt {D : Addr} {cl : Cell} (F : FR p (c.hold D) fr ad σ H) (hDe : c.He D = none) (hDp : D ∉ c.prot) (q : CellAt p H (okP (c.hold D) ad) (rfA c.lo ad ad.length) D cl) : FR p c (fr.newc cl) (ad ++ [some D]) σ H := by
  obtain ⟨nD, ob, eD⟩ := F.pr D (List.mem_cons_self ..)
  have rep : ∀ {v : V} {av : AV}, RepA p H (okP (c.hold D) ad) ad v av → RepA p H (okP c (ad ++ [some D])) (ad ++ [some D]) v av := fun {v av} r => by
    cases av with
    | dat y => exact Rep.mono okP_adopt r
    | dct tp kvs =>
      obtain ⟨b, e, h1, h2⟩ := r
      exact ⟨b, e, okP_adopt b h1, h2.mono okP_adopt⟩
    | cel i =>
      obtain ⟨b, e, h1⟩ := r
      exact ⟨b, e, snoc_pre h1⟩
    | brd rms cks i =>
      obtain ⟨b, u, e, h1, h2, h3⟩ := r
      exact ⟨b, u, e, okP_adopt b h1, h2.mono okP_adopt, snoc_pre h3⟩
    | scr ns => exact r
    | fn n _ => exact r
    | pin φ => obtain ⟨b, e, h1, h2⟩ := r; exact ⟨b, e, okP_adopt b h1, h2⟩
  refine ⟨F.len, fun i av e => ?_, by simp [Fr.newc, F.clen], fun i a e => ?_, fun i j a e1 e2 => ?_, F.old, fun i a e => snoc_pre (F.sub i a e), fun a h => ?_, fun g hg => ⟨(F.gh g hg).1, rep (F.gh g hg).2⟩, fun a ha => ?_, F.bs, F.tabs.adopt⟩
  · obtain ⟨v, h1, h2⟩ := F.var i av e
    exact ⟨v, h1, rep h2⟩
  · rcases snoc_at e with e | ⟨hi, e⟩
    · obtain ⟨cl', h1, h2⟩ := F.cel i a e
      exact ⟨cl', snoc_pre h1, CellAt.rfm (rfA_pre fun k b _ z => snoc_pre z) (h2.mono okP_adopt)⟩
    · have e' : a = D := by simpa using e
      subst e'
      refine ⟨cl, ?_, CellAt.rfm (by rw [hi]; exact rfA_pre fun k b _ z => snoc_pre z) (q.mono okP_adopt)⟩
      show (fr.cells ++ [cl])[i]? = some cl
      rw [hi, ← F.clen]; simp
  · rcases snoc_at e1 with k1 | ⟨h1, k1⟩
    · rcases snoc_at e2 with k2 | ⟨h2, k2⟩
      · exact F.nd i j a k1 k2
      · have e' : a = D := by simpa using k2
        exact absurd (List.mem_of_getElem? k1) (by rw [e']; exact nD)
    · rcases snoc_at e2 with k2 | ⟨h2, k2⟩
      · have e' : a = D := by simpa using k1
        exact absurd (List.mem_of_getElem? k2) (by rw [e']; exact nD)
      · rw [h1, h2]
  · rcases List.mem_append.mp h with h | h
    · exact F.adw a h
    · have e : a = D := by simpa using h
      exact .inr (by rw [e]; exact hDe)
  · obtain ⟨h1, o, h2⟩ := F.pr a (List.mem_cons_of_mem _ ha)
    refine ⟨fun m => ?_, o, h2⟩
    rcases List.mem_append.mp m with m | m
    · exact h1 m
    · have e : a = D := by simpa using m
      exact hDp (by rw [← e]; exact ha)
end
def compD (own : List Nat) (g : Tg) (t : Fr → Res Bool) (fk fv : Fr → Res AV) (vars : List (Option AV)) (bs : Nat) : List PyData → List (PyData × PyData) → List Cell → Option (List (PyData × PyData) × List Cell)
  | [], acc, cs => some (acc, cs)
  | y :: ys, acc, cs => match g y ⟨kill own vars, cs, bs⟩ with
    | some fr1 => (match t fr1 with
      | .ok b fr2 => if b = true then (match fk fr2 with
        | .ok (.dat k) fr3 => (match fv fr3 with
          | .ok (.dat v) fr4 => if kOk false k = true ∧ acc.length < 1000000 then compD own g t fk fv vars bs ys (kput acc k v) fr4.cells else none
          | _ => none)
        | _ => none) else compD own g t fk fv vars bs ys acc fr2.cells
      | _ => none)
    | none => none
@[simp] def xDComp (own : List Nat) (e : Fr → Res (List PyData)) (g : Tg) (t : Fr → Res Bool) (fk fv : Fr → Res AV) : Fr → Res AV := fun fr => (e fr).bind fun ys fr1 => match compD own g t fk fv fr1.vars fr1.base ys [] fr1.cells with
  | some (acc, cs) => .ok (.dct false acc) ⟨fr1.vars, cs, fr1.base⟩
  | none => .err
@[simp] def xDCompF (own : List Nat) (e : Fr → Res (List PyData)) (g : Tg) (t : Fr → Res Bool) (fk fv : Fr → Res AV) : Fr → Res AV := fun fr => (e fr).bind fun ys fr1 => match compD own g t fk fv fr1.vars fr1.base ys [] fr1.cells with
  | some (acc, cs) => .ok (.cel cs.length) ((⟨fr1.vars, cs, fr1.base⟩ : Fr).newc (.dct false acc))
  | none => .err
end G
namespace G
open PySem PySem.Spec PyProof.Rows L2
@[simp] def xCompF (own : List Nat) (e : Fr → Res (List PyData)) (g : Tg) (t : Fr → Res Bool) (f : Fr → Res AV) : Fr → Res AV := fun fr => (e fr).bind fun ys fr1 => if ys.length ≤ 1000000 then (match compA own g t f fr1.vars fr1.base ys [] fr1.cells with
  | some (acc, cs) => .ok (.cel cs.length) ((⟨fr1.vars, cs, fr1.base⟩ : Fr).newc (.lst acc))
  | none => .err) else .err
@[simp] def xApp (g1 g2 : Fr → Res (List AV)) : Fr → Res (List AV) := fun fr => (g1 fr).bind fun as fr1 => (g2 fr1).bind fun bs fr2 => .ok (as ++ bs) fr2
@[simp] def noExc (m : AFun) : AFun := fun as cs => match m as cs with
  | .ok r cs' => .ok r cs'
  | _ => .err
end G
namespace G
open PySem PySem.Spec PyProof.Rows L2
@[simp] def xDisp1 (fk fv : Fr → Res AV) : Fr → Res AV := fun fr => (fk fr).bind fun a fr1 => (fv fr1).bind fun b fr2 => match a, b with
  | .dat k, .dat v => if kOk false k = true then .ok (.dct false [(k, v)]) fr2 else .err
  | _, _ => .err
@[simp] def xDisp1F (fk fv : Fr → Res AV) : Fr → Res AV := fun fr => (fk fr).bind fun a fr1 => (fv fr1).bind fun b fr2 => match a, b with
  | .dat k, .dat v => if kOk false k = true then .ok (.cel fr2.cells.length) (fr2.newc (.dct false [(k, v)])) else .err
  | _, _ => .err
end G
namespace G
open PySem PySem.Spec PyProof.Rows L2
/-- the signs of a text -/
def signs (s : Str) : List PyData := s.cps.toList.map fun c => .str ⟨#[c]⟩
@[simp] def xSigns (f : Fr → Res AV) : Fr → Res (List PyData) := fun fr => (f fr).bind fun a fr1 => match a with
  | .dat (.str s) => .ok (signs s) fr1
  | _ => .err
end G
namespace G
open PySem PySem.Spec PyProof.Rows L2
/-- name += a new list -/
@[simp] def sExt (i : Nat) (f : Fr → Res AV) : Fr → SRes := fun fr => match fr.vars[i]? with
  | some (some (.cel k)) => (match fr.cells[k]? with
    | some (.lst _) => (f fr).toS fun a fr1 => (match a with
      | .cel j => (match fr1.cells[k]?, fr1.cells[j]? with
        | some (.lst xs), some (.lst zs) => if xs.length + zs.length ≤ 1000000 then .nx (((fr1.putc k (.lst (xs ++ zs))).setv i (some (.cel k))).gc) else .err
        | _, _ => .err)
      | _ => .err)
    | _ => .err)
  | _ => .err
end G
namespace G
open PySem PySem.Spec PyProof.Rows L2
def leafK : NestedKey → Bool
  | .tup _ => false
  | _ => true
def flatK : NestedKey → Bool
  | .tup ks => ks.all leafK
  | _ => false
def FlatAt (h : Heap) (k : NestedKey) (b : Addr) : Prop := NestedIs h k (.ref b) ∧ flatK k = true
def noRefV (v : Value) : Prop := ∀ a, v ≠ .ref a
theorem leaf_noref {h : Heap} : ∀ {ks : List NestedKey} {vs : List Value}, NestedAll h ks vs → ks.all leafK = true → ∀ v ∈ vs, noRefV v
  | _, _, .nil, _ => fun v hv => nomatch hv
  | k :: ks, _, .cons (v := v) (vs := vs) q qs, hl => fun u hu => by
    rw [List.all_cons, Bool.and_eq_true] at hl
    rcases List.mem_cons.mp hu with e | hu
    · subst e
      intro a e
      subst e
      cases q with
      | tup _ _ _ _ => cases hl.1
    · exact leaf_noref qs hl.2 u hu
theorem FlatAt.obj {h : Heap} {k : NestedKey} {b : Addr} (x : FlatAt h k b) : ∃ o vs n, h.get? b = some o ∧ o.cls = .type "tuple" ∧ o.data = .seq vs n ∧ ∀ v ∈ vs.toList, noRefV v := by
  obtain ⟨q, f⟩ := x
  cases q with
  | tup e1 e2 e3 e4 => exact ⟨_, _, _, e1, e2, e3, leaf_noref e4 f⟩
theorem FlatAt.keep {h h' : Heap} {k : NestedKey} {b : Addr} (x : FlatAt h k b) (hk : ∀ c o, h.get? c = some o → h'.get? c = some o) : FlatAt h' k b := ⟨x.1.at fun _ _ _ _ e _ => hk _ _ e, x.2⟩
end G
namespace G
open PySem PySem.Spec PyProof.Rows L2
@[simp] def sAppE (f g : Fr → Res AV) : Fr → SRes := fun fr => (f fr).toS fun a fr0 => match a with
  | .cel k => (match fr0.cells[k]? with
    | some (.lst _) => (g fr0).toS fun b fr1 => (match b, fr1.cells[k]? with
      | .dat y, some (.lst xs) => if xs.length < 1000000 then .nx (fr1.putc k (.lst (xs ++ [y]))).gc else .err
      | _, _ => .err)
    | _ => .err)
  | _ => .err
variable {X : Cx} {x : XW} {e a : Expr} {f g : Fr → Res AV} {pos : Pos}
end G
namespace G
open PySem PySem.Spec PyProof.Rows L2
section
variable {p : Par} {c : Ent} {fr fr2 : Fr} {ad ad2 : List (Option Addr)} {σ σ2 : L2.St} {H H' : Hp}
/-- no lists within, or nothing -/
def noLG : Cell → Bool
  | .gone => true
  | cl => noLC cl
end
/-- a test with a cell read as data -/
@[simp] def xLendT (i : Nat) (t : Fr → Res Bool) : Fr → Res Bool := fun fr => match fr.vars[i]? with
  | some (some (.cel k)) => (match fr.cells[k]? with
    | some cl => (match fr.frz k with
      | some fr1 => (match t fr1 with
        | .ok b fr2 => if fr2.cells.all noLG = true then .ok b ⟨fr.vars, fr2.cells.set k cl, fr.base⟩ else .err
        | _ => .err)
      | none => .err)
    | none => .err)
  | _ => t fr
/-- a value without lists -/
@[simp] def xLendV (i : Nat) (f : Fr → Res AV) : Fr → Res AV := fun fr => match fr.vars[i]? with
  | some (some (.cel k)) => (match fr.cells[k]? with
    | some cl => (match fr.frz k with
      | some fr1 => (match f fr1 with
        | .ok (.dat y) fr2 => if fr2.cells.all noLG = true ∧ noL y = true then .ok (.dat y) ⟨fr.vars, fr2.cells.set k cl, fr.base⟩ else .err
        | _ => .err)
      | none => .err)
    | none => .err)
  | _ => f fr
end G
namespace G
open PySem PySem.Spec PyProof.Rows L2
def DkOf (H : Hp) (l : Addr) (ks : List (Key × V)) : Prop := H l = some (.dK ks) ∨ ∃ o, H l = some (.frz o (.dK ks))
structure Sw (H H' : Hp) (l : Addr) (ks : List (Key × V)) : Prop where
  ne : ∀ b, b ≠ l → H' b = H b
  h : DkOf H l ks
  h' : DkOf H' l ks
section
variable {H H' : Hp} {l : Addr} {ks : List (Key × V)} {ok : Addr → Prop} {K : PySem.W.Frag} {p : Par}
theorem Sw.off (s : Sw H H' l ks) {a : Addr} {o : HO} (e : H a = some o) (h1 : o ≠ .dK ks) (h2 : ∀ u, o ≠ .frz u (.dK ks)) : H' a = some o := by
  rw [s.ne a ?_]
  · exact e
  · intro z
    subst z
    rcases s.h with z | ⟨u, z⟩
    · rw [z] at e; exact h1 (Option.some.inj e).symm
    · rw [z] at e; exact h2 u (Option.some.inj e).symm
theorem Sw.tup (s : Sw H H' l ks) {a : Addr} {xs : List V} (r : Rd H a (.tup xs)) : Rd H' a (.tup xs) := by
  rcases r with r | ⟨o, r⟩
  · exact .inl (s.off r (fun z => nomatch z) fun _ z => nomatch z)
  · exact .inr ⟨o, s.off r (fun z => nomatch z) fun _ z => nomatch z⟩
theorem Sw.sqt (s : Sw H H' l ks) {a : Addr} {xs : List V} (r : SqT K H a xs) : SqT K H' a xs := by
  rcases r with r | r
  · exact .inl (s.tup r)
  · exact .inr r
theorem Sw.squ (s : Sw H H' l ks) {a : Addr} {xs : List V} (r : SqU K H a xs) : SqU K H' a xs := ⟨s.sqt r.sq, r.tb.imp id fun b => b.imp (fun ⟨o, h1, h2⟩ => ⟨o, h1, s.off h2 (fun z => nomatch z) fun _ z => nomatch z⟩) id⟩
end
section
variable {H H' : Hp} {l : Addr} {ks : List (Key × V)} {K : PySem.W.Frag}
/-- what changes at l alone, no table, no code object -/
theorem TabF.at {H0 H H' : Hp} {l : Addr} {o0 : HO} {ad : List (Option Addr)} (t : TabF K H0 H ad) (ne : ∀ b, b ≠ l → H' b = H b) (e : H l = some o0) (n : nt o0) (nc : ∀ φ, o0 ≠ .ext φ) : TabF K H0 H' ad := fun q hq => by
  obtain ⟨ps, h1, h2, h3⟩ := t q hq
  refine ⟨ps, ?_, h2, fun pos cv hc => ?_⟩
  · rw [ne]
    · exact h1
    · intro z
      rw [z, e] at h1
      rw [Option.some.inj h1] at n
      exact n
  · obtain ⟨c, e2, h4, h5, h6⟩ := h3 pos cv hc
    refine ⟨c, e2, ?_, h5, h6⟩
    rw [ne _ (ne_code e nc _ _ h4)]
    exact h4
theorem Sw.tabs (s : Sw H H' l ks) {H0 : Hp} {ad : List (Option Addr)} (t : TabF K H0 H ad) : TabF K H0 H' ad := by
  rcases s.h with z | ⟨u, z⟩
  · exact t.at s.ne z trivial fun _ z => nomatch z
  · exact t.at s.ne z trivial fun _ z => nomatch z
theorem TabF.he {H0 H0' H : Hp} {l : Addr} {o0 : HO} {ad : List (Option Addr)} (t : TabF K H0 H ad) (ne : ∀ b, b ≠ l → H0' b = H0 b) (e : H l = some o0) (n : nt o0) (nc : ∀ φ, o0 ≠ .ext φ) : TabF K H0' H ad := fun q hq => by
  obtain ⟨ps, h1, h2, h3⟩ := t q hq
  refine ⟨ps, h1, h2, fun pos cv hc => ?_⟩
  obtain ⟨c, e2, h4, h5, h6⟩ := h3 pos cv hc
  have n1 : c ≠ l := ne_code e nc _ _ h4
  have n2 : q.1 ≠ l := fun z => by
    rw [z, e] at h1
    rw [Option.some.inj h1] at n
    exact n
  exact ⟨c, e2, h4, h5, by rw [ne _ n1, ne _ n2]; exact h6⟩
theorem DkOf.tb (h : DkOf H l ks) {H0 H0' : Hp} {ad : List (Option Addr)} (t : TabF K H0 H ad) (ne : ∀ b, b ≠ l → H0' b = H0 b) : TabF K H0' H ad := by
  rcases h with z | ⟨u, z⟩
  · exact t.he ne z trivial fun _ z => nomatch z
  · exact t.he ne z trivial fun _ z => nomatch z
end
/-- no exception within -/
@[simp] def noX : SRes → SRes
  | .exc _ _ _ => .err
  | r => r
@[simp] def sForK (f : Fr → Res AV) (g : Tg) (b : Fr → SRes) : Fr → SRes := fun fr => (f fr).toS fun a fr1 => match a with
  | .dct false kvs => forA g (fun fr => noX (b fr)) (kvs.map (·.1)) fr1
  | _ => .err
@[simp] def sForI (f : Fr → Res AV) (g : Tg) (b : Fr → SRes) : Fr → SRes := fun fr => (f fr).toS fun a fr1 => match a with
  | .dct false kvs => forA g (fun fr => noX (b fr)) (itemsD kvs) fr1
  | _ => .err
end G
namespace G
open PySem PySem.Spec PyProof.Rows L2
structure FnG (P : Program) (w : World) (K : PySem.W.Frag) (mg : Str → Option Value) (base : Heap) (CX : CXT) (k : Nat) (f : Addr) (fd : FuncData) (ps : List Str) (sp : Sp) : Prop where
  len : ∀ xs H Q E, sp xs H Q E → xs.length = ps.length
  run : ∀ (B : Around) (o1 : List Env) (s : Shared) (H : Hp) (g : Args) (us : List Value) (xs : List V) (Q : VK) (E : XK), B.guards = some [] → Room k B → Env0 P w K mg base B o1 s H → BindsTo s fd g (ps.zip us) → Vals xs us → sp xs H Q E →
    codeAny (model P w) B (.call (.ref f) g) (CR CX o1 P w H s Q E) s
end G
namespace G
open PySem PySem.Spec PyProof.Rows L2
@[simp] def xCatF (f g : Fr → Res AV) : Fr → Res AV := fun fr => (f fr).bind fun a fr1 => (g fr1).bind fun b fr2 => match fr2.view a, fr2.view b with
  | some (.list xs), some (.list ys) => if xs.length + ys.length ≤ 1000000 then .ok (.cel fr2.cells.length) (fr2.newc (.lst (xs ++ ys))) else .err
  | _, _ => .err
end G
namespace G
open PySem PySem.Spec PyProof.Rows L2
mutual
/-- what holds no list leans on nobody's leave -/
theorem Rep.free {K : PySem.W.Frag} {H : Hp} {ok ok' : Addr → Prop} : ∀ {v : V} {y : PyData}, noL y = true → Rep K H ok v y → Rep K H ok' v y
  | _, _, _, .non => .non
  | _, _, _, .bl b => .bl b
  | _, _, _, .int i => .int i
  | _, _, _, .str z h => .str z h
  | _, _, n, .lst _ _ _ _ => by simp [noL] at n
  | _, _, n, .tup r l rs => .tup r l (RepL.free (by simpa [noL] using n) rs)
theorem RepL.free {K : PySem.W.Frag} {H : Hp} {ok ok' : Addr → Prop} : ∀ {vs : List V} {ys : List PyData}, noLs ys = true → RepL K H ok vs ys → RepL K H ok' vs ys
  | _, _, _, .nil => .nil
  | _, _, n, .cons r rs => by
    simp only [noLs, Bool.and_eq_true] at n
    exact .cons (Rep.free n.1 r) (RepL.free n.2 rs)
end
@[simp] def sRaise (cl : Str) (fields : List Str) (gs : Fr → Res (List AV)) : Fr → SRes := fun fr => (gs fr).toS fun as fr1 => match dats as with
  | some xs => if xs.length = fields.length ∧ noLs xs = true then .exc cl (fields.zip xs) fr1 else .err
  | none => .err
end G
namespace G
open PySem PySem.Spec PyProof.Rows L2
structure Hd where
  /-- the classes that it takes, of those that may come -/
  cs : List Str
  su : List (Str × PyData) → Fr → SRes
@[simp] def tryH : List Hd → Str → List (Str × PyData) → Fr → SRes
  | [], cl, fs, f => .exc cl fs f
  | h :: r, cl, fs, f => if h.cs.contains cl = true then noX (h.su fs f) else tryH r cl fs f
@[simp] def sTry (names : List Str) (b : Fr → SRes) (hs : List Hd) : Fr → SRes := fun fr => match b fr with
  | .exc cl fs f => if names.contains cl = true then tryH hs cl fs f else .err
  | .nx f => .nx f
  | .ret a f => .ret a f
  | .bk f => .bk f
  | .ct f => .ct f
  | .err => .err
inductive El where
  | c (y : PyData)
  | f (n : Str)
@[simp] def El.at (fs : List (Str × PyData)) : El → Option PyData
  | .c y => some y
  | .f n => fs.lookup n
@[simp] def elsAt (fs : List (Str × PyData)) : List El → Option (List PyData)
  | [] => some []
  | e :: r => match e.at fs, elsAt fs r with
    | some y, some ys => some (y :: ys)
    | _, _ => none
inductive Sx where
  | el (e : El)
  | tup (es : List El)
  | lst (es : List El)
@[simp] def Sx.at (fs : List (Str × PyData)) : Sx → Option PyData
  | .el e => e.at fs
  | .tup es => (elsAt fs es).map .tuple
  | .lst es => (elsAt fs es).map .list
@[simp] def killO (io : Option Nat) (fr : Fr) : Fr := match io with
  | none => fr
  | some i => fr.kill [i]
/-- name := .. of the exception's fields -/
@[simp] def hasO (io : Option Nat) (fr : Fr) : Bool := match io with
  | none => true
  | some i => (fr.vars[i]?).isSome
@[simp] def suSet (io : Option Nat) (j : Nat) (sx : Sx) : List (Str × PyData) → Fr → SRes := fun fs fr => match sx.at fs with
  | some y => if hasO io fr = true then .nx (killO io (fr.setv j (some (.dat y)))) else .err
  | none => .err
@[simp] def suCt (io : Option Nat) : List (Str × PyData) → Fr → SRes := fun _ fr => .ct (killO io fr)
section
variable {X : Cx}
variable {cl : Str} {i : Nat} {p p2 : Pos} {k : Nat} {n : Str}
/-- return of a constant -/
@[simp] def suRet (y : PyData) : List (Str × PyData) → Fr → SRes := fun _ fr => .ret (.dat y) fr
end
end G
namespace G
open PySem PySem.Spec PyProof.Rows L2
section
variable {P : Program} {w : World} {K : PySem.W.Frag} {mg : Str → Option Value} {base : Heap}
theorem spF_up {p : Par} {C : CExc} {m : AFun} {n : Nat} {vs : List V} {H : Hp} {Q : VK} {E : XK} (h : spF p C m n vs H Q E) : spF p C0 m n vs H Q E := by
  obtain ⟨h1, S, W0, as, cells, h2, h3, h4, h5, ht, h6⟩ := h
  refine ⟨h1, S, W0, as, cells, h2, h3, h4, h5, ht, ?_⟩
  cases q : m as cells with
  | ok r cs => rw [q] at h6; exact h6
  | exc cl fs cs => exact fun _ _ _ _ z => z.elim
  | err => rw [q] at h6; exact h6
theorem DefF.up {C : CExc} {k : Nat} {n : Str} {np : Nat} {m : AFun} (D : DefF P w K mg base CX0 C0 k n np m) : DefF P w K mg base CX0 C k n np m := by
  obtain ⟨f, fd, ps, F, hm, kp, b⟩ := D.ex
  exact ⟨⟨f, fd, ps, F.imp fun vs H Q E h => spF_up h, hm, kp, b⟩⟩
/-- no exception comes out -/
@[simp] def noE (m : AFun) : AFun := fun as cs => match m as cs with
  | .ok r c => .ok r c
  | _ => .err
end
end G
namespace G
open PySem PySem.Spec PyProof.Rows L2
def dIdx (ds : List PyData) (d : PyData) : Option Nat := if inOk d ds = true then ds.findIdx? (fun z => PyData.eqv z d) else none
@[simp] def xIdx (i : Nat) (f : Fr → Res AV) : Fr → Res AV := fun fr => match fr.vars[i]? with
  | some (some (.cel k)) => (match fr.cells[k]? with
    | some (.lst _) => (f fr).bind fun a fr1 => (match fr1.cells[k]?, fr1.view a with
      | some (.lst ds), some d => (match dIdx ds d with
        | some j => .ok (.dat (.int (j : Nat))) fr1
        | none => .err)
      | _, _ => .err)
    | _ => .err)
  | _ => .err
def rIndexG (K : PySem.W.Frag) : V → List V → Hp → VK → Prop := fun x xs H Q => ∃ (ok : Addr → Prop) (a : Addr) (its0 : List V) (y : V) (d : PyData) (ds : List PyData) (j : Nat), x = V.ref a ∧ xs = [y] ∧ H a = some (.lst its0) ∧ RepB K H ok (.ref a) (.list ds) ∧ RepB K H ok y d ∧
  dIdx ds d = some j ∧ Q (.int (j : Nat)) H
section
variable {X : Cx}
theorem mt_indexG (hu : X.A.units + 65 < cLine) : MtR X "list.index" (rIndexG X.K) := by
  intro pins s σ H x xs v us Q I rx rxs h
  obtain ⟨ok, a, its0, y, d, ds, j, rfl, rfl, hH, hl, hy, hj0, q⟩ := h
  cases rx
  unfold dIdx at hj0
  split at hj0
  rotate_left
  · cases hj0
  rename_i hin
  obtain ⟨hjl0, hjt, hjn⟩ := List.findIdx?_eq_some_iff_getElem.mp hj0
  cases rxs with
  | cons ry rt =>
    rename_i uy ut
    cases rt
    obtain ⟨bs, r1⟩ := Dp.reads I d y uy hy.dp ry
    have hxs : PyData.canLayAll0 ds = true := hl.lay
    have hroom : X.A.units + 1 + min (PyData.depthAll ds) d.depth < cLine := in_room hin hu
    cases hl.dp with
    | lst hs ha =>
      obtain ⟨its, rv, ⟨⟨cls, dd, data, sls⟩, n, ho, hc, hdn, hdt⟩, hlen⟩ := I.list hs
      simp only at hc hdt
      subst hc hdt
      obtain ⟨as, h4⟩ := Dp.readsAll I ds _ its ha rv
      have hn : its.length = ds.length := SeqAt.ReadsAll.length ds its as h4
      have hmap : its.map (SeqAt.readOf s.heap) = ds := SeqAt.readsAll_map ds its as hxs h4
      have hvl := rv.length
      have hsl := sizeLine_eq
      have hjl : j < its.length := by omega
      have hj : j < its.toArray.size := by simpa using hjl
      have at_ : ∀ (m : Nat) (hm : m < its.toArray.size) (z' : PyData), ds[m]? = some z' → SeqAt.readOf s.heap its.toArray[m] = z' := by
        intro m hm z' hz'
        have hml : m < its.length := by simpa using hm
        rw [← hmap, List.getElem?_map, List.getElem?_eq_getElem hml] at hz'
        have e1 : SeqAt.readOf s.heap its[m] = z' := Option.some.inj (show some (SeqAt.readOf s.heap its[m]) = some z' from hz')
        simpa using e1
      refine call_meets PySem.F.slot_list_index ⟨_, ho, rfl⟩ PySem.F.entry_list_index (PySem.F.args_list_index_2 _ _)
        (SeqAt.list_indexAt a its.toArray n dd sls uy (fun u => PyData.eqv (SeqAt.readOf s.heap u) d) j hj (by omega) ?_ ?_) ⟨ho, SeqAt.items_eqAt (vs := its.toArray) (show ReadsAll s.heap its.toArray.toList ds as from h4) r1 hxs hy.lay hroom, ?_⟩
      · show PyData.eqv (SeqAt.readOf s.heap its.toArray[j]) d = true
        rw [at_ j hj _ (List.getElem?_eq_getElem hjl0)]
        exact hjt
      · intro m hm hmj
        have hmd : m < ds.length := by omega
        show PyData.eqv (SeqAt.readOf s.heap its.toArray[m]) d = false
        rw [at_ m hm _ (List.getElem?_eq_getElem hmd)]
        simpa using hjn m hmj
      · exact ⟨.int (j : Nat), H, I.tok _, ⟨_, rfl⟩, q⟩
variable {x : XW} {a b d : Expr} {f g h : Fr → Res AV} {pos : Pos}
theorem ae_index {i : Nat} {n : Str} {p1 p2 p3 : Pos} (hu : X.A.units + 65 < cLine) (hN : X.N[i]? = some n) (hv : Vis X.env.scope n) (ha : AE X x a f) (hd : (n == ("__debug__" : Str)) = false := by decide) (hcd : (n == ("__classdict__" : Str)) = false := by decide)
    (hst : starEach [a] X.env = (false, eval a X.env) :: starEach [] X.env := by rfl)
    (hfew : ((backTo p3 (starEach [a] X.env)).all (fun z => !z.1) && (backToKw p3 (keywordEach [] X.env)).all (fun z => z.1.isSome) && decide ([a].length + ([] : List Keyword).length + (if ([] : List Keyword).isEmpty then 0 else 1) < 30)) = true := by rfl)
    (hline : (p2.endLine == p3.line) = true := by rfl) : AE X x (.Call (.Attribute (.Name n p1) "index" p2) [a] [] p3) (xIdx i f) := by
  refine (pe_bm PySem.F.plainAttrs_list PySem.F.slot_list_index PySem.F.type_list_index (mt_indexG hu) (pe_var hN hv hd hcd) (pa_cons ha pa_nil hst) rfl hfew hline hst).imp fun σ H Q ⟨c, fr, ad, F, o⟩ => ?_
  unfold xIdx at o
  cases q : fr.vars[i]? with
  | none => rw [q] at o; exact o.elim
  | some w =>
    rw [q] at o
    cases w with
    | none => exact o.elim
    | some av =>
      obtain ⟨v, h1, h2⟩ := F.var i av q
      cases av with
      | cel k =>
        obtain ⟨l, rfl, hl⟩ := h2
        obtain ⟨cl, hc, hcl⟩ := F.cel k l hl
        simp only [hc] at o
        cases cl with
        | dct tp kvs => exact o.elim
        | gone => exact o.elim
        | rows _ => exact o.elim
        | obj _ _ => exact o.elim
        | lst ds0 =>
          simp only at o
          obtain ⟨vs0, e0, z0, r0⟩ := hcl
          refine ⟨_, h1, .inl ⟨rfl, vs0, .inl (.inl e0)⟩, c, fr, ad, F, (Out.bind F o).mono fun av fr1 ad1 H1 F1 m1 o1 v rv => ?_⟩
          cases q2 : fr1.cells[k]? with
          | none => simp only [q2] at o1; exact o1.elim
          | some cl =>
            cases cl with
            | lst ds =>
              cases q3 : fr1.view av with
              | none => simp only [q2, q3] at o1; exact o1.elim
              | some dx =>
                simp only [q2, q3] at o1
                cases q4 : dIdx ds dx with
                | none => simp only [q4] at o1; exact o1.elim
                | some j =>
                  simp only [q4] at o1
                  have e3 := m1.pre k _ hl
                  obtain ⟨vs, h3, hz, h4⟩ := cell_lst F1 e3 q2
                  have rl : RepB X.K H1 (okP c ad1) (.ref l) (.list ds) := view_rep F1 (v := .ref l) (a := .cel k) ⟨l, rfl, e3⟩ (by simp [Fr.view, q2])
                  exact ⟨okP c ad1, l, vs, v, dx, ds, j, rfl, rfl, h3, rl, view_rep F1 rv q3, q4, o1 ad1 H1 F1 Mv.refl _ (.int _)⟩
            | _ => simp only [q2] at o1; exact o1.elim
      | _ => exact o.elim
@[simp] def sSlSet (i : Nat) (fa fc fv : Fr → Res AV) : Fr → SRes := fun fr => (fv fr).toS fun v fr1 => match fr1.vars[i]? with
  | some (some (.cel k)) => (fa fr1).toS fun a fr2 => (match a with
    | .dat (.int a) => (fc fr2).toS fun c fr3 => (match v, c, fr3.cells[k]? with
      | .dat (.list ys), .dat (.int c), some (.lst xs) => if 0 ≤ a ∧ a ≤ c ∧ c ≤ (xs.length : Int) ∧ xs.length + ys.length ≤ 1000000 then .nx (fr3.putc k (.lst (xs.take a.toNat ++ ys ++ xs.drop c.toNat))) else .err
      | _, _, _ => .err)
    | _ => .err)
  | _ => .err
def gSlS (to : TE) (tl th : TO) : TG := fun v σ H Q => to σ H fun o H1 => tl σ H1 fun l H2 => th σ H2 fun u H3 => ∃ (la b : Addr) (xs ys : List V) (a c : Int), o = .ref la ∧ v = .ref b ∧ H3 la = some (.lst xs) ∧ H3 b = some (.lst ys) ∧ la ≠ b ∧ l = some a ∧ u = some c ∧ 0 ≤ a ∧ a ≤ c ∧ c ≤ (xs.length : Int) ∧
  xs.length + ys.length ≤ sizeLine ∧ Q σ (upd H3 la (.lst (xs.take a.toNat ++ ys ++ xs.drop c.toNat)))
theorem pg_slS {o : Expr} {lo hi : Option Expr} {to : TE} {tl th : TO} {p2 : Pos} (ho : PE X o to) (hl : PO X lo tl) (hh : PO X hi th)
    (ha : ∀ v, assign (.Subscript o (.Slice lo hi none p2) pos) X.env v = (do
      let ov ← holding [v] (eval o X.env)
      let iv ← holding [v, ov] (eval (.Slice lo hi none p2) X.env)
      standAt pos
      holding [v, ov, iv] (setItem ov iv v)
      release [iv, v, ov] [])) : PG X (.Subscript o (.Slice lo hi none p2) pos) (gSlS to tl th) := by
  refine ⟨fun pins s σ H v u Q I r h => ?_⟩
  rw [ha]
  refine wpAny_bind (wpAny_holding (thn (ho.run pins s σ H _ I h) fun ov s1 ⟨x, H1, I1, r1, q1⟩ => ?_))
  refine wpAny_bind (wpAny_holding (wpAny_Slice (thn (hl.run pins s1 σ H1 _ I1 q1) fun vl s2 ⟨l, H2, I2, pl, q2⟩ => thn (hh.run pins s2 σ H2 _ I2 q2) fun vu s3 ⟨w, H3, I3, pu, q3⟩ => ?_)))
  rw [evalPart_none]
  refine wpAny_pure ?_
  have I4 : Inv X pins σ H3 { s3 with heap := s3.heap.push { cls := .type "slice", data := .fields #[vl, vu, .none] } } := I3.kept (t' := s3.toks) fun b ob q => Heap.get?_push_of_some _ q
  obtain ⟨la, b, xs, ys, a, c, rfl, rfl, hA, hB, ne, rfl, rfl, z1, z2, z3, z4, q⟩ := q3
  cases (show ov = Value.ref la from r1)
  cases (show u = Value.ref b from r)
  cases pl with
  | int _ ta =>
    cases pu with
    | int _ tc =>
      refine wpAny_bind (wpAny_standAt (wpAny_bind (wpAny_holding (set_slice I4 hA hB ne (Heap.IsSliceOf.new ..) ⟨ta, rfl⟩ ⟨tc, rfl⟩ z1 z2 z3 z4 fun s' I5 => ?_))))
      exact wpAny_release ⟨σ, _, I5, q⟩
theorem as_slSet {i : Nat} {n : Str} {p1 p2 p3 : Pos} (hN : X.N[i]? = some n) (hv : Vis X.env.scope n) (hb : AE X x b g) (hc : AE X x d h) (ha : AE X x a f) (hd : (n == ("__debug__" : Str)) = false := by decide) (hcd : (n == ("__classdict__" : Str)) = false := by decide)
    (hsub : ∀ v, assign (.Subscript (.Name n p1) (.Slice (some b) (some d) none p3) p2) X.env v = (do
      let ov ← holding [v] (eval (.Name n p1) X.env)
      let iv ← holding [v, ov] (eval (.Slice (some b) (some d) none p3) X.env)
      standAt p2
      holding [v, ov, iv] (setItem ov iv v)
      release [iv, v, ov] []) := by intro _; rfl)
    (hs : swapsWithSole [.Subscript (.Name n p1) (.Slice (some b) (some d) none p3) p2] a pos.line X.env = pure false := by rfl) (hw : swappedStores [.Subscript (.Name n p1) (.Slice (some b) (some d) none p3) p2] a X.env = pure none := by rfl)
    (h1 : (assignEach [.Subscript (.Name n p1) (.Slice (some b) (some d) none p3) p2] X.env).map (·.2) = [assign (.Subscript (.Name n p1) (.Slice (some b) (some d) none p3) p2) X.env] := by rfl) :
    AS X x (.Assign [.Subscript (.Name n p1) (.Slice (some b) (some d) none p3) p2] a pos) (sSlSet i g h f) := by
  refine (ps_asg ha (pg_slS (pe_var hN hv hd hcd) (po_some hb) (po_some hc) hsub) hs hw h1).imp fun D σ H ⟨c, fr, ad, F, o⟩ => ⟨c, fr, ad, F, (SOut.of F o).mono fun av fr1 ad1 H1 F1 m1 o1 v rv => ?_⟩
  cases q : fr1.vars[i]? with
  | none => rw [q] at o1; exact o1.elim
  | some w =>
    rw [q] at o1
    cases w with
    | none => exact o1.elim
    | some aw =>
      obtain ⟨vw, e1, e2⟩ := F1.var i aw q
      cases aw with
      | cel k =>
        obtain ⟨l, rfl, hl⟩ := e2
        refine ⟨_, e1, c, fr1, ad1, F1, (SOut.of F1 o1).mono fun bv fr2 ad2 H2 F2 m2 o2 w rw_ => ?_⟩
        cases bv with
        | dat yb =>
          cases yb with
          | int na =>
            cases RepB.int (.inl rw_)
            refine ⟨na, rfl, c, fr2, ad2, F2, (SOut.of F2 o2).mono fun cv fr3 ad3 H3 F3 m3 o3 w3 rw3 => ?_⟩
            have rv3 := RepA.mv F2 m3 (RepA.mv F1 m2 rv)
            cases av with
            | dat y =>
              cases y with
              | list ys =>
                cases cv with
                | dat yc =>
                  cases yc with
                  | int nc =>
                    cases RepB.int (.inl rw3)
                    cases q2 : fr3.cells[k]? with
                    | none => simp only [q2] at o3; exact o3.elim
                    | some cl =>
                      cases cl with
                      | lst xs =>
                        simp only [q2] at o3
                        split at o3
                        rotate_left
                        · exact o3.elim
                        rename_i hz0
                        obtain ⟨z1, z2, z3, z4⟩ := hz0
                        have e3 := m3.pre k _ (m2.pre k _ hl)
                        obtain ⟨vs, h3, hz, h4⟩ := cell_lst F3 e3 q2
                        have m := List.mem_of_getElem? e3
                        have rv4 : Rep X.K H3 (okP c ad3) v (.list ys) := rv3
                        cases rv4 with
                        | lst okb hb5 hz5 r5 =>
                          rename_i b5 vs5
                          have ne : l ≠ b5 := fun e => okb.2 (e ▸ m)
                          have e4 := h4.length
                          have e5 := r5.length
                          have hsl := sizeLine_eq
                          refine ⟨nc, rfl, l, b5, vs, vs5, na, nc, rfl, rfl, h3, hb5, ne, rfl, rfl, z1, z2, by omega, by omega, ?_⟩
                          refine o3 _ _ _ (F3.putc e3 (wr_t h3) ⟨_, upd_same, ?_, RepL.append (RepL.append (RepL.take _ (h4.keep (wr_k m h3))) (r5.keep (wr_k m h3))) (RepL.drop _ (h4.keep (wr_k m h3)))⟩)
                          simp only [List.length_append, List.length_take, List.length_drop]
                          omega
                      | _ => simp only [q2] at o3; exact o3.elim
                  | _ => exact o3.elim
                | _ => exact o3.elim
              | _ => exact o3.elim
            | _ => exact o3.elim
          | _ => exact o2.elim
        | _ => exact o2.elim
      | _ => exact o1.elim
end
end G
namespace G
open PySem PySem.Spec PyProof.Rows L2
def notCel (k : Nat) : AV → Bool
  | .cel j => decide (j ≠ k)
  | _ => true
@[simp] def sUpd (i : Nat) (f : Fr → Res AV) : Fr → SRes := fun fr => match fr.vars[i]? with
  | some (some (.cel k)) => (match fr.cells[k]? with
    | some (.dct false _) => (f fr).toS fun a fr1 => (match fr1.dview a, fr1.cells[k]? with
      | some (false, ms), some (.dct false kvs) => if notCel k a = true ∧ kvs.length + ms.length ≤ 1000000 then .nx (fr1.putc k (.dct false (mergeD kvs ms))) else .err
      | _, _ => .err)
    | _ => .err)
  | _ => .err
end G
namespace G
open PySem PySem.Spec PyProof.Rows L2
def rangeCD (lo c : Int) (n : Nat) : List PyData := (List.range n).map fun i => .int (lo + (i : Nat) * c)
def rgcOk (i j c : Int) : Bool := decide (c ≠ 0 ∧ c.natAbs < 1073741824 ∧ Builtin.Range.small i j c = true ∧ 0 ≤ Builtin.Range.rangeSize i j c)
@[simp] def xRange3 (f g h : Fr → Res AV) : Fr → Res (List PyData) := fun fr => (f fr).bind fun a fr1 => (g fr1).bind fun b fr2 => (h fr2).bind fun d fr3 => match a, b, d with
  | .dat (.int i), .dat (.int j), .dat (.int c) => if rgcOk i j c = true then .ok (rangeCD i c (Builtin.Range.rangeSize i j c).toNat) fr3 else .err
  | _, _, _ => .err
theorem wk_rangeC {p : Par} {lo c : Int} {n : Nat} : Wk p (Itc lo c n) [] (rangeCD lo c n) where
  go := fun ok H i y _ e => by
    unfold rangeCD at e
    rw [List.getElem?_map] at e
    have hi : i < n := by
      rcases Nat.lt_or_ge i n with q | q
      · exact q
      · rw [List.getElem?_eq_none (by simpa using q)] at e; cases e
    rw [List.getElem?_range hi] at e
    cases e
    refine ⟨hi, fun v H' hy => ?_⟩
    obtain ⟨rfl, rfl⟩ := hy
    exact ⟨Grow.refl, .int _⟩
  stop := fun ok H _ => by
    show n ≤ (rangeCD lo c n).length
    unfold rangeCD
    simp
section
variable {X : Cx} {x : XW} {tg a b d : Expr} {f g h : Fr → Res AV}
theorem ai_range3 {p1 pos : Pos} (hg : Gl X "range") (hm : X.mg "range" = none) (ha : AE X x a f) (hb : AE X x b g) (hd : AE X x d h) (hst : starEach [a, b, d] X.env = (false, eval a X.env) :: starEach [b, d] X.env := by rfl) (hst2 : starEach [b, d] X.env = (false, eval b X.env) :: starEach [d] X.env := by rfl) (hst3 : starEach [d] X.env = [(false, eval d X.env)] := by rfl) (hpl : (backTo pos (starEach [b, d] X.env)).any (·.1) = false := by rfl) : AI X x tg (.Call (.Name "range" p1) [a, b, d] [] pos) (xRange3 f g h) := by
  have hw := pi_range3 (tg := tg) (p := p1) (pos := pos) hg hm (pa_cons ha (pa_cons hb (pa_cons hd pa_nil hst3) hst2) hst) hst hpl
  refine ⟨fun pins s σ H R I hh => hw.run pins s σ H R I ?_⟩
  obtain ⟨c, fr, ad, F, o⟩ := hh
  refine ⟨c, fr, ad, F, (Out.bind F o).mono fun av fr1 ad1 H1 F1 m1 o1 v rv => ?_⟩
  refine ⟨c, fr1, ad1, F1, (Out.bind F1 o1).mono fun bv fr2 ad2 H2 F2 m2 o2 w rw_ => ?_⟩
  refine ⟨c, fr2, ad2, F2, (Out.bind F2 o2).mono fun dv fr3 ad3 H3 F3 m3 o3 y ry => ?_⟩
  cases av with
  | dat y1 =>
    cases y1 with
    | int i =>
      cases bv with
      | dat z1 =>
        cases z1 with
        | int j =>
          cases dv with
          | dat u1 =>
            cases u1 with
            | int cc =>
              cases RepB.int (.inl rv)
              cases RepB.int (.inl rw_)
              cases RepB.int (.inl ry)
              simp only at o3
              split at o3
              · rename_i hj
                have hj2 := of_decide_eq_true hj
                exact ⟨i, j, cc, _, rfl, ⟨hj2.1, hj2.2.1, hj2.2.2.1, (Int.toNat_of_nonneg hj2.2.2.2).symm⟩, o3 ad3 H3 F3 Mv.refl _ [] (fun q hq => nomatch hq) wk_rangeC⟩
              · exact o3.elim
            | _ => exact o3.elim
          | _ => exact o3.elim
        | _ => cases dv <;> exact o3.elim
      | _ => cases dv <;> exact o3.elim
    | _ => cases bv <;> cases dv <;> exact o3.elim
  | _ => cases bv <;> cases dv <;> exact o3.elim
end
inductive BFd where
  | rooms
  | cooks
  | used
@[simp] def fldB : BFd → AV → Option AV
  | .rooms, .brd rooms _ _ => some (.dct false rooms)
  | .cooks, .brd _ cooks _ => some (.dat cooks)
  | .used, .brd _ _ i => some (.cel i)
  | _, _ => none
@[simp] def xFld (f : BFd) (g : Fr → Res AV) : Fr → Res AV := fun fr => (g fr).bind fun a fr1 => match fldB f a with
  | some b => .ok b fr1
  | none => .err
@[simp] def sDSetE (fo fi fv : Fr → Res AV) : Fr → SRes := fun fr => (fv fr).toS fun a fr1 => (fo fr1).toS fun o fr2 => (fi fr2).toS fun b fr3 => match o with
  | .cel k => (match a, b, fr3.cells[k]? with
    | .dat y, .dat z, some (.dct tp kvs) => if kOk tp z = true ∧ kvs.length < 1000000 then .nx (fr3.putc k (.dct tp (kput kvs z y))) else .err
    | _, _, _ => .err)
  | _ => .err
@[simp] def xBrd (f : Fr → Res AV) : Fr → Res AV := fun fr => (f fr).bind fun a fr1 => match a with
  | .brd rooms cooks i => .ok (.brd rooms cooks i) fr1
  | _ => .err
@[simp] def xMeth (m : AFun) (f : Fr → Res AV) (gs : Fr → Res (List AV)) : Fr → Res AV := xCall m (xCons (xBrd f) gs)
end G
namespace G
open PySem PySem.Spec PyProof.Rows L2
@[simp] def xBoard (f : Fr → Res AV) : Fr → Res AV := fun fr => (f fr).bind fun a fr1 => match a with
  | .dat (.tuple (.tuple ds :: ck :: rest)) => (match pairsD ds with
    | some kvs => .ok (.brd (mergeD [] kvs) ck fr1.cells.length) (fr1.newc (.dct true []))
    | none => .err)
  | _ => .err
end G
namespace PySem.W
open PySem PySem.Calls PyProof.Rows
end PySem.W
namespace G
open PySem PySem.Spec PyProof.Rows L2
def sortBy (ds kz : List PyData) : List PyData := ((ds.zip kz).mergeSort (PySem.W.dataLe false Prod.snd)).map Prod.fst
def keysOk (kz : List PyData) : Bool := allAlike kz && (kz.all tupB || kz.all plainB) && kz.all fun d => decide (d.depth ≤ 32)
end G
namespace G
open PySem PySem.Spec PyProof.Rows L2
section
variable {p : Par} {c : Ent} {fr1 : Fr} {ad1 ad' : List (Option Addr)} {σ : L2.St} {H2 H' : Hp} {a kS : Addr} {oa : Obj} {ks ws : List V} {cs : List Cell}
theorem FR.sorted (F2 : FR p c fr1 ad1 σ H2) (na : H2 a = none) (nk : H2 kS = none) (ne : kS ≠ a) (M : Mv H2 ad1 H' ad') (F' : FR p ((c.hold a).hold kS) ⟨fr1.vars, cs, fr1.base⟩ ad' σ H') (ea : H' a = some (.frz oa (.lst []))) (ek : H' kS = some (.lst ks)) :
    FR p c ⟨fr1.vars, cs, fr1.base⟩ ad' σ (upd (upd H' kS (.lst [])) a (.lst ws)) ∧ Mv H2 ad1 (upd (upd H' kS (.lst [])) a (.lst ws)) ad' ∧ Keep H' (upd (upd H' kS (.lst [])) a (.lst ws)) (okP ((c.hold a).hold kS) ad') (okP c ad') := by
  have pa := F'.pr a (List.mem_cons_of_mem _ (List.mem_cons_self ..))
  have pk := F'.pr kS (List.mem_cons_self ..)
  have st : ∀ b o, b ≠ a → b ≠ kS → H' b = some o → upd (upd H' kS (.lst [])) a (.lst ws) b = some o := fun b o h1 h2 e => by rw [upd_ne h1, upd_ne h2]; exact e
  have tk : TupK H' (upd (upd H' kS (.lst [])) a (.lst ws)) := fun b xs => by
    have n1 : ∀ u, H' b = some u → u ≠ .frz oa (.lst []) → b ≠ a := fun u h n z => by
      subst z
      rw [ea] at h
      exact n (Option.some.inj h).symm
    have n2 : ∀ u, H' b = some u → u ≠ .lst ks → b ≠ kS := fun u h n z => by
      subst z
      rw [ek] at h
      exact n (Option.some.inj h).symm
    refine ⟨fun r => ?_, fun u r => st b _ (n1 _ r (fun z => nomatch z)) (n2 _ r (fun z => nomatch z)) r⟩
    rcases r with r | ⟨u, r⟩
    · exact .inl (st b _ (n1 _ r (fun z => nomatch z)) (n2 _ r (fun z => nomatch z)) r)
    · exact .inr ⟨u, st b _ (n1 _ r (fun z => nomatch z)) (n2 _ r (fun z => nomatch z)) r⟩
  have KK : Keep H' (upd (upd H' kS (.lst [])) a (.lst ws)) (okP ((c.hold a).hold kS) ad') (okP c ad') := ⟨fun b o h e => ⟨okP_hold b (okP_hold b h), fun _ => st b o (fun z => h.1.2 (by rw [z]; exact List.mem_cons_of_mem _ (List.mem_cons_self ..))) (fun z => h.1.2 (by rw [z]; exact List.mem_cons_self ..)) e⟩, tk⟩
  have M5 : Mv H2 ad1 (upd (upd H' kS (.lst [])) a (.lst ws)) ad' := ⟨fun b o e n t => st b o (fun z => by rw [z, na] at e; cases e) (fun z => by rw [z, nk] at e; cases e) (M.keep b o e n t), M.pre, M.new, fun b h => by
    have := M.there b h
    unfold upd
    split
    · simp
    · split
      · simp
      · exact this⟩
  refine ⟨⟨F2.len, fun i av e => ?_, F'.clen, fun i b e => ?_, F'.nd, fun b o e n => ?_, F'.sub, F'.adw, fun q hq => ⟨(F2.gh q hq).1, RepA.mv F2 M5 (F2.gh q hq).2⟩, M5.prs F2, F2.bs, ?_⟩, M5, KK⟩
  · obtain ⟨v, h1, h2⟩ := F2.var i av e
    exact ⟨v, h1, RepA.mv F2 M5 h2⟩
  · obtain ⟨cl, h1, h2⟩ := F'.cel i b e
    have b1 : b ≠ a := fun z => pa.1 (by rw [← z]; exact List.mem_of_getElem? e)
    have b2 : b ≠ kS := fun z => pk.1 (by rw [← z]; exact List.mem_of_getElem? e)
    refine ⟨cl, h1, ?_⟩
    exact CellAt.keep KK (fun o z => st b _ b1 b2 z) h2
  · obtain ⟨o', q1, q2⟩ := F'.old b o e n
    refine ⟨o', st b _ (fun z => ?_) (fun z => ?_) q1, q2⟩
    · have z2 := he_new F2 na
      have e' : c.He b = some o := e
      rw [z, z2] at e'
      cases e'
    · have z2 := he_new F2 nk
      have e' : c.He b = some o := e
      rw [z, z2] at e'
      cases e'
  · have t1 := F'.tabs
    have t2 := t1.put (o' := .lst []) (a := kS) (List.mem_append_right _ (by simp)) ek trivial
    have t3 := t2.put (o' := .lst ws) (a := a) (o := .frz oa (.lst [])) (List.mem_append_right _ (by simp)) (by rw [upd_ne (Ne.symm ne)]; exact ea) trivial
    exact t3.sub fun b z => by
      simp only [List.mem_append, List.map_cons, List.mem_cons] at z ⊢
      rcases z with z | z
      · exact .inl z
      · exact .inr (.inr (.inr z))
end
def keysA (i0 : Nat) (g : Fr → Res AV) (vars : List (Option AV)) (bs : Nat) : List PyData → List PyData → List Cell → Option (List PyData × List Cell)
  | [], acc, cs => some (acc, cs)
  | y :: ys, acc, cs => match g ⟨vars.set i0 (some (.dat y)), cs, bs⟩ with
    | .ok (.dat k) fr' => keysA i0 g vars bs ys (acc ++ [k]) fr'.cells
    | _ => none
@[simp] def sortK (i0 : Nat) (g : Fr → Res AV) (ds : List PyData) : Fr → Res AV := fun fr1 => match keysA i0 g fr1.vars fr1.base ds [] fr1.cells with
  | some (kz, cs) => if keysOk kz = true ∧ ds.length ≤ 1000000 then .ok (.dat (.list (sortBy ds kz))) ⟨fr1.vars, cs, fr1.base⟩ else .err
  | none => .err
@[simp] def xSortKey (i0 : Nat) (g : Fr → Res AV) (f : Fr → Res AV) : Fr → Res AV := fun fr => (f fr).bind fun av fr1 => match fr1.view av with
  | some (.list ds) => sortK i0 g ds fr1
  | some (.tuple ds) => sortK i0 g ds fr1
  | _ => .err
end G
namespace G
open PySem PySem.Spec PyProof.Rows L2
def compDT (own : List Nat) (g : Tg) (t : Fr → Res Bool) (fk fv : Fr → Res AV) (vars : List (Option AV)) (bs : Nat) : List PyData → List (PyData × PyData) → List Cell → Option (List (PyData × PyData) × List Cell)
  | [], acc, cs => some (acc, cs)
  | y :: ys, acc, cs => match g y ⟨kill own vars, cs, bs⟩ with
    | some fr1 => (match t fr1 with
      | .ok b fr2 => if b = true then (match fk fr2 with
        | .ok (.dat k) fr3 => (match fv fr3 with
          | .ok (.dat v) fr4 => if kOk true k = true ∧ acc.length < 1000000 then compDT own g t fk fv vars bs ys (kput acc k v) fr4.cells else none
          | _ => none)
        | _ => none) else compDT own g t fk fv vars bs ys acc fr2.cells
      | _ => none)
    | none => none
@[simp] def xDCompT (own : List Nat) (e : Fr → Res (List PyData)) (g : Tg) (t : Fr → Res Bool) (fk fv : Fr → Res AV) : Fr → Res AV := fun fr => (e fr).bind fun ys fr1 => match compDT own g t fk fv fr1.vars fr1.base ys [] fr1.cells with
  | some (acc, cs) => .ok (.dct true acc) ⟨fr1.vars, cs, fr1.base⟩
  | none => .err
@[simp] def xDCompTF (own : List Nat) (e : Fr → Res (List PyData)) (g : Tg) (t : Fr → Res Bool) (fk fv : Fr → Res AV) : Fr → Res AV := fun fr => (e fr).bind fun ys fr1 => match compDT own g t fk fv fr1.vars fr1.base ys [] fr1.cells with
  | some (acc, cs) => .ok (.cel cs.length) ((⟨fr1.vars, cs, fr1.base⟩ : Fr).newc (.dct true acc))
  | none => .err
end G
namespace G
open PySem PySem.Spec PyProof.Rows L2
def lamU (K : PySem.W.Frag) : Bool := (lamT K).all fun p => (lamT K).all fun q => !decide (p.1 = q.1) || decide (p.2 = q.2)
/-- each table of a def that makes lambdas is among those told -/
def lamC (tf : List He.Defn) (K : PySem.W.Frag) : Bool := (lamT K).all fun q => tf.any fun p => decide ((He.cT K p).2 = q.1)
theorem tabs_of {h : Heap} {as : List Addr} {tf : List He.Defn} (e : He.tabsB h.get? tf (He.frT h.get? as) = true) : (∀ p ∈ tf, PySem.W.codeHdIn (He.frT h.get? as) (He.cT (He.frT h.get? as) p).1 (He.cT (He.frT h.get? as) p).2 = true) ∧ (∀ p ∈ tf, (He.frT h.get? as).lookup (He.cT (He.frT h.get? as) p).2 = none) ∧ ∀ p ∈ tf, h.get? (He.cT (He.frT h.get? as) p).2 = some { cls := .none, data := .fields #[] } := by
  have key : ∀ p ∈ tf, PySem.W.codeHdIn (He.frT h.get? as) (He.cT (He.frT h.get? as) p).1 (He.cT (He.frT h.get? as) p).2 = true ∧ ∃ o, h.get? (He.cT (He.frT h.get? as) p).2 = some o ∧ He.emptyTab o = true := fun p hp => by
    obtain ⟨h3, h4⟩ := He.ba (List.all_eq_true.mp e p hp)
    refine ⟨h3, ?_⟩
    cases q : h.get? (He.cT (He.frT h.get? as) p).2 with
    | none => rw [q] at h4; cases h4
    | some o => rw [q] at h4; exact ⟨o, rfl, h4⟩
  refine ⟨fun p hp => (key p hp).1, fun p hp => ?_, fun p hp => ?_⟩
  · obtain ⟨_, o, q, z⟩ := key p hp
    exact He.frT_none q z
  · obtain ⟨_, o, q, z⟩ := key p hp
    rw [q, He.emptyTab_eq z]
theorem lam_start {K : PySem.W.Frag} {H : Hp} {tf : List He.Defn} (hC : lamC tf K = true) (hT : ∀ q ∈ tf.map (He.cT K), H q.2 = some (.tbl #[])) : TabF K H H [] := fun q hq => by
  obtain ⟨d, hd, e⟩ := List.any_eq_true.mp (List.all_eq_true.mp hC q hq)
  have e' := of_decide_eq_true e
  refine ⟨#[], by rw [← e']; exact hT _ (List.mem_map.mpr ⟨d, hd, rfl⟩), trivial, fun pos cv hc => ?_⟩
  have z : codeAmong pos [] = some cv := hc
  simp [codeAmong] at z
/-- the law's own promise, whether the script is locked or not -/
theorem law_endT {p : Par} {C : CExc} {m : AFun} {H : Hp} {a : Addr} {ns : List Int} {tf : List He.Defn} (hC : lamC tf p.K = true) (hT : ∀ q ∈ tf.map (He.cT p.K), H q.2 = some (.tbl #[])) (hS : SqL p.K H a (ns.map V.int)) (hl : ns.length ≤ 63) (hm : m [.scr ns] [] = .ok (.dat (.bool true)) []) (hm2 : m [.dat (.list (ns.map .int))] [] = .ok (.dat (.bool true)) []) : spF p C m 1 [.ref a] H (fun v _ => v = .bl true) (fun _ _ _ => False) := by
  have go : ((∃ o, H a = some (.frz o (.lst (ns.map V.int)))) ∨ KL p.K a (ns.map V.int)) → spF p C m 1 [.ref a] H (fun v _ => v = .bl true) (fun _ _ _ => False) := fun h => by
    refine ⟨rfl, fun _ => False, [], [.scr ns], [], .cons ⟨by rw [sizeLine_eq]; omega, a, rfl, h⟩ .nil, .nil, rfl, fun i b e => by simp at e, lam_start hC hT, ?_⟩
    rw [hm]
    exact fun v H' _ r => RepB.bool (.inl r)
  rcases hS with (h | h) | h
  · refine ⟨rfl, fun b => b = a, [], [.dat (.list (ns.map .int))], [], .cons (.lst ⟨rfl, by simp⟩ h (by rw [List.length_map, sizeLine_eq]; omega) (RepL.ints ns)) .nil, .nil, rfl, fun i b e => by simp at e, lam_start hC hT, ?_⟩
    rw [hm2]
    exact fun v H' _ r => RepB.bool (.inl r)
  · exact go (.inl h)
  · exact go (.inr (.inr h))
end G
namespace G
open PySem PySem.Spec PyProof.Rows L2
/-- what the lambda gives is told, as wr says; a refusal is told by h -/
@[simp] def xTells (wr : AV → Option AV) (h : Str → List (Str × PyData) → Option PyData) (g : Fr → Res AV) : Fr → Res AV := fun fr => match g fr with
  | .ok a fr1 => (match wr a with
    | some b => .ok b fr1
    | none => .err)
  | .exc c fs fr1 => (match h c fs with
    | some y => .ok (.dat y) fr1
    | none => .err)
  | .err => .err
@[simp] def wrI : AV → Option AV := some
@[simp] def wrT : AV → Option AV
  | .dat y => some (.dat (.tuple [.str "told", y]))
  | _ => none
structure Lat (K : PySem.W.Frag) (H H' : Hp) : Prop where
  k : ∀ b o, H b = some o → nt o → H' b = some o
  t : ∀ b, H b ≠ none → H' b ≠ none
  T : TabF K H H' []
theorem Lat.grow {K : PySem.W.Frag} {H H' : Hp} (t : TabF K H H []) (g : Grow H H') : Lat K H H' := ⟨fun b o e _ => g b o e, fun b h => by
  obtain ⟨o, e⟩ := Option.ne_none_iff_exists'.mp h
  rw [g b o e]; simp, t.grow g⟩
end G
namespace G
open PySem PySem.Spec PyProof.Rows L2 L2H
@[simp] def xZipH (f g : Fr → Res AV) : Fr → Res (List PyData) := fun fr => (f fr).bind fun a fr1 => (g fr1).bind fun b fr2 => match a, b with
  | .dat (.list ys), .dat (.list zs) => if ys.length = zs.length then .ok (zipD ys zs) fr2 else .err
  | _, _ => .err
end G
namespace G
open PySem PySem.Spec PyProof.Rows L2 L2H
@[simp] def xIsX (i : Nat) (a : Addr) (b : Bool) : Fr → Res AV := fun fr => match fr.vars[i]? with
  | some (some (.fn _ (some a'))) => if a' = a then .ok (.dat (.bool b)) fr else .err
  | _ => .err
@[simp] def strsD : List PyData → Option (List Str)
  | [] => some []
  | .str x :: r => (match strsD r with
    | some xs => some (x :: xs)
    | none => none)
  | _ :: _ => none
def joinD (sep : Str) (ds : List PyData) : Option Str := match strsD ds with
  | some xs => if (xs.map (·.length)).sum + xs.length * sep.length ≤ 16777216 ∧ PyData.strOk (Txt.join sep xs) = true then some (Txt.join sep xs) else none
  | none => none
@[simp] def xJoin (sep : Str) (f : Fr → Res AV) : Fr → Res AV := fun fr => (f fr).bind fun a fr1 => match fr1.view a with
  | some (.list ds) => (match joinD sep ds with
    | some z => .ok (.dat (.str z)) fr1
    | none => .err)
  | _ => .err
end G
namespace G
open PySem PySem.Spec PyProof.Rows L2
@[simp] def xRepL (f g : Fr → Res AV) : Fr → Res AV := fun fr => (f fr).bind fun a fr1 => (g fr1).bind fun b fr2 => match a, fr2.view b with
  | .dat (.list ds), some (.int k) => if k ≤ 1000000 ∧ -1000000 ≤ k ∧ ds.length * k.toNat ≤ 1000000 then .ok (.dat (.list (List.replicate k.toNat ds).flatten)) fr2 else .err
  | _, _ => .err
@[simp] def xRepLF (f g : Fr → Res AV) : Fr → Res AV := fun fr => (f fr).bind fun a fr1 => (g fr1).bind fun b fr2 => match a, fr2.view b with
  | .dat (.list ds), some (.int k) => if k ≤ 1000000 ∧ -1000000 ≤ k ∧ ds.length * k.toNat ≤ 1000000 then .ok (.cel fr2.cells.length) (fr2.newc (.lst (List.replicate k.toNat ds).flatten)) else .err
  | _, _ => .err
end G
namespace G
open PySem PySem.Spec PyProof.Rows L2
abbrev Ent.holds (c : Ent) (L : List Addr) : Ent := { c with prot := L ++ c.prot }
section
variable {p : Par} {c : Ent} {fr : Fr} {ad ad' : List (Option Addr)} {σ : L2.St} {H H' : Hp} {L L' : List Addr}
abbrev KV := List (PyData × PyData)
def PrG (p : Par) (c : Ent) (ad : List (Option Addr)) (t : Addr) (L : List Addr) (H : Hp) (x : Key × V) (q : PyData × PyData) : Prop := q.1 = keyD x.1 ∧ keyS x.1 ∧ ∃ (b : Addr) (xs : List V) (ds : List PyData), x.2 = .ref b ∧ b ∈ L ∧ b ≠ t ∧ q.2 = .list ds ∧ H b = some (.lst xs) ∧ ds.length ≤ 1000000 ∧ RepL p.K H (okP (c.holds L) ad) xs ds
/-- the table at t, its lists, all of them protected -/
structure Grp (p : Par) (c : Ent) (ad : List (Option Addr)) (t : Addr) (L : List Addr) (H : Hp) (kvs : KV) : Prop where
  tL : t ∈ L
  nw : ∀ a ∈ L, c.He a = none ∧ a ∉ c.prot
  bd : ∃ ks : List (Key × V), H t = some (.dK ks) ∧ Paired (PrG p c ad t L H) ks kvs ∧ (ks.map (·.2)).Nodup
def GI (p : Par) (c : Ent) (i : Nat) (t : Addr) (fr : Fr) (kvs : KV) (σ : L2.St) (H : Hp) : Prop := ∃ L ad, FR p (c.holds L) fr ad σ H ∧ σ[i]? = some (some (.ref t)) ∧ Grp p c ad t L H kvs
theorem GI.plus {i : Nat} {t : Addr} {kvs : KV} {qs : List (V × AV)} (h : GI p (c.plus qs) i t fr kvs σ H) : GI p c i t fr kvs σ H := by
  obtain ⟨L, ad, F, e, g⟩ := h
  exact ⟨L, ad, FR.less (c := c.holds L) F, e, g.tL, g.nw, g.bd⟩
end
def grpL (g : Tg) (b : Fr → KV → Option (Fr × KV)) : List PyData → Fr → KV → Option (Fr × KV)
  | [], fr, kvs => some (fr, kvs)
  | y :: ys, fr, kvs => match g y fr with
    | some fr1 => (match b fr1 kvs with
      | some q => grpL g b ys q.1 q.2
      | none => none)
    | none => none
@[simp] def gFor (f : Fr → Res (List PyData)) (g : Tg) (b : Fr → KV → Option (Fr × KV)) (fr : Fr) (kvs : KV) : Option (Fr × KV) := match f fr with
  | .ok ys fr1 => grpL g b ys fr1 kvs
  | _ => none
def appAt : KV → PyData → PyData → Option KV
  | [], _, _ => none
  | q :: r, k, v => if PyData.eqv q.1 k = true then (match q.2 with
    | .list ds => if ds.length < 1000000 then some ((q.1, .list (ds ++ [v])) :: r) else none
    | _ => none) else (appAt r k v).map fun z => q :: z
def grpPut (kvs : KV) (k v : PyData) : Option KV := if (kfind kvs k).isSome = true then appAt kvs k v else appAt (kvs ++ [(k, .list [])]) k v
@[simp] def gPut (kf vf : Fr → Res AV) (fr : Fr) (kvs : KV) : Option (Fr × KV) := match kf fr with
  | .ok (.dat z) fr1 => if kOk false z = true ∧ kvs.length < 1000000 then (match vf fr1 with
    | .ok (.dat v) fr2 => (match grpPut kvs z v with
      | some q => some (fr2, q)
      | none => none)
    | _ => none) else none
  | _ => none
section
variable {p : Par} {c : Ent} {ad : List (Option Addr)} {H : Hp} {L L' : List Addr} {t : Addr}
theorem PrG.up {b : Addr} {o : HO} (kp : Keep H (upd H b o) (okP (c.holds L) ad) (okP (c.holds L) ad)) {x : Key × V} {q : PyData × PyData} (h : PrG p c ad t L H x q) (ne : x.2 ≠ .ref b) : PrG p c ad t L (upd H b o) x q := by
  obtain ⟨h1, h2, d, xs, ds, h3, h4, h5, h6, h7, h8, h9⟩ := h
  exact ⟨h1, h2, d, xs, ds, h3, h4, h5, h6, by rw [upd_ne (fun z => ne (by rw [h3, z]))]; exact h7, h8, h9.keep kp⟩
end
end G
namespace G
open PySem PySem.Spec PyProof.Rows L2
@[simp] def gKill (is : List Nat) (b : Fr → KV → Option (Fr × KV)) (fr : Fr) (kvs : KV) : Option (Fr × KV) := b (fr.kill is) kvs
@[simp] def xFn (n : Str) : Fr → Res AV := fun fr => .ok (.fn n none) fr
@[simp] def xCallFn (i : Nat) (ms : List (Str × AFun)) (gs : Fr → Res (List AV)) : Fr → Res AV := fun fr => match fr.vars[i]? with
  | some (some (.fn n none)) => (match ms.lookup n with
    | some m => xCall m gs fr
    | none => .err)
  | _ => .err
end G
namespace G
open PySem PySem.Spec PyProof.Rows L2
def flatB : PyData → Bool
  | .int _ => true
  | .str _ => true
  | _ => false
def flatT : PyData → Bool
  | .tuple (x :: xs) => (x :: xs).all flatB
  | _ => false
def mixAll : List PyData → List PyData → Bool
  | x :: xs, y :: ys => PySem.W.alike x y && (!PyData.eqv x y || mixAll xs ys)
  | _, _ => true
def mixB : PyData → PyData → Bool
  | .tuple xs, .tuple ys => mixAll xs ys
  | _, _ => false
def sortOkF (ds : List PyData) : Bool := decide (ds.length ≤ 1000000) && ds.all flatT && ds.all fun x => ds.all fun y => mixB x y
end G
namespace G
open PySem PySem.Spec PyProof.Rows L2
/-- an abstract heap at the law's call: the script, where it is no constant, and the empty tables -/
structure AtCall (K : PySem.W.Frag) (h : Heap) (cs : List (Addr × Addr)) (a : Addr) (us : List Value) (zs : List Int) (H : Hp) : Prop where
  tab : ∀ p ∈ cs, H p.2 = some (.tbl #[])
  why : ∀ b u, H b = some u → (b = a ∧ K.lookup a = none ∧ u = .frz { cls := .type "list", data := .seq us.toArray } (.lst (zs.map V.int))) ∨ (∃ p ∈ cs, b = p.2 ∧ u = .tbl #[])
  lst : SqL K H a (zs.map V.int)
section
variable {P : Program} {w : World} {K : PySem.W.Frag} {mg mb : Str → Option Value} {t : Shared} {cs : List (Addr × Addr)} {a : Addr} {us : List Value} {zs : List Int} {H : Hp}
/-- what the call's heap must have -/
structure Sits (K : PySem.W.Frag) (t : Shared) (cs : List (Addr × Addr)) (a : Addr) (us : List Value) (zs : List Int) : Prop where
  kin : K.In t.heap
  script : t.heap.get? a = some { cls := .type "list", data := .seq us.toArray }
  nums : IntsAre us zs
  few : zs.length ≤ sizeLine
  empty : ∀ p ∈ cs, t.heap.get? p.2 = some { cls := .none, data := .fields #[] }
  noK : ∀ p ∈ cs, K.lookup p.2 = none
/-- a hidden object is the script's list, or an empty table -/
theorem Sits.hid (S : Sits K t cs a us zs) (A : AtCall K t.heap cs a us zs H) {b : Addr} {o : Obj} {u : HO} (e : t.heap.get? b = some o) (q : H b = some u) : o.data = .seq us.toArray ∨ o.data = .fields #[] := by
  rcases A.why b u q with ⟨rfl, _, _⟩ | ⟨p, hp, rfl, _⟩
  · rw [S.script] at e
    exact .inl (by rw [← Option.some.inj e])
  · rw [S.empty p hp] at e
    exact .inr (by rw [← Option.some.inj e])
/-- all else is seen as it stands -/
theorem Sits.seen (S : Sits K t cs a us zs) (A : AtCall K t.heap cs a us zs H) {b : Addr} {o : Obj} (e : t.heap.get? b = some o) (n1 : o.data ≠ .seq us.toArray) (n2 : o.data ≠ .fields #[]) : (hidT t.heap H).get? b = some o := by
  refine hidT_get e ?_
  cases q : H b with
  | none => rfl
  | some u => exact ((S.hid A e q).elim n1 n2).elim
theorem Sits.ns (S : Sits K t cs a us zs) (A : AtCall K t.heap cs a us zs H) {b : Addr} {m : Str → Option Value} (h : t.heap.Ns b m) : (hidT t.heap H).Ns b m := by
  obtain ⟨o, es, ep, e, d, rest⟩ := h
  exact ⟨o, es, ep, S.seen A e (by rw [d]; exact fun z => by cases z) (by rw [d]; exact fun z => by cases z), d, rest⟩
theorem Sits.frag (S : Sits K t cs a us zs) (A : AtCall K t.heap cs a us zs H) : K.In (hidT t.heap H) := fun b o e => by
  refine hidT_get (S.kin b o e) ?_
  cases q : H b with
  | none => rfl
  | some u =>
    exfalso
    rcases A.why b u q with ⟨rfl, n, _⟩ | ⟨p, hp, rfl, _⟩
    · rw [n] at e; cases e
    · rw [S.noK p hp] at e; cases e
theorem Sits.code (S : Sits K t cs a us zs) (A : AtCall K t.heap cs a us zs H) {c T : Addr} (h : PySem.W.CodeHd t.heap c T) : PySem.W.CodeHd (hidT t.heap H) c T := by
  unfold PySem.W.CodeHd at h ⊢
  obtain ⟨o, vs, v1, v2, v3, v4, v5, v6, v7, e, cl, d, more⟩ := h
  refine ⟨o, vs, v1, v2, v3, v4, v5, v6, v7, S.seen A e ?_ ?_, cl, d, more⟩
  · rw [d]; exact fun z => by cases z
  · rw [d]
    intro z
    cases z
    have := more.1
    simp at this
theorem Sits.hok (S : Sits K t cs a us zs) (A : AtCall K t.heap cs a us zs H) : HOk P w H t.heap := fun b u q => by
  rcases A.why b u q with ⟨rfl, _, rfl⟩ | ⟨p, hp, rfl, rfl⟩
  · exact ⟨S.script, by rw [List.length_map]; exact S.few, us, _, vals_ints S.nums, S.script⟩
  · exact S.empty p hp
/-- the law's own call, by such a heap -/
theorem Sits.go {CX : CXT} {k : Nat} {fa : Addr} {fd : FuncData} {x : Str} {sp : Sp} (S : Sits K t cs a us zs) (A : AtCall K t.heap cs a us zs H) (ng : t.heap.Ns mainGlobals mg) (nb : t.heap.Ns builtinsNs mb) (bb : ∀ y : Str, y ≠ "__name__" → mb y = bootBuiltins y) (nl : t.heap.NoLimit) (gn : t.gens = #[])
    (cds : ∀ p ∈ cs, PySem.W.CodeHd t.heap p.1 p.2) (bm : ∃ (m : Addr) (ob : Obj), mg "__builtins__" = some (.ref m) ∧ m ≠ builtinsNs ∧ t.heap.get? m = some ob ∧ ob.cls = .type "module" ∧ ob.dict = some builtinsNs ∧ ob.data = .plain)
    (rm : Room k callerA) (F : ∀ bs : Heap, K.In bs → bs.Ns mainGlobals mg → (∀ p ∈ cs, LamX.TabB bs mg p.1 p.2) → FnG P w K mg bs CX k fa fd [x] sp) (bd : ∀ (s : Shared) (u : Value), BindsTo s fd ⟨[u], []⟩ [(x, u)])
    (want : sp [.ref a] H (fun v _ => v = .bl true) fun _ _ _ => False) (noX : ∀ H e t', CX [] H t (fun _ _ _ => False) e t' → False) :
    codeAny (model P w) callerA (.call (.ref fa) ⟨[.ref a], []⟩) (fun r t' => r = .ok (.ret (.bool true)) ∧ OldK t.heap t'.heap ∧ t'.os = t.os ∧ AllBare t'.gens) t := by
  have gT : ∀ p ∈ cs, mainGlobals ≠ p.2 := fun p hp z => by
    obtain ⟨o, es, ep, e, d, _⟩ := ng
    rw [z, S.empty p hp] at e
    rw [← Option.some.inj e] at d
    cases d
  have tb : ∀ p ∈ cs, LamX.TabB (hidT t.heap H) mg p.1 p.2 := fun p hp => by
    obtain ⟨m, ob, m1, m2, m3, m4, m5, m6⟩ := bm
    refine ⟨S.code A (cds p hp), ⟨m, ob, m1, m2, fun z => ?_, fun z => ?_, S.seen A m3 (by rw [m6]; exact fun z => by cases z) (by rw [m6]; exact fun z => by cases z), m4, m5, m6⟩, gT p hp⟩
    · obtain ⟨o, es, ep, e, d, _⟩ := ng
      rw [← z, m3] at e
      rw [← Option.some.inj e, m6] at d
      cases d
    · rw [z, S.empty p hp] at m3
      rw [← Option.some.inj m3] at m6
      cases m6
  have ev : Env0 P w K mg (hidT t.heap H) callerA [] t H :=
    { frames := rfl
      mod := ⟨S.frag A, S.ns A ng, ⟨mb, S.ns A nb, bb⟩, nl.elim fun mc h => ⟨mc, S.ns A h.1, h.2⟩⟩
      bs := fun b o e => of_hidT e
      bsz := Nat.le_of_eq (hidT_size _ _)
      funs := trivial
      frf := fun b hb => nomatch hb
      hok := S.hok A
      bare := .of_eq gn }
  have run := (F _ (S.frag A) (S.ns A ng) tb).run callerA [] t H ⟨[.ref a], []⟩ [.ref a] [.ref a] _ _ rfl rm ev (bd t (.ref a)) (.cons rfl .nil) want
  refine codeAny_mono run fun r t' h => ?_
  match r, h with
  | .error e, h => exact (noX H e t' h).elim
  | .ok (.ret u), ⟨v, H', os, br, un, hk', ru, qv⟩ =>
    have ev : v = .bl true := qv
    subst ev
    have eu : u = .bool true := ru
    subst eu
    refine ⟨rfl, ?_, os, br⟩
    -- each old object: untouched, the locked script, or a table that grew
    have each : ∀ b o, t.heap.get? b = some o → t'.heap.get? b = some o ∨ ∃ p ∈ cs, b = p.2 ∧ ∃ more : Array Value, t'.heap.get? b = some { cls := .none, data := .fields more } := fun b o e => by
      cases q : H b with
      | none => exact .inl (un.keep b o e q (fun z => nomatch z) (fun z => nomatch z))
      | some z =>
        rcases A.why b z q with ⟨rfl, _, rfl⟩ | ⟨p, hp, rfl, rfl⟩
        · left
          have f := (hk' _ _ (un.frzs _ _ _ q)).1
          rw [S.script] at e
          rw [← Option.some.inj e]
          exact f
        · right
          obtain ⟨more, g⟩ := un.tbls p.2 #[] q
          exact ⟨p, hp, rfl, _, hk' _ _ g⟩
    refine ⟨fun b o e => ?_, fun b o e => ?_⟩
    · rcases each b o e with h | ⟨p, hp, rfl, more, h⟩
      · exact .inl h
      · refine .inr (.inl ⟨((cds p hp).tab (S.empty p hp)).isCodeTable, ?_⟩)
        rw [S.empty p hp] at e
        rw [← Option.some.inj e]
        exact ⟨rfl, #[], more, rfl, by rw [Array.empty_append]; exact h⟩
    · rcases each b o e with h | ⟨p, hp, rfl, more, h⟩
      · exact ⟨_, h⟩
      · exact ⟨_, h⟩
end
end G
namespace G
open PySem PySem.Spec PyProof.Rows L2
@[simp] def sForP (f : Fr → Res AV) (g : Tg) (b : Fr → SRes) : Fr → SRes := fun fr => (f fr).toS fun a fr1 => match a with
  | .dct true kvs => forA g (fun fr => noX (b fr)) (itemsD kvs) fr1
  | _ => .err
end G
namespace G
open PySem PySem.Spec PyProof.Rows L2
@[simp] def xKeysT (f : Fr → Res AV) : Fr → Res (List PyData) := fun fr => (f fr).bind fun a fr1 => match a with
  | .dct true kvs => .ok (kvs.map (·.1)) fr1
  | _ => .err
end G
namespace G
open PySem PySem.Spec PyProof.Rows L2
def spN (p : Par) (C : CExc) (m : AFun) (n : Nat) : Sp := fun vs H Q E => vs.length = n ∧ ∃ (S : Addr → Prop) (W0 : List Addr) (as : List AV) (cells : List Cell),
  RepAs p H (ok0 S W0) (W0.map some) vs as ∧ W0.Nodup ∧ cells.length = W0.length ∧ (∀ (i : Nat) (a : Addr), W0[i]? = some a → ∃ cl, cells[i]? = some cl ∧ CellAt p H (ok0 S W0) (fun _ => none) a cl) ∧ TabF p.K H H (W0.map some) ∧
  match m as cells with
  | .ok r cs => ∀ v H', PostF p H S W0 cs H' → RepA p H' (okF H (fun _ => False) W0) [] v r → Q v H'
  | .exc cl fs cs => ∀ Cv d H', PostF p H S W0 cs H' → C cl fs H' Cv d → E Cv d H'
  | .err => False
@[simp] def outN (k : Nat) (fr : Fr) : AV → Option AV
  | .cel i => if k ≤ i then (match fr.cells[i]? with
    | some (.lst ys) => if noLs ys = true then some (.dat (.list ys)) else none
    | _ => none) else none
  | _ => none
@[simp] def finishN (k : Nat) : SRes → CRes
  | .ret a f => match outN k f a with
    | some r => .ok r (f.cells.take k)
    | none => .err
  | .exc c fs f => .exc c fs (f.cells.take k)
  | _ => .err
@[simp] def mkFunN (N n : Nat) (b : Fr → SRes) : AFun := fun as cells => if as.length = n then finishN cells.length (b ⟨as.map some ++ List.replicate (N - n) none, cells, cells.length⟩) else .err
@[simp] def callMN (m : AFun) (as : List AV) : Fr → Res AV := fun fr => if (decide (celsOf as).Nodup && noScr as) = true then (match getAll fr.cells (celsOf as) with
  | some cs => (match m (relab 0 as) cs with
    | .ok (.dat (.list ys)) cs' => if noLs ys = true ∧ cs'.all noLC = true then .ok (.cel fr.cells.length) ((⟨fr.vars, putAll fr.cells (celsOf as) cs', fr.base⟩ : Fr).newc (.lst ys)) else .err
    | .ok _ _ => .err
    | .exc c fs cs' => .exc c fs ⟨fr.vars, putAll fr.cells (celsOf as) cs', fr.base⟩
    | .err => .err)
  | none => .err) else .err
@[simp] def xCallN (m : AFun) (gs : Fr → Res (List AV)) : Fr → Res AV := fun fr => (gs fr).bind fun as fr1 => callMN m as fr1
section
variable {X : Cx} {x : XW} {a : Expr} {f g h : Fr → Res AV} {pos : Pos}
structure DefN (P : Program) (w : World) (K : PySem.W.Frag) (mg : Str → Option Value) (base : Heap) (CX : CXT) (C : CExc) (k : Nat) (n : Str) (np : Nat) (m : AFun) : Prop where
  ex : ∃ (f : Addr) (fd : FuncData) (ps : List Str), FnOk P w K mg base CX k f fd ps (spN ⟨P, w, K⟩ C m np) ∧ mg n = some (.ref f) ∧ PySem.W.keepIn K (.ref f) = true ∧ Binds K fd ps []
theorem spN_of {p : Par} {C : CExc} {m : AFun} {n : Nat} {vs : List V} {H : Hp} {Q : VK} {E : XK} (h : spF p C m n vs H Q E) : spN p C m n vs H Q E := by
  obtain ⟨h1, S, W0, as, cells, h2, h3, h4, h5, h6, h7⟩ := h
  refine ⟨h1, S, W0, as, cells, h2, h3, h4, h5, h6, ?_⟩
  have mono : ∀ a, okF H (fun _ => False) W0 a → okF H S W0 a := fun a ⟨q1, q2⟩ => ⟨q1.imp id fun z => z.elim, q2⟩
  cases q : m as cells with
  | ok r cs =>
    rw [q] at h7
    intro v H' P rv
    refine h7 v H' P ?_
    cases r with
    | dat y => exact Rep.mono mono rv
    | dct tp kvs =>
      obtain ⟨b, e, z1, z2⟩ := rv
      exact ⟨b, e, mono b z1, z2.mono mono⟩
    | cel i => exact rv
    | scr ns => exact rv
    | fn n _ => exact rv
    | pin φ =>
      obtain ⟨b, q1, q2, q3⟩ := rv
      exact ⟨b, q1, mono b q2, q3⟩
    | brd rms cks j =>
      obtain ⟨b, u, q1, q2, q3, q4⟩ := rv
      exact ⟨b, u, q1, mono b q2, q3.mono mono, q4⟩
  | exc cl fs cs =>
    rw [q] at h7
    exact h7
  | err => rw [q] at h7; exact h7.elim
end
@[simp] def xSortN (f : Fr → Res AV) : Fr → Res AV := fun fr => (f fr).bind fun a fr1 => match fr1.view a with
  | some y => (match seqD y with
    | some (_, ys) => if sortOkF ys = true then .ok (.cel fr1.cells.length) (fr1.newc (.lst (ys.mergeSort srtLe))) else .err
    | none => .err)
  | none => .err
theorem DefN.f {P : Program} {w : World} {K : PySem.W.Frag} {mg : Str → Option Value} {base : Heap} {CX : CXT} {C : CExc} {k : Nat} {n : Str} {np : Nat} {m : AFun} (D : DefN P w K mg base CX C k n np m) : DefF P w K mg base CX C k n np m := by
  obtain ⟨f, fd, ps, F, h1, h2, h3⟩ := D.ex
  exact ⟨⟨f, fd, ps, F.imp fun vs H Q E h => spN_of h, h1, h2, h3⟩⟩
end G
namespace G
open PySem PySem.Spec PyProof.Rows L2
@[simp] def xSortRange (i0 : Nat) (g : Fr → Res AV) (f : Fr → Res AV) : Fr → Res AV := fun fr => (f fr).bind fun av fr1 => match av with
  | .dat (.int j) => if 0 ≤ j ∧ j ≤ 1000000 then sortK i0 g (rangeD 0 j.toNat) fr1 else .err
  | _ => .err
end G
namespace G
open PySem PySem.Spec PyProof.Rows L2
@[simp] def dAddI : PyData → PyData → Option PyData
  | .int i, .int j => some (.int (i + j))
  | _, _ => none
theorem i_add {X : Cx} : OpR X (inplaceOp .Add) (rOp2 X.K dAddI) := by
  intro pins s σ H xv yv v u Q I rx ry ⟨ok, dx, dy, r, hok, hx, hy, e, q⟩
  cases dx with
  | int i =>
    cases dy with
    | int j =>
      cases e; cases hx.int; cases hy.int
      exact iop_add pins s σ H _ _ v u Q I rx ry ⟨i, j, rfl, rfl, q _ H Grow.refl (.int _)⟩
    | _ => cases e
  | _ => cases e
@[simp] def xRowAt (f g : Fr → Res AV) : Fr → Res AV := fun fr => (f fr).bind fun a fr1 => match a with
  | .cel k => (g fr1).bind fun b fr2 => (match b with
    | .dat (.int i) => (match fr2.cells[k]? with
      | some (.rows ks) => if 0 ≤ i then (match ks[i.toNat]? with
        | some j => .ok (.cel j) fr2
        | none => .err) else .err
      | _ => .err)
    | _ => .err)
  | _ => .err
section
variable {X : Cx} {x : XW} {a b e elt tg : Expr} {f g : Fr → Res AV} {pos : Pos}
theorem paired_at {α β : Type} {R : α → β → Prop} {xs : List α} {ys : List β} (h : Paired R xs ys) : ∀ {i : Nat} {y : β}, ys[i]? = some y → ∃ v, xs[i]? = some v ∧ R v y := by
  induction h with
  | nil => intro i y e; simp at e
  | cons r _ ih =>
    intro i y e
    cases i with
    | zero => simp at e; subst e; exact ⟨_, rfl, r⟩
    | succ j => obtain ⟨v, h1, h2⟩ := ih (i := j) (by simpa using e); exact ⟨v, by simpa using h1, h2⟩
theorem rfA_some {n i k : Nat} {ad : List (Option Addr)} {b : Addr} (e : rfA n ad i k = some b) : n ≤ k ∧ k < i ∧ ad[k]? = some (some b) := by
  unfold rfA at e
  split at e
  · rename_i h
    refine ⟨h.1, h.2, ?_⟩
    cases q : ad[k]? with
    | none => rw [q] at e; cases e
    | some z => rw [q] at e; rw [show z = some b from e]
  · cases e
theorem rfA_of {n i k : Nat} {ad : List (Option Addr)} {b : Addr} (h1 : n ≤ k) (h2 : k < i) (e : ad[k]? = some (some b)) : rfA n ad i k = some b := by
  unfold rfA
  rw [if_pos ⟨h1, h2⟩, e]; rfl
end
def compR (own : List Nat) (g : Tg) (t : Fr → Res Bool) (f : Fr → Res AV) (vars : List (Option AV)) (bs : Nat) : List PyData → List Nat → List Cell → Option (List Nat × List Cell)
  | [], acc, cs => some (acc, cs)
  | y :: ys, acc, cs => match g y ⟨kill own vars, cs, bs⟩ with
    | some fr1 => (match t fr1 with
      | .ok b fr2 => if b = true then (match f fr2 with
        | .ok (.cel k) fr3 => if bs ≤ k then compR own g t f vars bs ys (acc ++ [k]) fr3.cells else none
        | _ => none) else compR own g t f vars bs ys acc fr2.cells
      | _ => none)
    | none => none
@[simp] def xRowsC (own : List Nat) (e : Fr → Res (List PyData)) (g : Tg) (t : Fr → Res Bool) (f : Fr → Res AV) : Fr → Res AV := fun fr => (e fr).bind fun ys fr1 => if ys.length ≤ 1000000 then (match compR own g t f fr1.vars fr1.base ys [] fr1.cells with
  | some (acc, cs) => .ok (.cel cs.length) ((⟨fr1.vars, cs, fr1.base⟩ : Fr).newc (.rows acc))
  | none => .err) else .err
/-- the lists at the cells ks -/
abbrev RowL (ad : List (Option Addr)) (lo : Nat) : List V → List Nat → Prop := Paired fun (v : V) (k : Nat) => ∃ b, v = .ref b ∧ lo ≤ k ∧ ad[k]? = some (some b)
theorem RowL.pre {ad ad' : List (Option Addr)} {lo : Nat} {vs : List V} {ks : List Nat} (h : RowL ad lo vs ks) (hp : ∀ (i : Nat) (x : Option Addr), ad[i]? = some x → ad'[i]? = some x) : RowL ad' lo vs ks :=
  Paired.mapP h fun _ _ ⟨b, e, l, z⟩ => ⟨b, e, l, hp _ _ z⟩
theorem paired_app {α β : Type} {R : α → β → Prop} {xs : List α} {ys : List β} {x : α} {y : β} (h : Paired R xs ys) (r : R x y) : Paired R (xs ++ [x]) (ys ++ [y]) := by
  induction h with
  | nil => exact .cons r .nil
  | cons q _ ih => exact .cons q ih
section
variable {X : Cx} {x : XW} {tg e elt : Expr} {ef : Fr → Res (List PyData)} {g : Tg} {t : Fr → Res Bool} {f : Fr → Res AV} {is : List Nat} {pos : Pos} {ifs : List Expr} {scope : Scope} {own : List (Str × Nat)}
theorem lcR_read {σ : L2.St} {H : Hp} {Q : VK} (hsub : ∀ i ∈ is, i ∈ own.map (·.2)) (h : tE (pX X) x (xRowsC (own.map (·.2)) ef g t f) σ H Q) :
    tLc (tI (pX X) x ef) (tG (pX X) is g) (tT (pX X) (xb x) t) (tE (pX X) (xb x) f) (own.map (·.2)) σ H Q := by
  obtain ⟨c, fr, ad, F, o⟩ := h
  refine ⟨c, fr, ad, F, (Out.bind F o).mono fun ys fr1 ad1 H1 F1 m1 o1 J qs hq wk D hD => ?_⟩
  by_cases hlen : ys.length ≤ 1000000
  rotate_left
  · rw [if_neg hlen] at o1; exact o1.elim
  rw [if_pos hlen] at o1
  have hDe := he_new F1 hD
  have gr1 : Grow H1 (upd H1 D (.lst [])) := Grow.new hD
  have F1h := (F1.plus hq).hold (vs := []) hD
  generalize hown : own.map (·.2) = ow at *
  refine ⟨fun i m H => i ≤ ys.length ∧ m = ys.length - i ∧ ∃ (acc : List Nat) (cs : List Cell) (ad : List (Option Addr)) (vs : List V), FR (pX X) ((c.plus qs).hold D) ⟨fr1.vars, cs, fr1.base⟩ ad σ H ∧ H D = some (.lst vs) ∧ RowL ad c.lo vs acc ∧ acc.length ≤ i ∧ Mv H1 ad1 H ad ∧
      (match compR ow g t f fr1.vars fr1.base (ys.drop i) acc cs with
        | some (r, cs') => ∀ ad' H' vs, FR (pX X) (c.hold D) ⟨fr1.vars, cs', fr1.base⟩ ad' σ H' → Mv H1 ad1 H' ad' → H' D = some (.lst vs) → RowL ad' c.lo vs r → r.length ≤ 1000000 → Q (.ref D) H'
        | none => False), ⟨ys.length, Nat.zero_le _, by simp, [], fr1.cells, ad1, [], F1h, upd_same, .nil, Nat.le_refl _, Mv.grow gr1, ?_⟩, ?_⟩
  · rw [List.drop_zero]
    cases q : compR ow g t f fr1.vars fr1.base ys [] fr1.cells with
    | none => rw [q] at o1; exact o1.elim
    | some r =>
      obtain ⟨r, cs'⟩ := r
      rw [q] at o1
      intro ad' H' vs F' m' e' r' hl'
      have hDp : D ∉ c.prot := fun z => by
        obtain ⟨_, u, e⟩ := F1.pr D z
        rw [hD] at e; cases e
      have F2 := F'.adopt (cl := .rows r) hDe hDp ⟨vs, e', by rw [sizeLine_eq]; omega, Paired.mapP r' fun _ _ ⟨b, e, hl, z⟩ => ⟨b, e, rfA_of hl (lt_of_at z) z⟩⟩
      refine o1 _ _ F2 ⟨m'.keep, fun i y z => snoc_pre (m'.pre i y z), fun a h => ?_, m'.there⟩ _ ⟨D, rfl, by rw [F'.clen]; simp⟩
      rcases List.mem_append.mp h with h | h
      · exact m'.new a h
      · have e : a = D := by simpa using h
        exact .inr (by rw [e]; exact hD)
  · rintro i m H2 ⟨hi2, rfl, acc, cs, ad2, vs, F2, hD2, racc, hacc, m2, o2⟩
    by_cases hlt : i < ys.length
    · right
      have ey : ys[i]? = some ys[i] := by rw [List.getElem?_eq_getElem hlt]
      obtain ⟨h1, h2⟩ := wk.go _ H2 i _ (FR.ghs (c := c.hold D) ⟨F2.len, F2.var, F2.clen, F2.cel, F2.nd, F2.old, F2.sub, F2.adw, F2.gh, F2.pr, F2.bs, F2.tabs⟩) ey
      refine ⟨h1, _, fun H' h => ⟨ys.length - (i + 1), by omega, hlt, rfl, h⟩, fun v H3 hy => ?_⟩
      obtain ⟨gr, rv⟩ := h2 v H3 hy
      rw [List.drop_eq_getElem_cons hlt] at o2
      unfold compR at o2
      have F3 := F2.grow gr
      have D3 := gr D _ hD2
      cases q1 : g ys[i] ⟨kill ow fr1.vars, cs, fr1.base⟩ with
      | none => rw [q1] at o2; exact o2.elim
      | some fr4 =>
        rw [q1] at o2
        simp only at o2
        refine ⟨(c.plus qs).hold D, ⟨kill ow fr1.vars, cs, fr1.base⟩, ad2, _, fr4, F3.wipe ow, rv, q1, fun σ4 F4 oa => ⟨?_, (c.plus qs).hold D, fr4, ad2, F4, ?_⟩⟩
        · rw [oa ow hsub]
          exact wipe_sub fun _ h => h
        · cases q2 : t fr4 with
          | exc cl fs fr5 => rw [q2] at o2; exact o2.elim
          | err => rw [q2] at o2; exact o2.elim
          | ok b fr5 =>
            rw [q2] at o2
            simp only at o2
            intro ad5 H5 F5 m5
            have B5 := F3.back m5 F5
            have M5 : Mv H1 ad1 H5 ad5 := (m2.trans F1 (Mv.grow gr)).trans F1 m5
            have D5 := m5.keep D _ D3 (F3.pr D (List.mem_cons_self ..)).1 trivial
            have r5 := racc.pre m5.pre
            cases b with
            | false =>
              simp only [Bool.false_eq_true, if_false] at o2 ⊢
              exact ⟨acc, fr5.cells, ad5, vs, B5, D5, r5, by omega, M5, o2⟩
            | true =>
              simp only [if_true] at o2 ⊢
              refine ⟨(c.plus qs).hold D, fr5, ad5, F5, ?_⟩
              cases q3 : f fr5 with
              | exc cl fs fr6 => rw [q3] at o2; exact o2.elim
              | err => rw [q3] at o2; exact o2.elim
              | ok av fr6 =>
                rw [q3] at o2
                intro ad6 H6 F6 m6 w rw_
                cases av with
                | cel k =>
                  simp only at o2
                  by_cases hk : fr1.base ≤ k
                  rotate_left
                  · rw [if_neg hk] at o2; exact o2.elim
                  rw [if_pos hk] at o2
                  have B6 := B5.back m6 F6
                  have M6 := M5.trans F1 m6
                  have D6 := m6.keep D _ D5 (B5.pr D (List.mem_cons_self ..)).1 trivial
                  have r6 := r5.pre m6.pre
                  have len := Paired.length r6
                  obtain ⟨b, rfl, hb⟩ := rw_
                  obtain ⟨F7, k7⟩ := B6.fill hDe (ws := vs ++ [.ref b]) D6
                  have hlo : c.lo ≤ k := by
                    have e1 := F1.bs
                    unfold Ent.lo
                    omega
                  refine ⟨vs, D6, by rw [sizeLine_eq]; omega, acc ++ [k], fr6.cells, ad6, vs ++ [.ref b], F7, upd_same, paired_app r6 ⟨b, rfl, hlo, hb⟩, by simp; omega, ?_, o2⟩
                  refine ⟨fun b u e n => ?_, M6.pre, M6.new, fun b h => ?_⟩
                  · have nb : b ≠ D := fun z => by rw [z, hD] at e; cases e
                    rw [upd_ne nb]; exact M6.keep b u e n
                  · by_cases z : b = D
                    · subst z; rw [upd_same]; simp
                    · rw [upd_ne z]; exact M6.there b h
                | _ => exact o2.elim
    · have e1 : i = ys.length := by omega
      subst e1
      left
      refine ⟨wk.stop _ H2 (FR.ghs (c := c.hold D) ⟨F2.len, F2.var, F2.clen, F2.cel, F2.nd, F2.old, F2.sub, F2.adw, F2.gh, F2.pr, F2.bs, F2.tabs⟩), ?_⟩
      rw [List.drop_length] at o2
      have o3 : ∀ ad' H' vs, FR (pX X) (c.hold D) ⟨fr1.vars, cs, fr1.base⟩ ad' σ H' → Mv H1 ad1 H' ad' → H' D = some (.lst vs) → RowL ad' c.lo vs acc → acc.length ≤ 1000000 → Q (.ref D) H' := o2
      have F2' : FR (pX X) (c.hold D) ⟨fr1.vars, cs, fr1.base⟩ ad2 σ H2 := FR.less (qs := qs) ⟨F2.len, F2.var, F2.clen, F2.cel, F2.nd, F2.old, F2.sub, F2.adw, F2.gh, F2.pr, F2.bs, F2.tabs⟩
      exact o3 ad2 H2 vs F2' m2 hD2 racc (by omega)
theorem as_setRows {i : Nat} {n : Str} {p1 spos : Pos} (hc : X.calm = true) (hN : X.N.Nodup) (hy : X.N[i]? = some n) (hyl : X.env.scope.names.lookup n = some .local) (hsw : swapsWith (.ListComp elt [⟨tg, e, ifs, 0⟩] scope pos) (some (.Name n p1)) spos.line X.env = pure true)
    (hi : AI X x tg e ef) (ok : BlkOk X.N X.env.scope scope own) (hg : Blk X scope fun Y => AG Y tg is g) (ht : Blk X scope fun Y => ATs Y (xb x) ifs t) (he : Blk X scope fun Y => AE Y (xb x) elt f)
    (hsub : ∀ i ∈ is, i ∈ own.map (·.2)) (hs : ∀ z, foldedSetIterable e X.env z = pure z := by intro _; rfl) : AS X x (.Assign [.Name n p1] (.ListComp elt [⟨tg, e, ifs, 0⟩] scope pos) spos) (sSet i (xRowsC (own.map (·.2)) ef g t f)) :=
  (ps_setLc hc hN hy hyl hsw hi ok hg ht he hs).imp fun D σ H ⟨c, fr, ad, F, o⟩ => lcR_read hsub ⟨c, fr, ad, F, (SOut.of F o).mono fun av fr1 ad1 H1 F1 m1 o1 v rv => o1 ad1 _ H1 (F1.setv rv)⟩
end
end G
namespace G
open PySem PySem.Spec PyProof.Rows L2
@[simp] def frgS (S : Nat → Bool) : Option AV → Option AV
  | some (.cel j) => if S j = true then none else some (.cel j)
  | some (.brd rooms cooks j) => if S j = true then none else some (.brd rooms cooks j)
  | v => v
def adF (S : Nat → Bool) (ad : List (Option Addr)) : List (Option Addr) := ad.mapIdx fun j a => if S j = true then none else a
def celF (S : Nat → Bool) (cs : List Cell) : List Cell := cs.mapIdx fun j a => if S j = true then .gone else a
@[simp] def rwD (cs : List Cell) : List Nat → Option (List PyData)
  | [] => some []
  | k :: ks => match cs[k]?, rwD cs ks with
    | some (.lst ds), some r => some (.list ds :: r)
    | _, _ => none
@[simp] def inS (m : Nat) (ks : List Nat) (j : Nat) : Bool := j == m || ks.contains j
@[simp] def Fr.frzR (fr : Fr) (i : Nat) : Option Fr := match fr.vars[i]? with
  | some (some (.cel m)) => (match fr.cells[m]? with
    | some (.rows ks) => (match rwD fr.cells ks with
      | some ds => if fr.base ≤ m ∧ (ks.all fun k => decide (fr.base ≤ k)) = true ∧ (celF (inS m ks) fr.cells).any isRow = false then
          some ((⟨fr.vars.map (frgS (inS m ks)), celF (inS m ks) fr.cells, fr.base⟩ : Fr).setv i (some (.dat (.list ds)))).gc else none
      | none => none)
    | _ => none)
  | _ => none
@[simp] def sFrzR (i : Nat) (f : Fr → SRes) : Fr → SRes := fun fr => match fr.frzR i with
  | some fr1 => f fr1
  | none => .err
section
variable {p : Par} {c : Ent} {fr fr2 : Fr} {ad : List (Option Addr)} {σ : L2.St} {H H' : Hp}
theorem adF_at {S : Nat → Bool} {ad : List (Option Addr)} {i : Nat} {a : Addr} : (adF S ad)[i]? = some (some a) ↔ S i = false ∧ ad[i]? = some (some a) := by
  unfold adF
  rw [List.getElem?_mapIdx]
  cases q : ad[i]? with
  | none => simp
  | some z => cases h : S i <;> simp
theorem celF_at {S : Nat → Bool} {cs : List Cell} {i : Nat} {cl : Cell} (h : S i = false) (e : cs[i]? = some cl) : (celF S cs)[i]? = some cl := by
  unfold celF
  rw [List.getElem?_mapIdx, e]
  simp [h]
theorem adF_mem {S : Nat → Bool} {ad : List (Option Addr)} {a : Addr} (h : some a ∈ adF S ad) : some a ∈ ad := by
  obtain ⟨i, e⟩ := mem_at h
  exact List.mem_of_getElem? (adF_at.mp e).2
theorem FR.forgetS (F : FR p c fr ad σ H) (S : Nat → Bool) (hS : ∀ i, S i = true → c.W0.length ≤ i) (hr : ∀ i cl, fr.cells[i]? = some cl → S i = false → isRow cl = false) :
    FR p c ⟨fr.vars.map (frgS S), celF S fr.cells, fr.base⟩ (adF S ad) σ H ∧ (∀ a, okP c ad a → okP c (adF S ad) a) ∧ ∀ i a, S i = true → ad[i]? = some (some a) → okP c (adF S ad) a := by
  have mono : ∀ a, okP c ad a → okP c (adF S ad) a := fun a h => ⟨h.1, fun m => h.2 (adF_mem m)⟩
  have rep : ∀ {v : V} {av av' : AV}, RepA p H (okP c ad) ad v av → frgS S (some av) = some av' → RepA p H (okP c (adF S ad)) (adF S ad) v av' := fun {v av av'} r e => by
    cases av with
    | dat y => cases e; exact Rep.mono mono r
    | dct tp kvs => cases e; obtain ⟨b, e, h1, h2⟩ := r; exact ⟨b, e, mono b h1, h2.mono mono⟩
    | cel j =>
      simp only [frgS] at e
      split at e
      · cases e
      · rename_i h
        cases e
        obtain ⟨b, e, h1⟩ := r
        exact ⟨b, e, adF_at.mpr ⟨by simpa using h, h1⟩⟩
    | brd rooms cooks j =>
      simp only [frgS] at e
      split at e
      · cases e
      · rename_i h
        cases e
        obtain ⟨b, u, e, h1, h2, h3⟩ := r
        exact ⟨b, u, e, mono b h1, h2.mono mono, adF_at.mpr ⟨by simpa using h, h3⟩⟩
    | scr ns => cases e; exact r
    | fn n o => cases e; exact r
    | pin φ => cases e; obtain ⟨b, e, h1, h2⟩ := r; exact ⟨b, e, mono b h1, h2⟩
  refine ⟨⟨by rw [List.length_map]; exact F.len, fun i av e => ?_, ?_, fun i a e => ?_, fun i j a e1 e2 => F.nd i j a (adF_at.mp e1).2 (adF_at.mp e2).2, F.old, fun i a e => ?_, fun a h => F.adw a (adF_mem h), fun q hq => ?_, fun a ha => ⟨fun z => (F.pr a ha).1 (adF_mem z), (F.pr a ha).2⟩, F.bs, F.tabs.sub (adp_sub fun a h => adF_mem h)⟩, mono, fun i a hi e => ?_⟩
  · have e' : (fr.vars.map (frgS S))[i]? = some (some av) := e
    rw [List.getElem?_map] at e'
    cases q : fr.vars[i]? with
    | none => rw [q] at e'; cases e'
    | some w =>
      rw [q] at e'
      cases w with
      | none => cases e'
      | some av0 =>
        obtain ⟨v, h1, h2⟩ := F.var i av0 q
        exact ⟨v, h1, rep h2 (Option.some.inj e')⟩
  · show (celF S fr.cells).length = (adF S ad).length
    unfold celF adF
    rw [List.length_mapIdx, List.length_mapIdx]; exact F.clen
  · obtain ⟨h1, h2⟩ := adF_at.mp e
    obtain ⟨cl, h3, h4⟩ := F.cel i a h2
    exact ⟨cl, celF_at h1 h3, CellAt.nrow (hr i cl h3 h1) (h4.mono mono)⟩
  · refine adF_at.mpr ⟨?_, F.sub i a e⟩
    cases q : S i with
    | false => rfl
    | true =>
      have := hS i q
      have := lt_of_at e
      omega
  · obtain ⟨h1, h2⟩ := F.gh q hq
    refine ⟨h1, ?_⟩
    obtain ⟨v, av⟩ := q
    cases av with
    | dat y => exact rep h2 rfl
    | dct tp kvs => exact rep h2 rfl
    | pin φ => exact rep h2 rfl
    | cel i => cases h1
    | scr ns => cases h1
    | brd _ _ _ => cases h1
    | fn _ _ => cases h1
  · refine ⟨⟨.inl ?_, fun hp => (F.pr a hp).1 (List.mem_of_getElem? e)⟩, fun m => ?_⟩
    · rcases F.adw a (List.mem_of_getElem? e) with z | z
      · obtain ⟨j, e2⟩ := mem_at z
        have h1 := F.nd j i a (F.sub j a e2) e
        have h2 := hS i hi
        have h3 := lt_of_at e2
        omega
      · exact z
    · obtain ⟨j, e2⟩ := mem_at m
      obtain ⟨h1, h2⟩ := adF_at.mp e2
      have h3 := F.nd j i a h2 e
      rw [h3, hi] at h1; cases h1
theorem rwD_rep {cs : List Cell} {S : Nat → Bool} {ok : Addr → Prop} (hcel : ∀ (i : Nat) (a : Addr), S i = true → ad[i]? = some (some a) → ok a ∧ ∃ cl, cs[i]? = some cl ∧ ∀ ds, cl = .lst ds → ∃ xs, H a = some (.lst xs) ∧ ds.length ≤ sizeLine ∧ RepL p.K H ok xs ds) :
    ∀ {vs : List V} {ks : List Nat} {ds : List PyData}, Paired (fun (v : V) (k : Nat) => ∃ b, v = .ref b ∧ ad[k]? = some (some b)) vs ks → (∀ k ∈ ks, S k = true) → rwD cs ks = some ds → RepL p.K H ok vs ds := by
  intro vs ks ds h
  induction h generalizing ds with
  | nil => intro _ e; cases e; exact .nil
  | @cons v k vs ks r _ ih =>
    intro hk e
    obtain ⟨b, rfl, hb⟩ := r
    obtain ⟨okb, cl, h1, h2⟩ := hcel k b (hk k (List.mem_cons_self ..)) hb
    unfold rwD at e
    rw [h1] at e
    cases cl with
    | lst xs =>
      cases q : rwD cs ks with
      | none => rw [q] at e; cases e
      | some r =>
        rw [q] at e
        cases e
        obtain ⟨us, h3, h4, h5⟩ := h2 xs rfl
        exact .cons (.lst okb h3 h4 h5) (ih (fun k z => hk k (List.mem_cons_of_mem _ z)) q)
    | _ => cases q : rwD cs ks <;> (rw [q] at e; cases e)
theorem FR.frzR (F : FR p c fr ad σ H) {i : Nat} (h : fr.frzR i = some fr2) : ∃ ad', FR p c fr2 ad' σ H := by
  unfold Fr.frzR at h
  cases q1 : fr.vars[i]? with
  | none => rw [q1] at h; cases h
  | some w =>
    rw [q1] at h
    cases w with
    | none => cases h
    | some av =>
      cases av with
      | cel m =>
        simp only at h
        obtain ⟨v, hv, l, rfl, hl⟩ := F.var i _ q1
        obtain ⟨cl, hc, hcl⟩ := F.cel m l hl
        rw [hc] at h
        cases cl with
        | rows ks =>
          simp only at h
          cases q2 : rwD fr.cells ks with
          | none => rw [q2] at h; cases h
          | some ds =>
            rw [q2] at h
            simp only at h
            split at h
            · rename_i hh
              obtain ⟨hm, hks, hrow⟩ := hh
              cases h
              obtain ⟨xs, e1, hz, r⟩ := hcl
              have hb := F.bs
              have hS : ∀ j, inS m ks j = true → c.W0.length ≤ j := fun j z => by
                simp only [inS, Bool.or_eq_true, beq_iff_eq, List.contains_iff_mem] at z
                rcases z with z | z
                · omega
                · have := List.all_eq_true.mp hks j z
                  simp only [decide_eq_true_eq] at this
                  omega
              obtain ⟨F2, mono, okS⟩ := F.forgetS (inS m ks) hS fun j cl2 e z => by
                cases y : isRow cl2 with
                | false => rfl
                | true =>
                  have : (celF (inS m ks) fr.cells).any isRow = true := List.any_eq_true.mpr ⟨cl2, List.mem_of_getElem? (celF_at z e), y⟩
                  rw [this] at hrow; cases hrow
              have r2 : RepL p.K H (okP c (adF (inS m ks) ad)) xs ds := by
                refine rwD_rep (ad := ad) (S := inS m ks) (cs := fr.cells) (fun j b hj e => ⟨okS j b hj e, ?_⟩) (Paired.mapP r fun _ _ ⟨b, e, z⟩ => ⟨b, e, (rfA_some z).2.2⟩) (fun k hk => by simp [hk]) q2
                obtain ⟨cl3, h3, h4⟩ := F.cel j b e
                refine ⟨cl3, h3, fun ds' ez => ?_⟩
                subst ez
                obtain ⟨us, h5, h6, h7⟩ := h4
                exact ⟨us, h5, h6, h7.mono mono⟩
              have hlen : ds.length ≤ sizeLine := by
                have a1 := Paired.length r
                have a2 := r2.length
                omega
              have F3 := F2.setv (i := i) (v := .ref l) (a := .dat (.list ds)) (.lst (okS m l (by simp) hl) e1 hlen r2)
              have hσ : σ.set i (some (.ref l)) = σ := by
                apply List.ext_getElem?
                intro j
                by_cases hj : i = j
                · subst hj
                  rw [List.getElem?_set_self (lt_of_at hv), hv]
                · rw [List.getElem?_set_ne hj]
              rw [hσ] at F3
              exact F3.gc
            · cases h
        | _ => cases h
      | _ => cases h
end
@[simp] def SRes.low (bs : Nat) : SRes → SRes
  | .nx f => .nx ⟨f.vars, f.cells, bs⟩
  | .ret a f => .ret a ⟨f.vars, f.cells, bs⟩
  | .bk f => .bk ⟨f.vars, f.cells, bs⟩
  | .ct f => .ct ⟨f.vars, f.cells, bs⟩
  | .exc c fs f => .exc c fs ⟨f.vars, f.cells, bs⟩
  | .err => .err
def forR (m s : Nat) (ks0 : List Nat) (b : Fr → SRes) : List Nat → Fr → SRes
  | [], fr => (match fr.cells[m]? with
    | some (.rows ks1) => if ks1 = ks0 then .nx fr else .err
    | _ => .err)
  | k :: ks, fr => (match fr.cells[m]? with
    | some (.rows ks1) => if ks1 = ks0 then (match b (fr.setv s (some (.cel k))) with
      | .nx f2 => forR m s ks0 b ks f2
      | .ct f2 => forR m s ks0 b ks f2
      | .bk f2 => .nx f2
      | r => r) else .err
    | _ => .err)
@[simp] def sForR (i s : Nat) (b : Fr → SRes) : Fr → SRes := fun fr => match fr.vars[i]? with
  | some (some (.cel m)) => (match fr.cells[m]? with
    | some (.rows ks) => if ks = List.range' fr.base (m - fr.base) ∧ fr.base ≤ m then (forR m s ks b ks ⟨fr.vars, fr.cells, m + 1⟩).low fr.base else .err
    | _ => .err)
  | _ => .err
section
variable {p : Par} {c : Ent} {fr : Fr} {ad : List (Option Addr)} {σ : L2.St} {H H' : Hp}
/-- one's own cells, held -/
abbrev Ent.rise (c : Ent) (W : List Addr) : Ent := { c with W0 := W, up := c.up + (W.length - c.W0.length) }
theorem rise_lo {W : List Addr} (h : c.W0.length ≤ W.length) : (c.rise W).lo = c.lo := by
  show W.length - (c.up + (W.length - c.W0.length)) = c.W0.length - c.up
  omega
theorem FR.rise (F : FR p c fr ad σ H) {n : Nat} (hn : fr.base ≤ n) (ha : ∀ i, i < n → ∃ a, ad[i]? = some (some a)) :
    ∃ W : List Addr, W.length = n ∧ (∀ (i : Nat) (a : Addr), W[i]? = some a ↔ i < n ∧ ad[i]? = some (some a)) ∧ FR p (c.rise W) ⟨fr.vars, fr.cells, n⟩ ad σ H := by
  have hW : ∀ n, (∀ i, i < n → ∃ a, ad[i]? = some (some a)) → ∃ W : List Addr, W.length = n ∧ ∀ (i : Nat) (a : Addr), W[i]? = some a ↔ i < n ∧ ad[i]? = some (some a) := by
    intro n
    induction n with
    | zero => intro _; exact ⟨[], rfl, fun i a => by simp⟩
    | succ n ih =>
      intro h
      obtain ⟨W, h1, h2⟩ := ih fun i hi => h i (by omega)
      obtain ⟨a, e⟩ := h n (by omega)
      refine ⟨W ++ [a], by simp [h1], fun i b => ?_⟩
      by_cases hi : i < n
      · rw [List.getElem?_append_left (by omega), h2 i b]
        exact ⟨fun z => ⟨by omega, z.2⟩, fun z => ⟨hi, z.2⟩⟩
      · by_cases hin : i = n
        · subst hin
          rw [List.getElem?_append_right (by omega), h1, Nat.sub_self, e]
          simp [eq_comm]
        · rw [List.getElem?_append_right (by omega)]
          constructor
          · intro z
            have := lt_of_at z
            simp at this
            omega
          · intro z; omega
  obtain ⟨W, h1, h2⟩ := hW n ha
  have hb := F.bs
  have sub : ∀ a, a ∈ c.W0 → a ∈ W := fun a m => by
    obtain ⟨i, e⟩ := mem_at m
    exact List.mem_of_getElem? ((h2 i a).mpr ⟨by have := lt_of_at e; omega, F.sub i a e⟩)
  have el := rise_lo (c := c) (W := W) (by omega)
  refine ⟨W, h1, h2, F.len, F.var, F.clen, ?_, F.nd, fun b o e n => F.old b o e fun m => n (sub b m), fun i a e => ((h2 i a).mp e).2, fun a m => (F.adw a m).imp (sub a) id, F.gh, F.pr, h1.symm, F.tabs⟩
  rw [el]
  exact F.cel
theorem FR.fall {W : List Addr} (F : FR p (c.rise W) fr ad σ H) (hp : ∀ (i : Nat) (a : Addr), c.W0[i]? = some a → W[i]? = some a) (hn : ∀ a, a ∈ W → a ∈ c.W0 ∨ c.He a = none) (hl : c.W0.length ≤ W.length) : FR p c ⟨fr.vars, fr.cells, c.W0.length⟩ ad σ H := by
  have el := rise_lo (c := c) (W := W) hl
  refine ⟨F.len, F.var, F.clen, ?_, F.nd, fun b o e n => F.old b o e fun m => ?_, fun i a e => F.sub i a (hp i a e), fun a m => ?_, F.gh, F.pr, rfl, F.tabs⟩
  · have z := F.cel
    rw [el] at z
    exact z
  · rcases hn b m with z | z
    · exact n z
    · rw [z] at e; cases e
  · rcases F.adw a m with z | z
    · exact hn a z
    · exact .inr z
end
section
variable {X : Cx} {x : XW} {e : Expr} {n : Str} {b : Fr → SRes} {body : List Stmt} {pos p1 : Pos} {i s : Nat}
theorem as_forR (hp : PassesOwn (model X.prog X.w) X.A X.env X.xe) (hc : X.calm = true) (he : AE X x e (xVar i)) (hN : X.N.Nodup) (hi : X.N[s]? = some n) (hx : Loc X.env.scope n) (hb : ASs X x body b)
    (hf : X.fn n = true ∨ X.env.scope.names.lookup n = some .local := by first | exact .inl rfl | exact .inr rfl | assumption) (hs : ∀ z, foldedSetIterable e X.env z = pure z := by intro _; rfl) : AS X x (.For (.Name n p1) e body [] pos) (sForR i s b) := by
  refine (ps_for hp hc (pi_list he) (pg_name hN hi hx hf) hb hs).imp fun D σ H ⟨c, fr, ad, F, o⟩ => ?_
  unfold sForR at o
  cases q1 : fr.vars[i]? with
  | none => rw [q1] at o; exact o.elim
  | some w =>
    rw [q1] at o
    cases w with
    | none => exact o.elim
    | some av =>
      cases av with
      | cel m =>
        simp only at o
        cases hcc : fr.cells[m]? with
        | none => rw [hcc] at o; exact o.elim
        | some cl =>
        rw [hcc] at o
        cases cl with
        | rows ks =>
          simp only at o
          split at o
          rotate_left
          · exact o.elim
          rename_i hh
          obtain ⟨hks, hbm⟩ := hh
          refine ⟨c, fr, ad, F, ?_⟩
          unfold xVar
          rw [q1]
          intro ad1 H1 F1 m1 v1 rv1
          clear m1 F
          obtain ⟨l, rfl, hl⟩ := rv1
          obtain ⟨cl, hc2, hcl⟩ := F1.cel m l hl
          rw [hcc] at hc2
          cases hc2
          obtain ⟨xs, e1, hz, r⟩ := hcl
          have hb0 := F1.bs
          have hr0 : ∀ (j k : Nat), ks[j]? = some k → ∃ b, xs[j]? = some (.ref b) ∧ ad1[k]? = some (some b) := fun j k e => by
            obtain ⟨v, h1, b, rfl, h2⟩ := paired_at r e
            exact ⟨b, h1, (rfA_some h2).2.2⟩
          have hall : ∀ j, j < m + 1 → ∃ a, ad1[j]? = some (some a) := fun j hj => by
            by_cases h1 : j < c.W0.length
            · exact ⟨c.W0[j], F1.sub j _ (by rw [List.getElem?_eq_getElem h1])⟩
            · by_cases h2 : j = m
              · exact ⟨l, by rw [h2]; exact hl⟩
              · obtain ⟨b, _, h3⟩ := hr0 (j - fr.base) j (by rw [hks, List.getElem?_range' (by omega)]; congr 1; omega)
                exact ⟨b, h3⟩
          obtain ⟨W, w1, w2, F2⟩ := F1.rise (n := m + 1) (by omega) hall
          have hpre : ∀ (j : Nat) (a : Addr), c.W0[j]? = some a → W[j]? = some a := fun j a e => (w2 j a).mpr ⟨by have := lt_of_at e; omega, F1.sub j a e⟩
          have hnew : ∀ a, a ∈ W → a ∈ c.W0 ∨ c.He a = none := fun a z => by
            obtain ⟨j, e⟩ := mem_at z
            exact F1.adw a (List.mem_of_getElem? ((w2 j a).mp e).2)
          have hle : c.W0.length ≤ W.length := by omega
          have fall : ∀ {fr2 : Fr} {ad : List (Option Addr)} {σ : L2.St} {H : Hp}, FR (pX X) (c.rise W) fr2 ad σ H → FR (pX X) c ⟨fr2.vars, fr2.cells, fr.base⟩ ad σ H := fun F => by
            rw [hb0]; exact F.fall hpre hnew hle
          have hks2 : ∀ (j k : Nat), ks[j]? = some k → ∃ b, xs[j]? = some (.ref b) ∧ W[k]? = some b := fun j k e => by
            obtain ⟨b, h1, h2⟩ := hr0 j k e
            refine ⟨b, h1, (w2 k b).mpr ⟨?_, h2⟩⟩
            have := List.mem_of_getElem? e
            rw [hks, List.mem_range'] at this
            obtain ⟨z, h3, h4⟩ := this
            omega
          have hWm : W[m]? = some l := (w2 m l).mpr ⟨by omega, hl⟩
          have xl : xs.length = ks.length := Paired.length r
          -- the heap's list, of what a frame says
          have hlist : ∀ {fr : Fr} {ad : List (Option Addr)} {σ : L2.St} {H : Hp}, FR (pX X) (c.rise W) fr ad σ H → fr.cells[m]? = some (.rows ks) → H l = some (.lst xs) := fun {fr ad σ H} F e => by
            obtain ⟨cl, h1, h2⟩ := F.cel m l (F.sub m l hWm)
            rw [e] at h1
            cases h1
            obtain ⟨ys, h3, _, h4⟩ := h2
            rw [h3]
            congr 2
            apply List.ext_getElem?
            intro j
            have yl : ys.length = ks.length := Paired.length h4
            by_cases hj : j < ks.length
            · obtain ⟨b, h5, h6⟩ := hks2 j ks[j] (by rw [List.getElem?_eq_getElem hj])
              obtain ⟨v, h7, b2, rfl, h8⟩ := paired_at h4 (show ks[j]? = some ks[j] by rw [List.getElem?_eq_getElem hj])
              have h9 := (rfA_some h8).2.2
              rw [F.sub _ b h6] at h9
              rw [h5, h7]
              injection h9 with h9
              injection h9 with h9
              rw [h9]
            · rw [List.getElem?_eq_none (by omega), List.getElem?_eq_none (by omega)]
          refine ⟨l, rfl, ⟨xs, SqL.of e1⟩, fun j n σ H => j ≤ ks.length ∧ n = ks.length - j ∧ ∃ fr2 ad, FR (pX X) (c.rise W) fr2 ad σ H ∧ SOut (pX X) x c ((forR m s ks b (ks.drop j) fr2).low fr.base) D, ⟨ks.length, Nat.zero_le _, by simp, _, ad1, F2, o⟩, ?_⟩
          rintro j n σ2 H2 ⟨hj, rfl, fr2, ad2, F3, o2⟩
          by_cases hlt : j < ks.length
          · right
            rw [List.drop_eq_getElem_cons hlt] at o2
            unfold forR at o2
            cases q2 : fr2.cells[m]? with
            | none => rw [q2] at o2; exact o2.elim
            | some cl2 =>
              rw [q2] at o2
              cases cl2 with
              | rows ks1 =>
                simp only at o2
                split at o2
                · rename_i eks
                  subst eks
                  have hl3 := hlist F3 q2
                  obtain ⟨b3, h5, h6⟩ := hks2 j ks1[j] (by rw [List.getElem?_eq_getElem hlt])
                  refine ⟨⟨xs, _, SqL.of hl3, h5⟩, fun σ' H' => ∃ fr3 ad, FR (pX X) (c.rise W) fr3 ad σ' H' ∧ SOut (pX X) x c ((forR m s ks1 b (ks1.drop (j + 1)) fr3).low fr.base) D, fun σ' H' h => ⟨ks1.length - (j + 1), by omega, hlt, rfl, h⟩, fun v H4 hy => ?_⟩
                  obtain ⟨rfl, hy⟩ := hy
                  have hy2 := hy xs (SqL.of hl3)
                  rw [h5] at hy2
                  cases hy2
                  have F4 := F3.setv (i := s) (v := .ref b3) (a := .cel ks1[j]) ⟨b3, rfl, F3.sub _ _ h6⟩
                  refine ⟨c.rise W, _, ad2, F4, ?_⟩
                  cases q3 : b (fr2.setv s (some (.cel ks1[j]))) with
                  | nx f4 => rw [q3] at o2; exact fun ad4 σ4 H4 F5 => ⟨f4, ad4, F5, o2⟩
                  | ct f4 => rw [q3] at o2; exact fun ad4 σ4 H4 F5 => ⟨f4, ad4, F5, o2⟩
                  | bk f4 => rw [q3] at o2; exact fun ad4 σ4 H4 F5 => o2 ad4 σ4 H4 (fall F5)
                  | ret a f4 => rw [q3] at o2; exact fun ad4 σ4 H4 v4 F5 r4 => o2 ad4 σ4 H4 v4 (fall F5) r4
                  | exc cl fs f4 => rw [q3] at o2; exact fun ad4 σ4 H4 C d F5 hx => o2 ad4 σ4 H4 C d (fall F5) hx
                  | err => rw [q3] at o2; exact o2.elim
                · exact o2.elim
              | _ => exact o2.elim
          · have ej : j = ks.length := by omega
            subst ej
            left
            rw [List.drop_length] at o2
            unfold forR at o2
            cases q2 : fr2.cells[m]? with
            | none => rw [q2] at o2; exact o2.elim
            | some cl2 =>
              rw [q2] at o2
              cases cl2 with
              | rows ks1 =>
                simp only at o2
                split at o2
                · rename_i eks
                  subst eks
                  exact ⟨⟨xs, SqL.of (hlist F3 q2), by omega⟩, o2 ad2 σ2 H2 (fall F3)⟩
                · exact o2.elim
              | _ => exact o2.elim
        | _ => exact o.elim
      | _ => exact o.elim
end
end G
namespace G
open PySem PySem.Spec PyProof.Rows L2
theorem compA_pure {own : List Nat} {g : Tg} {t : Fr → Res Bool} {f : Fr → Res AV} {vars : List (Option AV)} {bs : Nat} {cs : List Cell} (p : PyData → Bool) (h : PyData → PyData) : ∀ (ys acc : List PyData),
    (∀ y ∈ ys, ∃ fr1 fr2, g y ⟨kill own vars, cs, bs⟩ = some fr1 ∧ t fr1 = .ok (p y) fr2 ∧ fr2.cells = cs ∧ (p y = true → ∃ fr3, f fr2 = .ok (.dat (h y)) fr3 ∧ fr3.cells = cs)) → compA own g t f vars bs ys acc cs = some (acc ++ (ys.filter p).map h, cs)
  | [], acc, _ => by simp [compA]
  | y :: ys, acc, st => by
    obtain ⟨fr1, fr2, h1, h2, h3, h4⟩ := st y (List.mem_cons_self ..)
    have ih := fun acc => compA_pure p h ys acc fun z hz => st z (List.mem_cons_of_mem _ hz)
    unfold compA
    rw [h1]
    simp only [h2]
    cases q : p y with
    | false =>
      simp only [Bool.false_eq_true, if_false]
      rw [h3, ih, List.filter_cons_of_neg (by rw [q]; decide)]
    | true =>
      obtain ⟨fr3, h5, h6⟩ := h4 q
      simp only [if_true, h5]
      rw [h6, ih, List.filter_cons_of_pos q, List.map_cons, List.append_assoc]
      rfl
theorem forA_all {g : Tg} {b : Fr → SRes} (P : List PyData → Fr → Prop) (ys : List PyData) (fr : Fr) (h0 : P [] fr)
    (st : ∀ done y rest fr, ys = done ++ y :: rest → P done fr → ∃ fr1 fr2, g y fr = some fr1 ∧ (b fr1 = .nx fr2 ∨ b fr1 = .ct fr2) ∧ P (done ++ [y]) fr2) : ∃ fr', forA g b ys fr = .nx fr' ∧ P ys fr' := by
  have go : ∀ (zs done : List PyData) (fr : Fr), ys = done ++ zs → P done fr → ∃ fr', forA g b zs fr = .nx fr' ∧ P ys fr' := by
    intro zs
    induction zs with
    | nil => intro done fr e h; exact ⟨fr, rfl, by rw [e, List.append_nil]; exact h⟩
    | cons y zs ih =>
      intro done fr e h
      obtain ⟨fr1, fr2, h1, h2, h3⟩ := st done y zs fr e h
      obtain ⟨fr', h4, h5⟩ := ih (done ++ [y]) fr2 (by rw [e]; simp) h3
      refine ⟨fr', ?_, h5⟩
      unfold forA
      rw [h1]
      rcases h2 with h2 | h2 <;> simp only [h2] <;> exact h4
  exact go ys [] fr rfl h0
theorem compA_all {own : List Nat} {g : Tg} {t : Fr → Res Bool} {f : Fr → Res AV} {vars : List (Option AV)} {bs : Nat} (J : List PyData → List PyData → List Cell → Prop) (ys : List PyData) (cs : List Cell) (h0 : J [] [] cs)
    (st : ∀ done y rest acc cs, ys = done ++ y :: rest → J done acc cs → ∃ fr1 b fr2, g y ⟨kill own vars, cs, bs⟩ = some fr1 ∧ t fr1 = .ok b fr2 ∧ (b = false → J (done ++ [y]) acc fr2.cells) ∧ (b = true → ∃ z fr3, f fr2 = .ok (.dat z) fr3 ∧ J (done ++ [y]) (acc ++ [z]) fr3.cells)) :
    ∃ acc' cs', compA own g t f vars bs ys [] cs = some (acc', cs') ∧ J ys acc' cs' := by
  have go : ∀ (zs done acc : List PyData) (cs : List Cell), ys = done ++ zs → J done acc cs → ∃ acc' cs', compA own g t f vars bs zs acc cs = some (acc', cs') ∧ J ys acc' cs' := by
    intro zs
    induction zs with
    | nil => intro done acc cs e h; exact ⟨acc, cs, rfl, by rw [e, List.append_nil]; exact h⟩
    | cons y zs ih =>
      intro done acc cs e h
      obtain ⟨fr1, b, fr2, h1, h2, h3, h4⟩ := st done y zs acc cs e h
      unfold compA
      rw [h1]
      simp only [h2]
      cases b with
      | false =>
        simp only [Bool.false_eq_true, if_false]
        exact ih (done ++ [y]) acc fr2.cells (by rw [e]; simp) (h3 rfl)
      | true =>
        simp only [if_true]
        obtain ⟨z, fr3, h5, h6⟩ := h4 rfl
        simp only [h5]
        exact ih (done ++ [y]) (acc ++ [z]) fr3.cells (by rw [e]; simp) h6
  exact go ys [] [] cs rfl h0
theorem mulOk_of {i j : Int} (hi : i.natAbs < 2 ^ 1000) (hj : j.natAbs < 2 ^ 1000) : mulOk i j = true := by
  unfold mulOk
  refine decide_eq_true ?_
  have h1 : i.natAbs.log2 ≤ 1000 := by
    by_cases h : i.natAbs = 0
    · rw [h]; simp
    · exact Nat.le_of_lt ((Nat.log2_lt h).mpr hi)
  have h2 : j.natAbs.log2 ≤ 1000 := by
    by_cases h : j.natAbs = 0
    · rw [h]; simp
    · exact Nat.le_of_lt ((Nat.log2_lt h).mpr hj)
  show i.natAbs.log2 + j.natAbs.log2 < 1000000
  omega
theorem powOk_of {i : Int} {j : Nat} (hi : i.natAbs < 2 ^ 64) (hj : j ≤ 1000) : powOk i j = true := by
  unfold powOk
  refine decide_eq_true ⟨by omega, by omega, hi⟩
theorem divOk_of {j : Int} (h0 : 0 < j) (hj : j.natAbs < 2 ^ 1000) : divOk j = true := by
  unfold divOk
  refine decide_eq_true ⟨h0, ?_⟩
  have := (Nat.log2_lt (n := j.natAbs) (k := 1000) (by omega)).mpr hj
  omega
theorem two_pow_le {n : Nat} {i : Int} (h : i.natAbs < 2 ^ 64) : i.natAbs < 2 ^ 1000 := Nat.lt_of_lt_of_le h (Nat.pow_le_pow_right (by decide) (by decide))
end G
namespace G
open PySem PySem.Spec PyProof.Rows L2
def b__law_deck : Fr → SRes :=
  sSeq (sIf (xB (xOp2 dGe (xVar 0) (xOp2 dPow (xC (.int 10)) (xC (.int 18))))) (sRet (xLst (xCons (xOp2 dSub (xVar 0) (xOp2 dPow (xC (.int 10)) (xC (.int 18)))) (xCons (xOp2 dMod (xVar 0) (xC (.int 2147483579))) (xCons (xVar 1) (xNil)))))) (sNx))
  (sRet (xLst (xCons (xC (.int 0)) (xCons (xOp2 dMod (xVar 0) (xC (.int 2147483579))) (xCons (xVar 1) (xNil))))))
def m__law_deck : AFun := mkFun 2 2 b__law_deck
def b__law_pick : Fr → SRes :=
  sSeq (sIf (xB (xOp2 dGt (xIx (xVar 0) (xC (.int 0))) (xC (.int 1)))) (sSeq (sSet 2 (xOp2 dMod (xIx (xVar 0) (xC (.int 0))) (xVar 1)))
  (sSeq (sSetIx 0 (xC (.int 0)) (xOp2 dFdiv (xIx (xVar 0) (xC (.int 0))) (xVar 1)))
  (sRet (xVar 2)))) (sNx))
  (sSeq (sSetIx 0 (xC (.int 2)) (xOp2 dAdd (xIx (xVar 0) (xC (.int 2))) (xC (.int 1))))
  (sSeq (sSet 3 (xOp2 dMod (xOp2 dPow (xOp2 dAdd (xIx (xVar 0) (xC (.int 1))) (xOp2 dMul (xC (.int 15485867)) (xIx (xVar 0) (xC (.int 2))))) (xC (.int 5))) (xC (.int 2147483647))))
  (sSeq (sSet 2 (xOp2 dFdiv (xOp2 dMod (xOp2 dPow (xOp2 dAdd (xVar 3) (xOp2 dMul (xC (.int 7919)) (xIx (xVar 0) (xC (.int 2))))) (xC (.int 3))) (xC (.int 2147483629))) (xC (.int 32))))
  (sRet (xOp2 dMod (xVar 2) (xVar 1))))))
def m__law_pick : AFun := mkFun 4 2 b__law_pick
def b__law_one : Fr → SRes :=
  sRet (xIx (xVar 1) (xCall m__law_pick (xCons (xVar 0) (xCons (xB1 dLen (xCons (xVar 1) (xNil))) (xNil)))))
def m__law_one : AFun := mkFun 2 2 b__law_one
def b__law_frac_t1 : Fr → Res Bool :=
  xB (xOp2 dGt (xVar 3) (xC (.int 0)))
def b__law_frac_l1 : Fr → SRes :=
  sKill [4] (sSeq (sSet 4 (xOp2 dMod (xVar 2) (xVar 3)))
  (sSeq (sSet 2 (xVar 3))
  (sSet 3 (xVar 4))))
def b__law_frac : Fr → SRes :=
  sSeq (sPar 2 3 (xCons (xB1 dAbs (xCons (xVar 0) (xNil))) (xCons (xB1 dAbs (xCons (xVar 1) (xNil))) (xNil))))
  (sSeq (sWh (b__law_frac_t1) (b__law_frac_l1) (fun fr => natOf 3 fr + 2))
  (sKill [3, 4] (sRet (xTup (xCons (xOp2 dFdiv (xVar 0) (xVar 2)) (xCons (xOp2 dFdiv (xVar 1) (xVar 2)) (xNil)))))))
def m__law_frac : AFun := mkFun 5 2 b__law_frac
def b__law_amount : Fr → SRes :=
  sRet (xCall m__law_frac (xCons (xOp2 dAdd (xC (.int 1)) (xCall m__law_pick (xCons (xVar 0) (xCons (xC (.int 40)) (xNil))))) (xCons (xCall m__law_one (xCons (xVar 0) (xCons (xLst (xCons (xC (.int 1)) (xCons (xC (.int 1)) (xCons (xC (.int 2)) (xCons (xC (.int 3)) (xCons (xC (.int 7)) (xNil))))))) (xNil)))) (xNil))))
def m__law_amount : AFun := mkFun 1 1 b__law_amount
def b__law_marks_t1 : Fr → Res Bool :=
  xB (xOp2 dEq (xCall m__law_pick (xCons (xVar 0) (xCons (xVar 1) (xNil)))) (xC (.int 0)))
def b__law_marks_e1 : Fr → Res AV :=
  xVar 3
def b__law_marks : Fr → SRes :=
  sSeq (sSet 2 (xLst (xCons (xC (.str "dairy")) (xCons (xC (.str "egg")) (xCons (xC (.str "gluten")) (xCons (xC (.str "nuts")) (xNil)))))))
  (sRet (xB1 dTuple (xCons (xComp [3] (xItems (xVar 2)) (tName 3) (b__law_marks_t1) (b__law_marks_e1)) (xNil))))
def m__law_marks : AFun := mkFun 4 2 b__law_marks
def b__law_goods_l1 : Fr → SRes :=
  sKill [3] (sSeq (sSet 3 (xCall m__law_one (xCons (xVar 0) (xCons (xLst (xCons (xC (.int 0)) (xCons (xC (.int 1)) (xCons (xC (.int 3)) (xCons (xC (.int 30)) (xNil)))))) (xNil)))))
  (sApp 1 (xTup (xCons (xVar 2) (xCons (xOp2 dAdd (xC (.int 1)) (xCall m__law_pick (xCons (xVar 0) (xCons (xC (.int 1000)) (xNil))))) (xCons (xCall m__law_pick (xCons (xVar 0) (xCons (xC (.int 500)) (xNil)))) (xCons (xVar 3) (xCons (xCall m__law_marks (xCons (xVar 0) (xCons (xC (.int 3)) (xNil)))) (xNil)))))))))
def b__law_goods : Fr → SRes :=
  sSeq (sSet 1 (xNewL (xNil)))
  (sSeq (sFor (xItems (xSl (xLst (xCons (xC (.str "apple")) (xCons (xC (.str "eggs")) (xCons (xC (.str "flour")) (xCons (xC (.str "milk")) (xCons (xC (.str "nut")) (xCons (xC (.str "salt")) (xNil)))))))) (xNo) (xSo (xOp2 dAdd (xC (.int 2)) (xCall m__law_pick (xCons (xVar 0) (xCons (xC (.int 5)) (xNil)))))))) (tName 2) (b__law_goods_l1))
  (sKill [2, 3] (sRet (xB1 dTuple (xCons (xVar 1) (xNil))))))
def m__law_goods : AFun := mkFun 4 1 b__law_goods
def b__law_store_l1 : Fr → SRes :=
  sKill [3] (sDSet 2 (xTup (xCons (xIx (xCall m__law_one (xCons (xVar 0) (xCons (xVar 1) (xNil)))) (xC (.int 0))) (xCons (xCall m__law_pick (xCons (xVar 0) (xCons (xC (.int 12)) (xNil)))) (xNil)))) (xCall m__law_amount (xCons (xVar 0) (xNil))))
def b__law_store_e1 : Fr → Res AV :=
  xOp2 dAdd (xVar 4) (xTup (xCons (xDGet (xVar 2) (xVar 4)) (xNil)))
def b__law_store : Fr → SRes :=
  sSeq (sSet 2 (xNewD true))
  (sSeq (sFor (xRange1 (xCall m__law_pick (xCons (xVar 0) (xCons (xC (.int 9)) (xNil))))) (tName 3) (b__law_store_l1))
  (sKill [3] (sRet (xB1 dTuple (xCons (xComp [4] (xItems (xD1 dSortedK (xVar 2))) (tName 4) (xYes) (b__law_store_e1)) (xNil))))))
def m__law_store : AFun := mkFun 5 2 b__law_store
structure Dk where
  a : Int
  b : Int
  c : Int
def Dk.l (d : Dk) : List PyData := [.int d.a, .int d.b, .int d.c]
/-- n more may be drawn -/
structure Dk.ok (n : Nat) (d : Dk) : Prop where
  b0 : 0 ≤ d.b
  b1 : d.b < 2147483648
  c0 : 0 ≤ d.c
  c1 : d.c + n ≤ 100000000
theorem Dk.ok.less {n m : Nat} {d : Dk} (h : d.ok n) (hm : m ≤ n) : d.ok m := ⟨h.b0, h.b1, h.c0, by have := h.c1; omega⟩
theorem s_deck (cell t : Int) (ht : 0 ≤ t) (ht2 : t ≤ 1000) : ∃ d : Dk, m__law_deck [.dat (.int cell), .dat (.int t)] [] = .ok (.dat (.list d.l)) [] ∧ d.ok 90000000 := by
  have p1 : powOk 10 18 = true := by decide
  have h0 : 0 ≤ cell % 2147483579 := Int.emod_nonneg _ (by decide)
  have h1 : cell % 2147483579 < 2147483579 := Int.emod_lt_of_pos _ (by decide)
  unfold m__law_deck b__law_deck
  by_cases h : 1000000000000000000 ≤ cell
  · refine ⟨⟨cell - 1000000000000000000, cell % 2147483579, t⟩, ?_, ⟨h0, by show cell % _ < _; omega, ht, by show t + _ ≤ _; omega⟩⟩
    simp [Dk.l, dGe, dPow, p1, h, dSub, dMod]
  · refine ⟨⟨0, cell % 2147483579, t⟩, ?_, ⟨h0, by show cell % _ < _; omega, ht, by show t + _ ≤ _; omega⟩⟩
    simp [Dk.l, dGe, dPow, p1, h, dSub, dMod]
theorem s_pick {n : Nat} {d : Dk} {k : Int} (h : d.ok (n + 1)) (hk : 0 < k) (hk2 : k < 2147483648) : ∃ v d', m__law_pick [.cel 0, .dat (.int k)] [.lst d.l] = .ok (.dat (.int v)) [.lst (Dk.l d')] ∧ d'.ok n ∧ 0 ≤ v ∧ v < k := by
  obtain ⟨b0, b1, c0, c1⟩ := h
  unfold m__law_pick b__law_pick
  by_cases ha : 1 < d.a
  · refine ⟨d.a % k, ⟨d.a / k, d.b, d.c⟩, ?_, ⟨b0, b1, c0, by show d.c + _ ≤ _; omega⟩, Int.emod_nonneg _ (by omega), Int.emod_lt_of_pos _ hk⟩
    have hdk : divOk k = true := divOk_of hk (two_pow_le (n := 0) (by omega))
    simp [Dk.l, ha, hk, dIx, atI, ixN, dGt, dMod, dFdiv, hdk]
  · have m1 : mulOk 15485867 (d.c + 1) = true := mulOk_of (two_pow_le (n := 0) (by decide)) (two_pow_le (n := 0) (by omega))
    have p1 : powOk (d.b + 15485867 * (d.c + 1)) 5 = true := powOk_of (j := 5) (by omega) (by omega)
    have m2 : mulOk 7919 (d.c + 1) = true := mulOk_of (two_pow_le (n := 0) (by decide)) (two_pow_le (n := 0) (by omega))
    generalize hz : (d.b + 15485867 * (d.c + 1)) ^ 5 % 2147483647 = z
    have z0 : 0 ≤ z := by rw [← hz]; exact Int.emod_nonneg _ (by decide)
    have z1 : z < 2147483647 := by rw [← hz]; exact Int.emod_lt_of_pos _ (by decide)
    have p2 : powOk (z + 7919 * (d.c + 1)) 3 = true := powOk_of (j := 3) (by omega) (by omega)
    have d32 : divOk 32 = true := divOk_of (by decide) (two_pow_le (n := 0) (by decide))
    refine ⟨(z + 7919 * (d.c + 1)) ^ 3 % 2147483629 / 32 % k, ⟨d.a, d.b, d.c + 1⟩, ?_, ⟨b0, b1, by show 0 ≤ d.c + 1; omega, by show d.c + 1 + _ ≤ _; omega⟩, Int.emod_nonneg _ (by omega), Int.emod_lt_of_pos _ hk⟩
    simp [Dk.l, ha, hk, dIx, atI, ixN, dGt, dMod, dFdiv, dAdd, dMul, dPow, m1, p1, m2, hz, p2, d32]
theorem atI_of {xs : List PyData} {v : Int} (h0 : 0 ≤ v) (h1 : v < xs.length) : ∃ x, atI xs v = some x ∧ x ∈ xs := by
  have hl : v.toNat < xs.length := by omega
  refine ⟨xs[v.toNat], ?_, List.getElem_mem hl⟩
  unfold atI ixN
  simp [h0, h1, hl]
theorem s_one {n : Nat} {d : Dk} {xs : List PyData} (h : d.ok (n + 1)) (hx : 0 < xs.length) (hx2 : xs.length < 2147483648) : ∃ x d', m__law_one [.cel 0, .dat (.list xs)] [.lst d.l] = .ok (.dat x) [.lst (Dk.l d')] ∧ d'.ok n ∧ x ∈ xs := by
  obtain ⟨v, d', e, h1, h2, h3⟩ := s_pick h (k := xs.length) (by omega) (by omega)
  obtain ⟨x, hx3, hm⟩ := atI_of h2 h3
  refine ⟨x, d', ?_, h1, hm⟩
  unfold m__law_one b__law_one
  simp [e, dIx, hx3]
theorem s_oneT {n : Nat} {d : Dk} {xs : List PyData} (h : d.ok (n + 1)) (hx : 0 < xs.length) (hx2 : xs.length < 2147483648) : ∃ x d', m__law_one [.cel 0, .dat (.tuple xs)] [.lst d.l] = .ok (.dat x) [.lst (Dk.l d')] ∧ d'.ok n ∧ x ∈ xs := by
  obtain ⟨v, d', e, h1, h2, h3⟩ := s_pick h (k := xs.length) (by omega) (by omega)
  obtain ⟨x, hx3, hm⟩ := atI_of h2 h3
  refine ⟨x, d', ?_, h1, hm⟩
  unfold m__law_one b__law_one
  simp [e, dIx, hx3]
theorem frac_loop (T B : AV) : ∀ (n x y : Nat) (r : Option AV) (cs : List Cell) (bs : Nat), y < n → ∃ r', whA b__law_frac_t1 b__law_frac_l1 n ⟨[some T, some B, some (.dat (.int x)), some (.dat (.int y)), r], cs, bs⟩ = .nx ⟨[some T, some B, some (.dat (.int (Nat.gcd x y : Nat))), some (.dat (.int 0)), r'], cs, bs⟩
  | 0, _, _, _, _, _, h => by omega
  | n + 1, x, 0, r, cs, bs, h => by
    refine ⟨r, ?_⟩
    unfold whA
    simp [b__law_frac_t1, dGt]
  | n + 1, x, y + 1, r, cs, bs, h => by
    have hlt : x % (y + 1) < y + 1 := Nat.mod_lt _ (by omega)
    obtain ⟨r', ih⟩ := frac_loop T B n (y + 1) (x % (y + 1)) (some (.dat (.int ((x % (y + 1) : Nat) : Int)))) cs bs (by omega)
    refine ⟨r', ?_⟩
    unfold whA
    have e1 : (0 : Int) < (y : Int) + 1 := by omega
    have e2 : ((x : Int) % ((y : Int) + 1)) = ((x % (y + 1) : Nat) : Int) := by simp
    have e3 : Nat.gcd x (y + 1) = Nat.gcd (y + 1) (x % (y + 1)) := by rw [Nat.gcd_comm x, Nat.gcd_rec, Nat.gcd_comm]
    rw [e3, ← ih]
    simp [b__law_frac_t1, b__law_frac_l1, dGt, dMod, e1]
theorem abs_nat (i : Int) : (if i < 0 then -i else i) = ((i.natAbs : Nat) : Int) := by split <;> omega
theorem s_frac (p q : Int) (hq : 0 < q) (hq2 : q.natAbs < 2 ^ 1000) : m__law_frac [.dat (.int p), .dat (.int q)] [] = .ok (.dat (.tuple [.int (p / (Nat.gcd p.natAbs q.natAbs : Nat)), .int (q / (Nat.gcd p.natAbs q.natAbs : Nat))])) [] := by
  have g0 : 0 < Nat.gcd p.natAbs q.natAbs := Nat.gcd_pos_of_pos_right _ (by omega)
  have g1 : Nat.gcd p.natAbs q.natAbs ≤ q.natAbs := Nat.gcd_le_right _ (by omega)
  have hd : divOk ((Nat.gcd p.natAbs q.natAbs : Nat) : Int) = true := divOk_of (by omega) (by rw [Int.natAbs_natCast]; omega)
  obtain ⟨r', e⟩ := frac_loop (.dat (.int p)) (.dat (.int q)) (q.natAbs + 2) p.natAbs q.natAbs none [] 0 (by omega)
  unfold m__law_frac b__law_frac
  simp [abs_nat, natOf, e, dFdiv, hd]
/-- an amount: two whole numbers above nought -/
inductive IsAmt : PyData → Prop
  | mk {p q : Int} : 0 < p → 0 < q → p ≤ 40 → q ≤ 7 → Nat.gcd p.natAbs q.natAbs = 1 → IsAmt (.tuple [.int p, .int q])
theorem s_amount {n : Nat} {d : Dk} (h : d.ok (n + 2)) : ∃ x d', m__law_amount [.cel 0] [.lst d.l] = .ok (.dat x) [.lst (Dk.l d')] ∧ d'.ok n ∧ IsAmt x := by
  obtain ⟨v, d1, e1, h1, v0, v1⟩ := s_pick (n := n + 1) h (k := 40) (by decide) (by decide)
  obtain ⟨x, d2, e2, h2, hm⟩ := s_one (n := n) h1 (xs := [.int 1, .int 1, .int 2, .int 3, .int 7]) (by decide) (by decide)
  obtain ⟨q, rfl, q0, q1⟩ : ∃ q : Int, x = .int q ∧ 0 < q ∧ q ≤ 7 := by
    simp at hm
    rcases hm with rfl | rfl | rfl | rfl <;> exact ⟨_, rfl, by decide, by decide⟩
  have e3 := s_frac (1 + v) q q0 (two_pow_le (n := 0) (by omega))
  have g0 : 0 < Nat.gcd (1 + v).natAbs q.natAbs := Nat.gcd_pos_of_pos_right _ (by omega)
  generalize hg : Nat.gcd (1 + v).natAbs q.natAbs = g at *
  have d1' : g ∣ (1 + v).natAbs := by rw [← hg]; exact Nat.gcd_dvd_left _ _
  have d2' : g ∣ q.natAbs := by rw [← hg]; exact Nat.gcd_dvd_right _ _
  obtain ⟨a, ha⟩ := d1'
  obtain ⟨b, hb⟩ := d2'
  have pe : 1 + v = (g : Int) * a := by
    have : ((1 + v).natAbs : Int) = ((g * a : Nat) : Int) := by rw [ha]
    rw [Int.natCast_mul] at this; omega
  have qe : q = (g : Int) * b := by
    have : (q.natAbs : Int) = ((g * b : Nat) : Int) := by rw [hb]
    rw [Int.natCast_mul] at this; omega
  have gi : (g : Int) ≠ 0 := by omega
  have pd : (1 + v) / (g : Int) = a := by rw [pe]; exact Int.mul_ediv_cancel_left _ gi
  have qd : q / (g : Int) = b := by rw [qe]; exact Int.mul_ediv_cancel_left _ gi
  rw [pd, qd] at e3
  have a0 : 0 < a := by
    rcases Nat.eq_zero_or_pos a with z | z
    · rw [z] at ha; omega
    · exact z
  have b0 : 0 < b := by
    rcases Nat.eq_zero_or_pos b with z | z
    · rw [z] at hb; omega
    · exact z
  have ale : a ≤ g * a := Nat.le_mul_of_pos_left _ g0
  have ble : b ≤ g * b := Nat.le_mul_of_pos_left _ g0
  refine ⟨_, d2, ?_, h2, .mk (p := a) (q := b) (by omega) (by omega) (by omega) (by omega) ?_⟩
  · unfold m__law_amount b__law_amount
    simp [e1, dAdd, e2, e3]
  · rw [Int.natAbs_natCast, Int.natAbs_natCast]
    have z : Nat.gcd (g * a) (g * b) = g := by rw [← ha, ← hb]; exact hg
    rw [Nat.gcd_mul_left] at z
    exact Nat.eq_of_mul_eq_mul_left g0 (by omega)
theorem s_marks {n : Nat} {d : Dk} {k : Int} (h : d.ok (n + 4)) (hk : 0 < k) (hk2 : k < 2147483648) : ∃ xs d', m__law_marks [.cel 0, .dat (.int k)] [.lst d.l] = .ok (.dat (.tuple xs)) [.lst (Dk.l d')] ∧ d'.ok n ∧ List.Sublist xs [.str "dairy", .str "egg", .str "gluten", .str "nuts"] := by
  have key := compA_all (own := [3]) (g := tName 3) (t := b__law_marks_t1) (f := b__law_marks_e1) (vars := [some (.cel 0), some (.dat (.int k)), some (.dat (.list [.str "dairy", .str "egg", .str "gluten", .str "nuts"])), none]) (bs := 1)
    (fun done acc cs => List.Sublist acc done ∧ ∃ d' : Dk, cs = [.lst d'.l] ∧ d'.ok (n + 4 - done.length)) [.str "dairy", .str "egg", .str "gluten", .str "nuts"] [.lst d.l] ⟨.slnil, d, rfl, h⟩ ?_
  · obtain ⟨acc, cs, e, hs, d', rfl, hd⟩ := key
    refine ⟨acc, d', ?_, by simpa using hd, by simpa using hs⟩
    unfold m__law_marks b__law_marks
    simp [xComp, e]
  · rintro done y rest acc cs hy ⟨hs, d', rfl, hd⟩
    have hl : done.length < 4 := by
      have := congrArg List.length hy
      simp at this; omega
    obtain ⟨v, d2, e, h2, v0, v1⟩ := s_pick (n := n + 4 - (done ++ [y]).length) (d := d') (hd.less (by simp; omega)) hk hk2
    have z1 : eqOk (.int v) (.int 0) = true := by unfold eqOk; exact decide_eq_true (by simp [PyData.depth])
    refine ⟨_, PyData.eqv (.int v) (.int 0), ⟨[some (.cel 0), some (.dat (.int k)), some (.dat (.list [.str "dairy", .str "egg", .str "gluten", .str "nuts"])), some (.dat y)], [.lst d2.l], 1⟩, rfl, ?_, fun hb => ?_, fun hb => ⟨y, _, rfl, ?_⟩⟩
    · simp [b__law_marks_t1, e, dEq, z1]
    · exact ⟨hs.trans (List.sublist_append_left _ _), d2, rfl, h2⟩
    · exact ⟨List.Sublist.append hs (List.Sublist.refl _), d2, rfl, h2⟩
/-- a good, as the laws draw it -/
inductive IsGd : PyData → Prop
  | mk {z : Str} {a b c : Int} {ms : List PyData} : z ∈ (["apple", "eggs", "flour", "milk", "nut", "salt"] : List Str) → 0 < a → a ≤ 1000 → 0 ≤ b → b < 500 → c ∈ ([0, 1, 3, 30] : List Int) → List.Sublist ms [.str "dairy", .str "egg", .str "gluten", .str "nuts"] → IsGd (.tuple [.str z, .int a, .int b, .int c, .tuple ms])
def nmD : PyData → PyData
  | .tuple (x :: _) => x
  | _ => .none
abbrev gnames : List PyData := [.str "apple", .str "eggs", .str "flour", .str "milk", .str "nut", .str "salt"]
theorem cut_take (xs : List PyData) (v : Int) (h0 : 0 ≤ v) : cutD xs none (some v) = xs.take v.toNat := by
  unfold cutD HT.sIx
  simp only [List.drop_zero, Nat.sub_zero]
  rw [if_neg (by omega), List.take_eq_take_iff]
  omega
theorem s_goods {n : Nat} {d : Dk} (h : d.ok (n + 43)) : ∃ gs d', m__law_goods [.cel 0] [.lst d.l] = .ok (.dat (.tuple gs)) [.lst (Dk.l d')] ∧ d'.ok n ∧ (∀ g ∈ gs, IsGd g) ∧ 2 ≤ gs.length ∧ gs.map nmD = gnames.take gs.length := by
  obtain ⟨v, d1, e1, h1, v0, v1⟩ := s_pick (n := n + 42) h (k := 5) (by decide) (by decide)
  have key := forA_all (g := tName 2) (b := b__law_goods_l1) (fun done fr => ∃ (d' : Dk) (gs : List PyData) (v2 v3 : Option AV), fr = ⟨[some (.cel 0), some (.cel 1), v2, v3], [.lst d'.l, .lst gs], 1⟩ ∧ d'.ok (n + 7 * (6 - done.length)) ∧ (∀ g ∈ gs, IsGd g) ∧ gs.map nmD = done)
    (gnames.take (2 + v).toNat) ⟨[some (.cel 0), some (.cel 1), none, none], [.lst d1.l, .lst []], 1⟩ ⟨d1, [], none, none, rfl, h1, (fun g hg => nomatch hg), rfl⟩ ?_
  · obtain ⟨fr', e, d', gs, v2, v3, rfl, h2, h3, h4⟩ := key
    have hl : gs.length = (gnames.take (2 + v).toNat).length := by rw [← h4, List.length_map]
    have hl2 : gs.length = min (2 + v).toNat 6 := by rw [hl, List.length_take]; rfl
    refine ⟨gs, d', ?_, h2.less (by omega), h3, by omega, ?_⟩
    · unfold m__law_goods b__law_goods
      simp [e1, dAdd, dSl, cut_take _ (2 + v) (by omega), e]
    · rw [h4, hl, List.length_take, List.take_eq_take_iff]
      simp
  · rintro done y rest fr hy ⟨d', gs, v2, v3, rfl, hd, hg, hm⟩
    have hlen : done.length < 6 := by
      have := congrArg List.length hy
      rw [List.length_take] at this
      simp at this; omega
    have ymem : y ∈ gnames := List.mem_of_mem_take (i := (2 + v).toNat) (by rw [hy]; simp)
    obtain ⟨z, rfl, hz⟩ : ∃ z : Str, y = .str z ∧ z ∈ (["apple", "eggs", "flour", "milk", "nut", "salt"] : List Str) := by
      simp [gnames] at ymem
      rcases ymem with rfl | rfl | rfl | rfl | rfl | rfl <;> exact ⟨_, rfl, by simp⟩
    obtain ⟨m, hm7⟩ : ∃ m, n + 7 * (6 - done.length) = n + 7 * (6 - (done ++ [PyData.str z]).length) + 7 ∧ m = 0 := ⟨0, by simp; omega, rfl⟩
    rw [hm7.1] at hd
    generalize n + 7 * (6 - (done ++ [PyData.str z]).length) = q at *
    obtain ⟨x, d2, e2, h2, hx⟩ := s_one (n := q + 6) hd (xs := [.int 0, .int 1, .int 3, .int 30]) (by decide) (by decide)
    obtain ⟨v3, d3, e3, h3, a0, a1⟩ := s_pick (n := q + 5) h2 (k := 1000) (by decide) (by decide)
    obtain ⟨v4, d4, e4, h4, b0, b1⟩ := s_pick (n := q + 4) h3 (k := 500) (by decide) (by decide)
    obtain ⟨ms, d5, e5, h5, hs⟩ := s_marks (n := q) h4 (k := 3) (by decide) (by decide)
    obtain ⟨c, rfl, hc⟩ : ∃ c : Int, x = .int c ∧ c ∈ ([0, 1, 3, 30] : List Int) := by
      simp at hx
      rcases hx with rfl | rfl | rfl | rfl <;> exact ⟨_, rfl, by simp⟩
    have gl : gs.length < 1000000 := by
      have := congrArg List.length hm
      simp at this; omega
    refine ⟨_, ⟨[some (.cel 0), some (.cel 1), some (.dat (.str z)), some (.dat (.int c))], [.lst d5.l, .lst (gs ++ [.tuple [.str z, .int (1 + v3), .int v4, .int c, .tuple ms]])], 1⟩, rfl, .inl ?_, d5, _, _, _, rfl, h5, fun g hg' => ?_, ?_⟩
    · simp [b__law_goods_l1, e2, dAdd, e3, e4, e5, gl]
    · rcases List.mem_append.mp hg' with z1 | z1
      · exact hg g z1
      · cases List.mem_singleton.mp z1
        exact .mk hz (by omega) (by omega) b0 b1 hc hs
    · rw [List.map_append, hm]; rfl
open PySem.W (dataLt dataLe alike keyToks)
theorem srt_eq (x y : PyData) : srtLe x y = !dataLt y x := rfl
theorem srt_total : PySem.W.TotalLe srtLe := PySem.W.sortLe_total _ _ _
theorem srt_pw (l : List PyData) : (l.mergeSort srtLe).Pairwise (fun a b => srtLe a b = true) := PySem.W.sort_pairwise srt_total l
theorem perm_sorted_eq {α : Type} {le : α → α → Prop} : ∀ {l m : List α}, l.Perm m → l.Pairwise le → m.Pairwise le → (∀ a ∈ l, ∀ b ∈ l, le a b → le b a → a = b) → l = m
  | [], m, p, _, _, _ => p.nil_eq
  | a :: l, [], p, _, _, _ => absurd p (by simp)
  | a :: l, b :: m, p, h1, h2, an => by
    rw [List.pairwise_cons] at h1 h2
    have e : a = b := by
      have ha : a ∈ b :: m := p.mem_iff.mp (List.mem_cons_self ..)
      have hb : b ∈ a :: l := p.mem_iff.mpr (List.mem_cons_self ..)
      rcases List.mem_cons.mp ha with e | ha
      · exact e
      · rcases List.mem_cons.mp hb with e | hb
        · exact e.symm
        · exact an a (List.mem_cons_self ..) b (List.mem_cons_of_mem _ hb) (h1.1 b hb) (h2.1 a ha)
    subst e
    rw [perm_sorted_eq p.cons_inv h1.2 h2.2 fun x hx y hy => an x (List.mem_cons_of_mem _ hx) y (List.mem_cons_of_mem _ hy)]
/-- strictly rising -/
abbrev Rise (l : List PyData) : Prop := l.Pairwise fun a b => dataLt a b = true
theorem lt_asym {a b : PyData} (h : dataLt a b = true) : dataLt b a = false := by
  cases q : dataLt b a with
  | false => rfl
  | true =>
    have := (listOrd itemOrd).trans (keyToks a) (keyToks b) (keyToks a) h q
    rw [(listOrd itemOrd).irrefl] at this
    cases this
theorem Rise.sorted {l m : List PyData} (h : Rise l) (p : m.Perm l) : m.mergeSort srtLe = l := by
  refine perm_sorted_eq (le := fun a b => srtLe a b = true) ((List.mergeSort_perm m srtLe).trans p) (srt_pw m) (h.imp fun hab => by rw [srt_eq, lt_asym hab]; rfl) fun a ha b hb h1 h2 => ?_
  have ha' : a ∈ l := ((List.mergeSort_perm m srtLe).trans p).mem_iff.mp ha
  have hb' : b ∈ l := ((List.mergeSort_perm m srtLe).trans p).mem_iff.mp hb
  rw [srt_eq] at h1 h2
  have n1 : dataLt b a = false := by simpa using h1
  have n2 : dataLt a b = false := by simpa using h2
  clear ha hb h1 h2 p
  induction h with
  | nil => cases ha'
  | cons hx _ ih =>
    rcases List.mem_cons.mp ha' with e | ha'
    · rcases List.mem_cons.mp hb' with e2 | hb'
      · rw [e, e2]
      · have := hx b hb'
        rw [← e, n2] at this; cases this
    · rcases List.mem_cons.mp hb' with e2 | hb'
      · have := hx a ha'
        rw [← e2, n1] at this; cases this
      · exact ih ha' hb'
theorem lt_total {a b : PyData} (h : keyToks a ≠ keyToks b) : dataLt a b = true ∨ dataLt b a = true := by
  rcases Classical.em (dataLt a b = true) with q | q
  · exact .inl q
  · rcases Classical.em (dataLt b a = true) with q2 | q2
    · exact .inr q2
    · exact absurd ((listOrd itemOrd).total (keyToks a) (keyToks b) (show dataLt a b = false by simpa using q) (show dataLt b a = false by simpa using q2)) h
theorem al_str (a b : Str) : alike (.str a) (.str b) = true := by simp [alike]
theorem al_int (a b : Int) : alike (.int a) (.int b) = true := by simp [alike]
theorem eqv_str (a b : Str) : PyData.eqv (.str a) (.str b) = (a == b) := rfl
theorem eqv_int (a b : Int) : PyData.eqv (.int a) (.int b) = (a == b) := rfl
theorem key_inj {a b : Str} {i j : Int} (h : keyToks (.tuple [.str a, .int i]) = keyToks (.tuple [.str b, .int j])) : a = b ∧ i = j := by
  simp [keyToks, PySem.W.keyToksAll] at h
  exact ⟨PySem.W.str_of_cps (by simpa using h.1), h.2⟩
theorem key_eqv (a b : Str) (i j : Int) : PyData.eqv (.tuple [.str a, .int i]) (.tuple [.str b, .int j]) = decide (a = b ∧ i = j) := by
  show ((a == b) && ((i == j) && true)) = _
  rw [Bool.and_true, Bool.beq_eq_decide_eq a b, Bool.beq_eq_decide_eq i j, Bool.decide_and]
theorem key_lot {a b : Str} {i j : Int} {x y : PyData} (h : dataLt (.tuple [.str a, .int i]) (.tuple [.str b, .int j]) = true) : dataLt (.tuple [.str a, .int i, x]) (.tuple [.str b, .int j, y]) = true := by
  rw [PySem.W.dataLt_tuple, PySem.W.dataLt_cons (al_str a b)] at h ⊢
  split at h
  · rename_i q
    rw [if_pos q]
    rw [PySem.W.dataLt_cons (al_int i j)] at h ⊢
    split at h
    · exact absurd h (by decide)
    · rename_i q2
      rw [if_neg q2]
      exact h
  · rename_i q
    rw [if_neg q]
    exact h
inductive IsKey (names : List PyData) : PyData → Prop
  | mk {z : Str} {t : Int} : PyData.str z ∈ names → 0 ≤ t → t < 12 → IsKey names (.tuple [.str z, .int t])
theorem IsKey.eqv {ns : List PyData} {a b : PyData} (ha : IsKey ns a) (hb : IsKey ns b) : PyData.eqv a b = true ↔ a = b := by
  cases ha; cases hb
  rw [key_eqv]
  simp
theorem kput_keys {ns : List PyData} {kvs : List (PyData × PyData)} {k v : PyData} (hk : IsKey ns k) (hs : ∀ q ∈ kvs, IsKey ns q.1) : ((kvs.map (·.1)).Nodup → ((kput kvs k v).map (·.1)).Nodup) ∧ (∀ q ∈ kput kvs k v, (q.1 = k ∧ q.2 = v) ∨ q ∈ kvs) ∧ (kput kvs k v).length ≤ kvs.length + 1 := by
  unfold kput
  split
  · rename_i h
    refine ⟨fun nd => ?_, fun q hq => ?_, by simp⟩
    · have : (kvs.map fun q => if PyData.eqv q.1 k = true then (q.1, v) else q).map (·.1) = kvs.map (·.1) := by
        rw [List.map_map]
        refine List.map_congr_left fun q _ => ?_
        show (if PyData.eqv q.1 k = true then (q.1, v) else q).1 = q.1
        split <;> rfl
      rw [this]; exact nd
    · obtain ⟨q', hq', rfl⟩ := List.mem_map.mp hq
      split
      · rename_i h2
        exact .inl ⟨(hs q' hq').eqv hk |>.mp h2, rfl⟩
      · exact .inr hq'
  · rename_i h
    refine ⟨fun nd => ?_, fun q hq => ?_, by simp⟩
    · rw [List.map_append, List.nodup_append]
      refine ⟨nd, by simp, fun a ha b hb e => ?_⟩
      have hb' : b = k := by simpa using hb
      obtain ⟨q, hq, rfl⟩ := List.mem_map.mp ha
      apply h
      rw [kfind_any, List.any_eq_true]
      exact ⟨q, hq, by rw [(hs q hq).eqv hk, e, hb']⟩
    · rcases List.mem_append.mp hq with z | z
      · exact .inr z
      · have e := List.mem_singleton.mp z
        rw [e]; exact .inl ⟨rfl, rfl⟩
inductive IsLot (names : List PyData) : PyData → Prop
  | mk {z : Str} {t : Int} {x : PyData} : PyData.str z ∈ names → 0 ≤ t → t < 12 → IsAmt x → IsLot names (.tuple [.str z, .int t, x])
theorem keys_sortOk {ns : List PyData} {ks : List PyData} (h : ∀ k ∈ ks, IsKey ns k) (hl : ks.length ≤ 1000000) : sortOk ks = true := by
  unfold sortOk allAlike
  simp only [Bool.and_eq_true, Bool.or_eq_true, List.all_eq_true, decide_eq_true_eq]
  refine ⟨⟨⟨hl, fun x hx y hy => ?_⟩, .inl fun x hx => ?_⟩, fun x hx => ?_⟩
  · cases h x hx; cases h y hy; simp [alike, PySem.W.alikeAll]
  · cases h x hx; rfl
  · cases h x hx; simp [PyData.depth, PyData.depthAll]
theorem kfind_mem {ns : List PyData} {kvs : List (PyData × PyData)} (hs : ∀ q ∈ kvs, IsKey ns q.1) {k : PyData} (h : k ∈ kvs.map (·.1)) : ∃ v, kfind kvs k = some v ∧ (k, v) ∈ kvs := by
  induction kvs with
  | nil => simp at h
  | cons q kvs ih =>
    unfold kfind
    rw [List.find?_cons]
    have hk : IsKey ns k := by
      obtain ⟨q', h1, h2⟩ := List.mem_map.mp h
      rw [← h2]; exact hs q' h1
    cases e : PyData.eqv q.1 k with
    | true =>
      have := ((hs q (List.mem_cons_self ..)).eqv hk).mp e
      exact ⟨q.2, rfl, by rw [← this]; exact List.mem_cons_self ..⟩
    | false =>
      rw [List.map_cons] at h
      rcases List.mem_cons.mp h with z | z
      · rw [((hs q (List.mem_cons_self ..)).eqv hk).mpr z.symm] at e; cases e
      · obtain ⟨v, h1, h2⟩ := ih (fun q hq => hs q (List.mem_cons_of_mem _ hq)) z
        exact ⟨v, h1, List.mem_cons_of_mem _ h2⟩
theorem IsKey.kOk {ns : List PyData} {k : PyData} (h : IsKey ns k) : G.kOk true k = true := by
  cases h
  simp [G.kOk, nkO, nkOs, NestedKey.depth, NestedKey.depthAll]
def lotD (kvs : List (PyData × PyData)) (k : PyData) : PyData := match k, kfind kvs k with
  | .tuple ks, some v => .tuple (ks ++ [v])
  | _, _ => .none
theorem rangeD_len (lo : Int) (n : Nat) : (rangeD lo n).length = n := by simp [rangeD]
def hd2 : PyData → PyData
  | .tuple (a :: b :: _) => .tuple [a, b]
  | x => x
/-- keys strictly rising -/
abbrev RiseH (l : List PyData) : Prop := l.Pairwise fun a b => dataLt (hd2 a) (hd2 b) = true
theorem lots_riseH {ns : List PyData} {kvs : List (PyData × PyData)} (hs : ∀ q ∈ kvs, IsKey ns q.1 ∧ IsAmt q.2) (nd : (kvs.map (·.1)).Nodup) :
    RiseH ((((kvs.map (·.1)).mergeSort srtLe)).map (lotD kvs)) := by
  have hk : ∀ k ∈ (kvs.map (·.1)).mergeSort srtLe, IsKey ns k ∧ ∃ v, kfind kvs k = some v := fun k hk => by
    rw [List.mem_mergeSort] at hk
    obtain ⟨v, h1, h2⟩ := kfind_mem (fun q hq => (hs q hq).1) hk
    exact ⟨(hs _ h2).1, v, h1⟩
  have nd2 : ((kvs.map (·.1)).mergeSort srtLe).Nodup := (List.mergeSort_perm _ _).nodup_iff.mpr nd
  unfold RiseH
  rw [List.pairwise_map]
  have pw := srt_pw (kvs.map (·.1))
  refine (List.Pairwise.and pw nd2).imp_of_mem fun {a b} ha hb hab => ?_
  obtain ⟨h1, v1, e1⟩ := hk a ha
  obtain ⟨h2, v2, e2⟩ := hk b hb
  cases h1 with
  | @mk z t _ _ _ =>
    cases h2 with
    | @mk z' t' _ _ _ =>
      have lt : dataLt (.tuple [.str z, .int t]) (.tuple [.str z', .int t']) = true := by
        rcases lt_total (a := .tuple [.str z, .int t]) (b := .tuple [.str z', .int t']) fun e => hab.2 (by obtain ⟨r1, r2⟩ := key_inj e; rw [r1, r2]) with q | q
        · exact q
        · have := hab.1
          rw [srt_eq, q] at this; cases this
      have f1 : lotD kvs (.tuple [.str z, .int t]) = .tuple [.str z, .int t, v1] := by unfold lotD; rw [e1]; rfl
      have f2 : lotD kvs (.tuple [.str z', .int t']) = .tuple [.str z', .int t', v2] := by unfold lotD; rw [e2]; rfl
      rw [f1, f2]
      exact lt
theorem lots_rise {ns : List PyData} {kvs : List (PyData × PyData)} (hs : ∀ q ∈ kvs, IsKey ns q.1 ∧ IsAmt q.2) (nd : (kvs.map (·.1)).Nodup) :
    Rise ((((kvs.map (·.1)).mergeSort srtLe)).map (lotD kvs)) ∧ ∀ l ∈ (((kvs.map (·.1)).mergeSort srtLe)).map (lotD kvs), IsLot ns l := by
  have hk : ∀ k ∈ (kvs.map (·.1)).mergeSort srtLe, IsKey ns k ∧ ∃ v, kfind kvs k = some v ∧ IsAmt v := fun k hk => by
    rw [List.mem_mergeSort] at hk
    obtain ⟨v, h1, h2⟩ := kfind_mem (fun q hq => (hs q hq).1) hk
    exact ⟨(hs _ h2).1, v, h1, (hs _ h2).2⟩
  have nd2 : ((kvs.map (·.1)).mergeSort srtLe).Nodup := (List.mergeSort_perm _ _).nodup_iff.mpr nd
  refine ⟨?_, fun l hl => ?_⟩
  · unfold Rise
    rw [List.pairwise_map]
    have pw := srt_pw (kvs.map (·.1))
    refine (List.Pairwise.and pw nd2).imp_of_mem fun {a b} ha hb hab => ?_
    obtain ⟨h1, v1, e1, _⟩ := hk a ha
    obtain ⟨h2, v2, e2, _⟩ := hk b hb
    cases h1 with
    | @mk z t _ _ _ =>
      cases h2 with
      | @mk z' t' _ _ _ =>
        have lt : dataLt (.tuple [.str z, .int t]) (.tuple [.str z', .int t']) = true := by
          rcases lt_total (a := .tuple [.str z, .int t]) (b := .tuple [.str z', .int t']) fun e => hab.2 (by obtain ⟨r1, r2⟩ := key_inj e; rw [r1, r2]) with q | q
          · exact q
          · have := hab.1
            rw [srt_eq, q] at this; cases this
        have f1 : lotD kvs (.tuple [.str z, .int t]) = .tuple [.str z, .int t, v1] := by unfold lotD; rw [e1]; rfl
        have f2 : lotD kvs (.tuple [.str z', .int t']) = .tuple [.str z', .int t', v2] := by unfold lotD; rw [e2]; rfl
        rw [f1, f2]
        exact key_lot lt
  · obtain ⟨k, hk1, rfl⟩ := List.mem_map.mp hl
    obtain ⟨h1, v1, e1, a1⟩ := hk k hk1
    cases h1 with
    | @mk z t g1 g2 g3 =>
      have f1 : lotD kvs (.tuple [.str z, .int t]) = .tuple [.str z, .int t, v1] := by unfold lotD; rw [e1]; rfl
      rw [f1]
      exact .mk g1 g2 g3 a1
theorem s_store2 {n : Nat} {d : Dk} {gs : List PyData} (h : d.ok (n + 33)) (hg : ∀ g ∈ gs, ∃ z : Str, dIx g (.int 0) = some (.str z) ∧ PyData.str z ∈ gs.map nmD) (h0 : 0 < gs.length) (h1 : gs.length ≤ 6) : ∃ ls d', m__law_store [.cel 0, .dat (.tuple gs)] [.lst d.l] = .ok (.dat (.tuple ls)) [.lst (Dk.l d')] ∧ d'.ok n ∧ (∀ l ∈ ls, IsLot (gs.map nmD) l) ∧ Rise ls ∧ ls.length ≤ 8 ∧ RiseH ls := by
  obtain ⟨v, d1, e1, h2, v0, v1⟩ := s_pick (n := n + 32) h (k := 9) (by decide) (by decide)
  have key := forA_all (g := tName 3) (b := b__law_store_l1) (fun done fr => ∃ (d' : Dk) (kvs : List (PyData × PyData)) (v3 : Option AV), fr = ⟨[some (.cel 0), some (.dat (.tuple gs)), some (.cel 1), v3, none], [.lst d'.l, .dct true kvs], 1⟩ ∧ d'.ok (n + 4 * (8 - done.length)) ∧ (∀ q ∈ kvs, IsKey (gs.map nmD) q.1 ∧ IsAmt q.2) ∧ (kvs.map (·.1)).Nodup ∧ kvs.length ≤ done.length)
    (rangeD 0 v.toNat) ⟨[some (.cel 0), some (.dat (.tuple gs)), some (.cel 1), none, none], [.lst d1.l, .dct true []], 1⟩ ⟨d1, [], none, rfl, h2, (fun q hq => nomatch hq), .nil, Nat.le_refl _⟩ ?_
  · obtain ⟨fr', e, d', kvs, v3, rfl, h3, h4, h5, h6⟩ := key
    rw [rangeD_len] at h3 h6
    have sok := keys_sortOk (ks := kvs.map (·.1)) (fun k hk => by
      obtain ⟨q, hq, rfl⟩ := List.mem_map.mp hk
      exact (h4 q hq).1) (by rw [List.length_map]; omega)
    obtain ⟨r1, r2⟩ := lots_rise h4 h5
    refine ⟨((kvs.map (·.1)).mergeSort srtLe).map (lotD kvs), d', ?_, h3.less (by omega), r2, r1, by simp; omega, lots_riseH h4 h5⟩
    have rg : rgOk v = true := by unfold rgOk; exact decide_eq_true (by omega)
    have ec := compA_pure (own := [4]) (g := tName 4) (t := xYes) (f := b__law_store_e1) (vars := [some (.cel 0), some (.dat (.tuple gs)), some (.cel 1), none, none]) (bs := 1) (cs := [.lst d'.l, .dct true kvs]) (fun _ => true) (lotD kvs) ((kvs.map (·.1)).mergeSort srtLe) [] fun y hy => by
      rw [List.mem_mergeSort] at hy
      obtain ⟨w, f1, f2⟩ := kfind_mem (fun q hq => (h4 q hq).1) hy
      have hk := (h4 _ f2).1
      refine ⟨_, _, rfl, rfl, rfl, fun _ => ⟨⟨[some (.cel 0), some (.dat (.tuple gs)), some (.cel 1), none, some (.dat y)], [.lst d'.l, .dct true kvs], 1⟩, ?_, rfl⟩⟩
      have ko := hk.kOk
      cases hk with
      | @mk z t g1 g2 g3 =>
        have f3 : lotD kvs (.tuple [.str z, .int t]) = .tuple [.str z, .int t, w] := by unfold lotD; rw [f1]; rfl
        simp [b__law_store_e1, dget, ko, f1, f3, dAdd]
    rw [List.nil_append, List.filter_eq_self.mpr (fun _ _ => rfl)] at ec
    unfold m__law_store b__law_store
    have kl : kvs.length ≤ 1000000 := by omega
    simp [e1, rg, e, dSortedK, dSortL, sok, xComp, ec, kl]
  · rintro done y rest fr hy ⟨d', kvs, v3, rfl, hd, hs, nd, hl⟩
    have hlen : done.length < 8 := by
      have := congrArg List.length hy
      rw [rangeD_len] at this
      simp at this; omega
    obtain ⟨m, hm7⟩ : ∃ m, n + 4 * (8 - done.length) = n + 4 * (8 - (done ++ [y]).length) + 4 ∧ m = 0 := ⟨0, by simp; omega, rfl⟩
    rw [hm7.1] at hd
    generalize hq7 : n + 4 * (8 - (done ++ [y]).length) = q at *
    obtain ⟨x, d2, e2, g2, hx⟩ := s_amount (n := q + 2) hd
    obtain ⟨g, d3, e3, g3, hg3⟩ := s_oneT (n := q + 1) (xs := gs) g2 h0 (by omega)
    obtain ⟨t, d4, e4, g4, t0, t1⟩ := s_pick (n := q) g3 (k := 12) (by decide) (by decide)
    obtain ⟨z, hz, hzm⟩ := hg g hg3
    have hk : IsKey (gs.map nmD) (.tuple [.str z, .int t]) := .mk hzm t0 t1
    obtain ⟨p1, p2, p3⟩ := kput_keys (v := x) hk fun q hq => (hs q hq).1
    have kl : kvs.length < 1000000 := by omega
    refine ⟨_, ⟨[some (.cel 0), some (.dat (.tuple gs)), some (.cel 1), none, none], [.lst d4.l, .dct true (kput kvs (.tuple [.str z, .int t]) x)], 1⟩, rfl, .inl ?_, d4, _, none, rfl, g4, fun q hq => ?_, p1 nd, by simp; omega⟩
    · simp [b__law_store_l1, e2, e3, hz, e4, hk.kOk, kl]
    · rcases p2 q hq with ⟨z1, z2⟩ | z1
      · rw [z1, z2]; exact ⟨hk, hx⟩
      · exact hs q z1
end G
namespace G
open PySem PySem.Spec PyProof.Rows L2
def b_good_of_l1 : Fr → SRes :=
  sIf (xB (xOp2 dEq (xIx (xVar 2) (xC (.int 0))) (xVar 1))) (sRet (xVar 2)) (sNx)
def b_good_of : Fr → SRes :=
  sSeq (sFor (xItems (xVar 0)) (tName 2) (b_good_of_l1))
  (sKill [2] (sRet (xC .none)))
def m_good_of : AFun := mkFun 3 2 b_good_of
def b_is_over : Fr → SRes :=
  sRet (xOp2 dGt (xVar 2) (xOp2 dAdd (xIx (xVar 1) (xC (.int 1))) (xIx (xCall m_good_of (xCons (xVar 0) (xCons (xIx (xVar 1) (xC (.int 0))) (xNil)))) (xC (.int 3)))))
def m_is_over : AFun := mkFun 3 3 b_is_over
def b__law_sort : Fr → SRes :=
  sSeq (sIf (xB (xIsi (isi "bool") (xVar 0))) (sRet (xC (.str "truth"))) (sNx))
  (sSeq (sIf (xB (xIsi (isi "int") (xVar 0))) (sRet (xC (.str "number"))) (sNx))
  (sSeq (sIf (xB (xIsi (isi "tuple") (xVar 0))) (sRet (xC (.str "tuple"))) (sNx))
  (sRet (xIf (xB (xIsi (isi "list") (xVar 0))) (xC (.str "list")) (xC (.str "other"))))))
def m__law_sort : AFun := mkFun 1 1 b__law_sort
def b__law_same_t1 (self : AFun) : Fr → Res Bool :=
  xNot (xB (xCall self (xCons (xVar 3) (xCons (xIx (xVar 1) (xVar 2)) (xNil)))))
def b__law_same_e1 (self : AFun) : Fr → Res AV :=
  xVar 2
def b__law_same (self : AFun) : Fr → SRes :=
  sSeq (sIf (xB (xOp2 dNe (xCall m__law_sort (xCons (xVar 0) (xNil))) (xCall m__law_sort (xCons (xVar 1) (xNil))))) (sRet (xC (.bool false))) (sNx))
  (sSeq (sIf (xNot (xB (xIsi (fun y => isi "tuple" y || isi "list" y) (xVar 0)))) (sRet (xOp2 dEq (xVar 0) (xVar 1))) (sNx))
  (sSeq (sIf (xB (xOp2 dNe (xB1 dLen (xCons (xVar 0) (xNil))) (xB1 dLen (xCons (xVar 1) (xNil))))) (sRet (xC (.bool false))) (sNx))
  (sRet (xOp2 dEq (xComp [2, 3] (xEnum (xVar 0)) (tNames [2, 3]) (b__law_same_t1 self) (b__law_same_e1 self)) (xLst (xNil))))))
def m__law_same : Nat → AFun
  | 0 => fun _ _ => .err
  | n + 1 => mkFun 4 2 (b__law_same (m__law_same n))
def b__law_days_t1 : Fr → Res Bool :=
  xB (xOp2 dEq (xIx (xVar 2) (xC (.int 0))) (xVar 1))
def b__law_days_e1 : Fr → Res AV :=
  xIx (xVar 2) (xC (.int 3))
def b__law_days : Fr → SRes :=
  sRet (xIx (xComp [2] (xItems (xVar 0)) (tName 2) (b__law_days_t1) (b__law_days_e1)) (xC (.int 0)))
def m__law_days : AFun := mkFun 3 2 b__law_days
def b__law_is_over : Fr → SRes :=
  sRet (xOp2 dGt (xVar 2) (xOp2 dAdd (xIx (xVar 1) (xC (.int 1))) (xCall m__law_days (xCons (xVar 0) (xCons (xIx (xVar 1) (xC (.int 0))) (xNil))))))
def m__law_is_over : AFun := mkFun 3 3 b__law_is_over
theorem eqOk_str (a : Str) (y : PyData) : eqOk (.str a) y = true := by unfold eqOk; exact decide_eq_true (by simp [PyData.depth])
theorem eqOk_int (a : Int) (y : PyData) : eqOk (.int a) y = true := by unfold eqOk; exact decide_eq_true (by simp [PyData.depth])
theorem eqOk_r {x y : PyData} (h : y.depth ≤ 64) : eqOk x y = true := by unfold eqOk; exact decide_eq_true (by omega)
theorem eqOk_l {x y : PyData} (h : x.depth ≤ 64) : eqOk x y = true := by unfold eqOk; exact decide_eq_true (by omega)
theorem find_filter {α : Type} (p : α → Bool) : ∀ (l : List α) (x : α), l.find? p = some x → ∃ r, l.filter p = x :: r
  | [], x, e => by cases e
  | a :: l, x, e => by
    rw [List.find?_cons] at e
    cases q : p a with
    | true => rw [q] at e; cases e; exact ⟨l.filter p, by rw [List.filter_cons_of_pos q]⟩
    | false =>
      rw [q] at e
      obtain ⟨r, h⟩ := find_filter p l x e
      exact ⟨r, by rw [List.filter_cons_of_neg (by rw [q]; decide)]; exact h⟩
inductive Pl : Nat → PyData → Prop
  | non {n : Nat} : Pl n .none
  | bool {n : Nat} {i : Bool} : Pl n (.bool i)
  | int {n : Nat} {i : Int} : Pl n (.int i)
  | str {n : Nat} {i : Str} : Pl n (.str i)
  | tup {n : Nat} {xs : List PyData} : xs.length ≤ 1000000 → (∀ x ∈ xs, Pl n x) → Pl (n + 1) (.tuple xs)
  | lst {n : Nat} {xs : List PyData} : xs.length ≤ 1000000 → (∀ x ∈ xs, Pl n x) → Pl (n + 1) (.list xs)
def srtN : PyData → Str
  | .bool _ => "truth"
  | .int _ => "number"
  | .tuple _ => "tuple"
  | .list _ => "list"
  | _ => "other"
theorem s_sort (x : PyData) : m__law_sort [.dat x] [] = .ok (.dat (.str (srtN x))) [] := by
  unfold m__law_sort b__law_sort
  cases x <;> simp [isi, isiN, tyN, srtN]
theorem eqv_self : ∀ {n : Nat} {x : PyData}, Pl n x → PyData.eqv x x = true := by
  intro n
  induction n with
  | zero => intro x h; cases h <;> simp [PyData.eqv]
  | succ n ih =>
    intro x h
    have all : ∀ xs : List PyData, (∀ x ∈ xs, Pl n x) → PyData.eqvAll xs xs = true := by
      intro xs
      induction xs with
      | nil => intro _; rfl
      | cons a xs ih2 =>
        intro h
        simp only [PyData.eqvAll, Bool.and_eq_true]
        exact ⟨ih (h a (List.mem_cons_self ..)), ih2 fun x hx => h x (List.mem_cons_of_mem _ hx)⟩
    cases h with
    | tup h1 h2 => simpa [PyData.eqv] using all _ h2
    | lst h1 h2 => simpa [PyData.eqv] using all _ h2
    | _ => simp [PyData.eqv]
theorem same_seq {m : AFun} {xs : List PyData} (X : PyData) (hX : X = .list xs ∨ X = .tuple xs) (hl : xs.length ≤ 1000000) (h : ∀ x ∈ xs, m [.dat x, .dat x] [] = .ok (.dat (.bool true)) []) : mkFun 4 2 (b__law_same m) [.dat X, .dat X] [] = .ok (.dat (.bool true)) [] := by
  have ec := compA_pure (own := [2, 3]) (g := tNames [2, 3]) (t := b__law_same_t1 m) (f := b__law_same_e1 m) (vars := [some (.dat X), some (.dat X), none, none]) (bs := 0) (cs := []) (fun _ => false) id (enumD xs) [] fun y hy => by
    obtain ⟨i, hi⟩ := mem_at hy
    obtain ⟨x, h1, rfl⟩ := enumD_at hi
    have hx := h x (List.mem_of_getElem? h1)
    have hlt := lt_of_at h1
    have hix : dIx X (.int (i : Nat)) = some x := by
      have : atI xs (i : Nat) = some x := by
        unfold atI ixN
        simp [hlt]
        exact (List.getElem?_eq_some_iff.mp h1).2
      rcases hX with rfl | rfl <;> exact this
    refine ⟨_, ⟨[some (.dat X), some (.dat X), some (.dat (.int (i : Nat))), some (.dat x)], [], 0⟩, rfl, ?_, rfl, fun z => by cases z⟩
    simp [b__law_same_t1, hix, hx]
  have hl2 : (enumD xs).length ≤ 1000000 := by rw [enumD_len]; exact hl
  have ef : ((enumD xs).filter fun _ => false) = [] := by simp
  rw [ef] at ec
  have e0 : eqOk (.list []) (.list []) = true := eqOk_l (by simp [PyData.depth, PyData.depthAll])
  unfold b__law_same
  rcases hX with rfl | rfl
  · simp [s_sort, srtN, dNe, eqOk_str, isi, isiN, tyN, PyData.eqv, eqOk_int, xComp, ec, hl2, dEq, e0, PyData.eqvAll]
  · simp [s_sort, srtN, dNe, eqOk_str, isi, isiN, tyN, PyData.eqv, eqOk_int, xComp, ec, hl2, dEq, e0, PyData.eqvAll]
theorem s_same : ∀ {n m : Nat} {x : PyData}, Pl n x → n < m → m__law_same m [.dat x, .dat x] [] = .ok (.dat (.bool true)) [] := by
  intro n
  have low : ∀ (m : Nat) (x : PyData), PyData.eqv x x = true → x.depth = 0 → (isi "tuple" x || isi "list" x) = false → m__law_same (m + 1) [.dat x, .dat x] [] = .ok (.dat (.bool true)) [] := fun m x h1 h2 h3 => by
    have e0 : eqOk x x = true := eqOk_l (by omega)
    have h3' : (isi "tuple" x) = false ∧ (isi "list" x) = false := by simpa using h3
    show mkFun 4 2 (b__law_same (m__law_same m)) _ _ = _
    unfold b__law_same
    simp [s_sort, dNe, eqOk_str, PyData.eqv, h3', dEq, e0, h1]
  induction n with
  | zero =>
    intro m x h hm
    obtain ⟨k, rfl⟩ : ∃ k, m = k + 1 := ⟨m - 1, by omega⟩
    have e := eqv_self h
    cases h <;> exact low k _ e (by simp [PyData.depth]) (by simp [isi, isiN, tyN])
  | succ n ih =>
    intro m x h hm
    obtain ⟨k, rfl⟩ : ∃ k, m = k + 1 := ⟨m - 1, by omega⟩
    have e := eqv_self h
    cases h with
    | tup h1 h2 => exact same_seq _ (.inr rfl) h1 fun x hx => ih (h2 x hx) (by omega)
    | lst h1 h2 => exact same_seq _ (.inl rfl) h1 fun x hx => ih (h2 x hx) (by omega)
    | _ => exact low k _ e (by simp [PyData.depth]) (by simp [isi, isiN, tyN])
end G
namespace G
section
variable {S : Type} [DecidableEq S]
structure Lt (S : Type) where
  nm : S
  t : Int
  q : Rat
def upf (w : S → Rat) (n : S) (v : Rat) : S → Rat := fun m => if m = n then v else w m
/-- so much of a name -/
def sumOf (ls : List (Lt S)) (n : S) : Rat := ((ls.filter fun l => l.nm = n).map (·.q)).sum
theorem sumOf_nil (n : S) : sumOf ([] : List (Lt S)) n = 0 := rfl
theorem sumOf_cons (l : Lt S) (ls : List (Lt S)) (n : S) : sumOf (l :: ls) n = (if l.nm = n then l.q else 0) + sumOf ls n := by
  unfold sumOf
  by_cases h : l.nm = n
  · rw [if_pos h, List.filter_cons_of_pos (by simpa using h), List.map_cons, List.sum_cons]
  · rw [if_neg h, List.filter_cons_of_neg (by simpa using h)]; grind
theorem sumOf_append (ls ms : List (Lt S)) (n : S) : sumOf (ls ++ ms) n = sumOf ls n + sumOf ms n := by
  induction ls with
  | nil => rw [List.nil_append, sumOf_nil]; grind
  | cons l ls ih => rw [List.cons_append, sumOf_cons, sumOf_cons, ih]; grind
def wantT (ov : Lt S → Bool) (w : S → Rat) (l : Lt S) : Rat := if ov l then 0 else w l.nm
def partT (ov : Lt S → Bool) (w : S → Rat) (l : Lt S) : Rat := if l.q < wantT ov w l then l.q else wantT ov w l
def nextW (ov : Lt S → Bool) (w : S → Rat) (l : Lt S) : S → Rat := if 0 < partT ov w l then upf w l.nm (wantT ov w l - partT ov w l) else w
def rowT (ov : Lt S → Bool) (w : S → Rat) (l : Lt S) : List (Lt S) := if 0 < partT ov w l then [⟨l.nm, l.t, partT ov w l⟩] else []
def restT (ov : Lt S → Bool) (w : S → Rat) (l : Lt S) : List (Lt S) := if partT ov w l ≠ l.q then [⟨l.nm, l.t, l.q - partT ov w l⟩] else []
def takeR (ov : Lt S → Bool) : List (Lt S) → (S → Rat) → List (Lt S)
  | [], _ => []
  | l :: ls, w => rowT ov w l ++ takeR ov ls (nextW ov w l)
def takeL (ov : Lt S → Bool) : List (Lt S) → (S → Rat) → List (Lt S)
  | [], _ => []
  | l :: ls, w => restT ov w l ++ takeL ov ls (nextW ov w l)
variable {ov : Lt S → Bool} {w : S → Rat} {l : Lt S} {ls : List (Lt S)}
theorem part_spec (hw : ∀ n, 0 ≤ w n) (hq : 0 < l.q) : 0 ≤ partT ov w l ∧ partT ov w l ≤ l.q ∧ partT ov w l ≤ wantT ov w l ∧ (partT ov w l = l.q ∨ partT ov w l = wantT ov w l) := by
  have : 0 ≤ wantT ov w l := by unfold wantT; split; exact Rat.le_refl; exact hw _
  unfold partT
  split <;> grind
theorem nextW_nn (hw : ∀ n, 0 ≤ w n) (hq : 0 < l.q) : ∀ n, 0 ≤ nextW ov w l n := by
  intro n
  have := part_spec (ov := ov) hw hq
  unfold nextW
  split
  · show 0 ≤ if n = l.nm then _ else _
    split
    · grind
    · exact hw n
  · exact hw n
theorem nextW_eq (hw : ∀ n, 0 ≤ w n) (hq : 0 < l.q) (n : S) : nextW ov w l n = w n - (if l.nm = n then partT ov w l else 0) := by
  have h := part_spec (ov := ov) hw hq
  unfold nextW
  by_cases hp : 0 < partT ov w l
  · rw [if_pos hp]
    have ho : ov l = false := by
      cases q : ov l with
      | false => rfl
      | true => unfold wantT at h; rw [q] at h; simp at h; grind
    unfold upf wantT
    rw [ho]
    by_cases e : n = l.nm
    · subst e; simp
    · rw [if_neg e, if_neg (Ne.symm e)]; grind
  · rw [if_neg hp]
    have : partT ov w l = 0 := by grind
    rw [this]; split <;> grind
/-- what is there -/
def avail (ov : Lt S → Bool) (ls : List (Lt S)) (n : S) : Rat := sumOf (ls.filter fun l => !ov l) n
theorem avail_nn (hq : ∀ l ∈ ls, 0 < l.q) (n : S) : 0 ≤ avail ov ls n := by
  unfold avail
  induction ls with
  | nil => exact Rat.le_refl
  | cons l ls ih =>
    have ih := ih fun l h => hq l (List.mem_cons_of_mem _ h)
    have := hq l (List.mem_cons_self ..)
    rw [List.filter_cons]
    split
    · rw [sumOf_cons]; split <;> grind
    · exact ih
theorem rest_mem (hw : ∀ n, 0 ≤ w n) (hq : ∀ l ∈ ls, 0 < l.q) : ∀ r ∈ takeL ov ls w, ∃ l ∈ ls, r.nm = l.nm ∧ r.t = l.t ∧ 0 < r.q ∧ r.q ≤ l.q := by
  induction ls generalizing w with
  | nil => intro r hr; cases hr
  | cons l ls ih =>
    intro r hr
    have hl := hq l (List.mem_cons_self ..)
    rcases List.mem_append.mp hr with hr | hr
    · have h := part_spec (ov := ov) hw hl
      unfold restT at hr
      split at hr
      · rename_i hp
        cases List.mem_singleton.mp hr
        refine ⟨l, List.mem_cons_self .., rfl, rfl, ?_, ?_⟩
        · show 0 < l.q - partT ov w l; grind
        · show l.q - partT ov w l ≤ l.q; grind
      · cases hr
    · obtain ⟨m, h1, h2⟩ := ih (nextW_nn hw hl) (fun l h => hq l (List.mem_cons_of_mem _ h)) r hr
      exact ⟨m, List.mem_cons_of_mem _ h1, h2⟩
abbrev keyT (l : Lt S) : S × Int := (l.nm, l.t)
theorem row_sub : List.Sublist ((takeR ov ls w).map keyT) (ls.map keyT) := by
  induction ls generalizing w with
  | nil => exact .slnil
  | cons l ls ih =>
    unfold takeR rowT
    rw [List.map_append, List.map_cons]
    split
    · exact .cons_cons _ ih
    · exact .cons _ ih
theorem rest_sub : List.Sublist ((takeL ov ls w).map keyT) (ls.map keyT) := by
  induction ls generalizing w with
  | nil => exact .slnil
  | cons l ls ih =>
    unfold takeL restT
    rw [List.map_append, List.map_cons]
    split
    · exact .cons_cons _ ih
    · exact .cons _ ih
end
end G
namespace G
open PySem PySem.Spec PyProof.Rows L2
theorem forA_typed {α : Type} {g : Tg} {b : Fr → SRes} (enc : α → PyData) (P : List α → Fr → Prop) (xs : List α) (fr : Fr) (h0 : P [] fr)
    (st : ∀ done x rest fr, xs = done ++ x :: rest → P done fr → ∃ fr1 fr2, g (enc x) fr = some fr1 ∧ (b fr1 = .nx fr2 ∨ b fr1 = .ct fr2) ∧ P (done ++ [x]) fr2) : ∃ fr', forA g b (xs.map enc) fr = .nx fr' ∧ P xs fr' := by
  have go : ∀ (zs done : List α) (fr : Fr), xs = done ++ zs → P done fr → ∃ fr', forA g b (zs.map enc) fr = .nx fr' ∧ P xs fr' := by
    intro zs
    induction zs with
    | nil => intro done fr e h; exact ⟨fr, rfl, by rw [e, List.append_nil]; exact h⟩
    | cons y zs ih =>
      intro done fr e h
      obtain ⟨fr1, fr2, h1, h2, h3⟩ := st done y zs fr e h
      obtain ⟨fr', h4, h5⟩ := ih (done ++ [y]) fr2 (by rw [e]; simp) h3
      refine ⟨fr', ?_, h5⟩
      rw [List.map_cons]
      unfold forA
      rw [h1]
      rcases h2 with h2 | h2 <;> simp only [h2] <;> exact h4
  exact go xs [] fr rfl h0
/-- a loop that may hand out: at the first x with p -/
theorem forA_first {α : Type} {g : Tg} {b : Fr → SRes} (enc : α → PyData) (p : α → Bool) (R : α → AV → Fr → Prop) (P : Fr → Prop) : ∀ (xs : List α) (fr : Fr), P fr →
    (∀ x ∈ xs, ∀ fr, P fr → ∃ fr1, g (enc x) fr = some fr1 ∧ (p x = true → ∃ a fr2, b fr1 = .ret a fr2 ∧ R x a fr2) ∧ (p x = false → ∃ fr2, (b fr1 = .nx fr2 ∨ b fr1 = .ct fr2) ∧ P fr2)) →
    (∀ x, xs.find? p = some x → ∃ a fr', forA g b (xs.map enc) fr = .ret a fr' ∧ R x a fr') ∧ (xs.find? p = none → ∃ fr', forA g b (xs.map enc) fr = .nx fr' ∧ P fr')
  | [], fr, h, _ => ⟨(fun x e => nomatch e), fun _ => ⟨fr, rfl, h⟩⟩
  | x :: xs, fr, h, st => by
    obtain ⟨fr1, h1, h2, h3⟩ := st x (List.mem_cons_self ..) fr h
    cases q : p x with
    | true =>
      obtain ⟨a, fr2, h4, h5⟩ := h2 q
      rw [List.find?_cons, q]
      refine ⟨fun y e => ?_, fun e => nomatch e⟩
      cases e
      refine ⟨a, fr2, ?_, h5⟩
      rw [List.map_cons]
      unfold forA
      rw [h1]
      simp only [h4]
    | false =>
      obtain ⟨fr2, h4, h5⟩ := h3 q
      obtain ⟨i1, i2⟩ := forA_first enc p R P xs fr2 h5 fun y hy => st y (List.mem_cons_of_mem _ hy)
      rw [List.find?_cons, q]
      have e : forA g b ((x :: xs).map enc) fr = forA g b (xs.map enc) fr2 := by
        rw [List.map_cons]
        unfold forA
        rw [h1]
        rcases h4 with h4 | h4 <;> simp only [h4] <;> (cases xs <;> rfl)
      rw [e]
      exact ⟨i1, i2⟩
theorem compA_typed {α : Type} {own : List Nat} {g : Tg} {t : Fr → Res Bool} {f : Fr → Res AV} {vars : List (Option AV)} {bs : Nat} {cs : List Cell} (enc : α → PyData) (p : α → Bool) (h : α → PyData) (Gx : α → Fr) : ∀ (xs : List α) (acc : List PyData),
    (∀ x ∈ xs, g (enc x) ⟨kill own vars, cs, bs⟩ = some (Gx x)) → (∀ x, (Gx x).cells = cs) → (∀ x ∈ xs, t (Gx x) = .ok (p x) (Gx x)) → (∀ x ∈ xs, p x = true → f (Gx x) = .ok (.dat (h x)) (Gx x)) →
    compA own g t f vars bs (xs.map enc) acc cs = some (acc ++ (xs.filter p).map h, cs)
  | [], acc, _, _, _, _ => by simp [compA]
  | x :: xs, acc, hg, hc, ht, hf => by
    have ih := fun acc => compA_typed enc p h Gx xs acc (fun y hy => hg y (List.mem_cons_of_mem _ hy)) hc (fun y hy => ht y (List.mem_cons_of_mem _ hy)) fun y hy => hf y (List.mem_cons_of_mem _ hy)
    have m := List.mem_cons_self (a := x) (l := xs)
    rw [List.map_cons]
    unfold compA
    rw [hg x m]
    simp only [ht x m]
    cases q : p x with
    | false =>
      simp only [Bool.false_eq_true, if_false]
      rw [hc, ih, List.filter_cons_of_neg (by rw [q]; decide)]
    | true =>
      simp only [if_true, hf x m q]
      rw [hc, ih, List.filter_cons_of_pos q, List.map_cons, List.append_assoc]
      rfl
theorem xComp_typed {α : Type} {own : List Nat} {e : Fr → Res (List PyData)} {g : Tg} {t : Fr → Res Bool} {f : Fr → Res AV} {fr : Fr} (enc : α → PyData) (p : α → Bool) (h : α → PyData) (Gx : α → Fr) (xs : List α) (he : e fr = .ok (xs.map enc) fr) (hl : xs.length ≤ 1000000)
    (hg : ∀ x ∈ xs, g (enc x) ⟨kill own fr.vars, fr.cells, fr.base⟩ = some (Gx x)) (hc : ∀ x, (Gx x).cells = fr.cells) (ht : ∀ x ∈ xs, t (Gx x) = .ok (p x) (Gx x)) (hf : ∀ x ∈ xs, p x = true → f (Gx x) = .ok (.dat (h x)) (Gx x)) :
    xComp own e g t f fr = .ok (.dat (.list ((xs.filter p).map h))) fr := by
  unfold xComp
  rw [he]
  simp only [Res.bind, List.length_map, hl, if_true]
  rw [compA_typed enc p h Gx xs [] hg hc ht hf]
  rfl
theorem seq_nx {f g : Fr → SRes} {fr fr1 : Fr} (h : f fr = .nx fr1) : sSeq f g fr = g fr1 := by
  show (f fr).then g = _
  rw [h]; rfl
theorem set_ok {i : Nat} {f : Fr → Res AV} {fr fr1 : Fr} {a : AV} (h : f fr = .ok a fr1) : sSet i f fr = .nx (fr1.setv i (some a)) := by
  show (f fr).toS _ = _
  rw [h]; rfl
theorem if_ok {t : Fr → Res Bool} {f g : Fr → SRes} {fr fr1 : Fr} {b : Bool} (h : t fr = .ok b fr1) : sIf t f g fr = if b = true then f fr1 else g fr1 := by
  show (t fr).toS _ = _
  rw [h]; rfl
def b_divisor_t1 : Fr → Res Bool :=
  xB (xOp2 dNe (xVar 1) (xC (.int 0)))
def b_divisor_l1 : Fr → SRes :=
  sPar 0 1 (xCons (xVar 1) (xCons (xOp2 dMod (xVar 0) (xVar 1)) (xNil)))
def b_divisor : Fr → SRes :=
  sSeq (sPar 0 1 (xCons (xB1 dAbs (xCons (xVar 0) (xNil))) (xCons (xB1 dAbs (xCons (xVar 1) (xNil))) (xNil))))
  (sSeq (sWh (b_divisor_t1) (b_divisor_l1) (fun fr => natOf 1 fr + 2))
  (sKill [1] (sRet (xVar 0))))
def m_divisor : AFun := mkFun 2 2 b_divisor
def b_fraction : Fr → SRes :=
  sSeq (sSet 2 (xCall m_divisor (xCons (xVar 0) (xCons (xVar 1) (xNil)))))
  (sRet (xTup (xCons (xOp2 dFdiv (xVar 0) (xVar 2)) (xCons (xOp2 dFdiv (xVar 1) (xVar 2)) (xNil)))))
def m_fraction : AFun := mkFun 3 2 b_fraction
def b_plus : Fr → SRes :=
  sRet (xCall m_fraction (xCons (xOp2 dAdd (xOp2 dMul (xIx (xVar 0) (xC (.int 0))) (xIx (xVar 1) (xC (.int 1)))) (xOp2 dMul (xIx (xVar 1) (xC (.int 0))) (xIx (xVar 0) (xC (.int 1))))) (xCons (xOp2 dMul (xIx (xVar 0) (xC (.int 1))) (xIx (xVar 1) (xC (.int 1)))) (xNil))))
def m_plus : AFun := mkFun 2 2 b_plus
def b_minus : Fr → SRes :=
  sRet (xCall m_fraction (xCons (xOp2 dSub (xOp2 dMul (xIx (xVar 0) (xC (.int 0))) (xIx (xVar 1) (xC (.int 1)))) (xOp2 dMul (xIx (xVar 1) (xC (.int 0))) (xIx (xVar 0) (xC (.int 1))))) (xCons (xOp2 dMul (xIx (xVar 0) (xC (.int 1))) (xIx (xVar 1) (xC (.int 1)))) (xNil))))
def m_minus : AFun := mkFun 2 2 b_minus
def b_is_less : Fr → SRes :=
  sRet (xOp2 dLt (xOp2 dMul (xIx (xVar 0) (xC (.int 0))) (xIx (xVar 1) (xC (.int 1)))) (xOp2 dMul (xIx (xVar 1) (xC (.int 0))) (xIx (xVar 0) (xC (.int 1)))))
def m_is_less : AFun := mkFun 2 2 b_is_less
def eR (q : Rat) : PyData := .tuple [.int q.num, .int q.den]
/-- of a size that can be reckoned with -/
def Sm (q : Rat) : Prop := q.den < 2 ^ 1000 ∧ q.num.natAbs < 2 ^ 1000
theorem divisor_loop : ∀ (n x y : Nat) (cs : List Cell) (bs : Nat), y < n → whA b_divisor_t1 b_divisor_l1 n ⟨[some (.dat (.int x)), some (.dat (.int y))], cs, bs⟩ = .nx ⟨[some (.dat (.int (Nat.gcd x y : Nat))), some (.dat (.int 0))], cs, bs⟩
  | 0, _, _, _, _, h => by omega
  | n + 1, x, 0, cs, bs, h => by
    unfold whA
    simp [b_divisor_t1, dNe, eqOk_int, eqv_int]
  | n + 1, x, y + 1, cs, bs, h => by
    have hlt : x % (y + 1) < y + 1 := Nat.mod_lt _ (by omega)
    have ih := divisor_loop n (y + 1) (x % (y + 1)) cs bs (by omega)
    unfold whA
    have e1 : (0 : Int) < (y : Int) + 1 := by omega
    have e0 : ¬ ((y : Int) + 1 = 0) := by omega
    have e2 : ((x : Int) % ((y : Int) + 1)) = ((x % (y + 1) : Nat) : Int) := by simp
    have e3 : Nat.gcd x (y + 1) = Nat.gcd (y + 1) (x % (y + 1)) := by rw [Nat.gcd_comm x, Nat.gcd_rec, Nat.gcd_comm]
    rw [e3, ← ih]
    simp [b_divisor_t1, b_divisor_l1, dNe, eqOk_int, eqv_int, dMod, e1, e0]
theorem s_divisor (p q : Int) : m_divisor [.dat (.int p), .dat (.int q)] [] = .ok (.dat (.int (Nat.gcd p.natAbs q.natAbs : Nat))) [] := by
  have e := divisor_loop (q.natAbs + 2) p.natAbs q.natAbs [] 0 (by omega)
  unfold m_divisor b_divisor
  simp [abs_nat, natOf, e]
theorem s_fraction (p : Int) (q : Nat) (hq : 0 < q) (hq2 : q < 2 ^ 2000) : m_fraction [.dat (.int p), .dat (.int (q : Nat))] [] = .ok (.dat (eR (mkRat p q))) [] := by
  have g0 : 0 < Nat.gcd p.natAbs q := Nat.gcd_pos_of_pos_right _ hq
  have g1 : Nat.gcd p.natAbs q ≤ q := Nat.gcd_le_right _ hq
  have hd : divOk ((Nat.gcd p.natAbs q : Nat) : Int) = true := by
    unfold divOk
    refine decide_eq_true ⟨by omega, ?_⟩
    rw [Int.natAbs_natCast]
    have := (Nat.log2_lt (n := Nat.gcd p.natAbs q) (k := 2000) (by omega)).mpr (by omega)
    omega
  have e := s_divisor p q
  rw [Int.natAbs_natCast] at e
  unfold m_fraction b_fraction
  simp only [eR, Rat.num_mkRat, Rat.den_mkRat, if_neg (Nat.ne_of_gt hq)]
  rw [Nat.gcd_comm q]
  simp [e, dFdiv, hd]
theorem s_frac' (p : Int) (q : Nat) (hq : 0 < q) (hq2 : q < 2 ^ 2000) : m__law_frac [.dat (.int p), .dat (.int (q : Nat))] [] = .ok (.dat (eR (mkRat p q))) [] := by
  have g0 : 0 < Nat.gcd p.natAbs q := Nat.gcd_pos_of_pos_right _ hq
  have g1 : Nat.gcd p.natAbs q ≤ q := Nat.gcd_le_right _ hq
  have hd : divOk ((Nat.gcd p.natAbs q : Nat) : Int) = true := by
    unfold divOk
    refine decide_eq_true ⟨by omega, ?_⟩
    rw [Int.natAbs_natCast]
    have := (Nat.log2_lt (n := Nat.gcd p.natAbs q) (k := 2000) (by omega)).mpr (by omega)
    omega
  obtain ⟨r', e⟩ := frac_loop (.dat (.int p)) (.dat (.int (q : Nat))) (q + 2) p.natAbs q none [] 0 (by omega)
  unfold m__law_frac b__law_frac
  simp only [eR, Rat.num_mkRat, Rat.den_mkRat, if_neg (Nat.ne_of_gt hq)]
  rw [Nat.gcd_comm q]
  simp [abs_nat, natOf, e, dFdiv, hd]
theorem two_thousand {a b : Nat} (ha : a < 2 ^ 1000) (hb : b < 2 ^ 1000) : a * b < 2 ^ 2000 := by
  have : (2 : Nat) ^ 2000 = 2 ^ 1000 * 2 ^ 1000 := by rw [← Nat.pow_add]
  rw [this]
  exact Nat.mul_lt_mul'' ha hb
section
variable {a b : Rat}
theorem Sm.m1 (ha : Sm a) (hb : Sm b) : mulOk a.num b.den = true := mulOk_of ha.2 (by rw [Int.natAbs_natCast]; exact hb.1)
theorem Sm.m2 (ha : Sm a) (hb : Sm b) : mulOk a.den b.den = true := mulOk_of (by rw [Int.natAbs_natCast]; exact ha.1) (by rw [Int.natAbs_natCast]; exact hb.1)
theorem s_plus (ha : Sm a) (hb : Sm b) : m_plus [.dat (eR a), .dat (eR b)] [] = .ok (.dat (eR (a + b))) [] := by
  have e := s_fraction (a.num * b.den + b.num * a.den) (a.den * b.den) (Nat.mul_pos a.den_pos b.den_pos) (two_thousand ha.1 hb.1)
  rw [Int.natCast_mul, ← Rat.add_def'] at e
  unfold m_plus b_plus
  simp [eR, dIx, atI, ixN, dMul, ha.m1 hb, hb.m1 ha, ha.m2 hb, dAdd] at e ⊢
  simp [e]
theorem s_minus (ha : Sm a) (hb : Sm b) : m_minus [.dat (eR a), .dat (eR b)] [] = .ok (.dat (eR (a - b))) [] := by
  have e := s_fraction (a.num * b.den - b.num * a.den) (a.den * b.den) (Nat.mul_pos a.den_pos b.den_pos) (two_thousand ha.1 hb.1)
  rw [Int.natCast_mul, ← Rat.sub_def'] at e
  unfold m_minus b_minus
  simp [eR, dIx, atI, ixN, dMul, ha.m1 hb, hb.m1 ha, ha.m2 hb, dSub] at e ⊢
  simp [e]
theorem s_is_less (ha : Sm a) (hb : Sm b) : m_is_less [.dat (eR a), .dat (eR b)] [] = .ok (.dat (.bool (decide (a < b)))) [] := by
  unfold m_is_less b_is_less
  simp [eR, dIx, atI, ixN, dMul, ha.m1 hb, hb.m1 ha, dLt, Rat.lt_iff]
theorem eR_eqv : PyData.eqv (eR a) (eR b) = decide (a = b) := by
  show ((a.num == b.num) && (((a.den : Int) == (b.den : Int)) && true)) = _
  rw [Bool.and_true, Bool.beq_eq_decide_eq, Bool.beq_eq_decide_eq, ← Bool.decide_and, decide_eq_decide]
  exact ⟨fun h => Rat.ext h.1 (by omega), fun h => by subst h; exact ⟨rfl, rfl⟩⟩
theorem eR_depth : (eR a).depth = 1 := by simp [eR, PyData.depth, PyData.depthAll]
theorem eR_zero : eR 0 = .tuple [.int 0, .int 1] := rfl
theorem eR_pos : (0 < a.num) ↔ 0 < a := by
  rw [Rat.lt_iff]; simp
end
theorem dv {q : Rat} {D : Nat} (hD : 0 < D) : q.den ∣ D ↔ ∃ k : Int, q = mkRat k D := by
  constructor
  · rintro ⟨c, rfl⟩
    have hc : c ≠ 0 := fun e => by subst e; simp at hD
    exact ⟨q.num * c, by rw [Rat.mkRat_mul_right hc, Rat.mkRat_self]⟩
  · rintro ⟨k, rfl⟩
    rw [Rat.den_mkRat, if_neg (by omega)]
    exact Nat.div_dvd_of_dvd (Nat.gcd_dvd_left _ _)
def FrB (D m : Nat) (q : Rat) : Prop := q.den ∣ D ∧ 0 ≤ q ∧ q ≤ (m : Rat)
theorem mk_add {D : Nat} (hD : 0 < D) (k l : Int) : mkRat k D + mkRat l D = mkRat (k + l) D := by
  rw [Rat.mkRat_add_mkRat _ _ (by omega) (by omega), ← Int.add_mul, Rat.mkRat_mul_right (by omega)]
theorem den_add_dvd {D : Nat} (hD : 0 < D) {a b : Rat} (ha : a.den ∣ D) (hb : b.den ∣ D) : (a + b).den ∣ D := by
  obtain ⟨k, rfl⟩ := (dv hD).mp ha
  obtain ⟨l, rfl⟩ := (dv hD).mp hb
  exact (dv hD).mpr ⟨k + l, mk_add hD k l⟩
theorem den_sub_dvd {D : Nat} (hD : 0 < D) {a b : Rat} (ha : a.den ∣ D) (hb : b.den ∣ D) : (a - b).den ∣ D := by
  rw [Rat.sub_eq_add_neg]
  exact den_add_dvd hD ha (by rw [Rat.neg_den]; exact hb)
theorem FrB.add {D m n : Nat} {a b : Rat} (hD : 0 < D) (ha : FrB D m a) (hb : FrB D n b) : FrB D (m + n) (a + b) := by
  refine ⟨den_add_dvd hD ha.1 hb.1, ?_, ?_⟩
  · have := ha.2.1; have := hb.2.1; grind
  · have := ha.2.2; have := hb.2.2; rw [Rat.natCast_add]; grind
theorem FrB.sub {D m n : Nat} {a b : Rat} (hD : 0 < D) (ha : FrB D m a) (hb : FrB D n b) (h : b ≤ a) : FrB D m (a - b) := by
  refine ⟨den_sub_dvd hD ha.1 hb.1, ?_, ?_⟩
  · grind
  · have := ha.2.2; have := hb.2.1; grind
theorem FrB.up {D m n : Nat} {a : Rat} (h : FrB D m a) (hm : m ≤ n) : FrB D n a := ⟨h.1, h.2.1, by have := h.2.2; have : (m : Rat) ≤ n := Rat.natCast_le_natCast.mpr hm; grind⟩
theorem FrB.zero {D m : Nat} : FrB D m 0 := ⟨Nat.one_dvd _, Rat.le_refl, Rat.natCast_nonneg⟩
theorem FrB.num {D m : Nat} {a : Rat} (hD : 0 < D) (h : FrB D m a) : 0 ≤ a.num ∧ a.num ≤ (m * D : Nat) ∧ a.den ≤ D := by
  have h1 := Nat.le_of_dvd hD h.1
  have h2 := (Rat.le_iff a m).mp h.2.2
  simp only [Rat.den_natCast, Rat.num_natCast] at h2
  have h3 : (m : Int) * a.den ≤ m * D := Int.mul_le_mul_of_nonneg_left (by omega) (by omega)
  refine ⟨Rat.num_nonneg.mpr h.2.1, ?_, h1⟩
  rw [Int.natCast_mul]; omega
theorem FrB.sm {D m : Nat} {a : Rat} (hD : 0 < D) (h : FrB D m a) (hs : m * D < 2 ^ 1000) (hs2 : D < 2 ^ 1000) : Sm a := by
  obtain ⟨h1, h2, h3⟩ := h.num hD
  exact ⟨by omega, by omega⟩
end G
namespace G
open PySem PySem.Spec PyProof.Rows L2
open PySem.W (dataLt dataLe alike keyToks)
structure Gd where
  nm : Str
  g : Int
  c : Int
  d : Int
  ms : List Str
def eG (x : Gd) : PyData := .tuple [.str x.nm, .int x.g, .int x.c, .int x.d, .tuple (x.ms.map .str)]
abbrev Names6 : List Str := ["apple", "eggs", "flour", "milk", "nut", "salt"]
abbrev Marks4 : List Str := ["dairy", "egg", "gluten", "nuts"]
structure GdO (x : Gd) : Prop where
  nm : x.nm ∈ Names6 ∨ x.nm = "egg"
  g0 : 0 < x.g
  g1 : x.g ≤ 1000
  c0 : 0 ≤ x.c
  c1 : x.c < 500
  d0 : 0 ≤ x.d
  d1 : x.d ≤ 30
  ms : List.Sublist x.ms Marks4
theorem list_of {α : Type} {P : PyData → Prop} {e : α → PyData} {Q : α → Prop} (h : ∀ x, P x → ∃ a, x = e a ∧ Q a) : ∀ xs : List PyData, (∀ x ∈ xs, P x) → ∃ as : List α, xs = as.map e ∧ ∀ a ∈ as, Q a
  | [], _ => ⟨[], rfl, fun a h => nomatch h⟩
  | x :: xs, hx => by
    obtain ⟨a, rfl, h1⟩ := h x (hx x (List.mem_cons_self ..))
    obtain ⟨as, rfl, h2⟩ := list_of h xs fun y hy => hx y (List.mem_cons_of_mem _ hy)
    refine ⟨a :: as, rfl, fun b hb => ?_⟩
    rcases List.mem_cons.mp hb with rfl | hb
    · exact h1
    · exact h2 b hb
theorem sub_strs {ms : List PyData} (h : List.Sublist ms [.str "dairy", .str "egg", .str "gluten", .str "nuts"]) : ∃ zs : List Str, ms = zs.map .str ∧ List.Sublist zs Marks4 := by
  have h' : List.Sublist ms (Marks4.map PyData.str) := h
  obtain ⟨zs, h1, h2⟩ := List.sublist_map_iff.mp h'
  exact ⟨zs, h2, h1⟩
theorem gd_of (x : PyData) (h : IsGd x) : ∃ g : Gd, x = eG g ∧ GdO g := by
  cases h with
  | @mk z a b c ms h1 h2 h3 h4 h5 h6 h7 =>
    obtain ⟨zs, rfl, hz⟩ := sub_strs h7
    simp at h6
    exact ⟨⟨z, a, b, c, zs⟩, rfl, .inl h1, h2, h3, h4, h5, (by show 0 ≤ c; omega), (by show c ≤ 30; omega), hz⟩
theorem t_goods {n : Nat} {d : Dk} (h : d.ok (n + 43)) : ∃ (gs : List Gd) (d' : Dk), m__law_goods [.cel 0] [.lst d.l] = .ok (.dat (.tuple (gs.map eG))) [.lst (Dk.l d')] ∧ d'.ok n ∧ (∀ g ∈ gs, GdO g) ∧ 2 ≤ gs.length ∧ gs.length ≤ 6 ∧ gs.map (·.nm) = Names6.take gs.length := by
  obtain ⟨xs, d', e, h1, h2, h3, h4⟩ := s_goods h
  obtain ⟨gs, rfl, hg⟩ := list_of gd_of xs h2
  rw [List.length_map] at h3 h4
  have h6 : gs.length ≤ 6 := by
    have := congrArg List.length h4
    simp at this; omega
  refine ⟨gs, d', e, h1, hg, h3, h6, ?_⟩
  have e2 : (gs.map (·.nm)).map PyData.str = (Names6.take gs.length).map PyData.str := by
    rw [List.map_take, List.map_map]
    rw [List.map_map] at h4
    exact h4
  exact List.map_inj_right (fun _ _ => PyData.str.inj) |>.mp e2
abbrev gfindT (gs : List Gd) (z : Str) : Option Gd := gs.find? fun g => g.nm == z
def HasG (gs : List Gd) (z : Str) : Prop := ∃ g ∈ gs, g.nm = z
theorem HasG.find {gs : List Gd} {z : Str} (h : HasG gs z) : ∃ g, gfindT gs z = some g ∧ g ∈ gs ∧ g.nm = z := by
  obtain ⟨g, hg, rfl⟩ := h
  cases q : gfindT gs g.nm with
  | none => exact absurd (List.find?_eq_none.mp q g hg) (by simp)
  | some x => exact ⟨x, rfl, List.mem_of_find?_eq_some q, by have := List.find?_some q; simpa using this⟩
theorem t_good_of (gs : List Gd) (z : Str) : m_good_of [.dat (.tuple (gs.map eG)), .dat (.str z)] [] = .ok (.dat (match gfindT gs z with | some g => eG g | none => .none)) [] := by
  obtain ⟨h1, h2⟩ := forA_first (g := tName 2) (b := b_good_of_l1) eG (fun g : Gd => g.nm == z) (fun g a f => a = .dat (eG g) ∧ f.cells = []) (fun fr => ∃ v, fr = ⟨[some (.dat (.tuple (gs.map eG))), some (.dat (.str z)), v], [], 0⟩) gs ⟨[some (.dat (.tuple (gs.map eG))), some (.dat (.str z)), none], [], 0⟩ ⟨none, rfl⟩ fun g hg fr ⟨v, e⟩ => by
    subst e
    have hb : b_good_of_l1 ⟨[some (.dat (.tuple (gs.map eG))), some (.dat (.str z)), some (.dat (eG g))], [], 0⟩ = if (g.nm == z) = true then .ret (.dat (eG g)) ⟨[some (.dat (.tuple (gs.map eG))), some (.dat (.str z)), some (.dat (eG g))], [], 0⟩ else .nx ⟨[some (.dat (.tuple (gs.map eG))), some (.dat (.str z)), some (.dat (eG g))], [], 0⟩ := by
      simp [b_good_of_l1, eG, dIx, atI, ixN, dEq, eqOk_str, eqv_str]
    refine ⟨_, rfl, fun hp => ⟨.dat (eG g), ⟨[some (.dat (.tuple (gs.map eG))), some (.dat (.str z)), some (.dat (eG g))], [], 0⟩, ?_, rfl, rfl⟩, fun hp => ⟨⟨[some (.dat (.tuple (gs.map eG))), some (.dat (.str z)), some (.dat (eG g))], [], 0⟩, .inl ?_, _, rfl⟩⟩
    · show b_good_of_l1 _ = _
      exact hb.trans (if_pos hp)
    · exact hb.trans (if_neg (by rw [hp]; decide))
  unfold m_good_of b_good_of
  cases q : gfindT gs z with
  | some g =>
    obtain ⟨a, fr', e, rfl, hc⟩ := h1 g q
    simp [e, hc]
  | none =>
    obtain ⟨fr', e, v, rfl⟩ := h2 q
    simp [e]
def dayG (gs : List Gd) (z : Str) : Int := match gfindT gs z with
  | some g => g.d
  | none => 0
theorem t_days {gs : List Gd} {z : Str} (hl : gs.length ≤ 1000000) (h : HasG gs z) : m__law_days [.dat (.tuple (gs.map eG)), .dat (.str z)] [] = .ok (.dat (.int (dayG gs z))) [] := by
  obtain ⟨g, q, _, _⟩ := h.find
  have ec := xComp_typed (own := [2]) (g := tName 2) (t := b__law_days_t1) (f := b__law_days_e1) (e := xItems (xVar 0)) (fr := ⟨[some (.dat (.tuple (gs.map eG))), some (.dat (.str z)), none], [], 0⟩) eG (fun g : Gd => g.nm == z) (fun g => .int g.d) (fun g => ⟨[some (.dat (.tuple (gs.map eG))), some (.dat (.str z)), some (.dat (eG g))], [], 0⟩) gs (by simp) hl (fun _ _ => rfl) (fun _ => rfl)
    (fun g _ => by simp [b__law_days_t1, eG, dIx, atI, ixN, dEq, eqOk_str, eqv_str]) (fun g _ _ => by simp [b__law_days_e1, eG, dIx, atI, ixN])
  obtain ⟨r, hr⟩ := find_filter _ gs g q
  rw [hr] at ec
  unfold m__law_days b__law_days dayG
  rw [q]
  simp [ec, dIx, atI, ixN]
def eL (l : Lt Str) : PyData := .tuple [.str l.nm, .int l.t, eR l.q]
/-- a lot, as it was drawn -/
structure LtO (gs : List Gd) (l : Lt Str) : Prop where
  nm : HasG gs l.nm
  t0 : 0 ≤ l.t
  t1 : l.t < 12
  q0 : 0 < l.q
  q : FrB 420 40 l.q
theorem amt_of (x : PyData) (h : IsAmt x) : ∃ r : Rat, x = eR r ∧ 0 < r ∧ FrB 420 40 r := by
  cases h with
  | @mk p q h1 h2 h3 h4 h5 =>
    have e : ((q.toNat : Nat) : Int) = q := Int.toNat_of_nonneg (by omega)
    refine ⟨⟨p, q.toNat, by omega, by rw [Nat.Coprime, ← h5]; congr 1; omega⟩, ?_, ?_, ?_, ?_, ?_⟩
    · simp only [eR, e]
    · exact eR_pos.mp h1
    · show q.toNat ∣ 420
      have : q.toNat = 1 ∨ q.toNat = 2 ∨ q.toNat = 3 ∨ q.toNat = 4 ∨ q.toNat = 5 ∨ q.toNat = 6 ∨ q.toNat = 7 := by omega
      rcases this with h | h | h | h | h | h | h <;> rw [h] <;> decide
    · exact Rat.le_of_lt (eR_pos.mp h1)
    · rw [Rat.le_iff]
      show p * 1 ≤ 40 * (q.toNat : Int)
      omega
theorem lot_of {gs : List Gd} (x : PyData) (h : IsLot ((gs.map eG).map nmD) x) : ∃ l : Lt Str, x = eL l ∧ LtO gs l := by
  cases h with
  | @mk z t x h1 h2 h3 h4 =>
    obtain ⟨r, rfl, h5, h6⟩ := amt_of x h4
    refine ⟨⟨z, t, r⟩, rfl, ?_, h2, h3, h5, h6⟩
    rw [List.map_map] at h1
    obtain ⟨g, hg, e⟩ := List.mem_map.mp h1
    exact ⟨g, hg, PyData.str.inj e⟩
/-- keys in order -/
def keyLt (a b : Str × Int) : Bool := dataLt (.tuple [.str a.1, .int a.2]) (.tuple [.str b.1, .int b.2])
theorem keyLt_t {n : Str} {i j : Int} : keyLt (n, i) (n, j) = decide (i < j) := by
  unfold keyLt
  rw [PySem.W.dataLt_tuple, PySem.W.dataLt_cons (al_str n n), if_pos (by simp [eqv_str]), PySem.W.dataLt_cons (al_int i j)]
  split
  · rename_i q2
    simp [eqv_int] at q2
    subst q2
    rw [show decide (i < i) = false by simp]
    rfl
  · exact PySem.W.dataLt_int ..
theorem keyLt_irrefl (a : Str × Int) : keyLt a a = false := by
  obtain ⟨n, i⟩ := a
  rw [keyLt_t]; simp
abbrev RiseK (ks : List (Str × Int)) : Prop := ks.Pairwise fun a b => keyLt a b = true
theorem riseL {ls : List (Lt Str)} (h : RiseK (ls.map keyT)) : Rise (ls.map eL) := by
  unfold Rise
  unfold RiseK at h
  rw [List.pairwise_map] at h ⊢
  exact h.imp fun {a b} hab => key_lot hab
theorem t_store {n : Nat} {d : Dk} {gs : List Gd} (h : d.ok (n + 33)) (h0 : 0 < gs.length) (h1 : gs.length ≤ 6) : ∃ (ls : List (Lt Str)) (d' : Dk), m__law_store [.cel 0, .dat (.tuple (gs.map eG))] [.lst d.l] = .ok (.dat (.tuple (ls.map eL))) [.lst (Dk.l d')] ∧ d'.ok n ∧ (∀ l ∈ ls, LtO gs l) ∧ RiseK (ls.map keyT) ∧ ls.length ≤ 8 := by
  obtain ⟨xs, d', e, h2, h3, h4, h5, h6⟩ := s_store2 (gs := gs.map eG) h (fun x hx => by
    obtain ⟨g, hg, rfl⟩ := List.mem_map.mp hx
    exact ⟨g.nm, by simp [eG, dIx, atI, ixN], by rw [List.map_map]; exact List.mem_map.mpr ⟨g, hg, rfl⟩⟩) (by simpa using h0) (by simpa using h1)
  obtain ⟨ls, rfl, hl⟩ := list_of (lot_of (gs := gs)) xs h3
  refine ⟨ls, d', e, h2, hl, ?_, by simpa using h5⟩
  unfold RiseH at h6
  unfold RiseK
  rw [List.pairwise_map] at h6 ⊢
  exact h6
section
variable {β : Type}
def aget (kvs : List (Str × β)) (n : Str) : Option β := (kvs.find? fun q => q.1 == n).map (·.2)
def aput (kvs : List (Str × β)) (n : Str) (v : β) : List (Str × β) := if (aget kvs n).isSome = true then kvs.map fun q => if (q.1 == n) = true then (q.1, v) else q else kvs ++ [(n, v)]
def eK (e : β → PyData) (q : Str × β) : PyData × PyData := (.str q.1, e q.2)
variable {e : β → PyData} {kvs : List (Str × β)} {n : Str} {v : β}
theorem kfind_t : kfind (kvs.map (eK e)) (.str n) = (aget kvs n).map e := by
  unfold kfind aget
  rw [List.find?_map]
  have : ((fun q : PyData × PyData => PyData.eqv q.1 (.str n)) ∘ eK e) = fun q : Str × β => q.1 == n := rfl
  rw [this]
  cases (kvs.find? fun q => q.1 == n) <;> rfl
theorem kput_t : kput (kvs.map (eK e)) (.str n) (e v) = (aput kvs n v).map (eK e) := by
  unfold kput aput
  rw [kfind_t]
  have e1 : ((aget kvs n).map e).isSome = (aget kvs n).isSome := by cases aget kvs n <;> rfl
  rw [e1]
  split
  · rw [List.map_map, List.map_map]
    refine List.map_congr_left fun q _ => ?_
    show (if PyData.eqv (.str q.1) (.str n) = true then ((.str q.1, e v) : PyData × PyData) else (.str q.1, e q.2)) = eK e (if (q.1 == n) = true then (q.1, v) else q)
    rw [eqv_str]
    split <;> rfl
  · rw [List.map_append]; rfl
theorem aget_put (m : Str) : aget (aput kvs n v) m = if m = n then some v else aget kvs m := by
  unfold aput
  split
  · rename_i h
    have fm : ∀ l : List (Str × β), ((l.map fun q => if (q.1 == n) = true then (q.1, v) else q).find? fun q => q.1 == m) = (l.find? fun q => q.1 == m).map fun q => if (q.1 == n) = true then (q.1, v) else q := by
      intro l
      rw [List.find?_map]
      congr 1
      have : ((fun q : Str × β => q.1 == m) ∘ fun q : Str × β => if (q.1 == n) = true then (q.1, v) else q) = fun q : Str × β => q.1 == m := by
        funext q
        show ((if (q.1 == n) = true then (q.1, v) else q).1 == m) = _
        split <;> rfl
      rw [this]
    unfold aget at h ⊢
    rw [fm]
    by_cases hm : m = n
    · subst hm
      rw [if_pos rfl]
      cases q : (kvs.find? fun q => q.1 == m) with
      | none => rw [q] at h; cases h
      | some z =>
        have := List.find?_some q
        simp only [Option.map_some]
        rw [if_pos this]
    · rw [if_neg hm]
      cases q : (kvs.find? fun q => q.1 == m) with
      | none => rfl
      | some z =>
        have : z.1 = m := by have := List.find?_some q; simpa using this
        simp only [Option.map_some]
        rw [if_neg (by rw [this]; simpa using hm)]
  · rename_i h
    unfold aget at h ⊢
    rw [List.find?_append]
    by_cases hm : m = n
    · subst hm
      rw [if_pos rfl]
      cases q : (kvs.find? fun q => q.1 == m) with
      | none => simp
      | some z => rw [q] at h; exact absurd rfl h
    · rw [if_neg hm]
      have : ([(n, v)].find? fun q => q.1 == m) = none := by
        rw [List.find?_cons]
        have : ((n, v).1 == m) = false := by simpa using Ne.symm hm
        rw [this]; rfl
      rw [this, Option.or_none]
theorem aget_none : aget kvs n = none ↔ n ∉ kvs.map (·.1) := by
  unfold aget
  rw [Option.map_eq_none_iff, List.find?_eq_none]
  constructor
  · intro h hm
    obtain ⟨q, hq, rfl⟩ := List.mem_map.mp hm
    exact h q hq (by simp)
  · intro h q hq e
    exact h (List.mem_map.mpr ⟨q, hq, by simpa using e⟩)
theorem aput_keys : (aput kvs n v).map (·.1) = if n ∈ kvs.map (·.1) then kvs.map (·.1) else kvs.map (·.1) ++ [n] := by
  unfold aput
  by_cases h : n ∈ kvs.map (·.1)
  · rw [if_pos h, if_pos ?_]
    · rw [List.map_map]
      refine List.map_congr_left fun q _ => ?_
      show (if (q.1 == n) = true then (q.1, v) else q).1 = q.1
      split <;> rfl
    · cases q : aget kvs n with
      | none => exact absurd h (aget_none.mp q)
      | some z => rfl
  · rw [if_neg h, if_neg ?_]
    · simp
    · rw [aget_none.mpr h]; exact fun z => nomatch z
theorem aput_nodup (h : (kvs.map (·.1)).Nodup) : ((aput kvs n v).map (·.1)).Nodup := by
  rw [aput_keys]
  split
  · exact h
  · rename_i hn
    rw [List.nodup_append]
    refine ⟨h, by simp, fun a ha b hb e => ?_⟩
    rw [List.mem_singleton] at hb
    subst hb; subst e
    exact hn ha
theorem aput_len : (aput kvs n v).length ≤ kvs.length + 1 := by
  have := congrArg List.length (aput_keys (kvs := kvs) (n := n) (v := v))
  rw [List.length_map] at this
  rw [this]
  split <;> simp
theorem aput_all {P : Str × β → Prop} (h : ∀ q ∈ kvs, P q) (hn : P (n, v)) : ∀ q ∈ aput kvs n v, P q := by
  intro q hq
  unfold aput at hq
  split at hq
  · obtain ⟨z, hz, rfl⟩ := List.mem_map.mp hq
    split
    · rename_i e
      have : z.1 = n := by simpa using e
      rw [this]; exact hn
    · exact h z hz
  · rcases List.mem_append.mp hq with z | z
    · exact h q z
    · rw [List.mem_singleton.mp z]; exact hn
theorem aget_mem {b : β} (h : aget kvs n = some b) : (n, b) ∈ kvs := by
  unfold aget at h
  cases q : (kvs.find? fun q => q.1 == n) with
  | none => rw [q] at h; cases h
  | some z =>
    rw [q] at h
    cases h
    have : z.1 = n := by have := List.find?_some q; simpa using this
    rw [← this]
    exact List.mem_of_find?_eq_some q
end
def eN (q : Str × Rat) : PyData := .tuple [.str q.1, eR q.2]
theorem sortOk_t {α : Type} {e : α → PyData} {xs : List α} (hl : xs.length ≤ 1000000) (ha : ∀ x ∈ xs, ∀ y ∈ xs, alike (e x) (e y) = true) (ht : ∀ x ∈ xs, tupB (e x) = true) (hd : ∀ x ∈ xs, (e x).depth ≤ 32) : sortOk (xs.map e) = true := by
  unfold sortOk allAlike
  simp only [Bool.and_eq_true, Bool.or_eq_true, List.all_eq_true, decide_eq_true_eq, List.length_map]
  refine ⟨⟨⟨hl, fun x hx y hy => ?_⟩, .inl fun x hx => ?_⟩, fun x hx => ?_⟩
  · obtain ⟨a, h1, rfl⟩ := List.mem_map.mp hx
    obtain ⟨b, h2, rfl⟩ := List.mem_map.mp hy
    exact ha a h1 b h2
  · obtain ⟨a, h1, rfl⟩ := List.mem_map.mp hx
    exact ht a h1
  · obtain ⟨a, h1, rfl⟩ := List.mem_map.mp hx
    exact hd a h1
/-- what is sorted, with its types -/
def srtT {α : Type} (e : α → PyData) (xs : List α) : List α := xs.mergeSort fun a b => srtLe (e a) (e b)
theorem srtT_map {α : Type} (e : α → PyData) (xs : List α) : (xs.map e).mergeSort srtLe = (srtT e xs).map e := by
  unfold srtT
  exact (List.map_mergeSort (f := e) (r := fun a b => srtLe (e a) (e b)) (s := srtLe) (l := xs) fun _ _ _ _ => rfl).symm
theorem srtT_perm {α : Type} (e : α → PyData) (xs : List α) : (srtT e xs).Perm xs := List.mergeSort_perm _ _
theorem eN_sortOk {xs : List (Str × Rat)} (hl : xs.length ≤ 1000000) : sortOk (xs.map eN) = true := sortOk_t hl (fun _ _ _ _ => by simp [eN, eR, alike, PySem.W.alikeAll]) (fun _ _ => rfl) (fun _ _ => by simp [eN, eR, PyData.depth, PyData.depthAll])
theorem items_t (kvs : List (Str × Rat)) : itemsD (kvs.map (eK eR)) = kvs.map eN := by unfold itemsD; rw [List.map_map]; rfl
theorem srtd_items {kvs : List (Str × Rat)} (hl : kvs.length ≤ 1000000) : dSortedI (kvs.map (eK eR)) = some (.list ((srtT eN kvs).map eN)) := by
  unfold dSortedI dSortL
  rw [items_t, if_pos (eN_sortOk hl), srtT_map]
theorem pairs_t (kvs : List (Str × Rat)) : pairsD (kvs.map eN) = some (kvs.map (eK eR)) := by
  induction kvs with
  | nil => rfl
  | cons q kvs ih =>
    rw [List.map_cons]
    show pairsD (.tuple [.str q.1, eR q.2] :: _) = _
    unfold pairsD
    rw [ih]
    rfl
theorem merge_t : ∀ (kvs acc : List (Str × Rat)), mergeD (acc.map (eK eR)) (kvs.map (eK eR)) = (kvs.foldl (fun a q => aput a q.1 q.2) acc).map (eK eR)
  | [], acc => rfl
  | q :: kvs, acc => by
    rw [List.map_cons]
    show mergeD (kput (acc.map (eK eR)) (.str q.1) (eR q.2)) _ = _
    rw [kput_t, merge_t kvs]
    rfl
/-- dict(rows), of rows with names unlike -/
theorem dict_nodup {kvs : List (Str × Rat)} (h : (kvs.map (·.1)).Nodup) : mergeD [] (kvs.map (eK eR)) = kvs.map (eK eR) := by
  have key : ∀ (kvs acc : List (Str × Rat)), ((acc ++ kvs).map (·.1)).Nodup → kvs.foldl (fun a q => aput a q.1 q.2) acc = acc ++ kvs := by
    intro kvs
    induction kvs with
    | nil => intro acc _; simp
    | cons q kvs ih =>
      intro acc nd
      rw [List.foldl_cons]
      have hn : q.1 ∉ acc.map (·.1) := by
        intro hm
        rw [List.map_append, List.nodup_append] at nd
        exact nd.2.2 _ hm _ (List.mem_map.mpr ⟨q, List.mem_cons_self .., rfl⟩) rfl
      have e1 : aput acc q.1 q.2 = acc ++ [q] := by
        unfold aput
        rw [aget_none.mpr hn]
        rfl
      rw [e1, ih _ (by rw [List.append_assoc]; exact nd), List.append_assoc]
      rfl
  have := merge_t kvs []
  rw [List.map_nil] at this
  rw [this, key kvs [] (by simpa using h), List.nil_append]
end G
namespace G
open PySem PySem.Spec PyProof.Rows L2
open PySem.W (dataLt dataLe alike keyToks)
def b_lacking_l1 : Fr → SRes :=
  sIf (xAnd (xB (xOp2 dEq (xIx (xVar 8) (xC (.int 0))) (xVar 5))) (xNot (xB (xCall m_is_over (xCons (xVar 0) (xCons (xVar 8) (xCons (xVar 3) (xNil)))))))) (sSet 7 (xCall m_plus (xCons (xVar 7) (xCons (xIx (xVar 8) (xC (.int 2))) (xNil))))) (sNx)
def b_lacking_l2 : Fr → SRes :=
  sKill [7, 8] (sSeq (sSet 7 (xC (.tuple [.int 0, .int 1])))
  (sSeq (sFor (xItems (xVar 1)) (tName 8) (b_lacking_l1))
  (sKill [8] (sIf (xB (xCall m_is_less (xCons (xVar 7) (xCons (xVar 6) (xNil))))) (sApp 4 (xTup (xCons (xVar 5) (xCons (xCall m_minus (xCons (xVar 6) (xCons (xVar 7) (xNil)))) (xNil))))) (sNx)))))
def b_lacking : Fr → SRes :=
  sSeq (sSet 4 (xNewL (xNil)))
  (sSeq (sFor (xItems (xVar 2)) (tNames [5, 6]) (b_lacking_l2))
  (sKill [5, 6, 7, 8] (sRet (xVar 4))))
def m_lacking : AFun := mkFun 9 4 b_lacking
def b_taken_l1 : Fr → SRes :=
  sErr
def b_taken_l2 : Fr → SRes :=
  sKill [10, 11] (sSeq (sSet 10 (xIf (xB (xCall m_is_over (xCons (xVar 0) (xCons (xVar 9) (xCons (xVar 3) (xNil)))))) (xC (.tuple [.int 0, .int 1])) (xDGetD (xVar 6) (xIx (xVar 9) (xC (.int 0))) (xC (.tuple [.int 0, .int 1])))))
  (sSeq (sSet 11 (xIf (xB (xCall m_is_less (xCons (xIx (xVar 9) (xC (.int 2))) (xCons (xVar 10) (xNil))))) (xIx (xVar 9) (xC (.int 2))) (xVar 10)))
  (sSeq (sIf (xB (xOp2 dGt (xIx (xVar 11) (xC (.int 0))) (xC (.int 0)))) (sSeq (sApp 7 (xOp2 dAdd (xSl (xVar 9) (xNo) (xSo (xC (.int 2)))) (xTup (xCons (xVar 11) (xNil)))))
  (sDSet 6 (xIx (xVar 9) (xC (.int 0))) (xCall m_minus (xCons (xVar 10) (xCons (xVar 11) (xNil)))))) (sNx))
  (sIf (xB (xOp2 dNe (xVar 11) (xIx (xVar 9) (xC (.int 2))))) (sApp 8 (xOp2 dAdd (xSl (xVar 9) (xNo) (xSo (xC (.int 2)))) (xTup (xCons (xCall m_minus (xCons (xIx (xVar 9) (xC (.int 2))) (xCons (xVar 11) (xNil)))) (xNil))))) (sNx)))))
def b_taken : Fr → SRes :=
  sSeq (sFor (xItems (xCall m_lacking (xCons (xVar 0) (xCons (xVar 1) (xCons (xVar 2) (xCons (xVar 3) (xNil))))))) (tNames [4, 5]) (b_taken_l1))
  (sKill [4, 5] (sSeq (sSet 6 (xDictF (xVar 2)))
  (sSeq (sPar 7 8 (xCons (xNewL (xNil)) (xCons (xNewL (xNil)) (xNil))))
  (sSeq (sFor (xItems (xVar 1)) (tName 9) (b_taken_l2))
  (sKill [9, 10, 11] (sFrzM 7 (sRet (xTup (xCons (xVar 7) (xCons (xB1 dTuple (xCons (xVar 8) (xNil))) (xNil)))))))))))
def m_taken : AFun := mkFun 12 4 b_taken
def b__law_wants_l1 : Fr → SRes :=
  sKill [3] (sDSet 2 (xIx (xCall m__law_one (xCons (xVar 0) (xCons (xVar 1) (xNil)))) (xC (.int 0))) (xCall m__law_amount (xCons (xVar 0) (xNil))))
def b__law_wants : Fr → SRes :=
  sSeq (sSet 2 (xNewD false))
  (sSeq (sFor (xRange1 (xOp2 dAdd (xC (.int 1)) (xCall m__law_pick (xCons (xVar 0) (xCons (xC (.int 3)) (xNil)))))) (tName 3) (b__law_wants_l1))
  (sKill [3] (sRet (xD1 dSortedI (xVar 2)))))
def m__law_wants : AFun := mkFun 4 2 b__law_wants
def ovG (gs : List Gd) (day : Int) (l : Lt Str) : Bool := decide (l.t + dayG gs l.nm < day)
theorem ovG_key {gs : List Gd} {day : Int} (l m : Lt Str) (h : keyT l = keyT m) : ovG gs day l = ovG gs day m := by
  unfold ovG
  have h1 := congrArg Prod.fst h
  have h2 := congrArg Prod.snd h
  simp only [keyT] at h1 h2
  rw [h1, h2]
theorem t_is_over {gs : List Gd} {l : Lt Str} {day : Int} (h : HasG gs l.nm) : m_is_over [.dat (.tuple (gs.map eG)), .dat (eL l), .dat (.int day)] [] = .ok (.dat (.bool (ovG gs day l))) [] := by
  obtain ⟨g, q, _, _⟩ := h.find
  have e := t_good_of gs l.nm
  rw [q] at e
  unfold m_is_over b_is_over
  simp [eL, dIx, atI, ixN, e, eG, dAdd, dGt, ovG, dayG, q]
theorem t_lis_over {gs : List Gd} {l : Lt Str} {day : Int} (hz : gs.length ≤ 1000000) (h : HasG gs l.nm) : m__law_is_over [.dat (.tuple (gs.map eG)), .dat (eL l), .dat (.int day)] [] = .ok (.dat (.bool (ovG gs day l))) [] := by
  have e := t_days hz h
  unfold m__law_is_over b__law_is_over
  simp [eL, dIx, atI, ixN, e, dAdd, dGt, ovG]
/-- how much of a name is there, that isn't over -/
abbrev thereG (gs : List Gd) (day : Int) (ls : List (Lt Str)) (n : Str) : Rat := avail (ovG gs day) ls n
def lackL (av : Str → Rat) (ns : List (Str × Rat)) : List (Str × Rat) := (ns.filter fun q => decide (av q.1 < q.2)).map fun q => (q.1, q.2 - av q.1)
theorem avail_snoc {ov : Lt Str → Bool} {ls : List (Lt Str)} {l : Lt Str} {n : Str} : avail ov (ls ++ [l]) n = avail ov ls n + (if (l.nm == n && !ov l) = true then l.q else 0) := by
  unfold avail
  rw [List.filter_append, sumOf_append]
  congr 1
  rw [List.filter_cons]
  cases ov l with
  | true => simp [sumOf_nil]
  | false =>
    simp only [Bool.not_false, if_true, List.filter_nil, sumOf_cons, sumOf_nil, Bool.and_true, beq_iff_eq]
    grind
/-- stores that can be reckoned with: bounds of all their sums -/
structure StO (gs : List Gd) (D M : Nat) (ls : List (Lt Str)) : Prop where
  nm : ∀ l ∈ ls, HasG gs l.nm
  q0 : ∀ l ∈ ls, 0 < l.q
  q : ∀ l ∈ ls, FrB D M l.q
  len : ls.length ≤ 60
theorem StO.avail {gs : List Gd} {D M : Nat} (hD : 0 < D) {ov : Lt Str → Bool} {n : Str} : ∀ {ls : List (Lt Str)}, (∀ l ∈ ls, FrB D M l.q) → FrB D (M * ls.length) (avail ov ls n)
  | [], _ => FrB.zero
  | l :: ls, h => by
    have e : G.avail ov (l :: ls) n = (if (l.nm == n && !ov l) = true then l.q else 0) + G.avail ov ls n := by
      unfold G.avail
      rw [List.filter_cons]
      cases ov l with
      | true => simp; grind
      | false => simp [sumOf_cons]
    rw [e, List.length_cons, Nat.mul_succ, Nat.add_comm]
    refine FrB.add hD ?_ (StO.avail (gs := gs) hD fun m hm => h m (List.mem_cons_of_mem _ hm))
    split
    · exact h l (List.mem_cons_self ..)
    · exact FrB.zero
theorem lackL_len {av : Str → Rat} {ns : List (Str × Rat)} : (lackL av ns).length ≤ ns.length := by
  unfold lackL
  rw [List.length_map]
  exact List.length_filter_le _ _
theorem lackL_snoc {av : Str → Rat} {ns : List (Str × Rat)} {q : Str × Rat} : lackL av (ns ++ [q]) = lackL av ns ++ (if av q.1 < q.2 then [(q.1, q.2 - av q.1)] else []) := by
  unfold lackL
  rw [List.filter_append, List.map_append]
  congr 1
  rw [List.filter_cons]
  by_cases h : av q.1 < q.2 <;> simp [h]
/-- needs that can be reckoned with -/
structure NdO (D N : Nat) (ns : List (Str × Rat)) : Prop where
  q0 : ∀ q ∈ ns, 0 < q.2
  q : ∀ q ∈ ns, FrB D N q.2
  len : ns.length ≤ 1000
  nd : (ns.map (·.1)).Nodup
theorem take_of {α : Type} {xs done rest : List α} {x : α} (e : xs = done ++ x :: rest) : x ∈ xs ∧ (∀ y ∈ done, y ∈ xs) ∧ done.length < xs.length := by
  subst e
  refine ⟨by simp, fun y h => by simp [h], by simp⟩
theorem lack_in {gs : List Gd} {ls : List (Lt Str)} {D M : Nat} {day : Int} {n : Str} {v1 v2 v4 v6 : Option AV} {v8 : Option AV} {cs : List Cell} {bs : Nat} (hD : 0 < D) (hs : M * 61 * D < 2 ^ 1000) (hs2 : D < 2 ^ 1000) (hl : StO gs D M ls) :
    ∃ v8', forA (tName 8) b_lacking_l1 (ls.map eL) ⟨[some (.dat (.tuple (gs.map eG))), v1, v2, some (.dat (.int day)), v4, some (.dat (.str n)), v6, some (.dat (eR 0)), v8], cs, bs⟩ = .nx ⟨[some (.dat (.tuple (gs.map eG))), v1, v2, some (.dat (.int day)), v4, some (.dat (.str n)), v6, some (.dat (eR (thereG gs day ls n))), v8'], cs, bs⟩ := by
  have key := forA_typed (g := tName 8) (b := b_lacking_l1) eL (fun done fr => ∃ v8', fr = ⟨[some (.dat (.tuple (gs.map eG))), v1, v2, some (.dat (.int day)), v4, some (.dat (.str n)), v6, some (.dat (eR (thereG gs day done n))), v8'], cs, bs⟩) ls ⟨[some (.dat (.tuple (gs.map eG))), v1, v2, some (.dat (.int day)), v4, some (.dat (.str n)), v6, some (.dat (eR 0)), v8], cs, bs⟩ ⟨v8, rfl⟩ ?_
  · obtain ⟨fr', e, v8', rfl⟩ := key
    exact ⟨v8', e⟩
  · rintro done l rest fr he ⟨v8', rfl⟩
    obtain ⟨hm, hd, hlen⟩ := take_of he
    have ha : FrB D (M * done.length) (thereG gs day done n) := StO.avail (gs := gs) hD fun m hm => hl.q m (hd m hm)
    have h60 := hl.len
    have hle : M * done.length ≤ M * 61 := Nat.mul_le_mul_left _ (by omega)
    have hle2 : M ≤ M * 61 := Nat.le_mul_of_pos_right _ (by decide)
    have h3 : M * 61 * D < 2 ^ 1000 := hs
    have s1 : Sm (thereG gs day done n) := (ha.up hle).sm hD hs hs2
    have s2 : Sm l.q := ((hl.q l hm).up hle2).sm hD hs hs2
    refine ⟨_, ⟨[some (.dat (.tuple (gs.map eG))), v1, v2, some (.dat (.int day)), v4, some (.dat (.str n)), v6, some (.dat (eR (thereG gs day (done ++ [l]) n))), some (.dat (eL l))], cs, bs⟩, rfl, .inl ?_, _, rfl⟩
    have ho := t_is_over (day := day) (hl.nm l hm)
    have hx : dIx (eL l) (.int 0) = some (.str l.nm) := by simp [eL, dIx, atI, ixN]
    have hx2 : dIx (eL l) (.int 2) = some (eR l.q) := by simp [eL, dIx, atI, ixN]
    have hp := s_plus s1 s2
    rw [show thereG gs day (done ++ [l]) n = thereG gs day done n + (if (l.nm == n && !ovG gs day l) = true then l.q else 0) from avail_snoc]
    generalize thereG gs day done n = t at *
    have e0 : t + 0 = t := by grind
    by_cases hn : l.nm = n
    · cases o : ovG gs day l with
      | true =>
        rw [o] at ho
        simp [b_lacking_l1, hx, dEq, eqOk_str, eqv_str, hn, ho, e0]
      | false =>
        rw [o] at ho
        simp [b_lacking_l1, hx, dEq, eqOk_str, eqv_str, hn, ho, hx2, hp]
    · simp [b_lacking_l1, hx, dEq, eqOk_str, eqv_str, hn, e0]
theorem t_lacking {gs : List Gd} {ls : List (Lt Str)} {ns : List (Str × Rat)} {D M N : Nat} {day : Int} (hD : 0 < D) (hs : M * 61 * D < 2 ^ 1000) (hs2 : D < 2 ^ 1000) (hs3 : N * D < 2 ^ 1000) (hl : StO gs D M ls) (hn : NdO D N ns) :
    m_lacking [.dat (.tuple (gs.map eG)), .dat (.tuple (ls.map eL)), .dat (.list (ns.map eN)), .dat (.int day)] [] = .ok (.dat (.list ((lackL (thereG gs day ls) ns).map eN))) [] := by
  have key := forA_typed (g := tNames [5, 6]) (b := b_lacking_l2) eN (fun done fr => ∃ v5 v6 v7 v8, fr = ⟨[some (.dat (.tuple (gs.map eG))), some (.dat (.tuple (ls.map eL))), some (.dat (.list (ns.map eN))), some (.dat (.int day)), some (.cel 0), v5, v6, v7, v8], [.lst ((lackL (thereG gs day ls) done).map eN)], 0⟩) ns ⟨[some (.dat (.tuple (gs.map eG))), some (.dat (.tuple (ls.map eL))), some (.dat (.list (ns.map eN))), some (.dat (.int day)), some (.cel 0), none, none, none, none], [.lst []], 0⟩ ⟨none, none, none, none, rfl⟩ ?_
  · obtain ⟨fr', e, v5, v6, v7, v8, rfl⟩ := key
    unfold m_lacking b_lacking
    simp [e]
  · rintro done q rest fr he ⟨v5, v6, v7, v8, rfl⟩
    obtain ⟨hm, hd, hlen⟩ := take_of he
    obtain ⟨v8', e1⟩ := lack_in (gs := gs) (ls := ls) (day := day) (n := q.1) (v1 := some (.dat (.tuple (ls.map eL)))) (v2 := some (.dat (.list (ns.map eN)))) (v4 := some (.cel 0)) (v6 := some (.dat (eR q.2))) (v8 := none) (cs := [.lst ((lackL (thereG gs day ls) done).map eN)]) (bs := 0) hD hs hs2 hl
    have ha : FrB D (M * ls.length) (thereG gs day ls q.1) := StO.avail (gs := gs) hD hl.q
    have h60 := hl.len
    have s1 : Sm (thereG gs day ls q.1) := (ha.up (Nat.mul_le_mul_left _ (by omega : ls.length ≤ 61))).sm hD hs hs2
    have s2 : Sm q.2 := (hn.q q hm).sm hD hs3 hs2
    have hlt := s_is_less s1 s2
    have hmi := s_minus s2 s1
    have hll : (lackL (thereG gs day ls) done).length < 1000000 := by
      have := lackL_len (av := thereG gs day ls) (ns := done)
      have := hn.len
      omega
    refine ⟨⟨[some (.dat (.tuple (gs.map eG))), some (.dat (.tuple (ls.map eL))), some (.dat (.list (ns.map eN))), some (.dat (.int day)), some (.cel 0), some (.dat (.str q.1)), some (.dat (eR q.2)), v7, v8], [.lst ((lackL (thereG gs day ls) done).map eN)], 0⟩, ⟨[some (.dat (.tuple (gs.map eG))), some (.dat (.tuple (ls.map eL))), some (.dat (.list (ns.map eN))), some (.dat (.int day)), some (.cel 0), some (.dat (.str q.1)), some (.dat (eR q.2)), some (.dat (eR (thereG gs day ls q.1))), none], [.lst ((lackL (thereG gs day ls) (done ++ [q])).map eN)], 0⟩, rfl, .inl ?_, _, _, _, _, rfl⟩
    rw [lackL_snoc]
    rw [eR_zero] at e1
    by_cases h : thereG gs day ls q.1 < q.2
    · simp [b_lacking_l2, e1, hlt, h, hmi, hll, eN]
    · simp [b_lacking_l2, e1, hlt, h]
theorem lot_ix0 (l : Lt Str) : dIx (eL l) (.int 0) = some (.str l.nm) := by simp [eL, dIx, atI, ixN]
theorem lot_ix2 (l : Lt Str) : dIx (eL l) (.int 2) = some (eR l.q) := by simp [eL, dIx, atI, ixN]
theorem lot_sl (l : Lt Str) : dSl (eL l) none (some 2) = some (.tuple [.str l.nm, .int l.t]) := by
  simp only [eL, dSl, cut_take _ 2 (by decide)]; rfl
theorem eR_ix0 (q : Rat) : dIx (eR q) (.int 0) = some (.int q.num) := by simp [eR, dIx, atI, ixN]
theorem eqOk_R (q : Rat) (x : PyData) : eqOk (eR q) x = true := eqOk_l (by rw [eR_depth]; decide)
theorem num_pos {q : Rat} : (0 < q.num) = (0 < q) := propext eR_pos
def nextK (ov : Lt Str → Bool) (kvs : List (Str × Rat)) (w : Str → Rat) (l : Lt Str) : List (Str × Rat) := if 0 < partT ov w l then aput kvs l.nm (wantT ov w l - partT ov w l) else kvs
theorem take_step {gs : List Gd} {l : Lt Str} {D M : Nat} {day : Int} {kvs : List (Str × Rat)} {rows rest : List (Lt Str)} {w : Str → Rat} {v1 v2 v4 v5 v10 v11 : Option AV} (hD : 0 < D) (hs : M * D < 2 ^ 1000) (hs2 : D < 2 ^ 1000) (hl : HasG gs l.nm) (hq : FrB D M l.q) (hk : ∀ q ∈ kvs, FrB D M q.2) (hkl : kvs.length < 1000000) (hw : ∀ n, w n = (aget kvs n).getD 0) (hr : rows.length < 1000000) (hr2 : rest.length < 1000000) :
    b_taken_l2 ⟨[some (.dat (.tuple (gs.map eG))), v1, v2, some (.dat (.int day)), v4, v5, some (.cel 0), some (.cel 1), some (.cel 2), some (.dat (eL l)), v10, v11], [.dct false (kvs.map (eK eR)), .lst (rows.map eL), .lst (rest.map eL)], 0⟩
    = .nx ⟨[some (.dat (.tuple (gs.map eG))), v1, v2, some (.dat (.int day)), v4, v5, some (.cel 0), some (.cel 1), some (.cel 2), some (.dat (eL l)), some (.dat (eR (wantT (ovG gs day) w l))), some (.dat (eR (partT (ovG gs day) w l)))], [.dct false ((nextK (ovG gs day) kvs w l).map (eK eR)), .lst ((rows ++ rowT (ovG gs day) w l).map eL), .lst ((rest ++ restT (ovG gs day) w l).map eL)], 0⟩ := by
  have ho := t_is_over (day := day) hl
  have hwl : FrB D M (wantT (ovG gs day) w l) := by
    unfold wantT
    split
    · exact FrB.zero
    · rw [hw]
      cases q : aget kvs l.nm with
      | none => exact FrB.zero
      | some r => exact hk _ (aget_mem q)
  have hpl : FrB D M (partT (ovG gs day) w l) := by unfold partT; split <;> assumption
  have s1 := hq.sm hD hs hs2
  have s2 := hwl.sm hD hs hs2
  have s3 := hpl.sm hD hs hs2
  have hlt := s_is_less s1 s2
  have hm1 := s_minus s2 s3
  have hm2 := s_minus s1 s3
  have hg : (kfind (kvs.map (eK eR)) (.str l.nm)).getD (.tuple [.int 0, .int 1]) = eR (w l.nm) := by
    rw [kfind_t, hw]
    cases aget kvs l.nm <;> rfl
  have hwant : (if ovG gs day l = true then (.tuple [.int 0, .int 1] : PyData) else eR (w l.nm)) = eR (wantT (ovG gs day) w l) := by
    unfold wantT
    split <;> rfl
  have hpart : (if l.q < wantT (ovG gs day) w l then eR l.q else eR (wantT (ovG gs day) w l)) = eR (partT (ovG gs day) w l) := by
    unfold partT
    split <;> rfl
  unfold nextK rowT restT
  generalize partT (ovG gs day) w l = pt at *
  have step1 : xIf (xB (xCall m_is_over (xCons (xVar 0) (xCons (xVar 9) (xCons (xVar 3) (xNil)))))) (xC (.tuple [.int 0, .int 1])) (xDGetD (xVar 6) (xIx (xVar 9) (xC (.int 0))) (xC (.tuple [.int 0, .int 1]))) ⟨[some (.dat (.tuple (gs.map eG))), v1, v2, some (.dat (.int day)), v4, v5, some (.cel 0), some (.cel 1), some (.cel 2), some (.dat (eL l)), none, none], [.dct false (kvs.map (eK eR)), .lst (rows.map eL), .lst (rest.map eL)], 0⟩ = .ok (.dat (eR (wantT (ovG gs day) w l))) ⟨[some (.dat (.tuple (gs.map eG))), v1, v2, some (.dat (.int day)), v4, v5, some (.cel 0), some (.cel 1), some (.cel 2), some (.dat (eL l)), none, none], [.dct false (kvs.map (eK eR)), .lst (rows.map eL), .lst (rest.map eL)], 0⟩ := by
    rw [← hwant]
    cases o : ovG gs day l with
    | true => rw [o] at ho; simp [ho]
    | false => rw [o] at ho; simp [ho, lot_ix0, kOk, hg]
  generalize wantT (ovG gs day) w l = wt at *
  have step2 : xIf (xB (xCall m_is_less (xCons (xIx (xVar 9) (xC (.int 2))) (xCons (xVar 10) (xNil))))) (xIx (xVar 9) (xC (.int 2))) (xVar 10) ⟨[some (.dat (.tuple (gs.map eG))), v1, v2, some (.dat (.int day)), v4, v5, some (.cel 0), some (.cel 1), some (.cel 2), some (.dat (eL l)), some (.dat (eR wt)), none], [.dct false (kvs.map (eK eR)), .lst (rows.map eL), .lst (rest.map eL)], 0⟩ = .ok (.dat (eR pt)) ⟨[some (.dat (.tuple (gs.map eG))), v1, v2, some (.dat (.int day)), v4, v5, some (.cel 0), some (.cel 1), some (.cel 2), some (.dat (eL l)), some (.dat (eR wt)), none], [.dct false (kvs.map (eK eR)), .lst (rows.map eL), .lst (rest.map eL)], 0⟩ := by
    rw [← hpart]
    by_cases h : l.q < wt
    · simp [lot_ix2, hlt, h]
    · simp [lot_ix2, hlt, h]
  refine (seq_nx (set_ok step1)).trans ?_
  refine (seq_nx (set_ok step2)).trans ?_
  have e1 : dNe (eR pt) (eR l.q) = some (.bool (!decide (pt = l.q))) := by rw [dNe, eqOk_R, eR_eqv]; rfl
  have e2 : kput (kvs.map (eK eR)) (.str l.nm) (eR (wt - pt)) = (aput kvs l.nm (wt - pt)).map (eK eR) := kput_t
  by_cases h1 : 0 < pt <;> by_cases h2 : pt = l.q
  · subst h2
    simp [eR_ix0, dGt, num_pos, h1, lot_sl, dAdd, hr, lot_ix0, hm1, kOk, hkl, e2, lot_ix2, e1]
    rfl
  · simp [eR_ix0, dGt, num_pos, h1, lot_sl, dAdd, hr, lot_ix0, hm1, kOk, hkl, e2, lot_ix2, e1, h2, hm2, hr2]
    exact ⟨rfl, rfl⟩
  · subst h2
    simp [eR_ix0, dGt, num_pos, h1, lot_ix2, e1]
  · simp [eR_ix0, dGt, num_pos, h1, lot_sl, dAdd, lot_ix2, e1, h2, hm2, hr2]
    rfl
theorem aget_bound {kvs : List (Str × Rat)} {D M : Nat} (hk : ∀ q ∈ kvs, FrB D M q.2) (n : Str) : FrB D M ((aget kvs n).getD 0) := by
  cases q : aget kvs n with
  | none => exact FrB.zero
  | some r => exact hk _ (aget_mem q)
theorem take_loop {gs : List Gd} {D M : Nat} {day : Int} {v1 v2 v4 v5 : Option AV} (hD : 0 < D) (hs : M * D < 2 ^ 1000) (hs2 : D < 2 ^ 1000) : ∀ (ls : List (Lt Str)) (kvs : List (Str × Rat)) (rows rest : List (Lt Str)) (w : Str → Rat) (v9 v10 v11 : Option AV),
    (∀ l ∈ ls, HasG gs l.nm ∧ 0 < l.q ∧ FrB D M l.q) → (∀ q ∈ kvs, FrB D M q.2) → kvs.length + ls.length < 1000000 → (∀ n, w n = (aget kvs n).getD 0) → rows.length + ls.length < 1000000 → rest.length + ls.length < 1000000 →
    ∃ (kvs' : List (Str × Rat)) (v9' v10' v11' : Option AV), forA (tName 9) b_taken_l2 (ls.map eL) ⟨[some (.dat (.tuple (gs.map eG))), v1, v2, some (.dat (.int day)), v4, v5, some (.cel 0), some (.cel 1), some (.cel 2), v9, v10, v11], [.dct false (kvs.map (eK eR)), .lst (rows.map eL), .lst (rest.map eL)], 0⟩
    = .nx ⟨[some (.dat (.tuple (gs.map eG))), v1, v2, some (.dat (.int day)), v4, v5, some (.cel 0), some (.cel 1), some (.cel 2), v9', v10', v11'], [.dct false (kvs'.map (eK eR)), .lst ((rows ++ takeR (ovG gs day) ls w).map eL), .lst ((rest ++ takeL (ovG gs day) ls w).map eL)], 0⟩
  | [], kvs, rows, rest, w, v9, v10, v11, _, _, _, _, _, _ => ⟨kvs, v9, v10, v11, by
      unfold takeR takeL forA
      rw [List.append_nil, List.append_nil]
      rfl⟩
  | l :: ls, kvs, rows, rest, w, v9, v10, v11, hl, hk, hkl, hw, hr, hr2 => by
    have h0 := hl l (List.mem_cons_self ..)
    rw [List.length_cons] at hkl hr hr2
    have es := take_step (gs := gs) (l := l) (day := day) (rows := rows) (rest := rest) (v1 := v1) (v2 := v2) (v4 := v4) (v5 := v5) (v10 := v10) (v11 := v11) hD hs hs2 h0.1 h0.2.2 hk (by omega) hw (by omega) (by omega)
    have hwn : ∀ n, 0 ≤ w n := fun n => by rw [hw n]; exact (aget_bound hk n).2.1
    have hp := part_spec (ov := ovG gs day) hwn h0.2.1
    have hwl : FrB D M (wantT (ovG gs day) w l) := by
      unfold wantT
      split
      · exact FrB.zero
      · rw [hw]; exact aget_bound hk _
    have hpl : FrB D M (partT (ovG gs day) w l) := by unfold partT; split; exact h0.2.2; exact hwl
    have hk2 : ∀ q ∈ nextK (ovG gs day) kvs w l, FrB D M q.2 := by
      unfold nextK
      split
      · exact aput_all hk (FrB.sub hD hwl hpl hp.2.2.1)
      · exact hk
    have hkl2 : (nextK (ovG gs day) kvs w l).length ≤ kvs.length + 1 := by
      unfold nextK
      split
      · exact aput_len
      · omega
    have hw2 : ∀ n, nextW (ovG gs day) w l n = (aget (nextK (ovG gs day) kvs w l) n).getD 0 := by
      intro n
      unfold nextW nextK
      split
      · rw [aget_put]
        show (if n = l.nm then _ else _) = _
        split
        · rfl
        · exact hw n
      · exact hw n
    have hrl : (rowT (ovG gs day) w l).length ≤ 1 := by unfold rowT; split <;> simp
    have hrl2 : (restT (ovG gs day) w l).length ≤ 1 := by unfold restT; split <;> simp
    obtain ⟨kvs', v9', v10', v11', ih⟩ := take_loop hD hs hs2 ls (nextK (ovG gs day) kvs w l) (rows ++ rowT (ovG gs day) w l) (rest ++ restT (ovG gs day) w l) (nextW (ovG gs day) w l) (some (.dat (eL l))) (some (.dat (eR (wantT (ovG gs day) w l)))) (some (.dat (eR (partT (ovG gs day) w l)))) (v1 := v1) (v2 := v2) (v4 := v4) (v5 := v5) (day := day) (gs := gs)
      (fun m hm => hl m (List.mem_cons_of_mem _ hm)) hk2 (by omega) hw2 (by rw [List.length_append]; omega) (by rw [List.length_append]; omega)
    refine ⟨kvs', v9', v10', v11', ?_⟩
    rw [List.map_cons]
    unfold forA
    simp only [tName, Fr.setv, List.set_cons_succ, List.set_cons_zero]
    rw [es]
    simp only
    rw [ih]
    have r1 : takeR (ovG gs day) (l :: ls) w = rowT (ovG gs day) w l ++ takeR (ovG gs day) ls (nextW (ovG gs day) w l) := rfl
    have r2 : takeL (ovG gs day) (l :: ls) w = restT (ovG gs day) w l ++ takeL (ovG gs day) ls (nextW (ovG gs day) w l) := rfl
    rw [r1, r2, List.append_assoc, List.append_assoc]
/-- needs of a name -/
def wOf (ns : List (Str × Rat)) (n : Str) : Rat := (aget ns n).getD 0
theorem t_taken {gs : List Gd} {ls : List (Lt Str)} {ns : List (Str × Rat)} {D M : Nat} {day : Int} (hD : 0 < D) (hs : M * 61 * D < 2 ^ 1000) (hs2 : D < 2 ^ 1000) (hl : StO gs D M ls) (hn : NdO D M ns) (h0 : lackL (thereG gs day ls) ns = []) :
    m_taken [.dat (.tuple (gs.map eG)), .dat (.tuple (ls.map eL)), .dat (.list (ns.map eN)), .dat (.int day)] [] = .ok (.dat (.tuple [.list ((takeR (ovG gs day) ls (wOf ns)).map eL), .tuple ((takeL (ovG gs day) ls (wOf ns)).map eL)])) [] := by
  have hs3 : M * D < 2 ^ 1000 := Nat.lt_of_le_of_lt (Nat.mul_le_mul_right _ (Nat.le_mul_of_pos_right _ (by decide))) hs
  have el := t_lacking (day := day) hD hs hs2 hs3 hl hn
  rw [h0] at el
  have hll := hl.len
  have hnl := hn.len
  obtain ⟨kvs', v9, v10, v11, e⟩ := take_loop (gs := gs) (D := D) (M := M) (day := day) (v1 := some (.dat (.tuple (ls.map eL)))) (v2 := some (.dat (.list (ns.map eN)))) (v4 := none) (v5 := none) hD hs3 hs2 ls ns [] [] (wOf ns) none none none (fun l h => ⟨hl.nm l h, hl.q0 l h, hl.q l h⟩) hn.q (by omega) (fun n => rfl) (by rw [List.length_nil]; omega) (by rw [List.length_nil]; omega)
  rw [List.nil_append, List.nil_append] at e
  have hd := dict_nodup hn.nd
  unfold m_taken b_taken
  simp [el, forA, pairs_t, hd]
  simp at e
  simp [e]
end G
namespace G
open PySem PySem.Spec PyProof.Rows L2
open PySem.W (dataLt dataLe alike keyToks)
theorem t_oneT {α : Type} {e : α → PyData} {n : Nat} {d : Dk} {xs : List α} (h : d.ok (n + 1)) (hx : 0 < xs.length) (hx2 : xs.length < 2147483648) : ∃ x d', m__law_one [.cel 0, .dat (.tuple (xs.map e))] [.lst d.l] = .ok (.dat (e x)) [.lst (Dk.l d')] ∧ d'.ok n ∧ x ∈ xs := by
  obtain ⟨y, d', h1, h2, h3⟩ := s_oneT (xs := xs.map e) h (by simpa using hx) (by simpa using hx2)
  obtain ⟨x, hx3, rfl⟩ := List.mem_map.mp h3
  exact ⟨x, d', h1, h2, hx3⟩
theorem t_amount {n : Nat} {d : Dk} (h : d.ok (n + 2)) : ∃ (q : Rat) (d' : Dk), m__law_amount [.cel 0] [.lst d.l] = .ok (.dat (eR q)) [.lst (Dk.l d')] ∧ d'.ok n ∧ 0 < q ∧ FrB 420 40 q := by
  obtain ⟨x, d', h1, h2, h3⟩ := s_amount h
  obtain ⟨q, rfl, h4, h5⟩ := amt_of x h3
  exact ⟨q, d', h1, h2, h4, h5⟩
theorem gd_ix0 (g : Gd) : dIx (eG g) (.int 0) = some (.str g.nm) := by simp [eG, dIx, atI, ixN]
theorem t_wants {n : Nat} {d : Dk} {gs : List Gd} (h : d.ok (n + 10)) (h0 : 0 < gs.length) (h6 : gs.length ≤ 6) : ∃ (ns : List (Str × Rat)) (d' : Dk), m__law_wants [.cel 0, .dat (.tuple (gs.map eG))] [.lst d.l] = .ok (.dat (.list (ns.map eN))) [.lst (Dk.l d')] ∧ d'.ok n ∧ NdO 420 40 ns ∧ (∀ q ∈ ns, HasG gs q.1) ∧ ns.length ≤ 3 ∧ srtT eN ns = ns := by
  obtain ⟨v, d1, e1, h1, v0, v1⟩ := s_pick (n := n + 9) h (k := 3) (by decide) (by decide)
  have key := forA_all (g := tName 3) (b := b__law_wants_l1) (fun done fr => ∃ (d' : Dk) (kvs : List (Str × Rat)) (v3 : Option AV), fr = ⟨[some (.cel 0), some (.dat (.tuple (gs.map eG))), some (.cel 1), v3], [.lst d'.l, .dct false (kvs.map (eK eR))], 1⟩ ∧ d'.ok (n + 3 * (3 - done.length)) ∧ (∀ q ∈ kvs, 0 < q.2 ∧ FrB 420 40 q.2 ∧ HasG gs q.1) ∧ (kvs.map (·.1)).Nodup ∧ kvs.length ≤ done.length)
    (rangeD 0 (1 + v).toNat) ⟨[some (.cel 0), some (.dat (.tuple (gs.map eG))), some (.cel 1), none], [.lst d1.l, .dct false []], 1⟩ ⟨d1, [], none, rfl, h1, (fun q hq => nomatch hq), .nil, Nat.le_refl _⟩ ?_
  · obtain ⟨fr', e, d', kvs, v3, rfl, h3, h4, h5, h7⟩ := key
    rw [rangeD_len] at h3 h7
    have pm := srtT_perm eN kvs
    have hle : kvs.length ≤ 3 := by omega
    have es := srtd_items (kvs := kvs) (by omega)
    have hin : ∀ q ∈ srtT eN kvs, 0 < q.2 ∧ FrB 420 40 q.2 ∧ HasG gs q.1 := fun q hq => h4 q (pm.mem_iff.mp hq)
    refine ⟨srtT eN kvs, d', ?_, h3.less (by omega), ⟨fun q hq => (hin q hq).1, fun q hq => (hin q hq).2.1, by rw [pm.length_eq]; omega, (pm.map _).nodup_iff.mpr h5⟩, fun q hq => (hin q hq).2.2, by rw [pm.length_eq]; omega, ?_⟩
    · have rg : rgOk (1 + v) = true := by unfold rgOk; exact decide_eq_true (by omega)
      unfold m__law_wants b__law_wants
      simp [e1, dAdd, rg, e, es]
    · unfold srtT
      refine List.mergeSort_of_pairwise ?_
      have := srt_pw (kvs.map eN)
      rw [srtT_map, List.pairwise_map] at this
      exact this
  · rintro done y rest fr hy ⟨d', kvs, v3, rfl, hd, hs, nd, hl⟩
    have hlen : done.length < 3 := by
      have := congrArg List.length hy
      rw [rangeD_len] at this
      simp at this; omega
    obtain ⟨m, hm7⟩ : ∃ m, n + 3 * (3 - done.length) = n + 3 * (3 - (done ++ [y]).length) + 3 ∧ m = 0 := ⟨0, by simp; omega, rfl⟩
    rw [hm7.1] at hd
    generalize hq7 : n + 3 * (3 - (done ++ [y]).length) = q at *
    obtain ⟨x, d2, e2, g2, x0, xq⟩ := t_amount (n := q + 1) hd
    obtain ⟨g, d3, e3, g3, hg⟩ := t_oneT (e := eG) (n := q) (xs := gs) g2 h0 (by omega)
    have kl : kvs.length < 1000000 := by omega
    have ek : kput (kvs.map (eK eR)) (.str g.nm) (eR x) = (aput kvs g.nm x).map (eK eR) := kput_t
    refine ⟨_, ⟨[some (.cel 0), some (.dat (.tuple (gs.map eG))), some (.cel 1), none], [.lst d3.l, .dct false ((aput kvs g.nm x).map (eK eR))], 1⟩, rfl, .inl ?_, d3, _, none, rfl, g3, aput_all hs ⟨x0, xq, g, hg, rfl⟩, aput_nodup nd, ?_⟩
    · simp [b__law_wants_l1, e2, e3, gd_ix0, kOk, kl, ek]
    · have := aput_len (kvs := kvs) (n := g.nm) (v := x)
      simp; omega
end G
namespace G
open PySem PySem.Spec PyProof.Rows L2
def b__law_minus : Fr → SRes :=
  sRet (xCall m__law_frac (xCons (xOp2 dSub (xOp2 dMul (xIx (xVar 0) (xC (.int 0))) (xIx (xVar 1) (xC (.int 1)))) (xOp2 dMul (xIx (xVar 1) (xC (.int 0))) (xIx (xVar 0) (xC (.int 1))))) (xCons (xOp2 dMul (xIx (xVar 0) (xC (.int 1))) (xIx (xVar 1) (xC (.int 1)))) (xNil))))
def m__law_minus : AFun := mkFun 2 2 b__law_minus
def b__law_below : Fr → SRes :=
  sRet (xOp2 dLt (xOp2 dMul (xIx (xVar 0) (xC (.int 0))) (xIx (xVar 1) (xC (.int 1)))) (xOp2 dMul (xIx (xVar 1) (xC (.int 0))) (xIx (xVar 0) (xC (.int 1)))))
def m__law_below : AFun := mkFun 2 2 b__law_below
def b__law_taken_t1 : Fr → Res Bool :=
  xAnd (xB (xOp2 dEq (xIx (xVar 12) (xC (.int 0))) (xVar 6))) (xNot (xB (xCall m__law_is_over (xCons (xVar 0) (xCons (xVar 12) (xCons (xVar 3) (xNil)))))))
def b__law_taken_e1 : Fr → Res AV :=
  xVar 12
def b__law_taken_l1 : Fr → SRes :=
  sKill [9, 10, 11] (sIf (xB (xOp2 dGt (xIx (xVar 7) (xC (.int 0))) (xC (.int 0)))) (sSeq (sSet 9 (xIf (xB (xCall m__law_below (xCons (xIx (xVar 8) (xC (.int 2))) (xCons (xVar 7) (xNil))))) (xIx (xVar 8) (xC (.int 2))) (xVar 7)))
  (sSeq (sApp 4 (xOp2 dAdd (xSl (xVar 8) (xNo) (xSo (xC (.int 2)))) (xTup (xCons (xVar 9) (xNil)))))
  (sSeq (sSet 10 (xCall m__law_minus (xCons (xIx (xVar 8) (xC (.int 2))) (xCons (xVar 9) (xNil)))))
  (sSeq (sSet 11 (xIdx 5 (xVar 8)))
  (sSeq (sSlSet 5 (xVar 11) (xOp2 dAdd (xVar 11) (xC (.int 1))) (xIf (xB (xOp2 dGt (xIx (xVar 10) (xC (.int 0))) (xC (.int 0)))) (xLst (xCons (xOp2 dAdd (xSl (xVar 8) (xNo) (xSo (xC (.int 2)))) (xTup (xCons (xVar 10) (xNil)))) (xNil))) (xLst (xNil))))
  (sSet 7 (xCall m__law_minus (xCons (xVar 7) (xCons (xVar 9) (xNil)))))))))) (sNx))
def b__law_taken_l2 : Fr → SRes :=
  sKill [8, 9, 10, 11] (sSeq (sFor (xItems (xComp [12] (xItems (xVar 1)) (tName 12) (b__law_taken_t1) (b__law_taken_e1))) (tName 8) (b__law_taken_l1))
  (sKill [8, 9, 10, 11] (sIf (xB (xOp2 dGt (xIx (xVar 7) (xC (.int 0))) (xC (.int 0)))) (sRet (xLst (xCons (xVar 6) (xCons (xVar 7) (xNil))))) (sNx))))
def b__law_taken : Fr → SRes :=
  sSeq (sPar 4 5 (xCons (xNewL (xNil)) (xCons (xListF (xVar 1)) (xNil))))
  (sSeq (sFor (xItems (xVar 2)) (tNames [6, 7]) (b__law_taken_l2))
  (sKill [6, 7, 8, 9, 10, 11] (sRet (xTup (xCons (xC (.str "told")) (xCons (xTup (xCons (xB1 dSorted (xCons (xVar 4) (xNil))) (xCons (xB1 dTuple (xCons (xVar 5) (xNil))) (xNil)))) (xNil)))))))
def m__law_taken : AFun := mkFun 13 4 b__law_taken
section
variable {ov : Lt Str → Bool} {w : Str → Rat} {l : Lt Str} {n : Str} {g : Rat}
theorem want_upf (h : ¬ (l.nm = n ∧ ov l = false)) : wantT ov (upf w n g) l = wantT ov w l := by
  unfold wantT upf
  cases q : ov l with
  | true => simp
  | false =>
    have : l.nm ≠ n := fun e => h ⟨e, q⟩
    simp [this]
theorem part_upf (h : ¬ (l.nm = n ∧ ov l = false)) : partT ov (upf w n g) l = partT ov w l := by unfold partT; rw [want_upf h]
theorem row_upf (h : ¬ (l.nm = n ∧ ov l = false)) : rowT ov (upf w n g) l = rowT ov w l := by unfold rowT; rw [part_upf h]
theorem rest_upf (h : ¬ (l.nm = n ∧ ov l = false)) : restT ov (upf w n g) l = restT ov w l := by unfold restT; rw [part_upf h]
theorem next_upf (hq : 0 < l.q) (h : ¬ (l.nm = n ∧ ov l = false)) : nextW ov (upf w n g) l = upf (nextW ov w l) n g := by
  unfold nextW
  rw [part_upf h, want_upf h]
  by_cases hp : 0 < partT ov w l
  · rw [if_pos hp, if_pos hp]
    have ho : ov l = false := by
      cases q : ov l with
      | false => rfl
      | true =>
        unfold partT wantT at hp
        rw [q] at hp
        simp only [if_true] at hp
        split at hp <;> grind
    have hne : l.nm ≠ n := fun e => h ⟨e, ho⟩
    funext m
    unfold upf
    by_cases e1 : m = l.nm
    · subst e1; simp [hne]
    · simp [e1]
  · rw [if_neg hp, if_neg hp]
theorem next_other (hne : l.nm ≠ n) : nextW ov w l n = w n := by
  unfold nextW
  split
  · unfold upf; rw [if_neg (Ne.symm hne)]
  · rfl
theorem part_zero (hq : 0 < l.q) (hw : wantT ov w l = 0) : partT ov w l = 0 := by
  unfold partT
  rw [hw, if_neg (by grind)]
theorem lot_same (l : Lt Str) : (⟨l.nm, l.t, l.q - 0⟩ : Lt Str) = l := by
  have : l.q - 0 = l.q := by grind
  rw [this]
theorem at_zero (hq : 0 < l.q) (hw : wantT ov w l = 0) : restT ov w l = [l] ∧ rowT ov w l = [] ∧ nextW ov w l = w := by
  have p := part_zero hq hw
  refine ⟨?_, ?_, ?_⟩
  · unfold restT
    rw [p, if_pos (by grind), lot_same]
  · unfold rowT
    rw [p, if_neg (by grind)]
  · unfold nextW
    rw [p, if_neg (by grind)]
theorem take_none {ls : List (Lt Str)} (hq : ∀ l ∈ ls, 0 < l.q) : takeL ov ls (fun _ => 0) = ls ∧ takeR ov ls (fun _ => 0) = [] := by
  induction ls with
  | nil => exact ⟨rfl, rfl⟩
  | cons l ls ih =>
    obtain ⟨a, b⟩ := ih fun m hm => hq m (List.mem_cons_of_mem _ hm)
    obtain ⟨h1, h2, h3⟩ := at_zero (ov := ov) (w := fun _ => 0) (hq l (List.mem_cons_self ..)) (by unfold wantT; split <;> rfl)
    unfold takeL takeR
    rw [h1, h2, h3, a, b]
    exact ⟨rfl, rfl⟩
end
theorem idx_at {α : Type} {p : α → Bool} {y : α} : ∀ {L R : List α}, (∀ x ∈ L, p x = false) → p y = true → (L ++ y :: R).findIdx? p = some L.length
  | [], R, _, h => by simp [List.findIdx?_cons, h]
  | x :: L, R, h, hy => by
    have := idx_at (L := L) (R := R) (fun z hz => h z (List.mem_cons_of_mem _ hz)) hy
    simp [List.findIdx?_cons, h x (List.mem_cons_self ..), this]
theorem s_lminus {a b : Rat} (ha : Sm a) (hb : Sm b) : m__law_minus [.dat (eR a), .dat (eR b)] [] = .ok (.dat (eR (a - b))) [] := by
  have e := s_frac' (a.num * b.den - b.num * a.den) (a.den * b.den) (Nat.mul_pos a.den_pos b.den_pos) (two_thousand ha.1 hb.1)
  rw [Int.natCast_mul, ← Rat.sub_def'] at e
  unfold m__law_minus b__law_minus
  simp [eR, dIx, atI, ixN, dMul, ha.m1 hb, hb.m1 ha, ha.m2 hb, dSub] at e ⊢
  simp [e]
theorem s_lbelow {a b : Rat} (ha : Sm a) (hb : Sm b) : m__law_below [.dat (eR a), .dat (eR b)] [] = .ok (.dat (.bool (decide (a < b)))) [] := by
  unfold m__law_below b__law_below
  simp [eR, dIx, atI, ixN, dMul, ha.m1 hb, hb.m1 ha, dLt, Rat.lt_iff]
abbrev frT (gd st wa : PyData) (day : Int) (R L : List (Lt Str)) (n : Str) (g : Rat) (v8 v9 v10 v11 : Option AV) : Fr := ⟨[some (.dat gd), some (.dat st), some (.dat wa), some (.dat (.int day)), some (.cel 0), some (.cel 1), some (.dat (.str n)), some (.dat (eR g)), v8, v9, v10, v11, none], [.lst (R.map eL), .lst (L.map eL)], 0⟩
theorem eL_eqv2 (a b : Lt Str) : PyData.eqv (eL a) (eL b) = decide (a.nm = b.nm ∧ a.t = b.t ∧ a.q = b.q) := by
  show ((a.nm == b.nm) && ((a.t == b.t) && (PyData.eqv (eR a.q) (eR b.q) && true))) = _
  rw [eR_eqv, Bool.and_true, Bool.beq_eq_decide_eq, Bool.beq_eq_decide_eq, ← Bool.decide_and, ← Bool.decide_and]
theorem eL_depth2 (l : Lt Str) : (eL l).depth ≤ 2 := by simp [eL, eR, PyData.depth, PyData.depthAll]
theorem lt_idx {L T : List (Lt Str)} {l : Lt Str} (h : ∀ x ∈ L, keyT x ≠ keyT l) : dIdx ((L ++ l :: T).map eL) (eL l) = some L.length := by
  unfold dIdx
  have h1 : inOk (eL l) ((L ++ l :: T).map eL) = true := by
    unfold inOk
    refine decide_eq_true ?_
    have := eL_depth2 l
    omega
  rw [if_pos h1, List.map_append, List.map_cons, idx_at (p := fun z => PyData.eqv z (eL l)) (L := L.map eL) (y := eL l) (R := T.map eL) ?_ ?_, List.length_map]
  · intro x hx
    obtain ⟨m, hm, rfl⟩ := List.mem_map.mp hx
    show PyData.eqv (eL m) (eL l) = false
    rw [eL_eqv2]
    refine decide_eq_false fun e => h m hm ?_
    unfold keyT
    rw [e.1, e.2.1]
  · show PyData.eqv (eL l) (eL l) = true
    rw [eL_eqv2]; simp
theorem lt_step {gd st wa : PyData} {day : Int} {D M : Nat} {R L T : List (Lt Str)} {l : Lt Str} {n : Str} {g p : Rat} {v9 v10 v11 : Option AV} (hD : 0 < D) (hs : M * D < 2 ^ 1000) (hs2 : D < 2 ^ 1000) (hg : 0 < g) (hgb : FrB D M g) (hq : 0 < l.q) (hqb : FrB D M l.q) (hk : ∀ x ∈ L, keyT x ≠ keyT l) (hR : R.length < 1000000) (hL : L.length + T.length < 100000)
    (hp : p = if l.q < g then l.q else g) :
    b__law_taken_l1 (frT gd st wa day R (L ++ l :: T) n g (some (.dat (eL l))) v9 v10 v11) = .nx (frT gd st wa day (R ++ [⟨l.nm, l.t, p⟩]) (L ++ (if p ≠ l.q then [⟨l.nm, l.t, l.q - p⟩] else []) ++ T) n (g - p) (some (.dat (eL l))) (some (.dat (eR p))) (some (.dat (eR (l.q - p)))) (some (.dat (.int (L.length : Nat))))) := by
  have hpb : FrB D M p := by rw [hp]; split <;> assumption
  have hpq : p ≤ l.q := by rw [hp]; split <;> grind
  have s1 := hqb.sm hD hs hs2
  have s2 := hgb.sm hD hs hs2
  have s3 := hpb.sm hD hs hs2
  have hlt := s_lbelow s1 s2
  have hm1 := s_lminus s1 s3
  have hm2 := s_lminus s2 s3
  have hix := lt_idx (T := T) hk
  have hpart : (if l.q < g then eR l.q else eR g) = eR p := by
    rw [hp]
    split <;> rfl
  have step : xIf (xB (xCall m__law_below (xCons (xIx (xVar 8) (xC (.int 2))) (xCons (xVar 7) (xNil))))) (xIx (xVar 8) (xC (.int 2))) (xVar 7) (frT gd st wa day R (L ++ l :: T) n g (some (.dat (eL l))) none none none) = .ok (.dat (eR p)) (frT gd st wa day R (L ++ l :: T) n g (some (.dat (eL l))) none none none) := by
    rw [← hpart]
    by_cases h : l.q < g
    · simp [lot_ix2, hlt, h]
    · simp [lot_ix2, hlt, h]
  generalize hLT : L ++ l :: T = LT at *
  have tk : (LT.map eL).take L.length = L.map eL := by rw [← hLT]; simp
  have dp : (LT.map eL).drop (L.length + 1) = T.map eL := by rw [← hLT]; simp [List.drop_append]
  have ll : (LT.map eL).length = L.length + T.length + 1 := by rw [← hLT]; simp; omega
  have hrest : (0 < l.q - p) ↔ p ≠ l.q := by constructor <;> intro h <;> grind
  unfold b__law_taken_l1
  have t1 : (xB (xOp2 dGt (xIx (xVar 7) (xC (.int 0))) (xC (.int 0)))) (frT gd st wa day R LT n g (some (.dat (eL l))) none none none) = .ok true (frT gd st wa day R LT n g (some (.dat (eL l))) none none none) := by
    simp [eR_ix0, dGt, num_pos, hg]
  show sIf _ _ _ (frT gd st wa day R LT n g (some (.dat (eL l))) none none none) = _
  rw [if_ok t1, if_pos rfl]
  refine (seq_nx (set_ok step)).trans ?_
  have sl : (L.length : Int).toNat = L.length := by omega
  have sl2 : ((L.length : Int) + 1).toNat = L.length + 1 := by omega
  have z1 : (L.length : Int) + 1 ≤ L.length + T.length + 1 := by omega
  have z2 : L.length + T.length + 1 + 1 ≤ 1000000 := by omega
  by_cases h2 : p = l.q
  · have hn : ¬ 0 < l.q - p := fun h => hrest.mp h h2
    simp [lot_sl, dAdd, hR, lot_ix2, hm1, hm2, hix, eR_ix0, dGt, num_pos, hn, tk, dp, ll]
    rw [if_pos ⟨by omega, by omega, by omega⟩]
    simp only [if_pos h2]
    simp [hm2, eL]
  · have hn : 0 < l.q - p := hrest.mpr h2
    simp [lot_sl, dAdd, hR, lot_ix2, hm1, hm2, hix, eR_ix0, dGt, num_pos, hn, tk, dp, ll]
    rw [if_pos ⟨by omega, by omega, by omega⟩]
    simp only [if_neg h2]
    simp [hm2, eL]
/-- the lots of one name, one after another -/
theorem lt_in {gd st wa : PyData} {gs : List Gd} {day : Int} {D M : Nat} {n : Str} (hD : 0 < D) (hs : M * D < 2 ^ 1000) (hs2 : D < 2 ^ 1000) : ∀ (ls L R : List (Lt Str)) (w : Str → Rat) (g : Rat) (v8 v9 v10 v11 : Option AV), w n = 0 → 0 ≤ g → FrB D M g → (∀ l ∈ ls, 0 < l.q ∧ FrB D M l.q) →
    (ls.Pairwise fun a b => keyT a ≠ keyT b) → (∀ x ∈ L, ∀ l ∈ ls, keyT x ≠ keyT l) → R.length + ls.length < 1000000 → L.length + ls.length < 100000 →
    ∃ (rN : List (Lt Str)) (v8' v9' v10' v11' : Option AV), forA (tName 8) b__law_taken_l1 ((ls.filter fun l => l.nm == n && !ovG gs day l).map eL) (frT gd st wa day R (L ++ takeL (ovG gs day) ls w) n g v8 v9 v10 v11) = .nx (frT gd st wa day (R ++ rN) (L ++ takeL (ovG gs day) ls (upf w n g)) n (if g ≤ avail (ovG gs day) ls n then 0 else g - avail (ovG gs day) ls n) v8' v9' v10' v11') ∧
      (takeR (ovG gs day) ls (upf w n g)).Perm (takeR (ovG gs day) ls w ++ rN) ∧ rN.length ≤ ls.length
  | [], L, R, w, g, v8, v9, v10, v11, hw, hg, _, _, _, _, _, _ => by
    refine ⟨[], v8, v9, v10, v11, ?_, .refl _, Nat.le_refl _⟩
    have e : (if g ≤ avail (ovG gs day) [] n then (0 : Rat) else g - avail (ovG gs day) [] n) = g := by
      have : avail (ovG gs day) [] n = 0 := rfl
      rw [this]
      split <;> grind
    rw [e]
    simp [forA, takeL]
  | l :: ls, L, R, w, g, v8, v9, v10, v11, hw, hg, hgb, hl, hk, hLk, hR, hL => by
    have h0 := hl l (List.mem_cons_self ..)
    have hl' : ∀ m ∈ ls, 0 < m.q ∧ FrB D M m.q := fun m hm => hl m (List.mem_cons_of_mem _ hm)
    obtain ⟨hk1, hk2⟩ := List.pairwise_cons.mp hk
    have av : avail (ovG gs day) (l :: ls) n = (if l.nm = n ∧ ovG gs day l = false then l.q else 0) + avail (ovG gs day) ls n := by
      unfold avail
      rw [List.filter_cons]
      cases q : ovG gs day l with
      | true => simp; grind
      | false => simp [sumOf_cons]
    have hav : 0 ≤ avail (ovG gs day) ls n := avail_nn (fun m hm => (hl' m hm).1) n
    simp only [List.length_cons] at hR hL
    by_cases hin : l.nm = n ∧ ovG gs day l = false
    · -- a lot to be taken of
      have hwz : wantT (ovG gs day) w l = 0 := by unfold wantT; rw [hin.2, hin.1, hw]; rfl
      obtain ⟨r1, r2, r3⟩ := at_zero h0.1 hwz
      have eT : takeL (ovG gs day) (l :: ls) w = l :: takeL (ovG gs day) ls w := by
        show restT _ _ _ ++ takeL _ _ _ = _
        rw [r1, r3]; rfl
      have eR0 : takeR (ovG gs day) (l :: ls) w = takeR (ovG gs day) ls w := by
        show rowT _ _ _ ++ takeR _ _ _ = _
        rw [r2, r3]; rfl
      have ef : (l :: ls).filter (fun l => l.nm == n && !ovG gs day l) = l :: ls.filter (fun l => l.nm == n && !ovG gs day l) := by
        rw [List.filter_cons_of_pos (by simp [hin.1, hin.2])]
      rw [av, if_pos hin, eT, eR0, ef]
      have hLk' : ∀ x ∈ L, keyT x ≠ keyT l := fun x hx => hLk x hx l (List.mem_cons_self ..)
      have hlen : (takeL (ovG gs day) ls w).length ≤ ls.length := by
        have := (@rest_sub _ _ (ovG gs day) w ls).length_le
        simpa using this
      by_cases hgp : 0 < g
      · -- something is wanted still
        obtain ⟨p, hp⟩ : ∃ p, p = if l.q < g then l.q else g := ⟨_, rfl⟩
        have hws : wantT (ovG gs day) (upf w n g) l = g := by unfold wantT upf; rw [hin.2, hin.1]; simp
        have hps : partT (ovG gs day) (upf w n g) l = p := by unfold partT; rw [hws, hp]
        have hp0 : 0 < p := by
          rw [hp]
          split
          · exact h0.1
          · exact hgp
        have hpq : p ≤ l.q := by rw [hp]; split <;> grind
        have hpg : p ≤ g := by rw [hp]; split <;> grind
        have hns : nextW (ovG gs day) (upf w n g) l = upf w n (g - p) := by
          unfold nextW
          rw [hps, if_pos hp0, hws, hin.1]
          funext m
          unfold upf
          by_cases e : m = n <;> simp [e]
        have hpb : FrB D M p := by rw [hp]; split; exact h0.2; exact hgb
        have stp := lt_step (gd := gd) (st := st) (wa := wa) (day := day) (R := R) (L := L) (T := takeL (ovG gs day) ls w) (n := n) (v9 := v9) (v10 := v10) (v11 := v11) hD hs hs2 hgp hgb h0.1 h0.2 hLk' (by omega) (by omega) hp
        have ers : restT (ovG gs day) (upf w n g) l = if p ≠ l.q then [⟨l.nm, l.t, l.q - p⟩] else [] := by unfold restT; rw [hps]
        have hk3 : ∀ x ∈ L ++ (if p ≠ l.q then [(⟨l.nm, l.t, l.q - p⟩ : Lt Str)] else []), ∀ m ∈ ls, keyT x ≠ keyT m := fun x hx m hm => by
          rcases List.mem_append.mp hx with hx | hx
          · exact hLk x hx m (List.mem_cons_of_mem _ hm)
          · split at hx
            · cases List.mem_singleton.mp hx
              exact hk1 m hm
            · cases hx
        have hb : (if p ≠ l.q then [(⟨l.nm, l.t, l.q - p⟩ : Lt Str)] else []).length ≤ 1 := by split <;> simp
        obtain ⟨rN, w8, w9, w10, w11, e, pm, hrl⟩ := lt_in hD hs hs2 ls (L ++ (if p ≠ l.q then [⟨l.nm, l.t, l.q - p⟩] else [])) (R ++ [⟨l.nm, l.t, p⟩]) w (g - p) (some (.dat (eL l))) (some (.dat (eR p))) (some (.dat (eR (l.q - p)))) (some (.dat (.int (L.length : Nat)))) hw (by grind) (FrB.sub hD hgb hpb hpg) hl' hk2 hk3 (by simp; omega) (by rw [List.length_append]; omega)
        refine ⟨⟨l.nm, l.t, p⟩ :: rN, w8, w9, w10, w11, ?_, ?_, by simp; omega⟩
        · rw [List.map_cons, forA]
          have tg : tName 8 (eL l) (frT gd st wa day R (L ++ l :: takeL (ovG gs day) ls w) n g v8 v9 v10 v11) = some (frT gd st wa day R (L ++ l :: takeL (ovG gs day) ls w) n g (some (.dat (eL l))) v9 v10 v11) := rfl
          simp only [tg, stp]
          rw [e]
          have ee : (if g - p ≤ avail (ovG gs day) ls n then (0 : Rat) else g - p - avail (ovG gs day) ls n) = if g ≤ l.q + avail (ovG gs day) ls n then 0 else g - (l.q + avail (ovG gs day) ls n) := by
            by_cases hlt : l.q < g
            · rw [if_pos hlt] at hp
              subst hp
              split <;> split <;> grind
            · rw [if_neg hlt] at hp
              subst hp
              split <;> split <;> grind
          rw [ee]
          have et : takeL (ovG gs day) (l :: ls) (upf w n g) = (if p ≠ l.q then [⟨l.nm, l.t, l.q - p⟩] else []) ++ takeL (ovG gs day) ls (upf w n (g - p)) := by
            show restT _ _ _ ++ takeL _ _ _ = _
            rw [ers, hns]
          rw [et]
          simp only [List.append_assoc, List.singleton_append]
        · have et : takeR (ovG gs day) (l :: ls) (upf w n g) = [⟨l.nm, l.t, p⟩] ++ takeR (ovG gs day) ls (upf w n (g - p)) := by
            show rowT _ _ _ ++ takeR _ _ _ = _
            rw [hns]
            unfold rowT
            rw [hps, if_pos hp0]
          rw [et, List.singleton_append]
          exact (List.Perm.cons _ pm).trans List.perm_middle.symm
      · -- nothing wanted more
        have hg0 : g = 0 := by grind
        subst hg0
        have hu : upf w n 0 = w := by
          funext m
          unfold upf
          split
          · rename_i e; rw [e, hw]
          · rfl
        have t1 : (xB (xOp2 dGt (xIx (xVar 7) (xC (.int 0))) (xC (.int 0)))) (frT gd st wa day R (L ++ l :: takeL (ovG gs day) ls w) n 0 (some (.dat (eL l))) none none none) = .ok false (frT gd st wa day R (L ++ l :: takeL (ovG gs day) ls w) n 0 (some (.dat (eL l))) none none none) := by
          simp [eR_ix0, dGt]
        have st0 : b__law_taken_l1 (frT gd st wa day R (L ++ l :: takeL (ovG gs day) ls w) n 0 (some (.dat (eL l))) v9 v10 v11) = .nx (frT gd st wa day R (L ++ l :: takeL (ovG gs day) ls w) n 0 (some (.dat (eL l))) none none none) := by
          unfold b__law_taken_l1
          show sIf _ _ _ (frT gd st wa day R (L ++ l :: takeL (ovG gs day) ls w) n 0 (some (.dat (eL l))) none none none) = _
          rw [if_ok t1]
          rfl
        obtain ⟨rN, w8, w9, w10, w11, e, pm, hrl⟩ := lt_in hD hs hs2 ls (L ++ [l]) R w 0 (some (.dat (eL l))) none none none hw Rat.le_refl FrB.zero hl' hk2 (fun x hx m hm => by
          rcases List.mem_append.mp hx with hx | hx
          · exact hLk x hx m (List.mem_cons_of_mem _ hm)
          · cases List.mem_singleton.mp hx; exact hk1 m hm) (by omega) (by simp; omega)
        rw [hu] at e pm
        refine ⟨rN, w8, w9, w10, w11, ?_, ?_, by simp; omega⟩
        · rw [List.map_cons, forA]
          have tg : tName 8 (eL l) (frT gd st wa day R (L ++ l :: takeL (ovG gs day) ls w) n 0 v8 v9 v10 v11) = some (frT gd st wa day R (L ++ l :: takeL (ovG gs day) ls w) n 0 (some (.dat (eL l))) v9 v10 v11) := rfl
          simp only [tg, st0]
          rw [List.append_assoc, List.singleton_append] at e
          rw [hu, eT, e, if_pos hav, if_pos (by have := h0.1; grind)]
        · rw [hu, eR0]
          exact pm
    · -- a lot that is passed by
      have ef : (l :: ls).filter (fun l => l.nm == n && !ovG gs day l) = ls.filter (fun l => l.nm == n && !ovG gs day l) := by
        rw [List.filter_cons_of_neg]
        intro h
        simp at h
        exact hin h
      have hw' : nextW (ovG gs day) w l n = 0 := by
        by_cases e : l.nm = n
        · have ho : ovG gs day l = true := by
            cases q : ovG gs day l with
            | true => rfl
            | false => exact absurd ⟨e, q⟩ hin
          obtain ⟨_, _, r3⟩ := at_zero (ov := ovG gs day) (w := w) h0.1 (by unfold wantT; rw [ho]; rfl)
          rw [r3, hw]
        · rw [next_other e, hw]
      have hb : (restT (ovG gs day) w l).length ≤ 1 := by unfold restT; split <;> simp
      obtain ⟨rN, w8, w9, w10, w11, e, pm, hrl⟩ := lt_in (gd := gd) (st := st) (wa := wa) hD hs hs2 ls (L ++ restT (ovG gs day) w l) R (nextW (ovG gs day) w l) g v8 v9 v10 v11 hw' hg hgb hl' hk2 (fun x hx m hm => by
        rcases List.mem_append.mp hx with hx | hx
        · exact hLk x hx m (List.mem_cons_of_mem _ hm)
        · unfold restT at hx
          split at hx
          · cases List.mem_singleton.mp hx; exact hk1 m hm
          · cases hx) (by omega) (by rw [List.length_append]; omega)
      refine ⟨rN, w8, w9, w10, w11, ?_, ?_, by simp; omega⟩
      · rw [ef, av, if_neg hin]
        have z : (0 : Rat) + avail (ovG gs day) ls n = avail (ovG gs day) ls n := by grind
        rw [z]
        show forA _ _ _ (frT gd st wa day R (L ++ (restT _ _ _ ++ takeL _ _ _)) n g v8 v9 v10 v11) = .nx (frT gd st wa day (R ++ rN) (L ++ (restT _ _ _ ++ takeL _ _ _)) n _ _ _ _ _)
        rw [rest_upf hin, next_upf h0.1 hin, ← List.append_assoc, ← List.append_assoc]
        exact e
      · show (rowT _ _ _ ++ takeR _ _ _).Perm ((rowT _ _ _ ++ takeR _ _ _) ++ rN)
        rw [row_upf hin, next_upf h0.1 hin, List.append_assoc]
        exact List.Perm.append_left _ pm
end G
namespace G
open PySem PySem.Spec PyProof.Rows L2
theorem aget_snoc {β : Type} {kvs : List (Str × β)} {q : Str × β} (h : q.1 ∉ kvs.map (·.1)) (m : Str) : aget (kvs ++ [q]) m = if m = q.1 then some q.2 else aget kvs m := by
  unfold aget
  rw [List.find?_append]
  by_cases e : m = q.1
  · subst e
    have : kvs.find? (fun z => z.1 == q.1) = none := by
      rw [List.find?_eq_none]
      intro z hz hh
      exact h (List.mem_map.mpr ⟨z, hz, by simpa using hh⟩)
    rw [this]
    simp
  · have : [q].find? (fun z => z.1 == m) = none := by
      rw [List.find?_eq_none]
      intro z hz hh
      cases List.mem_singleton.mp hz
      exact e (by simpa using hh : q.1 = m).symm
    rw [this, if_neg e]
    simp
theorem wOf_snoc {kvs : List (Str × Rat)} {q : Str × Rat} (h : q.1 ∉ kvs.map (·.1)) : wOf (kvs ++ [q]) = upf (wOf kvs) q.1 q.2 := by
  funext m
  unfold wOf upf
  rw [aget_snoc h]
  split <;> rfl
theorem wOf_not {kvs : List (Str × Rat)} {n : Str} (h : n ∉ kvs.map (·.1)) : wOf kvs n = 0 := by
  unfold wOf
  rw [aget_none.mpr h]; rfl
theorem lackL_cons {av : Str → Rat} {q : Str × Rat} {ns : List (Str × Rat)} : lackL av (q :: ns) = if av q.1 < q.2 then (q.1, q.2 - av q.1) :: lackL av ns else lackL av ns := by
  unfold lackL
  rw [List.filter_cons]
  by_cases h : av q.1 < q.2 <;> simp [h]
abbrev frO (gd st wa : PyData) (day : Int) (R L : List (Lt Str)) (v6 v7 v8 v9 v10 v11 : Option AV) : Fr := ⟨[some (.dat gd), some (.dat st), some (.dat wa), some (.dat (.int day)), some (.cel 0), some (.cel 1), v6, v7, v8, v9, v10, v11, none], [.lst (R.map eL), .lst (L.map eL)], 0⟩
section
variable {wa : PyData} {gs : List Gd} {ls : List (Lt Str)} {day : Int} {D M : Nat}
/-- one name -/
theorem lt_one (hD : 0 < D) (hs : M * 61 * D < 2 ^ 1000) (hs2 : D < 2 ^ 1000) (hg : gs.length ≤ 1000000) (hl : StO gs D M ls) (hr : RiseK (ls.map keyT)) (q : Str × Rat) (w : Str → Rat) (R : List (Lt Str)) (v8 v9 v10 v11 : Option AV) (hw : w q.1 = 0) (h0 : 0 < q.2) (hb : FrB D M q.2) (hR : R.length < 1000) :
    ∃ (rN : List (Lt Str)) (v8' v9' v10' v11' : Option AV), (if q.2 ≤ thereG gs day ls q.1 then
        b__law_taken_l2 (frO (.tuple (gs.map eG)) (.tuple (ls.map eL)) wa day R (takeL (ovG gs day) ls w) (some (.dat (.str q.1))) (some (.dat (eR q.2))) v8 v9 v10 v11) = .nx (frO (.tuple (gs.map eG)) (.tuple (ls.map eL)) wa day (R ++ rN) (takeL (ovG gs day) ls (upf w q.1 q.2)) (some (.dat (.str q.1))) (some (.dat (eR 0))) v8' v9' v10' v11')
      else ∃ fr', b__law_taken_l2 (frO (.tuple (gs.map eG)) (.tuple (ls.map eL)) wa day R (takeL (ovG gs day) ls w) (some (.dat (.str q.1))) (some (.dat (eR q.2))) v8 v9 v10 v11) = .ret (.dat (.list [.str q.1, eR (q.2 - thereG gs day ls q.1)])) fr') ∧
      (takeR (ovG gs day) ls (upf w q.1 q.2)).Perm (takeR (ovG gs day) ls w ++ rN) ∧ rN.length ≤ ls.length := by
  have hs3 : M * D < 2 ^ 1000 := Nat.lt_of_le_of_lt (Nat.mul_le_mul_right _ (Nat.le_mul_of_pos_right _ (by decide))) hs
  have h60 := hl.len
  have hk : ls.Pairwise fun a b => keyT a ≠ keyT b := by
    unfold RiseK at hr
    rw [List.pairwise_map] at hr
    refine hr.imp fun {a b} hab e => ?_
    rw [e, keyLt_irrefl] at hab
    cases hab
  obtain ⟨rN, w8, w9, w10, w11, e, pm, hrl⟩ := lt_in (gd := .tuple (gs.map eG)) (st := .tuple (ls.map eL)) (wa := wa) (gs := gs) (day := day) (n := q.1) hD hs3 hs2 ls [] R w q.2 none none none none hw (by grind) hb (fun l h => ⟨hl.q0 l h, hl.q l h⟩) hk (fun x hx => nomatch hx) (by omega) (by simp; omega)
  have ec := xComp_typed (own := [12]) (g := tName 12) (t := b__law_taken_t1) (f := b__law_taken_e1) (e := xItems (xVar 1)) (fr := frO (.tuple (gs.map eG)) (.tuple (ls.map eL)) wa day R (takeL (ovG gs day) ls w) (some (.dat (.str q.1))) (some (.dat (eR q.2))) none none none none) eL (fun l => l.nm == q.1 && !ovG gs day l) eL (fun l => ⟨[some (.dat (.tuple (gs.map eG))), some (.dat (.tuple (ls.map eL))), some (.dat wa), some (.dat (.int day)), some (.cel 0), some (.cel 1), some (.dat (.str q.1)), some (.dat (eR q.2)), none, none, none, none, some (.dat (eL l))], [.lst (R.map eL), .lst ((takeL (ovG gs day) ls w).map eL)], 0⟩) ls (by simp) (by omega) (fun _ _ => rfl) (fun _ => rfl)
    (fun l h => by
      have ho := t_lis_over (day := day) hg (hl.nm l h)
      by_cases hn : l.nm = q.1
      · cases o : ovG gs day l with
        | true => rw [o] at ho; simp [b__law_taken_t1, lot_ix0, dEq, eqOk_str, eqv_str, hn, ho]
        | false => rw [o] at ho; simp [b__law_taken_t1, lot_ix0, dEq, eqOk_str, eqv_str, hn, ho]
      · simp [b__law_taken_t1, lot_ix0, dEq, eqOk_str, eqv_str, hn]) (fun _ _ _ => by simp [b__law_taken_e1])
  refine ⟨rN, none, none, none, none, ?_, pm, hrl⟩
  unfold frO frT at *
  simp only [List.nil_append] at e
  have hth : thereG gs day ls q.1 = avail (ovG gs day) ls q.1 := rfl
  by_cases hle : q.2 ≤ thereG gs day ls q.1
  · rw [if_pos hle]
    rw [if_pos (by rw [← hth]; exact hle)] at e
    unfold b__law_taken_l2
    simp [ec, e, eR_ix0, dGt]
  · rw [if_neg hle]
    rw [if_neg (by rw [← hth]; exact hle)] at e
    have hpos : 0 < q.2 - thereG gs day ls q.1 := by grind
    rw [← hth] at e
    generalize thereG gs day ls q.1 = th at *
    unfold b__law_taken_l2
    simp [ec, e, eR_ix0, dGt, num_pos, hpos]
theorem lt_out (hD : 0 < D) (hs : M * 61 * D < 2 ^ 1000) (hs2 : D < 2 ^ 1000) (hg : gs.length ≤ 1000000) (hl : StO gs D M ls) (hr : RiseK (ls.map keyT)) : ∀ (rest ds : List (Str × Rat)) (R : List (Lt Str)) (v6 v7 v8 v9 v10 v11 : Option AV), ((ds ++ rest).map (·.1)).Nodup → (∀ q ∈ rest, 0 < q.2 ∧ FrB D M q.2) → R.Perm (takeR (ovG gs day) ls (wOf ds)) →
    (lackL (thereG gs day ls) rest = [] → ∃ (R' : List (Lt Str)) (w6 w7 w8 w9 w10 w11 : Option AV), forA (tNames [6, 7]) b__law_taken_l2 (rest.map eN) (frO (.tuple (gs.map eG)) (.tuple (ls.map eL)) wa day R (takeL (ovG gs day) ls (wOf ds)) v6 v7 v8 v9 v10 v11) = .nx (frO (.tuple (gs.map eG)) (.tuple (ls.map eL)) wa day R' (takeL (ovG gs day) ls (wOf (ds ++ rest))) w6 w7 w8 w9 w10 w11) ∧ R'.Perm (takeR (ovG gs day) ls (wOf (ds ++ rest)))) ∧
    (∀ q qs, lackL (thereG gs day ls) rest = q :: qs → ∃ fr', forA (tNames [6, 7]) b__law_taken_l2 (rest.map eN) (frO (.tuple (gs.map eG)) (.tuple (ls.map eL)) wa day R (takeL (ovG gs day) ls (wOf ds)) v6 v7 v8 v9 v10 v11) = .ret (.dat (.list [.str q.1, eR q.2])) fr')
  | [], ds, R, v6, v7, v8, v9, v10, v11, _, _, pm => ⟨fun _ => ⟨R, v6, v7, v8, v9, v10, v11, by rw [List.append_nil]; rfl, by rw [List.append_nil]; exact pm⟩, fun q qs e => by cases e⟩
  | q :: rest, ds, R, v6, v7, v8, v9, v10, v11, nd, hq, pm => by
    have hq0 := hq q (List.mem_cons_self ..)
    have hn : q.1 ∉ ds.map (·.1) := by
      intro hm
      rw [List.map_append, List.nodup_append] at nd
      exact nd.2.2 _ hm _ (List.mem_map.mpr ⟨q, List.mem_cons_self .., rfl⟩) rfl
    have hRl : R.length < 1000 := by
      have := pm.length_eq
      have h2 := (@row_sub _ _ (ovG gs day) (wOf ds) ls).length_le
      have := hl.len
      simp at h2
      omega
    obtain ⟨rN, w8, w9, w10, w11, e, pm2, _⟩ := lt_one (wa := wa) (day := day) hD hs hs2 hg hl hr q (wOf ds) R v8 v9 v10 v11 (wOf_not hn) hq0.1 hq0.2 hRl
    have tg : tNames [6, 7] (eN q) (frO (.tuple (gs.map eG)) (.tuple (ls.map eL)) wa day R (takeL (ovG gs day) ls (wOf ds)) v6 v7 v8 v9 v10 v11) = some (frO (.tuple (gs.map eG)) (.tuple (ls.map eL)) wa day R (takeL (ovG gs day) ls (wOf ds)) (some (.dat (.str q.1))) (some (.dat (eR q.2))) v8 v9 v10 v11) := rfl
    rw [lackL_cons, List.map_cons, forA]
    simp only [tg]
    by_cases hle : q.2 ≤ thereG gs day ls q.1
    · rw [if_pos hle] at e
      rw [if_neg (by grind)]
      simp only [e]
      rw [← wOf_snoc hn]
      have ea : ds ++ q :: rest = (ds ++ [q]) ++ rest := by simp
      rw [ea]
      refine lt_out hD hs hs2 hg hl hr rest (ds ++ [q]) (R ++ rN) _ _ _ _ _ _ (by rw [← ea]; exact nd) (fun z hz => hq z (List.mem_cons_of_mem _ hz)) ?_
      rw [wOf_snoc hn]
      exact (List.Perm.append_right _ pm).trans pm2.symm
    · rw [if_neg hle] at e
      obtain ⟨fr', e⟩ := e
      rw [if_pos (by grind)]
      simp only [e]
      refine ⟨fun z => (by cases z), fun q2 qs z => ?_⟩
      cases z
      exact ⟨fr', rfl⟩
end
theorem eL_sortOk2 {xs : List (Lt Str)} (hl : xs.length ≤ 1000000) : sortOk (xs.map eL) = true := sortOk_t hl (fun _ _ _ _ => by simp [eL, eR, PySem.W.alike, PySem.W.alikeAll]) (fun _ _ => rfl) (fun x _ => by have := eL_depth2 x; omega)
theorem sortL_perm {xs ys : List (Lt Str)} (hl : xs.length ≤ 1000000) (p : xs.Perm ys) (h : RiseK (ys.map keyT)) : dSortL (xs.map eL) = some (.list (ys.map eL)) := by
  unfold dSortL
  rw [if_pos (eL_sortOk2 hl), (riseL h).sorted (p.map _)]
/-- what the law takes -/
def ltk (gs : List Gd) (day : Int) (ls : List (Lt Str)) (ns : List (Str × Rat)) : PyData := match lackL (thereG gs day ls) ns with
  | [] => .tuple [.str "told", .tuple [.list ((takeR (ovG gs day) ls (wOf ns)).map eL), .tuple ((takeL (ovG gs day) ls (wOf ns)).map eL)]]
  | q :: _ => .list [.str q.1, eR q.2]
theorem t_ltaken {gs : List Gd} {ls : List (Lt Str)} {ns : List (Str × Rat)} {day : Int} {D M : Nat} (hD : 0 < D) (hs : M * 61 * D < 2 ^ 1000) (hs2 : D < 2 ^ 1000) (hg : gs.length ≤ 1000000) (hl : StO gs D M ls) (hr : RiseK (ls.map keyT)) (hn : NdO D M ns) :
    m__law_taken [.dat (.tuple (gs.map eG)), .dat (.tuple (ls.map eL)), .dat (.list (ns.map eN)), .dat (.int day)] [] = .ok (.dat (ltk gs day ls ns)) [] := by
  obtain ⟨z1, z2⟩ := take_none (ov := ovG gs day) hl.q0
  have hz : (wOf [] : Str → Rat) = fun _ => 0 := by funext m; rfl
  obtain ⟨o1, o2⟩ := lt_out (wa := .list (ns.map eN)) (day := day) hD hs hs2 hg hl hr ns [] [] none none none none none none (by simpa using hn.nd) (fun q hq => ⟨hn.q0 q hq, hn.q q hq⟩) (by rw [hz, z2])
  rw [hz, z1] at o1 o2
  have hll := hl.len
  have hnl := hn.len
  unfold ltk m__law_taken b__law_taken
  unfold frO at o1 o2
  cases q : lackL (thereG gs day ls) ns with
  | nil =>
    obtain ⟨R', w6, w7, w8, w9, w10, w11, e, pm⟩ := o1 q
    rw [List.nil_append] at e pm
    have hrr : RiseK ((takeR (ovG gs day) ls (wOf ns)).map keyT) := List.Pairwise.sublist row_sub hr
    have rl := (@row_sub _ _ (ovG gs day) (wOf ns) ls).length_le
    have rl2 := (@rest_sub _ _ (ovG gs day) (wOf ns) ls).length_le
    simp at rl rl2
    have pl := pm.length_eq
    have so := sortL_perm (by omega) pm hrr
    simp only [List.map_nil] at e
    generalize takeR (ovG gs day) ls (wOf ns) = TR at *
    generalize takeL (ovG gs day) ls (wOf ns) = TL at *
    simp [e, dSorted, seqD, so]
  | cons q0 qs =>
    obtain ⟨fr', e⟩ := o2 q0 qs q
    simp only [List.map_nil] at e
    simp [e]
end G
namespace G
open PySem PySem.Spec PyProof.Rows L2
section
variable {gs : List Gd} {day x : Int} {w : Str → Rat} {l : Lt Str} {ls ms : List (Lt Str)} {n : Str}
theorem avc {ov : Lt Str → Bool} {l : Lt Str} {ls : List (Lt Str)} {n : Str} : avail ov (l :: ls) n = (if l.nm = n ∧ ov l = false then l.q else 0) + avail ov ls n := by
  unfold avail
  rw [List.filter_cons]
  cases ov l with
  | true => simp; grind
  | false => simp [sumOf_cons]
theorem avapp {ov : Lt Str → Bool} {n : Str} : ∀ {ls ms : List (Lt Str)}, avail ov (ls ++ ms) n = avail ov ls n + avail ov ms n
  | [], ms => by
    rw [List.nil_append]
    have : avail ov ([] : List (Lt Str)) n = 0 := rfl
    grind
  | l :: ls, ms => by rw [List.cons_append, avc, avc, avapp]; grind
theorem av_nil {ov : Lt Str → Bool} {n : Str} : avail ov ([] : List (Lt Str)) n = 0 := rfl
theorem ov_mono (hx : day ≤ x) (h : ovG gs day l = true) : ovG gs x l = true := by
  simp only [ovG, decide_eq_true_eq] at *
  omega
theorem av_le (hx : day ≤ x) : ∀ {ls : List (Lt Str)}, (∀ l ∈ ls, 0 < l.q) → avail (ovG gs x) ls n ≤ avail (ovG gs day) ls n
  | [], _ => Rat.le_refl
  | l :: ls, h => by
    have h1 := av_le hx fun m hm => h m (List.mem_cons_of_mem _ hm)
    have h2 := h l (List.mem_cons_self ..)
    rw [avc, avc]
    cases q1 : ovG gs day l with
    | true =>
      rw [ov_mono hx q1]
      simp only [Bool.true_eq_false, and_false, if_false]
      grind
    | false =>
      cases q2 : ovG gs x l with
      | true =>
        simp only [Bool.true_eq_false, and_false, if_false, and_true]
        split <;> grind
      | false => grind
/-- one lot's rest, its want -/
theorem rest_av {ov : Lt Str → Bool} (hq : 0 < l.q) (hw : ∀ n, 0 ≤ w n) (x : Int) (ho : l.nm = n ∧ ov l = false) : avail (ovG gs x) (restT ov w l) n = (if ovG gs x l = false then l.q - partT ov w l else 0) ∧ nextW ov w l n = w n - partT ov w l ∧ partT ov w l = (if l.q < w n then l.q else w n) := by
  obtain ⟨h1, h2⟩ := ho
  have hp := part_spec (ov := ov) hw hq
  refine ⟨?_, ?_, ?_⟩
  · unfold restT
    split
    · rw [avc, av_nil]
      have : ovG gs x ⟨l.nm, l.t, l.q - partT ov w l⟩ = ovG gs x l := rfl
      rw [this]
      cases q : ovG gs x l <;> simp [h1] <;> grind
    · rename_i hz
      have hz : partT ov w l = l.q := Classical.not_not.mp hz
      rw [av_nil, hz]
      cases q : ovG gs x l <;> simp <;> grind
  · rw [nextW_eq hw hq, if_pos h1]
  · unfold partT wantT
    rw [h2]
    simp [h1]
theorem rest_other {ov : Lt Str → Bool} (hq : 0 < l.q) (hw : ∀ n, 0 ≤ w n) (x : Int) (ho : ¬ (l.nm = n ∧ ov l = false)) : avail (ovG gs x) (restT ov w l) n = (if l.nm = n ∧ ovG gs x l = false then l.q else 0) ∧ nextW ov w l n = w n := by
  by_cases h1 : l.nm = n
  · have h2 : ov l = true := by
      cases q : ov l with
      | true => rfl
      | false => exact absurd ⟨h1, q⟩ ho
    obtain ⟨z1, _, z3⟩ := at_zero (ov := ov) (w := w) hq (by unfold wantT; rw [h2]; rfl)
    rw [z1, z3, avc, av_nil]
    exact ⟨by grind, rfl⟩
  · refine ⟨?_, next_other h1⟩
    have : ¬ (l.nm = n ∧ ovG gs x l = false) := fun z => h1 z.1
    rw [if_neg this]
    unfold restT
    split
    · rw [avc, av_nil, if_neg (fun z => h1 z.1)]; grind
    · exact av_nil
theorem take_up (hx : day ≤ x) : ∀ {ls : List (Lt Str)} {w : Str → Rat}, (∀ l ∈ ls, 0 < l.q) → (∀ n, 0 ≤ w n) → w n ≤ avail (ovG gs day) ls n → avail (ovG gs x) (takeL (ovG gs day) ls w) n ≤ avail (ovG gs x) ls n ∧ avail (ovG gs day) (takeL (ovG gs day) ls w) n = avail (ovG gs day) ls n - w n
  | [], w, _, hw, h => by
    have := hw n
    rw [av_nil] at h
    unfold takeL
    rw [av_nil, av_nil]
    grind
  | l :: ls, w, hq, hw, h => by
    have hl := hq l (List.mem_cons_self ..)
    have hq' : ∀ m ∈ ls, 0 < m.q := fun m hm => hq m (List.mem_cons_of_mem _ hm)
    unfold takeL
    rw [avapp, avapp]
    rw [avc] at h
    have nn := avail_nn (ov := ovG gs day) hq' n
    by_cases ho : l.nm = n ∧ ovG gs day l = false
    · obtain ⟨a1, a2, a3⟩ := rest_av (gs := gs) hl hw x ho
      obtain ⟨b1, _, _⟩ := rest_av (gs := gs) hl hw day ho
      rw [if_pos ho] at h
      obtain ⟨i1, i2⟩ := take_up hx hq' (nextW_nn hw hl) (by rw [a2, a3]; split <;> grind)
      rw [a1, b1, i2, a2, avc, avc, if_pos ho, ho.2]
      have hp := part_spec (ov := ovG gs day) hw hl
      refine ⟨?_, by grind⟩
      cases q : ovG gs x l <;> simp [ho.1] <;> grind
    · obtain ⟨a1, a2⟩ := rest_other (gs := gs) hl hw x ho
      obtain ⟨b1, _⟩ := rest_other (gs := gs) hl hw day ho
      rw [if_neg ho] at h
      obtain ⟨i1, i2⟩ := take_up hx hq' (nextW_nn hw hl) (by rw [a2]; grind)
      rw [a1, b1, i2, a2, avc, avc]
      exact ⟨by grind, by grind⟩
/-- behind a lot that is good, all of its name are -/
theorem all_good (hr : RiseK ((l :: ls).map keyT)) (h : ovG gs x l = false) (hx : day ≤ x) : avail (ovG gs x) ls l.nm = avail (ovG gs day) ls l.nm := by
  have hp := (List.pairwise_cons.mp hr).1
  have : ∀ m ∈ ls, m.nm = l.nm → ovG gs x m = false ∧ ovG gs day m = false := fun m hm e => by
    have hk := hp (keyT m) (List.mem_map_of_mem hm)
    have hk : keyLt (l.nm, l.t) (m.nm, m.t) = true := hk
    rw [e, keyLt_t, decide_eq_true_eq] at hk
    simp only [ovG, decide_eq_false_iff_not] at *
    rw [e]
    exact ⟨by omega, by omega⟩
  clear hr hp
  induction ls with
  | nil => rfl
  | cons m ls ih =>
    have ih := ih fun m hm => this m (List.mem_cons_of_mem _ hm)
    rw [avc, avc, ih]
    by_cases e : m.nm = l.nm
    · obtain ⟨z1, z2⟩ := this m (List.mem_cons_self ..) e
      rw [z1, z2]
    · rw [if_neg (fun z => e z.1), if_neg (fun z => e z.1)]
theorem take_low (hx : day ≤ x) : ∀ {ls : List (Lt Str)} {w : Str → Rat}, RiseK (ls.map keyT) → (∀ l ∈ ls, 0 < l.q) → (∀ n, 0 ≤ w n) → w n ≤ avail (ovG gs day) ls n → ∀ y, y ≤ avail (ovG gs x) ls n → y ≤ avail (ovG gs day) ls n - w n → y ≤ avail (ovG gs x) (takeL (ovG gs day) ls w) n
  | [], w, _, _, hw, h, y, h1, h2 => by unfold takeL; exact h1
  | l :: ls, w, hr, hq, hw, h, y, h1, h2 => by
    have hl := hq l (List.mem_cons_self ..)
    have hq' : ∀ m ∈ ls, 0 < m.q := fun m hm => hq m (List.mem_cons_of_mem _ hm)
    have hr' : RiseK (ls.map keyT) := (List.pairwise_cons.mp hr).2
    unfold takeL
    rw [avapp]
    rw [avc] at h h1 h2
    have nn := avail_nn (ov := ovG gs day) hq' n
    have nx := avail_nn (ov := ovG gs x) hq' n
    have hle := av_le (gs := gs) (n := n) hx hq'
    by_cases ho : l.nm = n ∧ ovG gs day l = false
    · obtain ⟨a1, a2, a3⟩ := rest_av (gs := gs) hl hw x ho
      rw [if_pos ho] at h h2
      have hp := part_spec (ov := ovG gs day) hw hl
      have hw' : nextW (ovG gs day) w l n ≤ avail (ovG gs day) ls n := by rw [a2, a3]; split <;> grind
      have ih := fun y => take_low hx hr' hq' (nextW_nn hw hl) hw' y
      rw [a1]
      have hwn := hw n
      cases q : ovG gs x l with
      | false =>
        have hg := all_good hr q hx
        rw [ho.1] at hg
        have ih1 := ih (avail (ovG gs day) ls n - nextW (ovG gs day) w l n) (by rw [hg]; have := nextW_nn (ov := ovG gs day) hw hl n; grind) Rat.le_refl
        simp only [if_true]
        grind
      | true =>
        simp only [Bool.true_eq_false, if_false]
        rw [q] at h1
        simp only [Bool.true_eq_false, and_false, if_false] at h1
        have ih1 := ih y (by grind) (by rw [a2]; grind)
        grind
    · obtain ⟨a1, a2⟩ := rest_other (gs := gs) hl hw x ho
      rw [if_neg ho] at h h2
      have hw' : nextW (ovG gs day) w l n ≤ avail (ovG gs day) ls n := by rw [a2]; grind
      rw [a1]
      by_cases hg : l.nm = n ∧ ovG gs x l = false
      · exfalso
        apply ho
        refine ⟨hg.1, ?_⟩
        cases q : ovG gs day l with
        | false => rfl
        | true => rw [ov_mono hx q] at hg; cases hg.2
      · rw [if_neg hg] at h1 ⊢
        have ih1 := take_low hx hr' hq' (nextW_nn hw hl) hw' y (by grind) (by rw [a2]; grind)
        grind
def lastN (gs : List Gd) (ns : List (Str × Rat)) : Nat → List (Lt Str) → Int → Nat
  | 0, _, _ => 0
  | k + 1, ls, day => if (lackL (thereG gs day ls) ns).isEmpty = true then 1 + lastN gs ns k (takeL (ovG gs day) ls (wOf ns)) (day + 1) else 0
theorem wOf_nn {ns : List (Str × Rat)} (h : ∀ q ∈ ns, 0 < q.2) (n : Str) : 0 ≤ wOf ns n := by
  unfold wOf
  cases q : aget ns n with
  | none => exact Rat.le_refl
  | some v =>
    have := h _ (aget_mem q)
    show 0 ≤ v
    exact Rat.le_of_lt this
theorem lack_iff {av : Str → Rat} {ns : List (Str × Rat)} : (lackL av ns).isEmpty = true ↔ ∀ q ∈ ns, q.2 ≤ av q.1 := by
  rw [List.isEmpty_iff]
  unfold lackL
  rw [List.map_eq_nil_iff, List.filter_eq_nil_iff]
  constructor
  · intro h q hq
    have := h q hq
    simp only [decide_eq_true_eq] at this
    grind
  · intro h q hq
    have := h q hq
    simp only [decide_eq_true_eq]
    grind
theorem want_le {ns : List (Str × Rat)} {av : Str → Rat} (hn : ∀ n, 0 ≤ av n) (h : ∀ q ∈ ns, q.2 ≤ av q.1) (n : Str) : wOf ns n ≤ av n := by
  unfold wOf
  cases q : aget ns n with
  | none => exact hn n
  | some v => exact h _ (aget_mem q)
/-- fewer in any order last no longer than more in theirs -/
theorem last_le {ns : List (Str × Rat)} (hns : ∀ q ∈ ns, 0 < q.2) : ∀ (k : Nat) (ms ls : List (Lt Str)) (day : Int), RiseK (ls.map keyT) → (∀ l ∈ ls, 0 < l.q) → (∀ l ∈ ms, 0 < l.q) → (∀ x n, day ≤ x → avail (ovG gs x) ms n ≤ avail (ovG gs x) ls n) → lastN gs ns k ms day ≤ lastN gs ns k ls day
  | 0, _, _, _, _, _, _, _ => Nat.le_refl _
  | k + 1, ms, ls, day, hr, hq, hq2, hd => by
    unfold lastN
    have hw := fun n => wOf_nn hns n
    by_cases h1 : (lackL (thereG gs day ms) ns).isEmpty = true
    · have h2 := lack_iff.mp h1
      have h3 : ∀ q ∈ ns, q.2 ≤ thereG gs day ls q.1 := fun q hq => by have := h2 q hq; have := hd day q.1 (Int.le_refl _); grind
      rw [if_pos h1, if_pos (lack_iff.mpr h3)]
      have wm := want_le (fun n => avail_nn hq2 n) h2
      have wl := want_le (fun n => avail_nn hq n) h3
      refine Nat.add_le_add_left (last_le hns k _ _ _ (List.Pairwise.sublist rest_sub hr) (fun l hl => ?_) (fun l hl => ?_) fun x n hx => ?_) 1
      · obtain ⟨m, _, _, _, h, _⟩ := rest_mem hw hq l hl; exact h
      · obtain ⟨m, _, _, _, h, _⟩ := rest_mem hw hq2 l hl; exact h
      · have hx' : day ≤ x := by omega
        have mq2 : ∀ l ∈ takeL (ovG gs day) ms (wOf ns), 0 < l.q := fun l hl => by obtain ⟨m, _, _, _, h, _⟩ := rest_mem hw hq2 l hl; exact h
        obtain ⟨u1, u2⟩ := take_up (n := n) hx' hq2 hw (wm n)
        have u3 := av_le (gs := gs) (n := n) hx' mq2
        have d1 := hd x n hx'
        have d2 := hd day n (Int.le_refl _)
        exact take_low hx' hr hq hw (wl n) _ (by grind) (by unfold thereG at *; grind)
    · rw [if_neg h1]; exact Nat.zero_le _
theorem last_nil : ∀ (k : Nat) (day : Int) (ls : List (Lt Str)), lastN gs [] k ls day = k
  | 0, _, _ => rfl
  | k + 1, day, ls => by
    unfold lastN
    have : (lackL (thereG gs day ls) ([] : List (Str × Rat))).isEmpty = true := rfl
    rw [if_pos this, last_nil k]
    omega
end
end G
namespace G
open PySem PySem.Spec PyProof.Rows L2
def b_lasts_t1 : Fr → Res Bool :=
  xAnd (xB (xOp2 dLt (xVar 4) (xC (.int 400)))) (xB (xOp2 dEq (xCall m_lacking (xCons (xVar 0) (xCons (xVar 1) (xCons (xVar 2) (xCons (xOp2 dAdd (xVar 3) (xVar 4)) (xNil)))))) (xLst (xNil))))
def b_lasts_l1 : Fr → SRes :=
  sSeq (sSet 1 (xIx (xCall m_taken (xCons (xVar 0) (xCons (xVar 1) (xCons (xVar 2) (xCons (xOp2 dAdd (xVar 3) (xVar 4)) (xNil)))))) (xC (.int 1))))
  (sAug 4 dAddI (xC (.int 1)))
def b_lasts : Fr → SRes :=
  sSeq (sSet 4 (xC (.int 0)))
  (sSeq (sWh (b_lasts_t1) (b_lasts_l1) (fun _ => 402))
  (sKill [1] (sRet (xVar 4))))
def m_lasts : AFun := mkFun 5 4 b_lasts
def b__law_lasts_l1 : Fr → SRes :=
  sKill [5] (sSeq (sSet 5 (xCall m__law_taken (xCons (xVar 0) (xCons (xVar 1) (xCons (xVar 2) (xCons (xOp2 dAdd (xVar 3) (xVar 4)) (xNil)))))))
  (sSeq (sIf (xB (xIsi (isi "list") (xVar 5))) (sRet (xVar 4)) (sNx))
  (sSet 1 (xIx (xIx (xVar 5) (xC (.int 1))) (xC (.int 1))))))
def b__law_lasts : Fr → SRes :=
  sSeq (sFor (xRange1 (xC (.int 400))) (tName 4) (b__law_lasts_l1))
  (sKill [1, 4, 5] (sRet (xC (.int 400))))
def m__law_lasts : AFun := mkFun 6 4 b__law_lasts
def b__law_orders_of_e1 (self : AFun) : Fr → Res AV :=
  xOp2 dAdd (xLst (xCons (xVar 3) (xNil))) (xVar 4)
def b__law_orders_of_l1 (self : AFun) : Fr → SRes :=
  sSet 1 (xOp2 dAdd (xVar 1) (xComp [4] (xItems (xCall self (xCons (xOp2 dAdd (xSl (xVar 0) (xNo) (xSo (xVar 2))) (xSl (xVar 0) (xSo (xOp2 dAdd (xVar 2) (xC (.int 1)))) (xNo))) (xNil)))) (tName 4) (xYes) (b__law_orders_of_e1 self)))
def b__law_orders_of (self : AFun) : Fr → SRes :=
  sSeq (sIf (xB (xOp2 dEq (xVar 0) (xLst (xNil)))) (sRet (xLst (xCons (xLst (xNil)) (xNil)))) (sNx))
  (sSeq (sSet 1 (xLst (xNil)))
  (sSeq (sFor (xEnum (xVar 0)) (tNames [2, 3]) (b__law_orders_of_l1 self))
  (sKill [2, 3] (sRet (xVar 1)))))
def m__law_orders_of : Nat → AFun
  | 0 => fun _ _ => .err
  | n + 1 => mkFun 5 1 (b__law_orders_of (m__law_orders_of n))
def b__law_lasts_by_e1 : Fr → Res AV :=
  xNewL (xCons (xVar 9) (xCons (xIx (xVar 9) (xC (.int 2))) (xNil)))
def b__law_lasts_by_l1 : Fr → SRes :=
  sKill [8] (sIf (xAnd (xNot (xB (xCall m__law_is_over (xCons (xVar 0) (xCons (xIx (xVar 7) (xC (.int 0))) (xCons (xOp2 dAdd (xVar 3) (xVar 5)) (xNil))))))) (xAnd (xB (xOp2 dGt (xIx (xVar 6) (xC (.int 0))) (xC (.int 0)))) (xB (xOp2 dGt (xIx (xIx (xVar 7) (xC (.int 1))) (xC (.int 0))) (xC (.int 0)))))) (sSeq (sSet 8 (xIf (xB (xCall m__law_below (xCons (xIx (xVar 7) (xC (.int 1))) (xCons (xVar 6) (xNil))))) (xIx (xVar 7) (xC (.int 1))) (xVar 6)))
  (sSeq (sSetIx 7 (xC (.int 1)) (xCall m__law_minus (xCons (xIx (xVar 7) (xC (.int 1))) (xCons (xVar 8) (xNil)))))
  (sSet 6 (xCall m__law_minus (xCons (xVar 6) (xCons (xVar 8) (xNil))))))) (sNx))
def b__law_lasts_by_l2 : Fr → SRes :=
  sKill [6, 7, 8] (sSeq (sSet 6 (xVar 2))
  (sSeq (sForR 4 7 (b__law_lasts_by_l1))
  (sKill [7, 8] (sIf (xB (xOp2 dGt (xIx (xVar 6) (xC (.int 0))) (xC (.int 0)))) (sRet (xVar 5)) (sNx)))))
def b__law_lasts_by : Fr → SRes :=
  sSeq (sSet 4 (xRowsC [9] (xItems (xVar 1)) (tName 9) (xYes) (b__law_lasts_by_e1)))
  (sSeq (sFor (xRange1 (xC (.int 400))) (tName 5) (b__law_lasts_by_l2))
  (sKill [5, 6, 7, 8] (sRet (xC (.int 400)))))
def m__law_lasts_by : AFun := mkFun 10 4 b__law_lasts_by
section
variable {gs : List Gd} {day : Int} {ls : List (Lt Str)} {ns : List (Str × Rat)}
theorem take_frb4 {ov : Lt Str → Bool} {D M : Nat} (hD : 0 < D) : ∀ {ls : List (Lt Str)} {w : Str → Rat}, (∀ n, FrB D M (w n)) → (∀ l ∈ ls, 0 < l.q ∧ FrB D M l.q) → ∀ r ∈ takeL ov ls w, FrB D M r.q
  | [], _, _, _ => fun r h => nomatch h
  | l :: ls, w, hw, hl => by
    have h0 := hl l (List.mem_cons_self ..)
    have hwn : ∀ n, 0 ≤ w n := fun n => (hw n).2.1
    have hp := part_spec (ov := ov) hwn h0.1
    have hwl : FrB D M (wantT ov w l) := by unfold wantT; split; exact FrB.zero; exact hw _
    have hpl : FrB D M (partT ov w l) := by unfold partT; split; exact h0.2; exact hwl
    have hw2 : ∀ n, FrB D M (nextW ov w l n) := fun n => by
      unfold nextW
      split
      · show FrB D M (if n = l.nm then _ else _)
        split
        · exact FrB.sub hD hwl hpl hp.2.2.1
        · exact hw n
      · exact hw n
    intro r hr
    rcases List.mem_append.mp hr with hr | hr
    · unfold restT at hr
      split at hr
      · cases List.mem_singleton.mp hr
        exact FrB.sub hD h0.2 hpl hp.2.1
      · cases hr
    · exact take_frb4 hD (ls := ls) hw2 (fun m hm => hl m (List.mem_cons_of_mem _ hm)) r hr
theorem StO.take (h : StO gs 420 40 ls) (hn : NdO 420 40 ns) {ov : Lt Str → Bool} : StO gs 420 40 (takeL ov ls (wOf ns)) := by
  have hw := fun n => wOf_nn hn.q0 n
  have hb : ∀ n, FrB 420 40 (wOf ns n) := fun n => aget_bound hn.q n
  refine ⟨fun l hl => ?_, fun l hl => ?_, take_frb4 (by decide) hb fun l hl => ⟨h.q0 l hl, h.q l hl⟩, ?_⟩
  · obtain ⟨m, hm, e, _⟩ := rest_mem hw h.q0 l hl; rw [e]; exact h.nm m hm
  · obtain ⟨m, _, _, _, z, _⟩ := rest_mem hw h.q0 l hl; exact z
  · have := (@rest_sub _ _ ov (wOf ns) ls).length_le
    simp at this
    have := h.len
    omega
theorem eqv_nilN (xs : List (Str × Rat)) : PyData.eqv (.list (xs.map eN)) (.list []) = xs.isEmpty := by cases xs <;> rfl
abbrev frLs (gs : List Gd) (ls : List (Lt Str)) (ns : List (Str × Rat)) (day : Int) (k : Int) : Fr := ⟨[some (.dat (.tuple (gs.map eG))), some (.dat (.tuple (ls.map eL))), some (.dat (.list (ns.map eN))), some (.dat (.int day)), some (.dat (.int k))], [], 0⟩
theorem last_wh (hn : NdO 420 40 ns) : ∀ (j n : Nat) (ls : List (Lt Str)) (k : Int), StO gs 420 40 ls → k + j = 400 → j < n → ∃ ls', whA b_lasts_t1 b_lasts_l1 n (frLs gs ls ns day k) = .nx (frLs gs ls' ns day (k + lastN gs ns j ls (day + k)))
  | j, 0, _, _, _, _, h => absurd h (Nat.not_lt_zero _)
  | 0, n + 1, ls, k, hl, e, _ => by
    have hk : k = 400 := by omega
    subst hk
    refine ⟨ls, ?_⟩
    unfold whA frLs lastN
    simp [b_lasts_t1, dLt]
  | j + 1, n + 1, ls, k, hl, e, hj => by
    have hk : k < 400 := by omega
    have el := t_lacking (day := day + k) (D := 420) (M := 40) (N := 40) (by decide) (by decide) (by decide) (by decide) hl hn
    have eo := eqOk_r (x := .list ((lackL (thereG gs (day + k) ls) ns).map eN)) (y := .list []) (by simp [PyData.depth, PyData.depthAll])
    have ev := eqv_nilN (lackL (thereG gs (day + k) ls) ns)
    by_cases h0 : (lackL (thereG gs (day + k) ls) ns).isEmpty = true
    · have et := t_taken (day := day + k) (D := 420) (M := 40) (by decide) (by decide) (by decide) hl hn (List.isEmpty_iff.mp h0)
      obtain ⟨ls', ih⟩ := last_wh hn j n (takeL (ovG gs (day + k)) ls (wOf ns)) (k + 1) (hl.take hn) (by omega) (by omega)
      refine ⟨ls', ?_⟩
      unfold lastN
      rw [if_pos h0]
      rw [h0] at ev
      have e2 : day + (k + 1) = day + k + 1 := by omega
      rw [e2] at ih
      generalize takeL (ovG gs (day + k)) ls (wOf ns) = L2 at *
      generalize takeR (ovG gs (day + k)) ls (wOf ns) = R2 at *
      generalize lackL (thereG gs (day + k) ls) ns = K at *
      have a1 : b_lasts_t1 (frLs gs ls ns day k) = .ok true (frLs gs ls ns day k) := by
        unfold b_lasts_t1 frLs
        simp [dLt, hk, dAdd, el, dEq, eo, ev]
      have a2 : b_lasts_l1 (frLs gs ls ns day k) = .nx (frLs gs L2 ns day (k + 1)) := by
        unfold b_lasts_l1 frLs
        simp [dAdd, et, dIx, atI, ixN]
      unfold whA
      rw [a1]
      simp only [Res.toS, if_true, a2]
      rw [ih]
      generalize lastN gs ns j L2 (day + k + 1) = X
      rw [show k + ((1 + X : Nat) : Int) = k + 1 + (X : Int) by omega]
    · refine ⟨ls, ?_⟩
      unfold lastN
      rw [if_neg h0]
      rw [Bool.eq_false_iff.mpr h0] at ev
      generalize lackL (thereG gs (day + k) ls) ns = K at *
      unfold whA frLs
      simp [b_lasts_t1, dLt, hk, dAdd, el, dEq, eo, ev]
theorem t_lasts (hl : StO gs 420 40 ls) (hn : NdO 420 40 ns) : m_lasts [.dat (.tuple (gs.map eG)), .dat (.tuple (ls.map eL)), .dat (.list (ns.map eN)), .dat (.int day)] [] = .ok (.dat (.int (lastN gs ns 400 ls day))) [] := by
  obtain ⟨ls', e⟩ := last_wh (gs := gs) (day := day) hn 400 402 ls 0 hl (by omega) (by omega)
  unfold m_lasts b_lasts
  unfold frLs at e
  rw [show day + (0 : Int) = day by omega, show (0 : Int) + (lastN gs ns 400 ls day : Int) = lastN gs ns 400 ls day by omega] at e
  simp [e]
theorem rangeD_cons (k : Int) (j : Nat) : rangeD k (j + 1) = .int k :: rangeD (k + 1) j := by
  unfold rangeD
  rw [List.range_succ_eq_map, List.map_cons, List.map_map]
  congr 1
  · simp
  · apply List.map_congr_left
    intro i _
    simp
    omega
theorem lastN_le : ∀ (k : Nat) (ls : List (Lt Str)) (day : Int), lastN gs ns k ls day ≤ k
  | 0, _, _ => Nat.le_refl _
  | k + 1, ls, day => by
    unfold lastN
    split
    · have := lastN_le k (takeL (ovG gs day) ls (wOf ns)) (day + 1); omega
    · omega
theorem isi_lt (xs : List PyData) : isi "list" (.tuple xs) = false := rfl
theorem isi_ll (xs : List PyData) : isi "list" (.list xs) = true := rfl
abbrev frLl (gs : List Gd) (ls : List (Lt Str)) (ns : List (Str × Rat)) (day : Int) (v4 v5 : Option AV) : Fr := ⟨[some (.dat (.tuple (gs.map eG))), some (.dat (.tuple (ls.map eL))), some (.dat (.list (ns.map eN))), some (.dat (.int day)), v4, v5], [], 0⟩
theorem ll_loop (hg : gs.length ≤ 1000000) (hn : NdO 420 40 ns) : ∀ (j : Nat) (ls : List (Lt Str)) (k : Int) (v4 v5 : Option AV), StO gs 420 40 ls → RiseK (ls.map keyT) →
    (lastN gs ns j ls (day + k) < j → ∃ fr', forA (tName 4) b__law_lasts_l1 (rangeD k j) (frLl gs ls ns day v4 v5) = .ret (.dat (.int (k + lastN gs ns j ls (day + k)))) fr') ∧
    (lastN gs ns j ls (day + k) = j → ∃ ls' w4 w5, forA (tName 4) b__law_lasts_l1 (rangeD k j) (frLl gs ls ns day v4 v5) = .nx (frLl gs ls' ns day w4 w5))
  | 0, ls, k, v4, v5, _, _ => ⟨fun h => absurd h (Nat.not_lt_zero _), fun _ => ⟨ls, v4, v5, rfl⟩⟩
  | j + 1, ls, k, v4, v5, hl, hr => by
    have et := t_ltaken (day := day + k) (D := 420) (M := 40) (by decide) (by decide) (by decide) hg hl hr hn
    rw [rangeD_cons]
    by_cases h0 : (lackL (thereG gs (day + k) ls) ns).isEmpty = true
    · have h1 := List.isEmpty_iff.mp h0
      obtain ⟨i1, i2⟩ := ll_loop hg hn j (takeL (ovG gs (day + k)) ls (wOf ns)) (k + 1) (some (.dat (.int k))) (some (.dat (ltk gs (day + k) ls ns))) (hl.take hn) (List.Pairwise.sublist rest_sub hr)
      have e2 : day + (k + 1) = day + k + 1 := by omega
      rw [e2] at i1 i2
      unfold lastN
      rw [if_pos h0]
      have step : b__law_lasts_l1 (frLl gs ls ns day (some (.dat (.int k))) v5) = .nx (frLl gs (takeL (ovG gs (day + k)) ls (wOf ns)) ns day (some (.dat (.int k))) (some (.dat (ltk gs (day + k) ls ns)))) := by
        unfold ltk at et ⊢
        rw [h1] at et ⊢
        unfold b__law_lasts_l1 frLl
        simp [dAdd, et, dIx, atI, ixN, isi_lt]
      have go : forA (tName 4) b__law_lasts_l1 (.int k :: rangeD (k + 1) j) (frLl gs ls ns day v4 v5) = forA (tName 4) b__law_lasts_l1 (rangeD (k + 1) j) (frLl gs (takeL (ovG gs (day + k)) ls (wOf ns)) ns day (some (.dat (.int k))) (some (.dat (ltk gs (day + k) ls ns)))) := by
        show (match b__law_lasts_l1 (frLl gs ls ns day (some (.dat (.int k))) v5) with
          | .nx f2 => forA (tName 4) b__law_lasts_l1 (rangeD (k + 1) j) f2
          | .ct f2 => forA (tName 4) b__law_lasts_l1 (rangeD (k + 1) j) f2
          | .bk f2 => .nx f2
          | r => r) = _
        rw [step]
      rw [go]
      generalize lastN gs ns j (takeL (ovG gs (day + k)) ls (wOf ns)) (day + k + 1) = X at *
      refine ⟨fun h => ?_, fun h => ?_⟩
      · obtain ⟨fr', e⟩ := i1 (by omega)
        exact ⟨fr', by rw [e, show k + ((1 + X : Nat) : Int) = k + 1 + (X : Int) by omega]⟩
      · exact i2 (by omega)
    · unfold lastN
      rw [if_neg h0]
      refine ⟨fun _ => ?_, fun h => by omega⟩
      have : ∃ q qs, lackL (thereG gs (day + k) ls) ns = q :: qs := by
        cases z : lackL (thereG gs (day + k) ls) ns with
        | nil => rw [z] at h0; exact absurd rfl h0
        | cons q qs => exact ⟨q, qs, rfl⟩
      obtain ⟨q, qs, h1⟩ := this
      refine ⟨frLl gs ls ns day (some (.dat (.int k))) (some (.dat (ltk gs (day + k) ls ns))), ?_⟩
      have step : b__law_lasts_l1 (frLl gs ls ns day (some (.dat (.int k))) v5) = .ret (.dat (.int k)) (frLl gs ls ns day (some (.dat (.int k))) (some (.dat (ltk gs (day + k) ls ns)))) := by
        unfold ltk at et ⊢
        rw [h1] at et ⊢
        unfold b__law_lasts_l1 frLl
        simp [dAdd, et, isi_ll]
      show (match b__law_lasts_l1 (frLl gs ls ns day (some (.dat (.int k))) v5) with
          | .nx f2 => forA (tName 4) b__law_lasts_l1 (rangeD (k + 1) j) f2
          | .ct f2 => forA (tName 4) b__law_lasts_l1 (rangeD (k + 1) j) f2
          | .bk f2 => .nx f2
          | r => r) = _
      rw [step, show k + ((0 : Nat) : Int) = k by omega]
theorem t_llasts (hg : gs.length ≤ 1000000) (hl : StO gs 420 40 ls) (hr : RiseK (ls.map keyT)) (hn : NdO 420 40 ns) : m__law_lasts [.dat (.tuple (gs.map eG)), .dat (.tuple (ls.map eL)), .dat (.list (ns.map eN)), .dat (.int day)] [] = .ok (.dat (.int (lastN gs ns 400 ls day))) [] := by
  obtain ⟨i1, i2⟩ := ll_loop (day := day) hg hn 400 ls 0 none none hl hr
  rw [show day + (0 : Int) = day by omega] at i1 i2
  have hle := lastN_le (gs := gs) (ns := ns) 400 ls day
  unfold m__law_lasts b__law_lasts
  unfold frLl at i1 i2
  by_cases h : lastN gs ns 400 ls day < 400
  · obtain ⟨fr', e⟩ := i1 h
    rw [show (0 : Int) + (lastN gs ns 400 ls day : Int) = lastN gs ns 400 ls day by omega] at e
    simp [rgOk, e]
  · have h' : lastN gs ns 400 ls day = 400 := by omega
    obtain ⟨ls', w4, w5, e⟩ := i2 h'
    simp [rgOk, e, h']
end
end G
namespace G
open PySem PySem.Spec PyProof.Rows L2
def dayBy (ov : Lt Str → Bool) : List (Lt Str × Rat) → Rat → List (Lt Str × Rat) × Rat
  | [], w => ([], w)
  | (l, a) :: rs, w => if ov l = false ∧ 0 < w ∧ 0 < a then (((l, a - (if a < w then a else w)) :: (dayBy ov rs (w - (if a < w then a else w))).1), (dayBy ov rs (w - (if a < w then a else w))).2) else (((l, a) :: (dayBy ov rs w).1), (dayBy ov rs w).2)
def lastBy (gs : List Gd) (need : Rat) : Nat → List (Lt Str × Rat) → Int → Nat
  | 0, _, _ => 0
  | k + 1, rs, day => if 0 < (dayBy (ovG gs day) rs need).2 then 0 else 1 + lastBy gs need k (dayBy (ovG gs day) rs need).1 (day + 1)
def liveR : List (Lt Str × Rat) → List (Lt Str)
  | [] => []
  | (l, a) :: rs => if 0 < a then ⟨l.nm, l.t, a⟩ :: liveR rs else liveR rs
section
variable {gs : List Gd} {n : Str}
theorem liveR_pos : ∀ {rs : List (Lt Str × Rat)}, ∀ l ∈ liveR rs, 0 < l.q
  | [], l, h => nomatch h
  | (l0, a) :: rs, l, h => by
    unfold liveR at h
    split at h
    · rename_i ha
      rcases List.mem_cons.mp h with h | h
      · rw [h]; exact ha
      · exact liveR_pos l h
    · exact liveR_pos l h
theorem dayBy_spec {ov : Lt Str → Bool} (hk : ∀ l m : Lt Str, keyT l = keyT m → ov l = ov m) : ∀ {rs : List (Lt Str × Rat)} {W : Str → Rat}, (∀ p ∈ rs, p.1.nm = n ∧ 0 ≤ p.2) → (∀ m, 0 ≤ W m) →
    liveR (dayBy ov rs (W n)).1 = takeL ov (liveR rs) W ∧ (W n ≤ avail ov (liveR rs) n → (dayBy ov rs (W n)).2 = 0) ∧ (¬ W n ≤ avail ov (liveR rs) n → 0 < (dayBy ov rs (W n)).2)
  | [], W, _, hw => by
    have := hw n
    refine ⟨rfl, fun h => ?_, fun h => ?_⟩
    · have h' : W n ≤ 0 := h
      show W n = 0
      grind
    · have h' : ¬ W n ≤ 0 := h
      show 0 < W n
      grind
  | (l, a) :: rs, W, hr, hw => by
    obtain ⟨hn, ha⟩ := hr _ (List.mem_cons_self ..)
    have hn : l.nm = n := hn
    have ha : 0 ≤ a := ha
    have hr' : ∀ p ∈ rs, p.1.nm = n ∧ 0 ≤ p.2 := fun p hp => hr p (List.mem_cons_of_mem _ hp)
    by_cases hpos : 0 < a
    · have eL : liveR ((l, a) :: rs) = ⟨l.nm, l.t, a⟩ :: liveR rs := by
        show (if 0 < a then _ else _) = _
        rw [if_pos hpos]
      rw [eL]
      have ek : ov ⟨l.nm, l.t, a⟩ = ov l := hk _ _ rfl
      have nnv := avail_nn (ov := ov) (ls := liveR rs) (liveR_pos (rs := rs)) n
      by_cases hc : ov l = false ∧ 0 < W n ∧ 0 < a
      · unfold dayBy
        rw [if_pos hc]
        obtain ⟨h1, h2, _⟩ := hc
        obtain ⟨p, hp⟩ : ∃ p, p = (if a < W n then a else W n) := ⟨_, rfl⟩
        rw [← hp]
        have hW := nextW_nn (ov := ov) (l := ⟨l.nm, l.t, a⟩) hw hpos
        have ep : partT ov W ⟨l.nm, l.t, a⟩ = p := by
          unfold partT wantT
          rw [ek, h1, hp]
          simp [hn]
        have en : nextW ov W ⟨l.nm, l.t, a⟩ n = W n - p := by
          rw [nextW_eq hw hpos, if_pos hn, ep]
        obtain ⟨i1, i2, i3⟩ := dayBy_spec hk hr' hW
        rw [en] at i1 i2 i3
        have er : takeL ov (⟨l.nm, l.t, a⟩ :: liveR rs) W = restT ov W ⟨l.nm, l.t, a⟩ ++ takeL ov (liveR rs) (nextW ov W ⟨l.nm, l.t, a⟩) := rfl
        rw [er, ← i1, avc, if_pos ⟨hn, by rw [ek]; exact h1⟩]
        have hpa : p ≤ a ∧ (p = a ∨ p = W n) := by rw [hp]; split <;> grind
        refine ⟨?_, fun h => i2 ?_, fun h => i3 ?_⟩
        · unfold restT
          rw [ep]
          show (if 0 < a - p then _ else _) = _
          by_cases hz : p = a
          · rw [hz, if_neg (by grind), if_neg (by simp)]; rfl
          · rw [if_pos (by grind), if_pos hz]; rfl
        · have h : W n ≤ a + avail ov (liveR rs) n := h
          grind
        · have h : ¬ W n ≤ a + avail ov (liveR rs) n := h
          rw [hp]; split <;> grind
      · unfold dayBy
        rw [if_neg hc]
        have hz : wantT ov W ⟨l.nm, l.t, a⟩ = 0 := by
          unfold wantT
          rw [ek]
          cases q : ov l with
          | true => rfl
          | false =>
            simp only [Bool.false_eq_true, if_false]
            have := hw n
            show W l.nm = 0
            rw [hn]
            rw [q] at hc
            simp only [true_and] at hc
            grind
        obtain ⟨z1, _, z3⟩ := at_zero (ov := ov) (l := ⟨l.nm, l.t, a⟩) hpos hz
        obtain ⟨i1, i2, i3⟩ := dayBy_spec hk hr' hw
        have er : takeL ov (⟨l.nm, l.t, a⟩ :: liveR rs) W = restT ov W ⟨l.nm, l.t, a⟩ ++ takeL ov (liveR rs) (nextW ov W ⟨l.nm, l.t, a⟩) := rfl
        rw [er, z1, z3, ← i1, avc]
        refine ⟨?_, fun h => i2 ?_, fun h => i3 ?_⟩
        · show (if 0 < a then _ else _) = _
          rw [if_pos hpos]; rfl
        · by_cases hg : ov l = false
          · have hw0 := hw n
            have : W n = 0 := by
              have : ¬ 0 < W n := fun z => hc ⟨hg, z, hpos⟩
              grind
            rw [this]; exact nnv
          · rw [if_neg (fun z => hg (by rw [← ek]; exact z.2))] at h
            grind
        · intro h2
          apply h
          split <;> grind
    · have eL : liveR ((l, a) :: rs) = liveR rs := by
        show (if 0 < a then _ else _) = _
        rw [if_neg hpos]
      obtain ⟨i1, i2, i3⟩ := dayBy_spec hk hr' hw
      unfold dayBy
      rw [if_neg (fun z => hpos z.2.2), eL]
      refine ⟨?_, i2, i3⟩
      show (if 0 < a then _ else _) = _
      rw [if_neg hpos]
      exact i1
theorem dayBy_ok {ov : Lt Str → Bool} {D M : Nat} (hD : 0 < D) {P : Lt Str → Prop} : ∀ {rs : List (Lt Str × Rat)} {w : Rat}, (∀ p ∈ rs, P p.1 ∧ FrB D M p.2) → FrB D M w → (∀ p ∈ (dayBy ov rs w).1, P p.1 ∧ FrB D M p.2) ∧ FrB D M (dayBy ov rs w).2 ∧ (dayBy ov rs w).1.length = rs.length
  | [], w, h, hw => ⟨h, hw, rfl⟩
  | (l, a) :: rs, w, h, hw => by
    have h0 := h _ (List.mem_cons_self ..)
    have h' : ∀ p ∈ rs, P p.1 ∧ FrB D M p.2 := fun p hp => h p (List.mem_cons_of_mem _ hp)
    unfold dayBy
    split
    · have hp : FrB D M (if a < w then a else w) := by split; exact h0.2; exact hw
      obtain ⟨i1, i2, i3⟩ := dayBy_ok (ov := ov) hD h' (FrB.sub hD hw hp (by split <;> grind))
      refine ⟨fun p hq => ?_, i2, by simp [i3]⟩
      rcases List.mem_cons.mp hq with hq | hq
      · rw [hq]; exact ⟨h0.1, FrB.sub hD h0.2 hp (by split <;> grind)⟩
      · exact i1 p hq
    · obtain ⟨i1, i2, i3⟩ := dayBy_ok (ov := ov) hD h' hw
      refine ⟨fun p hq => ?_, i2, by simp [i3]⟩
      rcases List.mem_cons.mp hq with hq | hq
      · rw [hq]; exact h0
      · exact i1 p hq
theorem last_by {need : Rat} (h0 : 0 ≤ need) : ∀ (k : Nat) (rs : List (Lt Str × Rat)) (day : Int), (∀ p ∈ rs, p.1.nm = n ∧ FrB 420 40 p.2) → FrB 420 40 need → lastBy gs need k rs day = lastN gs [(n, need)] k (liveR rs) day
  | 0, _, _, _, _ => rfl
  | k + 1, rs, day, hr, hb => by
    have hW : ∀ m, 0 ≤ wOf [(n, need)] m := fun m => by
      unfold wOf aget
      simp only [List.find?_cons, List.find?_nil]
      split
      · exact h0
      · exact Rat.le_refl
    have en : wOf [(n, need)] n = need := by
      unfold wOf aget
      simp
    obtain ⟨i1, i2, i3⟩ := dayBy_spec (n := n) (ov := ovG gs day) (fun l m h => ovG_key l m h) (rs := rs) (W := wOf [(n, need)]) (fun p hp => ⟨(hr p hp).1, (hr p hp).2.2.1⟩) hW
    rw [en] at i1 i2 i3
    obtain ⟨o1, _, _⟩ := dayBy_ok (ov := ovG gs day) (D := 420) (M := 40) (by decide) (P := fun l => l.nm = n) (rs := rs) (w := need) hr hb
    unfold lastBy lastN
    have hiff : (lackL (thereG gs day (liveR rs)) [(n, need)]).isEmpty = true ↔ need ≤ thereG gs day (liveR rs) n := by
      rw [lack_iff]
      generalize thereG gs day (liveR rs) = av
      constructor
      · intro h; exact h (n, need) (List.mem_singleton.mpr rfl)
      · intro h q hq
        rw [List.mem_singleton.mp hq]
        exact h
    by_cases hc : need ≤ avail (ovG gs day) (liveR rs) n
    · rw [if_pos (hiff.mpr hc), if_neg (by rw [i2 hc]; grind), last_by h0 k _ _ o1 hb, i1]
    · rw [if_neg (fun z => hc (hiff.mp z)), if_pos (i3 hc)]
theorem liveR_self : ∀ {ls : List (Lt Str)}, (∀ l ∈ ls, 0 < l.q) → liveR (ls.map fun l => (l, l.q)) = ls
  | [], _ => rfl
  | l :: ls, h => by
    rw [List.map_cons]
    show (if 0 < l.q then _ else _) = _
    rw [if_pos (h l (List.mem_cons_self ..)), liveR_self fun m hm => h m (List.mem_cons_of_mem _ hm)]
end
end G
namespace G
open PySem PySem.Spec PyProof.Rows L2
abbrev cellR (p : Lt Str × Rat) : Cell := .lst [eL p.1, eR p.2]
def rwC (rs : List (Lt Str × Rat)) : List Cell := rs.map cellR ++ [.rows (List.range' 0 rs.length)]
section
variable {gs : List Gd} {day c : Int} {need : Rat}
abbrev frB (gs : List Gd) (v1 : Option AV) (need : Rat) (day : Int) (m : Nat) (c : Int) (v6 v7 v8 : Option AV) (cs : List Cell) (bs : Nat) : Fr := ⟨[some (.dat (.tuple (gs.map eG))), v1, some (.dat (eR need)), some (.dat (.int day)), some (.cel m), some (.dat (.int c)), v6, v7, v8, none], cs, bs⟩
theorem lb_step {l : Lt Str} {a w : Rat} {v1 v8 : Option AV} {m j bs : Nat} {cs : List Cell} (hz : gs.length ≤ 1000000) (hg : HasG gs l.nm) (ha : FrB 420 40 a) (hw : FrB 420 40 w) (hj : cs[j]? = some (cellR (l, a))) :
    ∃ v8', b__law_lasts_by_l1 (frB gs v1 need day m c (some (.dat (eR w))) (some (.cel j)) v8 cs bs) =
      .nx (if ovG gs (day + c) l = false ∧ 0 < w ∧ 0 < a then frB gs v1 need day m c (some (.dat (eR (w - (if a < w then a else w))))) (some (.cel j)) v8' (cs.set j (cellR (l, a - (if a < w then a else w)))) bs
        else frB gs v1 need day m c (some (.dat (eR w))) (some (.cel j)) v8' cs bs) := by
  have eo := t_lis_over (day := day + c) hz hg
  have sa : Sm a := ha.sm (by decide) (by decide) (by decide)
  have sw : Sm w := hw.sm (by decide) (by decide) (by decide)
  have eb := s_lbelow sa sw
  have x0 := lot_ix0 l
  have i0 : dIx (.list [eL l, eR a]) (.int 0) = some (eL l) := by simp [dIx, atI, ixN]
  have i1 : dIx (.list [eL l, eR a]) (.int 1) = some (eR a) := by simp [dIx, atI, ixN]
  have n0 := eR_ix0 a
  have n1 := eR_ix0 w
  have g0 : dGt (.int w.num) (.int 0) = some (.bool (decide (0 < w))) := by
    show some (PyData.bool (decide (0 < w.num))) = _
    congr 2
    exact decide_eq_decide.mpr (by rw [num_pos])
  have g1 : dGt (.int a.num) (.int 0) = some (.bool (decide (0 < a))) := by
    show some (PyData.bool (decide (0 < a.num))) = _
    congr 2
    exact decide_eq_decide.mpr (by rw [num_pos])
  by_cases h1 : ovG gs (day + c) l = true
  · refine ⟨none, ?_⟩
    rw [if_neg (fun z => by rw [h1] at z; cases z.1)]
    rw [h1] at eo
    unfold b__law_lasts_by_l1 frB
    simp [hj, i0, dAdd, eo]
  · have h1 : ovG gs (day + c) l = false := Bool.eq_false_iff.mpr h1
    rw [h1] at eo
    by_cases h2 : 0 < w
    rotate_left
    · refine ⟨none, ?_⟩
      rw [if_neg (fun z => h2 z.2.1)]
      unfold b__law_lasts_by_l1 frB
      simp [hj, i0, dAdd, eo, n1, g0, h2]
    by_cases h3 : 0 < a
    rotate_left
    · refine ⟨none, ?_⟩
      rw [if_neg (fun z => h3 z.2.2)]
      unfold b__law_lasts_by_l1 frB
      simp [hj, i0, i1, dAdd, eo, n0, n1, g0, g1, h2, h3]
    have hp : FrB 420 40 (if a < w then a else w) := by split; exact ha; exact hw
    have sp := hp.sm (by decide) (by decide) (by decide)
    have m1 := s_lminus sa sp
    have m2 := s_lminus sw sp
    refine ⟨some (.dat (eR (if a < w then a else w))), ?_⟩
    rw [if_pos ⟨h1, h2, h3⟩]
    have il : ixN 2 1 = some 1 := rfl
    by_cases h4 : a < w
    · rw [if_pos h4] at m1 m2 ⊢
      unfold b__law_lasts_by_l1 frB
      simp [hj, i0, i1, dAdd, eo, n0, n1, g0, g1, h2, h3, eb, h4, m1, m2, il]
    · rw [if_neg h4] at m1 m2 ⊢
      unfold b__law_lasts_by_l1 frB
      simp [hj, i0, i1, dAdd, eo, n0, n1, g0, g1, h2, h3, eb, h4, m1, m2, il]
theorem rwC_at (done rest : List (Lt Str × Rat)) (p : Lt Str × Rat) : (rwC (done ++ p :: rest))[done.length]? = some (cellR p) := by
  unfold rwC
  rw [List.map_append, List.map_cons, List.append_assoc, List.getElem?_append_right (by simp)]
  simp
theorem rwC_last (rs : List (Lt Str × Rat)) : (rwC rs)[rs.length]? = some (.rows (List.range' 0 rs.length)) := by
  unfold rwC
  rw [List.getElem?_append_right (by simp)]
  simp
theorem rwC_set (done rest : List (Lt Str × Rat)) (p q : Lt Str × Rat) : (rwC (done ++ p :: rest)).set done.length (cellR q) = rwC (done ++ q :: rest) := by
  unfold rwC
  rw [List.map_append, List.map_cons, List.append_assoc, List.set_append_right _ _ (by simp)]
  simp
theorem lb_rows (hz : gs.length ≤ 1000000) {v1 : Option AV} : ∀ (rest done : List (Lt Str × Rat)) (w : Rat) (v7 v8 : Option AV) (m : Nat), m = (done ++ rest).length → (∀ p ∈ rest, HasG gs p.1.nm ∧ FrB 420 40 p.2) → FrB 420 40 w →
    ∃ v7' v8', forR m 7 (List.range' 0 m) b__law_lasts_by_l1 (List.range' done.length rest.length) (frB gs v1 need day m c (some (.dat (eR w))) v7 v8 (rwC (done ++ rest)) (m + 1)) =
      .nx (frB gs v1 need day m c (some (.dat (eR (dayBy (ovG gs (day + c)) rest w).2))) v7' v8' (rwC (done ++ (dayBy (ovG gs (day + c)) rest w).1)) (m + 1))
  | [], done, w, v7, v8, m, hm, _, _ => by
    refine ⟨v7, v8, ?_⟩
    have e := rwC_last (done ++ [])
    rw [← hm] at e
    show forR m 7 _ _ [] _ = _
    unfold forR dayBy
    simp only [e, if_true]
  | (l, a) :: rest, done, w, v7, v8, m, hm, hr, hw => by
    obtain ⟨h1, h2⟩ := hr _ (List.mem_cons_self ..)
    have e := rwC_last (done ++ (l, a) :: rest)
    rw [← hm] at e
    obtain ⟨v8', es⟩ := lb_step (gs := gs) (day := day) (c := c) (need := need) (v1 := v1) (v8 := v8) (m := m) (bs := m + 1) hz h1 h2 hw (rwC_at done rest (l, a))
    have hr' : ∀ p ∈ rest, HasG gs p.1.nm ∧ FrB 420 40 p.2 := fun p hp => hr p (List.mem_cons_of_mem _ hp)
    rw [List.length_cons, List.range'_succ]
    unfold forR
    simp only [e, if_true]
    have ef : (frB gs v1 need day m c (some (.dat (eR w))) v7 v8 (rwC (done ++ (l, a) :: rest)) (m + 1)).setv 7 (some (.cel done.length)) = frB gs v1 need day m c (some (.dat (eR w))) (some (.cel done.length)) v8 (rwC (done ++ (l, a) :: rest)) (m + 1) := rfl
    rw [ef, es]
    unfold dayBy
    by_cases hc : ovG gs (day + c) l = false ∧ 0 < w ∧ 0 < a
    · rw [if_pos hc, if_pos hc]
      simp only
      rw [rwC_set]
      have hp : FrB 420 40 (if a < w then a else w) := by split; exact h2; exact hw
      have hl : done.length + 1 = (done ++ [(l, a - (if a < w then a else w))]).length := by simp
      have ha : done ++ (l, a - (if a < w then a else w)) :: rest = (done ++ [(l, a - (if a < w then a else w))]) ++ rest := by simp
      obtain ⟨w7, w8, e2⟩ := lb_rows hz (v1 := v1) rest (done ++ [(l, a - (if a < w then a else w))]) (w - (if a < w then a else w)) (some (.cel done.length)) v8' m (by rw [hm]; simp) hr' (FrB.sub (by decide) hw hp (by split <;> grind))
      rw [ha, hl, e2]
      exact ⟨w7, w8, by simp⟩
    · rw [if_neg hc, if_neg hc]
      simp only
      have hl : done.length + 1 = (done ++ [(l, a)]).length := by simp
      have ha : done ++ (l, a) :: rest = (done ++ [(l, a)]) ++ rest := by simp
      obtain ⟨w7, w8, e2⟩ := lb_rows hz (v1 := v1) rest (done ++ [(l, a)]) w (some (.cel done.length)) v8' m (by rw [hm]; simp) hr' hw
      rw [ha, hl, e2]
      exact ⟨w7, w8, by simp⟩
/-- made -/
theorem rows_made {vars : List (Option AV)} (hv : vars.length = 10) : ∀ (ls : List (Lt Str)) (acc : List Nat) (cs : List Cell), compR [9] (tName 9) xYes b__law_lasts_by_e1 vars 0 (ls.map eL) acc cs = some (acc ++ List.range' cs.length ls.length, cs ++ ls.map fun l => cellR (l, l.q))
  | [], acc, cs => by unfold compR; simp
  | l :: ls, acc, cs => by
    have h9 : ((kill [9] vars).set 9 (some (.dat (eL l))))[9]? = some (some (.dat (eL l))) := by
      rw [List.getElem?_set_self (by rw [kill_len]; omega)]
    have x2 := lot_ix2 l
    have ih := rows_made hv ls (acc ++ [cs.length]) (cs ++ [cellR (l, l.q)])
    rw [List.map_cons]
    unfold compR
    have ef : tName 9 (eL l) (⟨kill [9] vars, cs, 0⟩ : Fr) = some ⟨(kill [9] vars).set 9 (some (.dat (eL l))), cs, 0⟩ := rfl
    rw [ef]
    generalize (kill [9] vars).set 9 (some (.dat (eL l))) = vs at *
    have ee : b__law_lasts_by_e1 ⟨vs, cs, 0⟩ = .ok (.cel cs.length) ⟨vs, cs ++ [cellR (l, l.q)], 0⟩ := by
      unfold b__law_lasts_by_e1
      simp [h9, x2]
    simp only [xYes, ee, if_true, Nat.zero_le]
    rw [ih]
    simp [List.range'_succ]
theorem lb_loop (hz : gs.length ≤ 1000000) {v1 : Option AV} (hneed : FrB 420 40 need) : ∀ (j : Nat) (rs : List (Lt Str × Rat)) (k : Int) (v5 : Option AV) (v6 v7 v8 : Option AV) (m : Nat), m = rs.length → (∀ p ∈ rs, HasG gs p.1.nm ∧ FrB 420 40 p.2) →
    (lastBy gs need j rs (day + k) < j → ∃ fr', forA (tName 5) b__law_lasts_by_l2 (rangeD k j) ⟨[some (.dat (.tuple (gs.map eG))), v1, some (.dat (eR need)), some (.dat (.int day)), some (.cel m), v5, v6, v7, v8, none], rwC rs, 0⟩ = .ret (.dat (.int (k + lastBy gs need j rs (day + k)))) fr') ∧
    (lastBy gs need j rs (day + k) = j → ∃ fr', forA (tName 5) b__law_lasts_by_l2 (rangeD k j) ⟨[some (.dat (.tuple (gs.map eG))), v1, some (.dat (eR need)), some (.dat (.int day)), some (.cel m), v5, v6, v7, v8, none], rwC rs, 0⟩ = .nx fr')
  | 0, rs, k, v5, v6, v7, v8, m, _, _ => ⟨fun h => absurd h (Nat.not_lt_zero _), fun _ => ⟨_, rfl⟩⟩
  | j + 1, rs, k, v5, v6, v7, v8, m, hm, hr => by
    rw [rangeD_cons]
    obtain ⟨w7, w8, er⟩ := lb_rows (gs := gs) (day := day) (c := k) (need := need) hz (v1 := v1) rs [] need none none m (by rw [hm]; rfl) hr hneed
    obtain ⟨o1, o2, o3⟩ := dayBy_ok (ov := ovG gs (day + k)) (D := 420) (M := 40) (by decide) (P := fun l => HasG gs l.nm) hr hneed
    rw [List.nil_append, List.nil_append, List.length_nil, ← hm] at er
    have hlast := rwC_last rs
    rw [← hm] at hlast
    have n1 := eR_ix0 (dayBy (ovG gs (day + k)) rs need).2
    have g1 : dGt (.int (dayBy (ovG gs (day + k)) rs need).2.num) (.int 0) = some (.bool (decide (0 < (dayBy (ovG gs (day + k)) rs need).2))) := by
      show some (PyData.bool (decide (0 < (dayBy (ovG gs (day + k)) rs need).2.num))) = _
      congr 2
      exact decide_eq_decide.mpr (by rw [num_pos])
    unfold frB at er
    by_cases h0 : 0 < (dayBy (ovG gs (day + k)) rs need).2
    · unfold lastBy
      rw [if_pos h0]
      refine ⟨fun _ => ?_, fun h => by omega⟩
      refine ⟨⟨[some (.dat (.tuple (gs.map eG))), v1, some (.dat (eR need)), some (.dat (.int day)), some (.cel m), some (.dat (.int k)), some (.dat (eR (dayBy (ovG gs (day + k)) rs need).2)), none, none, none], rwC (dayBy (ovG gs (day + k)) rs need).1, 0⟩, ?_⟩
      generalize (dayBy (ovG gs (day + k)) rs need).2 = W at *
      generalize (dayBy (ovG gs (day + k)) rs need).1 = R2 at *
      have step : b__law_lasts_by_l2 ⟨[some (.dat (.tuple (gs.map eG))), v1, some (.dat (eR need)), some (.dat (.int day)), some (.cel m), some (.dat (.int k)), v6, v7, v8, none], rwC rs, 0⟩ = .ret (.dat (.int k)) ⟨[some (.dat (.tuple (gs.map eG))), v1, some (.dat (eR need)), some (.dat (.int day)), some (.cel m), some (.dat (.int k)), some (.dat (eR W)), none, none, none], rwC R2, 0⟩ := by
        unfold b__law_lasts_by_l2
        simp [hlast, er, n1, g1, h0, hm.symm]
      unfold forA
      simp only [tName, Fr.setv, List.set, step]
      rw [show k + ((0 : Nat) : Int) = k by omega]
    · have step : b__law_lasts_by_l2 ⟨[some (.dat (.tuple (gs.map eG))), v1, some (.dat (eR need)), some (.dat (.int day)), some (.cel m), some (.dat (.int k)), v6, v7, v8, none], rwC rs, 0⟩ = .nx ⟨[some (.dat (.tuple (gs.map eG))), v1, some (.dat (eR need)), some (.dat (.int day)), some (.cel m), some (.dat (.int k)), some (.dat (eR (dayBy (ovG gs (day + k)) rs need).2)), none, none, none], rwC (dayBy (ovG gs (day + k)) rs need).1, 0⟩ := by
        generalize (dayBy (ovG gs (day + k)) rs need).2 = W at *
        generalize (dayBy (ovG gs (day + k)) rs need).1 = R2 at *
        unfold b__law_lasts_by_l2
        simp [hlast, er, n1, g1, h0, hm.symm]
      obtain ⟨i1, i2⟩ := lb_loop hz (v1 := v1) hneed j (dayBy (ovG gs (day + k)) rs need).1 (k + 1) (some (.dat (.int k))) (some (.dat (eR (dayBy (ovG gs (day + k)) rs need).2))) none none m (by rw [o3]; exact hm) o1
      rw [show day + (k + 1) = day + k + 1 by omega] at i1 i2
      unfold lastBy
      rw [if_neg h0]
      generalize lastBy gs need j (dayBy (ovG gs (day + k)) rs need).1 (day + k + 1) = X at *
      unfold forA
      simp only [tName, Fr.setv, List.set, step]
      refine ⟨fun h => ?_, fun h => i2 (by omega)⟩
      obtain ⟨fr', e⟩ := i1 (by omega)
      exact ⟨fr', by rw [e, show k + ((1 + X : Nat) : Int) = k + 1 + (X : Int) by omega]⟩
theorem lastBy_le : ∀ (k : Nat) (rs : List (Lt Str × Rat)) (day : Int), lastBy gs need k rs day ≤ k
  | 0, _, _ => Nat.le_refl _
  | k + 1, rs, day => by
    unfold lastBy
    split
    · omega
    · have := lastBy_le k (dayBy (ovG gs day) rs need).1 (day + 1); omega
theorem t_lasts_by (hz : gs.length ≤ 1000000) (hneed : FrB 420 40 need) {ls : List (Lt Str)} (hl : ∀ l ∈ ls, HasG gs l.nm ∧ FrB 420 40 l.q) (hlen : ls.length ≤ 1000000) :
    m__law_lasts_by [.dat (.tuple (gs.map eG)), .dat (.list (ls.map eL)), .dat (eR need), .dat (.int day)] [] = .ok (.dat (.int (lastBy gs need 400 (ls.map fun l => (l, l.q)) day))) [] := by
  obtain ⟨i1, i2⟩ := lb_loop (gs := gs) (day := day) (need := need) hz (v1 := some (.dat (.list (ls.map eL)))) hneed 400 (ls.map fun l => (l, l.q)) 0 none none none none ls.length (by simp) (fun p hp => by
    obtain ⟨l, hl2, rfl⟩ := List.mem_map.mp hp
    exact hl l hl2)
  rw [show day + (0 : Int) = day by omega] at i1 i2
  have hle := lastBy_le (gs := gs) (need := need) 400 (ls.map fun l => (l, l.q)) day
  have em := rows_made (vars := [some (.dat (.tuple (gs.map eG))), some (.dat (.list (ls.map eL))), some (.dat (eR need)), some (.dat (.int day)), none, none, none, none, none, none]) rfl ls [] []
  have erw : (ls.map fun l => cellR (l, l.q)) ++ [.rows (List.range' 0 ls.length)] = rwC (ls.map fun l => (l, l.q)) := by
    unfold rwC
    rw [List.map_map, List.length_map]
    rfl
  have hcl : (ls.map fun l => cellR (l, l.q)).length = ls.length := by simp
  rw [List.nil_append, List.nil_append, List.length_nil] at em
  unfold m__law_lasts_by b__law_lasts_by
  by_cases h : lastBy gs need 400 (ls.map fun l => (l, l.q)) day < 400
  · obtain ⟨fr', e⟩ := i1 h
    rw [show (0 : Int) + (lastBy gs need 400 (ls.map fun l => (l, l.q)) day : Int) = lastBy gs need 400 (ls.map fun l => (l, l.q)) day by omega] at e
    generalize (ls.map fun l => cellR (l, l.q)) = CS at *
    simp [rgOk, hlen, em, erw, hcl, e]
  · have h' : lastBy gs need 400 (ls.map fun l => (l, l.q)) day = 400 := by omega
    obtain ⟨fr', e⟩ := i2 h'
    rw [h']
    generalize (ls.map fun l => cellR (l, l.q)) = CS at *
    simp [rgOk, hlen, em, erw, hcl, e]
end
end G
namespace G
open PySem PySem.Spec PyProof.Rows L2
section
variable {α : Type} (e : α → PyData)
abbrev eLs (o : List α) : PyData := .list (o.map e)
theorem enum_encK (xs : List α) : enumD (xs.map e) = xs.zipIdx.map fun q => .tuple [.int (q.2 : Nat), e q.1] := by
  unfold enumD
  rw [List.zipIdx_map, List.map_map]; rfl
theorem cut_fromK (xs : List PyData) (v : Int) (h0 : 0 ≤ v) : cutD xs (some v) none = xs.drop v.toNat := by
  unfold cutD HT.sIx
  simp only
  rw [if_neg (by omega)]
  rcases Nat.lt_or_ge v.toNat xs.length with h | h
  · rw [Nat.min_eq_left (by omega), ← List.length_drop, List.take_length]
  · rw [Nat.min_eq_right h, List.drop_length, List.drop_eq_nil_of_le h]; simp
theorem or_step {self : AFun} {xs done rest : List α} {x : α} (he : xs = done ++ x :: rest) (hl : xs.length ≤ 5) {F G0 : List (List α)} {v2 v3 : Option AV}
    (hs : self [.dat (.list ((done ++ rest).map e))] [] = .ok (.dat (.list (G0.map (eLs e)))) []) (hG : ∀ o ∈ G0, o.length ≤ 5) (hF : F.length + G0.length ≤ 100000) (hv2 : v2 = some (.dat (.int (done.length : Nat)))) (hv3 : v3 = some (.dat (e x))) :
    b__law_orders_of_l1 self ⟨[some (.dat (.list (xs.map e))), some (.dat (.list (F.map (eLs e)))), v2, v3, none], [], 0⟩ =
      .nx ⟨[some (.dat (.list (xs.map e))), some (.dat (.list ((F ++ G0.map (x :: ·)).map (eLs e)))), v2, v3, none], [], 0⟩ := by
  subst hv2 hv3
  have hlen := congrArg List.length he
  rw [List.length_append, List.length_cons] at hlen
  have h1 : dSl (.list (xs.map e)) none (some (done.length : Int)) = some (.list (done.map e)) := by
    show some (PyData.list (cutD (xs.map e) none (some (done.length : Int)))) = _
    rw [cut_take _ _ (by omega), he, List.map_append]
    simp
  have h2 : dSl (.list (xs.map e)) (some ((done.length : Int) + 1)) none = some (.list (rest.map e)) := by
    show some (PyData.list (cutD (xs.map e) (some ((done.length : Int) + 1)) none)) = _
    rw [cut_fromK _ _ (by omega), he, List.map_append, show ((done.length : Int) + 1).toNat = done.length + 1 by omega, List.drop_append]
    simp
  have h3 : dAdd (.list (done.map e)) (.list (rest.map e)) = some (.list ((done ++ rest).map e)) := by
    unfold dAdd
    simp only [List.length_map, List.map_append]
    rw [if_pos (by omega)]
  have ha : dAdd (.int (done.length : Nat)) (.int 1) = some (.int ((done.length : Int) + 1)) := rfl
  have ec := xComp_typed (own := [4]) (e := xItems (xCall self (xCons (xOp2 dAdd (xSl (xVar 0) (xNo) (xSo (xVar 2))) (xSl (xVar 0) (xSo (xOp2 dAdd (xVar 2) (xC (.int 1)))) (xNo))) (xNil)))) (g := tName 4) (t := xYes) (f := b__law_orders_of_e1 self) (fr := ⟨[some (.dat (.list (xs.map e))), some (.dat (.list (F.map (eLs e)))), some (.dat (.int (done.length : Nat))), some (.dat (e x)), none], [], 0⟩)
    (eLs e) (fun _ => true) (fun o => eLs e (x :: o)) (fun o => ⟨[some (.dat (.list (xs.map e))), some (.dat (.list (F.map (eLs e)))), some (.dat (.int (done.length : Nat))), some (.dat (e x)), some (.dat (eLs e o))], [], 0⟩) G0 (by
      generalize G0.map (eLs e) = GG at *
      generalize (done ++ rest).map e = DR at *
      generalize F.map (eLs e) = FF at *
      simp [h1, h2, h3, ha, hs]) (by omega) (fun o ho => by simp) (fun _ => rfl) (fun _ _ => rfl) (fun o ho _ => by
      have := hG o ho
      have ea : dAdd (.list [e x]) (.list (o.map e)) = some (.list (e x :: o.map e)) := by
        unfold dAdd
        simp
        omega
      unfold b__law_orders_of_e1
      simp [ea])
  rw [List.filter_eq_self.mpr (fun _ _ => rfl)] at ec
  have ed : dAdd (.list (F.map (eLs e))) (.list (G0.map fun o => eLs e (x :: o))) = some (.list ((F ++ G0.map (x :: ·)).map (eLs e))) := by
    unfold dAdd
    simp only [List.length_map, List.map_append, List.map_map]
    rw [if_pos (by omega)]
    rfl
  unfold b__law_orders_of_l1
  generalize hX : xComp [4] _ _ _ _ = X at *
  generalize (F ++ G0.map (x :: ·)).map (eLs e) = RR at *
  generalize (G0.map fun o => eLs e (x :: o)) = GG at *
  generalize F.map (eLs e) = FF at *
  simp [ec, ed]
theorem t_orders : ∀ (n : Nat) (xs : List α), xs.length < n → xs.length ≤ 5 → ∃ oss : List (List α), m__law_orders_of n [.dat (.list (xs.map e))] [] = .ok (.dat (.list (oss.map (eLs e)))) [] ∧ (∀ o ∈ oss, o.Perm xs) ∧ oss.length ≤ 5 ^ xs.length
  | 0, _, h, _ => absurd h (Nat.not_lt_zero _)
  | n + 1, [], _, _ => by
    have q5 : eqOk (.list []) (.list []) = true := eqOk_l (by simp [PyData.depth, PyData.depthAll])
    have q6 : PyData.eqv (.list []) (.list []) = true := rfl
    refine ⟨[[]], ?_, fun o ho => by rw [List.mem_singleton.mp ho], by simp⟩
    unfold m__law_orders_of
    simp [b__law_orders_of, dEq, q5, q6]
  | n + 1, x0 :: xs0, h, hl => by
    obtain ⟨xs, hxs⟩ : ∃ xs, xs = x0 :: xs0 := ⟨_, rfl⟩
    rw [← hxs] at h hl ⊢
    obtain ⟨fr', el, v2, v3, F, rfl, hF, hFl⟩ := forA_typed (g := tNames [2, 3]) (b := b__law_orders_of_l1 (m__law_orders_of n)) (fun q : α × Nat => .tuple [.int (q.2 : Nat), e q.1]) (fun done fr => ∃ v2 v3 F, fr = ⟨[some (.dat (.list (xs.map e))), some (.dat (.list (F.map (eLs e)))), v2, v3, none], [], 0⟩ ∧ (∀ o ∈ F, o.Perm xs) ∧ F.length ≤ done.length * 5 ^ (xs.length - 1)) xs.zipIdx ⟨[some (.dat (.list (xs.map e))), some (.dat (.list [])), none, none, none], [], 0⟩ ⟨none, none, [], rfl, (fun o ho => nomatch ho), Nat.zero_le _⟩ fun done q rest fr he ⟨v2, v3, F, hfr, hF, hFl⟩ => by
      subst hfr
      have hq : xs.zipIdx[done.length]? = some q := by rw [he]; simp
      rw [List.getElem?_zipIdx] at hq
      obtain ⟨x, hx, e1⟩ := Option.map_eq_some_iff.mp hq
      rw [Nat.zero_add] at e1
      subst e1
      have hlt : done.length < xs.length := by
        rcases Nat.lt_or_ge done.length xs.length with z | z
        · exact z
        · rw [List.getElem?_eq_none z] at hx; cases hx
      have hxe : xs[done.length] = x := by rw [List.getElem?_eq_getElem hlt] at hx; exact Option.some.inj hx
      have hsp : xs = xs.take done.length ++ x :: xs.drop (done.length + 1) := by
        rw [← hxe, List.getElem_cons_drop, List.take_append_drop]
      have htl : (xs.take done.length).length = done.length := by rw [List.length_take]; omega
      have hrl : (xs.take done.length ++ xs.drop (done.length + 1)).length = xs.length - 1 := by rw [List.length_append, List.length_drop, htl]; omega
      obtain ⟨oss, i1, i2, i3⟩ := t_orders n (xs.take done.length ++ xs.drop (done.length + 1)) (by omega) (by omega)
      rw [hrl] at i3
      have p1 : 5 ^ (xs.length - 1) ≤ 5 ^ 4 := Nat.pow_le_pow_right (by decide) (by omega)
      have p2 : done.length * 5 ^ (xs.length - 1) ≤ 5 * 5 ^ 4 := Nat.mul_le_mul (by omega) p1
      have p3 : (5 : Nat) ^ 4 = 625 := by decide
      have st := or_step e (self := m__law_orders_of n) hsp hl (F := F) (G0 := oss) (v2 := some (.dat (.int (done.length : Nat)))) (v3 := some (.dat (e x))) i1 (fun o ho => by have := (i2 o ho).length_eq; omega) (by omega) (by rw [htl]) rfl
      refine ⟨⟨[some (.dat (.list (xs.map e))), some (.dat (.list (F.map (eLs e)))), some (.dat (.int (done.length : Nat))), some (.dat (e x)), none], [], 0⟩, _, by simp, .inl st, _, _, _, rfl, fun o ho => ?_, ?_⟩
      · rcases List.mem_append.mp ho with ho | ho
        · exact hF o ho
        · obtain ⟨o', ho', rfl⟩ := List.mem_map.mp ho
          have z := (i2 o' ho').cons x
          refine z.trans ?_
          conv => rhs; rw [hsp]
          exact List.perm_middle.symm
      · rw [List.length_append, List.length_map, List.length_append, List.length_singleton, Nat.add_mul, Nat.one_mul]
        omega
    rw [List.length_zipIdx] at hFl
    refine ⟨F, ?_, hF, ?_⟩
    · have q5 : eqOk (.list (xs.map e)) (.list []) = true := eqOk_r (by simp [PyData.depth, PyData.depthAll])
      have q6 : PyData.eqv (.list (xs.map e)) (.list []) = false := by rw [hxs]; rfl
      have en := enum_encK e xs
      rw [← en] at el
      unfold m__law_orders_of
      generalize F.map (eLs e) = FF at *
      generalize hEN : enumD (xs.map e) = EN at *
      generalize xs.map e = XX at *
      simp [b__law_orders_of, dEq, q5, q6, seqD, hEN, el]
    · have : 5 ^ xs.length = 5 ^ (xs.length - 1) * 5 := by
        rw [← Nat.pow_succ]
        congr 1
        rw [hxs]; simp
      rw [this]
      exact Nat.le_trans hFl (by rw [Nat.mul_comm]; exact Nat.mul_le_mul_left _ hl)
end
end G
namespace G
open PySem PySem.Spec PyProof.Rows L2
def kqB (l m : Lt Str) : Bool := l.nm == m.nm && (l.t == m.t && true)
theorem kq_iff {l m : Lt Str} : kqB l m = true ↔ keyT l = keyT m := by
  unfold kqB keyT
  simp
def ladd : List (Lt Str) → Lt Str → List (Lt Str)
  | [], l => [l]
  | m :: K, l => if kqB m l = true then ⟨m.nm, m.t, m.q + l.q⟩ :: K else m :: ladd K l
abbrev NdK (K : List (Lt Str)) : Prop := (K.map keyT).Nodup
theorem ladd_keys : ∀ {K : List (Lt Str)} {l : Lt Str} {k : Str × Int}, k ∈ (ladd K l).map keyT ↔ k ∈ K.map keyT ∨ k = keyT l
  | [], l, k => by simp [ladd]
  | m :: K, l, k => by
    unfold ladd
    cases q : kqB m l with
    | true =>
      have e := kq_iff.mp q
      simp only [if_true, List.map_cons, List.mem_cons]
      have e2 : keyT (⟨m.nm, m.t, m.q + l.q⟩ : Lt Str) = keyT m := rfl
      rw [e2]
      constructor
      · exact fun h => .inl h
      · rintro (h | h)
        · exact h
        · exact .inl (h.trans e.symm)
    | false =>
      simp only [Bool.false_eq_true, if_false, List.map_cons, List.mem_cons]
      rw [ladd_keys (K := K)]
      exact or_assoc.symm
theorem ladd_nd : ∀ {K : List (Lt Str)} {l : Lt Str}, NdK K → NdK (ladd K l)
  | [], l, _ => by simp [NdK, ladd]
  | m :: K, l, nd => by
    obtain ⟨n1, n2⟩ := List.nodup_cons.mp (show (keyT m :: K.map keyT).Nodup from nd)
    unfold ladd NdK
    cases q : kqB m l with
    | true => exact nd
    | false =>
      show (keyT m :: (ladd K l).map keyT).Nodup
      refine List.nodup_cons.mpr ⟨fun h => ?_, ladd_nd n2⟩
      rcases ladd_keys.mp h with h | h
      · exact n1 h
      · rw [kq_iff.mpr h] at q; cases q
theorem ladd_all {P : Lt Str → Prop} {l : Lt Str} (hl : P l) : ∀ {K : List (Lt Str)}, (∀ m ∈ K, P m) → (∀ m ∈ K, keyT m = keyT l → P ⟨m.nm, m.t, m.q + l.q⟩) → ∀ m ∈ ladd K l, P m
  | [], _, _, m, hm => by
    cases List.mem_singleton.mp hm
    exact hl
  | x :: K, h, h2, m, hm => by
    unfold ladd at hm
    cases q : kqB x l with
    | true =>
      rw [q, if_pos rfl] at hm
      rcases List.mem_cons.mp hm with rfl | hm
      · exact h2 x (List.mem_cons_self ..) (kq_iff.mp q)
      · exact h m (List.mem_cons_of_mem _ hm)
    | false =>
      rw [q, if_neg (by decide)] at hm
      rcases List.mem_cons.mp hm with rfl | hm
      · exact h _ (List.mem_cons_self ..)
      · exact ladd_all hl (fun m hm => h m (List.mem_cons_of_mem _ hm)) (fun m hm => h2 m (List.mem_cons_of_mem _ hm)) m hm
theorem avail_cons {ov : Lt Str → Bool} {l : Lt Str} {ls : List (Lt Str)} {n : Str} : avail ov (l :: ls) n = (if l.nm = n ∧ ov l = false then l.q else 0) + avail ov ls n := by
  unfold avail
  rw [List.filter_cons]
  cases q : ov l with
  | true => simp; grind
  | false => simp [sumOf_cons]
theorem avail_perm {ov : Lt Str → Bool} {n : Str} {xs ys : List (Lt Str)} (p : xs.Perm ys) : avail ov xs n = avail ov ys n := by
  induction p with
  | nil => rfl
  | cons x _ ih => rw [avail_cons, avail_cons, ih]
  | swap x y l => rw [avail_cons, avail_cons, avail_cons, avail_cons]; grind
  | trans _ _ h1 h2 => exact h1.trans h2
/-- what is known of a table while it grows -/
structure TbK (gs : List Gd) (D B : Nat) (K : List (Lt Str)) : Prop where
  nd : NdK K
  nm : ∀ l ∈ K, HasG gs l.nm
  q0 : ∀ l ∈ K, 0 < l.q
  q : ∀ l ∈ K, FrB D B l.q
theorem TbK.add {gs : List Gd} {D B M : Nat} {K : List (Lt Str)} {l : Lt Str} (hD : 0 < D) (h : TbK gs D B K) (h1 : HasG gs l.nm) (h2 : 0 < l.q) (h3 : FrB D M l.q) : TbK gs D (B + M) (ladd K l) :=
  ⟨ladd_nd h.nd, ladd_all (P := fun l => HasG gs l.nm) h1 h.nm (fun m hm _ => h.nm m hm), ladd_all (P := fun l => 0 < l.q) h2 h.q0 (fun m hm _ => by
    have := h.q0 m hm
    show 0 < m.q + l.q
    grind), ladd_all (P := fun l => FrB D (B + M) l.q) (h3.up (by omega)) (fun m hm => (h.q m hm).up (by omega)) (fun m hm _ => FrB.add hD (h.q m hm) h3)⟩
end G
namespace G
open PySem PySem.Spec PyProof.Rows L2
def b_law_l1 : Fr → SRes :=
  sApp 3 (xOp2 dAdd (xOp2 dAdd (xSl (xVar 4) (xNo) (xSo (xC (.int 3)))) (xTup (xCons (xCall m__law_pick (xCons (xVar 2) (xCons (xC (.int 9)) (xNil)))) (xNil)))) (xSl (xVar 4) (xSo (xC (.int 4))) (xNo)))
def b_law_l2 : Fr → SRes :=
  sFrzM 3 (sIf (xB (xOp2 dGt (xCall m_lasts (xCons (xVar 3) (xCons (xOp2 dAdd (xSl (xVar 6) (xNo) (xSo (xVar 9))) (xSl (xVar 6) (xSo (xOp2 dAdd (xVar 9) (xC (.int 1)))) (xNo))) (xCons (xVar 7) (xCons (xVar 5) (xNil)))))) (xVar 8))) (sRet (xC (.bool false))) (sNx))
def b_law_e1 : Fr → Res AV :=
  xTup (xCons (xVar 10) (xCons (xVar 15) (xCons (xTup (xCons (xOp2 dAdd (xC (.int 1)) (xCall m__law_pick (xCons (xVar 2) (xCons (xC (.int 12)) (xNil))))) (xCons (xC (.int 1)) (xNil)))) (xNil))))
def b_law_l3 : Fr → SRes :=
  sFrzM 3 (sIf (xB (xOp2 dGt (xCall m__law_lasts_by (xCons (xVar 3) (xCons (xVar 14) (xCons (xVar 12) (xCons (xVar 5) (xNil)))))) (xVar 13))) (sRet (xC (.bool false))) (sNx))
def b_law_l4 : Fr → SRes :=
  sKill [2, 3, 4, 5, 6, 7, 8, 9, 10, 11, 12, 13, 14] (sGc (sSeq (sSet 2 (xCallF m__law_deck (xCons (xVar 1) (xCons (xC (.int 54)) (xNil)))))
  (sSeq (sSet 3 (xNewL (xNil)))
  (sSeq (sFor (xItems (xCall m__law_goods (xCons (xVar 2) (xNil)))) (tName 4) (b_law_l1))
  (sKill [4] (sSeq (sPar 3 5 (xCons (xB1 dTuple (xCons (xVar 3) (xNil))) (xCons (xCall m__law_pick (xCons (xVar 2) (xCons (xC (.int 10)) (xNil)))) (xNil))))
  (sSeq (sFrzM 3 (sPar 6 7 (xCons (xCall m__law_store (xCons (xVar 2) (xCons (xVar 3) (xNil)))) (xCons (xCall m__law_wants (xCons (xVar 2) (xCons (xVar 3) (xNil)))) (xNil)))))
  (sSeq (sFrzM 3 (sSet 8 (xCall m_lasts (xCons (xVar 3) (xCons (xVar 6) (xCons (xVar 7) (xCons (xVar 5) (xNil))))))))
  (sSeq (sFrzM 3 (sIf (xOr (xNot (xB (xCall (m__law_same 8) (xCons (xVar 8) (xCons (xCall m__law_lasts (xCons (xVar 3) (xCons (xVar 6) (xCons (xVar 7) (xCons (xVar 5) (xNil)))))) (xNil)))))) (xB (xOp2 dNe (xCall m_lasts (xCons (xVar 3) (xCons (xVar 6) (xCons (xLst (xNil)) (xCons (xVar 5) (xNil)))))) (xC (.int 400))))) (sRet (xC (.bool false))) (sNx)))
  (sSeq (sFor (xRange1 (xB1 dLen (xCons (xVar 6) (xNil)))) (tName 9) (b_law_l2))
  (sKill [9] (sSeq (sSet 10 (xIx (xIx (xVar 3) (xC (.int 0))) (xC (.int 0))))
  (sSeq (sSet 11 (xComp [15] (xRange3 (xCall m__law_pick (xCons (xVar 2) (xCons (xC (.int 12)) (xNil)))) (xC (.int 14)) (xC (.int 3))) (tName 15) (xYes) (b_law_e1)))
  (sSeq (sSet 12 (xTup (xCons (xOp2 dAdd (xC (.int 1)) (xCall m__law_pick (xCons (xVar 2) (xCons (xC (.int 5)) (xNil))))) (xCons (xC (.int 1)) (xNil)))))
  (sSeq (sFrzM 3 (sSet 13 (xCall m_lasts (xCons (xVar 3) (xCons (xB1 dTuple (xCons (xVar 11) (xNil))) (xCons (xLst (xCons (xTup (xCons (xVar 10) (xCons (xVar 12) (xNil)))) (xNil))) (xCons (xVar 5) (xNil))))))))
  (sSeq (sFor (xItems (xCall (m__law_orders_of 12) (xCons (xVar 11) (xNil)))) (tName 14) (b_law_l3))
  (sKill [14] (sFrzM 3 (sIf (xB (xOp2 dNe (xCall m__law_lasts_by (xCons (xVar 3) (xCons (xVar 11) (xCons (xVar 12) (xCons (xVar 5) (xNil)))))) (xVar 13))) (sRet (xC (.bool false))) (sNx))))))))))))))))))))
def b_law : Fr → SRes :=
  sSeq (sFor (xItems (xSl (xOp2 dAdd (xLst (xCons (xC (.int 0)) (xNil))) (xVar 0)) (xNo) (xSo (xC (.int 8))))) (tName 1) (b_law_l4))
  (sKill [1, 2, 3, 4, 5, 6, 7, 8, 9, 10, 11, 12, 13, 14] (sRet (xC (.bool true))))
def m_law : AFun := mkFun 16 1 b_law
def tl54 : Fr → SRes := (sSeq (sFor (xRange1 (xB1 dLen (xCons (xVar 6) (xNil)))) (tName 9) (b_law_l2))
  (sKill [9] (sSeq (sSet 10 (xIx (xIx (xVar 3) (xC (.int 0))) (xC (.int 0))))
  (sSeq (sSet 11 (xComp [15] (xRange3 (xCall m__law_pick (xCons (xVar 2) (xCons (xC (.int 12)) (xNil)))) (xC (.int 14)) (xC (.int 3))) (tName 15) (xYes) (b_law_e1)))
  (sSeq (sSet 12 (xTup (xCons (xOp2 dAdd (xC (.int 1)) (xCall m__law_pick (xCons (xVar 2) (xCons (xC (.int 5)) (xNil))))) (xCons (xC (.int 1)) (xNil)))))
  (sSeq (sFrzM 3 (sSet 13 (xCall m_lasts (xCons (xVar 3) (xCons (xB1 dTuple (xCons (xVar 11) (xNil))) (xCons (xLst (xCons (xTup (xCons (xVar 10) (xCons (xVar 12) (xNil)))) (xNil))) (xCons (xVar 5) (xNil))))))))
  (sSeq (sFor (xItems (xCall (m__law_orders_of 12) (xCons (xVar 11) (xNil)))) (tName 14) (b_law_l3))
  (sKill [14] (sFrzM 3 (sIf (xB (xOp2 dNe (xCall m__law_lasts_by (xCons (xVar 3) (xCons (xVar 11) (xCons (xVar 12) (xCons (xVar 5) (xNil)))))) (xVar 13))) (sRet (xC (.bool false))) (sNx)))))))))))
def tlg (RG : Fr → Res (List PyData)) (l2 : Fr → SRes) (XC : Fr → Res AV) (PK ML MO MB : AFun) (l3 : Fr → SRes) : Fr → SRes := (sSeq (sFor RG (tName 9) (l2))
  (sKill [9] (sSeq (sSet 10 (xIx (xIx (xVar 3) (xC (.int 0))) (xC (.int 0))))
  (sSeq (sSet 11 XC)
  (sSeq (sSet 12 (xTup (xCons (xOp2 dAdd (xC (.int 1)) (xCall PK (xCons (xVar 2) (xCons (xC (.int 5)) (xNil))))) (xCons (xC (.int 1)) (xNil)))))
  (sSeq (sFrzM 3 (sSet 13 (xCall ML (xCons (xVar 3) (xCons (xB1 dTuple (xCons (xVar 11) (xNil))) (xCons (xLst (xCons (xTup (xCons (xVar 10) (xCons (xVar 12) (xNil)))) (xNil))) (xCons (xVar 5) (xNil))))))))
  (sSeq (sFor (xItems (xCall MO (xCons (xVar 11) (xNil)))) (tName 14) (l3))
  (sKill [14] (sFrzM 3 (sIf (xB (xOp2 dNe (xCall MB (xCons (xVar 3) (xCons (xVar 11) (xCons (xVar 12) (xCons (xVar 5) (xNil)))))) (xVar 13))) (sRet (xC (.bool false))) (sNx)))))))))))
theorem tlg_run {RG : Fr → Res (List PyData)} {l2 l3 : Fr → SRes} {XC : Fr → Res AV} {PK ML MO MB : AFun} {sv : AV} {ce day : Int} {GS LS NS told nm LO ND best g0 nd : PyData} {LS2 : PyData} {c5 c7 c8 RD OSS : List PyData} {C1 : Cell} {z9 z14 : Option AV}
    (r1 : RG ⟨[some sv, some (.dat (.int ce)), some (.cel 0), some (.dat GS), none, some (.dat (.int day)), some (.dat LS), some (.dat NS), some (.dat told), none, none, none, none, none, none, none], [.lst c5, C1], 0⟩ = .ok RD ⟨[some sv, some (.dat (.int ce)), some (.cel 0), some (.dat GS), none, some (.dat (.int day)), some (.dat LS), some (.dat NS), some (.dat told), none, none, none, none, none, none, none], [.lst c5, C1], 0⟩)
    (el2 : forA (tName 9) l2 RD ⟨[some sv, some (.dat (.int ce)), some (.cel 0), some (.dat GS), none, some (.dat (.int day)), some (.dat LS), some (.dat NS), some (.dat told), none, none, none, none, none, none, none], [.lst c5, C1], 0⟩ = .nx ⟨[some sv, some (.dat (.int ce)), some (.cel 0), some (.dat GS), none, some (.dat (.int day)), some (.dat LS), some (.dat NS), some (.dat told), z9, none, none, none, none, none, none], [.lst c5, C1], 0⟩)
    (ix0 : dIx GS (.int 0) = some g0) (ix1 : dIx g0 (.int 0) = some nm)
    (r2 : XC ⟨[some sv, some (.dat (.int ce)), some (.cel 0), some (.dat GS), none, some (.dat (.int day)), some (.dat LS), some (.dat NS), some (.dat told), none, some (.dat nm), none, none, none, none, none], [.lst c5, C1], 0⟩ = .ok (.dat LO) ⟨[some sv, some (.dat (.int ce)), some (.cel 0), some (.dat GS), none, some (.dat (.int day)), some (.dat LS), some (.dat NS), some (.dat told), none, some (.dat nm), none, none, none, none, none], [.lst c7, C1], 0⟩)
    (e8 : PK [.cel 0, .dat (.int 5)] [.lst c7] = .ok (.dat nd) [.lst c8]) {nd1 : PyData} (ea : dAdd (.int 1) nd = some nd1) (eN : ND = .tuple [nd1, .int 1]) {LL : List PyData} (eL : LO = .list LL) (eT : LS2 = .tuple LL)
    (eb : ML [.dat GS, .dat LS2, .dat (.list [.tuple [nm, ND]]), .dat (.int day)] [] = .ok (.dat best) [])
    (eo : MO [.dat LO] [] = .ok (.dat (.list OSS)) [])
    (el3 : forA (tName 14) l3 OSS ⟨[some sv, some (.dat (.int ce)), some (.cel 0), some (.dat GS), none, some (.dat (.int day)), some (.dat LS), some (.dat NS), some (.dat told), none, some (.dat nm), some (.dat LO), some (.dat ND), some (.dat best), none, none], [.lst c8, C1], 0⟩ = .nx ⟨[some sv, some (.dat (.int ce)), some (.cel 0), some (.dat GS), none, some (.dat (.int day)), some (.dat LS), some (.dat NS), some (.dat told), none, some (.dat nm), some (.dat LO), some (.dat ND), some (.dat best), z14, none], [.lst c8, C1], 0⟩)
    (ey : MB [.dat GS, .dat LO, .dat ND, .dat (.int day)] [] = .ok (.dat best) []) (hne : dNe best best = some (.bool false)) :
    tlg RG l2 XC PK ML MO MB l3 ⟨[some sv, some (.dat (.int ce)), some (.cel 0), some (.dat GS), none, some (.dat (.int day)), some (.dat LS), some (.dat NS), some (.dat told), none, none, none, none, none, none, none], [.lst c5, C1], 0⟩ = .nx ⟨[some sv, some (.dat (.int ce)), some (.cel 0), some (.dat GS), none, some (.dat (.int day)), some (.dat LS), some (.dat NS), some (.dat told), none, some (.dat nm), some (.dat LO), some (.dat ND), some (.dat best), none, none], [.lst c8, C1], 0⟩ := by
  subst eN eL eT
  unfold tlg
  simp [r1, el2, ix0, ix1, r2, e8, ea, eb, eo, el3, ey, hne]
theorem tl_g : tl54 = tlg (xRange1 (xB1 dLen (xCons (xVar 6) (xNil)))) b_law_l2 (xComp [15] (xRange3 (xCall m__law_pick (xCons (xVar 2) (xCons (xC (.int 12)) (xNil)))) (xC (.int 14)) (xC (.int 3))) (tName 15) (xYes) (b_law_e1)) m__law_pick m_lasts (m__law_orders_of 12) m__law_lasts_by b_law_l3 := rfl
theorem l4_cut : b_law_l4 =
  sKill [2, 3, 4, 5, 6, 7, 8, 9, 10, 11, 12, 13, 14] (sGc (sSeq (sSet 2 (xCallF m__law_deck (xCons (xVar 1) (xCons (xC (.int 54)) (xNil)))))
  (sSeq (sSet 3 (xNewL (xNil)))
  (sSeq (sFor (xItems (xCall m__law_goods (xCons (xVar 2) (xNil)))) (tName 4) (b_law_l1))
  (sKill [4] (sSeq (sPar 3 5 (xCons (xB1 dTuple (xCons (xVar 3) (xNil))) (xCons (xCall m__law_pick (xCons (xVar 2) (xCons (xC (.int 10)) (xNil)))) (xNil))))
  (sSeq (sFrzM 3 (sPar 6 7 (xCons (xCall m__law_store (xCons (xVar 2) (xCons (xVar 3) (xNil)))) (xCons (xCall m__law_wants (xCons (xVar 2) (xCons (xVar 3) (xNil)))) (xNil)))))
  (sSeq (sFrzM 3 (sSet 8 (xCall m_lasts (xCons (xVar 3) (xCons (xVar 6) (xCons (xVar 7) (xCons (xVar 5) (xNil))))))))
  (sSeq (sFrzM 3 (sIf (xOr (xNot (xB (xCall (m__law_same 8) (xCons (xVar 8) (xCons (xCall m__law_lasts (xCons (xVar 3) (xCons (xVar 6) (xCons (xVar 7) (xCons (xVar 5) (xNil)))))) (xNil)))))) (xB (xOp2 dNe (xCall m_lasts (xCons (xVar 3) (xCons (xVar 6) (xCons (xLst (xNil)) (xCons (xVar 5) (xNil)))))) (xC (.int 400))))) (sRet (xC (.bool false))) (sNx)))
  tl54))))))))) := rfl
theorem whole_R (v : Int) : eR (v : Rat) = .tuple [.int v, .int 1] := by
  unfold eR
  rw [Rat.num_intCast, Rat.den_intCast]
  rfl
theorem whole_ok {v : Int} (h1 : 1 ≤ v) (h2 : v ≤ 12) : FrB 420 40 (v : Rat) ∧ 0 < (v : Rat) := by
  have : v = 1 ∨ v = 2 ∨ v = 3 ∨ v = 4 ∨ v = 5 ∨ v = 6 ∨ v = 7 ∨ v = 8 ∨ v = 9 ∨ v = 10 ∨ v = 11 ∨ v = 12 := by omega
  rcases this with rfl | rfl | rfl | rfl | rfl | rfl | rfl | rfl | rfl | rfl | rfl | rfl <;> exact ⟨⟨by decide, by decide, by decide⟩, by decide⟩
theorem range3_ok {v : Int} (h1 : 0 ≤ v) (h2 : v < 12) : rgcOk v 14 3 = true ∧ ∃ ks : List Int, rangeCD v 3 (Builtin.Range.rangeSize v 14 3).toNat = ks.map PyData.int ∧ ks.length ≤ 5 ∧ ks.Pairwise (· < ·) := by
  have : v = 0 ∨ v = 1 ∨ v = 2 ∨ v = 3 ∨ v = 4 ∨ v = 5 ∨ v = 6 ∨ v = 7 ∨ v = 8 ∨ v = 9 ∨ v = 10 ∨ v = 11 := by omega
  rcases this with rfl | rfl | rfl | rfl | rfl | rfl | rfl | rfl | rfl | rfl | rfl | rfl
  · exact ⟨by decide, [0, 3, 6, 9, 12], by rfl, by decide, by decide⟩
  · exact ⟨by decide, [1, 4, 7, 10, 13], by rfl, by decide, by decide⟩
  · exact ⟨by decide, [2, 5, 8, 11], by rfl, by decide, by decide⟩
  · exact ⟨by decide, [3, 6, 9, 12], by rfl, by decide, by decide⟩
  · exact ⟨by decide, [4, 7, 10, 13], by rfl, by decide, by decide⟩
  · exact ⟨by decide, [5, 8, 11], by rfl, by decide, by decide⟩
  · exact ⟨by decide, [6, 9, 12], by rfl, by decide, by decide⟩
  · exact ⟨by decide, [7, 10, 13], by rfl, by decide, by decide⟩
  · exact ⟨by decide, [8, 11], by rfl, by decide, by decide⟩
  · exact ⟨by decide, [9, 12], by rfl, by decide, by decide⟩
  · exact ⟨by decide, [10, 13], by rfl, by decide, by decide⟩
  · exact ⟨by decide, [11], by rfl, by decide, by decide⟩
section
variable {sv : AV} {ce : Int}
abbrev fr54 (sv : AV) (ce : Int) (v3 v4 v5 v6 v7 v8 v9 v10 v11 v12 v13 v14 : Option AV) (cs : List Cell) : Fr := ⟨[some sv, some (.dat (.int ce)), some (.cel 0), v3, v4, v5, v6, v7, v8, v9, v10, v11, v12, v13, v14, none], cs, 0⟩
theorem l54_goods {n : Nat} {d : Dk} {gs : List Gd} (h : d.ok (n + 6)) (hl : gs.length ≤ 6) (hg : ∀ g ∈ gs, GdO g) : ∃ (v4 : Option AV) (d' : Dk) (gs' : List Gd), forA (tName 4) b_law_l1 (gs.map eG) (fr54 sv ce (some (.cel 1)) none none none none none none none none none none none [.lst d.l, .lst []]) = .nx (fr54 sv ce (some (.cel 1)) v4 none none none none none none none none none none [.lst d'.l, .lst (gs'.map eG)]) ∧ d'.ok n ∧ gs'.length = gs.length ∧ ∀ g ∈ gs', GdO g := by
  obtain ⟨fr', e, v4, d', gs', rfl, h1, h2, h3⟩ := forA_typed (g := tName 4) (b := b_law_l1) eG (fun done fr => ∃ (v4 : Option AV) (d' : Dk) (gs' : List Gd), fr = fr54 sv ce (some (.cel 1)) v4 none none none none none none none none none none [.lst d'.l, .lst (gs'.map eG)] ∧ d'.ok (n + (6 - done.length)) ∧ gs'.length = done.length ∧ ∀ g ∈ gs', GdO g) gs (fr54 sv ce (some (.cel 1)) none none none none none none none none none none none [.lst d.l, .lst []]) ⟨none, d, [], rfl, h, rfl, fun g hg => nomatch hg⟩ fun done g rest fr he ⟨v4, d', gs', hfr, hk, hlen, hgo⟩ => by
    subst hfr
    have hlt := congrArg List.length he
    rw [List.length_append, List.length_cons] at hlt
    obtain ⟨v, d2, e4, h4, y0, y1⟩ := s_pick (n := n + (6 - (done ++ [g]).length)) (k := 9) (d := d') (by rw [show n + (6 - (done ++ [g]).length) + 1 = n + (6 - done.length) by rw [List.length_append, List.length_singleton]; omega]; exact hk) (by decide) (by decide)
    have g0 := hg g (by rw [he]; simp)
    have s1 : dSl (eG g) none (some 3) = some (.tuple [.str g.nm, .int g.g, .int g.c]) := by
      show some (PyData.tuple (cutD _ none (some 3))) = _
      rw [cut_take _ _ (by decide)]; rfl
    have s2 : dSl (eG g) (some 4) none = some (.tuple [.tuple (g.ms.map .str)]) := by
      show some (PyData.tuple (cutD _ (some 4) none)) = _
      rw [cut_fromK _ _ (by decide)]; rfl
    have a1 : dAdd (.tuple [.str g.nm, .int g.g, .int g.c]) (.tuple [.int v]) = some (.tuple [.str g.nm, .int g.g, .int g.c, .int v]) := rfl
    have a2 : dAdd (.tuple [.str g.nm, .int g.g, .int g.c, .int v]) (.tuple [.tuple (g.ms.map .str)]) = some (eG { g with d := v }) := rfl
    refine ⟨fr54 sv ce (some (.cel 1)) (some (.dat (eG g))) none none none none none none none none none none [.lst d'.l, .lst (gs'.map eG)], fr54 sv ce (some (.cel 1)) (some (.dat (eG g))) none none none none none none none none none none [.lst d2.l, .lst ((gs' ++ [{ g with d := v }]).map eG)], rfl, .inl ?_, _, _, _, rfl, h4, by simp [hlen], fun g' hg' => ?_⟩
    · have hl2 : (gs'.map eG).length < 1000000 := by rw [List.length_map]; omega
      rw [List.map_append, List.map_singleton]
      generalize eG { g with d := v } = gv at *
      generalize gs'.map eG = GG at *
      generalize eG g = ge at *
      unfold b_law_l1 fr54
      simp [s1, s2, e4, a1, a2, hl2]
    · rcases List.mem_append.mp hg' with z | z
      · exact hgo g' z
      · rw [List.mem_singleton.mp z]
        exact ⟨g0.nm, g0.g0, g0.g1, g0.c0, g0.c1, y0, by show v ≤ 30; omega, g0.ms⟩
  exact ⟨v4, d', gs', e, h1.less (by omega), h2, h3⟩
theorem l54_lots {n : Nat} {d : Dk} {nm : Str} {v3 v4 v5 v6 v7 v8 v9 : Option AV} {cs0 : List Cell} {ks : List Int} (h : d.ok (n + 5)) (hl : ks.length ≤ 5) : ∃ (lots : List (Lt Str)) (d' : Dk),
    compA [15] (tName 15) xYes b_law_e1 [some sv, some (.dat (.int ce)), some (.cel 0), v3, v4, v5, v6, v7, v8, v9, some (.dat (.str nm)), none, none, none, none, none] 0 (ks.map PyData.int) [] (.lst d.l :: cs0) = some (lots.map eL, .lst (Dk.l d') :: cs0) ∧ d'.ok n ∧ lots.map keyT = ks.map (fun k => (nm, k)) ∧ ∀ l ∈ lots, l.nm = nm ∧ 0 < l.q ∧ FrB 420 40 l.q := by
  obtain ⟨acc, cs', ec, lots, d', rfl, rfl, hk, hm, hq⟩ := compA_all (own := [15]) (g := tName 15) (t := xYes) (f := b_law_e1) (vars := [some sv, some (.dat (.int ce)), some (.cel 0), v3, v4, v5, v6, v7, v8, v9, some (.dat (.str nm)), none, none, none, none, none]) (bs := 0) (fun done acc cs => ∃ (lots : List (Lt Str)) (d' : Dk), acc = lots.map eL ∧ cs = .lst (Dk.l d') :: cs0 ∧ d'.ok (n + (5 - done.length)) ∧ lots.map (fun l => ((l.nm, PyData.int l.t) : Str × PyData)) = done.map (fun k => (nm, k)) ∧ ∀ l ∈ lots, l.nm = nm ∧ 0 < l.q ∧ FrB 420 40 l.q) (ks.map PyData.int) (.lst d.l :: cs0) ⟨[], d, rfl, rfl, h, rfl, fun l hl => nomatch hl⟩ fun done y rest acc cs he ⟨lots, d', ea, ecs, hk, hm, hq⟩ => by
    subst ea ecs
    have hlt := congrArg List.length he
    rw [List.length_map, List.length_append, List.length_cons] at hlt
    obtain ⟨k, _, rfl⟩ : ∃ k ∈ ks, PyData.int k = y := List.mem_map.mp (by rw [he]; simp)
    obtain ⟨v, d2, e4, h4, y0, y1⟩ := s_pick (n := n + (5 - (done ++ [PyData.int k]).length)) (k := 12) (d := d') (by rw [show n + (5 - (done ++ [PyData.int k]).length) + 1 = n + (5 - done.length) by rw [List.length_append, List.length_singleton]; omega]; exact hk) (by decide) (by decide)
    obtain ⟨w1, w2⟩ := whole_ok (v := 1 + v) (by omega) (by omega)
    have ew := whole_R (1 + v)
    refine ⟨⟨[some sv, some (.dat (.int ce)), some (.cel 0), v3, v4, v5, v6, v7, v8, v9, some (.dat (.str nm)), none, none, none, none, some (.dat (.int k))], .lst d'.l :: cs0, 0⟩, true, ⟨[some sv, some (.dat (.int ce)), some (.cel 0), v3, v4, v5, v6, v7, v8, v9, some (.dat (.str nm)), none, none, none, none, some (.dat (.int k))], .lst d'.l :: cs0, 0⟩, by simp, rfl, (fun z => by cases z), fun _ => ?_⟩
    refine ⟨eL ⟨nm, k, ((1 + v : Int) : Rat)⟩, ⟨[some sv, some (.dat (.int ce)), some (.cel 0), v3, v4, v5, v6, v7, v8, v9, some (.dat (.str nm)), none, none, none, none, some (.dat (.int k))], .lst d2.l :: cs0, 0⟩, ?_, lots ++ [⟨nm, k, ((1 + v : Int) : Rat)⟩], d2, by simp, rfl, h4, by simp [hm], fun l hl => ?_⟩
    · show _ = Res.ok (AV.dat (.tuple [.str nm, .int k, eR ((1 + v : Int) : Rat)])) _
      rw [ew]
      unfold b_law_e1
      simp [e4, dAdd]
    · rcases List.mem_append.mp hl with z | z
      · exact hq l z
      · rw [List.mem_singleton.mp z]
        exact ⟨rfl, w2, w1⟩
  refine ⟨lots, d', ec, hk.less (by omega), ?_, hq⟩
  have hm2 : lots.map (fun l => ((l.nm, PyData.int l.t) : Str × PyData)) = ks.map (fun k => (nm, PyData.int k)) := by rw [hm, List.map_map]; rfl
  clear hm ec hk hl
  induction lots generalizing ks with
  | nil => cases ks with
    | nil => rfl
    | cons k ks => cases hm2
  | cons l lots ih =>
    cases ks with
    | nil => cases hm2
    | cons k ks =>
      rw [List.map_cons, List.map_cons] at hm2
      injection hm2 with e1 e2
      rw [List.map_cons, List.map_cons, ih (fun l hl => hq l (List.mem_cons_of_mem _ hl)) e2]
      injection e1 with e3 e4
      injection e4 with e4
      congr 1
      show (l.nm, l.t) = _
      rw [e3, e4]
variable {gs : List Gd} {day : Int} {ls : List (Lt Str)} {ns : List (Str × Rat)}
theorem l54_less (hl : StO gs 420 40 ls) (hr : RiseK (ls.map keyT)) (hn : NdO 420 40 ns) {v4 v9 v10 v11 v12 v13 v14 : Option AV} {cs : List Cell} : ∃ w9, forA (tName 9) b_law_l2 (rangeD 0 ls.length) (fr54 sv ce (some (.dat (.tuple (gs.map eG)))) v4 (some (.dat (.int day))) (some (.dat (.tuple (ls.map eL)))) (some (.dat (.list (ns.map eN)))) (some (.dat (.int (lastN gs ns 400 ls day)))) v9 v10 v11 v12 v13 v14 cs) =
    .nx (fr54 sv ce (some (.dat (.tuple (gs.map eG)))) v4 (some (.dat (.int day))) (some (.dat (.tuple (ls.map eL)))) (some (.dat (.list (ns.map eN)))) (some (.dat (.int (lastN gs ns 400 ls day)))) w9 v10 v11 v12 v13 v14 cs) := by
  obtain ⟨fr', e, w9, rfl⟩ := forA_typed (g := tName 9) (b := b_law_l2) (fun i : Nat => PyData.int ((0 : Int) + (i : Nat))) (fun done fr => ∃ w9, fr = fr54 sv ce (some (.dat (.tuple (gs.map eG)))) v4 (some (.dat (.int day))) (some (.dat (.tuple (ls.map eL)))) (some (.dat (.list (ns.map eN)))) (some (.dat (.int (lastN gs ns 400 ls day)))) w9 v10 v11 v12 v13 v14 cs) (List.range ls.length) (fr54 sv ce (some (.dat (.tuple (gs.map eG)))) v4 (some (.dat (.int day))) (some (.dat (.tuple (ls.map eL)))) (some (.dat (.list (ns.map eN)))) (some (.dat (.int (lastN gs ns 400 ls day)))) v9 v10 v11 v12 v13 v14 cs) ⟨v9, rfl⟩ fun done i rest fr he ⟨w9, hfr⟩ => by
    subst hfr
    have hi : i < ls.length := List.mem_range.mp (by rw [he]; simp)
    have hlen := hl.len
    have hsub : List.Sublist (ls.take i ++ ls.drop (i + 1)) ls := by
      conv => rhs; rw [← List.take_append_drop i ls]
      exact List.Sublist.append (List.Sublist.refl _) (by rw [← List.getElem_cons_drop hi]; exact List.sublist_cons_self _ _)
    have hst : StO gs 420 40 (ls.take i ++ ls.drop (i + 1)) := ⟨fun l h => hl.nm l (hsub.subset h), fun l h => hl.q0 l (hsub.subset h), fun l h => hl.q l (hsub.subset h), by have := hsub.length_le; omega⟩
    have et := t_lasts (day := day) hst hn
    have hle := last_le (gs := gs) hn.q0 400 (ls.take i ++ ls.drop (i + 1)) ls day hr hl.q0 hst.q0 fun x n _ => by
      have e1 : ls = ls.take i ++ ls[i] :: ls.drop (i + 1) := by rw [List.getElem_cons_drop, List.take_append_drop]
      have q0 := hl.q0 ls[i] (List.getElem_mem hi)
      have e2 : avail (ovG gs x) ls n = avail (ovG gs x) (ls.take i ++ ls[i] :: ls.drop (i + 1)) n := by rw [← e1]
      rw [e2, avapp, avapp, avc]
      split <;> grind
    have h1 : dSl (.tuple (ls.map eL)) none (some ((0 : Int) + (i : Nat))) = some (.tuple ((ls.take i).map eL)) := by
      show some (PyData.tuple (cutD (ls.map eL) none (some ((0 : Int) + (i : Nat))))) = _
      rw [cut_take _ _ (by omega), List.map_take]
      simp
    have h2 : dSl (.tuple (ls.map eL)) (some ((0 : Int) + (i : Nat) + 1)) none = some (.tuple ((ls.drop (i + 1)).map eL)) := by
      show some (PyData.tuple (cutD (ls.map eL) (some ((0 : Int) + (i : Nat) + 1)) none)) = _
      rw [cut_fromK _ _ (by omega), show ((0 : Int) + (i : Nat) + 1).toNat = i + 1 by omega, List.map_drop]
    have h3 : dAdd (.tuple ((ls.take i).map eL)) (.tuple ((ls.drop (i + 1)).map eL)) = some (.tuple ((ls.take i ++ ls.drop (i + 1)).map eL)) := by
      unfold dAdd
      simp only [List.length_map, List.map_append]
      rw [if_pos (by rw [List.length_take, List.length_drop]; omega)]
    have ha : dAdd (.int ((0 : Int) + (i : Nat))) (.int 1) = some (.int ((0 : Int) + (i : Nat) + 1)) := rfl
    have hg : dGt (.int (lastN gs ns 400 (ls.take i ++ ls.drop (i + 1)) day : Nat)) (.int (lastN gs ns 400 ls day : Nat)) = some (.bool false) := by
      show some (PyData.bool (decide _)) = _
      congr 2
      exact decide_eq_false (by omega)
    refine ⟨fr54 sv ce (some (.dat (.tuple (gs.map eG)))) v4 (some (.dat (.int day))) (some (.dat (.tuple (ls.map eL)))) (some (.dat (.list (ns.map eN)))) (some (.dat (.int (lastN gs ns 400 ls day)))) (some (.dat (.int ((0 : Int) + (i : Nat))))) v10 v11 v12 v13 v14 cs, fr54 sv ce (some (.dat (.tuple (gs.map eG)))) v4 (some (.dat (.int day))) (some (.dat (.tuple (ls.map eL)))) (some (.dat (.list (ns.map eN)))) (some (.dat (.int (lastN gs ns 400 ls day)))) (some (.dat (.int ((0 : Int) + (i : Nat))))) v10 v11 v12 v13 v14 cs, rfl, .inl ?_, _, rfl⟩
    generalize (ls.take i ++ ls.drop (i + 1)).map eL = A1 at *
    generalize (ls.take i).map eL = A2 at *
    generalize (ls.drop (i + 1)).map eL = A3 at *
    generalize ls.map eL = A4 at *
    generalize gs.map eG = A5 at *
    generalize ns.map eN = A6 at *
    generalize ((0 : Int) + (i : Nat)) = iv at *
    unfold b_law_l2 fr54
    simp [h1, h2, h3, ha, et, hg]
  exact ⟨w9, e⟩
theorem l54_orders (hg6 : gs.length ≤ 6) {lots : List (Lt Str)} {nm : Str} {need : Rat} (hgn : HasG gs nm) (hl : ∀ l ∈ lots, l.nm = nm ∧ 0 < l.q ∧ FrB 420 40 l.q) (hr : RiseK (lots.map keyT)) (h0 : 0 < need) (hb : FrB 420 40 need) (h5 : lots.length ≤ 5) {oss : List (List (Lt Str))} (hp : ∀ o ∈ oss, o.Perm lots) {v4 v6 v7 v8 v9 v10 v11 v14 : Option AV} {cs : List Cell} :
    ∃ w14, forA (tName 14) b_law_l3 (oss.map (eLs eL)) (fr54 sv ce (some (.dat (.tuple (gs.map eG)))) v4 (some (.dat (.int day))) v6 v7 v8 v9 v10 v11 (some (.dat (eR need))) (some (.dat (.int (lastN gs [(nm, need)] 400 lots day)))) v14 cs) =
      .nx (fr54 sv ce (some (.dat (.tuple (gs.map eG)))) v4 (some (.dat (.int day))) v6 v7 v8 v9 v10 v11 (some (.dat (eR need))) (some (.dat (.int (lastN gs [(nm, need)] 400 lots day)))) w14 cs) := by
  obtain ⟨fr', e, w14, rfl⟩ := forA_typed (g := tName 14) (b := b_law_l3) (eLs eL) (fun done fr => ∃ w14, fr = fr54 sv ce (some (.dat (.tuple (gs.map eG)))) v4 (some (.dat (.int day))) v6 v7 v8 v9 v10 v11 (some (.dat (eR need))) (some (.dat (.int (lastN gs [(nm, need)] 400 lots day)))) w14 cs) oss (fr54 sv ce (some (.dat (.tuple (gs.map eG)))) v4 (some (.dat (.int day))) v6 v7 v8 v9 v10 v11 (some (.dat (eR need))) (some (.dat (.int (lastN gs [(nm, need)] 400 lots day)))) v14 cs) ⟨v14, rfl⟩ fun done o rest fr he ⟨w14, hfr⟩ => by
    subst hfr
    have pm := hp o (by rw [he]; simp)
    have ho : ∀ l ∈ o, l.nm = nm ∧ 0 < l.q ∧ FrB 420 40 l.q := fun l h => hl l (pm.mem_iff.mp h)
    have et := t_lasts_by (gs := gs) (day := day) (need := need) (by omega) hb (ls := o) (fun l h => ⟨by rw [(ho l h).1]; exact hgn, (ho l h).2.2⟩) (by rw [pm.length_eq]; omega)
    have eq1 := last_by (gs := gs) (n := nm) (need := need) (Rat.le_of_lt h0) 400 (o.map fun l => (l, l.q)) day (fun p hp => by
      obtain ⟨l, hl2, rfl⟩ := List.mem_map.mp hp
      exact ⟨(ho l hl2).1, (ho l hl2).2.2⟩) hb
    rw [liveR_self fun l h => (ho l h).2.1] at eq1
    have hle := last_le (gs := gs) (ns := [(nm, need)]) (fun q hq => by rw [List.mem_singleton.mp hq]; exact h0) 400 o lots day hr (fun l h => (hl l h).2.1) (fun l h => (ho l h).2.1) fun x n _ => by rw [avail_perm pm]; exact Rat.le_refl
    rw [eq1] at et
    have hg : dGt (.int (lastN gs [(nm, need)] 400 o day : Nat)) (.int (lastN gs [(nm, need)] 400 lots day : Nat)) = some (.bool false) := by
      show some (PyData.bool (decide _)) = _
      congr 2
      exact decide_eq_false (by omega)
    refine ⟨fr54 sv ce (some (.dat (.tuple (gs.map eG)))) v4 (some (.dat (.int day))) v6 v7 v8 v9 v10 v11 (some (.dat (eR need))) (some (.dat (.int (lastN gs [(nm, need)] 400 lots day)))) (some (.dat (eLs eL o))) cs, fr54 sv ce (some (.dat (.tuple (gs.map eG)))) v4 (some (.dat (.int day))) v6 v7 v8 v9 v10 v11 (some (.dat (eR need))) (some (.dat (.int (lastN gs [(nm, need)] 400 lots day)))) (some (.dat (eLs eL o))) cs, rfl, .inl ?_, _, rfl⟩
    unfold eLs
    generalize o.map eL = A1 at *
    generalize gs.map eG = A5 at *
    generalize eR need = A6 at *
    unfold b_law_l3 fr54
    simp [et, hg]
  exact ⟨w14, e⟩
theorem rg1_of {fr : Fr} {f : Fr → Res AV} {c : Int} {N : Nat} (hc : c.toNat = N) (h : f fr = .ok (.dat (.int c)) fr) (hn2 : rgOk c = true) : xRange1 f fr = .ok (rangeD 0 N) fr := by
  subst hc
  simp [h, hn2]
theorem rg_n {N : Nat} (h : N ≤ 1000) : rgOk ((N : Nat) : Int) = true := by
  have : ∀ c : Int, 0 ≤ c → c ≤ 1000 → rgOk c = true := fun c h0 h1 => decide_eq_true (by omega)
  exact this _ (by omega) (by omega)
theorem ne_selfI (k : Int) : dNe (.int k) (.int k) = some (.bool false) := by
  unfold dNe
  rw [if_pos (eqOk_int k _)]
  show some (PyData.bool (!decide (k = k))) = _
  simp
theorem s54_turn (hsv : ∀ vs, maxcel (some sv :: vs) = maxcel vs) {v2 v3 v4 v5 v6 v7 v8 v9 v10 v11 v12 v13 v14 : Option AV} {cs : List Cell} : ∃ (w2 w3 w4 w5 w6 w7 w8 w9 w10 w11 w12 w13 w14 : Option AV) (cs' : List Cell), b_law_l4 ⟨[some sv, some (.dat (.int ce)), v2, v3, v4, v5, v6, v7, v8, v9, v10, v11, v12, v13, v14, none], cs, 0⟩ = .nx ⟨[some sv, some (.dat (.int ce)), w2, w3, w4, w5, w6, w7, w8, w9, w10, w11, w12, w13, w14, none], cs', 0⟩ := by
  obtain ⟨d0, e0, h0⟩ := s_deck ce 54 (by decide) (by decide)
  obtain ⟨gs0, d1, e1, h1, hg0, hg2, hg6, _⟩ := t_goods (n := 100) (h0.less (by decide))
  obtain ⟨w4, d2, gs, el1, h2, hgl, hg⟩ := l54_goods (sv := sv) (ce := ce) (n := 90) (d := d1) (h1.less (by decide)) hg6 hg0
  obtain ⟨day, d3, e3, h3, y0, y1⟩ := s_pick (n := 80) (k := 10) (d := d2) (h2.less (by decide)) (by decide) (by decide)
  obtain ⟨ls, d4, e4, h4, hl, hr, hl8⟩ := t_store (n := 40) (gs := gs) (h3.less (by decide)) (by omega) (by omega)
  obtain ⟨ns, d5, e5, h5, hn, hng, hn3, _⟩ := t_wants (n := 30) (gs := gs) (h4.less (by decide)) (by omega) (by omega)
  have hst : StO gs 420 40 ls := ⟨fun l h => (hl l h).nm, fun l h => (hl l h).q0, fun l h => (hl l h).q, by omega⟩
  have et := t_lasts (day := day) hst hn
  have ell := t_llasts (day := day) (by omega) hst hr hn
  have esm := s_same (m := 8) (n := 0) (Pl.int (i := (lastN gs ns 400 ls day : Nat))) (by decide)
  have hn0 : NdO 420 40 [] := ⟨(fun q h => nomatch h), (fun q h => nomatch h), by decide, .nil⟩
  have en := t_lasts (day := day) hst hn0
  rw [last_nil] at en
  have hg1 : ∃ g0 gt, gs = g0 :: gt := by
    cases gs with
    | nil => rw [List.length_nil] at hgl; omega
    | cons g0 gt => exact ⟨g0, gt, rfl⟩
  obtain ⟨g0, gt, egs⟩ := hg1
  have hgn : HasG gs g0.nm := ⟨g0, by rw [egs]; exact List.mem_cons_self .., rfl⟩
  have ix0 : dIx (.tuple (gs.map eG)) (.int 0) = some (eG g0) := by rw [egs]; simp [dIx, atI, ixN]
  have ix1 : dIx (eG g0) (.int 0) = some (.str g0.nm) := by simp [eG, dIx, atI, ixN]
  obtain ⟨st, d6, e6, h6, st0, st1⟩ := s_pick (n := 20) (k := 12) (d := d5) (h5.less (by decide)) (by decide) (by decide)
  obtain ⟨rg, ks, erk, hk5, hks⟩ := range3_ok st0 st1
  obtain ⟨lots, d7, ec, h7, hkey, hlots⟩ := l54_lots (sv := sv) (ce := ce) (n := 10) (d := d6) (nm := g0.nm) (v3 := some (.dat (.tuple (gs.map eG)))) (v4 := none) (v5 := some (.dat (.int day))) (v6 := some (.dat (.tuple (ls.map eL)))) (v7 := some (.dat (.list (ns.map eN)))) (v8 := some (.dat (.int (lastN gs ns 400 ls day)))) (v9 := none) (cs0 := [.lst (gs.map eG)]) (ks := ks) (h6.less (by decide)) hk5
  have hll : lots.length = ks.length := by have := congrArg List.length hkey; simpa using this
  have hrl : RiseK (lots.map keyT) := by
    rw [hkey, RiseK, List.pairwise_map]
    exact hks.imp fun h => by rw [keyLt_t]; exact decide_eq_true h
  obtain ⟨nd, d8, e8, h8, nd0, nd1⟩ := s_pick (n := 5) (k := 5) (d := d7) (h7.less (by decide)) (by decide) (by decide)
  obtain ⟨w1, w2⟩ := whole_ok (v := 1 + nd) (by omega) (by omega)
  have hst2 : StO gs 420 40 lots := ⟨fun l h => by rw [(hlots l h).1]; exact hgn, fun l h => (hlots l h).2.1, fun l h => (hlots l h).2.2, by omega⟩
  have hn2 : NdO 420 40 [(g0.nm, ((1 + nd : Int) : Rat))] := ⟨fun q h => by rw [List.mem_singleton.mp h]; exact w2, fun q h => by rw [List.mem_singleton.mp h]; exact w1, by simp, by simp⟩
  have eb := t_lasts (day := day) hst2 hn2
  obtain ⟨oss, eo, hop, hol⟩ := t_orders eL 12 lots (by omega) (by omega)
  obtain ⟨z9, el2⟩ := l54_less (sv := sv) (ce := ce) (day := day) hst hr hn (v4 := none) (v9 := none) (v10 := none) (v11 := none) (v12 := none) (v13 := none) (v14 := none) (cs := [.lst d5.l, .lst (gs.map eG)])
  obtain ⟨z14, el3⟩ := l54_orders (sv := sv) (ce := ce) (day := day) (by omega) hgn hlots hrl w2 w1 (by omega) hop (v4 := none) (v6 := some (.dat (.tuple (ls.map eL)))) (v7 := some (.dat (.list (ns.map eN)))) (v8 := some (.dat (.int (lastN gs ns 400 ls day)))) (v9 := none) (v10 := some (.dat (.str g0.nm))) (v11 := some (.dat (.list (lots.map eL)))) (v14 := none) (cs := [.lst d8.l, .lst (gs.map eG)])
  have ey := t_lasts_by (gs := gs) (day := day) (need := ((1 + nd : Int) : Rat)) (by omega) w1 (ls := lots) (fun l h => ⟨hst2.nm l h, hst2.q l h⟩) (by omega)
  have eq1 := last_by (gs := gs) (n := g0.nm) (need := ((1 + nd : Int) : Rat)) (Rat.le_of_lt w2) 400 (lots.map fun l => (l, l.q)) day (fun p hp => by
      obtain ⟨l, hl2, rfl⟩ := List.mem_map.mp hp
      exact ⟨(hlots l hl2).1, (hlots l hl2).2.2⟩) w1
  rw [liveR_self fun l h => (hlots l h).2.1] at eq1
  rw [eq1] at ey
  have hne1 := ne_selfI (lastN gs [(g0.nm, ((1 + nd : Int) : Rat))] 400 lots day : Nat)
  have hne2 := ne_selfI 400
  have n1 : noLs d0.l = true := rfl
  have rgk := rg_n (N := ls.length) (by omega)
  have hks2 : (ks.map PyData.int).length ≤ 1000000 := by rw [List.length_map]; omega
  have hlm : (ls.map eL).length = ls.length := List.length_map _
  rw [List.map_singleton] at eb
  unfold eN at eb
  rw [whole_R] at eb el3 ey
  have ea : dAdd (.int 1) (.int nd) = some (.int (1 + nd)) := rfl
  unfold fr54 at el1 el2 el3
  refine ⟨some (.cel 0), some (.dat (.tuple (gs.map eG))), none, some (.dat (.int day)), some (.dat (.tuple (ls.map eL))), some (.dat (.list (ns.map eN))), some (.dat (.int (lastN gs ns 400 ls day))), none, some (.dat (.str g0.nm)), some (.dat (.list (lots.map eL))), some (.dat (.tuple [.int (1 + nd), .int 1])), some (.dat (.int (lastN gs [(g0.nm, ((1 + nd : Int) : Rat))] 400 lots day))), none, [.lst d8.l, .lst (gs.map eG)], ?_⟩
  simp only [List.map_nil] at en
  generalize lastN gs [(g0.nm, ((1 + nd : Int) : Rat))] 400 lots day = best at *
  generalize lastN gs ns 400 ls day = told at *
  generalize oss.map (eLs eL) = OSS at *
  generalize lots.map eL = LOTS at *
  generalize ls.map eL = LS at *
  generalize ns.map eN = NS at *
  generalize gs0.map eG = GS0 at *
  generalize gs.map eG = GS at *
  generalize ks.map PyData.int = KS at *
  simp only at eb
  have r1 : xRange1 (xB1 dLen (xCons (xVar 6) (xNil))) ⟨[some sv, some (.dat (.int ce)), some (.cel 0), some (.dat (.tuple GS)), none, some (.dat (.int day)), some (.dat (.tuple LS)), some (.dat (.list NS)), some (.dat (.int (told : Nat))), none, none, none, none, none, none, none], [.lst d5.l, .lst GS], 0⟩ = .ok (rangeD 0 ls.length) ⟨[some sv, some (.dat (.int ce)), some (.cel 0), some (.dat (.tuple GS)), none, some (.dat (.int day)), some (.dat (.tuple LS)), some (.dat (.list NS)), some (.dat (.int (told : Nat))), none, none, none, none, none, none, none], [.lst d5.l, .lst GS], 0⟩ := by
    exact rg1_of (Int.toNat_natCast ls.length) (by simp [hlm]) rgk
  have r2 : xComp [15] (xRange3 (xCall m__law_pick (xCons (xVar 2) (xCons (xC (.int 12)) (xNil)))) (xC (.int 14)) (xC (.int 3))) (tName 15) (xYes) (b_law_e1) ⟨[some sv, some (.dat (.int ce)), some (.cel 0), some (.dat (.tuple GS)), none, some (.dat (.int day)), some (.dat (.tuple LS)), some (.dat (.list NS)), some (.dat (.int (told : Nat))), none, some (.dat (.str g0.nm)), none, none, none, none, none], [.lst d5.l, .lst GS], 0⟩ = .ok (.dat (.list LOTS)) ⟨[some sv, some (.dat (.int ce)), some (.cel 0), some (.dat (.tuple GS)), none, some (.dat (.int day)), some (.dat (.tuple LS)), some (.dat (.list NS)), some (.dat (.int (told : Nat))), none, some (.dat (.str g0.nm)), none, none, none, none, none], [.lst d7.l, .lst GS], 0⟩ := by
    unfold xComp
    simp [e6, rg, erk, hks2, ec]
  obtain ⟨K4, hK, en3⟩ : ∃ K4 : Int, dNe (.int K4) (.int 400) = some (.bool false) ∧ m_lasts [.dat (.tuple GS), .dat (.tuple LS), .dat (.list []), .dat (.int day)] [] = .ok (.dat (.int K4)) [] := ⟨400, hne2, en⟩
  clear rgk rg erk en hne2
  rw [l4_cut]
  have z2 : tl54 ⟨[some sv, some (.dat (.int ce)), some (.cel 0), some (.dat (.tuple GS)), none, some (.dat (.int day)), some (.dat (.tuple LS)), some (.dat (.list NS)), some (.dat (.int (told : Nat))), none, none, none, none, none, none, none], [.lst d5.l, .lst GS], 0⟩ = .nx ⟨[some sv, some (.dat (.int ce)), some (.cel 0), some (.dat (.tuple GS)), none, some (.dat (.int day)), some (.dat (.tuple LS)), some (.dat (.list NS)), some (.dat (.int (told : Nat))), none, some (.dat (.str g0.nm)), some (.dat (.list LOTS)), some (.dat (.tuple [.int (1 + nd), .int 1])), some (.dat (.int (best : Nat))), none, none], [.lst d8.l, .lst GS], 0⟩ := by
    rw [tl_g]
    exact tlg_run r1 el2 ix0 ix1 r2 e8 ea rfl rfl rfl eb eo el3 ey hne1
  generalize tl54 = TL at *
  generalize m_lasts = ML at *
  generalize m__law_lasts = MB at *
  simp [hsv, noL, e0, n1, e1, el1, e3, e4, e5, et, ell, esm, en3, hK, z2]
theorem k54_all {v0 : AV} {ns : List Int} (h : ns.length ≤ 63) (hv : v0 = .scr ns ∨ v0 = .dat (.list (ns.map PyData.int))) : m_law [v0] [] = .ok (.dat (.bool true)) [] := by
  have key := forA_all (g := tName 1) (b := b_law_l4) (fun done fr => ∃ v1 v2 v3 v4 v5 v6 v7 v8 v9 v10 v11 v12 v13 v14 cs, fr = ⟨[some v0, v1, v2, v3, v4, v5, v6, v7, v8, v9, v10, v11, v12, v13, v14, none], cs, 0⟩) (((.int 0) :: ns.map PyData.int).take 8) ⟨[some v0, none, none, none, none, none, none, none, none, none, none, none, none, none, none, none], [], 0⟩ ⟨none, none, none, none, none, none, none, none, none, none, none, none, none, none, [], rfl⟩ ?_
  · obtain ⟨fr', e, v1, v2, v3, v4, v5, v6, v7, v8, v9, v10, v11, v12, v13, v14, cs, rfl⟩ := key
    have hl : 1 + ns.length ≤ 1000000 := by omega
    have ct := cut_take ((.int 0) :: ns.map PyData.int) 8 (by decide)
    unfold m_law b_law
    generalize b_law_l4 = BL at *
    rcases hv with rfl | rfl
    · simp [dAdd, hl, dSl, ct]
      simp at e
      simp [e]
    · simp [dAdd, hl, dSl, ct]
      simp at e
      simp [e]
  · rintro done y rest fr hy ⟨v1, v2, v3, v4, v5, v6, v7, v8, v9, v10, v11, v12, v13, v14, cs, rfl⟩
    have hm : y ∈ ((PyData.int 0) :: ns.map PyData.int) := List.mem_of_mem_take (hy ▸ List.mem_append_right _ (List.mem_cons_self ..))
    obtain ⟨i, rfl⟩ : ∃ i, y = .int i := by
      rcases List.mem_cons.mp hm with rfl | hm
      · exact ⟨_, rfl⟩
      · obtain ⟨i, _, rfl⟩ := List.mem_map.mp hm
        exact ⟨i, rfl⟩
    obtain ⟨w2, w3, w4, w5, w6, w7, w8, w9, w10, w11, w12, w13, w14, cs', e⟩ := s54_turn (sv := v0) (by rcases hv with rfl | rfl <;> (intro vs; simp)) (ce := i) (v2 := v2) (v3 := v3) (v4 := v4) (v5 := v5) (v6 := v6) (v7 := v7) (v8 := v8) (v9 := v9) (v10 := v10) (v11 := v11) (v12 := v12) (v13 := v13) (v14 := v14) (cs := cs)
    exact ⟨_, _, rfl, .inl e, _, w2, w3, w4, w5, w6, w7, w8, w9, w10, w11, w12, w13, w14, cs', rfl⟩
theorem s_law (ns : List Int) (h : ns.length ≤ 63) : m_law [.scr ns] [] = .ok (.dat (.bool true)) [] := k54_all h (.inl rfl)
theorem s_law2 (ns : List Int) (h : ns.length ≤ 63) : m_law [.dat (.list (ns.map .int))] [] = .ok (.dat (.bool true)) [] := k54_all h (.inr rfl)
end
end G
namespace G
open PySem PySem.Spec PyProof.Rows L2
abbrev PWg : Program := PySem.Challenge.pw_galleyward_k54_whole_how_long_stores_las
def top (i : Nat) : Stmt := PWg.main.body.getD i (.Pass ⟨0, 0, 0, 0⟩)
section
variable {P : Program} {w : World} {K : PySem.W.Frag} {mg : Str → Option Value} {base : Heap}
def N_divisor : List Str := ["one", "other"]
abbrev sc_divisor : Scope := L2.defScope (top 5)
theorem fs_divisor : FnScope N_divisor ["one", "other"] sc_divisor := ⟨rfl, rfl, rfl, by decide +kernel, rfl, by decide +kernel, by decide +kernel⟩
theorem d_divisor {f : Addr} {fd : FuncData} (F : FunD K "divisor" "divisor" (L2.defArgs (top 5)) (L2.defBody (top 5)) sc_divisor [] [] f fd) (hm : mg "divisor" = some (.ref f)) (h_abs : mg "abs" = none) : DefF P w K mg base CX0 C0 1 "divisor" 2 m_divisor := by
  have G : FnOk P w K mg base CX0 (0 + 1) f fd ["one", "other"] (spF ⟨P, w, K⟩ C0 m_divisor 2) :=
    fn_g (k := 0) (N := N_divisor) (ps := ["one", "other"]) (C := C0) (b := b_divisor) F fs_divisor fun cdv A outer s H E hr => by
      have hnd := fs_divisor.nd
      exact (as_cons (as_par (i := 0) (j := 1) rfl hnd rfl rfl (by decide) rfl rfl (aa_cons (ae_callB c_abs rfl h_abs boot_abs' (aa_cons (ae_var (i := 0) rfl (.inl rfl)) (aa_nil))) (aa_cons (ae_callB c_abs rfl h_abs boot_abs' (aa_cons (ae_var (i := 1) rfl (.inl rfl)) (aa_nil))) (aa_nil))) (by rfl))
    (as_cons (as_while (fun fr => natOf 1 fr + 2) (passes_of rfl) (at_cmp (o_ne hr.units) (ae_var (i := 1) rfl (.inl rfl)) (ae_int) (nomark _)) (as_one (as_par (i := 0) (j := 1) rfl hnd rfl rfl (by decide) rfl rfl (aa_cons (ae_var (i := 1) rfl (.inl rfl)) (aa_cons (ae_bin o_mod (ae_var (i := 0) rfl (.inl rfl)) (ae_var (i := 1) rfl (.inl rfl))) (aa_nil))) (by rfl))))
    (ass_kill [1] (as_one (as_ret (ae_var (i := 0) rfl (.inl rfl)))))))
  exact ⟨⟨f, fd, ["one", "other"], G, hm, F.kp, (F.bindsN fun _ _ _ _ _ _ us hl => match us, hl with | [_, _], _ => rfl)⟩⟩
def N_fraction : List Str := ["top", "bottom", "by"]
abbrev sc_fraction : Scope := L2.defScope (top 6)
theorem fs_fraction : FnScope N_fraction ["top", "bottom"] sc_fraction := ⟨rfl, rfl, rfl, by decide +kernel, rfl, by decide +kernel, by decide +kernel⟩
theorem d_fraction {f : Addr} {fd : FuncData} (F : FunD K "fraction" "fraction" (L2.defArgs (top 6)) (L2.defBody (top 6)) sc_fraction [] [] f fd) (hm : mg "fraction" = some (.ref f)) (D_divisor : DefF P w K mg base CX0 C0 1 "divisor" 2 m_divisor) : DefF P w K mg base CX0 C0 2 "fraction" 2 m_fraction := by
  have G : FnOk P w K mg base CX0 (1 + 1) f fd ["top", "bottom"] (spF ⟨P, w, K⟩ C0 m_fraction 2) :=
    fn_g (k := 1) (N := N_fraction) (ps := ["top", "bottom"]) (C := C0) (b := b_fraction) F fs_fraction fun cdv A outer s H E hr => by
      have hnd := fs_fraction.nd
      exact (as_cons (as_set (i := 2) hnd rfl (.inl rfl) (ae_call D_divisor hr (by omega) pass_0 rfl (aa_cons (ae_var (i := 0) rfl (.inl rfl)) (aa_cons (ae_var (i := 1) rfl (.inl rfl)) (aa_nil))) (nc_cons (nc_cons (nc_nil)))))
    (as_one (as_ret (ae_tup (aa_cons (ae_bin o_fdiv (ae_var (i := 0) rfl (.inl rfl)) (ae_var (i := 2) rfl (.inl rfl))) (aa_cons (ae_bin o_fdiv (ae_var (i := 1) rfl (.inl rfl)) (ae_var (i := 2) rfl (.inl rfl))) (aa_nil))) (by decide) (nc_cons (nc_cons (nc_nil)))))))
  exact ⟨⟨f, fd, ["top", "bottom"], G, hm, F.kp, (F.bindsN fun _ _ _ _ _ _ us hl => match us, hl with | [_, _], _ => rfl)⟩⟩
def N_plus : List Str := ["one", "other"]
abbrev sc_plus : Scope := L2.defScope (top 7)
theorem fs_plus : FnScope N_plus ["one", "other"] sc_plus := ⟨rfl, rfl, rfl, by decide +kernel, rfl, by decide +kernel, by decide +kernel⟩
theorem d_plus {f : Addr} {fd : FuncData} (F : FunD K "plus" "plus" (L2.defArgs (top 7)) (L2.defBody (top 7)) sc_plus [] [] f fd) (hm : mg "plus" = some (.ref f)) (D_fraction : DefF P w K mg base CX0 C0 2 "fraction" 2 m_fraction) : DefF P w K mg base CX0 C0 3 "plus" 2 m_plus := by
  have G : FnOk P w K mg base CX0 (2 + 1) f fd ["one", "other"] (spF ⟨P, w, K⟩ C0 m_plus 2) :=
    fn_g (k := 2) (N := N_plus) (ps := ["one", "other"]) (C := C0) (b := b_plus) F fs_plus fun cdv A outer s H E hr => by
      have hnd := fs_plus.nd
      exact (as_one (as_ret (ae_call D_fraction hr (by omega) pass_0 rfl (aa_cons (ae_bin o_add (ae_bin o_mul (ae_ix (ae_var (i := 0) rfl (.inl rfl)) (ae_int)) (ae_ix (ae_var (i := 1) rfl (.inl rfl)) (ae_int))) (ae_bin o_mul (ae_ix (ae_var (i := 1) rfl (.inl rfl)) (ae_int)) (ae_ix (ae_var (i := 0) rfl (.inl rfl)) (ae_int)))) (aa_cons (ae_bin o_mul (ae_ix (ae_var (i := 0) rfl (.inl rfl)) (ae_int)) (ae_ix (ae_var (i := 1) rfl (.inl rfl)) (ae_int))) (aa_nil))) (nc_cons (nc_cons (nc_nil))))))
  exact ⟨⟨f, fd, ["one", "other"], G, hm, F.kp, (F.bindsN fun _ _ _ _ _ _ us hl => match us, hl with | [_, _], _ => rfl)⟩⟩
def N_minus : List Str := ["one", "other"]
abbrev sc_minus : Scope := L2.defScope (top 8)
theorem fs_minus : FnScope N_minus ["one", "other"] sc_minus := ⟨rfl, rfl, rfl, by decide +kernel, rfl, by decide +kernel, by decide +kernel⟩
theorem d_minus {f : Addr} {fd : FuncData} (F : FunD K "minus" "minus" (L2.defArgs (top 8)) (L2.defBody (top 8)) sc_minus [] [] f fd) (hm : mg "minus" = some (.ref f)) (D_fraction : DefF P w K mg base CX0 C0 2 "fraction" 2 m_fraction) : DefF P w K mg base CX0 C0 3 "minus" 2 m_minus := by
  have G : FnOk P w K mg base CX0 (2 + 1) f fd ["one", "other"] (spF ⟨P, w, K⟩ C0 m_minus 2) :=
    fn_g (k := 2) (N := N_minus) (ps := ["one", "other"]) (C := C0) (b := b_minus) F fs_minus fun cdv A outer s H E hr => by
      have hnd := fs_minus.nd
      exact (as_one (as_ret (ae_call D_fraction hr (by omega) pass_0 rfl (aa_cons (ae_bin o_sub (ae_bin o_mul (ae_ix (ae_var (i := 0) rfl (.inl rfl)) (ae_int)) (ae_ix (ae_var (i := 1) rfl (.inl rfl)) (ae_int))) (ae_bin o_mul (ae_ix (ae_var (i := 1) rfl (.inl rfl)) (ae_int)) (ae_ix (ae_var (i := 0) rfl (.inl rfl)) (ae_int)))) (aa_cons (ae_bin o_mul (ae_ix (ae_var (i := 0) rfl (.inl rfl)) (ae_int)) (ae_ix (ae_var (i := 1) rfl (.inl rfl)) (ae_int))) (aa_nil))) (nc_cons (nc_cons (nc_nil))))))
  exact ⟨⟨f, fd, ["one", "other"], G, hm, F.kp, (F.bindsN fun _ _ _ _ _ _ us hl => match us, hl with | [_, _], _ => rfl)⟩⟩
def N_is_less : List Str := ["one", "other"]
abbrev sc_is_less : Scope := L2.defScope (top 9)
theorem fs_is_less : FnScope N_is_less ["one", "other"] sc_is_less := ⟨rfl, rfl, rfl, by decide +kernel, rfl, by decide +kernel, by decide +kernel⟩
theorem d_is_less {f : Addr} {fd : FuncData} (F : FunD K "is_less" "is_less" (L2.defArgs (top 9)) (L2.defBody (top 9)) sc_is_less [] [] f fd) (hm : mg "is_less" = some (.ref f))  : DefF P w K mg base CX0 C0 1 "is_less" 2 m_is_less := by
  have G : FnOk P w K mg base CX0 (0 + 1) f fd ["one", "other"] (spF ⟨P, w, K⟩ C0 m_is_less 2) :=
    fn_g (k := 0) (N := N_is_less) (ps := ["one", "other"]) (C := C0) (b := b_is_less) F fs_is_less fun cdv A outer s H E hr => by
      have hnd := fs_is_less.nd
      exact (as_one (as_ret (ae_cmp (o_lt hr.units) (ae_bin o_mul (ae_ix (ae_var (i := 0) rfl (.inl rfl)) (ae_int)) (ae_ix (ae_var (i := 1) rfl (.inl rfl)) (ae_int))) (ae_bin o_mul (ae_ix (ae_var (i := 1) rfl (.inl rfl)) (ae_int)) (ae_ix (ae_var (i := 0) rfl (.inl rfl)) (ae_int))) (nomark _))))
  exact ⟨⟨f, fd, ["one", "other"], G, hm, F.kp, (F.bindsN fun _ _ _ _ _ _ us hl => match us, hl with | [_, _], _ => rfl)⟩⟩
def N_good_of : List Str := ["goods", "name", "good"]
abbrev sc_good_of : Scope := L2.defScope (top 10)
theorem fs_good_of : FnScope N_good_of ["goods", "name"] sc_good_of := ⟨rfl, rfl, rfl, by decide +kernel, rfl, by decide +kernel, by decide +kernel⟩
theorem d_good_of {f : Addr} {fd : FuncData} (F : FunD K "good_of" "good_of" (L2.defArgs (top 10)) (L2.defBody (top 10)) sc_good_of [] [] f fd) (hm : mg "good_of" = some (.ref f))  : DefF P w K mg base CX0 C0 1 "good_of" 2 m_good_of := by
  have G : FnOk P w K mg base CX0 (0 + 1) f fd ["goods", "name"] (spF ⟨P, w, K⟩ C0 m_good_of 2) :=
    fn_g (k := 0) (N := N_good_of) (ps := ["goods", "name"]) (C := C0) (b := b_good_of) F fs_good_of fun cdv A outer s H E hr => by
      have hnd := fs_good_of.nd
      exact (as_cons (as_for (passes_of rfl) rfl (ai_seq (ae_var (i := 0) rfl (.inl rfl))) (ag_name (i := 2) hnd rfl (.inl rfl)) (as_one (as_if (at_cmp (o_eq hr.units) (ae_ix (ae_var (i := 2) rfl (.inl rfl)) (ae_int)) (ae_var (i := 1) rfl (.inl rfl)) (nomark _)) (as_one (as_ret (ae_var (i := 2) rfl (.inl rfl)))) (as_nil))))
    (ass_kill [2] (as_one (as_ret (ae_non)))))
  exact ⟨⟨f, fd, ["goods", "name"], G, hm, F.kp, (F.bindsN fun _ _ _ _ _ _ us hl => match us, hl with | [_, _], _ => rfl)⟩⟩
def N_is_over : List Str := ["goods", "lot", "day"]
abbrev sc_is_over : Scope := L2.defScope (top 13)
theorem fs_is_over : FnScope N_is_over ["goods", "lot", "day"] sc_is_over := ⟨rfl, rfl, rfl, by decide +kernel, rfl, by decide +kernel, by decide +kernel⟩
theorem d_is_over {f : Addr} {fd : FuncData} (F : FunD K "is_over" "is_over" (L2.defArgs (top 13)) (L2.defBody (top 13)) sc_is_over [] [] f fd) (hm : mg "is_over" = some (.ref f)) (D_good_of : DefF P w K mg base CX0 C0 1 "good_of" 2 m_good_of) : DefF P w K mg base CX0 C0 2 "is_over" 3 m_is_over := by
  have G : FnOk P w K mg base CX0 (1 + 1) f fd ["goods", "lot", "day"] (spF ⟨P, w, K⟩ C0 m_is_over 3) :=
    fn_g (k := 1) (N := N_is_over) (ps := ["goods", "lot", "day"]) (C := C0) (b := b_is_over) F fs_is_over fun cdv A outer s H E hr => by
      have hnd := fs_is_over.nd
      exact (as_one (as_ret (ae_cmp o_gt (ae_var (i := 2) rfl (.inl rfl)) (ae_bin o_add (ae_ix (ae_var (i := 1) rfl (.inl rfl)) (ae_int)) (ae_ix (ae_call D_good_of hr (by omega) pass_0 rfl (aa_cons (ae_var (i := 0) rfl (.inl rfl)) (aa_cons (ae_ix (ae_var (i := 1) rfl (.inl rfl)) (ae_int)) (aa_nil))) (nc_cons (nc_cons (nc_nil)))) (ae_int))) (nomark _))))
  exact ⟨⟨f, fd, ["goods", "lot", "day"], G, hm, F.kp, (F.bindsN fun _ _ _ _ _ _ us hl => match us, hl with | [_, _, _], _ => rfl)⟩⟩
def N_lacking : List Str := ["goods", "store", "needs", "day", "found", "name", "grams", "there", "lot"]
abbrev sc_lacking : Scope := L2.defScope (top 14)
theorem fs_lacking : FnScope N_lacking ["goods", "store", "needs", "day"] sc_lacking := ⟨rfl, rfl, rfl, by decide +kernel, rfl, by decide +kernel, by decide +kernel⟩
theorem d_lacking {f : Addr} {fd : FuncData} (F : FunD K "lacking" "lacking" (L2.defArgs (top 14)) (L2.defBody (top 14)) sc_lacking [] [] f fd) (hm : mg "lacking" = some (.ref f)) {a_NOUGHT : Addr} (c_NOUGHT : mg "NOUGHT" = some (.ref a_NOUGHT) ∧ ∀ H, SqT K H a_NOUGHT [.int 0, .int 1]) (D_plus : DefF P w K mg base CX0 C0 3 "plus" 2 m_plus) (D_minus : DefF P w K mg base CX0 C0 3 "minus" 2 m_minus) (D_is_less : DefF P w K mg base CX0 C0 1 "is_less" 2 m_is_less) (D_is_over : DefF P w K mg base CX0 C0 2 "is_over" 3 m_is_over) : DefF P w K mg base CX0 C0 4 "lacking" 4 m_lacking := by
  have G : FnOk P w K mg base CX0 (3 + 1) f fd ["goods", "store", "needs", "day"] (spF ⟨P, w, K⟩ C0 m_lacking 4) :=
    fn_g (k := 3) (N := N_lacking) (ps := ["goods", "store", "needs", "day"]) (C := C0) (b := b_lacking) F fs_lacking fun cdv A outer s H E hr => by
      have hnd := fs_lacking.nd
      exact (as_cons (as_set (i := 4) hnd rfl (.inl rfl) (ae_newL (aa_nil) (by decide) (nc_nil)))
    (as_cons (as_for (passes_of rfl) rfl (ai_seq (ae_var (i := 2) rfl (.inl rfl))) (ag_tup rfl (ags_cons (i := 5) hnd rfl (.inl rfl) (ags_cons (i := 6) hnd rfl (.inl rfl) (ags_nil))) rfl) (ass_kill [7, 8] (as_cons (as_set (i := 7) hnd rfl (.inl rfl) (ae_gtup rfl c_NOUGHT.1 c_NOUGHT.2 (fun _ _ => .cons (.int 0) (.cons (.int 1) .nil))))
    (as_cons (as_for (passes_of rfl) rfl (ai_seq (ae_var (i := 1) rfl (.inl rfl))) (ag_name (i := 8) hnd rfl (.inl rfl)) (as_one (as_if (at_w (aw_and (at_cmp (o_eq hr.units) (ae_ix (ae_var (i := 8) rfl (.inl rfl)) (ae_int)) (ae_var (i := 5) rfl (.inl rfl)) (nomark _)) (aw_and1 (at_not (at_val (ae_call D_is_over hr (by omega) pass_0 rfl (aa_cons (ae_var (i := 0) rfl (.inl rfl)) (aa_cons (ae_var (i := 8) rfl (.inl rfl)) (aa_cons (ae_var (i := 3) rfl (.inl rfl)) (aa_nil)))) (nc_cons (nc_cons (nc_cons (nc_nil)))))))))) (as_one (as_set (i := 7) hnd rfl (.inl rfl) (ae_call D_plus hr (by omega) pass_0 rfl (aa_cons (ae_var (i := 7) rfl (.inl rfl)) (aa_cons (ae_ix (ae_var (i := 8) rfl (.inl rfl)) (ae_int)) (aa_nil))) (nc_cons (nc_cons (nc_nil)))))) (as_nil))))
    (ass_kill [8] (as_one (as_if (at_val (ae_call D_is_less hr (by omega) pass_0 rfl (aa_cons (ae_var (i := 7) rfl (.inl rfl)) (aa_cons (ae_var (i := 6) rfl (.inl rfl)) (aa_nil))) (nc_cons (nc_cons (nc_nil))))) (as_one (as_app (i := 4) rfl (.inl rfl) (ae_tup (aa_cons (ae_var (i := 5) rfl (.inl rfl)) (aa_cons (ae_call D_minus hr (by omega) pass_0 rfl (aa_cons (ae_var (i := 6) rfl (.inl rfl)) (aa_cons (ae_var (i := 7) rfl (.inl rfl)) (aa_nil))) (nc_cons (nc_cons (nc_nil)))) (aa_nil))) (by decide) (nc_cons (nc_cons (nc_nil)))))) (as_nil))))))))
    (ass_kill [5, 6, 7, 8] (as_one (as_ret (ae_var (i := 4) rfl (.inl rfl)))))))
  exact ⟨⟨f, fd, ["goods", "store", "needs", "day"], G, hm, F.kp, (F.bindsN fun _ _ _ _ _ _ us hl => match us, hl with | [_, _, _, _], _ => rfl)⟩⟩
def N_taken : List Str := ["goods", "store", "needs", "day", "name", "grams", "left", "rows", "rest", "lot", "want", "part"]
abbrev sc_taken : Scope := L2.defScope (top 15)
theorem fs_taken : FnScope N_taken ["goods", "store", "needs", "day"] sc_taken := ⟨rfl, rfl, rfl, by decide +kernel, rfl, by decide +kernel, by decide +kernel⟩
theorem d_taken {f : Addr} {fd : FuncData} (F : FunD K "taken" "taken" (L2.defArgs (top 15)) (L2.defBody (top 15)) sc_taken [] [] f fd) (hm : mg "taken" = some (.ref f)) (h_dict : mg "dict" = none) (h_tuple : mg "tuple" = none) {a_NOUGHT : Addr} (c_NOUGHT : mg "NOUGHT" = some (.ref a_NOUGHT) ∧ ∀ H, SqT K H a_NOUGHT [.int 0, .int 1]) (D_minus : DefF P w K mg base CX0 C0 3 "minus" 2 m_minus) (D_is_less : DefF P w K mg base CX0 C0 1 "is_less" 2 m_is_less) (D_is_over : DefF P w K mg base CX0 C0 2 "is_over" 3 m_is_over) (D_lacking : DefF P w K mg base CX0 C0 4 "lacking" 4 m_lacking) : DefF P w K mg base CX0 C0 5 "taken" 4 m_taken := by
  have G : FnOk P w K mg base CX0 (4 + 1) f fd ["goods", "store", "needs", "day"] (spF ⟨P, w, K⟩ C0 m_taken 4) :=
    fn_g (k := 4) (N := N_taken) (ps := ["goods", "store", "needs", "day"]) (C := C0) (b := b_taken) F fs_taken fun cdv A outer s H E hr => by
      have hnd := fs_taken.nd
      exact (as_cons (as_for (passes_of rfl) rfl (ai_seq (ae_call D_lacking hr (by omega) pass_0 rfl (aa_cons (ae_var (i := 0) rfl (.inl rfl)) (aa_cons (ae_var (i := 1) rfl (.inl rfl)) (aa_cons (ae_var (i := 2) rfl (.inl rfl)) (aa_cons (ae_var (i := 3) rfl (.inl rfl)) (aa_nil))))) (nc_cons (nc_cons (nc_cons (nc_cons (nc_nil))))))) (ag_tup rfl (ags_cons (i := 4) hnd rfl (.inl rfl) (ags_cons (i := 5) hnd rfl (.inl rfl) (ags_nil))) rfl) (as_one (as_err)))
    (ass_kill [4, 5] (as_cons (as_set (i := 6) hnd rfl (.inl rfl) (ae_dictF rfl rfl h_dict (ae_var (i := 2) rfl (.inl rfl))))
    (as_cons (as_par (i := 7) (j := 8) rfl hnd rfl rfl (by decide) rfl rfl (aa_cons (ae_newL (aa_nil) (by decide) (nc_nil)) (aa_cons (ae_newL (aa_nil) (by decide) (nc_nil)) (aa_nil))) (by rfl))
    (as_cons (as_for (passes_of rfl) rfl (ai_seq (ae_var (i := 1) rfl (.inl rfl))) (ag_name (i := 9) hnd rfl (.inl rfl)) (ass_kill [10, 11] (as_cons (as_set (i := 10) hnd rfl (.inl rfl) (ae_if (at_val (ae_call D_is_over hr (by omega) pass_0 rfl (aa_cons (ae_var (i := 0) rfl (.inl rfl)) (aa_cons (ae_var (i := 9) rfl (.inl rfl)) (aa_cons (ae_var (i := 3) rfl (.inl rfl)) (aa_nil)))) (nc_cons (nc_cons (nc_cons (nc_nil)))))) (ae_gtup rfl c_NOUGHT.1 c_NOUGHT.2 (fun _ _ => .cons (.int 0) (.cons (.int 1) .nil))) (ae_dgetD hr.units (ae_var (i := 6) rfl (.inl rfl)) (ae_ix (ae_var (i := 9) rfl (.inl rfl)) (ae_int)) (ae_gtup rfl c_NOUGHT.1 c_NOUGHT.2 (fun _ _ => .cons (.int 0) (.cons (.int 1) .nil))) ⟨rfl, rfl, rfl, rfl⟩)))
    (as_cons (as_set (i := 11) hnd rfl (.inl rfl) (ae_if (at_val (ae_call D_is_less hr (by omega) pass_0 rfl (aa_cons (ae_ix (ae_var (i := 9) rfl (.inl rfl)) (ae_int)) (aa_cons (ae_var (i := 10) rfl (.inl rfl)) (aa_nil))) (nc_cons (nc_cons (nc_nil))))) (ae_ix (ae_var (i := 9) rfl (.inl rfl)) (ae_int)) (ae_var (i := 10) rfl (.inl rfl))))
    (as_cons (as_if (at_cmp o_gt (ae_ix (ae_var (i := 11) rfl (.inl rfl)) (ae_int)) (ae_int) (nomark _)) (as_cons (as_app (i := 7) rfl (.inl rfl) (ae_bin o_add (ae_sl (ae_var (i := 9) rfl (.inl rfl)) (ao_none) (ao_some (ae_int))) (ae_tup (aa_cons (ae_var (i := 11) rfl (.inl rfl)) (aa_nil)) (by decide) (nc_cons (nc_nil)))))
    (as_one (as_dset (i := 6) hr.units rfl (.inl rfl) (ae_ix (ae_var (i := 9) rfl (.inl rfl)) (ae_int)) (ae_call D_minus hr (by omega) pass_0 rfl (aa_cons (ae_var (i := 10) rfl (.inl rfl)) (aa_cons (ae_var (i := 11) rfl (.inl rfl)) (aa_nil))) (nc_cons (nc_cons (nc_nil))))))) (as_nil))
    (as_one (as_if (at_cmp (o_ne hr.units) (ae_var (i := 11) rfl (.inl rfl)) (ae_ix (ae_var (i := 9) rfl (.inl rfl)) (ae_int)) (nomark _)) (as_one (as_app (i := 8) rfl (.inl rfl) (ae_bin o_add (ae_sl (ae_var (i := 9) rfl (.inl rfl)) (ao_none) (ao_some (ae_int))) (ae_tup (aa_cons (ae_call D_minus hr (by omega) pass_0 rfl (aa_cons (ae_ix (ae_var (i := 9) rfl (.inl rfl)) (ae_int)) (aa_cons (ae_var (i := 11) rfl (.inl rfl)) (aa_nil))) (nc_cons (nc_cons (nc_nil)))) (aa_nil)) (by decide) (nc_cons (nc_nil)))))) (as_nil))))))))
    (ass_kill [9, 10, 11] (as_one (as_frzM 7 (as_ret (ae_tup (aa_cons (ae_var (i := 7) rfl (.inl rfl)) (aa_cons (ae_callT c_tuple rfl h_tuple boot_tuple' (aa_cons (ae_var (i := 8) rfl (.inl rfl)) (aa_nil))) (aa_nil))) (by decide) (nc_cons (nc_cons (nc_nil)))))))))))))
  exact ⟨⟨f, fd, ["goods", "store", "needs", "day"], G, hm, F.kp, (F.bindsN fun _ _ _ _ _ _ us hl => match us, hl with | [_, _, _, _], _ => rfl)⟩⟩
def N_lasts : List Str := ["goods", "store", "needs", "day", "found"]
abbrev sc_lasts : Scope := L2.defScope (top 16)
theorem fs_lasts : FnScope N_lasts ["goods", "store", "needs", "day"] sc_lasts := ⟨rfl, rfl, rfl, by decide +kernel, rfl, by decide +kernel, by decide +kernel⟩
theorem d_lasts {f : Addr} {fd : FuncData} (F : FunD K "lasts" "lasts" (L2.defArgs (top 16)) (L2.defBody (top 16)) sc_lasts [] [] f fd) (hm : mg "lasts" = some (.ref f)) {t_MOST_DAYS : Tok} (c_MOST_DAYS : mg "MOST_DAYS" = some (.int 400 t_MOST_DAYS)) (D_lacking : DefF P w K mg base CX0 C0 4 "lacking" 4 m_lacking) (D_taken : DefF P w K mg base CX0 C0 5 "taken" 4 m_taken) : DefF P w K mg base CX0 C0 6 "lasts" 4 m_lasts := by
  have G : FnOk P w K mg base CX0 (5 + 1) f fd ["goods", "store", "needs", "day"] (spF ⟨P, w, K⟩ C0 m_lasts 4) :=
    fn_g (k := 5) (N := N_lasts) (ps := ["goods", "store", "needs", "day"]) (C := C0) (b := b_lasts) F fs_lasts fun cdv A outer s H E hr => by
      have hnd := fs_lasts.nd
      exact (as_cons (as_set (i := 4) hnd rfl (.inl rfl) (ae_int))
    (as_cons (as_while (fun _ => 402) (passes_of rfl) (at_w (aw_and (at_cmp (o_lt hr.units) (ae_var (i := 4) rfl (.inl rfl)) (ae_gint rfl c_MOST_DAYS) (nomark _)) (aw_and1 (at_cmp (o_eq hr.units) (ae_call D_lacking hr (by omega) pass_0 rfl (aa_cons (ae_var (i := 0) rfl (.inl rfl)) (aa_cons (ae_var (i := 1) rfl (.inl rfl)) (aa_cons (ae_var (i := 2) rfl (.inl rfl)) (aa_cons (ae_bin o_add (ae_var (i := 3) rfl (.inl rfl)) (ae_var (i := 4) rfl (.inl rfl))) (aa_nil))))) (nc_cons (nc_cons (nc_cons (nc_cons (nc_nil)))))) (ae_lst (aa_nil) (by decide) (nc_nil)) (nomark _))))) (as_cons (as_set (i := 1) hnd rfl (.inl rfl) (ae_ix (ae_call D_taken hr (by omega) pass_0 rfl (aa_cons (ae_var (i := 0) rfl (.inl rfl)) (aa_cons (ae_var (i := 1) rfl (.inl rfl)) (aa_cons (ae_var (i := 2) rfl (.inl rfl)) (aa_cons (ae_bin o_add (ae_var (i := 3) rfl (.inl rfl)) (ae_var (i := 4) rfl (.inl rfl))) (aa_nil))))) (nc_cons (nc_cons (nc_cons (nc_cons (nc_nil)))))) (ae_int)))
    (as_one (as_aug (i := 4) hnd rfl (.inl rfl) i_add (ae_int)))))
    (ass_kill [1] (as_one (as_ret (ae_var (i := 4) rfl (.inl rfl)))))))
  exact ⟨⟨f, fd, ["goods", "store", "needs", "day"], G, hm, F.kp, (F.bindsN fun _ _ _ _ _ _ us hl => match us, hl with | [_, _, _, _], _ => rfl)⟩⟩
def N__law_deck : List Str := ["_law_cell", "_law_turn"]
abbrev sc__law_deck : Scope := L2.defScope (top 18)
theorem fs__law_deck : FnScope N__law_deck ["_law_cell", "_law_turn"] sc__law_deck := ⟨rfl, rfl, rfl, by decide +kernel, rfl, by decide +kernel, by decide +kernel⟩
theorem d__law_deck {f : Addr} {fd : FuncData} (F : FunD K "_law_deck" "_law_deck" (L2.defArgs (top 18)) (L2.defBody (top 18)) sc__law_deck [] [] f fd) (hm : mg "_law_deck" = some (.ref f))  : DefF P w K mg base CX0 C0 1 "_law_deck" 2 m__law_deck := by
  have G : FnOk P w K mg base CX0 (0 + 1) f fd ["_law_cell", "_law_turn"] (spF ⟨P, w, K⟩ C0 m__law_deck 2) :=
    fn_g (k := 0) (N := N__law_deck) (ps := ["_law_cell", "_law_turn"]) (C := C0) (b := b__law_deck) F fs__law_deck fun cdv A outer s H E hr => by
      have hnd := fs__law_deck.nd
      exact (as_cons (as_if (at_cmp o_ge (ae_var (i := 0) rfl (.inl rfl)) (ae_bin o_pow (ae_int) (ae_int)) (nomark _)) (as_one (as_ret (ae_lst (aa_cons (ae_bin o_sub (ae_var (i := 0) rfl (.inl rfl)) (ae_bin o_pow (ae_int) (ae_int))) (aa_cons (ae_bin o_mod (ae_var (i := 0) rfl (.inl rfl)) (ae_int)) (aa_cons (ae_var (i := 1) rfl (.inl rfl)) (aa_nil)))) (by decide) (nc_cons (nc_cons (nc_cons (nc_nil))))))) (as_nil))
    (as_one (as_ret (ae_lst (aa_cons (ae_int) (aa_cons (ae_bin o_mod (ae_var (i := 0) rfl (.inl rfl)) (ae_int)) (aa_cons (ae_var (i := 1) rfl (.inl rfl)) (aa_nil)))) (by decide) (nc_cons (nc_cons (nc_cons (nc_nil))))))))
  exact ⟨⟨f, fd, ["_law_cell", "_law_turn"], G, hm, F.kp, (F.bindsN fun _ _ _ _ _ _ us hl => match us, hl with | [_, _], _ => rfl)⟩⟩
def N__law_pick : List Str := ["_law_deck_here", "_law_size", "_law_found", "_law_number"]
abbrev sc__law_pick : Scope := L2.defScope (top 19)
theorem fs__law_pick : FnScope N__law_pick ["_law_deck_here", "_law_size"] sc__law_pick := ⟨rfl, rfl, rfl, by decide +kernel, rfl, by decide +kernel, by decide +kernel⟩
theorem d__law_pick {f : Addr} {fd : FuncData} (F : FunD K "_law_pick" "_law_pick" (L2.defArgs (top 19)) (L2.defBody (top 19)) sc__law_pick [] [] f fd) (hm : mg "_law_pick" = some (.ref f))  : DefF P w K mg base CX0 C0 1 "_law_pick" 2 m__law_pick := by
  have G : FnOk P w K mg base CX0 (0 + 1) f fd ["_law_deck_here", "_law_size"] (spF ⟨P, w, K⟩ C0 m__law_pick 2) :=
    fn_g (k := 0) (N := N__law_pick) (ps := ["_law_deck_here", "_law_size"]) (C := C0) (b := b__law_pick) F fs__law_pick fun cdv A outer s H E hr => by
      have hnd := fs__law_pick.nd
      exact (as_cons (as_if (at_cmp o_gt (ae_ix (ae_var (i := 0) rfl (.inl rfl)) (ae_int)) (ae_int) (nomark _)) (as_cons (as_set (i := 2) hnd rfl (.inl rfl) (ae_bin o_mod (ae_ix (ae_var (i := 0) rfl (.inl rfl)) (ae_int)) (ae_var (i := 1) rfl (.inl rfl))))
    (as_cons (as_setIx (i := 0) rfl (.inl rfl) (ae_int) (ae_bin o_fdiv (ae_ix (ae_var (i := 0) rfl (.inl rfl)) (ae_int)) (ae_var (i := 1) rfl (.inl rfl))))
    (as_one (as_ret (ae_var (i := 2) rfl (.inl rfl)))))) (as_nil))
    (as_cons (as_setIx (i := 0) rfl (.inl rfl) (ae_int) (ae_bin o_add (ae_ix (ae_var (i := 0) rfl (.inl rfl)) (ae_int)) (ae_int)))
    (as_cons (as_set (i := 3) hnd rfl (.inl rfl) (ae_bin o_mod (ae_bin o_pow (ae_bin o_add (ae_ix (ae_var (i := 0) rfl (.inl rfl)) (ae_int)) (ae_bin o_mul (ae_int) (ae_ix (ae_var (i := 0) rfl (.inl rfl)) (ae_int)))) (ae_int)) (ae_int)))
    (as_cons (as_set (i := 2) hnd rfl (.inl rfl) (ae_bin o_fdiv (ae_bin o_mod (ae_bin o_pow (ae_bin o_add (ae_var (i := 3) rfl (.inl rfl)) (ae_bin o_mul (ae_int) (ae_ix (ae_var (i := 0) rfl (.inl rfl)) (ae_int)))) (ae_int)) (ae_int)) (ae_int)))
    (as_one (as_ret (ae_bin o_mod (ae_var (i := 2) rfl (.inl rfl)) (ae_var (i := 1) rfl (.inl rfl)))))))))
  exact ⟨⟨f, fd, ["_law_deck_here", "_law_size"], G, hm, F.kp, (F.bindsN fun _ _ _ _ _ _ us hl => match us, hl with | [_, _], _ => rfl)⟩⟩
def N__law_one : List Str := ["_law_deck_here", "_law_some"]
abbrev sc__law_one : Scope := L2.defScope (top 20)
theorem fs__law_one : FnScope N__law_one ["_law_deck_here", "_law_some"] sc__law_one := ⟨rfl, rfl, rfl, by decide +kernel, rfl, by decide +kernel, by decide +kernel⟩
theorem d__law_one {f : Addr} {fd : FuncData} (F : FunD K "_law_one" "_law_one" (L2.defArgs (top 20)) (L2.defBody (top 20)) sc__law_one [] [] f fd) (hm : mg "_law_one" = some (.ref f)) (h_len : mg "len" = none) (D__law_pick : DefF P w K mg base CX0 C0 1 "_law_pick" 2 m__law_pick) : DefF P w K mg base CX0 C0 2 "_law_one" 2 m__law_one := by
  have G : FnOk P w K mg base CX0 (1 + 1) f fd ["_law_deck_here", "_law_some"] (spF ⟨P, w, K⟩ C0 m__law_one 2) :=
    fn_g (k := 1) (N := N__law_one) (ps := ["_law_deck_here", "_law_some"]) (C := C0) (b := b__law_one) F fs__law_one fun cdv A outer s H E hr => by
      have hnd := fs__law_one.nd
      exact (as_one (as_ret (ae_ix (ae_var (i := 1) rfl (.inl rfl)) (ae_call D__law_pick hr (by omega) pass_0 rfl (aa_cons (ae_var (i := 0) rfl (.inl rfl)) (aa_cons (ae_callB c_len rfl h_len boot_len' (aa_cons (ae_var (i := 1) rfl (.inl rfl)) (aa_nil))) (aa_nil))) (nc_cons (nc_cons (nc_nil)))))))
  exact ⟨⟨f, fd, ["_law_deck_here", "_law_some"], G, hm, F.kp, (F.bindsN fun _ _ _ _ _ _ us hl => match us, hl with | [_, _], _ => rfl)⟩⟩
def N__law_sort : List Str := ["_law_thing"]
abbrev sc__law_sort : Scope := L2.defScope (top 21)
theorem fs__law_sort : FnScope N__law_sort ["_law_thing"] sc__law_sort := ⟨rfl, rfl, rfl, by decide +kernel, rfl, by decide +kernel, by decide +kernel⟩
theorem d__law_sort {f : Addr} {fd : FuncData} (F : FunD K "_law_sort" "_law_sort" (L2.defArgs (top 21)) (L2.defBody (top 21)) sc__law_sort [] [] f fd) (hm : mg "_law_sort" = some (.ref f)) (h_bool : mg "bool" = none) (h_int : mg "int" = none) (h_isinstance : mg "isinstance" = none) (h_list : mg "list" = none) (h_tuple : mg "tuple" = none) : DefF P w K mg base CX0 C0 1 "_law_sort" 1 m__law_sort := by
  have G : FnOk P w K mg base CX0 (0 + 1) f fd ["_law_thing"] (spF ⟨P, w, K⟩ C0 m__law_sort 1) :=
    fn_g (k := 0) (N := N__law_sort) (ps := ["_law_thing"]) (C := C0) (b := b__law_sort) F fs__law_sort fun cdv A outer s H E hr => by
      have hnd := fs__law_sort.nd
      exact (as_cons (as_if (at_val (ae_is1 tyOk_bool rfl h_isinstance rfl h_bool boot_bool' (ae_var (i := 0) rfl (.inl rfl)))) (as_one (as_ret (ae_str))) (as_nil))
    (as_cons (as_if (at_val (ae_is1 tyOk_int rfl h_isinstance rfl h_int boot_int' (ae_var (i := 0) rfl (.inl rfl)))) (as_one (as_ret (ae_str))) (as_nil))
    (as_cons (as_if (at_val (ae_is1 tyOk_tuple rfl h_isinstance rfl h_tuple boot_tuple' (ae_var (i := 0) rfl (.inl rfl)))) (as_one (as_ret (ae_str))) (as_nil))
    (as_one (as_ret (ae_if (at_val (ae_is1 tyOk_list rfl h_isinstance rfl h_list boot_list' (ae_var (i := 0) rfl (.inl rfl)))) (ae_str) (ae_str)))))))
  exact ⟨⟨f, fd, ["_law_thing"], G, hm, F.kp, (F.bindsN fun _ _ _ _ _ _ us hl => match us, hl with | [_], _ => rfl)⟩⟩
def N__law_same : List Str := ["_law_told", "_law_due", "_law_k", "_law_part"]
abbrev sc__law_same : Scope := L2.defScope (top 22)
theorem fs__law_same : FnScope N__law_same ["_law_told", "_law_due"] sc__law_same := ⟨rfl, rfl, rfl, by decide +kernel, rfl, by decide +kernel, by decide +kernel⟩
theorem d__law_same {f : Addr} {fd : FuncData} (F : FunD K "_law_same" "_law_same" (L2.defArgs (top 22)) (L2.defBody (top 22)) sc__law_same [] [] f fd) (hm : mg "_law_same" = some (.ref f)) (h_enumerate : mg "enumerate" = none) (h_isinstance : mg "isinstance" = none) (h_len : mg "len" = none) (h_list : mg "list" = none) (h_tuple : mg "tuple" = none) (D__law_sort : DefF P w K mg base CX0 C0 1 "_law_sort" 1 m__law_sort) : ∀ q : Nat, DefF P w K mg base CX0 C0 (1 + q) "_law_same" 2 (m__law_same q)
  | 0 => ⟨⟨f, fd, ["_law_told", "_law_due"], fn_err (N := N__law_same) (ps := ["_law_told", "_law_due"]) (k := 0) F fs__law_same, hm, F.kp, (F.bindsN fun _ _ _ _ _ _ us hl => match us, hl with | [_, _], _ => rfl)⟩⟩
  | q + 1 => by
    have D_self := d__law_same F hm h_enumerate h_isinstance h_len h_list h_tuple D__law_sort q
    have G : FnOk P w K mg base CX0 (1 + q + 1) f fd ["_law_told", "_law_due"] (spF ⟨P, w, K⟩ C0 (m__law_same (q + 1)) 2) :=
      fn_g (k := 1 + q) (N := N__law_same) (ps := ["_law_told", "_law_due"]) (C := C0) (b := b__law_same (m__law_same q)) F fs__law_same fun cdv A outer s H E hr => by
        have hnd := fs__law_same.nd
        exact (as_cons (as_if (at_cmp (o_ne hr.units) (ae_call D__law_sort hr (by omega) pass_0 rfl (aa_cons (ae_var (i := 0) rfl (.inl rfl)) (aa_nil)) (nc_cons (nc_nil))) (ae_call D__law_sort hr (by omega) pass_0 rfl (aa_cons (ae_var (i := 1) rfl (.inr (.inl rfl))) (aa_nil)) (nc_cons (nc_nil))) (nomark _)) (as_one (as_ret (ae_bl))) (as_nil))
    (as_cons (as_if (at_not (at_val (ae_is2 tyOk_tuple tyOk_list rfl h_isinstance rfl h_tuple boot_tuple' rfl h_list boot_list' (ae_var (i := 0) rfl (.inl rfl))))) (as_one (as_ret (ae_cmp (o_eq hr.units) (ae_var (i := 0) rfl (.inl rfl)) (ae_var (i := 1) rfl (.inr (.inl rfl))) (nomark _)))) (as_nil))
    (as_cons (as_if (at_cmp (o_ne hr.units) (ae_callB c_len rfl h_len boot_len' (aa_cons (ae_var (i := 0) rfl (.inl rfl)) (aa_nil))) (ae_callB c_len rfl h_len boot_len' (aa_cons (ae_var (i := 1) rfl (.inr (.inl rfl))) (aa_nil))) (nomark _)) (as_one (as_ret (ae_bl))) (as_nil))
    (as_one (as_ret (ae_cmp (o_eq hr.units) (ae_lc rfl hnd (own := [("_law_k", 2), ("_law_part", 3)]) (ai_enum rfl h_enumerate (ae_var (i := 0) rfl (.inl rfl))) (blkOk_by (N := N__law_same) (sc := sc__law_same) (by decide +kernel)) (fun _ _ _ _ _ => ag_tup rfl (ags_cons (i := 2) hnd rfl (.inl rfl) (ags_cons (i := 3) hnd rfl (.inl rfl) (ags_nil))) rfl) (fun _ _ _ _ _ => ats_one (at_not (at_val (ae_call D_self hr (by omega) pass_0 rfl (aa_cons (ae_var (i := 3) rfl (.inl rfl)) (aa_cons (ae_ix (ae_var (i := 1) rfl (.inr (.inl rfl))) (ae_var (i := 2) rfl (.inl rfl))) (aa_nil))) (nc_cons (nc_cons (nc_nil))))))) (fun _ _ _ _ _ => ae_var (i := 2) rfl (.inl rfl)) (by decide)) (ae_lst (aa_nil) (by decide) (nc_nil)) (nomark _)))))))
    exact ⟨⟨f, fd, ["_law_told", "_law_due"], G, hm, F.kp, (F.bindsN fun _ _ _ _ _ _ us hl => match us, hl with | [_, _], _ => rfl)⟩⟩
def N__law_frac : List Str := ["_law_top", "_law_bottom", "_law_one_here", "_law_other", "_law_rest"]
abbrev sc__law_frac : Scope := L2.defScope (top 23)
theorem fs__law_frac : FnScope N__law_frac ["_law_top", "_law_bottom"] sc__law_frac := ⟨rfl, rfl, rfl, by decide +kernel, rfl, by decide +kernel, by decide +kernel⟩
theorem d__law_frac {f : Addr} {fd : FuncData} (F : FunD K "_law_frac" "_law_frac" (L2.defArgs (top 23)) (L2.defBody (top 23)) sc__law_frac [] [] f fd) (hm : mg "_law_frac" = some (.ref f)) (h_abs : mg "abs" = none) : DefF P w K mg base CX0 C0 1 "_law_frac" 2 m__law_frac := by
  have G : FnOk P w K mg base CX0 (0 + 1) f fd ["_law_top", "_law_bottom"] (spF ⟨P, w, K⟩ C0 m__law_frac 2) :=
    fn_g (k := 0) (N := N__law_frac) (ps := ["_law_top", "_law_bottom"]) (C := C0) (b := b__law_frac) F fs__law_frac fun cdv A outer s H E hr => by
      have hnd := fs__law_frac.nd
      exact (as_cons (as_par (i := 2) (j := 3) rfl hnd rfl rfl (by decide) rfl rfl (aa_cons (ae_callB c_abs rfl h_abs boot_abs' (aa_cons (ae_var (i := 0) rfl (.inl rfl)) (aa_nil))) (aa_cons (ae_callB c_abs rfl h_abs boot_abs' (aa_cons (ae_var (i := 1) rfl (.inl rfl)) (aa_nil))) (aa_nil))) (by rfl))
    (as_cons (as_while (fun fr => natOf 3 fr + 2) (passes_of rfl) (at_cmp o_gt (ae_var (i := 3) rfl (.inl rfl)) (ae_int) (nomark _)) (ass_kill [4] (as_cons (as_set (i := 4) hnd rfl (.inl rfl) (ae_bin o_mod (ae_var (i := 2) rfl (.inl rfl)) (ae_var (i := 3) rfl (.inl rfl))))
    (as_cons (as_set (i := 2) hnd rfl (.inl rfl) (ae_var (i := 3) rfl (.inl rfl)))
    (as_one (as_set (i := 3) hnd rfl (.inl rfl) (ae_var (i := 4) rfl (.inl rfl))))))))
    (ass_kill [3, 4] (as_one (as_ret (ae_tup (aa_cons (ae_bin o_fdiv (ae_var (i := 0) rfl (.inl rfl)) (ae_var (i := 2) rfl (.inl rfl))) (aa_cons (ae_bin o_fdiv (ae_var (i := 1) rfl (.inl rfl)) (ae_var (i := 2) rfl (.inl rfl))) (aa_nil))) (by decide) (nc_cons (nc_cons (nc_nil)))))))))
  exact ⟨⟨f, fd, ["_law_top", "_law_bottom"], G, hm, F.kp, (F.bindsN fun _ _ _ _ _ _ us hl => match us, hl with | [_, _], _ => rfl)⟩⟩
def N__law_minus : List Str := ["_law_one_here", "_law_other"]
abbrev sc__law_minus : Scope := L2.defScope (top 24)
theorem fs__law_minus : FnScope N__law_minus ["_law_one_here", "_law_other"] sc__law_minus := ⟨rfl, rfl, rfl, by decide +kernel, rfl, by decide +kernel, by decide +kernel⟩
theorem d__law_minus {f : Addr} {fd : FuncData} (F : FunD K "_law_minus" "_law_minus" (L2.defArgs (top 24)) (L2.defBody (top 24)) sc__law_minus [] [] f fd) (hm : mg "_law_minus" = some (.ref f)) (D__law_frac : DefF P w K mg base CX0 C0 1 "_law_frac" 2 m__law_frac) : DefF P w K mg base CX0 C0 2 "_law_minus" 2 m__law_minus := by
  have G : FnOk P w K mg base CX0 (1 + 1) f fd ["_law_one_here", "_law_other"] (spF ⟨P, w, K⟩ C0 m__law_minus 2) :=
    fn_g (k := 1) (N := N__law_minus) (ps := ["_law_one_here", "_law_other"]) (C := C0) (b := b__law_minus) F fs__law_minus fun cdv A outer s H E hr => by
      have hnd := fs__law_minus.nd
      exact (as_one (as_ret (ae_call D__law_frac hr (by omega) pass_0 rfl (aa_cons (ae_bin o_sub (ae_bin o_mul (ae_ix (ae_var (i := 0) rfl (.inl rfl)) (ae_int)) (ae_ix (ae_var (i := 1) rfl (.inl rfl)) (ae_int))) (ae_bin o_mul (ae_ix (ae_var (i := 1) rfl (.inl rfl)) (ae_int)) (ae_ix (ae_var (i := 0) rfl (.inl rfl)) (ae_int)))) (aa_cons (ae_bin o_mul (ae_ix (ae_var (i := 0) rfl (.inl rfl)) (ae_int)) (ae_ix (ae_var (i := 1) rfl (.inl rfl)) (ae_int))) (aa_nil))) (nc_cons (nc_cons (nc_nil))))))
  exact ⟨⟨f, fd, ["_law_one_here", "_law_other"], G, hm, F.kp, (F.bindsN fun _ _ _ _ _ _ us hl => match us, hl with | [_, _], _ => rfl)⟩⟩
def N__law_amount : List Str := ["_law_deck_here"]
abbrev sc__law_amount : Scope := L2.defScope (top 25)
theorem fs__law_amount : FnScope N__law_amount ["_law_deck_here"] sc__law_amount := ⟨rfl, rfl, rfl, by decide +kernel, rfl, by decide +kernel, by decide +kernel⟩
theorem d__law_amount {f : Addr} {fd : FuncData} (F : FunD K "_law_amount" "_law_amount" (L2.defArgs (top 25)) (L2.defBody (top 25)) sc__law_amount [] [] f fd) (hm : mg "_law_amount" = some (.ref f)) (D__law_pick : DefF P w K mg base CX0 C0 1 "_law_pick" 2 m__law_pick) (D__law_one : DefF P w K mg base CX0 C0 2 "_law_one" 2 m__law_one) (D__law_frac : DefF P w K mg base CX0 C0 1 "_law_frac" 2 m__law_frac) : DefF P w K mg base CX0 C0 3 "_law_amount" 1 m__law_amount := by
  have G : FnOk P w K mg base CX0 (2 + 1) f fd ["_law_deck_here"] (spF ⟨P, w, K⟩ C0 m__law_amount 1) :=
    fn_g (k := 2) (N := N__law_amount) (ps := ["_law_deck_here"]) (C := C0) (b := b__law_amount) F fs__law_amount fun cdv A outer s H E hr => by
      have hnd := fs__law_amount.nd
      exact (as_one (as_ret (ae_call D__law_frac hr (by omega) pass_0 rfl (aa_cons (ae_bin o_add (ae_int) (ae_call D__law_pick hr (by omega) pass_0 rfl (aa_cons (ae_var (i := 0) rfl (.inl rfl)) (aa_cons (ae_int) (aa_nil))) (nc_cons (nc_cons (nc_nil))))) (aa_cons (ae_call D__law_one hr (by omega) pass_0 rfl (aa_cons (ae_var (i := 0) rfl (.inl rfl)) (aa_cons (ae_lst (aa_cons (ae_int) (aa_cons (ae_int) (aa_cons (ae_int) (aa_cons (ae_int) (aa_cons (ae_int) (aa_nil)))))) (by decide) (nc_cons (nc_cons (nc_cons (nc_cons (nc_cons (nc_nil))))))) (aa_nil))) (nc_cons (nc_cons (nc_nil)))) (aa_nil))) (nc_cons (nc_cons (nc_nil))))))
  exact ⟨⟨f, fd, ["_law_deck_here"], G, hm, F.kp, (F.bindsN fun _ _ _ _ _ _ us hl => match us, hl with | [_], _ => rfl)⟩⟩
def N__law_marks : List Str := ["_law_deck_here", "_law_size", "_law_some", "_law_mark"]
abbrev sc__law_marks : Scope := L2.defScope (top 26)
theorem fs__law_marks : FnScope N__law_marks ["_law_deck_here", "_law_size"] sc__law_marks := ⟨rfl, rfl, rfl, by decide +kernel, rfl, by decide +kernel, by decide +kernel⟩
theorem d__law_marks {f : Addr} {fd : FuncData} (F : FunD K "_law_marks" "_law_marks" (L2.defArgs (top 26)) (L2.defBody (top 26)) sc__law_marks [] [] f fd) (hm : mg "_law_marks" = some (.ref f)) (h_tuple : mg "tuple" = none) (D__law_pick : DefF P w K mg base CX0 C0 1 "_law_pick" 2 m__law_pick) : DefF P w K mg base CX0 C0 2 "_law_marks" 2 m__law_marks := by
  have G : FnOk P w K mg base CX0 (1 + 1) f fd ["_law_deck_here", "_law_size"] (spF ⟨P, w, K⟩ C0 m__law_marks 2) :=
    fn_g (k := 1) (N := N__law_marks) (ps := ["_law_deck_here", "_law_size"]) (C := C0) (b := b__law_marks) F fs__law_marks fun cdv A outer s H E hr => by
      have hnd := fs__law_marks.nd
      exact (as_cons (as_set (i := 2) hnd rfl (.inl rfl) (ae_lst (aa_cons (ae_str) (aa_cons (ae_str) (aa_cons (ae_str) (aa_cons (ae_str) (aa_nil))))) (by decide) (nc_cons (nc_cons (nc_cons (nc_cons (nc_nil)))))))
    (as_one (as_ret (ae_callT c_tuple rfl h_tuple boot_tuple' (aa_cons (ae_lc rfl hnd (own := [("_law_mark", 3)]) (ai_seq (ae_var (i := 2) rfl (.inl rfl))) (blkOk_by (N := N__law_marks) (sc := sc__law_marks) (by decide +kernel)) (fun _ _ _ _ _ => ag_name (i := 3) hnd rfl (.inl rfl)) (fun _ _ _ _ _ => ats_one (at_cmp (o_eq hr.units) (ae_call D__law_pick hr (by omega) pass_0 rfl (aa_cons (ae_var (i := 0) rfl (.inr (.inl rfl))) (aa_cons (ae_var (i := 1) rfl (.inr (.inl rfl))) (aa_nil))) (nc_cons (nc_cons (nc_nil)))) (ae_int) (nomark _))) (fun _ _ _ _ _ => ae_var (i := 3) rfl (.inl rfl)) (by decide)) (aa_nil))))))
  exact ⟨⟨f, fd, ["_law_deck_here", "_law_size"], G, hm, F.kp, (F.bindsN fun _ _ _ _ _ _ us hl => match us, hl with | [_, _], _ => rfl)⟩⟩
def N__law_goods : List Str := ["_law_deck_here", "_law_found", "_law_name", "_law_days_here"]
abbrev sc__law_goods : Scope := L2.defScope (top 27)
theorem fs__law_goods : FnScope N__law_goods ["_law_deck_here"] sc__law_goods := ⟨rfl, rfl, rfl, by decide +kernel, rfl, by decide +kernel, by decide +kernel⟩
theorem d__law_goods {f : Addr} {fd : FuncData} (F : FunD K "_law_goods" "_law_goods" (L2.defArgs (top 27)) (L2.defBody (top 27)) sc__law_goods [] [] f fd) (hm : mg "_law_goods" = some (.ref f)) (h_tuple : mg "tuple" = none) (D__law_pick : DefF P w K mg base CX0 C0 1 "_law_pick" 2 m__law_pick) (D__law_one : DefF P w K mg base CX0 C0 2 "_law_one" 2 m__law_one) (D__law_marks : DefF P w K mg base CX0 C0 2 "_law_marks" 2 m__law_marks) : DefF P w K mg base CX0 C0 3 "_law_goods" 1 m__law_goods := by
  have G : FnOk P w K mg base CX0 (2 + 1) f fd ["_law_deck_here"] (spF ⟨P, w, K⟩ C0 m__law_goods 1) :=
    fn_g (k := 2) (N := N__law_goods) (ps := ["_law_deck_here"]) (C := C0) (b := b__law_goods) F fs__law_goods fun cdv A outer s H E hr => by
      have hnd := fs__law_goods.nd
      exact (as_cons (as_set (i := 1) hnd rfl (.inl rfl) (ae_newL (aa_nil) (by decide) (nc_nil)))
    (as_cons (as_for (passes_of rfl) rfl (ai_seq (ae_sl (ae_lst (aa_cons (ae_str) (aa_cons (ae_str) (aa_cons (ae_str) (aa_cons (ae_str) (aa_cons (ae_str) (aa_cons (ae_str) (aa_nil))))))) (by decide) (nc_cons (nc_cons (nc_cons (nc_cons (nc_cons (nc_cons (nc_nil)))))))) (ao_none) (ao_some (ae_bin o_add (ae_int) (ae_call D__law_pick hr (by omega) pass_0 rfl (aa_cons (ae_var (i := 0) rfl (.inl rfl)) (aa_cons (ae_int) (aa_nil))) (nc_cons (nc_cons (nc_nil)))))))) (ag_name (i := 2) hnd rfl (.inl rfl)) (ass_kill [3] (as_cons (as_set (i := 3) hnd rfl (.inl rfl) (ae_call D__law_one hr (by omega) pass_0 rfl (aa_cons (ae_var (i := 0) rfl (.inl rfl)) (aa_cons (ae_lst (aa_cons (ae_int) (aa_cons (ae_int) (aa_cons (ae_int) (aa_cons (ae_int) (aa_nil))))) (by decide) (nc_cons (nc_cons (nc_cons (nc_cons (nc_nil)))))) (aa_nil))) (nc_cons (nc_cons (nc_nil)))))
    (as_one (as_app (i := 1) rfl (.inl rfl) (ae_tup (aa_cons (ae_var (i := 2) rfl (.inl rfl)) (aa_cons (ae_bin o_add (ae_int) (ae_call D__law_pick hr (by omega) pass_0 rfl (aa_cons (ae_var (i := 0) rfl (.inl rfl)) (aa_cons (ae_int) (aa_nil))) (nc_cons (nc_cons (nc_nil))))) (aa_cons (ae_call D__law_pick hr (by omega) pass_0 rfl (aa_cons (ae_var (i := 0) rfl (.inl rfl)) (aa_cons (ae_int) (aa_nil))) (nc_cons (nc_cons (nc_nil)))) (aa_cons (ae_var (i := 3) rfl (.inl rfl)) (aa_cons (ae_call D__law_marks hr (by omega) pass_0 rfl (aa_cons (ae_var (i := 0) rfl (.inl rfl)) (aa_cons (ae_int) (aa_nil))) (nc_cons (nc_cons (nc_nil)))) (aa_nil)))))) (by decide) (nc_cons (nc_cons (nc_cons (nc_cons (nc_cons (nc_nil))))))))))))
    (ass_kill [2, 3] (as_one (as_ret (ae_callT c_tuple rfl h_tuple boot_tuple' (aa_cons (ae_var (i := 1) rfl (.inl rfl)) (aa_nil))))))))
  exact ⟨⟨f, fd, ["_law_deck_here"], G, hm, F.kp, (F.bindsN fun _ _ _ _ _ _ us hl => match us, hl with | [_], _ => rfl)⟩⟩
def N__law_store : List Str := ["_law_deck_here", "_law_goods_here", "_law_found", "_law_turn", "_law_one_here"]
abbrev sc__law_store : Scope := L2.defScope (top 28)
theorem fs__law_store : FnScope N__law_store ["_law_deck_here", "_law_goods_here"] sc__law_store := ⟨rfl, rfl, rfl, by decide +kernel, rfl, by decide +kernel, by decide +kernel⟩
theorem d__law_store {f : Addr} {fd : FuncData} (F : FunD K "_law_store" "_law_store" (L2.defArgs (top 28)) (L2.defBody (top 28)) sc__law_store [] [] f fd) (hm : mg "_law_store" = some (.ref f)) (h_range : mg "range" = none) (h_sorted : mg "sorted" = none) (h_tuple : mg "tuple" = none) (D__law_pick : DefF P w K mg base CX0 C0 1 "_law_pick" 2 m__law_pick) (D__law_one : DefF P w K mg base CX0 C0 2 "_law_one" 2 m__law_one) (D__law_amount : DefF P w K mg base CX0 C0 3 "_law_amount" 1 m__law_amount) : DefF P w K mg base CX0 C0 4 "_law_store" 2 m__law_store := by
  have G : FnOk P w K mg base CX0 (3 + 1) f fd ["_law_deck_here", "_law_goods_here"] (spF ⟨P, w, K⟩ C0 m__law_store 2) :=
    fn_g (k := 3) (N := N__law_store) (ps := ["_law_deck_here", "_law_goods_here"]) (C := C0) (b := b__law_store) F fs__law_store fun cdv A outer s H E hr => by
      have hnd := fs__law_store.nd
      exact (as_cons (as_set (i := 2) hnd rfl (.inr rfl) (ae_newD true))
    (as_cons (as_for (passes_of rfl) rfl (ai_range1 rfl h_range (ae_call D__law_pick hr (by omega) pass_0 rfl (aa_cons (ae_var (i := 0) rfl (.inl rfl)) (aa_cons (ae_int) (aa_nil))) (nc_cons (nc_cons (nc_nil))))) (ag_name (i := 3) hnd rfl (.inl rfl)) (ass_kill [3] (as_one (as_dset (i := 2) hr.units rfl (.inr (.inl rfl)) (ae_tup (aa_cons (ae_ix (ae_call D__law_one hr (by omega) pass_0 rfl (aa_cons (ae_var (i := 0) rfl (.inl rfl)) (aa_cons (ae_var (i := 1) rfl (.inl rfl)) (aa_nil))) (nc_cons (nc_cons (nc_nil)))) (ae_int)) (aa_cons (ae_call D__law_pick hr (by omega) pass_0 rfl (aa_cons (ae_var (i := 0) rfl (.inl rfl)) (aa_cons (ae_int) (aa_nil))) (nc_cons (nc_cons (nc_nil)))) (aa_nil))) (by decide) (nc_cons (nc_cons (nc_nil)))) (ae_call D__law_amount hr (by omega) pass_0 rfl (aa_cons (ae_var (i := 0) rfl (.inl rfl)) (aa_nil)) (nc_cons (nc_nil)))))))
    (ass_kill [3] (as_one (as_ret (ae_callT c_tuple rfl h_tuple boot_tuple' (aa_cons (ae_lc rfl hnd (own := [("_law_one_here", 4)]) (ai_seq (ae_callBD (c_sortedK rfl hr.units) rfl h_sorted boot_sorted' (ae_var (i := 2) rfl (.inr (.inl rfl))))) (blkOk_by (N := N__law_store) (sc := sc__law_store) (by decide +kernel)) (fun _ _ _ _ _ => ag_name (i := 4) hnd rfl (.inl rfl)) (fun _ _ _ _ _ => ats_nil) (fun _ _ _ _ _ => ae_bin o_add (ae_var (i := 4) rfl (.inl rfl)) (ae_tup (aa_cons (ae_dget hr.units (ae_var (i := 2) rfl (.inr (.inl rfl))) (ae_var (i := 4) rfl (.inl rfl))) (aa_nil)) (by decide) (nc_cons (nc_nil)))) (by decide)) (aa_nil))))))))
  exact ⟨⟨f, fd, ["_law_deck_here", "_law_goods_here"], G, hm, F.kp, (F.bindsN fun _ _ _ _ _ _ us hl => match us, hl with | [_, _], _ => rfl)⟩⟩
def N__law_days : List Str := ["_law_goods_here", "_law_name", "_law_good"]
abbrev sc__law_days : Scope := L2.defScope (top 29)
theorem fs__law_days : FnScope N__law_days ["_law_goods_here", "_law_name"] sc__law_days := ⟨rfl, rfl, rfl, by decide +kernel, rfl, by decide +kernel, by decide +kernel⟩
theorem d__law_days {f : Addr} {fd : FuncData} (F : FunD K "_law_days" "_law_days" (L2.defArgs (top 29)) (L2.defBody (top 29)) sc__law_days [] [] f fd) (hm : mg "_law_days" = some (.ref f))  : DefF P w K mg base CX0 C0 1 "_law_days" 2 m__law_days := by
  have G : FnOk P w K mg base CX0 (0 + 1) f fd ["_law_goods_here", "_law_name"] (spF ⟨P, w, K⟩ C0 m__law_days 2) :=
    fn_g (k := 0) (N := N__law_days) (ps := ["_law_goods_here", "_law_name"]) (C := C0) (b := b__law_days) F fs__law_days fun cdv A outer s H E hr => by
      have hnd := fs__law_days.nd
      exact (as_one (as_ret (ae_ix (ae_lc rfl hnd (own := [("_law_good", 2)]) (ai_seq (ae_var (i := 0) rfl (.inl rfl))) (blkOk_by (N := N__law_days) (sc := sc__law_days) (by decide +kernel)) (fun _ _ _ _ _ => ag_name (i := 2) hnd rfl (.inl rfl)) (fun _ _ _ _ _ => ats_one (at_cmp (o_eq hr.units) (ae_ix (ae_var (i := 2) rfl (.inl rfl)) (ae_int)) (ae_var (i := 1) rfl (.inr (.inl rfl))) (nomark _))) (fun _ _ _ _ _ => ae_ix (ae_var (i := 2) rfl (.inl rfl)) (ae_int)) (by decide)) (ae_int))))
  exact ⟨⟨f, fd, ["_law_goods_here", "_law_name"], G, hm, F.kp, (F.bindsN fun _ _ _ _ _ _ us hl => match us, hl with | [_, _], _ => rfl)⟩⟩
def N__law_is_over : List Str := ["_law_goods_here", "_law_lot", "_law_day"]
abbrev sc__law_is_over : Scope := L2.defScope (top 30)
theorem fs__law_is_over : FnScope N__law_is_over ["_law_goods_here", "_law_lot", "_law_day"] sc__law_is_over := ⟨rfl, rfl, rfl, by decide +kernel, rfl, by decide +kernel, by decide +kernel⟩
theorem d__law_is_over {f : Addr} {fd : FuncData} (F : FunD K "_law_is_over" "_law_is_over" (L2.defArgs (top 30)) (L2.defBody (top 30)) sc__law_is_over [] [] f fd) (hm : mg "_law_is_over" = some (.ref f)) (D__law_days : DefF P w K mg base CX0 C0 1 "_law_days" 2 m__law_days) : DefF P w K mg base CX0 C0 2 "_law_is_over" 3 m__law_is_over := by
  have G : FnOk P w K mg base CX0 (1 + 1) f fd ["_law_goods_here", "_law_lot", "_law_day"] (spF ⟨P, w, K⟩ C0 m__law_is_over 3) :=
    fn_g (k := 1) (N := N__law_is_over) (ps := ["_law_goods_here", "_law_lot", "_law_day"]) (C := C0) (b := b__law_is_over) F fs__law_is_over fun cdv A outer s H E hr => by
      have hnd := fs__law_is_over.nd
      exact (as_one (as_ret (ae_cmp o_gt (ae_var (i := 2) rfl (.inl rfl)) (ae_bin o_add (ae_ix (ae_var (i := 1) rfl (.inl rfl)) (ae_int)) (ae_call D__law_days hr (by omega) pass_0 rfl (aa_cons (ae_var (i := 0) rfl (.inl rfl)) (aa_cons (ae_ix (ae_var (i := 1) rfl (.inl rfl)) (ae_int)) (aa_nil))) (nc_cons (nc_cons (nc_nil))))) (nomark _))))
  exact ⟨⟨f, fd, ["_law_goods_here", "_law_lot", "_law_day"], G, hm, F.kp, (F.bindsN fun _ _ _ _ _ _ us hl => match us, hl with | [_, _, _], _ => rfl)⟩⟩
def N__law_below : List Str := ["_law_one_here", "_law_other"]
abbrev sc__law_below : Scope := L2.defScope (top 31)
theorem fs__law_below : FnScope N__law_below ["_law_one_here", "_law_other"] sc__law_below := ⟨rfl, rfl, rfl, by decide +kernel, rfl, by decide +kernel, by decide +kernel⟩
theorem d__law_below {f : Addr} {fd : FuncData} (F : FunD K "_law_below" "_law_below" (L2.defArgs (top 31)) (L2.defBody (top 31)) sc__law_below [] [] f fd) (hm : mg "_law_below" = some (.ref f))  : DefF P w K mg base CX0 C0 1 "_law_below" 2 m__law_below := by
  have G : FnOk P w K mg base CX0 (0 + 1) f fd ["_law_one_here", "_law_other"] (spF ⟨P, w, K⟩ C0 m__law_below 2) :=
    fn_g (k := 0) (N := N__law_below) (ps := ["_law_one_here", "_law_other"]) (C := C0) (b := b__law_below) F fs__law_below fun cdv A outer s H E hr => by
      have hnd := fs__law_below.nd
      exact (as_one (as_ret (ae_cmp (o_lt hr.units) (ae_bin o_mul (ae_ix (ae_var (i := 0) rfl (.inl rfl)) (ae_int)) (ae_ix (ae_var (i := 1) rfl (.inl rfl)) (ae_int))) (ae_bin o_mul (ae_ix (ae_var (i := 1) rfl (.inl rfl)) (ae_int)) (ae_ix (ae_var (i := 0) rfl (.inl rfl)) (ae_int))) (nomark _))))
  exact ⟨⟨f, fd, ["_law_one_here", "_law_other"], G, hm, F.kp, (F.bindsN fun _ _ _ _ _ _ us hl => match us, hl with | [_, _], _ => rfl)⟩⟩
def N__law_taken : List Str := ["_law_goods_here", "_law_store_here", "_law_wants_here", "_law_day", "_law_rows", "_law_left", "_law_name", "_law_grams", "_law_lot", "_law_part", "_law_rest", "_law_at", "_law_one_here"]
abbrev sc__law_taken : Scope := L2.defScope (top 32)
theorem fs__law_taken : FnScope N__law_taken ["_law_goods_here", "_law_store_here", "_law_wants_here", "_law_day"] sc__law_taken := ⟨rfl, rfl, rfl, by decide +kernel, rfl, by decide +kernel, by decide +kernel⟩
theorem d__law_taken {f : Addr} {fd : FuncData} (F : FunD K "_law_taken" "_law_taken" (L2.defArgs (top 32)) (L2.defBody (top 32)) sc__law_taken [] [] f fd) (hm : mg "_law_taken" = some (.ref f)) (h_list : mg "list" = none) (h_sorted : mg "sorted" = none) (h_tuple : mg "tuple" = none) (D__law_minus : DefF P w K mg base CX0 C0 2 "_law_minus" 2 m__law_minus) (D__law_is_over : DefF P w K mg base CX0 C0 2 "_law_is_over" 3 m__law_is_over) (D__law_below : DefF P w K mg base CX0 C0 1 "_law_below" 2 m__law_below) : DefF P w K mg base CX0 C0 3 "_law_taken" 4 m__law_taken := by
  have G : FnOk P w K mg base CX0 (2 + 1) f fd ["_law_goods_here", "_law_store_here", "_law_wants_here", "_law_day"] (spF ⟨P, w, K⟩ C0 m__law_taken 4) :=
    fn_g (k := 2) (N := N__law_taken) (ps := ["_law_goods_here", "_law_store_here", "_law_wants_here", "_law_day"]) (C := C0) (b := b__law_taken) F fs__law_taken fun cdv A outer s H E hr => by
      have hnd := fs__law_taken.nd
      exact (as_cons (as_par (i := 4) (j := 5) rfl hnd rfl rfl (by decide) rfl rfl (aa_cons (ae_newL (aa_nil) (by decide) (nc_nil)) (aa_cons (ae_listF rfl h_list (ae_var (i := 1) rfl (.inl rfl))) (aa_nil))) (by rfl))
    (as_cons (as_for (passes_of rfl) rfl (ai_seq (ae_var (i := 2) rfl (.inl rfl))) (ag_tup rfl (ags_cons (i := 6) hnd rfl (.inr rfl) (ags_cons (i := 7) hnd rfl (.inl rfl) (ags_nil))) rfl) (ass_kill [8, 9, 10, 11] (as_cons (as_for (passes_of rfl) rfl (ai_seq (ae_lc rfl hnd (own := [("_law_one_here", 12)]) (ai_seq (ae_var (i := 1) rfl (.inl rfl))) (blkOk_by (N := N__law_taken) (sc := sc__law_taken) (by decide +kernel)) (fun _ _ _ _ _ => ag_name (i := 12) hnd rfl (.inl rfl)) (fun _ _ _ _ _ => ats_one (at_w (aw_and (at_cmp (o_eq hr.units) (ae_ix (ae_var (i := 12) rfl (.inl rfl)) (ae_int)) (ae_var (i := 6) rfl (.inr (.inl rfl))) (nomark _)) (aw_and1 (at_not (at_val (ae_call D__law_is_over hr (by omega) pass_0 rfl (aa_cons (ae_var (i := 0) rfl (.inr (.inl rfl))) (aa_cons (ae_var (i := 12) rfl (.inl rfl)) (aa_cons (ae_var (i := 3) rfl (.inr (.inl rfl))) (aa_nil)))) (nc_cons (nc_cons (nc_cons (nc_nil))))))))))) (fun _ _ _ _ _ => ae_var (i := 12) rfl (.inl rfl)) (by decide))) (ag_name (i := 8) hnd rfl (.inl rfl)) (ass_kill [9, 10, 11] (as_one (as_if (at_cmp o_gt (ae_ix (ae_var (i := 7) rfl (.inl rfl)) (ae_int)) (ae_int) (nomark _)) (as_cons (as_set (i := 9) hnd rfl (.inl rfl) (ae_if (at_val (ae_call D__law_below hr (by omega) pass_0 rfl (aa_cons (ae_ix (ae_var (i := 8) rfl (.inl rfl)) (ae_int)) (aa_cons (ae_var (i := 7) rfl (.inl rfl)) (aa_nil))) (nc_cons (nc_cons (nc_nil))))) (ae_ix (ae_var (i := 8) rfl (.inl rfl)) (ae_int)) (ae_var (i := 7) rfl (.inl rfl))))
    (as_cons (as_app (i := 4) rfl (.inl rfl) (ae_bin o_add (ae_sl (ae_var (i := 8) rfl (.inl rfl)) (ao_none) (ao_some (ae_int))) (ae_tup (aa_cons (ae_var (i := 9) rfl (.inl rfl)) (aa_nil)) (by decide) (nc_cons (nc_nil)))))
    (as_cons (as_set (i := 10) hnd rfl (.inl rfl) (ae_call D__law_minus hr (by omega) pass_0 rfl (aa_cons (ae_ix (ae_var (i := 8) rfl (.inl rfl)) (ae_int)) (aa_cons (ae_var (i := 9) rfl (.inl rfl)) (aa_nil))) (nc_cons (nc_cons (nc_nil)))))
    (as_cons (as_set (i := 11) hnd rfl (.inl rfl) (ae_index (i := 5) (room65 hr) rfl (.inl rfl) (ae_var (i := 8) rfl (.inl rfl))))
    (as_cons (as_slSet (i := 5) rfl (.inl rfl) (ae_var (i := 11) rfl (.inl rfl)) (ae_bin o_add (ae_var (i := 11) rfl (.inl rfl)) (ae_int)) (ae_if (at_cmp o_gt (ae_ix (ae_var (i := 10) rfl (.inl rfl)) (ae_int)) (ae_int) (nomark _)) (ae_lst (aa_cons (ae_bin o_add (ae_sl (ae_var (i := 8) rfl (.inl rfl)) (ao_none) (ao_some (ae_int))) (ae_tup (aa_cons (ae_var (i := 10) rfl (.inl rfl)) (aa_nil)) (by decide) (nc_cons (nc_nil)))) (aa_nil)) (by decide) (nc_cons (nc_nil))) (ae_lst (aa_nil) (by decide) (nc_nil))))
    (as_one (as_set (i := 7) hnd rfl (.inl rfl) (ae_call D__law_minus hr (by omega) pass_0 rfl (aa_cons (ae_var (i := 7) rfl (.inl rfl)) (aa_cons (ae_var (i := 9) rfl (.inl rfl)) (aa_nil))) (nc_cons (nc_cons (nc_nil))))))))))) (as_nil)))))
    (ass_kill [8, 9, 10, 11] (as_one (as_if (at_cmp o_gt (ae_ix (ae_var (i := 7) rfl (.inl rfl)) (ae_int)) (ae_int) (nomark _)) (as_one (as_ret (ae_lst (aa_cons (ae_var (i := 6) rfl (.inr (.inl rfl))) (aa_cons (ae_var (i := 7) rfl (.inl rfl)) (aa_nil))) (by decide) (nc_cons (nc_cons (nc_nil)))))) (as_nil)))))))
    (ass_kill [6, 7, 8, 9, 10, 11] (as_one (as_ret (ae_tup (aa_cons (ae_str) (aa_cons (ae_tup (aa_cons (ae_callB (c_sorted hr.units) rfl h_sorted boot_sorted' (aa_cons (ae_var (i := 4) rfl (.inl rfl)) (aa_nil))) (aa_cons (ae_callT c_tuple rfl h_tuple boot_tuple' (aa_cons (ae_var (i := 5) rfl (.inl rfl)) (aa_nil))) (aa_nil))) (by decide) (nc_cons (nc_cons (nc_nil)))) (aa_nil))) (by decide) (nc_cons (nc_cons (nc_nil)))))))))
  exact ⟨⟨f, fd, ["_law_goods_here", "_law_store_here", "_law_wants_here", "_law_day"], G, hm, F.kp, (F.bindsN fun _ _ _ _ _ _ us hl => match us, hl with | [_, _, _, _], _ => rfl)⟩⟩
def N__law_wants : List Str := ["_law_deck_here", "_law_goods_here", "_law_found", "_law_turn"]
abbrev sc__law_wants : Scope := L2.defScope (top 33)
theorem fs__law_wants : FnScope N__law_wants ["_law_deck_here", "_law_goods_here"] sc__law_wants := ⟨rfl, rfl, rfl, by decide +kernel, rfl, by decide +kernel, by decide +kernel⟩
theorem d__law_wants {f : Addr} {fd : FuncData} (F : FunD K "_law_wants" "_law_wants" (L2.defArgs (top 33)) (L2.defBody (top 33)) sc__law_wants [] [] f fd) (hm : mg "_law_wants" = some (.ref f)) (h_range : mg "range" = none) (h_sorted : mg "sorted" = none) (D__law_pick : DefF P w K mg base CX0 C0 1 "_law_pick" 2 m__law_pick) (D__law_one : DefF P w K mg base CX0 C0 2 "_law_one" 2 m__law_one) (D__law_amount : DefF P w K mg base CX0 C0 3 "_law_amount" 1 m__law_amount) : DefF P w K mg base CX0 C0 4 "_law_wants" 2 m__law_wants := by
  have G : FnOk P w K mg base CX0 (3 + 1) f fd ["_law_deck_here", "_law_goods_here"] (spF ⟨P, w, K⟩ C0 m__law_wants 2) :=
    fn_g (k := 3) (N := N__law_wants) (ps := ["_law_deck_here", "_law_goods_here"]) (C := C0) (b := b__law_wants) F fs__law_wants fun cdv A outer s H E hr => by
      have hnd := fs__law_wants.nd
      exact (as_cons (as_set (i := 2) hnd rfl (.inl rfl) (ae_newD false))
    (as_cons (as_for (passes_of rfl) rfl (ai_range1 rfl h_range (ae_bin o_add (ae_int) (ae_call D__law_pick hr (by omega) pass_0 rfl (aa_cons (ae_var (i := 0) rfl (.inl rfl)) (aa_cons (ae_int) (aa_nil))) (nc_cons (nc_cons (nc_nil)))))) (ag_name (i := 3) hnd rfl (.inl rfl)) (ass_kill [3] (as_one (as_dset (i := 2) hr.units rfl (.inl rfl) (ae_ix (ae_call D__law_one hr (by omega) pass_0 rfl (aa_cons (ae_var (i := 0) rfl (.inl rfl)) (aa_cons (ae_var (i := 1) rfl (.inl rfl)) (aa_nil))) (nc_cons (nc_cons (nc_nil)))) (ae_int)) (ae_call D__law_amount hr (by omega) pass_0 rfl (aa_cons (ae_var (i := 0) rfl (.inl rfl)) (aa_nil)) (nc_cons (nc_nil)))))))
    (ass_kill [3] (as_one (as_ret (ae_callBI (c_sortedI rfl hr.units) rfl h_sorted boot_sorted' (ae_var (i := 2) rfl (.inl rfl))))))))
  exact ⟨⟨f, fd, ["_law_deck_here", "_law_goods_here"], G, hm, F.kp, (F.bindsN fun _ _ _ _ _ _ us hl => match us, hl with | [_, _], _ => rfl)⟩⟩
def N__law_lasts : List Str := ["_law_goods_here", "_law_store_here", "_law_wants_here", "_law_day", "_law_count", "_law_found"]
abbrev sc__law_lasts : Scope := L2.defScope (top 34)
theorem fs__law_lasts : FnScope N__law_lasts ["_law_goods_here", "_law_store_here", "_law_wants_here", "_law_day"] sc__law_lasts := ⟨rfl, rfl, rfl, by decide +kernel, rfl, by decide +kernel, by decide +kernel⟩
theorem d__law_lasts {f : Addr} {fd : FuncData} (F : FunD K "_law_lasts" "_law_lasts" (L2.defArgs (top 34)) (L2.defBody (top 34)) sc__law_lasts [] [] f fd) (hm : mg "_law_lasts" = some (.ref f)) (h_isinstance : mg "isinstance" = none) (h_list : mg "list" = none) (h_range : mg "range" = none) (D__law_taken : DefF P w K mg base CX0 C0 3 "_law_taken" 4 m__law_taken) : DefF P w K mg base CX0 C0 4 "_law_lasts" 4 m__law_lasts := by
  have G : FnOk P w K mg base CX0 (3 + 1) f fd ["_law_goods_here", "_law_store_here", "_law_wants_here", "_law_day"] (spF ⟨P, w, K⟩ C0 m__law_lasts 4) :=
    fn_g (k := 3) (N := N__law_lasts) (ps := ["_law_goods_here", "_law_store_here", "_law_wants_here", "_law_day"]) (C := C0) (b := b__law_lasts) F fs__law_lasts fun cdv A outer s H E hr => by
      have hnd := fs__law_lasts.nd
      exact (as_cons (as_for (passes_of rfl) rfl (ai_range1 rfl h_range (ae_int)) (ag_name (i := 4) hnd rfl (.inl rfl)) (ass_kill [5] (as_cons (as_set (i := 5) hnd rfl (.inl rfl) (ae_call D__law_taken hr (by omega) pass_0 rfl (aa_cons (ae_var (i := 0) rfl (.inl rfl)) (aa_cons (ae_var (i := 1) rfl (.inl rfl)) (aa_cons (ae_var (i := 2) rfl (.inl rfl)) (aa_cons (ae_bin o_add (ae_var (i := 3) rfl (.inl rfl)) (ae_var (i := 4) rfl (.inl rfl))) (aa_nil))))) (nc_cons (nc_cons (nc_cons (nc_cons (nc_nil)))))))
    (as_cons (as_if (at_val (ae_is1 tyOk_list rfl h_isinstance rfl h_list boot_list' (ae_var (i := 5) rfl (.inl rfl)))) (as_one (as_ret (ae_var (i := 4) rfl (.inl rfl)))) (as_nil))
    (as_one (as_set (i := 1) hnd rfl (.inl rfl) (ae_ix (ae_ix (ae_var (i := 5) rfl (.inl rfl)) (ae_int)) (ae_int))))))))
    (ass_kill [1, 4, 5] (as_one (as_ret (ae_int)))))
  exact ⟨⟨f, fd, ["_law_goods_here", "_law_store_here", "_law_wants_here", "_law_day"], G, hm, F.kp, (F.bindsN fun _ _ _ _ _ _ us hl => match us, hl with | [_, _, _, _], _ => rfl)⟩⟩
def N__law_orders_of : List Str := ["_law_things", "_law_found", "_law_at", "_law_thing", "_law_rest"]
abbrev sc__law_orders_of : Scope := L2.defScope (top 35)
theorem fs__law_orders_of : FnScope N__law_orders_of ["_law_things"] sc__law_orders_of := ⟨rfl, rfl, rfl, by decide +kernel, rfl, by decide +kernel, by decide +kernel⟩
theorem d__law_orders_of {f : Addr} {fd : FuncData} (F : FunD K "_law_orders_of" "_law_orders_of" (L2.defArgs (top 35)) (L2.defBody (top 35)) sc__law_orders_of [] [] f fd) (hm : mg "_law_orders_of" = some (.ref f)) (h_enumerate : mg "enumerate" = none) : ∀ q : Nat, DefF P w K mg base CX0 C0 (1 + q) "_law_orders_of" 1 (m__law_orders_of q)
  | 0 => ⟨⟨f, fd, ["_law_things"], fn_err (N := N__law_orders_of) (ps := ["_law_things"]) (k := 0) F fs__law_orders_of, hm, F.kp, (F.bindsN fun _ _ _ _ _ _ us hl => match us, hl with | [_], _ => rfl)⟩⟩
  | q + 1 => by
    have D_self := d__law_orders_of F hm h_enumerate  q
    have G : FnOk P w K mg base CX0 (1 + q + 1) f fd ["_law_things"] (spF ⟨P, w, K⟩ C0 (m__law_orders_of (q + 1)) 1) :=
      fn_g (k := 1 + q) (N := N__law_orders_of) (ps := ["_law_things"]) (C := C0) (b := b__law_orders_of (m__law_orders_of q)) F fs__law_orders_of fun cdv A outer s H E hr => by
        have hnd := fs__law_orders_of.nd
        exact (as_cons (as_if (at_cmp (o_eq hr.units) (ae_var (i := 0) rfl (.inl rfl)) (ae_lst (aa_nil) (by decide) (nc_nil)) (nomark _)) (as_one (as_ret (ae_lst (aa_cons (ae_lst (aa_nil) (by decide) (nc_nil)) (aa_nil)) (by decide) (nc_cons (nc_nil))))) (as_nil))
    (as_cons (as_set (i := 1) hnd rfl (.inl rfl) (ae_lst (aa_nil) (by decide) (nc_nil)))
    (as_cons (as_for (passes_of rfl) rfl (ai_enum rfl h_enumerate (ae_var (i := 0) rfl (.inl rfl))) (ag_tup rfl (ags_cons (i := 2) hnd rfl (.inl rfl) (ags_cons (i := 3) hnd rfl (.inr rfl) (ags_nil))) rfl) (as_one (as_set (i := 1) hnd rfl (.inl rfl) (ae_bin o_add (ae_var (i := 1) rfl (.inl rfl)) (ae_lc rfl hnd (own := [("_law_rest", 4)]) (ai_seq (ae_call D_self hr (by omega) pass_0 rfl (aa_cons (ae_bin o_add (ae_sl (ae_var (i := 0) rfl (.inl rfl)) (ao_none) (ao_some (ae_var (i := 2) rfl (.inl rfl)))) (ae_sl (ae_var (i := 0) rfl (.inl rfl)) (ao_some (ae_bin o_add (ae_var (i := 2) rfl (.inl rfl)) (ae_int))) (ao_none))) (aa_nil)) (nc_cons (nc_nil)))) (blkOk_by (N := N__law_orders_of) (sc := sc__law_orders_of) (by decide +kernel)) (fun _ _ _ _ _ => ag_name (i := 4) hnd rfl (.inl rfl)) (fun _ _ _ _ _ => ats_nil) (fun _ _ _ _ _ => ae_bin o_add (ae_lst (aa_cons (ae_var (i := 3) rfl (.inr (.inl rfl))) (aa_nil)) (by decide) (nc_cons (nc_nil))) (ae_var (i := 4) rfl (.inl rfl))) (by decide))))))
    (ass_kill [2, 3] (as_one (as_ret (ae_var (i := 1) rfl (.inl rfl))))))))
    exact ⟨⟨f, fd, ["_law_things"], G, hm, F.kp, (F.bindsN fun _ _ _ _ _ _ us hl => match us, hl with | [_], _ => rfl)⟩⟩
def N__law_lasts_by : List Str := ["_law_goods_here", "_law_lots", "_law_need", "_law_day", "_law_left", "_law_count", "_law_want", "_law_row", "_law_part", "_law_lot"]
abbrev sc__law_lasts_by : Scope := L2.defScope (top 36)
theorem fs__law_lasts_by : FnScope N__law_lasts_by ["_law_goods_here", "_law_lots", "_law_need", "_law_day"] sc__law_lasts_by := ⟨rfl, rfl, rfl, by decide +kernel, rfl, by decide +kernel, by decide +kernel⟩
theorem d__law_lasts_by {f : Addr} {fd : FuncData} (F : FunD K "_law_lasts_by" "_law_lasts_by" (L2.defArgs (top 36)) (L2.defBody (top 36)) sc__law_lasts_by [] [] f fd) (hm : mg "_law_lasts_by" = some (.ref f)) (h_range : mg "range" = none) (D__law_minus : DefF P w K mg base CX0 C0 2 "_law_minus" 2 m__law_minus) (D__law_is_over : DefF P w K mg base CX0 C0 2 "_law_is_over" 3 m__law_is_over) (D__law_below : DefF P w K mg base CX0 C0 1 "_law_below" 2 m__law_below) : DefF P w K mg base CX0 C0 3 "_law_lasts_by" 4 m__law_lasts_by := by
  have G : FnOk P w K mg base CX0 (2 + 1) f fd ["_law_goods_here", "_law_lots", "_law_need", "_law_day"] (spF ⟨P, w, K⟩ C0 m__law_lasts_by 4) :=
    fn_g (k := 2) (N := N__law_lasts_by) (ps := ["_law_goods_here", "_law_lots", "_law_need", "_law_day"]) (C := C0) (b := b__law_lasts_by) F fs__law_lasts_by fun cdv A outer s H E hr => by
      have hnd := fs__law_lasts_by.nd
      exact (as_cons (as_setRows (i := 4) rfl hnd rfl rfl rfl (own := [("_law_lot", 9)]) (ai_seq (ae_var (i := 1) rfl (.inl rfl))) (blkOk_by (N := N__law_lasts_by) (sc := sc__law_lasts_by) (by decide +kernel)) (fun _ _ _ _ _ => ag_name (i := 9) hnd rfl (.inl rfl)) (fun _ _ _ _ _ => ats_nil) (fun _ _ _ _ _ => ae_newL (aa_cons (ae_var (i := 9) rfl (.inl rfl)) (aa_cons (ae_ix (ae_var (i := 9) rfl (.inl rfl)) (ae_int)) (aa_nil))) (by decide) (nc_cons (nc_cons (nc_nil)))) (by decide))
    (as_cons (as_for (passes_of rfl) rfl (ai_range1 rfl h_range (ae_int)) (ag_name (i := 5) hnd rfl (.inl rfl)) (ass_kill [6, 7, 8] (as_cons (as_set (i := 6) hnd rfl (.inl rfl) (ae_var (i := 2) rfl (.inl rfl)))
    (as_cons (as_forR (passes_of rfl) rfl (ae_var (i := 4) rfl (.inl rfl)) hnd rfl (.inl rfl) (ass_kill [8] (as_one (as_if (at_w (aw_and (at_not (at_val (ae_call D__law_is_over hr (by omega) pass_0 rfl (aa_cons (ae_var (i := 0) rfl (.inl rfl)) (aa_cons (ae_ix (ae_var (i := 7) rfl (.inl rfl)) (ae_int)) (aa_cons (ae_bin o_add (ae_var (i := 3) rfl (.inl rfl)) (ae_var (i := 5) rfl (.inl rfl))) (aa_nil)))) (nc_cons (nc_cons (nc_cons (nc_nil))))))) (aw_and (at_cmp o_gt (ae_ix (ae_var (i := 6) rfl (.inl rfl)) (ae_int)) (ae_int) (nomark _)) (aw_and1 (at_cmp o_gt (ae_ix (ae_ix (ae_var (i := 7) rfl (.inl rfl)) (ae_int)) (ae_int)) (ae_int) (nomark _)))))) (as_cons (as_set (i := 8) hnd rfl (.inl rfl) (ae_if (at_val (ae_call D__law_below hr (by omega) pass_0 rfl (aa_cons (ae_ix (ae_var (i := 7) rfl (.inl rfl)) (ae_int)) (aa_cons (ae_var (i := 6) rfl (.inl rfl)) (aa_nil))) (nc_cons (nc_cons (nc_nil))))) (ae_ix (ae_var (i := 7) rfl (.inl rfl)) (ae_int)) (ae_var (i := 6) rfl (.inl rfl))))
    (as_cons (as_setIx (i := 7) rfl (.inl rfl) (ae_int) (ae_call D__law_minus hr (by omega) pass_0 rfl (aa_cons (ae_ix (ae_var (i := 7) rfl (.inl rfl)) (ae_int)) (aa_cons (ae_var (i := 8) rfl (.inl rfl)) (aa_nil))) (nc_cons (nc_cons (nc_nil)))))
    (as_one (as_set (i := 6) hnd rfl (.inl rfl) (ae_call D__law_minus hr (by omega) pass_0 rfl (aa_cons (ae_var (i := 6) rfl (.inl rfl)) (aa_cons (ae_var (i := 8) rfl (.inl rfl)) (aa_nil))) (nc_cons (nc_cons (nc_nil)))))))) (as_nil)))))
    (ass_kill [7, 8] (as_one (as_if (at_cmp o_gt (ae_ix (ae_var (i := 6) rfl (.inl rfl)) (ae_int)) (ae_int) (nomark _)) (as_one (as_ret (ae_var (i := 5) rfl (.inl rfl)))) (as_nil))))))))
    (ass_kill [5, 6, 7, 8] (as_one (as_ret (ae_int))))))
  exact ⟨⟨f, fd, ["_law_goods_here", "_law_lots", "_law_need", "_law_day"], G, hm, F.kp, (F.bindsN fun _ _ _ _ _ _ us hl => match us, hl with | [_, _, _, _], _ => rfl)⟩⟩
def N_law : List Str := ["_law_script", "_law_cell", "_law_deck_here", "_law_goods_here", "_law_one_here", "_law_day", "_law_store_here", "_law_wants_here", "_law_told", "_law_at", "_law_name", "_law_lots", "_law_need", "_law_best", "_law_some", "_law_k"]
abbrev sc_law : Scope := L2.defScope (top 37)
theorem fs_law : FnScope N_law ["_law_script"] sc_law := ⟨rfl, rfl, rfl, by decide +kernel, rfl, by decide +kernel, by decide +kernel⟩
theorem d_law {f : Addr} {fd : FuncData} (F : FunD K "law" "law" (L2.defArgs (top 37)) (L2.defBody (top 37)) sc_law [] [] f fd) (hm : mg "law" = some (.ref f)) (h_len : mg "len" = none) (h_range : mg "range" = none) (h_tuple : mg "tuple" = none) (D_lasts : DefF P w K mg base CX0 C0 6 "lasts" 4 m_lasts) (D__law_deck : DefF P w K mg base CX0 C0 1 "_law_deck" 2 m__law_deck) (D__law_pick : DefF P w K mg base CX0 C0 1 "_law_pick" 2 m__law_pick) (D__law_same : DefF P w K mg base CX0 C0 9 "_law_same" 2 (m__law_same 8)) (D__law_goods : DefF P w K mg base CX0 C0 3 "_law_goods" 1 m__law_goods) (D__law_store : DefF P w K mg base CX0 C0 4 "_law_store" 2 m__law_store) (D__law_wants : DefF P w K mg base CX0 C0 4 "_law_wants" 2 m__law_wants) (D__law_lasts : DefF P w K mg base CX0 C0 4 "_law_lasts" 4 m__law_lasts) (D__law_orders_of : DefF P w K mg base CX0 C0 13 "_law_orders_of" 1 (m__law_orders_of 12)) (D__law_lasts_by : DefF P w K mg base CX0 C0 3 "_law_lasts_by" 4 m__law_lasts_by) : FnOk P w K mg base CX0 (13 + 1) f fd ["_law_script"] (spF ⟨P, w, K⟩ C0 m_law 1) :=
    fn_g (k := 13) (N := N_law) (ps := ["_law_script"]) (C := C0) (b := b_law) F fs_law fun cdv A outer s H E hr => by
      have hnd := fs_law.nd
      exact (as_cons (as_for (passes_of rfl) rfl (ai_seq (ae_sl (ae_bin o_add (ae_lst (aa_cons (ae_int) (aa_nil)) (by decide) (nc_cons (nc_nil))) (ae_var (i := 0) rfl (.inl rfl))) (ao_none) (ao_some (ae_int)))) (ag_name (i := 1) hnd rfl (.inl rfl)) (ass_kill [2, 3, 4, 5, 6, 7, 8, 9, 10, 11, 12, 13, 14] (ass_gc (as_cons (as_set (i := 2) hnd rfl (.inr rfl) (ae_callF D__law_deck hr (by omega) pass_0 rfl (aa_cons (ae_var (i := 1) rfl (.inl rfl)) (aa_cons (ae_int) (aa_nil))) (nc_cons (nc_cons (nc_nil)))))
    (as_cons (as_set (i := 3) hnd rfl (.inl rfl) (ae_newL (aa_nil) (by decide) (nc_nil)))
    (as_cons (as_for (passes_of rfl) rfl (ai_seq (ae_call D__law_goods hr (by omega) pass_0 rfl (aa_cons (ae_var (i := 2) rfl (.inr (.inl rfl))) (aa_nil)) (nc_cons (nc_nil)))) (ag_name (i := 4) hnd rfl (.inl rfl)) (as_one (as_app (i := 3) rfl (.inl rfl) (ae_bin o_add (ae_bin o_add (ae_sl (ae_var (i := 4) rfl (.inl rfl)) (ao_none) (ao_some (ae_int))) (ae_tup (aa_cons (ae_call D__law_pick hr (by omega) pass_0 rfl (aa_cons (ae_var (i := 2) rfl (.inr (.inl rfl))) (aa_cons (ae_int) (aa_nil))) (nc_cons (nc_cons (nc_nil)))) (aa_nil)) (by decide) (nc_cons (nc_nil)))) (ae_sl (ae_var (i := 4) rfl (.inl rfl)) (ao_some (ae_int)) (ao_none))))))
    (ass_kill [4] (as_cons (as_par (i := 3) (j := 5) rfl hnd rfl rfl (by decide) rfl rfl (aa_cons (ae_callT c_tuple rfl h_tuple boot_tuple' (aa_cons (ae_var (i := 3) rfl (.inl rfl)) (aa_nil))) (aa_cons (ae_call D__law_pick hr (by omega) pass_0 rfl (aa_cons (ae_var (i := 2) rfl (.inr (.inl rfl))) (aa_cons (ae_int) (aa_nil))) (nc_cons (nc_cons (nc_nil)))) (aa_nil))) (by rfl))
    (as_cons (as_frzM 3 (as_par (i := 6) (j := 7) rfl hnd rfl rfl (by decide) rfl rfl (aa_cons (ae_call D__law_store hr (by omega) pass_0 rfl (aa_cons (ae_var (i := 2) rfl (.inr (.inl rfl))) (aa_cons (ae_var (i := 3) rfl (.inl rfl)) (aa_nil))) (nc_cons (nc_cons (nc_nil)))) (aa_cons (ae_call D__law_wants hr (by omega) pass_0 rfl (aa_cons (ae_var (i := 2) rfl (.inr (.inl rfl))) (aa_cons (ae_var (i := 3) rfl (.inl rfl)) (aa_nil))) (nc_cons (nc_cons (nc_nil)))) (aa_nil))) (by rfl)))
    (as_cons (as_frzM 3 (as_set (i := 8) hnd rfl (.inl rfl) (ae_call D_lasts hr (by omega) pass_0 rfl (aa_cons (ae_var (i := 3) rfl (.inl rfl)) (aa_cons (ae_var (i := 6) rfl (.inl rfl)) (aa_cons (ae_var (i := 7) rfl (.inl rfl)) (aa_cons (ae_var (i := 5) rfl (.inl rfl)) (aa_nil))))) (nc_cons (nc_cons (nc_cons (nc_cons (nc_nil))))))))
    (as_cons (as_frzM 3 (as_if (at_w (aw_or (at_not (at_val (ae_call D__law_same hr (by omega) pass_0 rfl (aa_cons (ae_var (i := 8) rfl (.inl rfl)) (aa_cons (ae_call D__law_lasts hr (by omega) pass_0 rfl (aa_cons (ae_var (i := 3) rfl (.inl rfl)) (aa_cons (ae_var (i := 6) rfl (.inl rfl)) (aa_cons (ae_var (i := 7) rfl (.inl rfl)) (aa_cons (ae_var (i := 5) rfl (.inl rfl)) (aa_nil))))) (nc_cons (nc_cons (nc_cons (nc_cons (nc_nil)))))) (aa_nil))) (nc_cons (nc_cons (nc_nil)))))) (aw_or1 (at_cmp (o_ne hr.units) (ae_call D_lasts hr (by omega) pass_0 rfl (aa_cons (ae_var (i := 3) rfl (.inl rfl)) (aa_cons (ae_var (i := 6) rfl (.inl rfl)) (aa_cons (ae_lst (aa_nil) (by decide) (nc_nil)) (aa_cons (ae_var (i := 5) rfl (.inl rfl)) (aa_nil))))) (nc_cons (nc_cons (nc_cons (nc_cons (nc_nil)))))) (ae_int) (nomark _))))) (as_one (as_ret (ae_bl))) (as_nil)))
    (as_cons (as_for (passes_of rfl) rfl (ai_range1 rfl h_range (ae_callB c_len rfl h_len boot_len' (aa_cons (ae_var (i := 6) rfl (.inl rfl)) (aa_nil)))) (ag_name (i := 9) hnd rfl (.inl rfl)) (as_one (as_frzM 3 (as_if (at_cmp o_gt (ae_call D_lasts hr (by omega) pass_0 rfl (aa_cons (ae_var (i := 3) rfl (.inl rfl)) (aa_cons (ae_bin o_add (ae_sl (ae_var (i := 6) rfl (.inl rfl)) (ao_none) (ao_some (ae_var (i := 9) rfl (.inl rfl)))) (ae_sl (ae_var (i := 6) rfl (.inl rfl)) (ao_some (ae_bin o_add (ae_var (i := 9) rfl (.inl rfl)) (ae_int))) (ao_none))) (aa_cons (ae_var (i := 7) rfl (.inl rfl)) (aa_cons (ae_var (i := 5) rfl (.inl rfl)) (aa_nil))))) (nc_cons (nc_cons (nc_cons (nc_cons (nc_nil)))))) (ae_var (i := 8) rfl (.inl rfl)) (nomark _)) (as_one (as_ret (ae_bl))) (as_nil)))))
    (ass_kill [9] (as_cons (as_set (i := 10) hnd rfl (.inr rfl) (ae_ix (ae_ix (ae_var (i := 3) rfl (.inl rfl)) (ae_int)) (ae_int)))
    (as_cons (as_setLc (i := 11) rfl hnd rfl rfl rfl (own := [("_law_k", 15)]) (ai_range3 rfl h_range (ae_call D__law_pick hr (by omega) pass_0 rfl (aa_cons (ae_var (i := 2) rfl (.inr (.inl rfl))) (aa_cons (ae_int) (aa_nil))) (nc_cons (nc_cons (nc_nil)))) (ae_int) (ae_int)) (blkOk_by (N := N_law) (sc := sc_law) (by decide +kernel)) (fun _ _ _ _ _ => ag_name (i := 15) hnd rfl (.inl rfl)) (fun _ _ _ _ _ => ats_nil) (fun _ _ _ _ _ => ae_tup (aa_cons (ae_var (i := 10) rfl (.inr (.inl rfl))) (aa_cons (ae_var (i := 15) rfl (.inl rfl)) (aa_cons (ae_tup (aa_cons (ae_bin o_add (ae_int) (ae_call D__law_pick hr (by omega) pass_0 rfl (aa_cons (ae_var (i := 2) rfl (.inr (.inl rfl))) (aa_cons (ae_int) (aa_nil))) (nc_cons (nc_cons (nc_nil))))) (aa_cons (ae_int) (aa_nil))) (by decide) (nc_cons (nc_cons (nc_nil)))) (aa_nil)))) (by decide) (nc_cons (nc_cons (nc_cons (nc_nil))))) (by decide))
    (as_cons (as_set (i := 12) hnd rfl (.inl rfl) (ae_tup (aa_cons (ae_bin o_add (ae_int) (ae_call D__law_pick hr (by omega) pass_0 rfl (aa_cons (ae_var (i := 2) rfl (.inr (.inl rfl))) (aa_cons (ae_int) (aa_nil))) (nc_cons (nc_cons (nc_nil))))) (aa_cons (ae_int) (aa_nil))) (by decide) (nc_cons (nc_cons (nc_nil)))))
    (as_cons (as_frzM 3 (as_set (i := 13) hnd rfl (.inl rfl) (ae_call D_lasts hr (by omega) pass_0 rfl (aa_cons (ae_var (i := 3) rfl (.inl rfl)) (aa_cons (ae_callT c_tuple rfl h_tuple boot_tuple' (aa_cons (ae_var (i := 11) rfl (.inl rfl)) (aa_nil))) (aa_cons (ae_lst (aa_cons (ae_tup (aa_cons (ae_var (i := 10) rfl (.inr (.inl rfl))) (aa_cons (ae_var (i := 12) rfl (.inl rfl)) (aa_nil))) (by decide) (nc_cons (nc_cons (nc_nil)))) (aa_nil)) (by decide) (nc_cons (nc_nil))) (aa_cons (ae_var (i := 5) rfl (.inl rfl)) (aa_nil))))) (nc_cons (nc_cons (nc_cons (nc_cons (nc_nil))))))))
    (as_cons (as_for (passes_of rfl) rfl (ai_seq (ae_call D__law_orders_of hr (by omega) pass_0 rfl (aa_cons (ae_var (i := 11) rfl (.inl rfl)) (aa_nil)) (nc_cons (nc_nil)))) (ag_name (i := 14) hnd rfl (.inl rfl)) (as_one (as_frzM 3 (as_if (at_cmp o_gt (ae_call D__law_lasts_by hr (by omega) pass_0 rfl (aa_cons (ae_var (i := 3) rfl (.inl rfl)) (aa_cons (ae_var (i := 14) rfl (.inl rfl)) (aa_cons (ae_var (i := 12) rfl (.inl rfl)) (aa_cons (ae_var (i := 5) rfl (.inl rfl)) (aa_nil))))) (nc_cons (nc_cons (nc_cons (nc_cons (nc_nil)))))) (ae_var (i := 13) rfl (.inl rfl)) (nomark _)) (as_one (as_ret (ae_bl))) (as_nil)))))
    (ass_kill [14] (as_one (as_frzM 3 (as_if (at_cmp (o_ne hr.units) (ae_call D__law_lasts_by hr (by omega) pass_0 rfl (aa_cons (ae_var (i := 3) rfl (.inl rfl)) (aa_cons (ae_var (i := 11) rfl (.inl rfl)) (aa_cons (ae_var (i := 12) rfl (.inl rfl)) (aa_cons (ae_var (i := 5) rfl (.inl rfl)) (aa_nil))))) (nc_cons (nc_cons (nc_cons (nc_cons (nc_nil)))))) (ae_var (i := 13) rfl (.inl rfl)) (nomark _)) (as_one (as_ret (ae_bl))) (as_nil)))))))))))))))))))))))
    (ass_kill [1, 2, 3, 4, 5, 6, 7, 8, 9, 10, 11, 12, 13, 14] (as_one (as_ret (ae_bl)))))
end
def dOf (n : Str) (i : Nat) (kw : List (Str × He.Dv)) : He.DefD := ⟨(n, none), n, n, L2.defArgs (top i), L2.defBody (top i), L2.defScope (top i), [], kw⟩
def kwAt (f : Str × Option Str) (x : Str) (K : PySem.W.Frag) : Addr := match K.lookup (He.fAd K f) with
  | some ⟨_, _, .func fd, _⟩ => (match fd.kwdefaults with
    | .ref D => (match PySem.W.nsIn K D x with
      | some (some (.ref b)) => b
      | _ => 0)
    | _ => 0)
  | _ => 0
def tupAt (K : PySem.W.Frag) (a : Addr) (vs : List He.Dv) : Bool := match K.lookup a with
  | some ⟨.type c, none, .seq its _, _⟩ => decide (c = "tuple") && (decide (its.size ≤ sizeLine) && He.relAll (vs.map (He.Dv.v K)) its.toList)
  | _ => false
def hdFn : List He.DefD := @List.append He.DefD [dOf "divisor" 5 [], dOf "fraction" 6 [], dOf "plus" 7 [], dOf "minus" 8 [], dOf "is_less" 9 [], dOf "good_of" 10 [], dOf "is_over" 13 [], dOf "lacking" 14 [], dOf "taken" 15 [], dOf "lasts" 16 [], dOf "_law_deck" 18 [], dOf "_law_pick" 19 [], dOf "_law_one" 20 [], dOf "_law_sort" 21 []] (@List.append He.DefD [dOf "_law_same" 22 [], dOf "_law_frac" 23 [], dOf "_law_minus" 24 [], dOf "_law_amount" 25 [], dOf "_law_marks" 26 [], dOf "_law_goods" 27 [], dOf "_law_store" 28 [], dOf "_law_days" 29 [], dOf "_law_is_over" 30 [], dOf "_law_below" 31 [], dOf "_law_taken" 32 [], dOf "_law_wants" 33 [], dOf "_law_lasts" 34 [], dOf "_law_orders_of" 35 []] ([dOf "_law_lasts_by" 36 [], dOf "law" 37 []]))
def hdFa : List He.Fa := @List.append He.Fa [.glo "divisor", .glo "fraction", .glo "plus", .glo "minus", .glo "is_less", .glo "good_of", .glo "is_over", .glo "lacking", .glo "taken", .glo "lasts", .glo "_law_deck", .glo "_law_pick", .glo "_law_one", .glo "_law_sort"] (@List.append He.Fa [.glo "_law_same", .glo "_law_frac", .glo "_law_minus", .glo "_law_amount", .glo "_law_marks", .glo "_law_goods", .glo "_law_store", .glo "_law_days", .glo "_law_is_over", .glo "_law_below", .glo "_law_taken", .glo "_law_wants", .glo "_law_lasts", .glo "_law_orders_of"] (@List.append He.Fa [.glo "_law_lasts_by", .glo "law", .free "ValueError", .free "abs", .free "bool", .free "dict", .free "enumerate", .free "int", .free "isinstance", .free "len", .free "list", .free "range", .free "sorted", .free "tuple"] ([.glo "NOUGHT", .int "MOST_DAYS" 400])))
def hdLoose : List PySem.Str := @List.append PySem.Str ["divisor", "fraction", "plus", "minus", "is_less", "good_of", "is_over", "lacking", "taken", "lasts", "_law_deck", "_law_pick", "_law_one", "_law_sort"] (@List.append PySem.Str ["_law_same", "_law_frac", "_law_minus", "_law_amount", "_law_marks", "_law_goods", "_law_store", "_law_days", "_law_is_over", "_law_below", "_law_taken", "_law_wants", "_law_lasts", "_law_orders_of"] (["_law_lasts_by", "GalleyError", "Lacks", "NOUGHT", "MOST_DAYS"]))
abbrev hdR : PySem.W.OpenRow := PySem.W.OpenLaw.row PySem.Challenge.rw_galleyward_k54_whole_how_long_stores_las
def hdTb : List (Str × List He.Dv) := [("NOUGHT", [.int 0, .int 1])]
abbrev AlT : Type := He.AlD × Bool
def hdKw : List (Str × Str × List He.Dv) := []
def hdTf : List He.Defn := [("law", none)]
def tbB (K : PySem.W.Frag) : Bool := (((hdTb.all fun q => He.tupB K q.1 q.2) && (hdKw.all fun q => tupAt K (kwAt (q.1, none) q.2.1 K) q.2.2)) && (lamU K && lamC hdTf K))
def obsT (g : Addr → Option Obj) (K : PySem.W.Frag) : AlT := (He.obsD hdFa hdFn K, tbB K && He.tabsB g hdTf K)
def hdOf (g : Addr → Option Obj) : AlT := obsT g (He.frT g (He.asD g 6))
def SaysL (h : Heap) (K : PySem.W.Frag) : Prop := K.In h ∧ He.SaysD hdFa hdFn K ∧ tbB K = true ∧ (∀ p ∈ hdTf, PySem.W.codeHdIn K (He.cT K p).1 (He.cT K p).2 = true) ∧ (∀ p ∈ hdTf, K.lookup (He.cT K p).2 = none) ∧ ∀ p ∈ hdTf, h.get? (He.cT K p).2 = some { cls := .none, data := .fields #[] }
theorem hdOf_says {h : Heap} (e : hdOf h.get? = (He.valD hdFn, true)) : SaysL h (He.frT h.get? (He.asD h.get? 6)) := by
  unfold hdOf obsT at e
  have e1 := (Prod.mk.inj e).1
  have e2 := (Prod.mk.inj e).2
  have h1 := (Bool.and_eq_true_iff.mp e2).1
  have h2 := (Bool.and_eq_true_iff.mp e2).2
  exact ⟨He.frT_in, e1, h1, tabs_of h2⟩
def hdK : PySem.W.Hook where
  α := AlT
  obs := fun s => hdOf s.heap.get?
  val := fun _ => (He.valD hdFn, true)
  says := fun _ h => ∃ K : PySem.W.Frag, SaysL h K
  of := fun _ _ e => ⟨_, hdOf_says e⟩
  keeps := fun _ _ _ ⟨K, hK, c1, c2, c3, c4, c5⟩ k => ⟨K, PySem.W.Frag.In.keeps hK k, c1, c2, c3, c4, fun p hp => k _ _ (c5 p hp)⟩
theorem tbB_lam {K : PySem.W.Frag} (h : tbB K = true) : lamU K = true ∧ lamC hdTf K = true := He.ba (He.ba h).2
def hdOb (s : PySem.W.SharedT) : AlT := hdOf (HandSHeadRun.getT s)
theorem hdOb_eq (s : PySem.W.SharedT) : hdOb s = hdK.obs s.abs := by
  have e : HandSHeadRun.getT s = s.abs.heap.get? := funext (HandSHeadRun.getT_eq s)
  show hdOf (HandSHeadRun.getT s) = hdOf s.abs.heap.get?
  rw [e]
open PySem.W PySem.Calls in
theorem hdRun1 (w : World) : ∀ os : OsState, (HandSHeadRun.endF (HandSHeadRun.stepQ (HandSHeadRun.denQ HandSHeadRun.tabQ) hdR.prog w) 1800 hdR.prog w os).map (fun s => (HandSHeadRun.looksF hdR.prog (boot_heap w.params) s.abs, HandSHeadRun.seenQ (PySem.W.view hdR.prog [37]) hdLoose (importedModules hdR.prog.main.body) (fun s => xlAt (PySem.W.view hdR.prog [37]) [] s && recOk hdR.toRowW.records s) s.abs)) = some (true, openGood (PySem.W.view hdR.prog [37]) hdLoose) := by
  intro os
  kernel_rfl
theorem hdRun2 (w : World) : ∀ os : OsState, (HandSHeadRun.endF (HandSHeadRun.stepQ (HandSHeadRun.denQ HandSHeadRun.tabQ) hdR.prog w) 1800 hdR.prog w os).map (fun s => (hdOb s).1) = some (hdK.val w).1 := by
  intro os
  kernel_rfl
theorem hdRun3 (w : World) : ∀ os : OsState, (HandSHeadRun.endF (HandSHeadRun.stepQ (HandSHeadRun.denQ HandSHeadRun.tabQ) hdR.prog w) 1800 hdR.prog w os).map (fun s => (hdOb s).2) = some (hdK.val w).2 := by
  intro os
  kernel_rfl
theorem hdMap4 {α β γ δ ε : Type} {o : Option α} {f : α → β} {g : α → γ} {h : α → δ × ε} {a : β} {b : γ} {c : δ × ε} (h1 : o.map (fun s => (f s, g s)) = some (a, b)) (h2 : o.map (fun s => (h s).1) = some c.1) (h3 : o.map (fun s => (h s).2) = some c.2) : o.map (fun s => (f s, g s, h s)) = some (a, b, c) := by
  cases o with
  | none => cases h1
  | some x =>
    rw [Option.map_some, Option.some.injEq] at h1 h2 h3 ⊢
    rw [show h x = c from Prod.ext h2 h3, (Prod.mk.inj h1).1, (Prod.mk.inj h1).2]
theorem hdRun (w : World) : HandSHeadRun.RunEq hdR (PySem.W.view hdR.prog [37]) hdK hdOb 1800 hdLoose w := fun os => hdMap4 (hdRun1 w os) (hdRun2 w os) (hdRun3 w os)
theorem hdFacts {P : Program} {w : World} {K : PySem.W.Frag} {h : Heap} {mg : Str → Option Value} {f : Addr} (X : K.In h) (G : h.Ns mainGlobals mg) (hfa : mg ("law" : Str) = some (.ref f)) (c : He.SaysD hdFa hdFn K) (ct00 : tbB K = true) :
    ∃ fd : FuncData, (∀ (s : Shared) (v : Value), BindsTo s fd ⟨[v], []⟩ [("_law_script", v)]) ∧ ∀ base : Heap, K.In base → base.Ns mainGlobals mg → (∀ p ∈ hdTf.map (He.cT K), LamX.TabB base mg p.1 p.2) → FnOk P w K mg base CX0 14 f fd ["_law_script"] (spF ⟨P, w, K⟩ C0 m_law 1) := by
  obtain ⟨fd, F⟩ := c.def_ 29 (d := dOf "law" 37 []) rfl
  have ct0 := (Bool.and_eq_true_iff.mp ct00).1
  have ct := (Bool.and_eq_true_iff.mp ct0).1
  have ck := (Bool.and_eq_true_iff.mp ct0).2
  have e := hfa.symm.trans (He.glo_ok X G (c.fact 29 (f := .glo "law") rfl))
  cases e
  have b := FunD.bindsA (ps := ["_law_script"]) F fun _ _ _ _ _ _ us hl => match us, hl with | [_], _ => rfl
  refine ⟨fd, fun s v => b s [v] rfl, fun base _ _ TBs => ?_⟩
  obtain ⟨fd_divisor, F_divisor⟩ := c.def_ 0 (d := dOf "divisor" 5 []) rfl
  have g_divisor := He.glo_ok X G (c.fact 0 (f := .glo "divisor") rfl)
  obtain ⟨fd_fraction, F_fraction⟩ := c.def_ 1 (d := dOf "fraction" 6 []) rfl
  have g_fraction := He.glo_ok X G (c.fact 1 (f := .glo "fraction") rfl)
  obtain ⟨fd_plus, F_plus⟩ := c.def_ 2 (d := dOf "plus" 7 []) rfl
  have g_plus := He.glo_ok X G (c.fact 2 (f := .glo "plus") rfl)
  obtain ⟨fd_minus, F_minus⟩ := c.def_ 3 (d := dOf "minus" 8 []) rfl
  have g_minus := He.glo_ok X G (c.fact 3 (f := .glo "minus") rfl)
  obtain ⟨fd_is_less, F_is_less⟩ := c.def_ 4 (d := dOf "is_less" 9 []) rfl
  have g_is_less := He.glo_ok X G (c.fact 4 (f := .glo "is_less") rfl)
  obtain ⟨fd_good_of, F_good_of⟩ := c.def_ 5 (d := dOf "good_of" 10 []) rfl
  have g_good_of := He.glo_ok X G (c.fact 5 (f := .glo "good_of") rfl)
  obtain ⟨fd_is_over, F_is_over⟩ := c.def_ 6 (d := dOf "is_over" 13 []) rfl
  have g_is_over := He.glo_ok X G (c.fact 6 (f := .glo "is_over") rfl)
  obtain ⟨fd_lacking, F_lacking⟩ := c.def_ 7 (d := dOf "lacking" 14 []) rfl
  have g_lacking := He.glo_ok X G (c.fact 7 (f := .glo "lacking") rfl)
  obtain ⟨fd_taken, F_taken⟩ := c.def_ 8 (d := dOf "taken" 15 []) rfl
  have g_taken := He.glo_ok X G (c.fact 8 (f := .glo "taken") rfl)
  obtain ⟨fd_lasts, F_lasts⟩ := c.def_ 9 (d := dOf "lasts" 16 []) rfl
  have g_lasts := He.glo_ok X G (c.fact 9 (f := .glo "lasts") rfl)
  obtain ⟨fd__law_deck, F__law_deck⟩ := c.def_ 10 (d := dOf "_law_deck" 18 []) rfl
  have g__law_deck := He.glo_ok X G (c.fact 10 (f := .glo "_law_deck") rfl)
  obtain ⟨fd__law_pick, F__law_pick⟩ := c.def_ 11 (d := dOf "_law_pick" 19 []) rfl
  have g__law_pick := He.glo_ok X G (c.fact 11 (f := .glo "_law_pick") rfl)
  obtain ⟨fd__law_one, F__law_one⟩ := c.def_ 12 (d := dOf "_law_one" 20 []) rfl
  have g__law_one := He.glo_ok X G (c.fact 12 (f := .glo "_law_one") rfl)
  obtain ⟨fd__law_sort, F__law_sort⟩ := c.def_ 13 (d := dOf "_law_sort" 21 []) rfl
  have g__law_sort := He.glo_ok X G (c.fact 13 (f := .glo "_law_sort") rfl)
  obtain ⟨fd__law_same, F__law_same⟩ := c.def_ 14 (d := dOf "_law_same" 22 []) rfl
  have g__law_same := He.glo_ok X G (c.fact 14 (f := .glo "_law_same") rfl)
  obtain ⟨fd__law_frac, F__law_frac⟩ := c.def_ 15 (d := dOf "_law_frac" 23 []) rfl
  have g__law_frac := He.glo_ok X G (c.fact 15 (f := .glo "_law_frac") rfl)
  obtain ⟨fd__law_minus, F__law_minus⟩ := c.def_ 16 (d := dOf "_law_minus" 24 []) rfl
  have g__law_minus := He.glo_ok X G (c.fact 16 (f := .glo "_law_minus") rfl)
  obtain ⟨fd__law_amount, F__law_amount⟩ := c.def_ 17 (d := dOf "_law_amount" 25 []) rfl
  have g__law_amount := He.glo_ok X G (c.fact 17 (f := .glo "_law_amount") rfl)
  obtain ⟨fd__law_marks, F__law_marks⟩ := c.def_ 18 (d := dOf "_law_marks" 26 []) rfl
  have g__law_marks := He.glo_ok X G (c.fact 18 (f := .glo "_law_marks") rfl)
  obtain ⟨fd__law_goods, F__law_goods⟩ := c.def_ 19 (d := dOf "_law_goods" 27 []) rfl
  have g__law_goods := He.glo_ok X G (c.fact 19 (f := .glo "_law_goods") rfl)
  obtain ⟨fd__law_store, F__law_store⟩ := c.def_ 20 (d := dOf "_law_store" 28 []) rfl
  have g__law_store := He.glo_ok X G (c.fact 20 (f := .glo "_law_store") rfl)
  obtain ⟨fd__law_days, F__law_days⟩ := c.def_ 21 (d := dOf "_law_days" 29 []) rfl
  have g__law_days := He.glo_ok X G (c.fact 21 (f := .glo "_law_days") rfl)
  obtain ⟨fd__law_is_over, F__law_is_over⟩ := c.def_ 22 (d := dOf "_law_is_over" 30 []) rfl
  have g__law_is_over := He.glo_ok X G (c.fact 22 (f := .glo "_law_is_over") rfl)
  obtain ⟨fd__law_below, F__law_below⟩ := c.def_ 23 (d := dOf "_law_below" 31 []) rfl
  have g__law_below := He.glo_ok X G (c.fact 23 (f := .glo "_law_below") rfl)
  obtain ⟨fd__law_taken, F__law_taken⟩ := c.def_ 24 (d := dOf "_law_taken" 32 []) rfl
  have g__law_taken := He.glo_ok X G (c.fact 24 (f := .glo "_law_taken") rfl)
  obtain ⟨fd__law_wants, F__law_wants⟩ := c.def_ 25 (d := dOf "_law_wants" 33 []) rfl
  have g__law_wants := He.glo_ok X G (c.fact 25 (f := .glo "_law_wants") rfl)
  obtain ⟨fd__law_lasts, F__law_lasts⟩ := c.def_ 26 (d := dOf "_law_lasts" 34 []) rfl
  have g__law_lasts := He.glo_ok X G (c.fact 26 (f := .glo "_law_lasts") rfl)
  obtain ⟨fd__law_orders_of, F__law_orders_of⟩ := c.def_ 27 (d := dOf "_law_orders_of" 35 []) rfl
  have g__law_orders_of := He.glo_ok X G (c.fact 27 (f := .glo "_law_orders_of") rfl)
  obtain ⟨fd__law_lasts_by, F__law_lasts_by⟩ := c.def_ 28 (d := dOf "_law_lasts_by" 36 []) rfl
  have g__law_lasts_by := He.glo_ok X G (c.fact 28 (f := .glo "_law_lasts_by") rfl)
  have h_abs := He.free_ok X G (c.fact 31 (f := .free "abs") rfl)
  have h_bool := He.free_ok X G (c.fact 32 (f := .free "bool") rfl)
  have h_dict := He.free_ok X G (c.fact 33 (f := .free "dict") rfl)
  have h_enumerate := He.free_ok X G (c.fact 34 (f := .free "enumerate") rfl)
  have h_int := He.free_ok X G (c.fact 35 (f := .free "int") rfl)
  have h_isinstance := He.free_ok X G (c.fact 36 (f := .free "isinstance") rfl)
  have h_len := He.free_ok X G (c.fact 37 (f := .free "len") rfl)
  have h_list := He.free_ok X G (c.fact 38 (f := .free "list") rfl)
  have h_range := He.free_ok X G (c.fact 39 (f := .free "range") rfl)
  have h_sorted := He.free_ok X G (c.fact 40 (f := .free "sorted") rfl)
  have h_tuple := He.free_ok X G (c.fact 41 (f := .free "tuple") rfl)
  obtain ⟨t_MOST_DAYS, c_MOST_DAYS⟩ := He.int_ok X G (c.fact 43 (f := .int "MOST_DAYS" 400) rfl)
  have c_NOUGHT := And.intro (He.glo_ok X G (c.fact 42 (f := .glo "NOUGHT") rfl)) (fun H => He.tupB_ok (List.all_eq_true.mp ct (hdTb[0]'(by decide)) (List.getElem_mem _)) H)
  have D_divisor := d_divisor (P := P) (w := w) (mg := mg) (base := base) F_divisor g_divisor h_abs  
  have D_fraction := d_fraction (P := P) (w := w) (mg := mg) (base := base) F_fraction g_fraction   D_divisor
  have D_plus := d_plus (P := P) (w := w) (mg := mg) (base := base) F_plus g_plus   D_fraction
  have D_minus := d_minus (P := P) (w := w) (mg := mg) (base := base) F_minus g_minus   D_fraction
  have D_is_less := d_is_less (P := P) (w := w) (mg := mg) (base := base) F_is_less g_is_less   
  have D_good_of := d_good_of (P := P) (w := w) (mg := mg) (base := base) F_good_of g_good_of   
  have D_is_over := d_is_over (P := P) (w := w) (mg := mg) (base := base) F_is_over g_is_over   D_good_of
  have D_lacking := d_lacking (P := P) (w := w) (mg := mg) (base := base) F_lacking g_lacking c_NOUGHT  D_plus D_minus D_is_less D_is_over
  have D_taken := d_taken (P := P) (w := w) (mg := mg) (base := base) F_taken g_taken h_dict h_tuple c_NOUGHT  D_minus D_is_less D_is_over D_lacking
  have D_lasts := d_lasts (P := P) (w := w) (mg := mg) (base := base) F_lasts g_lasts c_MOST_DAYS  D_lacking D_taken
  have D__law_deck := d__law_deck (P := P) (w := w) (mg := mg) (base := base) F__law_deck g__law_deck   
  have D__law_pick := d__law_pick (P := P) (w := w) (mg := mg) (base := base) F__law_pick g__law_pick   
  have D__law_one := d__law_one (P := P) (w := w) (mg := mg) (base := base) F__law_one g__law_one h_len  D__law_pick
  have D__law_sort := d__law_sort (P := P) (w := w) (mg := mg) (base := base) F__law_sort g__law_sort h_bool h_int h_isinstance h_list h_tuple  
  have D__law_same := d__law_same (P := P) (w := w) (mg := mg) (base := base) F__law_same g__law_same h_enumerate h_isinstance h_len h_list h_tuple  D__law_sort 8
  have D__law_frac := d__law_frac (P := P) (w := w) (mg := mg) (base := base) F__law_frac g__law_frac h_abs  
  have D__law_minus := d__law_minus (P := P) (w := w) (mg := mg) (base := base) F__law_minus g__law_minus   D__law_frac
  have D__law_amount := d__law_amount (P := P) (w := w) (mg := mg) (base := base) F__law_amount g__law_amount   D__law_pick D__law_one D__law_frac
  have D__law_marks := d__law_marks (P := P) (w := w) (mg := mg) (base := base) F__law_marks g__law_marks h_tuple  D__law_pick
  have D__law_goods := d__law_goods (P := P) (w := w) (mg := mg) (base := base) F__law_goods g__law_goods h_tuple  D__law_pick D__law_one D__law_marks
  have D__law_store := d__law_store (P := P) (w := w) (mg := mg) (base := base) F__law_store g__law_store h_range h_sorted h_tuple  D__law_pick D__law_one D__law_amount
  have D__law_days := d__law_days (P := P) (w := w) (mg := mg) (base := base) F__law_days g__law_days   
  have D__law_is_over := d__law_is_over (P := P) (w := w) (mg := mg) (base := base) F__law_is_over g__law_is_over   D__law_days
  have D__law_below := d__law_below (P := P) (w := w) (mg := mg) (base := base) F__law_below g__law_below   
  have D__law_taken := d__law_taken (P := P) (w := w) (mg := mg) (base := base) F__law_taken g__law_taken h_list h_sorted h_tuple  D__law_minus D__law_is_over D__law_below
  have D__law_wants := d__law_wants (P := P) (w := w) (mg := mg) (base := base) F__law_wants g__law_wants h_range h_sorted  D__law_pick D__law_one D__law_amount
  have D__law_lasts := d__law_lasts (P := P) (w := w) (mg := mg) (base := base) F__law_lasts g__law_lasts h_isinstance h_list h_range  D__law_taken
  have D__law_orders_of := d__law_orders_of (P := P) (w := w) (mg := mg) (base := base) F__law_orders_of g__law_orders_of h_enumerate   12
  have D__law_lasts_by := d__law_lasts_by (P := P) (w := w) (mg := mg) (base := base) F__law_lasts_by g__law_lasts_by h_range  D__law_minus D__law_is_over D__law_below
  exact d_law F hfa h_len h_range h_tuple  D_lasts D__law_deck D__law_pick D__law_same D__law_goods D__law_store D__law_wants D__law_lasts D__law_orders_of D__law_lasts_by
end G
open PySem PySem.W PySem.Calls PyProof.Rows in
theorem PySem.Challenge.cw_galleyward_k54_whole_how_long_stores_las_holds : PySem.Challenge.rw_galleyward_k54_whole_how_long_stores_las.Holds := by
  w_on; o_law
  refine HandSHeadRun.head_any (r := OpenLaw.row PySem.Challenge.rw_galleyward_k54_whole_how_long_stores_las) (q := view (OpenLaw.row PySem.Challenge.rw_galleyward_k54_whole_how_long_stores_las).prog [37]) (H := G.hdK) (ob := G.hdOb) (M := 1800) (loose := G.hdLoose) (d := HandSHeadRun.topDef (OpenLaw.row PySem.Challenge.rw_galleyward_k54_whole_how_long_stores_las).prog 37) (kwd := []) G.hdOb_eq
    (by kernel_rfl) (fun s => by kernel_rfl) G.hdRun (by kernel_rfl) (by kernel_rfl) (by kernel_rfl) (by rfl) (by first | assumption | decide +kernel) (by decide +kernel) ⟨rfl, rfl, rfl, rfl, rfl, by decide +kernel⟩ ?hw ?hc
  case hw => w_witness2
  case hc =>
    refine LamX.walk_ofTsE (l := PySem.Challenge.rw_galleyward_k54_whole_how_long_stores_las) (n := 63) (k := 14) (x := "_law_script") (CX := fun _ => L2.CX0) rfl (by decide) (by kernel_rfl) ⟨rfl, by decide, by decide⟩ ?F (fun _ _ _ _ _ z => z)
    intro w mg fa h Y G0 hmg0
    obtain ⟨K, KX, c, ct, t1, t2, t3⟩ := Y
    have hmg : mg ("law" : PySem.Str) = some (.ref fa) := by
      have e : (HandSHeadRun.topDef (OpenLaw.row PySem.Challenge.rw_galleyward_k54_whole_how_long_stores_las).prog 37).name = ("law" : PySem.Str) := by kernel_rfl
      rw [← e]
      exact hmg0
    obtain ⟨fd, hb, hF⟩ := G.hdFacts (P := (PySem.Challenge.rw_galleyward_k54_whole_how_long_stores_las).prog) (w := w) KX G0 hmg c ct
    exact ⟨K, KX, fd, G.hdTf.map (He.cT K), G.spF ⟨(PySem.Challenge.rw_galleyward_k54_whole_how_long_stores_las).prog, w, K⟩ G.C0 G.m_law 1, fun p hp => by obtain ⟨q, hq, e⟩ := List.mem_map.mp hp; rw [← e]; exact t3 q hq, fun p hp => by obtain ⟨q, hq, e⟩ := List.mem_map.mp hp; rw [← e]; exact t2 q hq,
      fun p hp => by obtain ⟨q, hq, e⟩ := List.mem_map.mp hp; rw [← e]; exact PySem.W.codeHd_of_K KX (t1 q hq), hb, fun H a ns hl _ hT hS => G.law_endT (G.tbB_lam ct).2 hT hS hl (G.s_law ns hl) (G.s_law2 ns hl), hF⟩
