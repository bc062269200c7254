import PyProof.Rows.All
import Wide.All
import OpenK.AllK
import Wide.FinOn
import HandS.ForMost
import HandS.Walk
import KE.KDictKeyed
import KE.KDictWalk
import KE.KEqDict
import PyProof.DictRoadsH
import KE.KDictDisplayH
import KE.KDictList
import HandS.IsInst
import KE.KDictPairs
import KE.SortData
import KE.KDictSum
import KE.KDictCopyH
import HandS.TupSets
import HandS.SetFor
import HandS.ExcValue
import HandS.SortRule
import HandS.Strs
import HandS.Style
import HandS.TupAny
import KE.KRevSl
import HandS.CallSlots
import HandS.HeadWalk
import HandS.Base
import HandS.Call
import HandS.List
import HandS.Ends
import HandS.Exc
import HandS.ExcInit
import HandS.ExcOwn
import HandS.ExcCtx
import KE.KExcSuper
import KE.KExcIs
import HandS.ExcIs
import HandS.ExcField
import HandS.Head0
import HandS.Head1
import HandS.Head2
import HandS.HeadEnd
import HandS.HeadHook1
import HandS.Comp
import HandS.HotCalls
import HandS.Lambda
import KE.KDflt
import HandS.Dict
import KE.SortKeyHeap
import HandS.Deep
import HandS.TupLe
import HandS.HeadHook2
import KE.KNestM
import HandS.TupMul
import HandS.Wide
import HandS.Conv
import HandS.Flow
import HandS.SortInts
import KE.DataMinMax
import HandS.Text
import HandS.Zip
import KE.GoesMore
import HandS.Defaults
import PySem.Challenge.RW_handguards_k35_order_of_errors
set_option Elab.async false
set_option linter.all false
set_option maxRecDepth 100000
set_option maxHeartbeats 1000000
/-! VD, part 1: dicts whose keys are tuples, by what the heap holds: reading, storing -/
namespace VI
open PySem PySem.Spec PyProof.Rows L2
/-- a dict told by its rows -/
def dRaw (d : Addr) (es : Array DictEntry) (ep : Nat) : HO := .ext fun h => (d == sysModules) = false ∧ h.DictRaw d es ep
theorem raw_stable {d : Addr} {es : Array DictEntry} {ep : Nat} {h h' : Heap} (r : h.DictRaw d es ep) (k : ∀ o, h.get? d = some o → h'.get? d = some o) : h'.DictRaw d es ep := by
  obtain ⟨o, h1, h2, h3⟩ := r
  exact ⟨o, k o h1, h2, h3⟩
theorem dRaw_ok {P : Program} {w : World} {H : Hp} {h : Heap} {d : Addr} {es : Array DictEntry} {ep : Nat} (hs : (d == sysModules) = false) (r : h.DictRaw d es ep) : ObjOk P w H h d (dRaw d es ep) := by
  obtain ⟨o, h1, _, _⟩ := r
  exact ⟨⟨hs, o, h1, ‹_›, ‹_›⟩, ⟨o, h1⟩, fun h1 h2 a b => ⟨a.1, raw_stable a.2 b⟩⟩
section
variable {X : Cx} {pins : List (Addr × Obj)} {σ : L2.St} {H : Hp} {s : Shared} {d : Addr} {es : Array DictEntry} {ep : Nat}
theorem raw_of (I : Inv X pins σ H s) (h : H d = some (dRaw d es ep)) : (d == sysModules) = false ∧ s.heap.DictRaw d es ep := (I.hok d _ h).1
end
mutual
/-- a key of tuples, as it lies -/
def NkV (H : Hp) : NestedKey → V → Prop
  | .none, v => v = .non
  | .num i, v => v = .int i
  | .text x, v => v = .str x
  | .tup ks, v => ∃ a vs, v = .ref a ∧ H a = some (.tup vs) ∧ NksV H ks vs
def NksV (H : Hp) : List NestedKey → List V → Prop
  | [], vs => vs = []
  | k :: ks, vs => ∃ v r, vs = v :: r ∧ NkV H k v ∧ NksV H ks r
end
section
variable {X : Cx} {pins : List (Addr × Obj)} {σ : L2.St} {H H' : Hp} {s : Shared} {d : Addr} {es : Array DictEntry} {ep : Nat}
mutual
theorem nk_is (I : Inv X pins σ H s) : ∀ {k : NestedKey} {v : V} {u : Value}, NkV H k v → RelV v u → NestedIs s.heap k u
  | .none, v, u, h, r => by
    unfold NkV at h; subst h
    cases r; exact .none
  | .num i, v, u, h, r => by
    unfold NkV at h; subst h
    obtain ⟨t, rfl⟩ := r; exact .int i t
  | .text x, v, u, h, r => by
    unfold NkV at h; subst h
    obtain ⟨t, rfl⟩ := r; exact .text x t
  | .tup ks, v, u, h, r => by
    unfold NkV at h
    obtain ⟨a, vs, rfl, ha, hk⟩ := h
    cases r
    obtain ⟨its, rv, p, _⟩ := I.tuple (SqT.of ha)
    have p : s.heap.IsTuple a its.toArray := p
    obtain ⟨o, h1, h2, n, h3⟩ := p
    refine .tup h1 h2 h3 ?_
    have := nks_is I hk rv
    simpa using this
theorem nks_is (I : Inv X pins σ H s) : ∀ {ks : List NestedKey} {vs : List V} {us : List Value}, NksV H ks vs → Vals vs us → NestedAll s.heap ks us
  | [], vs, us, h, r => by
    unfold NksV at h; subst h
    cases r; exact .nil
  | k :: ks, vs, us, h, r => by
    unfold NksV at h
    obtain ⟨v, t, rfl, h1, h2⟩ := h
    cases r with
    | cons r1 r2 => exact .cons (nk_is I h1 r1) (nks_is I h2 r2)
end
mutual
theorem NkV.mono (h : ∀ a xs, H a = some (.tup xs) → H' a = some (.tup xs)) : ∀ {k : NestedKey} {v : V}, NkV H k v → NkV H' k v
  | .none, v, e => by unfold NkV at *; exact e
  | .num i, v, e => by unfold NkV at *; exact e
  | .text x, v, e => by unfold NkV at *; exact e
  | .tup ks, v, e => by
    unfold NkV at *
    obtain ⟨a, vs, rfl, ha, hk⟩ := e
    exact ⟨a, vs, rfl, h _ _ ha, NksV.mono h hk⟩
theorem NksV.mono (h : ∀ a xs, H a = some (.tup xs) → H' a = some (.tup xs)) : ∀ {ks : List NestedKey} {vs : List V}, NksV H ks vs → NksV H' ks vs
  | [], vs, e => by unfold NksV at *; exact e
  | k :: ks, vs, e => by
    unfold NksV at *
    obtain ⟨v, t, rfl, h1, h2⟩ := e
    exact ⟨v, t, rfl, NkV.mono h h1, NksV.mono h h2⟩
end
end
/-- one row: its key, where the key lies, its value -/
abbrev Row := NestedKey × Addr × V
def EntV (w : World) (q : Row) (e : DictEntry) : Prop := e.key = .ref q.2.1 ∧ e.hash = NestedKey.hash w q.1 ∧ RelV q.2.2 e.val
def KeyOk (H : Hp) (k : NestedKey) (b : Addr) : Prop := NkV H k (.ref b) ∧ k.depth ≤ 8
/-- a dict's rows -/
structure Rws (w : World) (H : Hp) (qs : List Row) (es : Array DictEntry) : Prop where
  row : Paired (EntV w) qs es.toList
  key : ∀ q ∈ qs, KeyOk H q.1 q.2.1
  nd : (qs.map (·.1)).Nodup
  few : qs.length ≤ sizeLine
def QX : Row → NestedKey × Addr × Value → Prop := fun q x => q.1 = x.1 ∧ q.2.1 = x.2.1 ∧ RelV q.2.2 x.2.2
section
variable {X : Cx} {pins : List (Addr × Obj)} {σ : L2.St} {H H' : Hp} {s : Shared} {d : Addr} {es : Array DictEntry} {ep : Nat} {qs : List Row}
theorem Rws.size {w : World} (r : Rws w H qs es) : es.size = qs.length := by
  have := Paired.length r.row
  rw [← Array.length_toList]; exact this.symm
theorem is_of (I : Inv X pins σ H s) {k : NestedKey} {b : Addr} (h : KeyOk H k b) : (nestedKind X.prog X.w).is s.heap k b := ⟨nk_is I h.1 rfl, h.2⟩
theorem qx_of {w : World} : ∀ {qs : List Row} {l : List DictEntry}, Paired (EntV w) qs l → ∃ xs, Paired QX qs xs ∧ ∀ (P : Program), l = xs.map (entryOfKey (nestedKind P w))
  | _, _, .nil => ⟨[], .nil, fun _ => rfl⟩
  | q :: qs, e :: l, .cons h t => by
    obtain ⟨xs, h1, h2⟩ := qx_of t
    obtain ⟨e1, e2, e3⟩ := h
    refine ⟨(q.1, q.2.1, e.val) :: xs, .cons ⟨rfl, rfl, e3⟩ h1, fun P => ?_⟩
    rw [List.map_cons, ← h2 P]
    congr 1
    cases e
    simp only at e1 e2
    subst e1 e2
    rfl
theorem qx_keys : ∀ {qs : List Row} {xs : List (NestedKey × Addr × Value)}, Paired QX qs xs → qs.map (·.1) = xs.map (·.1)
  | _, _, .nil => rfl
  | _, _, .cons h t => by rw [List.map_cons, List.map_cons, h.1, qx_keys t]
theorem qx_mem : ∀ {qs : List Row} {xs : List (NestedKey × Addr × Value)} {x : NestedKey × Addr × Value}, Paired QX qs xs → x ∈ xs → ∃ q ∈ qs, QX q x
  | _, _, _, .nil, h => nomatch h
  | _, _, x, .cons h t, m => by
    rcases List.mem_cons.mp m with rfl | m
    · exact ⟨_, .head _, h⟩
    · obtain ⟨q, h1, h2⟩ := qx_mem t m
      exact ⟨q, .tail _ h1, h2⟩
/-- the library's own words for such a dict -/
theorem dict_of (I : Inv X pins σ H s) (hd : H d = some (dRaw d es ep)) (r : Rws X.w H qs es) : ∃ xs, Heap.DictOfH (nestedKind X.prog X.w) s.heap d xs ∧ Paired QX qs xs := by
  obtain ⟨xs, h1, h2⟩ := qx_of r.row
  obtain ⟨_, o, h3, h4, h5⟩ := raw_of I hd
  refine ⟨xs, ⟨o, es, ep, h3, h4, h5, h2 X.prog, fun x hx => ?_, by rw [← qx_keys h1]; exact r.nd⟩, h1⟩
  obtain ⟨q, hq, e1, e2, _⟩ := qx_mem h1 hx
  rw [← e1, ← e2]
  exact is_of I (r.key q hq)
/-- found by a key -/
def findQ (qs : List Row) (k : NestedKey) : Option Row := qs.find? fun q => decide (q.1 = k)
theorem find_of {k : NestedKey} : ∀ {qs : List Row} {xs : List (NestedKey × Addr × Value)}, Paired QX qs xs → match findQ qs k with
    | some q => ∃ u, atKey xs k = some (q.2.1, u) ∧ RelV q.2.2 u
    | none => atKey xs k = none
  | _, _, .nil => rfl
  | q :: qs, x :: xs, .cons h t => by
    have ih := find_of (k := k) t
    unfold findQ atKey at *
    by_cases c : q.1 = k
    · have c2 : x.1 = k := h.1 ▸ c
      rw [List.find?_cons_of_pos (by simpa using c), List.find?_cons_of_pos (by simpa using c2)]
      exact ⟨x.2.2, by rw [h.2.1]; rfl, h.2.2⟩
    · have c2 : ¬ x.1 = k := fun z => c (h.1.trans z)
      rw [List.find?_cons_of_neg (by simpa using c), List.find?_cons_of_neg (by simpa using c2)]
      exact ih
theorem find_of_some {k : NestedKey} {qs : List Row} {xs : List (NestedKey × Addr × Value)} {q : Row} (h : Paired QX qs xs) (e : findQ qs k = some q) : ∃ u, atKey xs k = some (q.2.1, u) ∧ RelV q.2.2 u := by
  have := find_of (k := k) h; rw [e] at this; exact this
theorem find_of_none {k : NestedKey} {qs : List Row} {xs : List (NestedKey × Addr × Value)} (h : Paired QX qs xs) (e : findQ qs k = none) : atKey xs k = none := by
  have := find_of (k := k) h; rw [e] at this; exact this
theorem at_some {k : NestedKey} {qs : List Row} {xs : List (NestedKey × Addr × Value)} (h : Paired QX qs xs) : (atKey xs k).isSome = (findQ qs k).isSome := by
  cases e : findQ qs k with
  | none => rw [find_of_none h e]; rfl
  | some q => obtain ⟨u, e1, _⟩ := find_of_some h e; rw [e1]; rfl
/-! ### reading -/
/-- a dict and a key -/
structure DK (w : World) (H : Hp) (x y : V) (d : Addr) (es : Array DictEntry) (ep : Nat) (qs : List Row) (b : Addr) (k : NestedKey) : Prop where
  x : x = .ref d
  y : y = .ref b
  d : H d = some (dRaw d es ep)
  r : Rws w H qs es
  k : KeyOk H k b
def rIxN (w : World) : R2 := fun x y H Q => ∃ d es ep qs b k q, DK w H x y d es ep qs b k ∧ findQ qs k = some q ∧ Q q.2.2 H
theorem ix_dictN {X : Cx} (hu : X.A.units + 10 < cLine) : IxR X (rIxN X.w) := by
  intro value slice pins s σ H x y v u Q I rx ry h hs
  obtain ⟨d, es, ep, qs, b, k, q, ⟨rfl, rfl, hd, hr, hk⟩, hf, hq⟩ := h
  cases rx
  cases ry
  obtain ⟨xs, hD, hP⟩ := dict_of I hd hr
  obtain ⟨u, h1, h2⟩ := find_of_some hP hf
  unfold subscriptTail
  refine wpAny_bind ?_
  rw [getitemInPython_of_ne (show Value.ref d ≠ .builtin "sys.modules#opaque" from fun z => nomatch z)]
  refine wpAny_bind (wpAny_specialOf hD.typeIs F.slot_dict_getitem.lookup ?_)
  refine wpAny_pure ?_
  refine wpAny_bind ?_
  rw [hs]
  refine wpAny_operating (wpAny_getItem_heap (knd := nestedKind X.prog X.w) (by show X.A.units + 1 + 8 < cLine; omega) (is_of I hk) hD h1 ?_)
  refine wpAny_bind (wpAny_letTemporaryGo (wpAny_pure ?_))
  exact ⟨q.2.2, H, I.kept (fun _ _ h => h), h2, hq⟩
def rInN (w : World) (neg : Bool) : R2 := fun y x H Q => ∃ d es ep qs b k, DK w H x y d es ep qs b k ∧ Q (.bl (if neg then !(findQ qs k).isSome else (findQ qs k).isSome)) H
theorem op_inN {X : Cx} (hu : X.A.units + 10 < cLine) : OpR X (compareOp .In) (rInN X.w false) := by
  intro pins s σ H x y v u Q I rx ry h
  obtain ⟨d, es, ep, qs, b, k, ⟨rfl, rfl, hd, hr, hk⟩, hq⟩ := h
  cases rx
  cases ry
  obtain ⟨xs, hD, hP⟩ := dict_of I hd hr
  refine wpAny_in_heap (knd := nestedKind X.prog X.w) (by show X.A.units + 1 + 8 < cLine; omega) (is_of I hk) (raw_of I hd).1 hD ?_
  rw [at_some hP]
  exact ⟨.bl _, H, I.kept (fun _ _ h => h), rfl, hq⟩
theorem op_notInN {X : Cx} (hu : X.A.units + 10 < cLine) : OpR X (compareOp .NotIn) (rInN X.w true) := by
  intro pins s σ H x y v u Q I rx ry h
  obtain ⟨d, es, ep, qs, b, k, ⟨rfl, rfl, hd, hr, hk⟩, hq⟩ := h
  cases rx
  cases ry
  obtain ⟨xs, hD, hP⟩ := dict_of I hd hr
  refine wpAny_notIn_heap (knd := nestedKind X.prog X.w) (by show X.A.units + 1 + 8 < cLine; omega) (is_of I hk) (raw_of I hd).1 hD ?_
  rw [at_some hP]
  exact ⟨.bl _, H, I.kept (fun _ _ h => h), rfl, hq⟩
/-! ### storing -/
def storeQ (qs : List Row) (k : NestedKey) (b : Addr) (v : V) : List Row := if (findQ qs k).isSome = true then qs.map (fun q => if q.1 = k then (q.1, q.2.1, v) else q) else qs ++ [(k, b, v)]
theorem app_of {α β : Type} {F : α → β → Prop} : ∀ {xs us : List α} {ys ws : List β}, Paired F xs ys → Paired F us ws → Paired F (xs ++ us) (ys ++ ws)
  | _, _, _, _, .nil, s => s
  | _, _, _, _, .cons r t, s => .cons r (app_of t s)
theorem put_of {k : NestedKey} {v : V} {u : Value} {qs : List Row} {xs : List (NestedKey × Addr × Value)} (h : Paired QX qs xs) (r : RelV v u) : Paired QX (qs.map fun q => if q.1 = k then (q.1, q.2.1, v) else q) (xs.map (putAt k u)) := by
  induction h with
  | nil => exact .nil
  | cons h t ih =>
    refine .cons ?_ ih
    rename_i q x _ _
    unfold putAt
    by_cases c : q.1 = k
    · have c2 : x.1 = k := h.1 ▸ c
      simp only [if_pos c, if_pos c2]
      exact ⟨h.1, h.2.1, r⟩
    · have c2 : ¬ x.1 = k := fun z => c (h.1.trans z)
      simp only [if_neg c, if_neg c2]
      exact h
theorem store_of {k : NestedKey} {b : Addr} {v : V} {u : Value} {qs : List Row} {xs : List (NestedKey × Addr × Value)} (h : Paired QX qs xs) (r : RelV v u) : Paired QX (storeQ qs k b v) (storedH xs k b u) := by
  unfold storeQ storedH
  rw [at_some h]
  split
  · exact put_of h r
  · exact app_of h (.cons ⟨rfl, rfl, r⟩ .nil)
theorem storeQ_keys {k : NestedKey} {b : Addr} {v : V} {qs : List Row} : (storeQ qs k b v).map (·.1) = if (findQ qs k).isSome = true then qs.map (·.1) else qs.map (·.1) ++ [k] := by
  unfold storeQ
  split
  · rw [List.map_map]
    apply List.map_congr_left
    intro q _
    show (if q.1 = k then _ else q).1 = q.1
    split <;> rfl
  · rw [List.map_append]; rfl
theorem Rws.row_of {w : World} {qs : List Row} {xs : List (NestedKey × Addr × Value)} (P : Program) (h : Paired QX qs xs) : Paired (EntV w) qs (xs.map (entryOfKey (nestedKind P w))) := by
  induction h with
  | nil => exact .nil
  | cons h t ih =>
    refine .cons ⟨?_, ?_, h.2.2⟩ ih
    · rw [h.2.1]; rfl
    · rw [h.1]; rfl
def rSetN (w : World) : TSet := fun o i v H Q => ∃ d es ep qs b k, DK w H o i d es ep qs b k ∧ qs.length < sizeLine ∧ ∀ es' ep', Paired (EntV w) (storeQ qs k b v) es'.toList → Q (upd H d (dRaw d es' ep'))
theorem set_dictN {X : Cx} (hu : X.A.units + 10 < cLine) : PSet X (rSetN X.w) := by
  intro pins s σ H o i v ov iv u Q I ro ri rv h
  obtain ⟨d, es, ep, qs, b, k, ⟨rfl, rfl, hd, hr, hk⟩, hl, hq⟩ := h
  cases ro
  cases ri
  obtain ⟨xs, hD, hP⟩ := dict_of I hd hr
  have hxl : xs.length ≤ sizeLine := by rw [← Paired.length hP]; omega
  refine wpAny_setItem_heap (knd := nestedKind X.prog X.w) (by show X.A.units + 1 + 8 < cLine; omega) (is_of I hk) hD (fun h' hD' hS => ?_) hxl
  obtain ⟨o', es', ep', g1, g2, g3, g4, g5, g6⟩ := hD'
  have hP' := store_of (k := k) (b := b) hP rv
  refine ⟨upd H d (dRaw d es' ep'), d_write I (by rw [hd]; trivial) hS ⟨o', g1⟩ (dRaw_ok (raw_of I hd).1 ⟨o', g1, g2, g3⟩), hq es' ep' ?_⟩
  rw [g4]
  exact Rws.row_of X.prog hP'
end
end VI

set_option Elab.async false
set_option linter.all false
set_option maxRecDepth 100000
set_option maxHeartbeats 1000000
/-! VD, part 2: new dicts, == {}, the walks -/
namespace VI
open PySem PySem.Spec PyProof.Rows L2
theorem ne_meets (a b : Addr) (oa ob : Obj) (es : Array DictEntry) (ep ep2 : Nat) (hne : (a == sysModules) = false) (hnb : (b == sysModules) = false) :
    Meets (Builtin.«dict.__ne__» ⟨[.ref a, .ref b], []⟩) (fun _ R s => (s.heap.get? a = some oa ∧ oa.cls = .type "dict" ∧ oa.data = .dict es ep) ∧ (s.heap.get? b = some ob ∧ ob.cls = .type "dict" ∧ ob.data = .dict #[] ep2) ∧ R (.ok (.ret (.bool (!es.isEmpty)))) s) :=
  .of_wp fun prog w A R s h => by
    obtain ⟨⟨h1, h2, h3⟩, ⟨g1, g2, g3⟩, r⟩ := h
    wp_walk
    rw [g2, sub_dict_dict]
    wp_walk
    rw [h3]
    wp_walk
    rw [g3]
    wp_walk
    by_cases he : es.size = 0
    · have he2 : es = #[] := Array.eq_empty_of_size_eq_zero he
      subst he2
      refine wpAny_ite_false rfl ?_
      simp only [Std.Legacy.Range.forIn_eq_forIn_range', Std.Legacy.Range.size, List.size_toArray, List.length_nil, Nat.sub_self, Nat.zero_add, Nat.sub_zero, Nat.div_one, List.range'_zero, List.forIn_nil]
      wp_walk
      rw [h3]
      wp_walk
      exact ⟨_, rfl, r⟩
    · refine wpAny_ite_true (by simpa using he) ?_
      wp_walk
      refine ⟨_, rfl, ?_⟩
      have : es.isEmpty = false := by simpa [Array.isEmpty] using he
      rw [this] at r
      exact r
theorem eq_meets (a b : Addr) (oa ob : Obj) (es : Array DictEntry) (ep ep2 : Nat) (hne : (a == sysModules) = false) (hnb : (b == sysModules) = false) :
    Meets (Builtin.«dict.__eq__» ⟨[.ref a, .ref b], []⟩) (fun _ R s => (s.heap.get? a = some oa ∧ oa.cls = .type "dict" ∧ oa.data = .dict es ep) ∧ (s.heap.get? b = some ob ∧ ob.cls = .type "dict" ∧ ob.data = .dict #[] ep2) ∧ R (.ok (.ret (.bool es.isEmpty))) s) :=
  .of_wp fun prog w A R s h => by
    obtain ⟨⟨h1, h2, h3⟩, ⟨g1, g2, g3⟩, r⟩ := h
    wp_walk
    rw [g2, sub_dict_dict]
    wp_walk
    rw [h3]
    wp_walk
    rw [g3]
    wp_walk
    by_cases he : es.size = 0
    · have he2 : es = #[] := Array.eq_empty_of_size_eq_zero he
      subst he2
      refine wpAny_ite_false rfl ?_
      simp only [Std.Legacy.Range.forIn_eq_forIn_range', Std.Legacy.Range.size, List.size_toArray, List.length_nil, Nat.sub_self, Nat.zero_add, Nat.sub_zero, Nat.div_one, List.range'_zero, List.forIn_nil]
      wp_walk
      rw [h3]
      wp_walk
      exact ⟨_, rfl, r⟩
    · refine wpAny_ite_true (by simpa using he) ?_
      wp_walk
      refine ⟨_, rfl, ?_⟩
      have : es.isEmpty = false := by simpa [Array.isEmpty] using he
      rw [this] at r
      exact r
section
variable {X : Cx}
/-! ### {} -/
def tDNewN : TE := fun _ H Q => ∀ p ep, H p = none → Q (.ref p) (upd H p (dRaw p #[] ep))
theorem pe_dnewN {pos : Pos} : PE X (.Dict [] [] pos) tDNewN := by
  refine ⟨fun pins s σ H Q I h => ?_⟩
  refine thn ((pe_dnewT (X := X) (pos := pos)).run pins s σ H (fun v H' => ∃ p, v = .ref p ∧ H p = none ∧ H' = upd H p (.dT [])) I fun p hp => ⟨p, rfl, hp, rfl⟩) fun u s1 ⟨v, H1, I1, r1, p, e1, hp, e2⟩ => ?_
  subst e1 e2
  have ho := I1.hok p _ upd_same
  obtain ⟨_, hs, xs, hx, o, es, ep, h1, h2, h3, h4, _⟩ := ho
  cases hx
  have he : es = #[] := by
    apply Array.ext'
    rw [h4]; rfl
  subst he
  refine ⟨.ref p, upd H p (dRaw p #[] ep), ?_, r1, h p ep hp⟩
  have := d_write (t' := s1.toks) (ob := dRaw p #[] ep) I1 (by rw [upd_same]; trivial) (⟨rfl, fun _ _ => rfl⟩ : Heap.SameBut p s1.heap s1.heap) ⟨o, h1⟩ (dRaw_ok hs ⟨o, h1, h2, h3⟩)
  have e3 : upd (upd H p (.dT [])) p (dRaw p #[] ep) = upd H p (dRaw p #[] ep) := by
    funext a
    by_cases e : a = p
    · subst e; rw [upd_same, upd_same]
    · rw [upd_ne e, upd_ne e, upd_ne e]
  rw [e3] at this
  exact this
/-! ### d == {} -/
def rEqN : R2 := fun x y H Q => ∃ a b es ep ep2, x = .ref a ∧ y = .ref b ∧ H a = some (dRaw a es ep) ∧ H b = some (dRaw b #[] ep2) ∧ Q (.bl es.isEmpty) H
def rNeN : R2 := fun x y H Q => ∃ a b es ep ep2, x = .ref a ∧ y = .ref b ∧ H a = some (dRaw a es ep) ∧ H b = some (dRaw b #[] ep2) ∧ Q (.bl (!es.isEmpty)) H
theorem op_neN (hu : X.A.units < cLine) : OpR X (compareOp .NotEq) rNeN := by
  intro pins s σ H x y v u Q I rx ry h
  obtain ⟨a, b, es, ep, ep2, rfl, rfl, ha, hb, q⟩ := h
  cases rx
  cases ry
  obtain ⟨na, ra⟩ := raw_of I ha
  obtain ⟨nb, rb⟩ := raw_of I hb
  have ta : s.TypeIs (.ref a) "dict" := let ⟨o, h1, h2, _⟩ := ra; ⟨o, h1, h2.1⟩
  have tb : s.TypeIs (.ref b) "dict" := let ⟨o, h1, h2, _⟩ := rb; ⟨o, h1, h2.1⟩
  show wpAny (model X.prog X.w) X.A (richCompare .NotEq (.ref a) (.ref b)) _ _ _
  refine wpAny_richCompare_same_room ta tb F.slot_dict_ne ?_ hu
  obtain ⟨oa, h1, h2, h3⟩ := ra
  obtain ⟨ob, g1, g2, g3⟩ := rb
  refine call_meets F.slot_dict_ne ta F.entry_dict_ne (F.args_dict_ne_2 _ _) (ne_meets a b oa ob es ep ep2 na nb) ⟨⟨h1, h2.1, h3⟩, ⟨g1, g2.1, g3⟩, ?_⟩
  show Value.bool (!es.isEmpty) ≠ Value.notImplemented ∧ EP X pins σ Q (.bool (!es.isEmpty)) s
  exact ⟨(fun z => nomatch z), V.bl (!es.isEmpty), H, I.kept (fun _ _ h => h), rfl, q⟩
theorem op_eqN (hu : X.A.units < cLine) : OpR X (compareOp .Eq) rEqN := by
  intro pins s σ H x y v u Q I rx ry h
  obtain ⟨a, b, es, ep, ep2, rfl, rfl, ha, hb, q⟩ := h
  cases rx
  cases ry
  obtain ⟨na, ra⟩ := raw_of I ha
  obtain ⟨nb, rb⟩ := raw_of I hb
  have ta : s.TypeIs (.ref a) "dict" := let ⟨o, h1, h2, _⟩ := ra; ⟨o, h1, h2.1⟩
  have tb : s.TypeIs (.ref b) "dict" := let ⟨o, h1, h2, _⟩ := rb; ⟨o, h1, h2.1⟩
  show wpAny (model X.prog X.w) X.A (richCompare .Eq (.ref a) (.ref b)) _ _ _
  refine wpAny_richCompare_same_room ta tb F.slot_dict_eq ?_ hu
  obtain ⟨oa, h1, h2, h3⟩ := ra
  obtain ⟨ob, g1, g2, g3⟩ := rb
  refine call_meets F.slot_dict_eq ta F.entry_dict_eq (F.args_dict_eq_2 _ _) (eq_meets a b oa ob es ep ep2 na nb) ⟨⟨h1, h2.1, h3⟩, ⟨g1, g2.1, g3⟩, ?_⟩
  show Value.bool es.isEmpty ≠ Value.notImplemented ∧ EP X pins σ Q (.bool es.isEmpty) s
  exact ⟨(fun z => nomatch z), V.bl es.isEmpty, H, I.kept (fun _ _ h => h), rfl, q⟩
end
end VI

set_option Elab.async false
set_option linter.all false
set_option maxRecDepth 100000
set_option maxHeartbeats 1000000
/-! VD, part 3: walks of keys and values, get, a display of one pair -/
namespace VI
open PySem PySem.Spec PyProof.Rows L2 PySem.Calls
/-! ### walks -/
def ItD (d : Addr) (es : Array DictEntry) (ep : Nat) (vs : List V) : L2.It :=
  ⟨fun i H => H d = some (dRaw d es ep) ∧ i < vs.length, fun i H x H' => H' = H ∧ vs[i]? = some x, fun i H => H d = some (dRaw d es ep) ∧ i = vs.length⟩
theorem let_other {P : Program} {w : World} {A : Around} {E : Value → Shared → Prop} {s : Shared} {tg : Expr} {it : Addr} {u : Value} {o : Obj} {n : String} {fs : Array Value} {Q : Unit → Shared → Prop} (h : s.heap.get? it = some o) (hc : o.cls = .type n) (hd : o.data = .fields fs)
    (hn : (["enumerate", "zip", "dict_itemiterator", "dict_reverseitemiterator", "odict_iterator", "itertools.zip_longest", "itertools.pairwise"].contains n) = false) (q : Q () s) :
    wpAny (model P w) A (letOwnedTupleGo tg (.ref it) u) Q E s := by
  obtain ⟨cls, dict, data, sl⟩ := o
  simp only at hc hd
  subst hc hd
  unfold letOwnedTupleGo
  split
  · split
    · rename_i he
      cases he
      wp_walk using wpAny_loadPart' h
      refine wpAny_ite_false (by rw [hn]; simp) ?_
      wp_walk
      exact q
    · wp_walk
      exact q
  · split
    · rename_i he
      cases he
      wp_walk using wpAny_loadPart' h
      refine wpAny_ite_false (by rw [hn]; simp) ?_
      wp_walk
      exact q
    · wp_walk
      exact q
  · wp_walk
    exact q
section
variable {P : Program} {w : World} {K : PySem.W.Frag} {tg : Expr} {d it : Addr} {es : Array DictEntry} {ep : Nat} {vs : List V}
theorem turn_rawK (hl : vs.length = es.size) (hv : ∀ i (h : i < es.size), ∃ x, vs[i]? = some x ∧ RelV x es[i].key) : Turn P w K tg (ItD d es ep vs) [it] it (fun i h => h.IsKeyIter it d i es.size ep ∧ d ≠ it) where
  mem := by simp
  obj := fun i h st b hb => by
    obtain ⟨⟨o, ho, hc, hd⟩, _⟩ := st
    have e : b = it := by simpa using hb
    subst e
    exact ⟨o, ho, fun v q => by rw [hd] at q; cases q⟩
  keep := fun i h h' st k => by
    obtain ⟨⟨o, ho, hc, hd⟩, hne⟩ := st
    exact ⟨⟨o, k it (by simp) o ho, hc, hd⟩, hne⟩
  item := by
    intro X hP hw hK hc i pins s σ H E I hf st hg
    subst hP hw hK
    obtain ⟨hit, hne⟩ := st
    obtain ⟨hH, hi⟩ := hg
    have hi' : i < es.size := by omega
    obtain ⟨_, hr⟩ := raw_of I hH
    obtain ⟨f0, f1, f2, f3, f4, f5⟩ := hf it (by simp)
    refine (Walks.rawKeys (I.ok.hd hc) it d hne es ep).item i s _ _ hi' ⟨hit, hr⟩ fun v h' tk hPv hSt hk => ?_
    obtain ⟨_, e⟩ := hPv
    obtain ⟨x, hx, rx⟩ := hv i hi'
    refine ⟨v, rfl, ?_⟩
    have I1 : Inv X pins σ H { s with heap := h', toks := tk } := I.turned (t' := tk) (fun b o hb q => hk b o (by simpa using hb) q) f0 f1 f3 f4 f5
    obtain ⟨⟨o, ho, hcls, hdat⟩, hD⟩ := hSt
    refine let_other (n := "dict_keyiterator") ho hcls hdat (by decide) ?_
    exact ⟨x, H, I1, by rw [e]; exact rx, ⟨rfl, hx⟩, ⟨⟨o, ho, hcls, hdat⟩, hne⟩, fun b hb => by
      have eb : b = it := by simpa using hb
      rw [eb]; exact f0⟩
  done := by
    intro X hP hw hK hc i pins s σ H E I hf st hg
    subst hP hw hK
    obtain ⟨hit, hne⟩ := st
    obtain ⟨hH, hi⟩ := hg
    obtain ⟨_, hr⟩ := raw_of I hH
    obtain ⟨f0, f1, f2, f3, f4, f5⟩ := hf it (by simp)
    have hi' : i = es.size := by rw [hi, hl]
    subst hi'
    refine (Walks.rawKeys (I.ok.hd hc) it d hne es ep).done s _ _ ⟨hit, hr⟩ fun h' tk hk => ?_
    exact ⟨rfl, I.turned (t' := tk) (fun b o hb q => hk b o (by simpa using hb) q) f0 f1 f3 f4 f5⟩
  self := fun A i s Q E st h => wpAny_pyIter_keyiter st.1 h
theorem turn_rawV (hl : vs.length = es.size) (hv : ∀ i (h : i < es.size), ∃ x, vs[i]? = some x ∧ RelV x es[i].val) : Turn P w K tg (ItD d es ep vs) [it] it (fun i h => h.IsValIter it d i es.size ep ∧ d ≠ it) where
  mem := by simp
  obj := fun i h st b hb => by
    obtain ⟨⟨o, ho, hc, hd⟩, _⟩ := st
    have e : b = it := by simpa using hb
    subst e
    exact ⟨o, ho, fun v q => by rw [hd] at q; cases q⟩
  keep := fun i h h' st k => by
    obtain ⟨⟨o, ho, hc, hd⟩, hne⟩ := st
    exact ⟨⟨o, k it (by simp) o ho, hc, hd⟩, hne⟩
  item := by
    intro X hP hw hK hc i pins s σ H E I hf st hg
    subst hP hw hK
    obtain ⟨hit, hne⟩ := st
    obtain ⟨hH, hi⟩ := hg
    have hi' : i < es.size := by omega
    obtain ⟨_, hr⟩ := raw_of I hH
    obtain ⟨f0, f1, f2, f3, f4, f5⟩ := hf it (by simp)
    refine (Walks.rawValues (I.ok.hd hc) it d hne es ep).item i s _ _ hi' ⟨hit, hr⟩ fun v h' tk hPv hSt hk => ?_
    obtain ⟨_, e⟩ := hPv
    obtain ⟨x, hx, rx⟩ := hv i hi'
    refine ⟨v, rfl, ?_⟩
    have I1 : Inv X pins σ H { s with heap := h', toks := tk } := I.turned (t' := tk) (fun b o hb q => hk b o (by simpa using hb) q) f0 f1 f3 f4 f5
    obtain ⟨⟨o, ho, hcls, hdat⟩, hD⟩ := hSt
    refine let_other (n := "dict_valueiterator") ho hcls hdat (by decide) ?_
    exact ⟨x, H, I1, by rw [e]; exact rx, ⟨rfl, hx⟩, ⟨⟨o, ho, hcls, hdat⟩, hne⟩, fun b hb => by
      have eb : b = it := by simpa using hb
      rw [eb]; exact f0⟩
  done := by
    intro X hP hw hK hc i pins s σ H E I hf st hg
    subst hP hw hK
    obtain ⟨hit, hne⟩ := st
    obtain ⟨hH, hi⟩ := hg
    obtain ⟨_, hr⟩ := raw_of I hH
    obtain ⟨f0, f1, f2, f3, f4, f5⟩ := hf it (by simp)
    have hi' : i = es.size := by rw [hi, hl]
    subst hi'
    refine (Walks.rawValues (I.ok.hd hc) it d hne es ep).done s _ _ ⟨hit, hr⟩ fun h' tk hk => ?_
    exact ⟨rfl, I.turned (t' := tk) (fun b o hb q => hk b o (by simpa using hb) q) f0 f1 f3 f4 f5⟩
  self := fun A i s Q E st h => wpAny_pyIter_valiter st.1 h
end
theorem walk_raw {d : Addr} {es : Array DictEntry} {ep : Nat} {vs : List V} : Walk (ItD d es ep vs) vs.length (fun H => H d = some (dRaw d es ep)) (YAt vs) :=
  ⟨fun i H hi g => ⟨g, hi⟩, fun H g => ⟨g, rfl⟩, fun i H x H' _ _ y => y⟩
section
variable {X : Cx}
/-- d.keys(), d.values() walked -/
def iDictN (f : DictEntry → Value) (td : TE) : TI := fun σ H R => td σ H fun x H1 => ∃ d es ep vs, x = .ref d ∧ H1 d = some (dRaw d es ep) ∧ Paired (fun v e => RelV v (f e)) vs es.toList ∧ R (ItD d es ep vs) H1
theorem paired_at {f : DictEntry → Value} {vs : List V} {es : Array DictEntry} (h : Paired (fun v e => RelV v (f e)) vs es.toList) : vs.length = es.size ∧ ∀ i (hi : i < es.size), ∃ x, vs[i]? = some x ∧ RelV x (f es[i]) := by
  refine ⟨by rw [Paired.length h, Array.length_toList], fun i hi => ?_⟩
  have key : ∀ {vs : List V} {l : List DictEntry}, Paired (fun v e => RelV v (f e)) vs l → ∀ (i : Nat) (hi : i < l.length), ∃ x, vs[i]? = some x ∧ RelV x (f l[i]) := by
    intro vs l h
    induction h with
    | nil => intro i hi; simp at hi
    | cons r t ih =>
      intro i hi
      cases i with
      | zero => exact ⟨_, rfl, r⟩
      | succ i =>
        obtain ⟨x, h1, h2⟩ := ih i (by simpa using hi)
        exact ⟨x, by simpa using h1, h2⟩
  obtain ⟨x, h1, h2⟩ := key h i (by simpa using hi)
  exact ⟨x, h1, by simpa using h2⟩
theorem raw_type {s : Shared} {d : Addr} {es : Array DictEntry} {ep : Nat} (r : s.heap.DictRaw d es ep) : s.TypeIs (.ref d) "dict" := let ⟨o, h1, h2, _⟩ := r; ⟨o, h1, h2.1⟩
theorem raw_nodict {s : Shared} {d : Addr} {es : Array DictEntry} {ep : Nat} (r : s.heap.DictRaw d es ep) : ∀ a, Value.ref d = .ref a → ∃ ob, s.heap.get? a = some ob ∧ ob.dict = none := fun a e => by
  cases e
  obtain ⟨o, h1, h2, _⟩ := r
  exact ⟨o, h1, h2.2.1⟩
theorem new_mods {X : Cx} {pins : List (Addr × Obj)} {σ : L2.St} {H : Hp} {s : Shared} (I : Inv X pins σ H s) : (s.heap.objs.size == sysModules) = false := by
  obtain ⟨o, es, ep, h1, _⟩ := I.ok.mod.glob
  obtain ⟨h2, _⟩ := I.ok.bs _ _ h1
  obtain ⟨o', h3⟩ := I.base.there _ _ h2 (I.ok.noex _ _ h1)
  have := Heap.lt_size h3
  have e : mainGlobals = 3 := rfl
  have e2 : sysModules = 1 := rfl
  rw [e] at this
  rw [e2]
  have hne : s.heap.objs.size ≠ 1 := fun z => by rw [z] at this; exact absurd this (by decide)
  exact beq_eq_false_iff_ne.mpr hne
theorem evalArgs_none {P : Program} {w : World} {A : Around} {E : Value → Shared → Prop} {s : Shared} {f : Value} {Q : Args → Shared → Prop} (q : Q ⟨[], []⟩ s) : wpAny (model P w) A (evalArgs f true [] []) Q E s := by
  wp_walk
  exact q
theorem pi_keysN {tg e : Expr} {td : TE} {apos cpos : Pos} (he : PE X e td) (hb : attributeBase e "keys" X.env (eval e X.env) = eval e X.env) (hl : (apos.endLine == cpos.line) = true) :
    PI X tg (.Call (.Attribute e "keys" apos) [] [] cpos) (iDictN (·.key) td) := by
  refine ⟨fun pins s σ H R I h => ?_⟩
  refine wpAny_Call_method hb rfl hl F.plainAttrs_dict F.slot_dict_keys F.type_dict_keys (thn (he.run pins s σ H _ I h) fun u s1 ⟨x, H1, I1, r1, d, es, ep, vs, e1, hd, hp, q⟩ => ?_)
  subst e1
  cases r1
  obtain ⟨hs, hr⟩ := raw_of I1 hd
  obtain ⟨hlen, hat⟩ := paired_at hp
  refine ⟨raw_type hr, raw_nodict hr, callWith_builtin rfl (evalArgs_none ?_)⟩
  refine call_meetsIn F.slot_dict_keys (raw_type hr) F.entry_dict_keys (F.args_dict_keys_1 _) (meets_dict_keys_raw d hs) ⟨⟨es, ep, hr⟩, ?_⟩
  obtain ⟨o, h1, h2, h3⟩ := hr
  have hdl : d < s1.heap.objs.size := Heap.lt_size h1
  have hz : (s1.heap.push { cls := .type "dict_keys", data := .fields #[.ref d] }).objs.size = s1.heap.objs.size + 1 := Heap.size_push ..
  refine wpAny_pyIter_keys_raw (v := s1.heap.objs.size) (d := d) (es := es) (ep := ep) ⟨_, Heap.get?_push_size _ rfl, rfl, rfl⟩ ⟨o, Heap.get?_push_of_some _ h1, h2, h3⟩ ?_
  have I2 : Inv X pins σ H1 { s1 with heap := (s1.heap.push { cls := .type "dict_keys", data := .fields #[.ref d] }).push { cls := .type "dict_keyiterator", data := .fields #[.ref d, .int 0 0, .int es.size 0, .int ep 0] } } :=
    I1.kept (t' := s1.toks) fun b o e => Heap.get?_push_of_some _ (Heap.get?_push_of_some _ e)
  refine ⟨_, [_], _, _, H1, rfl, I2, turn_rawK hlen hat, ⟨⟨_, Heap.get?_push_size _ rfl, rfl, rfl⟩, ?_⟩, fun b hb => ?_, q⟩
  · rw [hz]; exact Nat.ne_of_lt (Nat.lt_succ_of_lt hdl)
  · have e : b = (s1.heap.push { cls := .type "dict_keys", data := .fields #[.ref d] }).objs.size := by simpa using hb
    rw [hz] at e
    have hle : s1.heap.objs.size ≤ b := by rw [e]; exact Nat.le_succ _
    exact I1.fpOk hle (I1.hok.fresh hle)
theorem pi_valsN {tg e : Expr} {td : TE} {apos cpos : Pos} (he : PE X e td) (hb : attributeBase e "values" X.env (eval e X.env) = eval e X.env) (hl : (apos.endLine == cpos.line) = true) :
    PI X tg (.Call (.Attribute e "values" apos) [] [] cpos) (iDictN (·.val) td) := by
  refine ⟨fun pins s σ H R I h => ?_⟩
  refine wpAny_Call_method hb rfl hl F.plainAttrs_dict F.slot_dict_values F.type_dict_values (thn (he.run pins s σ H _ I h) fun u s1 ⟨x, H1, I1, r1, d, es, ep, vs, e1, hd, hp, q⟩ => ?_)
  subst e1
  cases r1
  obtain ⟨hs, hr⟩ := raw_of I1 hd
  obtain ⟨hlen, hat⟩ := paired_at hp
  refine ⟨raw_type hr, raw_nodict hr, callWith_builtin rfl (evalArgs_none ?_)⟩
  refine call_meetsIn F.slot_dict_values (raw_type hr) F.entry_dict_values (F.args_dict_values_1 _) (meets_dict_values_raw d hs) ⟨⟨es, ep, hr⟩, ?_⟩
  obtain ⟨o, h1, h2, h3⟩ := hr
  have hdl : d < s1.heap.objs.size := Heap.lt_size h1
  have hz : (s1.heap.push { cls := .type "dict_values", data := .fields #[.ref d] }).objs.size = s1.heap.objs.size + 1 := Heap.size_push ..
  refine wpAny_pyIter_values_raw (v := s1.heap.objs.size) (d := d) (es := es) (ep := ep) ⟨_, Heap.get?_push_size _ rfl, rfl, rfl⟩ ⟨o, Heap.get?_push_of_some _ h1, h2, h3⟩ ?_
  have I2 : Inv X pins σ H1 { s1 with heap := (s1.heap.push { cls := .type "dict_values", data := .fields #[.ref d] }).push { cls := .type "dict_valueiterator", data := .fields #[.ref d, .int 0 0, .int es.size 0, .int ep 0] } } :=
    I1.kept (t' := s1.toks) fun b o e => Heap.get?_push_of_some _ (Heap.get?_push_of_some _ e)
  refine ⟨_, [_], _, _, H1, rfl, I2, turn_rawV hlen hat, ⟨⟨_, Heap.get?_push_size _ rfl, rfl, rfl⟩, ?_⟩, fun b hb => ?_, q⟩
  · rw [hz]; exact Nat.ne_of_lt (Nat.lt_succ_of_lt hdl)
  · have e : b = (s1.heap.push { cls := .type "dict_values", data := .fields #[.ref d] }).objs.size := by simpa using hb
    rw [hz] at e
    have hle : s1.heap.objs.size ≤ b := by rw [e]; exact Nat.le_succ _
    exact I1.fpOk hle (I1.hok.fresh hle)
/-! ### d.get(k, x) -/
def tGetN (w : World) (td tk tx : TE) : TE := fun σ H Q => td σ H fun x H1 => (∃ d es ep, x = .ref d ∧ H1 d = some (dRaw d es ep)) ∧ tk σ H1 fun y H2 => tx σ H2 fun z H3 =>
  ∃ d es ep qs b k, DK w H3 x y d es ep qs b k ∧ Q (((findQ qs k).map (·.2.2)).getD z) H3
theorem pe_getN {o e f : Expr} {td tk tx : TE} {apos cpos : Pos} (hu : X.A.units + 10 < cLine) (ho : PE X o td) (he : PE X e tk) (hf : PE X f tx) (m : M2 X o "get" apos e f cpos) :
    PE X (.Call (.Attribute o "get" apos) [e, f] [] cpos) (tGetN X.w td tk tx) := by
  refine ⟨fun pins s σ H Q I h => ?_⟩
  refine wpAny_Call_method m.base m.few m.line F.plainAttrs_dict F.slot_dict_get F.type_dict_get (thn (ho.run pins s σ H _ I h) fun u s1 ⟨x, H1, I1, r1, ⟨d, es, ep, e1, hd⟩, q⟩ => ?_)
  subst e1
  cases r1
  obtain ⟨hs, hr⟩ := raw_of I1 hd
  refine ⟨raw_type hr, raw_nodict hr, ?_⟩
  rw [m.trees]
  refine callWith_builtin rfl (evalArgs_plain (spliced_cons ?_))
  refine thn (he.run pins s1 σ H1 _ I1 q) fun u2 s2 ⟨y, H2, I2, r2, q2⟩ => ?_
  refine spliced_cons ?_
  refine thn (hf.run pins s2 σ H2 _ I2 q2) fun u3 s3 ⟨z, H3, I3, r3, q3⟩ => ?_
  refine spliced_nil ?_
  obtain ⟨d', es', ep', qs, b, k, ⟨e2, rfl, hd', hr', hk⟩, hq⟩ := q3
  cases e2
  cases r2
  obtain ⟨xs, hD, hP⟩ := dict_of I3 hd' hr'
  refine call_meetsIn F.slot_dict_get hD.typeIs F.entry_dict_get (F.args_dict_get_3 _ _ _) (meetsH_dict_get_default (nestedKind X.prog X.w) d b hs u3) ⟨by show X.A.units + 1 + 8 < cLine; omega, k, xs, is_of I3 hk, hD, ?_⟩
  show EP X pins σ Q _ _
  refine ⟨_, H3, I3.kept (fun _ _ h => h), ?_, hq⟩
  cases ef : findQ qs k with
  | none =>
    rw [find_of_none hP ef]
    exact r3
  | some q =>
    obtain ⟨u4, g1, g2⟩ := find_of_some hP ef
    rw [g1]
    exact g2
/-! ### {k: v} -/
def tDispN (w : World) (tk tv : TE) : TE := fun σ H Q => ∀ p ep, H p = none → tk σ (upd H p (dRaw p #[] ep)) fun y H1 => tv σ H1 fun z H2 =>
  H2 p = some (dRaw p #[] ep) ∧ ∃ b k, y = .ref b ∧ KeyOk H2 k b ∧ ∀ es' ep', Paired (EntV w) [(k, b, z)] es'.toList → Q (.ref p) (upd H2 p (dRaw p es' ep'))
theorem pe_dispN {e f : Expr} {tk tv : TE} {pos : Pos} (hu : X.A.units + 10 < cLine) (he : PE X e tk) (hf : PE X f tv) : PE X (.Dict [some e] [f] pos) (tDispN X.w tk tv) := by
  refine ⟨fun pins s σ H Q I h => ?_⟩
  rw [arm_eval_Dict]
  refine wpAny_bind (wpAny_standAt ?_)
  have hd : dictDisplay ((evalEachOpt [some e] X.env).zip (List.map (fun v => do let x ← v; standAt pos; pure x) (evalEach [f] X.env))) = (do
      let d ← subDict [(eval e X.env, do let x ← eval f X.env; standAt pos; pure x)]
      pure (Value.ref d)) := by
    show dictDisplay [(some (eval e X.env), do let x ← eval f X.env; standAt pos; pure x)] = _
    unfold dictDisplay
    simp
  rw [hd]
  refine wpAny_bind ?_
  refine wpAny_subDictH (knd := nestedKind X.prog X.w) (by show X.A.units + 8 < cLine; omega) (by simp) ?_
  unfold evalPairs
  have hp : H s.heap.objs.size = none := I.hok.fresh (Nat.le_refl _)
  have hs : (s.heap.objs.size == sysModules) = false := new_mods I
  have hr0 : (s.heap.push { cls := .type "dict", data := .dict #[] }).DictRaw s.heap.objs.size #[] 0 := ⟨_, Heap.get?_push_size _ rfl, ⟨rfl, rfl, rfl⟩, rfl⟩
  have I0 : Inv X pins σ (upd H s.heap.objs.size (dRaw s.heap.objs.size #[] 0)) { s with heap := s.heap.push { cls := .type "dict", data := .dict #[] } } :=
    I.laid (t' := s.toks) (fun b u e => Heap.get?_push_of_some _ e) (Nat.le_refl _) (dRaw_ok hs hr0)
  refine wpAny_bind (thn (he.run pins _ σ _ _ I0 (h _ 0 hp)) fun u1 s1 ⟨y, H1, I1, r1, q1⟩ => ?_)
  refine wpAny_bind (wpAny_holding (wpAny_bind (thn (hf.run pins _ σ _ _ I1 q1) fun u2 s2 ⟨z, H2, I2, r2, hd2, b, k, e1, hk, q2⟩ => ?_)))
  subst e1
  cases r1
  refine wpAny_bind (wpAny_standAt (wpAny_pure ?_))
  refine wpAny_bind (wpAny_holding ?_)
  unfold evalPairs
  refine wpAny_pure (wpAny_pure ?_)
  obtain ⟨_, hr2⟩ := raw_of I2 hd2
  refine ⟨[(k, b, u2)], ⟨rfl, rfl, is_of I2 hk, trivial⟩, ?_, fun h' tk hD hS => ?_⟩
  · obtain ⟨o, g1, g2, g3⟩ := hr2
    exact ⟨o, #[], 0, g1, g2, g3, rfl, (fun _ h => nomatch h), List.nodup_nil⟩
  · obtain ⟨o', es', ep', g1, g2, g3, g4, g5, g6⟩ := hD
    refine wpAny_pure ?_
    refine ⟨.ref _, upd H2 s.heap.objs.size (dRaw s.heap.objs.size es' ep'), d_write I2 (by rw [hd2]; trivial) hS ⟨o', g1⟩ (dRaw_ok hs ⟨o', g1, g2, g3⟩), rfl, q2 es' ep' ?_⟩
    rw [g4]
    exact .cons ⟨rfl, rfl, r2⟩ .nil
end
end VI

set_option Elab.async false
set_option linter.all false
set_option maxRecDepth 100000
set_option maxHeartbeats 1000000
/-! VD, part 4: isinstance of dicts, dict(list of pairs) -/
namespace VI
open PySem PySem.Spec PyProof.Rows L2 PySem.Calls
/-! ### isinstance -/
inductive TyY (K : PySem.W.Frag) (H : Hp) : V → Value → Prop where
  | base {x : V} {t : Value} (h : TyX K H x t) : TyY K H x t
  | raw {a : Addr} {es : Array DictEntry} {ep : Nat} (e : H a = some (dRaw a es ep)) : TyY K H (.ref a) (.type "dict")
section
variable {X : Cx} {pins : List (Addr × Obj)} {σ : L2.St} {H : Hp} {s : Shared}
theorem kit_ofY {x : V} {u t : Value} (I : Inv X pins σ H s) (rx : RelV x u) (ty : TyY X.K H x t) : ∃ P : Heap → Prop, PySem.W.KitX X.K u t P ∧ P s.heap ∧ u ≠ .builtin "__main__.__loader__#opaque" := by
  cases ty with
  | base h => exact kit_of I rx h
  | @raw a es ep e =>
    cases (show u = Value.ref a from rx)
    obtain ⟨_, o, h1, h2, _⟩ := raw_of I e
    exact ⟨_, PySem.W.kitx_dict, ⟨o, h1, h2.1⟩, fun z => nomatch z⟩
end
def rIsiY (K : PySem.W.Frag) : List V → Hp → VK → Prop := fun xs H Q => ∃ (x c : V) (t u : Value) (b : Bool), xs = [x, c] ∧ ClsV c u ∧ TyY K H x t ∧ PySem.W.kitOne K t u = some b ∧ Q (.bl b) H
def rIsiTY (K : PySem.W.Frag) : List V → Hp → VK → Prop := fun xs H Q => ∃ (x : V) (tp : Addr) (cs : List V) (t : Value) (us : List Value) (b : Bool), xs = [x, .ref tp] ∧ H tp = some (.tup cs) ∧ Paired ClsV cs us ∧ TyY K H x t ∧ PySem.W.kitAny K t us = some b ∧ Q (.bl b) H
section
variable {X : Cx}
theorem call_isiY : CallR X (.builtin "isinstance") (rIsiY X.K) := by
  intro pins s σ H xs us Q I r h
  obtain ⟨x, c, t, u, b, rfl, k, ty, e, q⟩ := h
  obtain ⟨u1, u2, rfl, r1, r2⟩ := vals2 r
  have e2 := k.eq r2
  subst e2
  obtain ⟨P, Z, p, hx⟩ := kit_ofY I r1 ty
  exact PySem.W.kia_one Z I.kIn p e hx fun tk => ⟨.bl b, H, I.tok tk, rfl, q⟩
theorem call_isiTY : CallR X (.builtin "isinstance") (rIsiTY X.K) := by
  intro pins s σ H xs us Q I r h
  obtain ⟨x, tp, cs, t, ws, b, rfl, hT, k, ty, e, q⟩ := h
  obtain ⟨u1, u2, rfl, r1, r2⟩ := vals2 r
  cases (show u2 = Value.ref tp from r2)
  obtain ⟨P, Z, p, hx⟩ := kit_ofY I r1 ty
  obtain ⟨_, its, rv, o, h1, h2, n, h3⟩ := (show ObjOk X.prog X.w H s.heap tp (.tup cs) from I.hok tp _ hT)
  have e3 := ClsV.all k rv
  subst e3
  obtain ⟨oc, od, dt, sl⟩ := o
  simp only at h2 h3
  subst h2 h3
  exact PySem.W.kia_tup Z I.kIn p h1 e hx fun tk => ⟨.bl b, H, I.tok tk, rfl, q⟩
/-! ### dict([(k, v), ..]) -/
def storeAllQ (acc qs : List Row) : List Row := qs.foldl (fun acc q => storeQ acc q.1 q.2.1 q.2.2) acc
theorem storeAll_of : ∀ {qs : List Row} {ps : List (NestedKey × Addr × Value)} {acc : List Row} {xs : List (NestedKey × Addr × Value)}, Paired QX acc xs → Paired QX qs ps → Paired QX (storeAllQ acc qs) (storedAllH xs ps)
  | _, _, acc, xs, h, .nil => h
  | q :: qs, p :: ps, acc, xs, h, .cons g t => by
    show Paired QX (storeAllQ (storeQ acc q.1 q.2.1 q.2.2) qs) (storedAllH (storedH xs p.1 p.2.1 p.2.2) ps)
    refine storeAll_of ?_ t
    have := store_of (k := q.1) (b := q.2.1) h g.2.2
    rw [← g.1, ← g.2.1]
    exact this
/-- an item of the list: a pair of the row's key and value -/
def PrR (H : Hp) (x : V) (q : Row) : Prop := ∃ T, x = .ref T ∧ H T = some (.tup [.ref q.2.1, q.2.2])
def rDictL (w : World) : List V → Hp → VK → Prop := fun vs H Q => ∃ a xs qs, vs = [.ref a] ∧ H a = some (.lst xs) ∧ Paired (PrR H) xs qs ∧ (∀ q ∈ qs, KeyOk H q.1 q.2.1) ∧
  (xs.length ≤ sizeLine → ∀ p es ep, H p = none → Paired (EntV w) (storeAllQ [] qs) es.toList → Q (.ref p) (upd H p (dRaw p es ep)))
theorem pairs_at {pins : List (Addr × Obj)} {σ : L2.St} {H : Hp} {s : Shared} (I : Inv X pins σ H s) : ∀ {xs : List V} {qs : List Row} {its : List Value}, Paired (PrR H) xs qs → Vals xs its →
    ∃ (Ts : List Addr) (ps : List (Value × Value)) (rs : List (NestedKey × Addr × Value)), Ts.length = ps.length ∧ its = Ts.map Value.ref ∧ rs.length = ps.length ∧ Paired QX qs rs ∧
      ∀ (j : Nat) (k v : Value), ps[j]? = some (k, v) → ∃ T kk b, Ts[j]? = some T ∧ PairAt s.heap T k v ∧ rs[j]? = some (kk, b, v) ∧ k = .ref b
  | _, _, _, .nil, .nil => ⟨[], [], [], rfl, rfl, rfl, .nil, fun j k v e => by simp at e⟩
  | x :: xs, q :: qs, u :: its, .cons h t, .cons r rr => by
    obtain ⟨T, rfl, hT⟩ := h
    cases r
    obtain ⟨Ts, ps, rs, h1, h2, h3, h4, h5⟩ := pairs_at I t rr
    obtain ⟨its2, rv, p, _⟩ := I.tuple (SqT.of hT)
    obtain ⟨u1, u2, e2, r1, r2⟩ := vals2 rv
    subst e2
    cases r1
    refine ⟨T :: Ts, (.ref q.2.1, u2) :: ps, (q.1, q.2.1, u2) :: rs, by simp [h1], by rw [List.map_cons, h2], by simp [h3], .cons ⟨rfl, rfl, r2⟩ h4, fun j k v e => ?_⟩
    cases j with
    | zero =>
      simp at e
      obtain ⟨rfl, rfl⟩ := e
      exact ⟨T, q.1, q.2.1, rfl, .inl p, rfl, rfl⟩
    | succ j =>
      obtain ⟨T', kk, b, g1, g2, g3, g4⟩ := h5 j k v (by simpa using e)
      exact ⟨T', kk, b, by simpa using g1, g2, by simpa using g3, g4⟩
theorem call_dictL (hc : X.calm = true) (hu : X.A.units + 10 < cLine) : CallR X (.type "dict") (rDictL X.w) := by
  intro pins s σ H vs us Q I r h
  obtain ⟨a, xs, qs, rfl, ha, hp, hk, q⟩ := h
  obtain ⟨u, rfl, ru⟩ := vals1 r
  cases ru
  obtain ⟨hz, its, n, rv, h1⟩ := (show ObjOk X.prog X.w H s.heap a (.lst xs) from I.hok a _ ha)
  obtain ⟨Ts, ps, rs, e1, e2, e3, hP, hj⟩ := pairs_at I hp rv
  have hlen : xs.length = ps.length := by
    have := rv.length
    rw [e2, List.length_map] at this
    omega
  refine call_dict_pairsH (knd := nestedKind X.prog X.w) (ps := rs) (PairArg.list a its.toArray (fun j => Ts.getD j 0) ps) (I.ok.hd hc) (by show X.A.in1.in1.units + 8 < cLine; show X.A.units + 1 + 1 + 8 < cLine; omega) ⟨⟨_, n, h1, rfl, rfl, rfl⟩, by rw [e2]; simp [e1], fun j k v e => ?_⟩ ⟨e3, fun i key v e => ?_⟩ (fun h' hk' x hx => ?_) (by rw [← hlen]; exact hz) fun h' tk hD hk' => ?_
  · obtain ⟨T, kk, b, g1, g2, g3, g4⟩ := hj j k v e
    have eT : Ts.getD j 0 = T := by rw [List.getD_eq_getElem?_getD, g1]; rfl
    show its.toArray[j]? = some (Value.ref (Ts.getD j 0)) ∧ PairAt s.heap (Ts.getD j 0) k v
    rw [eT]
    refine ⟨?_, g2⟩
    rw [e2]
    simp [g1]
  · obtain ⟨T, kk, b, g1, g2, g3, g4⟩ := hj i key v e
    exact ⟨kk, b, g3, g4⟩
  · obtain ⟨q', hq', f1, f2, _⟩ := qx_mem hP hx
    rw [← f1, ← f2]
    have := is_of I (hk q' hq')
    exact ⟨NestedIs.at (fun b o vs n e _ => hk' b o (Nat.ne_of_lt (Heap.lt_size e)) (by simp) e) _ _ this.1, this.2⟩
  · obtain ⟨o', es', ep', g1, g2, g3, g4, g5, g6⟩ := hD
    have hs : (s.heap.objs.size == sysModules) = false := new_mods I
    refine ⟨.ref _, upd H s.heap.objs.size (dRaw s.heap.objs.size es' ep'), I.laid (t' := tk) (fun b o e => hk' b o (by simp) e) (Nat.le_refl _) (dRaw_ok hs ⟨o', g1, g2, g3⟩), rfl, q hz _ es' ep' (I.hok.fresh (Nat.le_refl _)) ?_⟩
    rw [g4]
    exact Rws.row_of X.prog (storeAll_of .nil hP)
end
end VI

set_option Elab.async false
set_option linter.all false
set_option maxRecDepth 100000
set_option maxHeartbeats 1000000
/-! VD, part 5: sorted of whatever is gathered into a list of alike data -/
namespace VI
open PySem PySem.Spec PyProof.Rows L2 PySem.Calls
/-- later: what stood still stands -/
structure Aft (s s' : Shared) : Prop where
  keep : ∀ b o, s.heap.get? b = some o → s'.heap.get? b = some o
  gens : s'.gens = s.gens
  os : s'.os = s.os
theorem each_zipV {h : Heap} : ∀ {xs : List V} {its : List Value} {ds : List PyData} {as : List Addr}, Vals xs its → xs.length = ds.length → ReadsAll h its ds as →
    PySem.W.EachIs (fun v (b : V × PyData) => RelV b.1 v) its (xs.zip ds) ∧ PySem.W.EachIs (fun v (b : V × PyData) => ∃ as, Reads h v b.2 as) its (xs.zip ds)
  | [], [], [], _, _, _, _ => ⟨.nil, .nil⟩
  | x :: xs, u :: us, d :: ds, as, .cons r t, hl, h => by
    cases h with
    | cons h1 h2 =>
    obtain ⟨e1, e2⟩ := each_zipV t (by simpa using hl) h2
    exact ⟨.cons r e1, .cons ⟨_, h1⟩ e2⟩
  | _ :: _, _ :: _, [], _, _, hl, _ => by simp at hl
theorem vals_eachV : ∀ {out : List Value} {bs : List (V × PyData)}, PySem.W.EachIs (fun v (b : V × PyData) => RelV b.1 v) out bs → Vals (bs.map (·.1)) out
  | _, _, .nil => .nil
  | _, _, .cons r t => .cons r (vals_eachV t)
theorem zip_sndV {xs : List V} {ds : List PyData} (h : xs.length = ds.length) : (xs.zip ds).map (fun b => b.2) = ds := by
  rw [show (fun (b : V × PyData) => b.2) = Prod.snd from rfl, List.map_snd_zip]
  omega
/-! a list of at most one item -/
section
open PySem PySem.W
variable {prog : Program} {w : World} {A : Around} {s : Shared} {vs : List Value}
theorem sortsOne {ds : List PyData} (hl : ds.length ≤ 1) (e : EachIs (fun v d => ∃ as, Reads s.heap v d as) vs ds) (hal : AllAlike ds) (hk : ∀ d ∈ ds, d ≠ .none) (hu : ∀ d, d ∈ ds → A.units + d.depth < cLine) : SortsAt prog w A s (dataKind s.heap ds) vs := by
  refine ⟨fun v hv => ?_, general', ?_, fun h2 => ?_⟩
  · obtain ⟨d, hd, as, r⟩ := e.left v hv
    exact ⟨_, dataKind_some hal hd r⟩
  · intro E x y a b Q ha hb hq
    obtain ⟨d, as, hd, ra, rfl⟩ := dataKind_inv ha
    obtain ⟨d', as', hd', rb, rfl⟩ := dataKind_inv hb
    show wpAny (model prog w) A (oneLt' false x y) Q E s
    exact oneLt_alike (fun z => (by cases z)) ra rb (hal d hd d' hd') (hk d hd) (Nat.lt_of_le_of_lt (Nat.add_le_add_left (Nat.min_le_left _ _) _) (hu d hd)) hq
  · rw [e.length] at h2
    omega
end
/-- what sorts: values that read as alike data -/
structure SrtArg (K : PySem.W.Frag) (H : Hp) (xs : List V) (ds : List PyData) : Prop where
  dp : DpAll K H xs ds
  len : xs.length = ds.length
  al : PySem.W.AllAlike ds
  so : PySem.W.Sortable ds ∨ (ds.length ≤ 1 ∧ ∀ d ∈ ds, d ≠ .none)
  dep : ∀ d ∈ ds, d.depth ≤ 60
  few : xs.length ≤ sizeLine
def srtV (xs : List V) (ds : List PyData) : List V := ((xs.zip ds).mergeSort (PySem.W.dataLe false fun b => b.2)).map (·.1)
section
variable {X : Cx} {pins : List (Addr × Obj)} {σ : L2.St} {H : Hp} {s : Shared}
/-- sorted(a): what its walk gathers is vs, in whatever order -/
theorem sorted_col {a : Addr} {Q : VK} {E : Value → Shared → Prop} (I : Inv X pins σ H s) (hu : X.A.units + 65 < cLine)
    (hcol : ∀ (Qc : List Value → Shared → Prop) (E' : Value → Shared → Prop), (∀ s1 vs xs ds, Aft s s1 → Vals xs vs → SrtArg X.K H xs ds → (∀ p, H p = none → Q (.ref p) (upd H p (.lst (srtV xs ds)))) → Qc vs s1) → wpAny (model X.prog X.w) X.A.in1 (collect (.ref a)) Qc E' s) :
    wpAny (model X.prog X.w) X.A (call (.builtin "sorted") [.ref a]) (EP X pins σ Q) E s := by
  refine call_function_entry kind_sorted plain_sorted entry_sorted (args_sorted1 _) ?_
  unfold Builtin.«sorted»
  refine wpAny_bind (m := checkCount "sorted" 1 1 _) (wpAny_pure ?_)
  refine wpAny_bind (hcol _ _ fun s1 vs xs ds T rv S q => ?_)
  have hlen : xs.length = vs.length := rv.length
  refine wpAny_bind (wpAny_newList ?_ (by rw [← hlen]; exact S.few))
  have hoL : (s1.heap.push (seqObj "list" vs.toArray 0)).get? s1.heap.objs.size = some (seqObj "list" vs.toArray 0) := Heap.get?_push_size _ rfl
  obtain ⟨as, h4⟩ := Dp.readsAll I ds xs vs S.dp rv
  obtain ⟨e, er⟩ := each_zipV rv S.len h4
  have hk : ∀ b u, s.heap.get? b = some u → (PySem.W.sortingHeap (s1.heap.push (seqObj "list" vs.toArray 0)) s1.heap.objs.size vs).get? b = some u := fun b u q => by
    have q1 := T.keep b u q
    exact PySem.W.sortingHeap_old (Nat.ne_of_lt (Heap.lt_size q1)) (Heap.get?_push_of_some _ q1)
  have er' : PySem.W.EachIs (fun v (b : V × PyData) => ∃ as, Reads (PySem.W.sortingHeap (s1.heap.push (seqObj "list" vs.toArray 0)) s1.heap.objs.size vs) v b.2 as) vs (xs.zip ds) := er.mono fun _ _ ⟨as, r⟩ => ⟨as, PyProof.Rows.Reads.keeps hk r⟩
  have hz2 := zip_sndV S.len
  have hal : PySem.W.AllAlike ((xs.zip ds).map fun b => b.2) := by rw [hz2]; exact S.al
  have hso : PySem.W.Sortable ((xs.zip ds).map fun b => b.2) ∨ (((xs.zip ds).map fun b => b.2).length ≤ 1 ∧ ∀ d ∈ ((xs.zip ds).map fun b => b.2), d ≠ .none) := by rw [hz2]; exact S.so
  have hdep : ∀ b, b ∈ xs.zip ds → X.A.units + 2 + b.2.depth < cLine := fun b hb => by
    have : b.2 ∈ ds := by
      have z : b.2 ∈ (xs.zip ds).map (fun b => b.2) := List.mem_map.mpr ⟨b, hb, rfl⟩
      rwa [hz2] at z
    have := S.dep _ this
    omega
  refine wpAny_bind (wpAny_holding (wpAny_call_entry slot_list_sort ⟨_, hoL, rfl⟩ entry_list_sort ?body (args_list_sort _)))
  case body =>
    refine PySem.W.list_sort_vals (s := { s1 with heap := s1.heap.push (seqObj "list" vs.toArray 0) }) (κ := PySem.W.dataKind (PySem.W.sortingHeap (s1.heap.push (seqObj "list" vs.toArray 0)) s1.heap.objs.size vs) ((xs.zip ds).map fun b => b.2)) hoL
      (hso.elim (fun hso => PySem.W.SortsAt.data (s := { s1 with heap := PySem.W.sortingHeap (s1.heap.push (seqObj "list" vs.toArray 0)) s1.heap.objs.size vs }) (PySem.W.each_map (R := fun v d => ∃ as, Reads (PySem.W.sortingHeap (s1.heap.push (seqObj "list" vs.toArray 0)) s1.heap.objs.size vs) v d as) (fun b : V × PyData => b.2) er') hal hso
        (PySem.W.bound_map fun b hb => by have := hdep b hb; show X.A.in1.in1.units + b.2.depth < cLine; show X.A.units + 1 + 1 + b.2.depth < cLine; omega)) fun hone => sortsOne (s := { s1 with heap := PySem.W.sortingHeap (s1.heap.push (seqObj "list" vs.toArray 0)) s1.heap.objs.size vs }) hone.1 (PySem.W.each_map (R := fun v d => ∃ as, Reads (PySem.W.sortingHeap (s1.heap.push (seqObj "list" vs.toArray 0)) s1.heap.objs.size vs) v d as) (fun b : V × PyData => b.2) er') hal hone.2
        (PySem.W.bound_map fun b hb => by have := hdep b hb; show X.A.in1.in1.units + b.2.depth < cLine; show X.A.units + 1 + 1 + b.2.depth < cLine; omega)) (by rw [← hlen]; exact S.few) ?_
    have eo := PySem.W.sortVals_data (R := fun v (b : V × PyData) => RelV b.1 v) false e er' hal
    have el := PySem.W.sortVals_length (κ := PySem.W.dataKind (PySem.W.sortingHeap (s1.heap.push (seqObj "list" vs.toArray 0)) s1.heap.objs.size vs) ((xs.zip ds).map fun b => b.2)) false (ks := vs) (vs := vs) rfl
    generalize PySem.W.sortVals (PySem.W.dataKind (PySem.W.sortingHeap (s1.heap.push (seqObj "list" vs.toArray 0)) s1.heap.objs.size vs) ((xs.zip ds).map fun b => b.2)) false vs vs = out at eo el ⊢
    refine ⟨_, rfl, wpAny_pure ⟨_, rfl, ?_⟩⟩
    obtain ⟨c, hc⟩ := sortedHeap_at (vs := vs) (out := out.toArray) hoL
    have hv : Vals (srtV xs ds) out := vals_eachV eo
    have hp : H s1.heap.objs.size = none := (I.hok.kept T.keep).fresh (Nat.le_refl _)
    have hg : s.heap.get? s1.heap.objs.size = none := by
      cases q : s.heap.get? s1.heap.objs.size with
      | none => rfl
      | some u => exact absurd (Heap.lt_size (T.keep _ _ q)) (Nat.lt_irrefl _)
    have keep2 : ∀ b u, s.heap.get? b = some u → (sortedHeap (s1.heap.push (seqObj "list" vs.toArray 0)) s1.heap.objs.size vs out.toArray).get? b = some u := fun b u q => by
      have q1 := T.keep b u q
      have hlt := Heap.lt_size q1
      rw [sortedHeap_old (Nat.ne_of_lt hlt) (by rw [size_push']; exact Nat.lt_succ_of_lt hlt)]
      exact Heap.get?_push_of_some _ q1
    have hfew : (srtV xs ds).length ≤ sizeLine := by
      rw [hv.length, el, ← hlen]; exact S.few
    have J : Inv X pins σ (upd H s1.heap.objs.size (.lst (srtV xs ds))) { s1 with heap := sortedHeap (s1.heap.push (seqObj "list" vs.toArray 0)) s1.heap.objs.size vs out.toArray } :=
      I.call' (ch := []) T.os (Un.laidN keep2 hg hp) (I.hok.laidN keep2 hp ⟨hfew, out, c, hv, hc⟩) (by show AllBare s1.gens; rw [T.gens]; exact I.bare) (fun _ z => nomatch z)
    exact ⟨.ref s1.heap.objs.size, _, J, rfl, q _ hp⟩
end
end VI

set_option Elab.async false
set_option linter.all false
set_option maxRecDepth 100000
set_option maxHeartbeats 1000000
/-! VD, part 6: sorted(tuple), d.keys() and d.values() as values, sorted(d.keys()), list(d.values()) -/
namespace VI
open PySem PySem.Spec PyProof.Rows L2 PySem.Calls
section
variable {prog : Program} {w : World} {A : Around} {E : Value → Shared → Prop} {s : Shared}
theorem collect_tup {l : Addr} {vs : List Value} {Q : List Value → Shared → Prop} (hl : s.heap.IsTuple l vs.toArray) (hsz : vs.length ≤ sizeLine)
    (h : ∀ s1, Aft s s1 → Q vs s1) : wpAny (model prog w) A (collect (.ref l)) Q E s := by
  obtain ⟨o, ho, hc, n, hd⟩ := id hl
  unfold collect
  refine wpAny_bind (wpAny_runValue (codeAny_builtin entry_proto_collect' ?_))
  show wpAny _ _ (do again (.builtin "list.__iadd__" ⟨[← newList [], .ref l], []⟩)) _ _ s
  refine wpAny_bind (wpAny_newList (wpAny_pure ⟨Code.quiet_builtin _ (by decide +kernel), codeAny_builtin entry_list_iadd' ?_⟩))
  show wpAny _ _ (Builtin.List.listExtendWith (.ref s.heap.objs.size) (.ref l) (.ref s.heap.objs.size)) _ _ { s with heap := s.heap.push (seqObj "list" #[] 0) }
  unfold Builtin.List.listExtendWith
  have ho' : (s.heap.push (seqObj "list" #[] 0)).get? l = some o := Heap.get?_push_of_some _ ho
  have hne : s.heap.objs.size ≠ l := Nat.ne_of_gt (Heap.lt_size ho)
  have hnew : (s.heap.push (seqObj "list" #[] 0)).get? s.heap.objs.size = some (seqObj "list" #[] 0) := Heap.get?_push_size _ rfl
  refine wpAny_bind (wpAny_typeOf (T := "tuple") ⟨o, ho', hc⟩ ?_)
  have ht : (Value.type "tuple" == Value.type "tuple") = true := by rfl
  rw [if_pos (by rw [ht]; simp)]
  refine wpAny_bind (listItems_at ho' hd ?_)
  refine wpAny_bind (listItems_at (xs := #[]) (n := 0) hnew rfl ?_)
  rw [if_neg (by simp)]
  refine wpAny_bind (listUpdate_at (xs := #[]) (n := 0) hnew rfl ?_ (Nat.zero_le _) (by show (#[] ++ vs.toArray).size ≤ sizeLine + 1; simp only [Array.size_append, List.size_toArray, List.length_nil]; omega))
  refine wpAny_pure ?_
  show wpAny (model prog w) A (do
      let o ← load s.heap.objs.size
      match o.data with
      | .seq xs _ => pure xs.toList
      | _ => unsupported "internal:collect") Q E { s with heap := (s.heap.push (seqObj "list" #[] 0)).update s.heap.objs.size (Obj.mapSeq (· ++ vs.toArray)) }
  refine wpAny_bind (wpAny_load (get?_update_seq hnew _) ?_)
  show wpAny _ _ (pure ((#[] : Array Value) ++ vs.toArray).toList) Q E _
  rw [show ((#[] : Array Value) ++ vs.toArray).toList = vs by simp]
  refine wpAny_pure (h _ ⟨fun b u e => ?_, rfl, rfl⟩)
  rw [Heap.get?_update_ne _ _ _ _ (Nat.ne_of_lt (Heap.lt_size e))]
  exact Heap.get?_push_of_some _ e
end
section
variable {X : Cx}
/-- sorted(tuple) -/
def rSortedTu (K : PySem.W.Frag) : List V → Hp → VK → Prop := fun vs H Q => ∃ (a : Addr) (xs : List V) (ds : List PyData), vs = [V.ref a] ∧ SqT K H a xs ∧ (xs.length ≤ sizeLine → SrtArg K H xs ds) ∧ ∀ p, H p = none → Q (.ref p) (upd H p (.lst (srtV xs ds)))
theorem cr_sortedTu (hu : X.A.units + 65 < cLine) : CallR X (.builtin "sorted") (rSortedTu X.K) := by
  intro pins s σ H vs us Q I r h
  obtain ⟨a, xs, ds, rfl, hq, S, q⟩ := h
  obtain ⟨u, rfl, ru⟩ := vals1 r
  cases ru
  obtain ⟨its, rv, p, hz⟩ := I.tuple hq
  refine sorted_col I hu fun Qc E' hc => ?_
  exact collect_tup p (by rw [← rv.length]; exact hz) fun s1 T => hc s1 its xs ds T rv (S hz) q
/-! ### views -/
def kView (v d : Addr) : HO := .ext fun h => PySem.W.KdlKeysView h v d
def vView (v d : Addr) : HO := .ext fun h => h.IsValuesView v d
theorem kView_ok {P : Program} {w : World} {H : Hp} {h : Heap} {v d : Addr} (r : PySem.W.KdlKeysView h v d) : ObjOk P w H h v (kView v d) := by
  have ⟨o, h1, _⟩ := r
  exact ⟨r, ⟨o, h1⟩, fun h1 h2 a b => let ⟨o, x, y⟩ := a; ⟨o, b o x, y⟩⟩
theorem vView_ok {P : Program} {w : World} {H : Hp} {h : Heap} {v d : Addr} (r : h.IsValuesView v d) : ObjOk P w H h v (vView v d) := by
  have ⟨o, h1, _⟩ := r
  exact ⟨r, ⟨o, h1⟩, fun h1 h2 a b => let ⟨o, x, y⟩ := a; ⟨o, b o x, y⟩⟩
def tView (f : Addr → Addr → HO) (td : TE) : TE := fun σ H Q => td σ H fun x H1 => ∃ d es ep, x = .ref d ∧ H1 d = some (dRaw d es ep) ∧ ∀ p, H1 p = none → Q (.ref p) (upd H1 p (f p d))
theorem pe_keysV {e : Expr} {td : TE} {apos cpos : Pos} (he : PE X e td) (hb : attributeBase e "keys" X.env (eval e X.env) = eval e X.env) (hl : (apos.endLine == cpos.line) = true) :
    PE X (.Call (.Attribute e "keys" apos) [] [] cpos) (tView kView td) := by
  refine ⟨fun pins s σ H Q I h => ?_⟩
  refine wpAny_Call_method hb rfl hl F.plainAttrs_dict F.slot_dict_keys F.type_dict_keys (thn (he.run pins s σ H _ I h) fun u s1 ⟨x, H1, I1, r1, d, es, ep, e1, hd, q⟩ => ?_)
  subst e1
  cases r1
  obtain ⟨hs, hr⟩ := raw_of I1 hd
  refine ⟨raw_type hr, raw_nodict hr, callWith_builtin rfl (evalArgs_none ?_)⟩
  refine call_meetsIn F.slot_dict_keys (raw_type hr) F.entry_dict_keys (F.args_dict_keys_1 _) (meets_dict_keys_raw d hs) ⟨⟨es, ep, hr⟩, ?_⟩
  exact ⟨.ref _, _, I1.laid (t' := s1.toks) (fun b o e => Heap.get?_push_of_some _ e) (Nat.le_refl _) (kView_ok ⟨_, Heap.get?_push_size _ rfl, rfl, rfl⟩), rfl, q _ (I1.hok.fresh (Nat.le_refl _))⟩
theorem pe_valsV {e : Expr} {td : TE} {apos cpos : Pos} (he : PE X e td) (hb : attributeBase e "values" X.env (eval e X.env) = eval e X.env) (hl : (apos.endLine == cpos.line) = true) :
    PE X (.Call (.Attribute e "values" apos) [] [] cpos) (tView vView td) := by
  refine ⟨fun pins s σ H Q I h => ?_⟩
  refine wpAny_Call_method hb rfl hl F.plainAttrs_dict F.slot_dict_values F.type_dict_values (thn (he.run pins s σ H _ I h) fun u s1 ⟨x, H1, I1, r1, d, es, ep, e1, hd, q⟩ => ?_)
  subst e1
  cases r1
  obtain ⟨hs, hr⟩ := raw_of I1 hd
  refine ⟨raw_type hr, raw_nodict hr, callWith_builtin rfl (evalArgs_none ?_)⟩
  refine call_meetsIn F.slot_dict_values (raw_type hr) F.entry_dict_values (F.args_dict_values_1 _) (meets_dict_values_raw d hs) ⟨⟨es, ep, hr⟩, ?_⟩
  exact ⟨.ref _, _, I1.laid (t' := s1.toks) (fun b o e => Heap.get?_push_of_some _ e) (Nat.le_refl _) (vView_ok ⟨_, Heap.get?_push_size _ rfl, rfl, rfl⟩), rfl, q _ (I1.hok.fresh (Nat.le_refl _))⟩
theorem items_vals {f : DictEntry → Value} {es : Array DictEntry} {acc : Array Value} {vs : List V} (hp : Paired (fun v e => RelV v (f e)) vs es.toList) (h : PySem.ItemsOf (fun i v => ∃ hi : i < es.size, v = f es[i]) acc es.size) : Vals vs acc.toList := by
  have key : ∀ {vs : List V} {l : List DictEntry} {m : List Value}, Paired (fun v e => RelV v (f e)) vs l → m.length = l.length → (∀ (j : Nat) (v : Value), m[j]? = some v → ∃ hj : j < l.length, v = f l[j]) → Vals vs m := by
    intro vs l m hp
    induction hp generalizing m with
    | nil =>
      intro hl _
      cases m with
      | nil => exact .nil
      | cons _ _ => simp at hl
    | cons r t ih =>
      intro hl hj
      cases m with
      | nil => simp at hl
      | cons u m =>
        obtain ⟨_, e⟩ := hj 0 u rfl
        refine .cons (by rw [e]; exact r) (ih (by simpa using hl) fun j v hv => ?_)
        obtain ⟨h1, h2⟩ := hj (j + 1) v (by simpa using hv)
        exact ⟨by simpa using h1, by simpa using h2⟩
  refine key hp (by rw [Array.length_toList, Array.length_toList]; exact h.1) fun j v hv => ?_
  obtain ⟨h1, h2⟩ := h.2 j v (by rw [← Array.getElem?_toList]; exact hv)
  exact ⟨by simpa using h1, by simpa using h2⟩
/-- sorted(d.keys()) -/
def rSortedKV (K : PySem.W.Frag) : List V → Hp → VK → Prop := fun vs H Q => ∃ (a d : Addr) (es : Array DictEntry) (ep : Nat) (xs : List V) (ds : List PyData), vs = [V.ref a] ∧ H a = some (kView a d) ∧ H d = some (dRaw d es ep) ∧
  Paired (fun v e => RelV v e.key) xs es.toList ∧ SrtArg K H xs ds ∧ ∀ p, H p = none → Q (.ref p) (upd H p (.lst (srtV xs ds)))
theorem cr_sortedKV (hc : X.calm = true) (hu : X.A.units + 65 < cLine) : CallR X (.builtin "sorted") (rSortedKV X.K) := by
  intro pins s σ H vs us Q I r h
  obtain ⟨a, d, es, ep, xs, ds, rfl, ha, hd, hp, S, q⟩ := h
  obtain ⟨u, rfl, ru⟩ := vals1 r
  cases ru
  have v := (I.hok a _ ha).1
  obtain ⟨_, hr⟩ := raw_of I hd
  have hl := (paired_at hp).1
  refine sorted_col I hu fun Qc E' hcc => ?_
  refine PySem.W.kdu_collect (PySem.KdlSrc.rawKeys (ep := ep) (es := es)) (I.ok.hd hc) ⟨v, hr⟩ (by rw [← hl]; exact S.few) fun h' tk acc hk hacc => ?_
  exact hcc _ _ xs ds ⟨hk, rfl, rfl⟩ (items_vals hp hacc) S q
/-- list(d.values()) -/
def rListVV : List V → Hp → VK → Prop := fun vs H Q => ∃ (a d : Addr) (es : Array DictEntry) (ep : Nat) (xs : List V), vs = [V.ref a] ∧ H a = some (vView a d) ∧ H d = some (dRaw d es ep) ∧
  Paired (fun v e => RelV v e.val) xs es.toList ∧ xs.length ≤ sizeLine ∧ ∀ p, H p = none → Q (.ref p) (upd H p (.lst xs))
theorem cr_listVV (hc : X.calm = true) : CallR X (.type "list") rListVV := by
  intro pins s σ H vs us Q I r h
  obtain ⟨a, d, es, ep, xs, rfl, ha, hd, hp, hf, q⟩ := h
  obtain ⟨u, rfl, ru⟩ := vals1 r
  cases ru
  have v := (I.hok a _ ha).1
  obtain ⟨_, hr⟩ := raw_of I hd
  have hl := (paired_at hp).1
  refine PySem.W.kdl_call (PySem.KdlSrc.rawValues (ep := ep) (es := es)) (I.ok.hd hc) ⟨v, hr⟩ (by rw [← hl]; exact hf) fun h' tk acc c hk hS hacc => ?_
  have hv := items_vals hp hacc
  exact ⟨.ref _, upd H s.heap.objs.size (.lst xs), I.laid (t' := tk) hk (Nat.le_refl _) ⟨hf, acc.toList, c, hv, by simpa using hS⟩, rfl, q _ (I.hok.fresh (Nat.le_refl _))⟩
end
end VI

set_option Elab.async false
set_option linter.all false
set_option maxRecDepth 100000
set_option maxHeartbeats 3200000
/-! VD, part 7: set(list of ints), set(list of tuples of ints), set(tuple of ints); sorted of these -/
namespace VI
open PySem PySem.Spec PyProof.Rows L2 PySem.Calls
section
variable {P : Program} {w : World} {A : Around} {E : Value → Shared → Prop} {s : Shared}
abbrev set0 (w : World) : Obj := { cls := .type "set", dict := none, data := .set #[] 0 (.fresh 0 0 (!w.params.followText "set-order")) }
/-- set(xs), the loop's doing told apart -/
theorem call_set_src {l : Addr} {items : Array Value} {Fi : Heap → Prop} {Q : Value → Shared → Prop} (hh : A.handled = none) (hl : s.heap.IsList l items)
    (loop : ∀ (I : Addr) (fp wr : List Addr) (G : Array GenState → Array GenState → Prop) (St : Nat → Shared → Prop) (R : Result → Shared → Prop) (s1 : Shared),
      WalksS P w A.in1.in1.in1 I fp wr G items.size (fun i v => items[i]? = some v) St → s.heap.objs.size ∉ fp → (∀ b ∈ wr, s.heap.get? b = none) → St 0 s1 → (∀ b o, s.heap.get? b = some o → s1.heap.get? b = some o) →
      s1.heap.get? s.heap.objs.size = some (set0 w) → (∀ s', Moved (s.heap.objs.size :: wr) G s1 s' → Fi s'.heap → (∀ b o, s.heap.get? b = some o → s'.heap.get? b = some o) → R (.ok (.ret .none)) s') →
      codeAny (model P w) A.in1.in1 (.builtin "set.update.loop" ⟨[.ref s.heap.objs.size, .ref I], []⟩) R s1)
    (h : ∀ (h' : Heap) (tk : Nat), Fi h' → (∀ b o, s.heap.get? b = some o → h'.get? b = some o) → Q (.ref s.heap.objs.size) { s with heap := h', toks := tk }) :
    wpAny (model P w) A (call (.type "set") [.ref l]) Q E s := by
  obtain ⟨c, tl, hmro⟩ := F.called_set.mro
  have hmade := F.called_set.made
  have hsub := F.called_set.sub
  refine wpAny_call (codeAny_of_tree ?_)
  show wpAny _ _ (callAny (.type "set") _) _ _ _
  refine wpAny_pure ⟨Code.quiet_builtin _ (by decide +kernel), codeAny_builtin F.entry_type_call ?_⟩
  rw [Around.under_plain (weight_type_call_type "set" [.ref l] []) rfl]
  have h1 := F.called_set.notType
  have h2 := F.called_set.canCreate
  have hct := F.typeCall_set_1 (.ref l)
  repeat (any_goals (first | assumption | wp_step))
  refine codeAny_mono (code_set_led1 (.ref l) (E := E) (Q₁ := fun obj s₁ => obj = .ref s.heap.objs.size ∧ s₁ = { s with heap := s.heap.push (set0 w) }) ⟨rfl, rfl⟩) fun r s₁ hr => ?_
  cases r with
  | error e => exact hr
  | ok fl =>
    cases fl with
    | ret obj =>
      obtain ⟨rfl, rfl⟩ := hr
      have hS : (s.heap.push (set0 w)).get? s.heap.objs.size = some (set0 w) := Heap.get?_push_size _ rfl
      have hT : Shared.TypeIs { s with heap := s.heap.push (set0 w) } (.ref s.heap.objs.size) "set" := ⟨_, hS, rfl⟩
      have hli := F.called_set.init.lookup
      have hbi := F.called_set.init.bind (.ref s.heap.objs.size)
      repeat (any_goals (first | assumption | wp_step))
      refine codeAny_mono (codeAny_call_builtin (R := wants (fun r s₂ => r = .none ∧ ∃ h' tk, s₂ = { s with heap := h', toks := tk } ∧ Fi h' ∧ (∀ b o, s.heap.get? b = some o → h'.get? b = some o)) E) F.called_set.init.plain F.entry_set_init (check_set_init_1 hT ?_)) fun r₂ s₂ hr₂ => ?_
      · obtain ⟨⟨ocls, odict, odata, oslots⟩, hol, hcl, nl, hdl⟩ := hl
        simp only at hcl hdl
        subst hcl; subst hdl
        have hol' : (s.heap.push (set0 w)).get? l = some { cls := .type "list", dict := odict, data := .seq items nl, slots := oslots } := Heap.get?_push_of_some _ hol
        have hsls := F.sub_list_set
        have hslf := F.sub_list_frozenset
        have hne : (Value.type "list" == Value.type "dict") = false := by decide
        have hl1 : (s.heap.push (set0 w)).IsList l items := ⟨_, hol', rfl, nl, rfl⟩
        unfold Builtin.«set.__init__» noKeywords Builtin.Frozenset.updateFrom
        generalize hPI : pyIter = PI
        wp_walk
        subst hPI
        refine wpAny_pyIter_list hl1 ?_
        refine wpAny_bind (wpAny_runValue ?_)
        have hlS : l < s.heap.objs.size := Heap.lt_size hol
        have hh3 : A.in1.in1.in1.handled = none := by simp [hh]
        have hneI : l ≠ (s.heap.push (set0 w)).objs.size := by
          rw [Heap.size_push]; exact Nat.ne_of_lt (Nat.lt_succ_of_lt hlS)
        have hSf : s.heap.objs.size ∉ [(s.heap.push (set0 w)).objs.size, l] := by
          rw [Heap.size_push]; simp only [List.mem_cons, List.mem_singleton, List.not_mem_nil, or_false, not_or]
          exact ⟨Nat.ne_of_lt (Nat.lt_succ_self _), Nat.ne_of_gt hlS⟩
        have none_of : ∀ b, s.heap.objs.size ≤ b → s.heap.get? b = none := fun b hb => by
          cases q : s.heap.get? b with
          | none => rfl
          | some o => exact absurd (Nat.lt_of_lt_of_le (Heap.lt_size q) hb) (Nat.lt_irrefl _)
        refine loop _ _ _ _ _ _ _ (Walks.list hh3 _ l hneI items).toS hSf (fun b hb => none_of b (by
            rw [List.mem_singleton.mp hb, Heap.size_push]
            exact Nat.le_succ _)) ⟨⟨_, Heap.get?_push_size _ rfl, rfl, rfl⟩, hl1.push _⟩ (fun b o e => Heap.get?_push_of_some _ (Heap.get?_push_of_some _ e)) (Heap.get?_push_of_some _ hS) ?hR
        case hR =>
          intro s' hm hF hkp
          obtain ⟨h', g2, d', tk', os'⟩ := s'
          have eg : g2 = s.gens := hm.gens
          have ed : d' = s.drawn := hm.drawn
          have eo : os' = s.os := hm.os
          subst eg; subst ed; subst eo
          refine wpAny_pure ?_
          show wpAny _ _ (ret Value.none) _ _ _
          exact wpAny_pure ⟨rfl, h', tk', rfl, hF, hkp⟩
      · cases r₂ with
        | error e => exact hr₂
        | ok fl₂ =>
          cases fl₂ with
          | ret r =>
            obtain ⟨rfl, h', tk, rfl, hF, hk'⟩ := hr₂
            repeat (any_goals (first | assumption | wp_step))
            exact h _ _ hF hk'
          | _ => exact hr₂.elim
    | _ => exact hr.elim
end
end VI

set_option Elab.async false
set_option linter.all false
set_option maxRecDepth 100000
set_option maxHeartbeats 1600000
/-! VD, part 8: the loops of set(..), the calls by abstract heap -/
namespace VI
open PySem PySem.Spec PyProof.Rows L2 PySem.Calls
section
variable {P : Program} {w : World} {A : Around} {E : Value → Shared → Prop} {s : Shared}
/-- the loop over tuples of ints, the distinct ones fewer than 63 -/
theorem upd_tups {I : Addr} {fp wr : List Addr} {G : Array GenState → Array GenState → Prop} {n : Nat} {Pv : Nat → Value → Prop} {St : Nat → Shared → Prop} {R : Result → Shared → Prop}
    (W : WalksS P w A.in1 I fp wr G n Pv St) (S : Addr) (hSf : S ∉ fp) (ks : List (Addr × List Int)) (hn : n = ks.length) (hD : ∀ L : List (Addr × List Int), (∀ p ∈ L, p ∈ ks) → (L.map (·.2)).Nodup → L.length + 1 < 64)
    (hval : ∀ i v, Pv i v → ∃ p, ks[i]? = some p ∧ v = .ref p.1) (h0 : Heap) (hk : ∀ p ∈ ks, IsT P w h0 p.2 p.1) (hS0 : h0.get? S = none) (hw0 : ∀ b ∈ wr, h0.get? b = none) (hu : A.in1.units < cLine) :
    ∀ (k i : Nat) (s : Shared), n - i = k → i ≤ n → St i s → (∀ b o, h0.get? b = some o → s.heap.get? b = some o) → (∃ L es ep t, SetTR P w s.heap S L es ep t ∧ Got ks i L) →
      (∀ s' L es ep t, Moved (S :: wr) G s s' → SetTR P w s'.heap S L es ep t → Got ks n L → (∀ b o, h0.get? b = some o → s'.heap.get? b = some o) → R (.ok (.ret .none)) s') →
      codeAny (model P w) A (.builtin "set.update.loop" ⟨[.ref S, .ref I], []⟩) R s := by
  have hSw : S ∉ wr := fun h => hSf (W.sub _ h)
  have hsub : ∀ b ∈ wr, b ∈ S :: wr := fun b hb => List.mem_cons_of_mem _ hb
  have keepM : ∀ {s s' : Shared}, Moved wr G s s' → (∀ b o, h0.get? b = some o → s.heap.get? b = some o) → ∀ b o, h0.get? b = some o → s'.heap.get? b = some o := fun hm hkp b o e =>
    hm.heap b o (fun hb => by rw [hw0 b hb] at e; cases e) (hkp b o e)
  intro k
  induction k with
  | zero =>
    intro i s hk' hi hst hkp ⟨L, es, ep, t, hS, g⟩ hR
    obtain rfl : i = n := by omega
    refine codeAny_builtin F.entry_set_update_loop ?_
    rw [Around.under_plainId F.plain_set_update_loop _]
    show wpAny _ A.in1 (pyNext (.ref I) >>= _) _ _ s
    refine wpAny_bind (W.done s _ _ hst fun s' hm => ?_)
    show wpAny _ A.in1 (ret Value.none) _ _ s'
    have hkp' := keepM hm hkp
    exact wpAny_pure (hR s' L es ep t (hm.mono hsub) (hS.keep (fun o e => hm.heap S o hSw e) fun p hp => isT_keep (hk p (List.mem_of_mem_take (g.sub p hp))) hkp') g hkp')
  | succ k ih =>
    intro i s hk' hi hst hkp ⟨L, es, ep, t, hS, g⟩ hR
    have hlt : i < n := by omega
    refine codeAny_builtin F.entry_set_update_loop ?_
    rw [Around.under_plainId F.plain_set_update_loop _]
    show wpAny _ A.in1 (pyNext (.ref I) >>= _) _ _ s
    refine wpAny_bind (W.item i s _ _ hlt hst fun v s' hP hst' hm => ?_)
    obtain ⟨p, hp, rfl⟩ := hval i v hP
    have hkp' := keepM hm hkp
    have sub : ∀ p ∈ L, p ∈ ks := fun p hp => List.mem_of_mem_take (g.sub p hp)
    have hS' : SetTR P w s'.heap S L es ep t := hS.keep (fun o e => hm.heap S o hSw e) fun q hq => isT_keep (hk q (sub q hq)) hkp'
    have hx : IsT P w s'.heap p.2 p.1 := isT_keep (hk p (List.mem_of_getElem? hp)) hkp'
    show wpAny _ A.in1 (holding [Value.ref p.1] (setAdd S (.ref p.1)) >>= _) _ _ s'
    refine wpAny_bind (wpAny_holding ?_)
    unfold setAdd
    refine wpAny_holding (wpAny_bind (wpAny_pyHash_tuple hu hx ?_))
    refine add_at (s := { s' with toks := s'.toks + (p.2.length + 1) }) hS' hx hu (hD L sub hS.nd) fun b h' L' es' ep' t' hsb hS2 c1 c2 => ?_
    have g' : Got ks (i + 1) L' := by
      rcases Classical.em (p.2 ∈ L.map (·.2)) with c | c
      · rw [c1 c]; exact g.same hp c
      · exact g.more hp (c2 c)
    have hkp2 : ∀ b o, h0.get? b = some o → h'.get? b = some o := fun b o e => (hsb.2 b (fun z => by rw [z, hS0] at e; cases e)).trans (hkp' b o e)
    refine wpAny_pure ⟨plainId_quiet F.plain_set_update_loop _, ih (i + 1) _ (by omega) hlt (W.frame _ s' _ _ hst' (Nat.le_add_right _ _) fun b hb o e => ?_) hkp2 ⟨L', es', ep', t', hS2, g'⟩ fun s'' L2 es2 ep2 t2 hm'' hS'' g'' hkp'' => ?_⟩
    · rw [hsb.2 b (fun h : b = S => hSf (by rw [← h]; exact hb))]; exact e
    · refine hR s'' L2 es2 ep2 t2 (Moved.trans W.gtrans ((hm.mono hsub).then_heap (Nat.le_add_right _ _) fun b o hb e => ?_) hm'') hS'' g'' hkp''
      rw [hsb.2 b (fun h : b = S => hb (by rw [h]; exact List.mem_cons_self))]; exact e
theorem set_tups {l : Addr} {items : Array Value} (ks : List (Addr × List Int)) {Q : Value → Shared → Prop} (hh : A.handled = none) (hl : s.heap.IsList l items) (hit : items.toList = ks.map fun p => Value.ref p.1)
    (hk : ∀ p ∈ ks, IsT P w s.heap p.2 p.1) (hD : ∀ L : List (Addr × List Int), (∀ p ∈ L, p ∈ ks) → (L.map (·.2)).Nodup → L.length + 1 < 64) (hu : A.units + 3 < cLine)
    (h : ∀ (h' : Heap) (tk : Nat) L es ep t, SetTR P w h' s.heap.objs.size L es ep t → Got ks ks.length L → (∀ b o, s.heap.get? b = some o → h'.get? b = some o) → Q (.ref s.heap.objs.size) { s with heap := h', toks := tk }) :
    wpAny (model P w) A (call (.type "set") [.ref l]) Q E s := by
  have hisz : items.size = ks.length := by
    have q := congrArg List.length hit
    rwa [Array.length_toList, List.length_map] at q
  refine call_set_src (Fi := fun h' => ∃ L es ep t, SetTR P w h' s.heap.objs.size L es ep t ∧ Got ks ks.length L) hh hl (fun I fp wr G St R s1 W hSf hw hst hkp hS hR => ?_) fun h' tk ⟨L, es, ep, t, h1, h2⟩ hkp => h h' tk L es ep t h1 h2 hkp
  have hS0 : s.heap.get? s.heap.objs.size = none := by
    cases q : s.heap.get? s.heap.objs.size with
    | none => rfl
    | some o => exact absurd (Heap.lt_size q) (Nat.lt_irrefl _)
  refine upd_tups W s.heap.objs.size hSf ks hisz hD (fun i v hv => ?_) s.heap hk hS0 hw hu (items.size - 0) 0 s1 rfl (Nat.zero_le _) hst hkp ⟨[], #[], 0, _, setTR_fresh hS, Got.zero ks⟩ fun s' L es ep t hm hS' g hkp' => ?_
  · have q : items.toList[i]? = some v := by rw [Array.getElem?_toList]; exact hv
    rw [hit, List.getElem?_map] at q
    obtain ⟨p, hp, e⟩ := Option.map_eq_some_iff.mp q
    exact ⟨p, hp, e.symm⟩
  · rw [hisz] at g
    exact hR s' hm ⟨L, es, ep, t, hS', g⟩ hkp'
theorem set_ints {l : Addr} {items : Array Value} (ns : List Int) {Q : Value → Shared → Prop} (hh : A.handled = none) (hl : s.heap.IsList l items) (hit : IntsAre items.toList ns) (hb : ns.length + 1 < scanBound)
    (h : ∀ (h' : Heap) (tk c : Nat), SetR w h' s.heap.objs.size (fun j => decide (j ∈ ns)) c → c ≤ ns.length → (∀ b o, s.heap.get? b = some o → h'.get? b = some o) → Q (.ref s.heap.objs.size) { s with heap := h', toks := tk }) :
    wpAny (model P w) A (call (.type "set") [.ref l]) Q E s := by
  have hisz : items.size = ns.length := by
    have q := IntsAre.length hit
    rwa [Array.length_toList] at q
  refine call_set_src (Fi := fun h' => ∃ c, c ≤ ns.length ∧ SetR w h' s.heap.objs.size (fun j => decide (j ∈ ns)) c) hh hl (fun I fp wr G St R s1 W hSf hw hst hkp hS hR => ?_) fun h' tk ⟨c, h1, h2⟩ hkp => h h' tk c h2 h1 hkp
  have hS0 : s.heap.get? s.heap.objs.size = none := by
    cases q : s.heap.get? s.heap.objs.size with
    | none => rfl
    | some o => exact absurd (Heap.lt_size q) (Nat.lt_irrefl _)
  have hS1 : (s.heap.push (set0 w)).get? s.heap.objs.size = some (set0 w) := Heap.get?_push_size _ rfl
  have R0 : SetR w s1.heap s.heap.objs.size (fun j => decide (j ∈ ns.take 0)) 0 := SetR.congr (SetR.at (setR_fresh (h := s.heap) w) fun o e => by
    have e2 : (s.heap.push (set0 w)).get? s.heap.objs.size = some o := e
    rw [hS1] at e2
    rw [← e2]; exact hS) fun k => by simp
  refine set_update_ints W s.heap.objs.size hSf ns hisz hb (fun i v hv => ?_) (items.size - 0) 0 s1 rfl (Nat.zero_le _) hst ⟨0, Nat.le_refl _, R0⟩ fun s' c hm hc hS' => ?_
  · have hi : i < ns.length := by rw [← hisz]; exact (Array.getElem?_eq_some_iff.mp hv).1
    have key : ∀ {us : List Value} {ms : List Int}, IntsAre us ms → ∀ (i : Nat) (v : Value), us[i]? = some v → ∃ k t, ms[i]? = some k ∧ v = .int k t := by
      intro us ms hI
      induction hI with
      | nil => intro i v e; simp at e
      | cons k t _ ih =>
        intro i v e
        cases i with
        | zero => simp at e; exact ⟨k, t, rfl, e.symm⟩
        | succ i =>
          obtain ⟨k', t', h1, h2⟩ := ih i v (by simpa using e)
          exact ⟨k', t', by simpa using h1, h2⟩
    exact key hit i v (by rw [Array.getElem?_toList]; exact hv)
  · rw [hisz] at hc
    refine hR s' hm ⟨c, hc, hS'⟩ fun b o e => ?_
    refine hm.heap b o (fun hb' => ?_) (hkp b o e)
    rcases List.mem_cons.mp hb' with z | z
    · rw [z, hS0] at e; cases e
    · rw [hw b z] at e; cases e
end
section
variable {X : Cx}
/-- set(xs) of ints, a list or a tuple -/
def rSetI (K : PySem.W.Frag) (w : World) : List V → Hp → VK → Prop := fun vs H Q => ∃ (a : Addr) (ns : List Int), vs = [V.ref a] ∧ (SqL K H a (ns.map V.int) ∨ SqT K H a (ns.map V.int)) ∧ ns.length + 1 < scanBound ∧
  ∀ p c, H p = none → Q (.ref p) (upd H p (SetO w p (fun j => decide (j ∈ ns)) c))
theorem ints_vals : ∀ {ns : List Int} {us : List Value}, Vals (ns.map V.int) us → IntsAre us ns
  | [], _, .nil => .nil
  | n :: ns, _, .cons r t => by
    obtain ⟨tk, rfl⟩ := r
    exact .cons n tk (ints_vals t)
theorem cr_setI (hc : X.calm = true) : CallR X (.type "set") (rSetI X.K X.w) := by
  intro pins s σ H vs us Q I r h
  obtain ⟨a, ns, rfl, hq, hb, q⟩ := h
  obtain ⟨u, rfl, ru⟩ := vals1 r
  cases ru
  have fin : ∀ (h' : Heap) (tk c : Nat), SetR X.w h' s.heap.objs.size (fun j => decide (j ∈ ns)) c → c ≤ ns.length → (∀ b o, s.heap.get? b = some o → h'.get? b = some o) → EP X pins σ Q (.ref s.heap.objs.size) { s with heap := h', toks := tk } := fun h' tk c R _ k =>
    ⟨.ref _, upd H s.heap.objs.size (SetO X.w s.heap.objs.size (fun j => decide (j ∈ ns)) c), I.laid (t' := tk) k (Nat.le_refl _) (setO_new R), rfl, q _ c (I.hok.fresh (Nat.le_refl _))⟩
  rcases hq with hq | hq
  · obtain ⟨its, rv, p, _⟩ := I.list hq
    exact set_ints ns (I.ok.hd hc) p.isList (by simpa using ints_vals rv) hb fin
  · obtain ⟨its, rv, p, _⟩ := I.tuple hq
    exact call_set_tupI ns (I.ok.hd hc) p (by simpa using ints_vals rv) hb fin
/-- set(xs), a list of tuples of ints -/
def rSetTs (K : PySem.W.Frag) (P : Program) (w : World) : List V → Hp → VK → Prop := fun xs H Q => ∃ (l : Addr) (ks : List (Addr × List Int)), xs = [V.ref l] ∧ SqL K H l (ks.map fun p => V.ref p.1) ∧ (∀ p ∈ ks, SqT K H p.1 (p.2.map V.int)) ∧
  (∀ L : List (Addr × List Int), (∀ p ∈ L, p ∈ ks) → (L.map (·.2)).Nodup → L.length + 1 < 64) ∧
  ∀ a L, H a = none → (∀ p ∈ L, p ∈ ks) → (∀ p ∈ ks, p.2 ∈ L.map (·.2)) → (L.map (·.2)).Nodup → Q (.ref a) (upd H a (SetTO P w a L))
theorem cr_setTs (hc : X.calm = true) (hu : X.A.units + 64 < cLine) : CallR X (.type "set") (rSetTs X.K X.prog X.w) := by
  intro pins s σ H xs us Q I r h
  obtain ⟨l, ks, rfl, hl, hk, hf, q⟩ := h
  rw [Vals.ref1 r]
  obtain ⟨its, rv, pl, hz⟩ := I.list hl
  have hn : H s.heap.objs.size = none := I.hok.fresh (Nat.le_refl _)
  refine set_tups (P := X.prog) (w := X.w) ks (I.ok.hd hc) pl.isList (by simpa using refs_of_vals rv) (fun p hp => I.isT (hk p hp)) hf (by omega) fun h' tk L es ep t R g k => ?_
  refine ⟨.ref s.heap.objs.size, upd H s.heap.objs.size (SetTO X.prog X.w s.heap.objs.size L), I.laid (t' := tk) k (Nat.le_refl _) (setTO_new R.t0), rfl, q _ L hn (fun p hp => ?_) (fun p hp => ?_) R.nd⟩
  · exact List.mem_of_mem_take (g.sub p hp)
  · exact g.all p (by rw [List.take_length]; exact hp)
/-- sorted(set of ints) -/
def rSortedSI (K : PySem.W.Frag) (w : World) : List V → Hp → VK → Prop := fun vs H Q => ∃ (a : Addr) (S : Int → Bool) (n : Nat), vs = [V.ref a] ∧ H a = some (SetO w a S n) ∧
  ∀ ks : List Int, ks.Nodup → (∀ k, k ∈ ks ↔ S k = true) → SrtArg K H (ks.map V.int) (ks.map PyData.int) ∧ ∀ p, H p = none → Q (.ref p) (upd H p (.lst (srtV (ks.map V.int) (ks.map PyData.int))))
theorem cr_sortedSI (hc : X.calm = true) (hu : X.A.units + 65 < cLine) : CallR X (.builtin "sorted") (rSortedSI X.K X.w) := by
  intro pins s σ H vs us Q I r h
  obtain ⟨a, S, n, rfl, ha, q⟩ := h
  rw [Vals.ref1 r]
  obtain ⟨o, es, ep, t, h1, h2, h3, h4, h5, h6, h7, h8, h9, h10, h11⟩ := setO_get I ha
  refine sorted_col I hu fun Qc E' hcc => ?_
  refine collect_set (I.ok.hd hc) ⟨o, h1, h2.1, h3⟩ h8 h7 h10 h11 fun s' out k _ g o' pm => ?_
  -- the values in their order are keys in that order
  have ex : ∃ ks : List Int, ks.Perm (es.toList.map keyOf) ∧ Vals (ks.map V.int) out := by
    have gv : ∀ v ∈ es.toList.map (·.2), ∃ k tk, v = Value.int k tk := fun v hv => by
      obtain ⟨e, he, rfl⟩ := List.mem_map.mp hv
      obtain ⟨k, tk, e1, _⟩ := h4 e he
      exact ⟨k, tk, e1⟩
    have hr : ∀ e ∈ es.toList, keyOf e = Builtin.Re.reRawOf e.2 := fun e he => by
      obtain ⟨k, tk, e1, _⟩ := h4 e he
      unfold keyOf
      rw [e1]; rfl
    refine ⟨out.map Builtin.Re.reRawOf, ?_, ?_⟩
    · refine (pm.map Builtin.Re.reRawOf).trans ?_
      rw [List.map_map]
      exact List.Perm.of_eq (List.map_congr_left fun e he => (hr e he).symm)
    · have : ∀ (l : List Value), (∀ v ∈ l, ∃ k tk, v = Value.int k tk) → Vals ((l.map Builtin.Re.reRawOf).map V.int) l := by
        intro l
        induction l with
        | nil => intro _; exact .nil
        | cons v l ih =>
          intro hl
          obtain ⟨k, tk, rfl⟩ := hl v (.head _)
          exact .cons ⟨tk, rfl⟩ (ih fun u hu => hl u (.tail _ hu))
      exact this out fun v hv => gv v (pm.mem_iff.mp hv)
  obtain ⟨ks, pk, hv⟩ := ex
  obtain ⟨SA, q2⟩ := q ks (pk.nodup_iff.mpr h5) fun k => by rw [pk.mem_iff, h6]
  exact hcc s' out _ _ ⟨k, g, o'⟩ hv SA q2
/-- sorted(set of tuples of ints) -/
def rSortedST (K : PySem.W.Frag) (P : Program) (w : World) : List V → Hp → VK → Prop := fun vs H Q => ∃ (a : Addr) (L : List (Addr × List Int)), vs = [V.ref a] ∧ H a = some (SetTO P w a L) ∧ (∀ p ∈ L, SqT K H p.1 (p.2.map V.int)) ∧
  ∀ L' : List (Addr × List Int), L'.Perm L → SrtArg K H (L'.map fun p => V.ref p.1) (L'.map fun p => PyData.tuple (p.2.map PyData.int)) ∧
    ∀ p, H p = none → Q (.ref p) (upd H p (.lst (srtV (L'.map fun p => V.ref p.1) (L'.map fun p => PyData.tuple (p.2.map PyData.int)))))
theorem cr_sortedST (hc : X.calm = true) (hu : X.A.units + 65 < cLine) : CallR X (.builtin "sorted") (rSortedST X.K X.prog X.w) := by
  intro pins s σ H vs us Q I r h
  obtain ⟨a, L, rfl, ha, hk, q⟩ := h
  rw [Vals.ref1 r]
  have R0 : SetT0 X.prog X.w s.heap a L := (I.hok a _ ha).1
  obtain ⟨es, ep, t, R⟩ := R0.full fun p hp => I.isT (hk p hp)
  obtain ⟨o, ho, hex, hd⟩ := R.ob
  have hsz := R.size
  have hfew := R.few
  refine sorted_col I hu fun Qc E' hcc => ?_
  refine collect_set (I.ok.hd hc) ⟨o, ho, hex.1, hd⟩ R.fits (by unfold scanBound; omega) R.tab.ris R.led fun s' out k _ g o' pm => ?_
  have hes : es.toList.map (·.2) = L.map fun q => Value.ref q.1 := by
    rw [R.rows]
    unfold rowsOf
    rw [List.map_map] <;> rfl
  rw [hes] at pm
  have one : ∀ q ∈ L, ∀ r ∈ L, q.1 = r.1 → q = r := fun q hq r hr e => by
    have a1 := R.tup q hq
    have a2 := R.tup r hr
    rw [e] at a1
    exact Prod.ext e (a1.inj a2)
  have ord : ∀ vs : List Value, (∀ v ∈ vs, ∃ q ∈ L, v = Value.ref q.1) → ∃ L1 : List (Addr × List Int), vs = L1.map (fun q => Value.ref q.1) ∧ ∀ q ∈ L1, q ∈ L := by
    intro vs
    induction vs with
    | nil => intro _; exact ⟨[], rfl, fun q hq => (by cases hq)⟩
    | cons v vs ih =>
      intro hv
      obtain ⟨q, hq, e⟩ := hv v List.mem_cons_self
      obtain ⟨L1, e1, hs⟩ := ih fun u hu => hv u (List.mem_cons_of_mem _ hu)
      refine ⟨q :: L1, by rw [List.map_cons, e, e1], fun r hr => ?_⟩
      rcases List.mem_cons.mp hr with z | z
      · rw [z]; exact hq
      · exact hs r z
  obtain ⟨L', e', hs'⟩ := ord out fun v hv => by
    obtain ⟨q, hq, e⟩ := List.mem_map.mp (pm.mem_iff.mp hv)
    exact ⟨q, hq, e.symm⟩
  have pL : L'.Perm L := by
    rw [e'] at pm
    have nL : L.Nodup := nodup_of_map R.nd
    have nref : (L.map fun q => Value.ref q.1).Nodup := by
      refine List.pairwise_map.mpr (List.Pairwise.imp_of_mem (fun {q r} hq hr hne e => ?_) nL)
      injection e with e
      exact hne (one q hq r hr e)
    have n1 : L'.Nodup := nodup_of_map (pm.nodup_iff.mpr nref)
    refine (List.perm_ext_iff_of_nodup n1 nL).mpr fun q => ⟨hs' q, fun hq => ?_⟩
    have hm : Value.ref q.1 ∈ L'.map (fun q => Value.ref q.1) := pm.mem_iff.mpr (List.mem_map.mpr ⟨q, hq, rfl⟩)
    obtain ⟨r, hr, e⟩ := List.mem_map.mp hm
    injection e with e
    rw [← one r (hs' r hr) q hq e]
    exact hr
  obtain ⟨SA, q2⟩ := q L' pL
  exact hcc s' out _ _ ⟨k, g, o'⟩ (by rw [e']; exact vals_of_refs L') SA q2
end
end VI

set_option Elab.async false
set_option linter.all false
set_option maxRecDepth 100000
set_option maxHeartbeats 1000000
/-! VD, part 9: x[::-1] of a tuple; x is True -/
namespace VI
open PySem PySem.Spec PyProof.Rows L2 PySem.Calls
section
variable {prog : Program} {w : World} {A : Around} {E : Value → Shared → Prop} {s : Shared}
theorem places_rev (n : Nat) : Builtin.Slice.slicePlaces ((n : Int) - 1) (-1) (-1) = n := by
  unfold Builtin.Slice.slicePlaces
  rw [if_neg (by decide)]
  by_cases h : (n : Int) - 1 > -1
  · rw [if_pos h]
    have : ((n : Int) - 1 - -1 - 1) / (- -1) + 1 = (n : Int) := by
      rw [show (- -1 : Int) = 1 by decide, Int.ediv_one]
      omega
    rw [this]; exact Int.toNat_natCast n
  · rw [if_neg h]
    have : n = 0 := by omega
    subst this; rfl
theorem pick_rev (xs : Array Value) : ((List.range xs.size).filterMap fun (k : Nat) => xs[(((xs.size : Int) - 1) + (k : Int) * (-1)).toNat]?).toArray = xs.toList.reverse.toArray := by
  have h : ∀ (l : List Value), (List.range l.length).filterMap (fun (k : Nat) => l[(((l.length : Int) - 1) + (k : Int) * (-1)).toNat]?) = l.reverse := by
    intro l
    have e1 : (List.range l.length).filterMap (fun (k : Nat) => l[(((l.length : Int) - 1) + (k : Int) * (-1)).toNat]?) = (List.range l.length).filterMap (fun (k : Nat) => l.reverse[k]?) := by
      have key : ∀ (r : List Nat), (∀ k ∈ r, k < l.length) → r.filterMap (fun (k : Nat) => l[(((l.length : Int) - 1) + (k : Int) * (-1)).toNat]?) = r.filterMap (fun (k : Nat) => l.reverse[k]?) := by
        intro r
        induction r with
        | nil => intro _; rfl
        | cons k r ih =>
          intro hr
          have hk := hr k (.head _)
          have e : (((l.length : Int) - 1) + (k : Int) * (-1)).toNat = l.length - 1 - k := by omega
          rw [List.filterMap_cons, List.filterMap_cons, ih fun j hj => hr j (.tail _ hj), e, List.getElem?_reverse hk]
      exact key _ fun k hk => List.mem_range.mp hk
    rw [e1]
    have e2 : ∀ (m : List Value), (List.range m.length).filterMap (fun (k : Nat) => m[k]?) = m := by
      intro m
      induction m with
      | nil => rfl
      | cons x m ih =>
        rw [List.length_cons, List.range_succ_eq_map, List.filterMap_cons]
        simp only [List.getElem?_cons_zero]
        rw [List.filterMap_map]
        congr 1
    have := e2 l.reverse
    rwa [List.length_reverse] at this
  have := h xs.toList
  rw [Array.length_toList] at this
  rw [← this]
  congr 2
  funext k
  rw [Array.getElem?_toList]
theorem getItem_tuple_rev {t sl : Addr} {items : Array Value} {vs : Value} {Q : Value → Shared → Prop} (ht : IsTup s.heap t items) (hs : s.heap.IsSliceOf sl .none .none vs) (ps : IsPart vs (some (-1)))
    (h : Q (.ref s.heap.objs.size) { s with heap := s.heap.push { cls := .type "tuple", data := .seq items.toList.reverse.toArray } }) (hsz : items.size ≤ sizeLine) : wpAny (model prog w) A (getItem (.ref t) (.ref sl)) Q E s := by
  obtain ⟨os, hos, hcs, hds⟩ := id hs
  have hTs : s.TypeIs (.ref sl) "slice" := ⟨os, hos, hcs⟩
  have htake : sizeOk (.seq items.toList.reverse.toArray) := by
    show items.toList.reverse.toArray.size ≤ sizeLine
    rw [List.size_toArray, List.length_reverse, Array.length_toList]; exact hsz
  unfold getItem
  try with_reducible refine wpAny_holding ?_
  first | refine wpAny_bind (wpAny_pure ?_) | skip
  refine wpAny_bind (wpAny_sequenceKey ht.typeIs (by decide) ?_)
  refine wpAny_bind (wpAny_callSpecial?_slot (name := Str.ofString "__getitem__") ht.typeIs PyProof.Rows.slot_tuple_getitem
    (wpAny_call_entry PyProof.Rows.slot_tuple_getitem ht.typeIs entry_tuple_getitem ?_ (args_tuple_getitem _ _)))
  show wpAny _ _ (Builtin.Tuple.tupleItemsOf (.ref t) >>= _) _ _ s
  refine wpAny_bind (tupleItemsOf_ ht ?_)
  refine wpAny_bind (wpAny_typeOf hTs ?_)
  rw [if_pos (by decide)]
  refine wpAny_bind ?_
  unfold Builtin.Slice.sliceApplied Builtin.Slice.sliceFields
  refine wpAny_bind (wpAny_bind (wpAny_field hos hds (x := .none) rfl (wpAny_bind (wpAny_field hos hds (x := .none) rfl (wpAny_bind (wpAny_field hos hds (x := vs) rfl (wpAny_pure ?_)))))))
  refine wpAny_bind (HT.slicePart_ ps ?_)
  show wpAny _ _ (if ((-1 : Int) == 0) = true then _ else _) _ _ s
  rw [if_neg (by decide)]
  refine wpAny_bind (slicePart_none (wpAny_bind (slicePart_none (wpAny_bind (wpAny_pure ?_)))))
  show wpAny _ _ (pure ((items.size : Int) - 1, (-1 : Int), Builtin.Slice.slicePlaces ((items.size : Int) - 1) (-1) (-1))) _ _ s
  rw [places_rev]
  refine wpAny_pure ?_
  have hno : ¬ ((((items.size : Int) - 1) == 0 && (-1 : Int) == 1 && items.size == items.size) = true) := by simp
  show wpAny _ _ (if (((items.size : Int) - 1) == 0 && (-1 : Int) == 1 && items.size == items.size) = true then _ else _) _ _ s
  rw [if_neg hno, pick_rev]
  first
    | exact wpAny_bind (m := Builtin.Tuple.tupleExact _) (wpAny_newObj_type (wpAny_pure ⟨_, rfl, wpAny_pure h⟩) htake)
    | exact wpAny_bind (m := Builtin.Tuple.tupleExact _) (wpAny_newObj_type (wpAny_bind (wpAny_pure (wpAny_pure ⟨_, rfl, wpAny_pure h⟩))) htake)
    | exact wpAny_bind (wpAny_bind (m := Builtin.Tuple.tupleExact _) (wpAny_newObj_type (wpAny_pure (wpAny_pure ⟨_, rfl, wpAny_pure h⟩)) htake))
    | exact wpAny_bind (wpAny_bind (m := Builtin.Tuple.tupleExact _) (wpAny_newObj_type (wpAny_pure ⟨_, rfl, wpAny_pure h⟩) htake))
end
section
variable {X : Cx}
/-- xs[::-1], a list or a tuple -/
def rRev (K : PySem.W.Frag) (x : V) (H1 : Hp) (Q : VK) : Prop := ∃ a xs, x = .ref a ∧ ((SqL K H1 a xs ∧ ∀ p, H1 p = none → Q (.ref p) (upd H1 p (.lst xs.reverse))) ∨ (SqT K H1 a xs ∧ ∀ p, H1 p = none → Q (.ref p) (upd H1 p (.tup xs.reverse))))
def tRevA (K : PySem.W.Frag) (te : TE) : TE := fun σ H Q => te σ H fun x H1 => rRev K x H1 Q
theorem pe_revA {e : Expr} {te : TE} {k : Nat} {p1 p2 p3 pos : Pos} (he : PE X e te) : PE X (.Subscript e (.Slice none none (some (.UnaryOp .USub (.Constant (.int 1) k p1) p2)) p3) pos) (tRevA X.K te) := by
  refine ⟨fun pins s σ H Q I h => ?_⟩
  refine Subscript_ (thn (he.run pins s σ H _ I h) fun v s1 ⟨x, H1, I1, r1, q1⟩ => ?_)
  obtain ⟨a, xs, ex, q1⟩ := q1
  subst ex
  cases r1
  have hst : PO X (some (.UnaryOp .USub (.Constant (.int 1) k p1) p2)) (tPart (tUn (rU fun i => .int (-i)) (tC (.int 1)))) := po_some (pe_un un_neg pe_int)
  refine wpAny_Slice (thn (po_none.run pins s1 σ H1 (fun o H2 => o = none ∧ H2 = H1) I1 ⟨rfl, rfl⟩) fun vl s2 ⟨l, H2, I2, pl, el, e2⟩ => ?_)
  subst el e2
  refine thn (po_none.run pins s2 σ H2 (fun o H3 => o = none ∧ H3 = H2) I2 ⟨rfl, rfl⟩) fun vu s3 ⟨u, H3, I3, pu, eu, e3⟩ => ?_
  subst eu e3
  refine thn (hst.run pins s3 σ H3 (fun o H4 => o = some (-1) ∧ H4 = H3) I3 ⟨1, rfl, -1, rfl, rfl, rfl⟩) fun vs s4 ⟨o, H4, I4, ps, eo, e4⟩ => ?_
  subst eo e4
  have I5 : Inv X pins σ H4 { s4 with heap := s4.heap.push { cls := .type "slice", data := .fields #[vl, vu, vs] } } := I4.kept (t' := s4.toks) fun b ob q => Heap.get?_push_of_some _ q
  show wpAny (model X.prog X.w) X.A (subscriptTail e (.Slice none none (some (.UnaryOp .USub (.Constant (.int 1) k p1) p2)) p3) (.ref a) (.ref s4.heap.objs.size)) (EP X pins σ Q) X.xe { s4 with heap := s4.heap.push { cls := .type "slice", data := .fields #[vl, vu, vs] } }
  rcases q1 with ⟨hx, q⟩ | ⟨hx, q⟩
  · obtain ⟨its, r, ht, hz⟩ := I5.list hx
    have hlen := r.length
    refine tail_any (ops := [.ref a, .ref s4.heap.objs.size]) ht.isList.typeIs (PySem.slot_list_getitem.lookup) ?_ (by with_unfolding_all rfl)
    refine wpAny_getItem_list_slice ht.isList (Heap.IsSliceOf.new _ vl vu vs) pl pu ps (by decide) ?_ (by rw [List.size_toArray]; omega)
    rw [PySem.W.krv_pick]
    refine ⟨.ref _, _, I5.laid (t' := s4.toks) (o := .lst xs.reverse) (fun b ob q => Heap.get?_push_of_some _ q) (Nat.le_refl _) ?_, rfl, q _ (I5.hok.fresh (Nat.le_refl _))⟩
    exact ⟨by rw [List.length_reverse]; exact hz, _, 0, r.reverse, Heap.get?_push_size _ rfl⟩
  · obtain ⟨its, r, ht, hz⟩ := I5.tuple hx
    have hlen := r.length
    cases pl
    cases pu
    refine tail_any (ops := [.ref a, .ref s4.heap.objs.size]) ht.typeIs PyProof.Rows.slot_tuple_getitem.lookup ?_ (by with_unfolding_all rfl)
    refine getItem_tuple_rev ht (Heap.IsSliceOf.new _ .none .none vs) ps ?_ (by rw [List.size_toArray]; omega)
    refine ⟨.ref _, _, I5.laid (t' := s4.toks) (o := .tup xs.reverse) (fun b ob q => Heap.get?_push_of_some _ q) (Nat.le_refl _) ?_, rfl, q _ (I5.hok.fresh (Nat.le_refl _))⟩
    exact ⟨by rw [List.length_reverse]; exact hz, _, by simpa using r.reverse, IsTup.new _ _⟩
/-! ### x is True -/
def tIsB (b : Bool) (ta : TE) : TE := fun σ H Q => ta σ H fun x H1 => ∃ c, x = .bl c ∧ Q (.bl (b == c)) H1
theorem pc_isB {a : Expr} {ta : TE} {b : Bool} {j : Nat} {pos' : Pos} (ha : PE X a ta) : PC X .Is a (.Constant (.bool b) j pos') (tIsB b ta) := by
  refine ⟨fun pins s σ H Q I h => ?_⟩
  refine thn (ha.run pins s σ H _ I h) fun v s1 ⟨x, H1, I1, r1, c, e, q1⟩ => ?_
  subst e
  cases r1
  refine Constant_bool ?_
  refine wpAny_is_plain (by rfl) ⟨.bl (b == c), H1, I1, ?_, q1⟩
  show Value.bool (Value.bool c == Value.bool b) = Value.bool (b == c)
  cases b <;> cases c <;> rfl
theorem pc_isNotB {a : Expr} {ta : TE} {b d : Bool} {j : Nat} {pos' : Pos} (hd : d = !b) (ha : PE X a ta) : PC X .IsNot a (.Constant (.bool d) j pos') (tIsB b ta) := by
  refine ⟨fun pins s σ H Q I h => ?_⟩
  refine thn (ha.run pins s σ H _ I h) fun v s1 ⟨x, H1, I1, r1, c, e, q1⟩ => ?_
  subst e
  subst hd
  cases r1
  refine Constant_bool ?_
  refine wpAny_isNot_plain (by rfl) ⟨.bl (b == c), H1, I1, ?_, q1⟩
  show Value.bool (!(Value.bool c == Value.bool (!b))) = Value.bool (b == c)
  cases b <;> cases c <;> rfl
end
end VI

set_option Elab.async false
set_option linter.all false
set_option maxRecDepth 100000
/-! Vd10: methods of instances and new instances, where what is raised is wished for at the caller's slots. -/
namespace L2
open PySem PySem.Spec PyProof.Rows
/-- the tree of a method call on one line -/
theorem meth_line {o : Expr} {m : Str} {apos pos : Pos} {args : List Expr} {env : Env} (hb : attributeBase o m env (eval o env) = eval o env)
    (hf : methodCallForm (args.length + ([] : List Keyword).length) (backTo pos (starEach args env)) (backToKw pos (keywordEach [] env)) = true) (hl : (apos.endLine == pos.line) = true) :
    eval (.Call (.Attribute o m apos) args [] pos) env = (do
      let ov ← eval o env
      standAt apos.atName
      let (f, first) ← holding [ov] (getMethod ov m (plainOf o env))
      callWith pos f first (backTo pos (starEach args env)) (backToKw pos (keywordEach [] env))) := by
  rw [arm_eval_Call, hb]
  congr 1
  funext ov
  congr 1
  funext _
  exact mcall_line hf hl
section
variable {X : Cx} {CX : CXT} {k : Nat} {f C : Addr} {fd : FuncData} {ps : List Str} {sp : Sp} {E : St → XK} {x m : Str} {p pos apos : Pos} {e o : Expr} {es : List Expr} {ta : TE} {t : TA}
def tMethSD (C : Addr) (m : Str) (sp : Sp) (E : St → XK) (ta : TE) (t : TA) : TE := fun σ H Q => ta σ H fun x H1 => ∃ a dx fs, x = .ref a ∧ H1 a = some (.ins C dx fs) ∧ fs.lookup m = none ∧
  t σ H1 fun vs H2 => sp (x :: vs) H2 Q (E σ)
def tMakeSD (C : Addr) (sp : Sp) (E : St → XK) (t : TA) : TE := fun σ H Q => t σ H fun vs H1 => ∀ x dx, H1 x = none → H1 dx = none → dx ≠ x →
  sp (.ref x :: vs) (upd (upd H1 dx (.own x)) x (.ins C dx [])) (fun v H2 => v = .non ∧ Q (.ref x) H2) (E σ)
theorem pe_methSD {pl : Sem Bool} (he : PE X o ta) (c : Cls X.K C) (hm : Meth X.K C m f) (F : FnOk X.prog X.w X.K X.mg X.base CX k f fd ps sp) (hr : Room k X.A) (hb : Binds X.K fd ps []) (hx : ∀ σ, PassesAt CX X σ (E σ)) (ha : PA X (e :: es) t)
    (hst : starEach (e :: es) X.env = (false, eval e X.env) :: starEach es X.env := by rfl) (hpl : (backTo pos (starEach es X.env)).any (·.1) = false := by rfl)
    (ht : eval (.Call (.Attribute o m apos) (e :: es) [] pos) X.env = (do
      let ov ← eval o X.env
      standAt apos.atName
      let (f, first) ← holding [ov] (getMethod ov m pl)
      callWith pos f first (backTo pos (starEach (e :: es) X.env)) (backToKw pos (keywordEach [] X.env))) := by rfl) :
    PE X (.Call (.Attribute o m apos) (e :: es) [] pos) (tMethSD C m sp E ta t) := by
  refine ⟨fun pins s σ H Q I h => ?_⟩
  refine PySem.W.methodCall_KW (pl := pl) (thn (he.run pins s σ H _ I h) fun u s1 ⟨x, H1, I1, rx, a, dx, fs, ex, ea, l, q⟩ => ?_) ht
  subst ex
  obtain rfl : u = Value.ref a := rx
  refine getmeth_ok I1 ea c hm l ?_
  refine PySem.W.callWith_K (first := [.ref a]) (h₀ := X.base) I.ok.mod.kin hm.kp (thn (ha.run pos pins s1 σ H1 _ I1 q) fun us s2 ⟨vs, H2, I2, r, q2⟩ => ⟨I2.kIn, ?_⟩) hst hpl
  exact run_fnSD (dvs := []) (us := .ref a :: us) (vs := .ref a :: vs) F hr hb .nil (hx σ) I2 (.cons rfl r) (by rw [List.append_nil]; exact q2)
theorem pe_methSD0 {pl : Sem Bool} (he : PE X o ta) (c : Cls X.K C) (hm : Meth X.K C m f) (F : FnOk X.prog X.w X.K X.mg X.base CX k f fd ps sp) (hr : Room k X.A) (hb : Binds X.K fd ps []) (hx : ∀ σ, PassesAt CX X σ (E σ))
    (ht : eval (.Call (.Attribute o m apos) [] [] pos) X.env = (do
      let ov ← eval o X.env
      standAt apos.atName
      let (f, first) ← holding [ov] (getMethod ov m pl)
      callWith pos f first (backTo pos (starEach [] X.env)) (backToKw pos (keywordEach [] X.env))) := by rfl) :
    PE X (.Call (.Attribute o m apos) [] [] pos) (tMethSD C m sp E ta tNil) := by
  refine ⟨fun pins s σ H Q I h => ?_⟩
  refine PySem.W.methodCall_KW (pl := pl) (thn (he.run pins s σ H _ I h) fun u s1 ⟨x, H1, I1, rx, a, dx, fs, ex, ea, l, q⟩ => ?_) ht
  subst ex
  obtain rfl : u = Value.ref a := rx
  refine getmeth_ok I1 ea c hm l ?_
  exact PySem.W.callWith_K0 (first := [.ref a]) I1.kIn hm.kp (run_fnSD (dvs := []) (us := [.ref a]) (vs := [.ref a]) F hr hb .nil (hx σ) I1 (.cons rfl .nil) q)
theorem run_makeSD {pins : List (Addr × Obj)} {σ : St} {H : Hp} {s : Shared} {Q : VK} {us : List Value} {vs : List V} (M : Mk X.K C f) (F : FnOk X.prog X.w X.K X.mg X.base CX k f fd ps sp) (hr : Room (k + 1) X.A) (hb : Binds X.K fd ps [])
    (hx : PassesAt CX X σ (E σ)) (I : Inv X pins σ H s) (r : Vals vs us)
    (h : ∀ x dx, H x = none → H dx = none → dx ≠ x → sp (.ref x :: vs) (upd (upd H dx (.own x)) x (.ins C dx [])) (fun v H2 => v = .non ∧ Q (.ref x) H2) (E σ)) :
    wpAny (model X.prog X.w) X.A (call (.ref C) us) (EP X pins σ Q) X.xe s := by
  have hq := h (s.heap.objs.size + 1) s.heap.objs.size (I.hok.fresh (Nat.le_succ _)) (I.hok.fresh (Nat.le_refl _)) (Nat.ne_of_lt (Nat.lt_succ_self _))
  have I2 := Inv.made (C := C) I
  have r2 : Vals (V.ref (s.heap.objs.size + 1) :: vs) (Value.ref (s.heap.objs.size + 1) :: us) := .cons rfl r
  have hl : ((Value.ref (s.heap.objs.size + 1) :: us) ++ []).length = ps.length := by
    have e := r2.length
    rw [F.len _ _ _ _ hq] at e
    rw [List.append_nil]
    exact e.symm
  have hb2 := hb _ (Value.ref (s.heap.objs.size + 1) :: us) I2.kIn hl
  rw [List.append_nil] at hb2
  refine wpAny_call (make_map (f := f) I.kIn M.makes M.init (beq_iff_eq.mp M.fn) (codeAny_mono (F.run _ X.stack _ _ ⟨Value.ref (s.heap.objs.size + 1) :: us, []⟩ (Value.ref (s.heap.objs.size + 1) :: us) _ _ (E σ) (hr.make C us [])
    (I2.env0.make C us []) hb2 r2 hq) fun r s' hq' => ?_))
  cases r with
  | error e => exact hx pins _ _ e s' I2 hq'
  | ok fl =>
    cases fl with
    | ret u =>
      obtain ⟨v, H', I3, rv, ev, q3⟩ := I2.after hq'
      subst ev
      exact ⟨rv, ⟨V.ref (s.heap.objs.size + 1), H', I3, rfl, q3⟩⟩
    | next => exact False.elim hq'
    | brk => exact False.elim hq'
    | cont => exact False.elim hq'
theorem pe_makeSD (M : Mk X.K C f) (F : FnOk X.prog X.w X.K X.mg X.base CX k f fd ps sp) (hr : Room (k + 1) X.A) (hg : Gl X x) (hm : X.mg x = some (.ref C)) (hb : Binds X.K fd ps []) (hx : ∀ σ, PassesAt CX X σ (E σ))
    (ha : PA X (e :: es) t) (hdb : (x == ("__debug__" : Str)) = false := by decide) (he : starEach (e :: es) X.env = (false, eval e X.env) :: starEach es X.env := by rfl) (hpl : (backTo pos (starEach es X.env)).any (·.1) = false := by rfl) :
    PE X (.Call (.Name x p) (e :: es) [] pos) (tMakeSD C sp E t) := by
  refine ⟨fun pins s σ H Q I h => ?_⟩
  refine wpAny_Call_Name_kw (ld_glob I hg hm ?_ hdb)
  refine PySem.W.callWith_K (h₀ := X.base) I.ok.mod.kin M.kp (thn (ha.run pos pins s σ H _ I h) fun us s1 ⟨vs, H1, I1, r, q⟩ => ⟨I1.kIn, ?_⟩) he hpl
  exact run_makeSD M F hr hb (hx σ) I1 r q
end
end L2

set_option Elab.async false
set_option linter.all false
set_option maxRecDepth 100000
set_option maxHeartbeats 4000000
/-! VE, part 1: an own exception's __init__: super().__init__(x); self.f = x, over the kit alone. -/
namespace VI
open PySem PySem.Spec PySem.Calls PyProof.Rows L2
section
open PySem.W
variable {prog : Program} {w : World} {A : Around} {E : Value → Shared → Prop} {h : Heap} {g : Array GenState} {d : Drawn} {t : Nat} {os : OsState}
variable {nm q : Str} {C N : Addr} {bs bm : List Value} {hdct : Bool} {sn : List Str} {sub : List Value} {ab : Bool} {col : Option Bool} {dd : Option Addr} {k0 k1 k2 k3 k5 : Option Value}
theorem call_mw {u e t0 : Addr} {rest : List Value} {Q : Value → Shared → Prop}
    (hC : h.get? C = some (excClassObj nm q C N bs bm hdct sn sub ab col dd k0 k1 k2 k3 k5 "ValueError.__new__")) (he : h.get? e = some (HandSPX.excO C t0)) (hu : h.get? u = some (kxs_mw "ValueError.__init__" e)) (hrest : rest.length ≤ sizeLine)
    (hq : ∀ h' t1, (∀ b o, b ≠ e → h.get? b = some o → h'.get? b = some o) → h'.get? e = some (HandSPX.excO C t1) → Q .none ⟨h', g, d, t, os⟩) :
    wpAny (model prog w) A (call (.ref u) rest) Q E ⟨h, g, d, t, os⟩ := by
  refine wpAny_call (codeAny_of_tree ?_)
  show wpAny _ A.in1 (callAny (.ref u) ⟨rest, []⟩) _ _ _
  simp only [callAny]
  refine wpAny_bind (wpAny_load hu ?_)
  simp only [kxs_mw, show (Value.type "method-wrapper" == Value.type "method" || Value.type "method-wrapper" == Value.type "builtin_function_or_method" || Value.type "method-wrapper" == Value.type "method-wrapper") = true by decide, if_true]
  refine KFB.if_so (by decide) ?_
  refine wpAny_bind (check_bound_init PySem.F.excBase_ValueError.toExcCallFacts hC he rfl ?_)
  refine wpAny_bind (wpAny_pure (wpAny_pure ?_))
  refine ⟨plainId_quiet PySem.F.excBase_ValueError.init.plain _, codeAny_builtin PySem.F.excBase_ValueError.initEntry ?_⟩
  exact exc_init_tree (cls := .ref C) (t0 := t0) (dv := none) (c2 := .none) (c3 := .none) (b4 := .bool false) he hrest fun h' k e' _ => hq h' _ k e'
end
theorem sup_line {o : Expr} {m px : Str} {p2 p3 p4 : Pos} {env : PySem.Env} (hl : (p2.endLine == p4.line) = true) : eval (.Call (.Attribute o m p2) [.Name px p3] [] p4) env = (do
      let ov ← attributeBase o m env (eval o env)
      standAt p2.atName
      let (f, first) ← holding [ov] (getMethod ov m (plainOf o env))
      callWith p4 f first (backTo p4 (starEach [.Name px p3] env)) []) := by
  rw [arm_eval_Call]
  congr 1
  funext ov
  congr 1
  funext _
  exact mcall_line rfl hl
/-- what the written part says of such a class: at C the class, at fI its __init__, f the field -/
structure SupC (prog : Program) (K : PySem.W.Frag) (C fI : Addr) (f : Str) : Prop where
  oex : OexC K C
  ini : PySem.W.findIn K (.ref C) "__init__" = some (some (.ref fI))
  tfn : PySem.W.typeIn K (.ref fI) = some (.type "function")
  noat : PySem.W.findIn K (.ref C) f = some none
  sup : PySem.W.ks_superIn K C C "__init__" = some (some (.builtin "ValueError.__init__"))
  subB : PySem.W.subIn K (.ref C) (.type "ValueError") = some true
  subC : PySem.W.mroIn K C (.ref C) = some true
  opq : PySem.W.nsIn K cStatics "thirdparty.any" = some none
  nos : PySem.W.nsIn K mainGlobals "super" = some none
  top : (prog.main.scope.names.lookup ("super" : Str)).isSome = false
  fn : ∃ name qual params body scope dV kV doc pm cdv ct an cc oc od osl self px p0 p1 p2 p3 p4 p5 p6 p7 p8 p9 ccl cdd vs ccs file tf cl cld csl, K.lookup fI = some ⟨oc, od, .func (PySem.W.ksFn name qual params body scope dV kV doc pm an (.ref cdv) ct cc), osl⟩ ∧
    body = [.Expr (.Call (.Attribute (.Call (.Name "super" p0) [] [] p1) "__init__" p2) [.Name px p3] [] p4) p5, .Assign [.Attribute (.Name self p6) f p7] (.Name px p8) p9] ∧
    (params.posonlyargs ++ params.args).head?.map (·.arg) = some self ∧ (∀ u v : Value, bindArgs (PySem.W.ksFn name qual params body scope dV kV doc pm an (.ref cdv) ct cc) ⟨[u, v], []⟩ = pure [(self, u), (px, v)]) ∧
    PySem.W.codeIn K (.ref cdv) qual = true ∧ K.lookup cdv = some ⟨ccl, cdd, .fields vs, ccs⟩ ∧ vs[2]? = some (.str file tf) ∧ ((prog.main.file : Str) == file) = true ∧ K.lookup cc = some ⟨cl, cld, .cell (some (.ref C)), csl⟩ ∧
    scope.names.lookup ("super" : Str) = some .globalImplicit ∧ scope.names.lookup ("__class__" : Str) = some .free ∧ scope.names.lookup self = some .local ∧ scope.names.lookup px = some .local ∧ self ≠ px ∧
    (self == ("__debug__" : Str)) = false ∧ (px == ("__debug__" : Str)) = false ∧ scope.kind = .function ∧ scope.isCoroutine = false ∧ scope.isGenerator = false ∧ (∀ x ∈ scope.names, x.2 ≠ .cell) ∧ (p2.endLine == p4.line) = true
section
open PySem.W
variable {prog : Program} {w : World} {A : Around} {E : Value → Shared → Prop} {R : Result → Shared → Prop} {h : Heap} {g : Array GenState} {d : Drawn} {t : Nat} {os : OsState} {K : Frag} {C fI e t0 : Addr} {f : Str} {mg mb : Str → Option Value} {u : Value}
theorem init_sup (S : SupC prog K C fI f) (X : K.In h) (hlim : h.NoLimit) (hg : h.Ns mainGlobals mg) (hb : h.Ns builtinsNs mb) (hbs : mb "super" = bootBuiltins "super") (hroom : A.depth < recursionLimit) (he : h.get? e = some (HandSPX.excO C t0)) (hKe : K.lookup e = none)
    (hq : ∀ h' t' dx t1, (∀ b o, b ≠ e → h.get? b = some o → h'.get? b = some o) → h.get? dx = none → dx ≠ e → h'.get? e = some { cls := .ref C, dict := some dx, data := .fields #[.ref t1, .none, .none, .none, .bool false, .none] } → h'.Ns1 dx (fun y => if y = f then some u else none) →
      R (.ok (.ret .none)) ⟨h', g, d, t', os⟩) : codeAny (model prog w) A (.call (.ref fI) ⟨[.ref e, u], []⟩) R ⟨h, g, d, t, os⟩ := by
  obtain ⟨name, qual, params, body, scope, dV, kV, doc, pm, cdv, ct, an, cc, oc, od, osl, self, px, p0, p1, p2, p3, p4, p5, p6, p7, p8, p9, ccl, cdd, vs, ccs, file, tf, cl, cld, csl, hf, rfl, hself, hbind, hcd, hcode, hvs, hfile, hcell, hks, hkc, hkl, hkp, hne, hd1, hd2, hk, hco, hgen, hnc, hline⟩ := S.fn
  obtain ⟨nm, q, N, bs, bm, sn, sub, ab, col, dd, k0, k1, k2, k3, k5, hCK, hbm⟩ := S.oex.cls
  refine ks_codeAny_call_defAt hroom (X _ _ hf) rfl hlim (codeRec_of X hcd) rfl (BindsTo.of_eq (hbind _ _)) hnc (fun y hy => ?_) (fun h1 hns hk1 => ?_) hco hgen hk
  · rcases List.mem_cons.mp hy with rfl | hy
    · exact hkl
    · rcases List.mem_cons.mp hy with rfl | hy
      · exact hkp
      · cases hy
  have X1 : K.In h1 := X.keeps hk1
  obtain ⟨ar, har, harn⟩ := Option.map_eq_some_iff.mp hself
  have ne1 : e ≠ h.objs.size := Nat.ne_of_lt (Heap.lt_size he)
  have he1 := hk1 _ _ he
  have hclC : clsIn K C = some { name := nm, bases := bs, mro := .ref C :: bm, ns := N, qualname := q, hasDict := true, slotNames := sn, subclasses := sub, abstract := ab, collection := col, hasDel := false } := by unfold clsIn; rw [hCK] <;> rfl
  have hsup := S.sup
  unfold ks_superIn at hsup
  rw [hclC, Option.bind_some] at hsup
  have hI : ∀ {h' : Heap}, (∀ b o, h1.get? b = some o → h'.get? b = some o) → Looks (model prog w) h' (isInstance (.ref e) (.type "ValueError")) true := fun {h'} k => by
    have I : InstAt h' e (HandSPX.excO C t0) C none := ⟨k _ _ he1, rfl, rfl, trivial⟩
    exact I.type.andThen (looks_subIn (X1.keeps k) S.subB)
  have hxC : e ≠ C := fun z => by
    rw [z] at he1
    rw [X1 _ _ hCK] at he1
    cases he1
  have hmro : ∀ {h' : Heap}, K.In h' → Looks (model prog w) h' (mroOf (.ref C)) (.ref C :: bm) := fun {h'} X' A Q E s k z => wpAny_bind ((looks_clsIn X' hclC) A _ E s k (wpAny_pure z))
  have hme : (fun x => ([(self, Value.ref e), (px, u)] : List (Str × Value)).reverse.lookup x) self = some (.ref e) := by
    have hb : (self == px) = false := by
      cases q : self == px with
      | false => rfl
      | true => exact absurd (eq_of_beq q) hne
    simp [List.lookup, hb]
  have hmu : (fun x => ([(self, Value.ref e), (px, u)] : List (Str × Value)).reverse.lookup x) px = some u := by
    simp [List.lookup]
  have hin : ∀ L : Addr, interactive (callEnv (ksFn name qual params [.Expr (.Call (.Attribute (.Call (.Name "super" p0) [] [] p1) "__init__" p2) [.Name px p3] [] p4) p5, .Assign [.Attribute (.Name self p6) f p7] (.Name px p8) p9] scope dV kV doc pm an (.ref cdv) ct cc) L fI) = false := fun L => by
    show (scope.kind == .module && _) = false
    rw [hk]; rfl
  refine ks_wpAt_execs_cons (ks_wpAt_Expr_any (ks_wpAt_MethodCall (pl := plainOf (.Call (.Name "super" p0) [] [] p1) (callEnv (ksFn name qual params [.Expr (.Call (.Attribute (.Call (.Name "super" p0) [] [] p1) "__init__" p2) [.Name px p3] [] p4) p5, .Assign [.Attribute (.Name self p6) f p7] (.Name px p8) p9] scope dV kV doc pm an (.ref cdv) ct cc) h.objs.size fI)) ?base (sup_line hline)) (hin _) ?hs)
  case base =>
    refine ks_wpAt_super_base (f := fI) (cc := cdv) hks hkc (by decide) rfl (X1 _ _ hf) rfl har rfl (X1 _ _ hcode) rfl hvs hfile S.top ?_
    refine ks_loadName_global hk hks (loadGlobal_builtin (hg.keeps hk1) (mg_none_of X1 (hg.keeps hk1) S.nos) (hb.keeps hk1) (hbs.trans (by first | boot_by_name | rfl | kernel_rfl)) ⟨rfl, ?_⟩)
    refine wpAny_loadName_free hk hkc rfl ⟨_, X1 _ _ hcell, rfl⟩ ?_
    rw [harn]
    refine wpAny_loadName_local hk hkl hns hme ?_
    refine ks_wpAny_isType_cls (X1 _ _ hCK) rfl ⟨rfl, ?_⟩
    refine ks_wpAny_call_super (X1 _ _ hCK) rfl he1 rfl (fun c z => by cases z) (looks_mroIn X1 S.subC) (fun h2 hso k2 => ?_)
    have X2 : K.In h2 := X1.keeps k2
    refine kxs_getMethod kxs_ValueError hso (looks_opaque X2 S.opq) (hmro X2) rfl X2 hsup (hI k2) hxC (by decide) ?_
    have k3 : ∀ b o, h2.get? b = some o → (h2.push (kxs_mw "ValueError.__init__" e)).get? b = some o := fun b o z => Heap.get?_push_of_some _ z
    have X3 : K.In (h2.push (kxs_mw "ValueError.__init__" e)) := X2.keeps k3
    have hns3 := (hns.keeps k2).keeps k3
    have hu3 : (h2.push (kxs_mw "ValueError.__init__" e)).get? h2.objs.size = some (kxs_mw "ValueError.__init__" e) := Heap.get?_push_at rfl rfl
    have ha3 : h2.objs.size ≠ h.objs.size := fun z => by
      obtain ⟨oL, _, _, hL, _⟩ := hns
      have := Heap.lt_size (k2 _ _ hL)
      have this : h.objs.size < h2.objs.size := this
      omega
    generalize h2.push (kxs_mw "ValueError.__init__" e) = h3 at *
    refine kxs_callWith (i := "ValueError.__init__") (x := e) rfl (evalArgs_plain (spliced_more (wpAny_Name (wpAny_loadName_local (env := callEnv (ksFn name qual params [.Expr (.Call (.Attribute (.Call (.Name "super" p0) [] [] p1) "__init__" p2) [.Name px p3] [] p4) p5, .Assign [.Attribute (.Name self p6) f p7] (.Name px p8) p9] scope dV kV doc pm an (.ref cdv) ct cc) h.objs.size fI) hk hkp hns3 hmu ?_) hd2) rfl))
    refine spliced_none ⟨hu3, ?_⟩
    refine call_mw (X3 _ _ hCK) (k3 _ _ (k2 _ _ he1)) hu3 (by show 1 ≤ sizeLine; decide) fun h4 t1 k4 he4 => ?_
    have X4 : K.In h4 := fun a o z => k4 a o (fun y => by rw [y, hKe] at z; cases z) (X3 a o z)
    have hns4 : h4.Ns h.objs.size (fun x => ([(self, Value.ref e), (px, u)] : List (Str × Value)).reverse.lookup x) := by
      obtain ⟨o, es, ep, q1, r⟩ := hns3
      exact ⟨o, es, ep, k4 _ _ (Ne.symm ne1) q1, r⟩
    refine ks_wpAt_execs_cons (wpAt_of_wpAny (plainObj_wpAny_Assign_Attribute ?_ ?hs2))
    · refine wpAny_Name (wpAny_loadName_local hk hkp hns4 hmu ?_) hd2
      refine wpAny_Name (wpAny_loadName_local hk hkl hns4 hme ?_) hd1
      refine set_plain X4 (ox := HandSPX.excO C t1) (od := none) ⟨he4, rfl, rfl, trivial⟩ S.oex.sa ?_
      refine PySem.HandSPX.exc_osa X4 he4 hclC (show PySem.HandSPX.refsVE (.ref C :: bm) = true from hbm) rfl S.noat (fun h5 tk dx k5 dn dne hx hn => ?_)
      have hdn : h.get? dx = none := by
        cases z : h.get? dx with
        | none => rfl
        | some o => exact absurd (Heap.lt_size (k4 _ _ dne (k3 _ _ (k2 _ _ (hk1 _ _ z))))) (Nat.not_lt.mpr dn)
      exact wpAt_of_wpAny (wpAny_execs_nil (hq h5 _ dx t1 (fun b o hb z => k5 b o hb (k4 b o hb (k3 _ _ (k2 _ _ (hk1 _ _ z))))) hdn dne hx hn))
    · rfl
  case hs => exact rfl
  all_goals trace_state
end
section
variable {X : Cx} {C fI : Addr} {f x : Str} {e : Expr} {te : TE} {p pos : Pos}
/-- C(e) -/
theorem pmk_sup (S : SupC X.prog X.K C fI f) (hr : Room 1 X.A) (hg : Gl X x) (hm : X.mg x = some (.ref C)) (he : PE X e te) (hdb : (x == ("__debug__" : Str)) = false) (hst : starEach [e] X.env = (false, eval e X.env) :: starEach [] X.env) :
    L2N.PMk X (.Call (.Name x p) [e] [] pos) (fun σ H Q => te σ H fun y H1 => ∀ d, H1 d = none → Q (.ref C) (some d) (upd H1 d (.xd [(f, y)]))) := by
  intro pins s σ H Q I h
  have T := S.oex
  obtain ⟨nm, q, N, bs, bm, sn, sub, ab, col, dd, k0, k1, k2, k3, k5, hC, hbm⟩ := T.cls
  refine wpAny_Call_Name_kw (ld_glob I hg hm ?_ hdb)
  have h2 : tCons te tNil σ H fun vs H1 => match vs with
    | [y] => ∀ d, H1 d = none → Q (.ref C) (some d) (upd H1 d (.xd [(f, y)]))
    | _ => False := h
  refine PySem.W.callWith_K (h₀ := X.base) I.ok.mod.kin T.kC (thn ((pa_cons he pa_nil (hs := hst)).run pos pins s σ H _ I h2) fun us s1 ⟨vs, H1, I1, r1, q1⟩ => ⟨I1.kIn, ?_⟩) hst rfl
  cases r1 with
  | nil => exact q1.elim
  | @cons y u vs' us' ru rn =>
  cases rn with
  | cons _ _ => exact q1.elim
  | nil =>
  have q1 : ∀ d, H1 d = none → Q (.ref C) (some d) (upd H1 d (.xd [(f, y)])) := q1
  show wpAny _ _ (call (.ref C) [u]) _ _ _
  obtain ⟨m, fr⟩ := I1.fr
  obtain ⟨mb, hmb, hmb2⟩ := I1.ok.mod.blt
  have hlim := I1.nolimit
  obtain ⟨hp, g, dr, tk, os⟩ := s1
  have kk : ∀ b o, hp.get? b = some o → ((hp.push (PySem.W.kdv_tup [u])).push (PySem.HandSPX.excO C hp.objs.size)).get? b = some o := fun b o z => Heap.get?_push_of_some _ (Heap.get?_push_of_some _ z)
  have hget : ((hp.push (PySem.W.kdv_tup [u])).push (PySem.HandSPX.excO C hp.objs.size)).get? (hp.objs.size + 1) = some (PySem.HandSPX.excO C hp.objs.size) := by heap_get
  have hn : hp.get? (hp.objs.size + 1) = none := by
    cases z : hp.get? (hp.objs.size + 1) with
    | none => rfl
    | some o => exact absurd (Heap.lt_size z) (Nat.not_lt.mpr (Nat.le_succ _))
  refine wpAny_call (PySem.HandSPX.call_own PySem.F.excBase_ValueError (fun Y => PySem.HandSPX.refsVE_contains Y bm hbm) (I1.kIn _ _ hC) (PySem.W.looks_findIn I1.kIn S.ini) (fun self => PySem.W.bind_fn I1.kIn self S.tfn) (by show 1 ≤ sizeLine; decide) ?_)
  refine init_sup S (I1.kIn.keeps kk) (hlim.keeps kk) ((I1.ok.mod.glob.keeps fr.keep).keeps kk) ((hmb.keeps fr.keep).keeps kk) (hmb2 _ (by decide)) (hr.make C [u] []).depth hget ?_ fun h' t' dx t1 k dn dne hx hns => ?_
  · cases z : X.K.lookup (hp.objs.size + 1) with
    | none => rfl
    | some o => rw [I1.kIn _ _ z] at hn; cases hn
  refine ⟨rfl, ?_⟩
  have dn2 : hp.get? dx = none := by
    cases z : hp.get? dx with
    | none => rfl
    | some o => rw [kk _ _ z] at dn; cases dn
  have hd1 : H1 dx = none := I1.hok.gone dn2
  have na : H1 (hp.objs.size + 1) = none := I1.hok.gone hn
  obtain ⟨G, g1', g2'⟩ := restrict h' fun b => decide (b ≠ hp.objs.size + 1)
  have gk : ∀ b, b ≠ hp.objs.size + 1 → G.get? b = h'.get? b := fun b hb => g1' b (decide_eq_true hb)
  have ge : G.get? (hp.objs.size + 1) = none := g2' _ (by simp)
  have kG : ∀ b o, hp.get? b = some o → G.get? b = some o := fun b o z => by
    have hb : b ≠ hp.objs.size + 1 := fun y => by rw [y, hn] at z; cases z
    rw [gk b hb]
    exact k b o hb (kk b o z)
  have J : Inv X pins σ (upd H1 dx (.xd [(f, y)])) ⟨G, g, dr, t', os⟩ :=
    I1.call' (ch := []) rfl (Un.laidN kG dn2 hd1) (I1.hok.laidN kG hd1 ⟨_, hns.at fun o z => (gk dx dne).trans z, fun n => by
      by_cases c : n = f
      · subst c
        rw [if_pos rfl]
        simp [List.lookup]
        exact ru
      · rw [if_neg c]
        have : (n == f) = false := by simpa using c
        simp [List.lookup, this]
        exact True.intro⟩) I1.bare (fun _ z => nomatch z)
  refine ⟨hp.objs.size + 1, _, _, ⟨G, g, dr, t', os⟩, _, .ref C, some dx, rfl, J, fun b o z => ?_, ge, hx, ⟨rfl, rfl, fun vs e => by cases e; rfl⟩, rfl, rfl, ?_, rfl, I1.bare, raises_own T.exC T.tyC, q1 dx hd1⟩
  · by_cases hb : b = hp.objs.size + 1
    · rw [hb, ge] at z; cases z
    · exact (gk b hb).symm.trans z
  · rw [upd_ne (Ne.symm dne)]
    exact na
end
end VI

set_option Elab.async false
set_option linter.all false
set_option maxRecDepth 100000
set_option maxHeartbeats 4000000
/-! VE, part 2: own errors without arguments made, isinstance of a caught one; what the module's objects must say of the error classes, as Bools. -/
namespace VI
open PySem PySem.Spec PySem.Calls PyProof.Rows L2
section
variable {X : Cx} {C : Addr} {bmB : List Value} {B newId initId : String} {x : Str} {p pos : Pos}
/-- C() -/
theorem pmk_own0 (F : ExcBaseFacts B newId initId bmB) (q : PySem.W.excIn X.K C bmB newId = true) (gC : X.mg x = some (.ref C)) (kC : PySem.W.keepIn X.K (.ref C) = true) (r : Raises X (.ref C)) (hg : Gl X x) (hdb : (x == ("__debug__" : Str)) = false) :
    L2N.PMk X (.Call (.Name x p) [] [] pos) (fun _ H Q => Q (.ref C) none H) := by
  intro pins s σ H Q I h
  refine wpAny_Call_Name_kw (ld_glob I hg gC ?_ hdb)
  refine PySem.W.callWith_K0 I.kIn kC ?_
  show wpAny _ _ (call (.ref C) []) _ _ _
  obtain ⟨bm, N, nm, qn, bs, hdct, sn, sub, ab, col, dd, k0, k1, k2, k3, k5, mN, hC, hN, hni, T⟩ := exc_obj I.kIn q
  refine wpAny_call_exc_subT F T hC hN hni (fun h' e hm => ?_) (by show 0 ≤ sizeLine; exact Nat.zero_le _)
  exact L2N.mk_of I hm r h (I.hok.gone hm.new)
end
/-- isinstance(e, c) in a suite, whether the error has fields or not -/
def rIsA (K : PySem.W.Frag) (D a : Addr) (d : Option Addr) : List V → Hp → VK → Prop := fun xs H Q => ∃ (c : V) (cv : Value) (b : Bool), xs = [.ref a, c] ∧ (∀ u, RelV c u → u = cv) ∧ PySem.W.kitOne K (.ref D) cv = some b ∧
  (∀ dd, d = some dd → ∃ fs, H dd = some (.xd fs)) ∧ Q (.bl b) H
theorem call_isA {X : Cx} {a D : Addr} {oe : Obj} {d : Option Addr} {pn : List (Addr × Obj)} (C : ExcC X.K D) (hz : Zc (.ref D) d oe) (hf : ∃ vs, oe.data = .fields vs) : CallR (X.suite a ((a, oe) :: pn)) (.builtin "isinstance") (rIsA X.K D a d) := by
  intro pins s σ H xs us Q I r h
  obtain ⟨c, cv, b, rfl, hcv, e, hd, q⟩ := h
  cases r with
  | cons rx rr =>
    cases rr with
    | @cons _ uu _ _ rt rr =>
      cases rr
      cases rx
      have ec := hcv _ rt
      subst ec
      obtain ⟨hget, _⟩ := I.pin (a, oe) (List.mem_append.mpr (.inl List.mem_cons_self))
      obtain ⟨vs, hv⟩ := hf
      have hcl : (PySem.W.clsIn X.K D).isSome = true := by
        obtain ⟨cd, hc, _⟩ := PySem.W.any_some C.hd
        rw [hc]; rfl
      have fin : ∀ od, PySem.W.InstAt s.heap a oe D od → wpAny (model (X.suite a ((a, oe) :: pn)).prog (X.suite a ((a, oe) :: pn)).w) (X.suite a ((a, oe) :: pn)).A (call (.builtin "isinstance") [.ref a, uu]) (EP (X.suite a ((a, oe) :: pn)) pins σ Q) (X.suite a ((a, oe) :: pn)).xe s := fun od J =>
        PySem.W.kia_one (PySem.W.kitx_exc hcl C.hg C.hk C.hs C.ha C.hn C.ht C.hm) I.kIn J e (fun z => nomatch z) fun tk => ⟨.bl b, H, I.kept (t' := tk) fun _ _ z => z, rfl, q⟩
      cases d with
      | none => exact fin none ⟨hget, hz.1, by unfold PySem.W.notCls; rw [hv] <;> rfl, by rw [hz.2]; trivial⟩
      | some dd =>
        obtain ⟨fs, hx⟩ := hd dd rfl
        have hx : ObjOk X.prog X.w H s.heap dd (.xd fs) := I.hok dd _ hx
        obtain ⟨mA, ⟨od, es, ep, ho, _⟩, _⟩ := hx
        exact fin (some od) ⟨hget, hz.1, by unfold PySem.W.notCls; rw [hv] <;> rfl, by rw [hz.2]; exact ho⟩
/-! ### what is asked of the module's objects, as Bools -/
def ercB (K : PySem.W.Frag) (D : Addr) : Bool :=
  decide (PySem.W.findIn K (.ref D) "__getattribute__" = some (some (.builtin "BaseException.__getattribute__"))) && (decide (PySem.W.findIn K (.ref D) "__getattr__" = some none) && (decide (PySem.W.subIn K (.ref D) (.type "BaseException") = some true) &&
  (PySem.W.hasDictIn K D && (decide (PySem.W.findIn K (.ref D) "__class__" = some (some (.builtin "object.__class__"))) && (decide (PySem.W.specialIn K (.builtin "object.__class__") "__get__" = some (some (.builtin "getset_descriptor.__get__"))) &&
  (decide (PySem.W.takesIn K (.builtin "object.__class__") = some true) && (decide (PySem.W.mroIn K D (.type "object") = some true) && (decide (PySem.W.typeIn K (.ref D) = some (.type "type")) && PySem.W.keepIn K (.ref D)))))))))
theorem ercB_ok {K : PySem.W.Frag} {D : Addr} (h : ercB K D = true) : ExcC K D ∧ PySem.W.typeIn K (.ref D) = some (.type "type") ∧ PySem.W.keepIn K (.ref D) = true := by
  unfold ercB at h
  simp only [Bool.and_eq_true, decide_eq_true_eq] at h
  obtain ⟨h1, h2, h3, h4, h5, h6, h7, h8, h9, h10⟩ := h
  exact ⟨⟨h1, h2, h3, h4, h5, h6, h7, h8⟩, h9, h10⟩
def oexB (K : PySem.W.Frag) (C : Addr) : Bool := decide (PySem.W.findIn K (.ref C) "__setattr__" = some (some (.builtin "object.__setattr__"))) && (match K.lookup C with
  | some ⟨.type ty, _, .cls cd, sl⟩ => decide (ty = "type") && (cd.hasDict && (!cd.hasDel && (match cd.mro, sl.toList with
    | .ref C' :: bm, [_, _, _, _, some (.builtin n), _] => decide (C' = C) && (decide (n = "ValueError.__new__") && PySem.HandSPX.refsVE bm)
    | _, _ => false)))
  | _ => false)
theorem oexB_ok {K : PySem.W.Frag} {C : Addr} (h : oexB K C = true) (h2 : ExcC K C) (h3 : PySem.W.typeIn K (.ref C) = some (.type "type")) (h4 : PySem.W.keepIn K (.ref C) = true) : OexC K C := by
  unfold oexB at h
  rw [Bool.and_eq_true, decide_eq_true_eq] at h
  obtain ⟨g1, g2⟩ := h
  refine ⟨?_, g1, h2.hs, h3, h4⟩
  split at g2
  case h_2 => cases g2
  rename_i ty dd cd sl ho
  simp only [Bool.and_eq_true, decide_eq_true_eq, Bool.not_eq_true'] at g2
  obtain ⟨rfl, e1, e2, g3⟩ := g2
  split at g3
  case h_2 => cases g3
  rename_i C' bm k0 k1 k2 k3 n k5 hm hs
  simp only [Bool.and_eq_true, decide_eq_true_eq] at g3
  obtain ⟨rfl, rfl, g5⟩ := g3
  obtain ⟨nm, bs, mro, ns, qn, hd, sn, sub, ab, col, del⟩ := cd
  dsimp only at hm e1 e2
  subst hm e1 e2
  have hsl : sl = #[k0, k1, k2, k3, some (.builtin "ValueError.__new__"), k5] := by
    obtain ⟨l⟩ := sl
    simp only at hs
    rw [hs]
  subst hsl
  exact ⟨nm, qn, ns, bs, bm, sn, sub, ab, col, dd, k0, k1, k2, k3, k5, ho, g5⟩
theorem bind_two {x qual : Str} {body : List Stmt} {scope : Scope} {kV doc pm cdv ct : Value} {an : Option Addr} {cc : Addr} {a b : Arg} {u v : Value} (h : a.arg ≠ b.arg) :
    bindArgs (PySem.W.ksFn x qual ⟨[], [a, b], none, [], [], none, []⟩ body scope .none kV doc pm an cdv ct cc) ⟨[u, v], []⟩ = pure [(a.arg, u), (b.arg, v)] := by
  have h4 : notAStandIn Value.none = (pure () : Sem Unit) := rfl
  have h1 : (b.arg == a.arg) = false := by
    cases q : b.arg == a.arg with
    | false => rfl
    | true => exact absurd (eq_of_beq q).symm h
  unfold bindArgs
  simp [seqItems?, h4, List.lookup, h1]
def fileB (file0 : Str) (o : Option Value) : Bool := match o with
  | some (.str file _) => file0 == file
  | _ => false
def supB2 (prog : Program) (K : PySem.W.Frag) (C : Addr) (f : Str) (fd : FuncData) : Bool := match fd.closure, fd.code, fd.body, fd.params with
  | [(cn, cc)], .ref cdv, .stmts [.Expr (.Call (.Attribute (.Call (.Name s0 _) [] [] _) i0 p2) [.Name px _] [] p4) _, .Assign [.Attribute (.Name self _) f0 _] (.Name px2 _) _], ⟨[], [a, b], none, [], [], none, []⟩ =>
    decide (cn = "__class__") && (decide (s0 = "super") && (decide (i0 = "__init__") && (decide (f0 = f) && (decide (px2 = px) && (decide (a.arg = self) && (decide (b.arg = px) && (decide (self ≠ px) && ((p2.endLine == p4.line) &&
    (decide (fd.globals = mainGlobals) && (decide (fd.builtins = builtinsNs) && (decide (fd.defaults = .none) && (PySem.W.codeIn K fd.code fd.qualname &&
    ((match K.lookup cdv with
      | some ⟨_, _, .fields vs, _⟩ => fileB prog.main.file vs[2]?
      | _ => false) && ((match K.lookup cc with
      | some ⟨_, _, .cell (some (.ref C2)), _⟩ => decide (C2 = C)
      | _ => false) &&
    (decide (fd.scope.names.lookup ("super" : Str) = some .globalImplicit) && (decide (fd.scope.names.lookup ("__class__" : Str) = some .free) && (decide (fd.scope.names.lookup self = some .local) && (decide (fd.scope.names.lookup px = some .local) &&
    ((!(self == ("__debug__" : Str))) && ((!(px == ("__debug__" : Str))) && (decide (fd.scope.kind = .function) && ((!fd.scope.isCoroutine) && ((!fd.scope.isGenerator) && fd.scope.names.all fun x => decide (x.2 ≠ .cell))))))))))))))))))))))))
  | _, _, _, _ => false
def fnAt (K : PySem.W.Frag) (C : Addr) : Addr := match PySem.W.findIn K (.ref C) "__init__" with
  | some (some (.ref fI)) => fI
  | _ => 0
def supB (prog : Program) (K : PySem.W.Frag) (C : Addr) (f : Str) : Bool := oexB K C && (decide (PySem.W.findIn K (.ref C) "__init__" = some (some (.ref (fnAt K C)))) && (decide (PySem.W.typeIn K (.ref (fnAt K C)) = some (.type "function")) && (decide (PySem.W.findIn K (.ref C) f = some none) &&
  (decide (PySem.W.ks_superIn K C C "__init__" = some (some (.builtin "ValueError.__init__"))) && (decide (PySem.W.subIn K (.ref C) (.type "ValueError") = some true) && (decide (PySem.W.mroIn K C (.ref C) = some true) && (decide (PySem.W.nsIn K cStatics "thirdparty.any" = some none) &&
  (decide (PySem.W.nsIn K mainGlobals "super" = some none) && ((!(prog.main.scope.names.lookup ("super" : Str)).isSome) && (match K.lookup (fnAt K C) with
    | some ⟨_, _, .func fd, _⟩ => supB2 prog K C f fd
    | _ => false))))))))))
theorem supB_ok {prog : Program} {K : PySem.W.Frag} {C : Addr} {f : Str} (h : supB prog K C f = true) (h2 : ExcC K C) (h3 : PySem.W.typeIn K (.ref C) = some (.type "type")) (h4 : PySem.W.keepIn K (.ref C) = true) : SupC prog K C (fnAt K C) f := by
  unfold supB at h
  simp only [Bool.and_eq_true, decide_eq_true_eq, Bool.not_eq_true'] at h
  obtain ⟨g1, g2, g3, g4, g5, g6, g7, g8, g9, g10, g11⟩ := h
  refine ⟨oexB_ok g1 h2 h3 h4, g2, g3, g4, g5, g6, g7, g8, g9, g10, ?_⟩
  split at g11
  case h_2 => cases g11
  rename_i oc od fd osl ho
  unfold supB2 at g11
  split at g11
  case h_2 => cases g11
  rename_i cn cc cdv s0 p0 p1 i0 p2 px p3 p4 p5 self p6 f0 p7 px2 p8 p9 a b q1 q2 q3 q4
  simp only [Bool.and_eq_true, decide_eq_true_eq, Bool.not_eq_true'] at g11
  obtain ⟨rfl, rfl, rfl, rfl, rfl, rfl, rfl, e1, e2, e3, e4, e5, e6, e7, e8, e9, e10, e11, e12, e13, e14, e15, e16, e17, e18⟩ := g11
  obtain ⟨n1, n2, n3, n4, n5, n6, n7, n8, n9, n10, n11, n12, n13, n14, n15⟩ := fd
  dsimp only at q1 q2 q3 q4 e3 e4 e5 e6 e9 e10 e11 e12 e15 e16 e17 e18
  subst q1 q2 q3 q4 e3 e4 e5
  split at e7
  case h_2 => cases e7
  rename_i ccl cdd vs ccs hcd
  unfold fileB at e7
  split at e7
  case h_2 => cases e7
  rename_i file tf hvs
  split at e8
  case h_2 => cases e8
  rename_i cl cld C2 csl hcc
  obtain rfl := of_decide_eq_true e8
  exact ⟨n1, n2, _, _, n5, .none, n9, n10, n11, cdv, n14, n12, cc, oc, od, osl, _, _, p0, p1, p2, p3, p4, p5, p6, p7, p8, p9, ccl, cdd, vs, ccs, file, tf, cl, cld, csl, ho, rfl, rfl, fun u v => bind_two e1, e6, hcd, hvs, e7, hcc, e9, e10, e11, e12, e1, e13, e14, e15, e16, e17, fun x hx => of_decide_eq_true (List.all_eq_true.mp e18 x hx), e2⟩
/-! ### a module's error classes: their names, the field that their __init__ sets -/
abbrev Ers := List (Str × Option Str)
def heN : Str := Str.ofString "HandError"
structure ErP (prog : Program) (K : PySem.W.Frag) (C : Addr) (fo : Option Str) : Prop where
  ec : ExcC K C
  ty : PySem.W.typeIn K (.ref C) = some (.type "type")
  kp : PySem.W.keepIn K (.ref C) = true
  ex : PySem.W.exmOne K (.ref C) (.ref (He.ga K heN)) = some true
  ve : PySem.W.kitOne K (.ref C) (.type "ValueError") = some true
  mkx : match fo with
    | none => PySem.W.excIn K C He.veBase "ValueError.__new__" = true
    | some f => SupC prog K C (fnAt K C) f ∧ XfC K C
def erB (prog : Program) (K : PySem.W.Frag) (p : Str × Option Str) : Bool := decide (PySem.W.nsIn K mainGlobals p.1 = some (some (.ref (He.ga K p.1)))) && (ercB K (He.ga K p.1) && (decide (PySem.W.exmOne K (.ref (He.ga K p.1)) (.ref (He.ga K heN)) = some true) && (decide (PySem.W.kitOne K (.ref (He.ga K p.1)) (.type "ValueError") = some true) && (match p.2 with
  | none => PySem.W.excIn K (He.ga K p.1) He.veBase "ValueError.__new__"
  | some f => supB prog K (He.ga K p.1) f && xfB K (He.ga K p.1)))))
theorem erB_ok {prog : Program} {K : PySem.W.Frag} {p : Str × Option Str} (h : erB prog K p = true) : PySem.W.nsIn K mainGlobals p.1 = some (some (.ref (He.ga K p.1))) ∧ ErP prog K (He.ga K p.1) p.2 := by
  obtain ⟨x, fo⟩ := p
  unfold erB at h
  simp only [Bool.and_eq_true, decide_eq_true_eq] at h
  obtain ⟨h1, h2, h3, h5, h4⟩ := h
  obtain ⟨e1, e2, e3⟩ := ercB_ok h2
  refine ⟨h1, e1, e2, e3, h3, h5, ?_⟩
  cases fo with
  | none => exact h4
  | some f =>
    have h4 := Bool.and_eq_true_iff.mp h4
    exact ⟨supB_ok h4.1 e1 e2 e3, xfB_ok h4.2⟩
def ersB (prog : Program) (ers : Ers) (K : PySem.W.Frag) : Bool := ers.all (erB prog K) && ((ers.isEmpty || decide (PySem.W.nsIn K mainGlobals heN = some (some (.ref (He.ga K heN))))) && ers.all fun p => ers.all fun q => decide (PySem.W.kitOne K (.ref (He.ga K p.1)) (.ref (He.ga K q.1)) = some (decide (p.1 = q.1))))
/-- the same, for the module's globals -/
structure ErF (prog : Program) (ers : Ers) (K : PySem.W.Frag) (mg : Str → Option Value) : Prop where
  one : ∀ p ∈ ers, mg p.1 = some (.ref (He.ga K p.1)) ∧ ErP prog K (He.ga K p.1) p.2
  he : ers ≠ [] → mg heN = some (.ref (He.ga K heN))
  two : ∀ p ∈ ers, ∀ q ∈ ers, PySem.W.kitOne K (.ref (He.ga K p.1)) (.ref (He.ga K q.1)) = some (decide (p.1 = q.1))
theorem ersB_ok {prog : Program} {ers : Ers} {K : PySem.W.Frag} {h : Heap} {mg : Str → Option Value} (X : K.In h) (G : h.Ns mainGlobals mg) (e : ersB prog ers K = true) : ErF prog ers K mg := by
  unfold ersB at e
  simp only [Bool.and_eq_true, Bool.or_eq_true, List.all_eq_true, decide_eq_true_eq, List.isEmpty_iff] at e
  obtain ⟨e1, e2, e3⟩ := e
  refine ⟨fun p hp => ?_, fun hn => ?_, e3⟩
  · obtain ⟨h1, h2⟩ := erB_ok (e1 p hp)
    exact ⟨PySem.W.mg_of X G h1, h2⟩
  · exact PySem.W.mg_of X G (e2.resolve_left hn)
end VI

set_option Elab.async false
set_option linter.all false
set_option maxRecDepth 100000
set_option maxHeartbeats 2000000
/-! VI: a list comprehension within an except suite. -/
namespace VI
open PySem PySem.Spec PyProof.Rows L2 L2H
/-- a block's context, with what is pinned ahead of it -/
abbrev blkH (X : Cx) (s : Shared) (H : Hp) (scope : Scope) (cenv : Env) (fp : List Addr) : Cx := { X.blk s H scope cenv fp with pn := X.pn }
section
variable {X : Cx}
theorem inv_hot {s0 : Shared} {H0 : Hp} {scope : Scope} {ce : Env} {fp : List Addr} {σ : L2.St} {H : Hp} {s : Shared} (I : Inv (X.blk s0 H0 scope ce fp) [] σ H s)
    (h : ∀ p ∈ X.pn, s.heap.get? p.1 = some p.2 ∧ H p.1 = none ∧ p.1 ≠ ce.locals ∧ p.1 ∉ (X.blk s0 H0 scope ce fp).fs ∧ ∀ v, p.2.data ≠ .cell v) : Inv (blkH X s0 H0 scope ce fp) [] σ H s :=
  ⟨⟨I.ok.mod, I.ok.kind, I.ok.glob, I.ok.blt, I.ok.above, I.ok.inj, I.ok.has, I.ok.cab, I.ok.hd, I.ok.frames, I.ok.stk, I.ok.exf, I.ok.bs, I.ok.bsz, I.ok.noex, I.ok.exfs, I.ok.funs, I.ok.frf⟩, I.os, I.bare, I.base, I.loc, I.cell, I.free, I.freeC, fun p hp => h p (by simpa using hp), I.hok, I.len⟩
theorem hot_blk {s0 : Shared} {H0 : Hp} {scope : Scope} {ce : Env} {fp : List Addr} (hc : HotC X) : HotC (blkH X s0 H0 scope ce fp) := by
  obtain ⟨p, hp, hm⟩ := hc
  exact ⟨p, hp, hm⟩
theorem lc_coreH {pins : List (Addr × Obj)} {s : Shared} {σ : L2.St} {H : Hp} {Q : VK} {elt tg iter : Expr} {scope : Scope} {own : List (Str × Nat)} {pos pos' : Pos} {wi : TI} {g : TG} {tt : TT} {te : TE} {use : Option (Value → Sem Unit)} {Qf : Value → Shared → Prop}
    (hc : HotC X) (hN : X.N.Nodup) (I : Inv X pins σ H s) (hi : PIH X tg iter wi) (ok : BlkOk X.N X.env.scope scope own)
    (hg : ∀ (s : Shared) (H : Hp) (C : Addr) (cl : List (Str × Addr)) (fp : List Addr), PG (blkH X s H scope (compEnvC scope cl C X.env) fp) tg g) (ht : ∀ (s : Shared) (H : Hp) (C : Addr) (cl : List (Str × Addr)) (fp : List Addr), PTs (blkH X s H scope (compEnvC scope cl C X.env) fp) [] tt)
    (he : ∀ (s : Shared) (H : Hp) (C : Addr) (cl : List (Str × Addr)) (fp : List Addr), PE (blkH X s H scope (compEnvC scope cl C X.env) fp) elt te) (hs : ∀ x, foldedSetIterable iter X.env x = pure x)
    (h : tLc wi g tt te (own.map (·.2)) σ H Q)
    (hRR : ∀ D C s' m H', Inv X pins σ H' s' → Q (.ref D) H' → s'.heap.Ns C m → FpOk X pins H' C → compPost (model X.prog X.w) X.A X.xe use Qf (.ref D) C (.ok .next) s') :
    wpAny (model X.prog X.w) X.A (comprehension (.ListComp elt [⟨tg, iter, [], 0⟩] scope pos) scope X.env pos' (newList []) false (eval iter X.env) use) Qf X.xe s := by
  have hfree : ∀ y ∈ scope.names, y.2 = .free → ∃ c, X.env.cells.lookup y.1 = some c := fun y hy e => by
    rcases ok.free y hy e with k | k
    · exact I.ok.has _ (.inl k)
    · exact I.ok.has _ (.inr k)
  refine wpAny_comprehension_free (use := use) rfl hs (closure_ok hfree) ok.kind (fun y hy e => by rw [ok.uniq y hy, e])
    (thn (hi.run pins s σ H _ I h) fun xv s1 hx => thn hx fun itv s2 h2 => ?_)
  obtain ⟨it, fp, tn, J, H2, e, I2, T, st2, f2, q⟩ := h2
  subst e
  refine wpAny_newObj_type (newEnv_comp ?_) (by show 0 ≤ sizeLine; decide)
  generalize hD : s2.heap.objs.size = D
  have hDn : H2 D = none := I2.hok.fresh (Nat.le_of_eq hD)
  obtain ⟨W, ⟨m0, w0⟩, turn⟩ := q D hDn
  generalize hs3 : ({ s2 with heap := s2.heap.push { cls := .type "list", data := .seq ([] : List Value).toArray } } : Shared) = s3
  have I3 : Inv X pins σ (upd H2 D (.lst [])) s3 := by
    rw [← hs3]
    refine I2.laid (t' := s2.toks) (fun b o e => Heap.get?_push_of_some _ e) (Nat.le_of_eq hD) ⟨Nat.zero_le _, [], 0, .nil, ?_⟩
    rw [← hD]
    exact Heap.get?_push_size _ rfl
  have h3 : s3.heap = s2.heap.push { cls := .type "list", data := .seq ([] : List Value).toArray } := by rw [← hs3]
  have sz : ∀ b ∈ fp, b < s2.heap.objs.size := fun b hb => by
    obtain ⟨o, e, _⟩ := T.obj _ _ st2 b hb
    exact Heap.lt_size e
  have f3 : ∀ b ∈ fp, FpOk X pins (upd H2 D (.lst [])) b ∧ b < s3.heap.objs.size := fun b hb => by
    have hlt := sz b hb
    refine ⟨⟨?_, (f2 b hb).2⟩, by rw [h3, Heap.size_push]; exact Nat.lt_succ_of_lt hlt⟩
    rw [upd_ne (by rw [← hD]; exact Nat.ne_of_lt hlt)]
    exact (f2 b hb).1
  have st3 : tn 0 s3.heap := T.keep _ _ _ st2 fun b _ o e => by rw [h3]; exact Heap.get?_push_of_some _ e
  have I4 := block_start I3 ok hN f3
  have pg := hg s3 (upd H2 D (.lst [])) s3.heap.objs.size (cellsFrom (s3.heap.objs.size + 1) scope.names (cloFrom X.env.cells scope.names [])) fp
  have pt := ht s3 (upd H2 D (.lst [])) s3.heap.objs.size (cellsFrom (s3.heap.objs.size + 1) scope.names (cloFrom X.env.cells scope.names [])) fp
  have pe := he s3 (upd H2 D (.lst [])) s3.heap.objs.size (cellsFrom (s3.heap.objs.size + 1) scope.names (cloFrom X.env.cells scope.names [])) fp
  show codeAny _ _ (.compStart (.ListComp elt [⟨tg, iter, [], 0⟩] scope pos) 0 (.ref it) (.ref D) (compEnvC scope (cellsFrom (s3.heap.objs.size + 1) scope.names (cloFrom X.env.cells scope.names [])) s3.heap.objs.size X.env)) (compPost (model X.prog X.w) X.A X.xe use Qf (.ref D) s3.heap.objs.size) { s3 with heap := pushCells (s3.heap.push { cls := .type "dict", data := .dict #[] }) scope.names }
  have nfp : ∀ b ∈ fp, (upd H2 D (.lst [])) b = none := fun b hb => (f3 b hb).1.1
  generalize hce : compEnvC scope (cellsFrom (s3.heap.objs.size + 1) scope.names (cloFrom X.env.cells scope.names [])) s3.heap.objs.size X.env = ce at I4 pg pt pe ⊢
  have cL : ce.locals = s3.heap.objs.size := by subst hce; rfl
  generalize hH3 : upd H2 D (.lst []) = H3 at I3 I4 pg pt pe w0 nfp f3
  generalize hs4 : ({ s3 with heap := pushCells (s3.heap.push { cls := .type "dict", data := .dict #[] }) scope.names } : Shared) = s4 at I4 ⊢
  have keep4 : ∀ b o, s3.heap.get? b = some o → s4.heap.get? b = some o := fun b o e => by rw [← hs4]; exact pushCells_keeps _ _ _ _ (Heap.get?_push_of_some _ e)
  have st4 : tn 0 s4.heap := T.keep _ _ _ st3 fun b _ o e => keep4 _ _ e
  -- what is pinned stays so within the block
  have hpin : ∀ p ∈ X.pn, s3.heap.get? p.1 = some p.2 ∧ H3 p.1 = none ∧ p.1 ≠ ce.locals ∧ p.1 ∉ (X.blk s3 H3 scope ce fp).fs ∧ ∀ v, p.2.data ≠ .cell v := fun p hp => by
    have P1 := I3.pin p (List.mem_append_left _ hp)
    refine ⟨P1.1, P1.2.1, by rw [cL]; exact Nat.ne_of_lt (Heap.lt_size P1.1), fun hm => ?_, P1.2.2.2.2⟩
    exact (List.mem_cons.mp (I3.stkSub p.1 hm)).elim P1.2.2.1 P1.2.2.2.1
  have I4 := inv_hot I4 fun p hp => ⟨keep4 _ _ (hpin p hp).1, (hpin p hp).2⟩
  have hcB : HotC (blkH X s3 H3 scope ce fp) := hot_blk hc
  have stat : ∀ {σ' : L2.St} {H' : Hp} {s' : Shared}, Inv (blkH X s3 H3 scope ce fp) [] σ' H' s' → (∀ b ∈ fp, H' b = none) → ∀ b ∈ fp, FpOk (blkH X s3 H3 scope ce fp) [] H' b := fun {σ' H' s'} I' hn b hb =>
    ⟨hn b hb, (I'.ok.exf b hb).1, I'.ok.exfs b hb, .inl hb, fun x c e => (I'.ok.exf b hb).2 x c e, fun p hp => (f3 b hb).1.2.2.2.2.2 p (List.mem_append_left _ (by simpa using (show p ∈ X.pn ++ ([] : List (Addr × Obj)) from hp)))⟩
  have loop : codeAny (model X.prog X.w) X.A (.compLoop (.ListComp elt [⟨tg, iter, [], 0⟩] scope pos) 0 (.ref it) (.ref D) ce) (compPost (model X.prog X.w) X.A X.xe use Qf (.ref D) s3.heap.objs.size) s4 := by
    refine compLoop_any (fun n s' => ∃ i H', Inv (blkH X s3 H3 scope ce fp) [] (wipe σ (own.map (·.2))) H' s' ∧ tn i s'.heap ∧ (∀ b ∈ fp, H' b = none) ∧ W i n H') ?_ m0 ⟨0, H3, I4, st4, nfp, w0⟩
    rintro n s5 ⟨i, H5, I5, st5, n5, w5⟩
    rcases turn i n H5 w5 with ⟨stop, qq⟩ | ⟨go, Nx, hNx, step⟩
    · have td := T.done (blkH X s3 H3 scope ce fp) rfl rfl rfl hcB i [] s5 _ H5 (fun _ _ => False) I5 (stat I5 n5) st5 stop
      refine thnF td fun r s6 ⟨hr, I6⟩ => ?_
      subst hr
      have I7 : Inv X pins σ H5 s6 := I3.call' (ch := fp) I6.os I6.base I6.hok I6.bare fun b hb => ⟨(f3 b hb).1.2.2.2.1, (f3 b hb).1.2.1, (f3 b hb).1.2.2.2.2.1, (f3 b hb).1.2.2.2.2.2⟩
      have nC : H5 s3.heap.objs.size = none := by
        have z : H5 ce.locals = none := I6.free
        rw [cL] at z
        exact z
      obtain ⟨m, hn, _⟩ := I6.loc
      have hn : s6.heap.Ns ce.locals m := hn
      rw [cL] at hn
      exact hRR D s3.heap.objs.size s6 m H5 I7 qq hn (I3.fpOk (Nat.le_refl _) nC)
    · have ti := T.item (blkH X s3 H3 scope ce fp) rfl rfl rfl hcB i [] s5 _ H5 (fun _ _ => False) I5 (stat I5 n5) st5 go
      refine thnF ti fun r s6 ⟨u, hr, h6⟩ => ?_
      subst hr
      refine thnF h6 fun _ s7 ⟨x, H7, I7, r7, y7, st7, n7⟩ => ?_
      have I7' := I7.pinned (stat I7 n7) (T.obj _ _ st7)
      refine thnF (pg.run _ s7 _ H7 x u _ I7' r7 (step x H7 y7)) fun _ s8 ⟨σ8, H8, I8, hw8, q8⟩ => ?_
      refine thnF (pt.run _ s8 σ8 H8 _ I8 q8) fun b s9 ⟨H9, I9, q9⟩ => ?_
      have fin : ∀ {s' : Shared} {H' : Hp}, Inv (blkH X s3 H3 scope ce fp) ([] ++ pinsAt fp s7.heap) σ8 H' s' → Nx H' → ∃ m, m < n ∧ ∃ i H', Inv (blkH X s3 H3 scope ce fp) [] (wipe σ (own.map (·.2))) H' s' ∧ tn i s'.heap ∧ (∀ b ∈ fp, H' b = none) ∧ W i m H' := fun {s' H'} I' nx => by
        obtain ⟨m', hm, w'⟩ := hNx H' nx
        have pin' : ∀ b ∈ fp, ∀ o, s7.heap.get? b = some o → s'.heap.get? b = some o ∧ H' b = none := fun b hb o e =>
          let z := I'.pin (b, o) (List.mem_append_right _ (List.mem_append_right _ (mem_pinsAt hb e)))
          ⟨z.1, z.2.1⟩
        have hl : (wipe σ (own.map (·.2))).length = σ8.length := by rw [← hw8, wipe_length]
        refine ⟨m', hm, i + 1, H', (I'.unpinned (pins := [])).weak hl (fun j v e => ?_), T.keep _ _ _ st7 fun b hb o e => (pin' b hb o e).1, fun b hb => ?_, w'⟩
        · rw [← hw8] at e
          exact (wipe_some e).1
        · obtain ⟨o, e, _⟩ := T.obj _ _ st7 b hb
          exact (pin' b hb o e).2
      cases b with
      | false =>
        simp only [Bool.false_eq_true, if_false] at q9 ⊢
        exact fin I9 q9
      | true =>
        simp only [if_true] at q9 ⊢
        refine thnF (pe.run _ s9 σ8 H9 _ I9 q9) fun z s10 ⟨yv, H10, I10, r10, acc, hD10, hz10, nx⟩ => ?_
        exact app_ok (X := blkH X s3 H3 scope ce fp) I10 hD10 hz10 r10 fun s11 I11 => fin I11 nx
  exact codeAny_compStart_list loop (T.self X.A 0 _ _ _ st4 loop)
/-- as a value -/
theorem pe_lcH {elt tg iter : Expr} {scope : Scope} {own : List (Str × Nat)} {pos : Pos} {wi : TI} {g : TG} {tt : TT} {te : TE} (hc : HotC X) (hN : X.N.Nodup) (hi : PIH X tg iter wi) (ok : BlkOk X.N X.env.scope scope own)
    (hg : ∀ (s : Shared) (H : Hp) (C : Addr) (cl : List (Str × Addr)) (fp : List Addr), PG (blkH X s H scope (compEnvC scope cl C X.env) fp) tg g) (ht : ∀ (s : Shared) (H : Hp) (C : Addr) (cl : List (Str × Addr)) (fp : List Addr), PTs (blkH X s H scope (compEnvC scope cl C X.env) fp) [] tt)
    (he : ∀ (s : Shared) (H : Hp) (C : Addr) (cl : List (Str × Addr)) (fp : List Addr), PE (blkH X s H scope (compEnvC scope cl C X.env) fp) elt te) (hs : ∀ x, foldedSetIterable iter X.env x = pure x := by intro _; rfl) :
    PE X (.ListComp elt [⟨tg, iter, [], 0⟩] scope pos) (tLc wi g tt te (own.map (·.2))) := by
  refine ⟨fun pins s σ H Q I h => ?_⟩
  rw [eval_ListComp]
  refine lc_coreH hc hN I hi ok hg ht he hs h fun D C s' m H' I' q hn f => ⟨m, hn, fun h'' sb => ?_⟩
  obtain ⟨f0, f1, f2, f3, f4, f5⟩ := f
  exact ⟨.ref D, H', I'.turned (t' := s'.toks) (fun b o hb e => (sb.2 b hb).trans e) f0 f1 f3 f4 f5, rfl, q⟩
end
end VI

set_option Elab.async false
set_option linter.all false
set_option maxRecDepth 100000
set_option maxHeartbeats 2000000
/-! lambdas, with no parameter, one parameter, or one parameter that has an int as its default: made -/
namespace VL
open PySem PySem.Spec PyProof.Rows L2 LamX
/-- the making of a code object: nothing, or the table grows by one code object -/
def TabStep (P : Addr) (H H1 : Hp) : Prop := H1 = H ∨ ∃ ps ps' c' q, H P = some (.tbl ps) ∧ H c' = none ∧ H1 = upd (upd H P (.tbl ps')) c' (CodeO c' q)
theorem TabStep.at_ {P b : Addr} {o : HO} {H H1 : Hp} (t : TabStep P H H1) (h : H b = some o) (hb : b ≠ P) : H1 b = some o := by
  rcases t with rfl | ⟨ps, ps', c', q, _, hc, rfl⟩
  · exact h
  · rw [upd_ne (show b ≠ c' from fun z => by rw [z, hc] at h; cases h), upd_ne hb]; exact h
theorem TabStep.there {P b : Addr} {H H1 : Hp} (t : TabStep P H H1) (h : H b ≠ none) : H1 b ≠ none := by
  rcases t with rfl | ⟨ps, ps', c', q, hP, hc, rfl⟩
  · exact h
  · rw [upd_ne (show b ≠ c' from fun z => h (by rw [z]; exact hc))]
    by_cases hb : b = P
    · rw [hb, upd_same]; exact fun z => nomatch z
    · rw [upd_ne hb]; exact h
theorem TabStep.extN {P : Addr} {H H1 : Hp} (t : TabStep P H H1) : ExtN H H1 := fun b o h nt => by
  rcases t with rfl | ⟨ps, ps', c', q, hP, hc, rfl⟩
  · exact h
  · rw [upd_ne (show b ≠ c' from fun z => by rw [z, hc] at h; cases h), upd_ne (show b ≠ P from fun z => nt ps (by rw [z, hP] at h; exact (Option.some.inj h).symm))]; exact h
abbrev lamO (qual : Str) (params : Arguments) (body : Expr) (scope : Scope) (cl : List (Str × Addr)) (dV doc pm : Value) (c' : Addr) (ctv : Value) : Obj := PySem.W.kdv_obj "<lambda>" qual params (.expr body) scope cl dV doc pm c' ctv
/-- a lambda of X's def, as it lies -/
def LamO (X : Cx) (params : Arguments) (body : Expr) (scope : Scope) (f c' : Addr) (dV : Value) : HO := .ext fun h => ∃ doc pm ctv, h.get? f = some (lamO (X.env.qual ++ "<lambda>") params body scope (cloFrom X.env.cells scope.names []) dV doc pm c' ctv)
theorem lamO_nt {X : Cx} {params : Arguments} {body : Expr} {scope : Scope} {f c' : Addr} {dV : Value} (ps : Array Value) : LamO X params body scope f c' dV ≠ .tbl ps := fun z => by
  unfold LamO at z
  cases z
/-- its defaults, as they lie -/
def DfT (p : Arguments) (H : Hp) (dV : Value) : Prop := match p.defaults with
  | [.Constant (.int i) _ _] => ∃ t0, dV = .ref t0 ∧ H t0 = some (.tup [V.int i])
  | _ => dV = .none
theorem DfT.mono {p : Arguments} {H H' : Hp} {dV : Value} (h : DfT p H dV) (e : ∀ a o, H a = some o → (∀ ps, o ≠ .tbl ps) → H' a = some o) : DfT p H' dV := by
  unfold DfT at h ⊢
  split at h
  · obtain ⟨t0, e1, e2⟩ := h
    exact ⟨t0, e1, e _ _ e2 (fun _ z => by cases z)⟩
  · exact h
/-- a lambda is there -/
def LamK (X : Cx) (H : Hp) (params : Arguments) (body : Expr) (scope : Scope) (f c' : Addr) : Prop := (∃ dV, H f = some (LamO X params body scope f c' dV) ∧ DfT params H dV) ∧ H c' = some (CodeO c' (X.env.qual ++ "<lambda>"))
theorem LamK.mono {X : Cx} {H H' : Hp} {params : Arguments} {body : Expr} {scope : Scope} {f c' : Addr} (h : LamK X H params body scope f c') (e : ∀ a o, H a = some o → (∀ ps, o ≠ .tbl ps) → H' a = some o) : LamK X H' params body scope f c' := by
  obtain ⟨⟨dV, h1, h2⟩, h3⟩ := h
  exact ⟨⟨dV, e _ _ h1 lamO_nt, h2.mono e⟩, e _ _ h3 codeO_ne⟩
/-- the making of a lambda -/
def LamStep (X : Cx) (P : Addr) (params : Arguments) (body : Expr) (scope : Scope) (f c' : Addr) (H H' : Hp) : Prop := ∃ (Ha Hb : Hp) (dV : Value), (Ha = H ∨ ∃ t0 i, H t0 = none ∧ Ha = upd H t0 (.tup [V.int i])) ∧ TabStep P Ha Hb ∧ Hb f = none ∧ H' = upd Hb f (LamO X params body scope f c' dV)
/-- what it does to all else -/
structure Grow (T : List (Addr × Str)) (H H' : Hp) : Prop where
  keep : ∀ b o, H b = some o → (∀ ps, o ≠ .tbl ps) → H' b = some o
  there : ∀ b, H b ≠ none → H' b ≠ none
  tabs : Tabs T H'
theorem LamStep.grow {X : Cx} {T : List (Addr × Str)} {P : Addr} {params : Arguments} {body : Expr} {scope : Scope} {f c' : Addr} {H H' : Hp} (h : LamStep X P params body scope f c' H H') (t : Tabs T H') : Grow T H H' := by
  obtain ⟨Ha, Hb, dV, h1, h2, h3, rfl⟩ := h
  have ka : ∀ b o, H b = some o → Ha b = some o := fun b o e => by
    rcases h1 with rfl | ⟨t0, i, n, rfl⟩
    · exact e
    · rw [upd_ne (show b ≠ t0 from fun z => by rw [z, n] at e; cases e)]; exact e
  refine ⟨fun b o e nt => ?_, fun b e => ?_, t⟩
  · have := h2.extN b o (ka b o e) nt
    rw [upd_ne (show b ≠ f from fun z => by rw [z, h3] at this; cases this)]; exact this
  · cases q : H b with
    | none => exact absurd q e
    | some o =>
      have := h2.there (show Ha b ≠ none by rw [ka b o q]; exact fun z => nomatch z)
      by_cases hb : b = f
      · rw [hb, upd_same]; exact fun z => nomatch z
      · rw [upd_ne hb]; exact this
section
variable {X : Cx} {pins : List (Addr × Obj)} {σ : L2.St} {H : Hp} {s : Shared} {T : List (Addr × Str)} {c P : Addr} {q : Str} {params : Arguments} {body : Expr} {scope : Scope} {pos : Pos} {E : Value → Shared → Prop} {Q : Value → Shared → Prop}
theorem lamO_ok {H : Hp} {h : Heap} {f c' : Addr} {dV doc pm ctv : Value} (e : h.get? f = some (lamO (X.env.qual ++ "<lambda>") params body scope (cloFrom X.env.cells scope.names []) dV doc pm c' ctv)) : ObjOk X.prog X.w H h f (LamO X params body scope f c' dV) :=
  ⟨⟨doc, pm, ctv, e⟩, ⟨_, e⟩, fun h1 h2 ⟨doc, pm, ctv, a⟩ st => ⟨doc, pm, ctv, st _ a⟩⟩
theorem mk_tail {dV : Value} {ln : Nat} (hq : q = X.env.qual ++ "<lambda>") (I : Inv X pins σ H s) (TB : TabB X.base X.mg c P) (hcode : X.env.code = .ref c) (hm : (P, q) ∈ T) (hu : ∀ p ∈ T, p.1 = P → p.2 = q) (hT : Tabs T H)
    (hfree : ∀ y ∈ scope.names, y.2 = .free → ∃ c, X.env.cells.lookup y.1 = some c)
    (h : ∀ (f c' : Addr) (Hb : Hp) (s' : Shared), Inv X pins σ (upd Hb f (LamO X params body scope f c' dV)) s' → TabStep P H Hb → Hb f = none → Tabs T (upd Hb f (LamO X params body scope f c' dV)) → Hb c' = some (CodeO c' q) → Q (.ref f) s') :
    wpAny (model X.prog X.w) X.A (makeTail "<lambda>" q params (.expr body) scope X.env dV .none none pos ln) Q E s := by
  subst hq
  obtain ⟨ps, tab, tri, told⟩ := hT (P, X.env.qual ++ "<lambda>") hm
  have atP : s.heap.get? P = some { cls := .none, data := .fields ps } := I.hok P _ tab
  have keepMod := I.mod.glob.keeps I.bk
  have more : ∀ {Hb : Hp} {f : Addr} {o : HO}, Hb f = none → Tabs T Hb → Tabs T (upd Hb f o) := fun {Hb f o} n t => t.ext fun b u e => by rw [upd_ne (show b ≠ f from fun z => by rw [z, n] at e; cases e)]; exact e
  cases hit : codeAmong pos ps.toList with
  | some cv =>
    obtain ⟨c', rfl, known⟩ := told pos cv hit
    refine PySem.W.kdv_makeTailHit (mg := X.mg) (closure_ok hfree) I.ok.glob keepMod hcode (TB.code.keeps I.bk) atP tri hit (TB.bm.keeps I.bk) fun ctv doc g tk up big => ?_
    have J : Inv X pins σ H { s with heap := g, toks := tk } := I.kept up
    have n1 : H g.objs.size = none := I.hok.fresh big
    exact h g.objs.size c' H _ (J.laid (t' := tk) (fun b o e => Heap.get?_push_of_some _ e) (Nat.le_refl _) (lamO_ok (Heap.get?_push_size _ rfl))) (.inl rfl) n1 (more n1 hT) known
  | none =>
    refine PySem.W.kdv_makeTail (mg := X.mg) (closure_ok hfree) I.ok.glob keepMod hcode (TB.code.keeps I.bk) atP tri hit TB.gP (TB.bm.keeps I.bk) fun c' ctv doc g tk up low lt rec row => ?_
    have none' : H c' = none := I.hok.fresh low
    obtain ⟨c2, oc, vs, t, e2, g1, g2, g3⟩ := rec
    obtain rfl : c' = c2 := Value.ref.inj e2
    have J := inv_table (t' := tk) (q := X.env.qual ++ "<lambda>") (more := #[rawInt pos.line, rawInt pos.col, .ref c']) (h' := g) I tab up row low ⟨oc, vs, t, g1, g2, g3⟩
    have step : TabStep P H (upd (upd H P (.tbl (ps ++ #[rawInt pos.line, rawInt pos.col, .ref c']))) c' (CodeO c' (X.env.qual ++ "<lambda>"))) := .inr ⟨ps, _, c', _, tab, none', rfl⟩
    have n1 : upd (upd H P (.tbl (ps ++ #[rawInt pos.line, rawInt pos.col, .ref c']))) c' (CodeO c' (X.env.qual ++ "<lambda>")) g.objs.size = none := J.hok.fresh (Nat.le_refl _)
    refine h g.objs.size c' _ _ (J.laid (t' := tk) (fun b o e => Heap.get?_push_of_some _ e) (Nat.le_refl _) (lamO_ok (Heap.get?_push_size _ rfl))) step n1 (more n1 fun p hp => ?_) upd_same
    by_cases hb : p.1 = P
    · rw [hu p hp hb, hb]
      refine ⟨_, by rw [upd_ne (ne_of_none tab none'), upd_same], by rw [Array.toList_append]; exact PySem.TriplesOk_snoc _ _ _ _ tri, fun p' cv hcv => ?_⟩
      rw [Array.toList_append] at hcv
      rcases among_app _ tri hcv with z | z
      · obtain ⟨c0, k1, k2⟩ := told p' cv z
        exact ⟨c0, k1, step.extN _ _ k2 codeO_ne⟩
      · exact ⟨c', z, upd_same⟩
    · obtain ⟨ps2, k1, k2, k3⟩ := hT p hp
      refine ⟨ps2, step.at_ k1 hb, k2, fun p' cv hcv => ?_⟩
      obtain ⟨c0, k4, k5⟩ := k3 p' cv hcv
      exact ⟨c0, k4, step.extN _ _ k5 codeO_ne⟩
/-- its parameters: none; one without a default; one with an int -/
def lamPB (p : Arguments) : Bool := match p with
  | ⟨[], [], none, [], [], none, []⟩ => true
  | ⟨[], [_], none, [], [], none, []⟩ => true
  | ⟨[], [_], none, [], [], none, [.Constant (.int _) _ _]⟩ => true
  | _ => false
theorem lam_mk (I : Inv X pins σ H s) (TB : TabB X.base X.mg c P) (hcode : X.env.code = .ref c) (hm : (P, X.env.qual ++ "<lambda>") ∈ T) (hu : ∀ p ∈ T, p.1 = P → p.2 = X.env.qual ++ "<lambda>") (hT : Tabs T H)
    (hfree : ∀ y ∈ scope.names, y.2 = .free → ∃ c, X.env.cells.lookup y.1 = some c) (hp : lamPB params = true)
    (h : ∀ (f c' : Addr) (H1 : Hp) (s' : Shared), Inv X pins σ H1 s' → LamStep X P params body scope f c' H H1 → Tabs T H1 → LamK X H1 params body scope f c' → Q (.ref f) s') :
    wpAny (model X.prog X.w) X.A (eval (.Lambda params body scope pos) X.env) Q X.xe s := by
  have plain : params.defaults = [] → params.kwonlyargs = [] → params.kw_defaults = [] → wpAny (model X.prog X.w) X.A (eval (.Lambda params body scope pos) X.env) Q X.xe s := fun e1 e2 e3 => by
    refine PySem.W.kla_eval (by rw [defaultsOf_eq, e1, e3]; rfl) ?_
    rw [makeFunction_eq]
    simp only [List.zip_nil_right, List.filterMap_nil, List.isEmpty_nil, if_true, pure_bind]
    refine mk_tail rfl I TB hcode hm hu hT hfree fun f c' Hb s' I1 st n1 T1 hc => h f c' _ s' I1 ⟨H, Hb, .none, .inl rfl, st, n1, rfl⟩ T1 ⟨⟨.none, upd_same, ?_⟩, by rw [upd_ne (show c' ≠ f from fun z => by rw [← z, hc] at n1; cases n1)]; exact hc⟩
    unfold DfT
    rw [e1]
  unfold lamPB at hp
  split at hp
  · exact plain rfl rfl rfl
  · exact plain rfl rfl rfl
  · rename_i a i k p
    refine PySem.W.kdv_lam rfl rfl (PySem.W.kdv_all1 ?_)
    refine thn ((pe_int (X := X) (i := i) (j := k) (pos := p)).run pins s σ H (fun v H1 => v = .int i ∧ H1 = H) I ⟨rfl, rfl⟩) fun u s1 ⟨v, H1, I1, r1, q1⟩ => PySem.W.kdv_all0 ?_
    obtain ⟨ev, eH⟩ := q1
    subst ev
    rw [eH] at I1
    obtain ⟨t, rfl⟩ := r1
    rw [makeFunction_eq]
    simp only [List.zip_nil_right, List.filterMap_nil, List.isEmpty_nil, List.isEmpty_cons, Bool.false_eq_true, if_false, if_true, pure_bind]
    refine wpAny_bind (wpAny_newTextTuple ?_)
    have n0 : H s1.heap.objs.size = none := I1.hok.fresh (Nat.le_refl _)
    have I2 : Inv X pins σ (upd H s1.heap.objs.size (.tup [V.int i])) { s1 with heap := s1.heap.push { cls := .type "tuple", data := .seq [Value.int i t].toArray } } :=
      I1.laid (t' := s1.toks) (fun b o e => Heap.get?_push_of_some _ e) (Nat.le_refl _) ⟨by show 1 ≤ sizeLine; decide, _, .cons ⟨t, rfl⟩ .nil, _, Heap.get?_push_size _ rfl, rfl, _, rfl⟩
    have hT2 : Tabs T (upd H s1.heap.objs.size (.tup [V.int i])) := hT.ext fun b u e => by rw [upd_ne (show b ≠ s1.heap.objs.size from fun z => by rw [z, n0] at e; cases e)]; exact e
    refine mk_tail rfl I2 TB hcode hm hu hT2 hfree fun f c' Hb s' I3 st n1 T1 hc => h f c' _ s' I3 ⟨_, Hb, _, .inr ⟨_, i, n0, rfl⟩, st, n1, rfl⟩ T1 ⟨⟨_, upd_same, ?_⟩, by rw [upd_ne (show c' ≠ f from fun z => by rw [← z, hc] at n1; cases n1)]; exact hc⟩
    have h0 : Hb s1.heap.objs.size = some (.tup [V.int i]) := st.extN _ _ upd_same (fun _ z => by cases z)
    exact ⟨_, rfl, by rw [upd_ne (show s1.heap.objs.size ≠ f from fun z => by rw [← z, h0] at n1; cases n1)]; exact h0⟩
  · cases hp
end
end VL

set_option Elab.async false
set_option linter.all false
set_option maxRecDepth 100000
set_option maxHeartbeats 2000000
/-! a lambda that negates what a captured dict tells of its argument, called over the heap alone -/
namespace VL
open PySem PyProof.Rows
/-- `lambda one: -told[one]` -/
def negBody (told one : Str) (p1 p2 p3 p4 : Pos) : Expr := .UnaryOp .USub (.Subscript (.Name told p1) (.Name one p2) p3) p4
structure LamAt (h : Heap) (told one : Str) (p1 p2 p3 p4 : Pos) (f c' cc d : Addr) (qual : Str) (params : Arguments) (scope : Scope) (cl : List (Str × Addr)) (doc pm ctv : Value) : Prop where
  f : h.get? f = some (lamO qual params (negBody told one p1 p2 p3 p4) scope cl .none doc pm c' ctv)
  code : h.CodeRec (.ref c') qual
  cl : cl.lookup told = some cc
  cell : h.IsCell cc (some (.ref d))
theorem bind_lam1 {qual : Str} {a : Arg} {body : FuncBody} {scope : Scope} {cl : List (Str × Addr)} {doc pm cdv ct u : Value} :
    bindArgs (PySem.W.kdv_fn "<lambda>" qual ⟨[], [a], none, [], [], none, []⟩ body scope cl .none doc pm cdv ct) ⟨[u], []⟩ = pure [(a.arg, u)] := by
  have h4 : notAStandIn Value.none = (pure () : Sem Unit) := rfl
  unfold bindArgs
  simp [seqItems?, h4, List.lookup]
section
variable {prog : Program} {w : World} {A : Around} {s : Shared} {told one qual : Str} {p1 p2 p3 p4 : Pos} {f c' cc d b a : Addr} {params : Arguments} {scope : Scope} {cl : List (Str × Addr)} {doc pm ctv : Value}
theorem lam_turn {xs : List (NestedKey × Addr × Value)} {k : NestedKey} {n : Int} {t : Tok} (L : LamAt s.heap told one p1 p2 p3 p4 f c' cc d qual params scope cl doc pm ctv) (lim : s.heap.NoLimit) (hd : A.depth < recursionLimit)
    (hu : (nestedKind prog w).room (A.deeper (PySem.W.envX qual scope s.heap.objs.size f (.ref c') cl)).in1)
    (hk : scope.kind = .function) (hco : scope.isCoroutine = false) (hgen : scope.isGenerator = false) (hnc : ∀ x ∈ scope.names, x.2 ≠ .cell)
    (hone : scope.names.lookup one = some .local) (htold : scope.names.lookup told = some .free)
    (h1 : (told == ("__debug__" : Str)) = false) (h2 : (told == ("__classdict__" : Str)) = false) (h3 : (one == ("__debug__" : Str)) = false)
    (hbind : bindArgs (PySem.W.kdv_fn "<lambda>" qual params (.expr (negBody told one p1 p2 p3 p4)) scope cl .none doc pm (.ref c') ctv) ⟨[.ref b], []⟩ = pure [(one, .ref b)])
    (hD : s.heap.DictOfH (nestedKind prog w) d xs) (hkey : (nestedKind prog w).is s.heap k b) (hm : atKey xs k = some (a, .int n t)) :
    wpAny (model prog w) A (call (.ref f) [.ref b]) (PySem.W.KeyPure (.int (-n)) s) (fun _ _ => False) s := by
  refine wpAny_call ?_
  refine PySem.W.kla_callFunE hd L.f rfl hco hgen rfl L.code ?_
  rw [hbind]
  refine wpAny_pure (wpAny_newFunctionEnv hnc (fun y hy => ?_) (fun h₁ hns hsb => ⟨lim.fresh _ hsb, ?_⟩) hk)
  · rw [List.mem_singleton.mp hy]
    exact hone
  have kp : ∀ b o, s.heap.get? b = some o → h₁.get? b = some o := fun b o e => hsb.extBut b o (Nat.ne_of_lt (Heap.lt_size e)) (Heap.get?_push_of_some _ e)
  show codeAny _ _ (.expr (negBody told one p1 p2 p3 p4) (PySem.W.envX qual scope s.heap.objs.size f (.ref c') cl)) _ _
  refine PySem.W.kla_codeExpr ?_
  unfold negBody
  refine wpAny_UnaryOp ?_
  refine wpAny_Subscript_Name_late ?_
  refine wpAny_Name (hd := h1) ?_
  refine wpAny_loadName_free hk htold L.cl (let ⟨o, e1, e2⟩ := L.cell; ⟨o, kp _ _ e1, e2⟩) ?_ h2
  refine wpAny_Name (hd := h3) ?_
  refine wpAny_loadName_local hk hone hns (v := .ref b) (by simp [List.lookup]) ?_
  have hD2 : h₁.DictOfH (nestedKind prog w) d xs := (let ⟨o, es, ep, e1, e2, e3, e4, e5, e6⟩ := hD; ⟨o, es, ep, kp _ _ e1, e2, e3, e4, fun x hx => nestedKind_stays.stays (fun b o _ _ e _ => kp b o e) (e5 x hx), e6⟩)
  refine ⟨"dict", _, F.slot_dict_getitem.lookup, hD2.typeIs, wpAny_getItem_heap (knd := nestedKind prog w) hu (nestedKind_stays.stays (fun b o _ _ e _ => kp b o e) hkey) hD2 hm ?_⟩
  refine neg_int ?_
  exact ⟨_, _, rfl, kp, .int _ _⟩
end
end VL

set_option Elab.async false
set_option linter.all false
set_option maxRecDepth 100000
set_option maxHeartbeats 2000000
/-! sorted(names, key=lambda one: -told[one]) -/
namespace VL
open PySem PySem.Spec PyProof.Rows L2 VI
abbrev Kb := Addr × NestedKey × Int
theorem each_refs : ∀ {bs : List Kb} {its : List Value}, Vals (bs.map fun b => V.ref b.1) its → PySem.W.EachIs (fun v (b : Kb) => v = Value.ref b.1) its bs
  | [], _, .nil => .nil
  | b :: bs, _, .cons h t => .cons h (each_refs t)
theorem refs_each : ∀ {bs : List Kb} {its : List Value}, PySem.W.EachIs (fun v (b : Kb) => v = Value.ref b.1) its bs → Vals (bs.map fun b => V.ref b.1) its
  | [], _, .nil => .nil
  | _ :: _, _, .cons h t => .cons h (refs_each t)
section
variable {X : Cx} {pins : List (Addr × Obj)} {σ : L2.St} {H : Hp} {s : Shared} {told one qual : Str} {p1 p2 p3 p4 : Pos} {f c' cc d l : Addr} {params : Arguments} {scope : Scope} {cl : List (Str × Addr)} {doc pm ctv : Value}
theorem sorted_lam {bs : List Kb} {es : Array DictEntry} {ep : Nat} {qs : List VI.Row} {Q : VK} (I : Inv X pins σ H s) (L : LamAt s.heap told one p1 p2 p3 p4 f c' cc d qual params scope cl doc pm ctv)
    (hdp : X.A.depth < recursionLimit) (hu : X.A.units + 64 < cLine)
    (hk : scope.kind = .function) (hco : scope.isCoroutine = false) (hgen : scope.isGenerator = false) (hnc : ∀ x ∈ scope.names, x.2 ≠ .cell)
    (hone : scope.names.lookup one = some .local) (htold : scope.names.lookup told = some .free)
    (h1 : (told == ("__debug__" : Str)) = false) (h2 : (told == ("__classdict__" : Str)) = false) (h3 : (one == ("__debug__" : Str)) = false)
    (hbind : ∀ b, bindArgs (PySem.W.kdv_fn "<lambda>" qual params (.expr (negBody told one p1 p2 p3 p4)) scope cl .none doc pm (.ref c') ctv) ⟨[.ref b], []⟩ = pure [(one, .ref b)])
    (hl : SqL X.K H l (bs.map fun b => V.ref b.1)) (hd : H d = some (dRaw d es ep)) (hr : Rws X.w H qs es) (hb : ∀ b ∈ bs, KeyOk H b.2.1 b.1 ∧ ∃ q, findQ qs b.2.1 = some q ∧ q.2.2 = V.int b.2.2)
    (q : ∀ p, H p = none → Q (.ref p) (upd H p (.lst ((bs.mergeSort (PySem.W.dataLe false fun b => PyData.int (-b.2.2))).map fun b => V.ref b.1)))) :
    wpAny (model X.prog X.w) X.A (call (.builtin "sorted") [.ref l] [(Str.ofString "key", .ref f)]) (EP X pins σ Q) X.xe s := by
  obtain ⟨its, rv, hl, hz⟩ := I.list hl
  rw [List.length_map] at hz
  obtain ⟨xs, hD, hP⟩ := dict_of I hd hr
  have lim : s.heap.NoLimit := I.nolimit
  refine PySem.W.sorted_key_data (R := fun v (b : Kb) => v = Value.ref b.1) (b := false) (fun b => PyData.int (-b.2.2)) hl.isList (each_refs rv) ?_ ?_ hz ?_ (PyProof.Rows.ksk_s1 _ _) (fun _ => PyProof.Rows.ksk_l1 _ _) (fun x => PyProof.Rows.ksk_t1 _ _) ?_ ?_
  · intro x hx y hy
    obtain ⟨b, _, rfl⟩ := List.mem_map.mp hx
    obtain ⟨c, _, rfl⟩ := List.mem_map.mp hy
    rfl
  · right
    intro x hx
    obtain ⟨b, _, rfl⟩ := List.mem_map.mp hx
    exact ⟨(fun z => by cases z), (fun _ z => by cases z)⟩
  · intro b _
    show _ + 2 + 0 < _
    omega
  · rintro v b rfl hm h tk kp
    obtain ⟨k1, ⟨a, ad, vv⟩, k2, k3⟩ := hb b hm
    obtain ⟨u, e1, e2⟩ := find_of_some hP k2
    cases k3
    obtain ⟨t, rfl⟩ := e2
    have L' : LamAt h told one p1 p2 p3 p4 f c' cc d qual params scope cl doc pm ctv := ⟨kp _ _ L.f, let ⟨c, oc, vs, t, e1, e2, e3, e4⟩ := L.code; ⟨c, oc, vs, t, e1, kp _ _ e2, e3, e4⟩, L.cl, let ⟨o, e1, e2⟩ := L.cell; ⟨o, kp _ _ e1, e2⟩⟩
    have hD2 : h.DictOfH (nestedKind X.prog X.w) d xs := (let ⟨o, es, ep, e1, e2, e3, e4, e5, e6⟩ := hD; ⟨o, es, ep, kp _ _ e1, e2, e3, e4, fun x hx => nestedKind_stays.stays (fun b o _ _ e _ => kp b o e) (e5 x hx), e6⟩)
    refine lam_turn (s := { s with heap := h, toks := tk }) L' (lim.keeps kp) hdp ?_ hk hco hgen hnc hone htold h1 h2 h3 (hbind _) hD2 (nestedKind_stays.stays (fun b o _ _ e _ => kp b o e) (is_of I k1)) e1
    show X.A.units + 1 + 1 + 3 + 1 + 8 < cLine
    omega
  · intro out c h' tk kp hfree hob hlen he
    have hll : ((bs.mergeSort (PySem.W.dataLe false fun b => PyData.int (-b.2.2))).map fun b => V.ref b.1).length ≤ sizeLine := by
      rw [List.length_map, List.length_mergeSort]
      exact hz
    exact ⟨.ref _, upd H (s.heap.objs.size + 1) (.lst ((bs.mergeSort (PySem.W.dataLe false fun b => PyData.int (-b.2.2))).map fun b => V.ref b.1)), I.laid kp (Nat.le_succ _) ⟨hll, out, c, refs_each he, hob⟩, rfl, q _ (I.hok.fresh (Nat.le_succ _))⟩
end
end VL

set_option Elab.async false
set_option linter.all false
set_option maxRecDepth 100000
set_option maxHeartbeats 2000000
/-! the expression sorted(e, key=lambda one: -told[one]), told a cell variable of the def -/
namespace VL
open PySem PySem.Spec PyProof.Rows L2 VI LamX
/-- sorted(e, key=lambda one: -told[one]): told is the variable i -/
def tSortLam (T : List (Addr × Str)) (K : PySem.W.Frag) (w : World) (i : Nat) (te : TE) : TE := fun σ H Q => te σ H fun v H1 => Tabs T H1 ∧ ∀ H2, Grow T H1 H2 →
  ∃ (l d : Addr) (bs : List Kb) (es : Array DictEntry) (ep : Nat) (qs : List VI.Row), v = .ref l ∧ σ[i]? = some (some (.ref d)) ∧ SqL K H2 l (bs.map fun b => V.ref b.1) ∧ H2 d = some (dRaw d es ep) ∧ Rws w H2 qs es ∧
    (∀ b ∈ bs, KeyOk H2 b.2.1 b.1 ∧ ∃ q, findQ qs b.2.1 = some q ∧ q.2.2 = V.int b.2.2) ∧
    ∀ p, H2 p = none → Q (.ref p) (upd H2 p (.lst ((bs.mergeSort (PySem.W.dataLe false fun b => PyData.int (-b.2.2))).map fun b => V.ref b.1)))
section
variable {X : Cx}
theorem pe_sortLam {T : List (Addr × Str)} {c P : Addr} {told one : Str} {p1 p2 p3 p4 p lpos kpos pos : Pos} {a : Arg} {scope : Scope} {e : Expr} {te : TE} {i : Nat}
    (he : PE X e te) (hg : Gl X ("sorted" : Str)) (hm : X.mg ("sorted" : Str) = none) (hN : X.N[i]? = some told) (hcell : X.env.scope.names.lookup told = some .cell)
    (TB : TabB X.base X.mg c P) (hcode : X.env.code = .ref c) (hmT : (P, X.env.qual ++ "<lambda>") ∈ T) (hu : ∀ p ∈ T, p.1 = P → p.2 = X.env.qual ++ "<lambda>") 
    (hdp : X.A.depth < recursionLimit) (hun : X.A.units + 64 < cLine)
    (hk : scope.kind = .function) (hco : scope.isCoroutine = false) (hgen : scope.isGenerator = false) (hnames : scope.names = [(one, .local), (told, .free)]) (hne : (told == one) = false)
    (h1 : (told == ("__debug__" : Str)) = false) (h2 : (told == ("__classdict__" : Str)) = false) (h3 : (one == ("__debug__" : Str)) = false) (ha : a.arg = one)
    (hb : backTo pos (starEach [e] X.env) = (false, eval e X.env) :: backTo pos (starEach [] X.env) := by rfl) (hpl : (backTo pos (starEach [e] X.env)).any (·.1) = false := by rfl) :
    PE X (.Call (.Name ("sorted" : Str) p) [e] [⟨some ("key" : Str), .Lambda ⟨[], [a], none, [], [], none, []⟩ (negBody told one p1 p2 p3 p4) scope lpos, kpos⟩] pos) (tSortLam T X.K X.w i te) := by
  refine ⟨fun pins s σ H Q I h => ?_⟩
  refine wpAny_Call_Name_kw (ld_blt (u := .builtin "sorted") I hg hm (by first | rfl | decide) ?_)
  have hone : scope.names.lookup one = some .local := by rw [hnames]; simp [List.lookup]
  have htold : scope.names.lookup told = some .free := by rw [hnames]; simp [List.lookup, hne]
  have hnc : ∀ x ∈ scope.names, x.2 ≠ .cell := fun x hx => by
    rw [hnames] at hx
    rcases List.mem_cons.mp hx with rfl | hx
    · exact fun z => nomatch z
    · rw [List.mem_singleton.mp hx]
      exact fun z => nomatch z
  obtain ⟨cc, hcc⟩ := I.ok.has told (.inl hcell)
  have hfree : ∀ y ∈ scope.names, y.2 = .free → ∃ c, X.env.cells.lookup y.1 = some c := fun y hy hf => by
    rw [hnames] at hy
    rcases List.mem_cons.mp hy with rfl | hy
    · cases hf
    · rw [List.mem_singleton.mp hy]
      exact ⟨cc, hcc⟩
  refine PyProof.Rows.callWith_kw ?_ hb hpl (by rfl) (by rfl)
  rw [hb]
  refine Calls.spliced_cons (thn (he.run pins s σ H _ I h) fun u s1 ⟨v, H1, I1, r1, hT, q1⟩ => Calls.spliced_nil ?_)
  show wpAny _ _ (evalAll ((do let v ← eval (.Lambda ⟨[], [a], none, [], [], none, []⟩ (negBody told one p1 p2 p3 p4) scope lpos) X.env; standAt pos; pure v) :: [])) _ _ s1
  refine wpAny_evalAll_cons (wpAny_bind ?_)
  refine lam_mk I1 TB hcode hmT hu hT hfree rfl fun f c' H2 s2 I2 eN T2 hlk => ?_
  obtain ⟨⟨dV, hfo, hdf⟩, hco2⟩ := hlk
  obtain rfl : dV = .none := hdf
  obtain ⟨⟨doc, pm, ctv, hf⟩, _, _⟩ := I2.hok f _ hfo
  refine wpAny_bind (wpAny_standAt (wpAny_pure (wpAny_evalAll_nil ?_)))
  obtain ⟨l, d, bs, es, ep, qs, rfl, hi, hl, hd, hr, hbs, q⟩ := q1 H2 (eN.grow T2)
  obtain rfl : u = Value.ref l := r1
  obtain ⟨⟨oc, vs, t, e1, e2, e3⟩, _, _⟩ := I2.hok c' _ hco2
  have hcl : (cloFrom X.env.cells scope.names []).lookup told = some cc := by
    rw [hnames]
    simp [cloFrom, hcc, List.lookup]
  obtain ⟨m, _, hloc⟩ := I2.loc
  obtain ⟨w', rw', hw'⟩ := hloc i told _ hN hi (.inr (.inl hcell))
  obtain rfl : w' = Value.ref d := rw'
  have hic : s2.heap.IsCell cc (some (.ref d)) := by
    rcases hw' with ⟨k', _⟩ | ⟨_, c3, e', z⟩
    · have k' : X.env.scope.names.lookup told = some .local := k'
      rw [hcell] at k'
      cases k'
    · have e' : X.env.cells.lookup told = some c3 := e'
      rw [hcc] at e'
      cases e'
      exact z
  exact sorted_lam I2 ⟨hf, ⟨c', oc, vs, t, rfl, e1, e2, e3⟩, hcl, hic⟩ hdp hun hk hco hgen hnc hone htold h1 h2 h3 (fun b => by rw [← ha]; exact bind_lam1) hl hd hr hbs q
end
end VL

set_option Elab.async false
set_option linter.all false
set_option maxRecDepth 100000
set_option maxHeartbeats 2000000
/-! a lambda called by the def that got it -/
namespace VL
open PySem PySem.Spec PyProof.Rows L2 LamX
/-- a lambda's own names: captured ones, globals, a parameter whose name N does not have -/
structure LamN (N : List Str) (sc scope : Scope) : Prop where
  kind : scope.kind = .function
  co : scope.isCoroutine = false
  gen : scope.isGenerator = false
  own : ∀ y ∈ scope.names, y.2 ≠ .cell ∧ (y.2 = .local → y.1 ∉ N)
  free : ∀ y ∈ scope.names, y.2 = .free → sc.names.lookup y.1 = some .cell ∨ sc.names.lookup y.1 = some .free
abbrev envL (X : Cx) (scope : Scope) (L f c' : Addr) : Env := PySem.W.envX (X.env.qual ++ "<lambda>") scope L f (.ref c') (cloFrom X.env.cells scope.names [])
/-- the lambda's body's context -/
def cxL (X : Cx) (A : Around) (out : List Env) (s : Shared) (H : Hp) (E : XK) (scope : Scope) (f c' : Addr) : Cx :=
  { X with A := A.deeper (envL X scope s.heap.objs.size f c'), s_0 := s, H_0 := H, env := envL X scope s.heap.objs.size f c', outer := out, stack := envL X scope s.heap.objs.size f c' :: out, ex := [], fn := fun _ => false, calm := true, pn := [], xe := fun e s1 => wpAny (model X.prog X.w) (A.deeper (envL X scope s.heap.objs.size f c')) (leaving (envL X scope s.heap.objs.size f c') e) (fun _ s2 => L2N.CX X.prog X.w out H s E e s2) (fun e2 s2 => L2N.CX X.prog X.w out H s E e2 s2) s1 }
section
variable {X : Cx} {pins : List (Addr × Obj)} {σ : L2.St} {H HZ : Hp} {s s1 : Shared}
theorem LamN.cells {N : List Str} {scope : Scope} (L : LamN N X.env.scope scope) (ok : X.Ok) : ∀ y ∈ scope.names, y.2 = .free → ∃ c, X.env.cells.lookup y.1 = some c := fun y hy e => by
  rcases L.free y hy e with k | k
  · exact ok.has _ (.inl k)
  · exact ok.has _ (.inr k)
theorem start_L {A : Around} {out : List Env} {E : XK} {scope : Scope} {f c' : Addr} {g : Heap} {tk : Nat} {bs : Str → Option Value} (I : Inv X pins σ H s) (L : LamN X.N X.env.scope scope) (e0 : Env0 X.prog X.w X.K X.mg X.base A out s1 HZ) (hd : A.handled = none)
    (un : Un (frs X.stack) [] H HZ s.heap s1.heap) (hns : g.Ns s1.heap.objs.size bs) (kp : ∀ b o, s1.heap.get? b = some o → g.get? b = some o) :
    Inv (cxL X A out s1 HZ E scope f c') [] σ HZ { s1 with heap := g, toks := tk } := by
  have has := L.cells I.ok
  have down : ∀ {y c}, (cloFrom X.env.cells scope.names []).lookup y = some c → X.env.cells.lookup y = some c := fun {y c} e => by
    rcases cloFrom_mem (PySem.mem_of_lookup e) with hm | ⟨h1, h2⟩
    · cases hm
    · obtain ⟨c1, hc⟩ := has _ h1 rfl
      have hc : X.env.cells.lookup y = some c1 := hc
      rw [hc] at h2
      rw [hc, h2] <;> rfl
  have upw : ∀ {y}, scope.names.lookup y = some .free → ∃ c, (cloFrom X.env.cells scope.names []).lookup y = some c := fun {y} hl => by
    have hy : (y, NameKind.free) ∈ scope.names := PySem.mem_of_lookup hl
    exact mem_lookup (cloFrom_has (cells := X.env.cells) (acc := []) hy)
  have stays : ∀ {c : Addr} {v : Option Value}, H c = none → s.heap.IsCell c v → g.IsCell c v := fun {c v} n ⟨o, ho, hd⟩ => by
    obtain ⟨sl, e⟩ := un.any ho n (by simp)
    exact ⟨_, kp _ _ e, hd⟩
  have e1 : ∀ b : Addr, b ∉ (cxL X A out s1 HZ E scope f c').ex := fun b z => by
    have z : b ∈ ([] : List Addr) := z
    cases z
  have okL : (cxL X A out s1 HZ E scope f c').Ok := {
    mod := e0.mod, kind := L.kind, glob := rfl, blt := rfl, above := Nat.le_refl _
    inj := fun y z c a b => I.ok.inj y z c (down a) (down b)
    has := fun y hy => by
      have hy : scope.names.lookup y = some .cell ∨ scope.names.lookup y = some .free := hy
      rcases hy with hy | hy
      · exact absurd rfl (L.own _ (PySem.mem_of_lookup hy)).1
      · exact upw hy
    cab := fun y c z _ => by
      have z : false = true := z
      cases z
    hd := fun _ => hd, frames := Around.frames_deeper e0.frames, stk := .inr ⟨rfl, rfl⟩, exf := fun b z => absurd z (e1 b), bs := e0.bs, bsz := e0.bsz
    noex := fun b _ _ => e1 b, exfs := fun b z => absurd z (e1 b), funs := e0.funs, frf := e0.frf }
  refine { ok := okL, os := rfl, bare := e0.bare, base := Un.kept kp, loc := ⟨bs, hns, fun i y v h1 h2 h3 => ?_⟩, cell := fun y c e => ?_, free := e0.hok.fresh (Nat.le_refl _), freeC := fun y c e => ?_, pin := fun q hq => ?_, hok := e0.hok.kept kp, len := I.len }
  · have h3 : Vis scope y := h3
    rcases h3 with k | k | k
    · exact absurd (List.mem_of_getElem? h1) ((L.own _ (PySem.mem_of_lookup k)).2 rfl)
    · exact absurd rfl (L.own _ (PySem.mem_of_lookup k)).1
    · obtain ⟨m, hn, hl⟩ := I.loc
      have vis : Vis X.env.scope y := by
        rcases L.free _ (PySem.mem_of_lookup k) rfl with z | z
        · exact .inr (.inl z)
        · exact .inr (.inr z)
      obtain ⟨u, r, q⟩ := hl i y v h1 h2 vis
      obtain ⟨c2, h2⟩ := upw k
      have c1 := down h2
      refine ⟨u, r, .inr ⟨.inr k, c2, h2, ?_⟩⟩
      rcases q with ⟨k1, _⟩ | ⟨_, c3, h4, h5⟩
      · have k1 : X.env.scope.names.lookup y = some .local := k1
        rcases L.free _ (PySem.mem_of_lookup k) rfl with z | z
        · have z : X.env.scope.names.lookup y = some .cell := z
          rw [k1] at z; cases z
        · have z : X.env.scope.names.lookup y = some .free := z
          rw [k1] at z; cases z
      · rw [c1] at h4
        cases h4
        exact stays (I.freeC y _ c1) h5
  · obtain ⟨v, z⟩ := I.cell y c (down e)
    exact ⟨v, stays (I.freeC y c (down e)) z⟩
  · obtain ⟨v, o, ho, _⟩ := I.cell y c (down e)
    exact un.free c o ho (I.freeC y c (down e)) (by simp)
  · have hq : q ∈ ([] : List (Addr × Obj)) ++ [] := hq
    simp at hq
end
/-! ### its parameters bound -/
def DfAt (p : Arguments) (h : Heap) (dV : Value) : Prop := match p.defaults with
  | [.Constant (.int i) _ _] => ∃ t0 t o n, dV = .ref t0 ∧ h.get? t0 = some o ∧ o.data = .seq #[Value.int i t] n
  | _ => dV = .none
theorem dfAt_of {X : Cx} {pins : List (Addr × Obj)} {σ : L2.St} {H : Hp} {s : Shared} {p : Arguments} {dV : Value} (I : Inv X pins σ H s) (h : DfT p H dV) : DfAt p s.heap dV := by
  unfold DfT at h
  unfold DfAt
  revert h
  generalize p.defaults = d
  intro h
  split at h
  · obtain ⟨t0, rfl, ht⟩ := h
    obtain ⟨its, rv, ⟨o, g1, g2, n, g3⟩, _⟩ := I.tuple (SqT.of ht)
    cases rv with
    | cons r1 r2 =>
      cases r2
      obtain ⟨t, rfl⟩ := r1
      exact ⟨t0, t, o, n, rfl, g1, g3⟩
  · first | (split <;> simp_all) | exact h
theorem binds0 {s : Shared} {qual : Str} {params : Arguments} {body : FuncBody} {scope : Scope} {cl : List (Str × Addr)} {dV doc pm cdv ct : Value} (hp : lamPB params = true) (ha : params.args.length = params.defaults.length) (hd : DfAt params s.heap dV) :
    ∃ bs, (∀ y ∈ bs, ∃ a ∈ params.args, y.1 = a.arg) ∧ BindsTo s (PySem.W.kdv_fn "<lambda>" qual params body scope cl dV doc pm cdv ct) ⟨[], []⟩ bs := by
  unfold lamPB at hp
  split at hp
  · refine ⟨[], by simp, .of_eq ?_⟩
    obtain rfl : dV = .none := hd
    have h4 : notAStandIn Value.none = (pure () : Sem Unit) := rfl
    unfold bindArgs
    simp [seqItems?, h4]
  · cases ha
  · rename_i a i k p
    obtain ⟨t0, t, o, n, rfl, ht, hs⟩ := hd
    refine ⟨[(a.arg, .int i t)], fun y hy => ⟨a, by simp, by rw [List.mem_singleton.mp hy]⟩, BindsTo.of_defaults rfl ht hs rfl ?_⟩
    have h4 : notAStandIn Value.none = (pure () : Sem Unit) := rfl
    simp [seqItems?, h4, List.lookup]
  · cases hp
end VL
namespace VL
open PySem PySem.Spec PyProof.Rows L2 LamX
section
variable {X : Cx} {pins : List (Addr × Obj)} {σ : L2.St} {H HZ : Hp} {s s1 : Shared}
theorem act_L {CXg : CXT} {Eg : XK} {Ng : List Str} {qg : Str} {sg : Scope} {g f c' : Addr} {cdg : Value} {params : Arguments} {body : Expr} {scope : Scope} {k i : Nat} {a : Str} {pn : List (Addr × Obj)} {xe : Value → Shared → Prop} {W : WX} {tb : XK → TE} {p1 p2 : Pos}
    (I : Inv X pins σ H s) (L : LamN X.N X.env.scope scope) (hp : lamPB params = true) (ha : params.args.length = params.defaults.length) (hpl : ∀ y ∈ params.args, scope.names.lookup y.arg = some .local)
    (tk : L2N.Takes ((cxOf CXg X.prog X.w X.K X.mg X.base Ng qg sg g cdg X.A X.stack s H Eg).tr pn xe) W) (hr : Room (k + 1) (X.A.deeper (envOfC qg sg s.heap.objs.size g cdg)))
    (hbody : ∀ (E : XK) (A : Around) (out : List Env) (s2 : Shared) (H2 : Hp), Room k (A.deeper (envL X scope s2.heap.objs.size f c')) → PE (cxL X A out s2 H2 E scope f c') body (tb E))
    (hN : Ng[i]? = some a) (hv : Vis sg a) (h1 : (a == ("__debug__" : Str)) = false) (h2 : (a == ("__classdict__" : Str)) = false) :
    PE ((cxOf CXg X.prog X.w X.K X.mg X.base Ng qg sg g cdg X.A X.stack s H Eg).tr pn xe) (.Call (.Name a p1) [] [] p2)
      (fun σZ HZ Q => σZ[i]? = some (some (.ref f)) ∧ LamK X HZ params body scope f c' ∧ tb (fun cls d H1 => W cls d σZ H1) σ HZ Q) := by
  refine ⟨fun pinsZ sZ σZ HZ Q IZ hh => ?_⟩
  obtain ⟨hs, hk, ht⟩ := hh
  refine wpAny_Call_Name_kw (thn ((pe_var (pos := p1) (i := i) hN hv h1 h2).run pinsZ sZ σZ HZ (fun v H1 => v = .ref f ∧ H1 = HZ) IZ ⟨.ref f, hs, rfl, rfl⟩) fun u s1 ⟨v, H1, I1, r1, q1⟩ => ?_)
  rw [q1.2] at I1
  rw [q1.1] at r1
  obtain rfl : u = Value.ref f := r1
  have un : Un (frs X.stack) [] H HZ s.heap s1.heap := I1.base
  obtain ⟨⟨dV, hfo, hdf⟩, hc⟩ := hk
  obtain ⟨⟨doc, pm, ctv, ob1⟩, _, _⟩ := I1.hok f _ hfo
  have df1 := dfAt_of I1 hdf
  refine PySem.W.callWith_F0 ⟨_, _, _, _, ob1⟩ ?_
  obtain ⟨⟨oc, vs, t, o1, o2, o3⟩, _, _⟩ := I1.hok c' _ hc
  obtain ⟨bs, hbs, bt⟩ := binds0 (s := s1) (qual := X.env.qual ++ "<lambda>") (body := .expr body) (scope := scope) (cl := cloFrom X.env.cells scope.names []) (doc := doc) (pm := pm) (cdv := .ref c') (ct := ctv) hp ha df1
  have run : codeAny (model X.prog X.w) (X.A.deeper (envOfC qg sg s.heap.objs.size g cdg)) (.call (.ref f) ⟨[], []⟩) (CR (L2N.CX X.prog X.w) (envOfC qg sg s.heap.objs.size g cdg :: X.stack) X.prog X.w HZ s1 Q fun cls d H1 => W cls d σZ H1) s1 := by
    refine PySem.W.kla_callFunE hr.depth ob1 rfl L.co L.gen rfl ⟨c', oc, vs, t, rfl, o1, o2, o3⟩ (bt _ _ _ _ ?_)
    refine wpAny_newFunctionEnv (fun y hy => (L.own y hy).1) (fun y hy => ?_) (fun g2 hns hsb => ⟨I1.nolimit.fresh _ hsb, ?_⟩) L.kind
    · obtain ⟨z, hz, e⟩ := hbs y hy
      rw [e]
      exact hpl z hz
    have kp : ∀ b o, s1.heap.get? b = some o → g2.get? b = some o := fun b o e => hsb.extBut b o (Nat.ne_of_lt (Heap.lt_size e)) (Heap.get?_push_of_some _ e)
    have J : Inv (cxL X (X.A.deeper (envOfC qg sg s.heap.objs.size g cdg)) (envOfC qg sg s.heap.objs.size g cdg :: X.stack) s1 HZ (fun cls d H1 => W cls d σZ H1) scope f c') [] σ HZ { s1 with heap := g2, toks := s1.toks + bs.length } :=
      start_L I L I1.env0 hr.hd un hns kp
    show codeAny _ _ (.expr body (envL X scope s1.heap.objs.size f c')) _ _
    refine PySem.W.kla_codeExpr (wpAny_mono ((hbody _ _ _ s1 HZ (hr.deeper _)).run [] _ _ HZ Q J ht) (fun v s2 hq => ?_) fun e s2 hq => hq)
    obtain ⟨v2, H2, J2, rv, q⟩ := hq
    exact ⟨v2, H2, J2.os, J2.bare, J2.base, J2.hok, rv, q⟩
  refine wpAny_call (codeAny_mono run fun r s2 hq => ?_)
  cases r with
  | error e => exact tk e s2 (L2N.XE.of_call I1 (fun _ _ _ h => h) hq)
  | ok fl => cases fl <;> first | exact I1.after hq | exact False.elim hq
end
end VL

set_option Elab.async false
set_option linter.all false
set_option maxRecDepth 100000
set_option maxHeartbeats 2000000
/-! l.count(x) of data -/
namespace VL
open PySem PySem.Spec PyProof.Rows L2
def rCountD (K : PySem.W.Frag) : V → List V → Hp → VK → Prop := fun x xs H Q => ∃ (a : Addr) (y : V) (d : PyData) (ds : List PyData), x = V.ref a ∧ xs = [y] ∧ Dp K H (V.ref a) (.list ds) ∧ Dp K H y d ∧
  SeqAt.shaped (.list ds) = true ∧ SeqAt.shaped d = true ∧ Q (.int (ds.countP (fun z => PyData.eqv z d) : Nat)) H
section
variable {X : Cx}
theorem mt_countD (hu : X.A.units + 65 < cLine) : MtR X "list.count" (rCountD X.K) := by
  intro pins s σ H x xs v us Q I rx rxs h
  obtain ⟨a, y, d, ds, rfl, rfl, hl, hy, sl, sd, q⟩ := h
  cases rx
  obtain ⟨uy, rfl, ry⟩ := rxs.one
  obtain ⟨bs, r1⟩ := Dp.reads I d y uy hy ry
  have lay : PyData.canLayAll0 ds = true := SeqAt.canLay_of_shaped sl
  have room : X.A.units + 1 + min (PyData.depthAll ds) d.depth < cLine := room_in_shaped sd hu
  cases hl with
  | lst hs ha =>
    obtain ⟨its, rv, ⟨⟨cls, dd, data, sls⟩, n, ho, hc, hdn, hdt⟩, hlen⟩ := I.list hs
    simp only at hc hdt
    subst hc hdt
    obtain ⟨as, h4⟩ := Dp.readsAll I ds _ its ha rv
    have hmap : its.map (SeqAt.readOf s.heap) = ds := SeqAt.readsAll_map ds its as lay h4
    refine call_meets PySem.F.slot_list_count ⟨_, ho, rfl⟩ PySem.F.entry_list_count (PySem.F.args_list_count_2 _ _)
      (SeqAt.list_countAt a its.toArray n dd sls uy fun u => PyData.eqv (SeqAt.readOf s.heap u) d) ⟨ho, SeqAt.items_eqAt (vs := its.toArray) (show ReadsAll s.heap its.toArray.toList ds as from h4) r1 lay (SeqAt.canLay_of_shaped sd) room, ?_⟩
    have e : its.toArray.toList.countP (fun u => PyData.eqv (SeqAt.readOf s.heap u) d) = ds.countP fun z => PyData.eqv z d := by
      rw [← hmap, List.countP_map]
      rfl
    refine ⟨.int _, H, I.tok _, ⟨s.toks, ?_⟩, q⟩
    show Value.int ((its.toArray.toList.countP fun u => PyData.eqv (SeqAt.readOf s.heap u) d : Nat) : Int) s.toks = _
    rw [e]
end
end VL

set_option Elab.async false
set_option linter.all false
set_option maxRecDepth 100000
/-! VI, part 1: the data, the small language, its evaluator. Plain Lean; the program's rows come in later. -/
namespace VI
open PySem

/-! ### data -/
inductive D where
  | non
  | bl (b : Bool)
  | int (i : Int)
  | str (x : Str)
  | tup (xs : List D)
  | lst (xs : List D)
  | dct (kvs : List (D × D))
  | fn (f : Nat)
  | obj (n : Nat)
  | scr (ns : List Int)

def lim : Nat := 16777216

mutual
def D.eqv : D → D → Bool
  | .non, .non => true
  | .bl a, .bl b => a == b
  | .bl a, .int j => (if a then 1 else 0) == j
  | .int i, .bl b => i == (if b then 1 else 0)
  | .int i, .int j => i == j
  | .str x, .str y => x == y
  | .lst xs, .lst ys => D.eqvs xs ys
  | .tup xs, .tup ys => D.eqvs xs ys
  | _, _ => false
def D.eqvs : List D → List D → Bool
  | [], [] => true
  | x :: xs, y :: ys => D.eqv x y && D.eqvs xs ys
  | _, _ => false
end

/-- plain data of a depth -/
def D.ok : Nat → D → Bool
  | _, .non => true
  | _, .bl _ => true
  | _, .int _ => true
  | _, .str x => PyData.strOk x
  | n + 1, .lst xs => xs.all (D.ok n)
  | n + 1, .tup xs => xs.all (D.ok n)
  | _, _ => false
def dpt : Nat := 12
/-- what can be part of a key: None, ints, texts, tuples of these -/
def D.kok : Nat → D → Bool
  | _, .non => true
  | _, .int _ => true
  | _, .str _ => true
  | n + 1, .tup xs => xs.all (D.kok n)
  | _, _ => false

def D.truth : D → Option Bool
  | .non => some false
  | .bl b => some b
  | .int i => some (i != 0)
  | .str x => if x.length ≤ lim then some ((x.length : Int) != 0) else none
  | .tup xs => some (!xs.isEmpty)
  | .lst xs => some (!xs.isEmpty)
  | _ => none

/-! ### operators -/
inductive Bop where | add | sub | mul | fdiv | mod | pow
  deriving DecidableEq
inductive Cop where | lt | le | gt | ge | eq | ne | isin | notin
  deriving DecidableEq
inductive Ty where | int | bool | str | tuple | list
  deriving DecidableEq

def guardO (b : Bool) (x : Option D) : Option D := if b then x else none
def smallI (i : Int) : Bool := decide (-(2 ^ 64) < i) && decide (i < 2 ^ 64)
def okMul (i j : Int) : Bool := smallI i || smallI j || decide (i.natAbs.log2 + j.natAbs.log2 < 900000)
def okDiv (j : Int) : Bool := decide (0 < j) && decide (j.natAbs.log2 < 8000)
def D.bin : Bop → D → D → Option D
  | .add, .int i, .int j => some (.int (i + j))
  | .add, .str x, .str y => guardO (decide (x.length + y.length ≤ lim)) (some (.str (x ++ y)))
  | .add, .tup xs, .tup ys => guardO (decide (xs.length + ys.length ≤ lim)) (some (.tup (xs ++ ys)))
  | .add, .lst xs, .lst ys => guardO (decide (xs.length + ys.length ≤ lim)) (some (.lst (xs ++ ys)))
  | .sub, .int i, .int j => some (.int (i - j))
  | .mul, .int i, .int j => guardO (okMul i j) (some (.int (i * j)))
  | .mul, .lst xs, .int k => guardO (decide (0 ≤ k) && decide (k ≤ 1000) && decide (xs.length ≤ 1000)) (some (.lst (List.replicate k.toNat xs).flatten))
  | .mul, .tup xs, .int k => guardO (decide (0 ≤ k) && decide (k ≤ 1000) && decide (xs.length ≤ 1000) && !xs.isEmpty) (some (.tup (List.replicate k.toNat xs).flatten))
  | .fdiv, .int i, .int j => guardO (okDiv j) (some (.int (i / j)))
  | .mod, .int i, .int j => guardO (decide (0 < j)) (some (.int (i % j)))
  | .pow, .int i, .int j => guardO (decide (0 ≤ j) && decide (j ≤ 1000000) && decide (i.natAbs < 2 ^ 64)) (some (.int (i ^ j.toNat)))
  | _, _, _ => none

def D.cmpI (o : Cop) (i j : Int) : Option Bool := match o with
  | .lt => some (decide (i < j))
  | .le => some (decide (i ≤ j))
  | .gt => some (decide (j < i))
  | .ge => some (decide (j ≤ i))
  | _ => none
def D.cmpEq (a b : D) : Option Bool := if D.ok dpt a && D.ok dpt b then some (D.eqv a b) else match a, b with
  | .dct kvs, .dct [] => some kvs.isEmpty
  | _, _ => none
/-- is a sign in a text -/
def signIn (c z : Str) : Option Bool := match c.cps.toList with
  | [n] => some (decide (n ∈ z.cps.toList))
  | _ => none
def D.inSeq (x : D) (ys : List D) : Option Bool := if D.ok dpt x && D.ok dpt (.lst ys) then some (ys.any fun y => D.eqv y x) else none
def dget (kvs : List (D × D)) (k : D) : Option D := (kvs.find? fun p => D.eqv p.1 k).map (·.2)
/-- a key that is a tuple of ints, texts, tuples of these -/
def D.key (k : D) : Bool := match k with
  | .tup _ => D.kok 6 k
  | _ => false
def D.isIn (a b : D) : Option Bool := match a, b with
  | x, .lst ys => D.inSeq x ys
  | x, .tup ys => D.inSeq x ys
  | .str c, .str z => signIn c z
  | k, .dct kvs => if D.key k then some (dget kvs k).isSome else none
  | _, _ => none
def intsL : List D → Option (List Int)
  | [] => some []
  | .int i :: r => (intsL r).map (i :: ·)
  | _ => none
/-- tuples of ints: from the first place that differs on -/
def leTup (ns ms : List Int) : Bool := Ob.lexAt (fun j => decide (ns.getD j 0 = ms.getD j 0)) (fun j => decide (ns.getD j 0 ≤ ms.getD j 0)) (decide (ns.length ≤ ms.length)) 0 (min ns.length ms.length)
def D.cmpT (o : Cop) (xs ys : List D) : Option Bool := match o, intsL xs, intsL ys with
  | .le, some ns, some ms => some (leTup ns ms)
  | _, _, _ => none
def D.cmp (o : Cop) (a b : D) : Option Bool := match o with
  | .eq => D.cmpEq a b
  | .ne => (D.cmpEq a b).map not
  | .isin => D.isIn a b
  | .notin => (D.isIn a b).map not
  | o => match a, b with
    | .int i, .int j => D.cmpI o i j
    | .tup xs, .tup ys => D.cmpT o xs ys
    | _, _ => none

/-- items by place, negative ones from behind -/
def D.ix : D → D → Option D
  | .tup xs, .int i => L2.atI xs i
  | .lst xs, .int i => L2.atI xs i
  | .dct kvs, k => if D.key k then dget kvs k else none
  | .scr ns, .int i => (L2.atI ns i).map .int
  | .str x, .int i => if x.length ≤ lim then (L2.atI x.cps.toList i).map fun c => .str ⟨#[c]⟩ else none
  | _, _ => none
def cut {α : Type} (xs : List α) (lo hi : Option Int) : List α := (xs.drop (HT.sIx xs.length 0 lo)).take (HT.sIx xs.length xs.length hi - HT.sIx xs.length 0 lo)
def D.sl : D → Option Int → Option Int → Option D
  | .tup xs, lo, hi => some (.tup (cut xs lo hi))
  | .lst xs, lo, hi => some (.lst (cut xs lo hi))
  | .str x, lo, hi => if x.length ≤ lim then some (.str (L2.cutS x lo hi)) else none
  | _, _, _ => none
def D.rev : D → Option D
  | .lst xs => some (.lst xs.reverse)
  | .tup xs => some (.tup xs.reverse)
  | _ => none

def D.isTy : Ty → D → Option Bool
  | _, .dct _ => some false
  | _, .fn _ => none
  | _, .obj _ => none
  | _, .scr _ => none
  | .int, .int _ => some true
  | .int, .bl _ => some true
  | .bool, .bl _ => some true
  | .str, .str _ => some true
  | .tuple, .tup _ => some true
  | .list, .lst _ => some true
  | _, _ => some false

/-! ### sorting -/
def strsL : List D → Option (List Str)
  | [] => some []
  | .str x :: r => (strsL r).map (x :: ·)
  | _ => none
/-- put in at its place, behind its equals' left ones -/
def insB {α : Type} (lt : α → α → Bool) (x : α) : List α → List α
  | [] => [x]
  | y :: ys => if lt y x then y :: insB lt x ys else x :: y :: ys
def isortB {α : Type} (lt : α → α → Bool) : List α → List α
  | [] => []
  | x :: xs => insB lt x (isortB lt xs)
mutual
def toPy : D → PyData
  | .non => .none
  | .bl b => .bool b
  | .int i => .int i
  | .str x => .str x
  | .tup ds => .tuple (toPys ds)
  | .lst ds => .list (toPys ds)
  | .dct _ => .none
  | .fn _ => .none
  | .obj _ => .none
  | .scr _ => .none
def toPys : List D → List PyData
  | [] => []
  | d :: ds => toPy d :: toPys ds
end
/-- data in order -/
def ltD (d e : D) : Bool := PySem.W.dataLt (toPy d) (toPy e)
def okSortB (xs : List D) : Bool := xs.all (D.ok dpt) && ((xs.all fun x => xs.all fun y => PySem.W.alike (toPy x) (toPy y)) && ((xs.all fun x => match x with
  | .tup (_ :: _) => true
  | _ => false) || xs.all fun x => match x with
  | .non => false
  | .tup _ => false
  | _ => true))
def sortD (xs : List D) : Option D := if okSortB xs then some (.lst (isortB ltD xs)) else none
/-- a list of one empty tuple, too -/
def sort1D (xs : List D) : Option D := match sortD xs with
  | some d => some d
  | none => match xs with
    | [.tup []] => some (.lst [.tup []])
    | _ => none
def maxI : List Int → Option Int
  | [] => none
  | [i] => some i
  | i :: j :: r => (maxI (j :: r)).map fun m => if m > i then m else i

def isOwn : D → Bool
  | .lst _ => true
  | .dct _ => true
  | _ => false
/-- the least or the greatest of alike data: the first such one -/
def okBest (xs : List D) : Bool := !xs.isEmpty && ((xs.all fun x => D.ok dpt x && !isOwn x) && ((xs.all fun x => xs.all fun y => PySem.W.alike (toPy x) (toPy y)) && xs.all fun x => match x with
  | .non => false
  | _ => true))
def bestI (gt : Bool) (xs : List D) : Nat := PySem.argBest (fun i j => if gt then ltD (xs.getD j .non) (xs.getD i .non) else ltD (xs.getD i .non) (xs.getD j .non)) (xs.length - 1)
def bestD (gt : Bool) (xs : List D) : Option D := if okBest xs then xs[bestI gt xs]? else none
/-- each once, the first one of equals -/
def nubD : List D → List D
  | [] => []
  | x :: xs => x :: (nubD xs).filter fun y => !D.eqv x y
/-- what sorted(set(..)) takes: ints alone, or tuples of ints alone, fewer than 63 in all -/
def okSet (xs : List D) : Bool := ((xs.all fun x => match x with
  | .int _ => true
  | _ => false) || xs.all fun x => match x with
  | .tup ys => (intsL ys).isSome && !ys.isEmpty
  | _ => false) && (decide ((nubD xs).length < 63) && (decide (xs.length < 4000) || (intsL xs).isNone))
def setD (xs : List D) : Option D := if okSet xs then sortD (nubD xs) else none

/-! ### the small language -/
inductive Bl1 where | len | abs | int | bool | str | sum | max | min | sorted | sortedSet | tuple | list | dict
  deriving DecidableEq
inductive Pat where
  | one (i : Nat)
  | many (is : List Nat)
def Pat.slots : Pat → List Nat
  | .one i => [i]
  | .many is => is

mutual
inductive E where
  | var (i : Nat)
  | bor (i : Nat)
  | bor2 (i : Nat)
  | glob (x : Nat)
  | int (i : Int)
  | bl (b : Bool)
  | str (x : Str)
  | non
  | tup (es : Es)
  | lst (es : Es)
  | dct (ks vs : Es)
  | bin (o : Bop) (a b : E)
  | neg (a : E)
  | not (a : E)
  | and (a b : E)
  | or (a b : E)
  | ite (c a b : E)
  | cmp (o : Cop) (a b : E)
  | chain (o o' : Cop) (a b c : E)
  | chain3 (o o' o'' : Cop) (a b c d : E)
  | isn (a : E)
  | notn (a : E)
  | ist (a : E) (b : Bool)
  | isi (a : E) (ts : List Ty)
  | call (f : Nat) (es : Es)
  | blt (b : Bl1) (a : E)
  | rng (a : E)
  | cnt (a x : E)
  | idx (a x : E)
  | get (d k x : E)
  | skeys (d : E)
  | lvals (d : E)
  | ix (a i : E)
  | sl (a : E) (lo hi : Eo)
  | rev (a : E)
  | comp (p : Pat) (it : It) (c : Eo) (e : E)
  | attr (c : Nat) (a : E) (f : Str)
  | mcall (c f : Nat) (m : Str) (o : E) (es : Es)
  | make (c f : Nat) (es : Es)
  | join (a x : E)
  | err (b : E)
inductive Es where
  | nil
  | cons (e : E) (es : Es)
inductive Eo where
  | none
  | some (e : E)
inductive It where
  | seq (e : E)
  | rng1 (a : E)
  | rng2 (a b : E)
  | enum (e : E)
  | zip (a b : E)
  | keys (e : E)
  | vals (e : E)
  | slam (i : Nat) (e : E)
end

/-- what an except suite says: isinstance(e, C); e.f, of the classes with that field; a plain expression; and, ==, if else -/
inductive Xe where
  | isx (k : Nat)
  | fld (ks : List Nat) (f : Str)
  | lit (e : E)
  | and (a b : Xe)
  | eq (a b : Xe)
  | ite (k : Nat) (a b : Xe)
  | stk
  | isl (ks : List Nat)
  | vadd (i : Nat) (x : Xe)
  | itl (e : E) (a b : Xe)
  | tup2 (a b : Xe)
inductive Xs where
  | set (i : Nat) (x : Xe)
  | ret (x : Xe)
/-- a longer suite -/
inductive Xq where
  | set (i : Nat) (x : Xe)
  | one (i : Nat)
mutual
inductive S where
  | set (i : Nat) (e : E)
  | own (i : Nat) (e : E)
  | own2 (i : Nat)
  | own2n (i v : Nat) (a : E)
  | newo (i : Nat) (es : Es)
  | unp (is : List Nat) (e : E)
  | par (is : List (Nat × Nat)) (es : Es)
  | putset (i : Nat) (k a : E) (j : Nat) (b : E)
  | app (i : Nat) (e : E)
  | app2 (i : Nat)
  | appi (i : Nat) (j : E) (e : E)
  | put (i : Nat) (k v : E)
  | aug (i : Nat) (o : Bop) (e : E)
  | ex (e : E)
  | setf (c : Nat) (o : E) (f : Str) (e : E)
  | augf (c : Nat) (o : E) (f : Str) (op : Bop) (e : E)
  | ite (c : E) (a b : Ss)
  | for_ (p : Pat) (it : It) (b : Ss)
  | forb (p : Pat) (i : Nat) (b : Ss)
  | while_ (c : E) (b : Ss)
  | ret (e : E)
  | retN
  | brk
  | pass
  | stk
  | raise_ (c : Nat) (e : Eo)
  | try_ (i : Nat) (e : E) (j : Nat) (ks : List Nat) (s : Xs)
inductive Ss where
  | nil
  | cons (s : S) (ss : Ss)
  | frz (is : List Nat) (ss : Ss)
  | frz1 (i : Nat) (ss : Ss)
end

/-! ### results -/
inductive Obj where
  | cells (ds : List D)
  | inst (c : Nat) (fs : List (Str × D))
abbrev Wd := List Obj
inductive Res (α : Type) where
  | ok (a : α) (w : Wd)
  | exn (c : Nat) (f : Option D) (w : Wd)
  | no
abbrev M (α : Type) := Wd → Res α
def ret {α : Type} (a : α) : M α := fun w => .ok a w
def stuck {α : Type} : M α := fun _ => .no
def bnd {α β : Type} (m : M α) (f : α → M β) : M β := fun w => match m w with
  | .ok a w => f a w
  | .exn c v w => .exn c v w
  | .no => .no
def lft {α : Type} (o : Option α) : M α := match o with
  | some a => ret a
  | none => stuck
/-- no exception leaves a comprehension's block -/
def shut {α : Type} (m : M α) : M α := fun w => match m w with
  | .ok a w => .ok a w
  | _ => .no

/-- what a slot holds: nothing, a value for good, a list (a list of lists, a dict) of the slot's own -/
inductive Sl where
  | no
  | fz (d : D)
  | ow (ds : List D)
  | ow2 (dss : List (List D))
  | od (kvs : List (D × D))
  | bo (ds : List D)
abbrev Env := List Sl
def Sl.toD : Sl → Option D
  | .fz d => some d
  | .ow ds => some (.lst ds)
  | .ow2 dss => some (.lst (dss.map .lst))
  | .od kvs => some (.dct kvs)
  | .bo _ => none
  | .no => none
/-- looked at, not handed on -/
def Sl.view : Sl → Option D
  | .fz d => some d
  | .ow ds => some (.lst ds)
  | .od kvs => some (.dct kvs)
  | .bo ds => some (.lst ds)
  | _ => none
def Sl.view2 : Sl → Option D
  | .fz d => some d
  | .ow2 dss => some (.lst (dss.map .lst))
  | _ => none
def Sl.freeze (s : Sl) : Sl := match s.toD with
  | some d => .fz d
  | none => .no
def look (env : Env) (i : Nat) : Option D := match env[i]? with
  | some (.fz d) => some d
  | _ => none
def lookB (env : Env) (i : Nat) : Option D := match env[i]? with
  | some s => s.view
  | none => none
def lookB2 (env : Env) (i : Nat) : Option D := match env[i]? with
  | some s => s.view2
  | none => none
def freeze1 (env : Env) (i : Nat) : Env := match env[i]? with
  | some s => env.set i s.freeze
  | none => env
def freezeAll (env : Env) : List Nat → Env
  | [] => env
  | i :: is => freezeAll (freeze1 env i) is
def wipeE (env : Env) : List Nat → Env
  | [] => env
  | i :: is => (wipeE env is).set i .no

def putAll (env : Env) : List Nat → List D → Option Env
  | [], [] => some env
  | i :: is, d :: ds => putAll (env.set i (.fz d)) is ds
  | _, _ => none
def bindP (p : Pat) (d : D) (env : Env) : Option Env := match p with
  | .one i => some (env.set i (.fz d))
  | .many is => match d with
    | .tup ds => putAll env is ds
    | _ => none

structure Glo where
  call : Nat → List D → M D
  glob : Nat → Option D
  fuel : Nat

/-! ### built-ins -/
def dput (kvs : List (D × D)) (k v : D) : List (D × D) := if kvs.any (fun p => D.eqv p.1 k) then kvs.map (fun p => if D.eqv p.1 k then (p.1, v) else p) else kvs ++ [(k, v)]
def dctD : List D → List D → Option D
  | [], [] => some (.dct [])
  | ks, vs => if ks.length = vs.length ∧ ks.all D.key then some (.dct ((ks.zip vs).foldl (fun acc p => dput acc p.1 p.2) [])) else none
def pairsL : List D → Option (List (D × D))
  | [] => some []
  | .tup [k, v] :: r => if D.key k then (pairsL r).map ((k, v) :: ·) else none
  | _ => none
/-- a text of one digit -/
def digit1 (x : Str) : Option Int := match x.cps.toList with
  | [n] => if Nat.ble 48 n && Nat.ble n 57 then some ((n - 48 : Nat) : Int) else none
  | _ => none
/-- the text of a number below 100 -/
def digsI (i : Int) : Str := if i < 10 then ⟨#[48 + i.toNat]⟩ else ⟨#[48 + i.toNat / 10, 48 + i.toNat % 10]⟩
def bl1 (b : Bl1) (d : D) : Option D := match b, d with
  | .len, .lst xs => some (.int xs.length)
  | .len, .tup xs => some (.int xs.length)
  | .len, .scr ns => some (.int ns.length)
  | .len, .str x => guardO (decide (x.length ≤ lim)) (some (.int x.length))
  | .abs, .int i => some (.int (if i < 0 then -i else i))
  | .int, .int i => some (.int i)
  | .int, .bl k => some (.int (if k then 1 else 0))
  | .int, .str x => (digit1 x).map .int
  | .str, .int i => guardO (decide (0 ≤ i) && decide (i < 100)) (some (.str (digsI i)))
  | .bool, .int i => some (.bl (i != 0))
  | .bool, .bl k => some (.bl k)
  | .sum, .lst xs => (intsL xs).map fun ns => .int ns.sum
  | .max, .lst xs => (intsL xs).bind fun ns => (maxI ns).map .int
  | .max, .tup xs => bestD true xs
  | .min, .lst xs => bestD false xs
  | .sorted, .lst xs => sort1D xs
  | .sorted, .tup xs => sortD xs
  | .sortedSet, .lst xs => setD xs
  | .sortedSet, .tup xs => if (intsL xs).isSome then setD xs else none
  | .tuple, .lst xs => some (.tup xs)
  | .tuple, .tup xs => some (.tup xs)
  | .list, .lst xs => some (.lst xs)
  | .list, .tup xs => some (.lst xs)
  | .dict, .lst xs => (pairsL xs).map fun ps => .dct (ps.foldl (fun acc p => dput acc p.1 p.2) [])
  | _, _ => none
def cntD (a x : D) : Option D := match a, x with
  | .lst ys, .int k => (intsL ys).map fun ns => .int (ns.count k : Nat)
  | _, _ => none
def firstAt (x : D) : List D → Option Nat
  | [] => none
  | y :: ys => if D.eqv y x then some 0 else (firstAt x ys).map (· + 1)
def idxD (a x : D) : Option D := match a with
  | .lst ys => if D.ok dpt x && D.ok dpt a then (firstAt x ys).map (fun (n : Nat) => D.int (n : Int)) else none
  | _ => none
def getD (d k x : D) : Option D := match d with
  | .dct kvs => if D.key k then some ((dget kvs k).getD x) else none
  | _ => none
def joinD (a x : D) : Option D := match a, x with
  | .str a, .lst ds => (strsL ds).bind fun ys => if (ys.map (·.length)).sum + ys.length * a.length ≤ 16777216 then some (.str (Str.join a ys)) else none
  | _, _ => none
def needS : D → Option D
  | .str x => some (.str x)
  | _ => none
def toI : D → Option Int
  | .int i => some i
  | _ => none
def rngL (lo hi : Int) : List D := (List.range (hi - lo).toNat).map fun (k : Nat) => D.int (lo + k)
def okRng (i : Int) : Bool := decide (-(2 ^ 62) ≤ i) && decide (i < 2 ^ 62)
def seqL : D → Option (List D)
  | .lst xs => some xs
  | .tup xs => some xs
  | _ => none
/-- what a slot holds that is only looked at, walked -/
def walkB : Option Sl → Option (List D)
  | some (.bo ds) => some ds
  | some (.fz d) => seqL d
  | _ => none
/-- the numbers that a dict tells of keys -/
def keysI (kvs : List (D × D)) : List D → Option (List (D × Int))
  | [] => some []
  | x :: xs => if D.key x then (match dget kvs x with
    | some (.int n) => (keysI kvs xs).map ((x, n) :: ·)
    | _ => none) else none
/-- the one of the greatest number first -/
def sortLD (t d : D) : Option (List D) := match t, d with
  | .dct kvs, .lst xs => (keysI kvs xs).map fun ps => (isortB (fun p q => decide (-p.2 < -q.2)) ps).map (·.1)
  | _, _ => none
def lstL : D → Option (List D)
  | .lst xs => some xs
  | _ => none
def enumL (n : Nat) : List D → List D
  | [] => []
  | x :: xs => .tup [.int n, x] :: enumL (n + 1) xs
def zipL : List D → List D → List D
  | x :: xs, y :: ys => .tup [x, y] :: zipL xs ys
  | _, _ => []

/-- a place of a tracked object, or of a value -/
def ixM (a i : D) : M D := match a with
  | .obj n => fun w => match w[n]?, i with
    | some (.cells ds), .int k => (match L2.atI ds k with
      | some d => .ok d w
      | none => .no)
    | _, _ => .no
  | a => lft (D.ix a i)

/-! ### instances -/
def putFD (f : Str) (d : D) : List (Str × D) → List (Str × D)
  | [] => [(f, d)]
  | (g, x) :: r => if g = f then (g, d) :: r else (g, x) :: putFD f d r
/-- an instance's field -/
def attrM (c : Nat) (f : Str) (a : D) : M D := match a with
  | .obj n => fun w => match w[n]? with
    | some (.inst c' fs) => if c' = c then (match fs.lookup f with
      | some d => .ok d w
      | none => .no) else .no
    | _ => .no
  | _ => stuck
/-- the instance that a method is called of -/
def instM (c : Nat) (m : Str) (a : D) : M D := match a with
  | .obj n => fun w => match w[n]? with
    | some (.inst c' fs) => if c' = c ∧ fs.lookup m = none then .ok (.obj n) w else .no
    | _ => .no
  | _ => stuck
def newM (c : Nat) : M D := fun w => .ok (.obj w.length) (w ++ [.inst c []])
def isNonM (x r : D) : M D := match r with
  | .non => ret x
  | _ => stuck
def setM (c : Nat) (f : Str) (d : D) (a : D) : M Unit := match a with
  | .obj n => fun w => match w[n]? with
    | some (.inst c' fs) => if c' = c ∧ fs.length < 1000 then .ok () (w.set n (.inst c (putFD f d fs))) else .no
    | _ => .no
  | _ => stuck
def augI (op : Bop) (x y : D) : Option D := match x, y, op with
  | .int a, .int b, .add => some (.int (a + b))
  | .int a, .int b, .sub => some (.int (a - b))
  | _, _, _ => none

def mapM (f : D → M (Option D)) : List D → M (List D)
  | [] => ret []
  | x :: xs => bnd (f x) fun o => bnd (mapM f xs) fun ys => ret (match o with
    | some y => y :: ys
    | none => ys)

/-! ### what is told of an error -/
/-- the error classes, their words, whether they have a field -/
def errTab : List (Nat × (Str × Bool)) := [(313472750447771142742381, (⟨#[112, 114, 111, 103, 114, 97, 109]⟩, true)), (313472752403742450085479, (⟨#[119, 101, 97, 118, 105, 110, 103]⟩, true)), (18684431819892077, (⟨#[105, 116, 101, 109]⟩, false)), (1224502934743496418419, (⟨#[115, 116, 97, 110, 100, 115]⟩, false)), (1224502934696352440684, (⟨#[115, 105, 103, 110, 97, 108]⟩, false)), (72986062710114, (⟨#[119, 101, 98]⟩, true)), (4783214558459031667, (⟨#[108, 97, 109, 112, 115]⟩, true)), (1224502930358552326771, (⟨#[111, 119, 110, 101, 114, 115]⟩, false)), (4783214571628553586, (⟨#[111, 114, 100, 101, 114]⟩, false)), (94822542445409321706023028, (⟨#[115, 116, 114, 97, 105, 103, 104, 116]⟩, false)), (1446157180335893144691, (⟨#[110, 101, 118, 101, 114]⟩, false)), (22077593589212773, (⟨#[115, 97, 102, 101]⟩, false)), (4783214520039730804, (⟨#[99, 111, 117, 110, 116]⟩, false)), (22077593606256756, (⟨#[116, 101, 120, 116]⟩, false)), (23766421873979001, (⟨#[109, 97, 110, 121]⟩, true))]
def errRes (c : Nat) (f : Option D) : Option D := match errTab.lookup c, f with
  | some (x, true), some d => some (.tup [.str x, d])
  | some (x, false), none => some (.tup [.str x, .non])
  | _, _ => none
def errM (m : M D) : M D := fun w => match m w with
  | .ok _ w => .ok (.tup [.str ⟨#[]⟩, .non]) w
  | .exn c f w => (match errRes c f with
    | some d => .ok d w
    | none => .no)
  | .no => .no
/-! ### evaluation -/
/-- as a value; as a test -/
inductive Md where | v | t
  deriving DecidableEq
def fin (md : Md) (m : M D) : M D := match md with
  | .t => bnd m fun x => lft (x.truth.map .bl)
  | .v => m
def toB : D → Option Bool
  | .bl b => some b
  | _ => none
/-- by a test's answer -/
def iteM {α : Type} (c : M D) (a b : M α) : M α := bnd c fun k => match k with
  | .bl true => a
  | .bl false => b
  | _ => stuck
def isNon : D → Bool
  | .non => true
  | _ => false
/-- x is True, x is False -/
def isB (b : Bool) : D → Option Bool
  | .bl c => some (b == c)
  | _ => none
def isTys (x : D) : List Ty → Option Bool
  | [] => some false
  | t :: ts => match D.isTy t x, isTys x ts with
    | some b, some c => some (b || c)
    | _, _ => none
/-- a list, a dict: whose method is called -/
def needL : D → Option D
  | .lst xs => some (.lst xs)
  | _ => none
def needD : D → Option D
  | .dct xs => some (.dct xs)
  | _ => none
def keysD : D → Option (List D)
  | .dct kvs => some (kvs.map (·.1))
  | _ => none
def valsD : D → Option D
  | .dct kvs => some (.lst (kvs.map (·.2)))
  | _ => none
def negD : D → Option D
  | .int i => some (.int (-i))
  | _ => none
mutual
def ev (G : Glo) : E → Md → Env → M D
  | .var i, md, env => fin md (lft (look env i))
  | .bor i, md, env => fin md (lft (lookB env i))
  | .bor2 i, md, env => fin md (lft (lookB2 env i))
  | .glob x, md, _ => fin md (lft (G.glob x))
  | .int i, md, _ => fin md (ret (.int i))
  | .bl b, md, _ => fin md (ret (.bl b))
  | .str x, md, _ => fin md (ret (.str x))
  | .non, md, _ => fin md (ret .non)
  | .tup es, md, env => fin md (bnd (evs G es env) fun ds => lft (guardO (decide (ds.length ≤ lim)) (some (.tup ds))))
  | .lst es, md, env => fin md (bnd (evs G es env) fun ds => lft (guardO (decide (ds.length ≤ lim)) (some (.lst ds))))
  | .dct ks vs, md, env => fin md (shut (bnd (evs G ks env) fun kd => bnd (evs G vs env) fun vd => lft (dctD kd vd)))
  | .bin o a b, md, env => fin md (bnd (ev G a .v env) fun x => bnd (ev G b .v env) fun y => lft (D.bin o x y))
  | .neg a, md, env => fin md (bnd (ev G a .v env) fun x => lft (negD x))
  | .not a, md, env => (match md with
    | .t => bnd (ev G a .t env) fun x => lft ((toB x).map fun b => .bl (!b))
    | .v => bnd (ev G a .v env) fun x => lft (x.truth.map fun b => .bl (!b)))
  | .and a b, md, env => (match md with
    | .t => iteM (ev G a .t env) (ev G b .t env) (ret (.bl false))
    | .v => bnd (ev G a .v env) fun x => bnd (lft x.truth) fun c => if c then ev G b .v env else ret x)
  | .or a b, md, env => (match md with
    | .t => iteM (ev G a .t env) (ret (.bl true)) (ev G b .t env)
    | .v => bnd (ev G a .v env) fun x => bnd (lft x.truth) fun c => if c then ret x else ev G b .v env)
  | .ite c a b, md, env => iteM (ev G c .t env) (ev G a md env) (ev G b md env)
  | .cmp o a b, md, env => bnd (ev G a .v env) fun x => bnd (ev G b .v env) fun y => lft ((D.cmp o x y).map .bl)
  | .chain o o' a b c, md, env => bnd (ev G a .v env) fun x => bnd (ev G b .v env) fun y => bnd (lft (D.cmp o x y)) fun k =>
      if k then bnd (ev G c .v env) fun z => lft ((D.cmp o' y z).map .bl) else ret (.bl false)
  | .chain3 o o' o'' a b c d, md, env => bnd (ev G a .v env) fun x => bnd (ev G b .v env) fun y => bnd (lft (D.cmp o x y)) fun k =>
      if k then bnd (ev G c .v env) fun z => bnd (lft (D.cmp o' y z)) fun k => if k then bnd (ev G d .v env) fun u => lft ((D.cmp o'' z u).map .bl) else ret (.bl false) else ret (.bl false)
  | .isn a, md, env => bnd (ev G a .v env) fun x => ret (.bl (isNon x))
  | .notn a, md, env => bnd (ev G a .v env) fun x => ret (.bl (!isNon x))
  | .ist a b, md, env => bnd (ev G a .v env) fun x => lft ((isB b x).map .bl)
  | .isi a ts, md, env => bnd (ev G a .v env) fun x => lft ((isTys x ts).map .bl)
  | .call f es, md, env => fin md (bnd (evs G es env) fun ds => G.call f ds)
  | .blt b a, md, env => fin md (bnd (ev G a .v env) fun x => lft (bl1 b x))
  | .rng a, md, env => fin md (bnd (ev G a .v env) fun x => lft ((toI x).bind fun n => guardO (okRng n && decide (n ≤ 1000000)) (some (.lst (rngL 0 n)))))
  | .cnt a x, md, env => fin md (bnd (bnd (ev G a .v env) fun a => lft (needL a)) fun a => bnd (ev G x .v env) fun x => lft (cntD a x))
  | .idx a x, md, env => fin md (bnd (bnd (ev G a .v env) fun a => lft (needL a)) fun a => bnd (ev G x .v env) fun x => lft (idxD a x))
  | .get d k x, md, env => fin md (bnd (bnd (ev G d .v env) fun d => lft (needD d)) fun d => bnd (ev G k .v env) fun k => bnd (ev G x .v env) fun x => lft (getD d k x))
  | .skeys d, md, env => fin md (bnd (ev G d .v env) fun d => lft ((needD d).bind keysD |>.bind sort1D))
  | .lvals d, md, env => fin md (bnd (ev G d .v env) fun d => lft ((needD d).bind valsD))
  | .ix a i, md, env => fin md (bnd (ev G a .v env) fun a => bnd (ev G i .v env) fun i => ixM a i)
  | .sl a lo hi, md, env => fin md (bnd (ev G a .v env) fun a => bnd (evO G lo env) fun lo => bnd (evO G hi env) fun hi => lft (D.sl a lo hi))
  | .rev a, md, env => fin md (bnd (ev G a .v env) fun a => lft (D.rev a))
  | .comp p it c e, md, env => fin md (bnd (evI G it env) fun xs => shut (bnd (mapM (fun x => bnd (lft (bindP p x (wipeE env p.slots))) fun env' =>
      iteM (evC G c env') (bnd (ev G e .v env') fun y => ret (some y)) (ret none)) xs) fun ys => lft (guardO (decide (ys.length ≤ lim)) (some (.lst ys)))))
  | .attr c a f, md, env => fin md (bnd (ev G a .v env) fun x => attrM c f x)
  | .mcall c f m o es, md, env => fin md (bnd (bnd (ev G o .v env) fun x => instM c m x) fun x => bnd (evs G es env) fun ds => G.call f (x :: ds))
  | .make c f es, md, env => fin md (bnd (evs G es env) fun ds => bnd (newM c) fun x => bnd (G.call f (x :: ds)) fun r => isNonM x r)
  | .join a x, md, env => fin md (bnd (bnd (ev G a .v env) fun a => lft (needS a)) fun a => bnd (ev G x .v env) fun x => lft (joinD a x))
  | .err b, md, env => fin md (errM (ev G b .v env))
def evs (G : Glo) : Es → Env → M (List D)
  | .nil, _ => ret []
  | .cons e es, env => bnd (ev G e .v env) fun d => bnd (evs G es env) fun ds => ret (d :: ds)
def evO (G : Glo) : Eo → Env → M (Option Int)
  | .none, _ => ret none
  | .some e, env => bnd (ev G e .v env) fun d => lft ((toI d).map some)
def evC (G : Glo) : Eo → Env → M D
  | .none, _ => ret (.bl true)
  | .some e, env => ev G e .t env
def evI (G : Glo) : It → Env → M (List D)
  | .seq e, env => bnd (ev G e .v env) fun d => lft (seqL d)
  | .rng1 a, env => bnd (ev G a .v env) fun x => lft ((toI x).bind fun n => if okRng n then some (rngL 0 n) else none)
  | .rng2 a b, env => bnd (ev G a .v env) fun x => bnd (ev G b .v env) fun y => lft ((toI x).bind fun m => (toI y).bind fun n => if okRng m && okRng n then some (rngL m n) else none)
  | .enum e, env => bnd (ev G e .v env) fun d => lft ((seqL d).map (enumL 0))
  | .zip a b, env => bnd (ev G a .v env) fun x => bnd (ev G b .v env) fun y => lft ((lstL x).bind fun xs => (lstL y).map fun ys => zipL xs ys)
  | .keys e, env => bnd (ev G e .v env) fun d => lft (match d with
    | .dct kvs => some (kvs.map (·.1))
    | _ => none)
  | .vals e, env => bnd (ev G e .v env) fun d => lft (match d with
    | .dct kvs => some (kvs.map (·.2))
    | _ => none)
  | .slam i e, env => bnd (ev G e .v env) fun d => bnd (lft (look env i)) fun t => lft (sortLD t d)
end

inductive Flow where
  | nx (env : Env)
  | rt (d : D)
  | bk (env : Env)

def forL (p : Pat) (body : Env → M Flow) : List D → Env → M Flow
  | [], env => ret (.nx env)
  | x :: xs, env => bnd (lft (bindP p x env)) fun env' => bnd (body env') fun fl => match fl with
    | .nx e => forL p body xs e
    | .bk e => ret (.nx e)
    | .rt d => ret (.rt d)
def whileL (c : Env → M D) (body : Env → M Flow) : Nat → Env → M Flow
  | 0, _ => stuck
  | n + 1, env => iteM (c env) (bnd (body env) fun fl => match fl with
      | .nx e => whileL c body n e
      | .bk e => ret (.nx e)
      | .rt d => ret (.rt d)) (ret (.nx env))
def parL (env : Env) : List (Nat × Nat) → List D → Option Env
  | [], [] => some env
  | (i, b) :: is, d :: ds => (match b, d with
    | 0, d => parL (env.set i (.fz d)) is ds
    | 1, .lst xs => parL (env.set i (.ow xs)) is ds
    | 1, .dct xs => parL (env.set i (.od xs)) is ds
    | 2, .lst [] => parL (env.set i (.ow2 [])) is ds
    | _, _ => none)
  | _, _ => none
/-- x[k] = v -/
def putM (env : Env) (i : Nat) (k v : D) : M Flow := match env[i]? with
  | some (.ow ds) => (match k with
    | .int j => (match L2.ixN ds.length j with
      | some n => ret (.nx (env.set i (.ow (ds.set n v))))
      | none => stuck)
    | _ => stuck)
  | some (.od kvs) => if D.key k && decide (kvs.length < lim) then ret (.nx (env.set i (.od (dput kvs k v)))) else stuck
  | some (.fz (.obj n)) => fun w => (match w[n]?, k with
    | some (.cells ds), .int j => (match L2.ixN ds.length j with
      | some m => .ok (.nx env) (w.set n (.cells (ds.set m v)))
      | none => .no)
    | _, _ => .no)
  | _ => stuck
/-- what can be stored to -/
def putOk (env : Env) (i : Nat) : Option Unit := match env[i]? with
  | some (.ow _) => some ()
  | some (.od _) => some ()
  | some (.fz (.obj _)) => some ()
  | _ => none
/-- a row and its place -/
def rowAt (dss : List (List D)) (k : D) : Option (Nat × List D) := match k with
  | .int j => (L2.ixN dss.length j).bind fun n => (dss[n]?).map fun ds => (n, ds)
  | _ => none
/-- the whole made the slot's own -/
def ownD : D → Option Sl
  | .lst ds => some (.ow ds)
  | .dct kvs => some (.od kvs)
  | _ => none

/-- an except suite's expression: c the error's class, f its field -/
def xv (G : Glo) (c : Nat) (f : Option D) : Xe → Env → M D
  | .isx k, _ => ret (.bl (Nat.beq c k))
  | .fld ks _, _ => if ks.contains c then lft f else stuck
  | .lit e, env => ev G e .v env
  | .and a b, env => bnd (xv G c f a env) fun x => bnd (lft x.truth) fun k => if k then xv G c f b env else ret x
  | .eq a b, env => bnd (xv G c f a env) fun x => bnd (xv G c f b env) fun y => lft ((D.cmp .eq x y).map .bl)
  | .ite k a b, env => if Nat.beq c k then xv G c f a env else xv G c f b env
  | .stk, _ => stuck
  | .isl ks, _ => ret (.lst (ks.map fun k => .bl (Nat.beq c k)))
  | .vadd i x, env => bnd (lft (look env i)) fun a => bnd (xv G c f x env) fun b => lft (D.bin .add a b)
  | .itl e a b, env => iteM (ev G e .t env) (xv G c f a env) (xv G c f b env)
  | .tup2 a b, env => bnd (xv G c f a env) fun x => bnd (xv G c f b env) fun y => ret (.tup [x, y])
/-- a list of bools, one of them true -/
def bolsL : List D → Option (List Bool)
  | [] => some []
  | .bl b :: r => (bolsL r).map (b :: ·)
  | _ => none
def oneT : D → Option Unit
  | .lst xs => (bolsL xs).bind fun bs => if bs.count true = 1 then some () else none
  | _ => none
def xqs (G : Glo) (c : Nat) (f : Option D) : List Xq → Env → M Env
  | [], env => ret env
  | .set i x :: r, env => bnd (xv G c f x env) fun d => xqs G c f r (env.set i (.fz d))
  | .one i :: r, env => bnd (lft (look env i)) fun d => bnd (lft (oneT d)) fun _ => xqs G c f r env
def xs (G : Glo) (c : Nat) (f : Option D) : Xs → Env → M Flow
  | .set i x, env => bnd (xv G c f x env) fun d => ret (.nx (env.set i (.fz d)))
  | .ret x, env => bnd (xv G c f x env) fun d => ret (.rt d)
mutual
def exec (G : Glo) : S → Env → M Flow
  | .set i e, env => bnd (ev G e .v env) fun d => ret (.nx (env.set i (.fz d)))
  | .own i e, env => bnd (ev G e .v env) fun d => bnd (lft (ownD d)) fun s => ret (.nx (env.set i s))
  | .own2 i, env => ret (.nx (env.set i (.ow2 [])))
  | .own2n i _ a, env => bnd (evI G (.rng1 a) env) fun xs => if xs.length ≤ lim then ret (.nx (env.set i (.ow2 (List.replicate xs.length [])))) else stuck
  | .newo i es, env => bnd (evs G es env) fun ds => fun w => if ds.length ≤ lim then .ok (.nx (env.set i (.fz (.obj w.length)))) (w ++ [.cells ds]) else .no
  | .unp is e, env => bnd (ev G e .v env) fun d => (match d with
    | .tup ds => bnd (lft (putAll env is ds)) fun env => ret (.nx env)
    | _ => stuck)
  | .par is es, env => bnd (evs G es env) fun ds => bnd (lft (parL env is ds)) fun env => ret (.nx env)
  | .putset i k a j b, env => bnd (ev G a .v env) fun a => bnd (ev G b .v env) fun b => bnd (lft (putOk env i)) fun _ => bnd (ev G k .v env) fun k => bnd (putM env i k a) fun fl => (match fl with
    | .nx env => ret (.nx (env.set j (.fz b)))
    | _ => stuck)
  | .app i e, env => (match env[i]? with
    | some (.ow ds) => bnd (ev G e .v env) fun d => if ds.length < lim then ret (.nx (env.set i (.ow (ds ++ [d])))) else stuck
    | _ => stuck)
  | .app2 i, env => (match env[i]? with
    | some (.ow2 dss) => if dss.length < lim then ret (.nx (env.set i (.ow2 (dss ++ [[]])))) else stuck
    | _ => stuck)
  | .appi i j e, env => (match env[i]? with
    | some (.ow2 dss) => bnd (ev G j .v env) fun k => bnd (lft (rowAt dss k)) fun p => bnd (ev G e .v env) fun d => if p.2.length < lim then ret (.nx (env.set i (.ow2 (dss.set p.1 (p.2 ++ [d]))))) else stuck
    | _ => stuck)
  | .put i k v, env => bnd (ev G v .v env) fun v => bnd (lft (putOk env i)) fun _ => bnd (ev G k .v env) fun k => putM env i k v
  | .aug i o e, env => bnd (lft (look env i)) fun x => bnd (ev G e .v env) fun y => (match x, y, o with
    | .int a, .int b, .add => ret (.nx (env.set i (.fz (.int (a + b)))))
    | .int a, .int b, .sub => ret (.nx (env.set i (.fz (.int (a - b)))))
    | _, _, _ => stuck)
  | .ex e, env => bnd (ev G e .v env) fun _ => ret (.nx env)
  | .setf c o f e, env => bnd (ev G e .v env) fun d => bnd (ev G o .v env) fun x => bnd (setM c f d x) fun _ => ret (.nx env)
  | .augf c o f op e, env => bnd (ev G o .v env) fun x => bnd (attrM c f x) fun y => bnd (ev G e .v env) fun z => bnd (lft (augI op y z)) fun d => bnd (setM c f d x) fun _ => ret (.nx env)
  | .ite c a b, env => iteM (ev G c .t env) (execs G a env) (execs G b env)
  | .for_ p it b, env => bnd (evI G it env) fun xs => forL p (execs G b) xs env
  | .forb p i b, env => bnd (lft (walkB (env[i]?))) fun xs => forL p (execs G b) xs env
  | .while_ c b, env => whileL (ev G c .t) (execs G b) G.fuel env
  | .ret e, env => bnd (ev G e .v env) fun d => ret (.rt d)
  | .retN, _ => ret (.rt .non)
  | .brk, env => ret (.bk env)
  | .pass, env => ret (.nx env)
  | .stk, _ => stuck
  | .raise_ c e, env => (match e with
    | .none => fun w => .exn c none w
    | .some e => bnd (ev G e .v env) fun d => fun w => .exn c (some d) w)
  | .try_ i e j ks s, env => fun w => (match ev G e .v env w with
    | .ok d w => .ok (.nx (env.set i (.fz d))) w
    | .exn c f w => if ks.contains c && decide (j < env.length) then (match xs G c f s (env.set j .no) w with
      | .exn _ _ _ => .no
      | r => r) else .no
    | .no => .no)
def execs (G : Glo) : Ss → Env → M Flow
  | .nil, env => ret (.nx env)
  | .cons s ss, env => bnd (exec G s env) fun fl => match fl with
    | .nx e => execs G ss e
    | .rt d => ret (.rt d)
    | .bk e => ret (.bk e)
  | .frz is ss, env => execs G ss (freezeAll env is)
  | .frz1 i ss, env => (match env[i]? with
    | some (.ow2 dss) => execs G ss (env.set i (.ow (dss.map .lst)))
    | _ => stuck)
end

/-! ### defs -/
structure FnI where
  ps : Nat
  ns : Nat
  bw : List Bool
  body : Ss
abbrev Tbl := List (Nat × FnI)
def Tbl.at_ : Tbl → Nat → Option FnI
  | [], _ => none
  | (g, fi) :: r, f => if Nat.beq g f then some fi else Tbl.at_ r f
def bindA : List Bool → List D → Env
  | true :: bs, .lst xs :: ds => .bo xs :: bindA bs ds
  | true :: bs, .dct _ :: ds => .no :: bindA bs ds
  | _ :: bs, d :: ds => .fz d :: bindA bs ds
  | _, _ => []
def startE (fi : FnI) (args : List D) : Env := bindA fi.bw args ++ List.replicate (fi.ns - args.length) .no
def endF (fl : Flow) : M D := match fl with
  | .rt d => ret d
  | .nx _ => ret .non
  | .bk _ => stuck
def run (T : Tbl) (gl : Nat → Option D) (n : Nat) : Nat → Nat → List D → M D
  | 0, _, _ => stuck
  | k + 1, f, args => match T.at_ f with
    | none => stuck
    | some fi => if Nat.beq args.length fi.ps then bnd (execs ⟨run T gl n k, gl, n⟩ fi.body (startE fi args)) endF else stuck
end VI

set_option Elab.async false
set_option linter.all false
set_option maxRecDepth 100000
set_option maxHeartbeats 4000000
/-! VI, part 1h: a text's table of defs; what the head's end is asked. -/
namespace VI
open PySem L2
def codeOf (x : Str) : Nat := x.cps.toList.foldl (fun a c => a * 256 + c) 0
def bltNames : List Str := ["len", "abs", "int", "bool", "str", "sum", "max", "min", "sorted", "tuple", "list", "dict", "range", "enumerate", "zip", "isinstance", "set", "ValueError"]
/-- one def: its statement of the top, what the small language says, its names by slot -/
structure En where
  name : Str
  cl : Option (Str × Str)
  st : Stmt
  fi : FnI
  N : List Str
def En.nm (e : En) : Str := match e.cl with
  | none => e.name
  | some p => p.2
def En.at_ (e : En) : Str × Option Str := match e.cl with
  | none => (e.name, none)
  | some p => (p.1, some p.2)
def En.ad (K : PySem.W.Frag) (e : En) : Addr := He.fAd K e.at_
/-- classes with their fields -/
abbrev Cls0 := List (Str × List Str)
def clsOf (cl : Cls0) (K : PySem.W.Frag) (n : Nat) : Value := match cl.find? fun p => Nat.beq (codeOf p.1) n with
  | some p => .ref (He.ga K p.1)
  | none => .none
/-- the j-th statement of a class's block -/
def methSt (t : Stmt) (j : Nat) : Stmt := match t with
  | .ClassDef _ _ _ b _ _ _ _ _ _ _ => b.getD j (.Pass ⟨0, 0, 0, 0⟩)
  | t => t
abbrev Tab := List En
def En.ps (e : En) : List Str := (defArgs e.st).args.map (·.arg)
def En.dd (e : En) : He.DefD := ⟨e.at_, e.nm, e.name, defArgs e.st, defBody e.st, defScope e.st, [], []⟩
def tblOf (tab : Tab) : Tbl := tab.map fun e => (codeOf e.name, e.fi)
def glOf (cs : List (Str × VI.D)) (n : Nat) : Option VI.D := (cs.find? fun p => Nat.beq (codeOf p.1) n).map (·.2)
def mtOf (tab : Tab) : List (En × (Str × Str)) := tab.filterMap fun e => e.cl.map fun p => (e, p)
def faC (tab : Tab) (cl : Cls0) : List He.Fa := (cl.map fun p => He.Fa.cls p.1) ++ ((cl.flatMap fun p => p.2.map fun f => He.Fa.noat p.1 f) ++ (((mtOf tab).map fun q => He.Fa.meth q.2.1 q.2.2) ++ ((mtOf tab).flatMap fun q => if q.2.2 = Str.ofString "__init__" then [He.Fa.mkr q.2.1, He.Fa.glo q.2.1] else [])))
def faOf (tab : Tab) (cs : List (Str × VI.D)) (cl : Cls0) : List He.Fa := (tab.filterMap fun e => match e.cl with
  | none => some (He.Fa.glo e.name)
  | some _ => none) ++ ((bltNames.map He.Fa.free ++ cs.map fun p => match p.2 with
  | .int i => He.Fa.int p.1 i
  | .str z => He.Fa.str p.1 z
  | _ => He.Fa.free p.1) ++ faC tab cl)
abbrev AlY : Type := He.AlD × Bool
def SaysY (fa : List He.Fa) (fn : List He.DefD) (ex : PySem.W.Frag → Bool) (K : PySem.W.Frag) : Prop := He.SaysD fa fn K ∧ ex K = true
def tbN (K : PySem.W.Frag) (x : Str) : Addr × Addr := (PySem.W.tabIn K x).getD (0, 0)
def emptyT : Option PySem.Obj → Bool
  | some ⟨.none, none, .fields vs, sl⟩ => vs.isEmpty && sl.isEmpty
  | _ => false
theorem emptyT_eq {o : Option PySem.Obj} (h : emptyT o = true) : o = some { cls := .none, data := .fields #[] } := by
  unfold emptyT at h
  split at h
  · rename_i vs sl
    simp only [Bool.and_eq_true, Array.isEmpty_iff] at h
    obtain ⟨rfl, rfl⟩ := h
    rfl
  · cases h
/-- what an object names, but for a code object's own things -/
def refsW (o : PySem.Obj) : List Addr := match o.data with
  | .dict es _ => es.toList.flatMap fun e => He.refV e.val
  | .func fd => He.refV fd.code ++ (He.refV fd.defaults ++ (He.refV fd.kwdefaults ++ fd.closure.map (·.2)))
  | .cls cd => cd.ns :: cd.mro.flatMap He.refV
  | .cell (some v) => He.refV v
  | _ => []
def nextW (g : Addr → Option PySem.Obj) (as : List Addr) : List Addr := as.flatMap fun a => match g a with
  | some o => refsW o
  | none => []
def frontW (g : Addr → Option PySem.Obj) : Nat → List Addr → List Addr
  | 0, f => f
  | n + 1, f => f ++ frontW g n (nextW g f)
/-- what the names reach, step by step, nothing twice in a row -/
def asZ (g : Addr → Option PySem.Obj) (n : Nat) : List Addr := frontW g n [mainGlobals] ++ [cStatics]
def lamQ (lms : List Str) (K : PySem.W.Frag) : Bool := (lms.all fun x => match PySem.W.tabIn K x with
  | some (c, P) => PySem.W.codeHdIn K c P && (K.lookup P).isNone
  | none => false) && decide (lms.map fun x => (tbN K x).2).Nodup
def lamG (lms : List Str) (K : PySem.W.Frag) (g : Addr → Option PySem.Obj) : Bool := lms.all fun x => emptyT (g (tbN K x).2)
abbrev AlZ : Type := AlY × (Bool × Bool)
def kZ (n : Nat) (g : Addr → Option PySem.Obj) : PySem.W.Frag := He.frG g (asZ g n)
def obsZ (n : Nat) (fa : List He.Fa) (fn : List He.DefD) (ex : PySem.W.Frag → Bool) (lms : List Str) (g : Addr → Option PySem.Obj) : AlZ := ((He.obsD fa fn (kZ n g), ex (kZ n g)), (lamQ lms (kZ n g), lamG lms (kZ n g) g))
def hookZ (n : Nat) (fa : List He.Fa) (fn : List He.DefD) (ex : PySem.W.Frag → Bool) (lms : List Str) : PySem.W.Hook where
  α := AlZ
  obs := fun s => obsZ n fa fn ex lms s.heap.get?
  val := fun _ => ((He.valD fn, true), (true, true))
  says := fun _ h => ∃ K : PySem.W.Frag, K.In h ∧ (SaysY fa fn ex K ∧ lamQ lms K = true) ∧ ∀ x ∈ lms, h.get? (tbN K x).2 = some { cls := .none, data := .fields #[] }
  of := fun _ _ e => ⟨_, He.frG_in, ⟨⟨congrArg (fun z : AlZ => z.1.1) e, congrArg (fun z : AlZ => z.1.2) e⟩, congrArg (fun z : AlZ => z.2.1) e⟩, fun x hx => emptyT_eq (List.all_eq_true.mp (congrArg (fun z : AlZ => z.2.2) e) x hx)⟩
  keeps := fun _ _ _ ⟨K, hK, c, t⟩ k => ⟨K, PySem.W.Frag.In.keeps hK k, c, fun x hx => k _ _ (t x hx)⟩
theorem obsZ_eq {n : Nat} {fa : List He.Fa} {fn : List He.DefD} {ex : PySem.W.Frag → Bool} {lms : List Str} {g : Addr → Option PySem.Obj} {s : Shared} (h : ∀ a, g a = s.heap.get? a) : obsZ n fa fn ex lms g = (hookZ n fa fn ex lms).obs s := by
  have e : g = s.heap.get? := funext h
  rw [e] <;> rfl
end VI

set_option Elab.async false
set_option linter.all false
set_option maxRecDepth 100000
/-! the defs of all laws as texts of the small language -/
namespace VI
open PySem
/-- 0 value, 1 least, 2 most -/
def F_is_in : FnI := ⟨3, 3, [false, false, false], (.cons (.ret (.and (.isi (.var 0) [.int]) (.and (.not (.isi (.var 0) [.bool])) (.chain .le .le (.var 1) (.var 0) (.var 2))))) .nil)⟩
/-- 0 value, 1 switch, 2 many, 3 last, 4 pair -/
def F_is_guard : FnI := ⟨3, 5, [false, false, false], (.cons (.ite (.not (.isi (.var 0) [.tuple])) (.cons (.ret (.bl false)) .nil) .nil) (.cons (.set 3 (.neg (.int 1))) (.cons (.for_ (.one 4) (.seq (.var 0)) (.cons (.ite (.or (.not (.isi (.var 4) [.tuple])) (.or (.cmp .ne (.blt .len (.var 4)) (.int 2)) (.not (.call 452907198830 (.cons (.ix (.var 4) (.int 0)) (.cons (.bin .add (.var 3) (.int 1)) (.cons (.bin .sub (.var 2) (.int 1)) .nil))))))) (.cons (.ret (.bl false)) .nil) .nil) (.cons (.ite (.or (.cmp .eq (.ix (.var 4) (.int 0)) (.var 1)) (.not (.call 452907198830 (.cons (.ix (.var 4) (.int 1)) (.cons (.int 0) (.cons (.int 1) .nil)))))) (.cons (.ret (.bl false)) .nil) .nil) (.cons (.set 3 (.ix (.var 4) (.int 0))) .nil)))) (.cons (.ret (.bl true)) .nil))))⟩
/-- 0 value, 1 many -/
def F_is_item : FnI := ⟨2, 2, [false, false], (.cons (.ite (.or (.not (.isi (.var 0) [.tuple])) (.or (.cmp .lt (.blt .len (.var 0)) (.int 2)) (.not (.isi (.ix (.var 0) (.int 0)) [.str])))) (.cons (.ret (.bl false)) .nil) .nil) (.cons (.ite (.cmp .isin (.ix (.var 0) (.int 0)) (.tup (.cons (.str ⟨#[116, 101, 108, 108]⟩) (.cons (.str ⟨#[119, 97, 105, 116]⟩) .nil)))) (.cons (.ret (.and (.cmp .eq (.blt .len (.var 0)) (.int 2)) (.call 452907198830 (.cons (.ix (.var 0) (.int 1)) (.cons (.int 0) (.cons (.glob 93461892221900862484529484) .nil)))))) .nil) .nil) (.cons (.ite (.or (.cmp .ne (.ix (.var 0) (.int 0)) (.str ⟨#[115, 101, 116]⟩)) (.cmp .ne (.blt .len (.var 0)) (.int 4))) (.cons (.ret (.bl false)) .nil) .nil) (.cons (.ite (.or (.not (.call 452907198830 (.cons (.ix (.var 0) (.int 1)) (.cons (.int 0) (.cons (.bin .sub (.var 1) (.int 1)) .nil))))) (.not (.call 452907198830 (.cons (.ix (.var 0) (.int 2)) (.cons (.int 0) (.cons (.int 1) .nil)))))) (.cons (.ret (.bl false)) .nil) .nil) (.cons (.ret (.call 7598521894259749476 (.cons (.ix (.var 0) (.int 3)) (.cons (.ix (.var 0) (.int 1)) (.cons (.var 1) .nil))))) .nil)))))⟩
/-- 0 program, 1 start, 2 rows, 3 hand, 4 row, 5 index, 6 item, 7 one -/
def F_need_program_v2 : FnI := ⟨1, 8, [false], (.cons (.ite (.or (.not (.isi (.var 0) [.tuple])) (.cmp .ne (.blt .len (.var 0)) (.int 2))) (.cons (.raise_ 313472750447771142742381 (.some .non)) .nil) .nil) (.cons (.unp [1, 2] (.var 0)) (.cons (.ite (.or (.not (.isi (.var 1) [.tuple])) (.not (.chain .le .le (.int 1) (.blt .len (.var 1)) (.glob 6125118568654498866660624581971)))) (.cons (.raise_ 313472750447771142742381 (.some .non)) .nil) .nil) (.cons (.ite (.cmp .ne (.comp (.one 7) (.seq (.var 1)) (.some (.not (.call 452907198830 (.cons (.var 7) (.cons (.int 0) (.cons (.int 1) .nil)))))) (.var 7)) (.lst .nil)) (.cons (.raise_ 313472750447771142742381 (.some .non)) .nil) .nil) (.cons (.ite (.or (.not (.isi (.var 2) [.tuple])) (.not (.chain .le .le (.int 1) (.blt .len (.var 2)) (.glob 365085516491752865678419)))) (.cons (.raise_ 313472750447771142742381 (.some .non)) .nil) .nil) (.cons (.ite (.or (.cmp .ne (.comp (.one 4) (.seq (.var 2)) (.some (.not (.isi (.var 4) [.tuple]))) (.var 4)) (.lst .nil)) (.cmp .gt (.blt .sum (.comp (.one 4) (.seq (.var 2)) .none (.blt .len (.var 4)))) (.glob 365085516491757478825299))) (.cons (.raise_ 313472750447771142742381 (.some .non)) .nil) .nil) (.cons (.for_ (.many [3, 4]) (.enum (.var 2)) (.cons (.for_ (.many [5, 6]) (.enum (.var 4)) (.cons (.ite (.not (.call 29681726182942061 (.cons (.var 6) (.cons (.blt .len (.var 1)) .nil)))) (.cons (.raise_ 313472750447771142742381 (.some (.tup (.cons (.var 3) (.cons (.var 5) .nil))))) .nil) .nil) .nil)) .nil)) .nil)))))))⟩
/-- 0 program -/
def F_first_state : FnI := ⟨1, 1, [false], (.cons (.ret (.tup (.cons (.ix (.var 0) (.int 0)) (.cons (.bin .mul (.tup (.cons (.int 0) .nil)) (.blt .len (.ix (.var 0) (.int 1)))) (.cons (.tup .nil) .nil))))) .nil)⟩
/-- 0 program, 1 state, 2 hand, 3 item, 4 stands, 5 places, 6 told, 7 one, 8 stand -/
def F_can_go : FnI := ⟨3, 9, [false, false, false], (.cons (.unp [4, 5, 6] (.var 1)) (.cons (.ite (.cmp .eq (.ix (.var 5) (.var 2)) (.blt .len (.ix (.ix (.var 0) (.int 1)) (.var 2)))) (.cons (.ret (.bl false)) .nil) .nil) (.cons (.set 3 (.ix (.ix (.ix (.var 0) (.int 1)) (.var 2)) (.ix (.var 5) (.var 2)))) (.cons (.ite (.cmp .eq (.ix (.var 3) (.int 0)) (.str ⟨#[116, 101, 108, 108]⟩)) (.cons (.ret (.bl true)) .nil) .nil) (.cons (.ite (.cmp .eq (.ix (.var 3) (.int 0)) (.str ⟨#[119, 97, 105, 116]⟩)) (.cons (.ret (.cmp .isin (.ix (.var 3) (.int 1)) (.var 6))) .nil) .nil) (.cons (.ite (.cmp .eq (.ix (.var 4) (.ix (.var 3) (.int 1))) (.ix (.var 3) (.int 2))) (.cons (.ret (.bl false)) .nil) .nil) (.cons (.ret (.cmp .eq (.comp (.many [7, 8]) (.seq (.ix (.var 3) (.int 3))) (.some (.cmp .ne (.ix (.var 4) (.var 7)) (.var 8))) (.var 7)) (.lst .nil))) .nil)))))))⟩
/-- 0 program, 1 state, 2 hand, 3 item, 4 places, 5 stands, 6 told -/
def F_gone : FnI := ⟨3, 7, [false, false, false], (.cons (.unp [5, 4, 6] (.var 1)) (.cons (.set 3 (.ix (.ix (.ix (.var 0) (.int 1)) (.var 2)) (.ix (.var 4) (.var 2)))) (.cons (.set 4 (.bin .add (.bin .add (.sl (.var 4) .none (.some (.var 2))) (.tup (.cons (.bin .add (.ix (.var 4) (.var 2)) (.int 1)) .nil))) (.sl (.var 4) (.some (.bin .add (.var 2) (.int 1))) .none))) (.cons (.ite (.cmp .eq (.ix (.var 3) (.int 0)) (.str ⟨#[115, 101, 116]⟩)) (.cons (.ret (.tup (.cons (.bin .add (.bin .add (.sl (.var 5) .none (.some (.ix (.var 3) (.int 1)))) (.tup (.cons (.ix (.var 3) (.int 2)) .nil))) (.sl (.var 5) (.some (.bin .add (.ix (.var 3) (.int 1)) (.int 1))) .none)) (.cons (.var 4) (.cons (.var 6) .nil))))) .nil) .nil) (.cons (.ite (.and (.cmp .eq (.ix (.var 3) (.int 0)) (.str ⟨#[116, 101, 108, 108]⟩)) (.cmp .notin (.ix (.var 3) (.int 1)) (.var 6))) (.cons (.ret (.tup (.cons (.var 5) (.cons (.var 4) (.cons (.blt .tuple (.blt .sorted (.bin .add (.var 6) (.tup (.cons (.ix (.var 3) (.int 1)) .nil))))) .nil))))) .nil) .nil) (.cons (.ret (.tup (.cons (.var 5) (.cons (.var 4) (.cons (.var 6) .nil))))) .nil))))))⟩
/-- 0 program, 1 state, 2 hand -/
def F_going_in : FnI := ⟨2, 3, [false, false], (.cons (.ret (.comp (.one 2) (.rng1 (.blt .len (.ix (.var 0) (.int 1)))) (.some (.call 109270114723695 (.cons (.var 0) (.cons (.var 1) (.cons (.var 2) .nil))))) (.var 2))) .nil)⟩
/-- 0 program, 1 state, 2 row -/
def F_is_end : FnI := ⟨2, 3, [false, false], (.cons (.ret (.cmp .eq (.ix (.var 1) (.int 1)) (.blt .tuple (.comp (.one 2) (.seq (.ix (.var 0) (.int 1))) .none (.blt .len (.var 2)))))) .nil)⟩
/-- 0 program, 1 value, 2 one -/
def F_is_hands : FnI := ⟨2, 3, [false, false], (.cons (.ite (.or (.not (.isi (.var 1) [.tuple])) (.cmp .gt (.blt .len (.var 1)) (.glob 365085516491757478825299))) (.cons (.ret (.bl false)) .nil) .nil) (.cons (.ret (.cmp .eq (.comp (.one 2) (.seq (.var 1)) (.some (.not (.call 452907198830 (.cons (.var 2) (.cons (.int 0) (.cons (.bin .sub (.blt .len (.ix (.var 0) (.int 1))) (.int 1)) .nil)))))) (.var 2)) (.lst .nil))) .nil))⟩
/-- 0 program, 1 weaving, 2 found, 3 hand -/
def F_line_in : FnI := ⟨2, 4, [false, true], (.cons (.own 2 (.lst (.cons (.call 123808393329597252594922597 (.cons (.var 0) .nil)) .nil))) (.cons (.forb (.one 3) 1 (.cons (.ite (.not (.call 109270114723695 (.cons (.var 0) (.cons (.ix (.bor 2) (.neg (.int 1))) (.cons (.var 3) .nil))))) (.frz [2] (.cons (.ret (.var 2)) .nil)) .nil) (.cons (.app 2 (.call 1735356005 (.cons (.var 0) (.cons (.ix (.bor 2) (.neg (.int 1))) (.cons (.var 3) .nil))))) .nil))) (.frz [2] (.cons (.ret (.var 2)) .nil))))⟩
/-- 0 program, 1 weaving, 2 found -/
def F_state_after : FnI := ⟨2, 3, [false, false], (.cons (.ex (.call 34165931398695334765290217837 (.cons (.var 0) .nil))) (.cons (.ite (.not (.call 7598521898220020851 (.cons (.var 0) (.cons (.var 1) .nil)))) (.cons (.raise_ 313472752403742450085479 (.some .non)) .nil) .nil) (.cons (.set 2 (.call 30515220352821614 (.cons (.var 0) (.cons (.var 1) .nil)))) (.cons (.ite (.cmp .le (.blt .len (.var 2)) (.blt .len (.var 1))) (.cons (.raise_ 313472752403742450085479 (.some (.bin .sub (.blt .len (.var 2)) (.int 1)))) .nil) .nil) (.cons (.ret (.ix (.var 2) (.neg (.int 1)))) .nil)))))⟩
/-- 0 program, 1 weaving -/
def F_going : FnI := ⟨2, 2, [false, false], (.cons (.ret (.blt .tuple (.call 7453291831223085422 (.cons (.var 0) (.cons (.call 139576061489085136745293170 (.cons (.var 0) (.cons (.var 1) .nil))) .nil))))) .nil)⟩
/-- 0 one, 1 other -/
def F_gcd : FnI := ⟨2, 2, [false, false], (.cons (.par [(0, 0), (1, 0)] (.cons (.blt .abs (.var 0)) (.cons (.blt .abs (.var 1)) .nil))) (.cons (.while_ (.cmp .ne (.var 1) (.int 0)) (.cons (.par [(0, 0), (1, 0)] (.cons (.var 1) (.cons (.bin .mod (.var 0) (.var 1)) .nil))) .nil)) (.cons (.ret (.var 0)) .nil)))⟩
/-- 0 numerator, 1 denominator, 2 common -/
def F_reduced : FnI := ⟨2, 3, [false, false], (.cons (.set 2 (.call 6775652 (.cons (.var 0) (.cons (.var 1) .nil)))) (.cons (.ret (.tup (.cons (.bin .fdiv (.var 0) (.var 2)) (.cons (.bin .fdiv (.var 1) (.var 2)) .nil)))) .nil))⟩
/-- 0 one, 1 other -/
def F_plus : FnI := ⟨2, 2, [false, false], (.cons (.ret (.call 32199629485598052 (.cons (.bin .add (.bin .mul (.ix (.var 0) (.int 0)) (.ix (.var 1) (.int 1))) (.bin .mul (.ix (.var 1) (.int 0)) (.ix (.var 0) (.int 1)))) (.cons (.bin .mul (.ix (.var 0) (.int 1)) (.ix (.var 1) (.int 1))) .nil)))) .nil)⟩
/-- 0 one, 1 other -/
def F_times : FnI := ⟨2, 2, [false, false], (.cons (.ret (.call 32199629485598052 (.cons (.bin .mul (.ix (.var 0) (.int 0)) (.ix (.var 1) (.int 0))) (.cons (.bin .mul (.ix (.var 0) (.int 1)) (.ix (.var 1) (.int 1))) .nil)))) .nil)⟩
/-- 0 program, 1 rows, 2 found, 3 more, 4 state, 5 some, 6 hand, 7 there, 8 part, 9 ways, 10 chance -/
def F_walked : FnI := ⟨1, 11, [false], (.cons (.ex (.call 34165931398695334765290217837 (.cons (.var 0) .nil))) (.cons (.par [(1, 0), (2, 1)] (.cons (.dct (.cons (.call 123808393329597252594922597 (.cons (.var 0) .nil)) .nil) (.cons (.tup (.cons (.int 1) (.cons (.tup (.cons (.int 1) (.cons (.int 1) .nil))) .nil))) .nil)) (.cons (.lst .nil) .nil))) (.cons (.while_ (.cmp .ne (.var 1) (.dct .nil .nil)) (.cons (.app 2 (.var 1)) (.cons (.own 3 (.dct .nil .nil)) (.cons (.for_ (.one 4) (.keys (.var 1)) (.cons (.set 5 (.call 7453291831223085422 (.cons (.var 0) (.cons (.var 4) .nil)))) (.cons (.for_ (.one 6) (.seq (.var 5)) (.cons (.set 7 (.call 1735356005 (.cons (.var 0) (.cons (.var 4) (.cons (.var 6) .nil))))) (.cons (.unp [9, 10] (.get (.bor 3) (.var 7) (.tup (.cons (.int 0) (.cons (.tup (.cons (.int 0) (.cons (.int 1) .nil))) .nil))))) (.cons (.set 8 (.call 499984983411 (.cons (.ix (.ix (.var 1) (.var 4)) (.int 1)) (.cons (.call 32199629485598052 (.cons (.int 1) (.cons (.blt .len (.var 5)) .nil))) .nil)))) (.cons (.put 3 (.var 7) (.tup (.cons (.bin .add (.var 9) (.ix (.ix (.var 1) (.var 4)) (.int 0))) (.cons (.call 1886156147 (.cons (.var 10) (.cons (.var 8) .nil))) .nil)))) .nil))))) .nil))) (.frz [3] (.cons (.set 1 (.var 3)) .nil)))))) (.frz [2] (.cons (.ret (.var 2)) .nil)))))⟩
/-- 0 program, 1 ended, 2 found, 3 rows, 4 state -/
def F_last_in : FnI := ⟨2, 5, [false, false], (.cons (.own 2 (.dct .nil .nil)) (.cons (.for_ (.one 3) (.seq (.call 131260314510692 (.cons (.var 0) .nil))) (.cons (.for_ (.one 4) (.keys (.var 3)) (.cons (.ite (.ite (.var 1) (.call 115944242638436 (.cons (.var 0) (.cons (.var 4) .nil))) (.and (.not (.call 115944242638436 (.cons (.var 0) (.cons (.var 4) .nil)))) (.cmp .eq (.call 7453291831223085422 (.cons (.var 0) (.cons (.var 4) .nil))) (.lst .nil)))) (.cons (.put 2 (.var 4) (.ix (.var 3) (.var 4))) .nil) .nil) .nil)) .nil)) (.frz [2] (.cons (.ret (.var 2)) .nil))))⟩
/-- 0 program, 1 found, 2 ways, 3 chance -/
def F_stuck_chance : FnI := ⟨1, 4, [false], (.cons (.set 1 (.tup (.cons (.int 0) (.cons (.int 1) .nil)))) (.cons (.for_ (.many [2, 3]) (.vals (.call 30506445986294126 (.cons (.var 0) (.cons (.bl false) .nil)))) (.cons (.set 1 (.call 1886156147 (.cons (.var 1) (.cons (.var 3) .nil)))) .nil)) (.cons (.ret (.var 1)) .nil)))⟩
/-- 0 self, 1 text -/
def F_Reader___init__ : FnI := ⟨2, 2, [false, false], (.cons (.setf 90595379144050 (.var 0) ⟨#[116, 101, 120, 116]⟩ (.var 1)) (.cons (.setf 90595379144050 (.var 0) ⟨#[97, 116]⟩ (.int 0)) (.cons (.setf 90595379144050 (.var 0) ⟨#[109, 97, 110, 121]⟩ (.int 0)) (.cons (.setf 90595379144050 (.var 0) ⟨#[114, 101, 97, 100]⟩ (.int 0)) .nil))))⟩
/-- 0 self -/
def F_Reader_sign : FnI := ⟨1, 1, [false], (.cons (.ret (.sl (.attr 90595379144050 (.var 0) ⟨#[116, 101, 120, 116]⟩) (.some (.attr 90595379144050 (.var 0) ⟨#[97, 116]⟩)) (.some (.bin .add (.attr 90595379144050 (.var 0) ⟨#[97, 116]⟩) (.int 1))))) .nil)⟩
/-- 0 self -/
def F_Reader_skip : FnI := ⟨1, 1, [false], (.cons (.while_ (.cmp .eq (.mcall 90595379144050 99610672791658496589916014 ⟨#[115, 105, 103, 110]⟩ (.var 0) .nil) (.str ⟨#[32]⟩)) (.cons (.augf 90595379144050 (.var 0) ⟨#[97, 116]⟩ .add (.int 1)) .nil)) .nil)⟩
/-- 0 self, 1 found -/
def F_Reader_begin_v2 : FnI := ⟨1, 2, [false], (.cons (.own 1 (.lst .nil)) (.cons (.while_ (.and (.cmp .ne (.mcall 90595379144050 99610672791658496589916014 ⟨#[115, 105, 103, 110]⟩ (.var 0) .nil) (.str ⟨#[]⟩)) (.and (.cmp .isin (.mcall 90595379144050 99610672791658496589916014 ⟨#[115, 105, 103, 110]⟩ (.var 0) .nil) (.str ⟨#[48, 49]⟩)) (.cmp .lt (.blt .len (.bor 1)) (.glob 6125118568654498866660624581971)))) (.cons (.app 1 (.blt .int (.mcall 90595379144050 99610672791658496589916014 ⟨#[115, 105, 103, 110]⟩ (.var 0) .nil))) (.cons (.augf 90595379144050 (.var 0) ⟨#[97, 116]⟩ .add (.int 1)) .nil))) (.cons (.setf 90595379144050 (.var 0) ⟨#[109, 97, 110, 121]⟩ (.blt .len (.bor 1))) (.cons (.ite (.cmp .eq (.bor 1) (.lst .nil)) (.cons (.raise_ 88773228880886087251490932 (.some (.attr 90595379144050 (.var 0) ⟨#[97, 116]⟩))) .nil) .nil) (.cons (.ex (.mcall 90595379144050 99610672791658496590047600 ⟨#[115, 107, 105, 112]⟩ (.var 0) .nil)) (.cons (.ret (.blt .tuple (.bor 1))) .nil))))))⟩
/-- 0 self, 1 last, 2 own, 3 switch -/
def F_Reader_stand_v2 : FnI := ⟨3, 4, [false, false, false], (.cons (.ite (.or (.cmp .eq (.mcall 90595379144050 99610672791658496589916014 ⟨#[115, 105, 103, 110]⟩ (.var 0) .nil) (.str ⟨#[]⟩)) (.cmp .notin (.mcall 90595379144050 99610672791658496589916014 ⟨#[115, 105, 103, 110]⟩ (.var 0) .nil) (.glob 75081519289427))) (.cons (.raise_ 88773228880886087251490932 (.some (.attr 90595379144050 (.var 0) ⟨#[97, 116]⟩))) .nil) .nil) (.cons (.set 3 (.blt .int (.mcall 90595379144050 99610672791658496589916014 ⟨#[115, 105, 103, 110]⟩ (.var 0) .nil))) (.cons (.ite (.or (.not (.chain .lt .lt (.var 1) (.var 3) (.attr 90595379144050 (.var 0) ⟨#[109, 97, 110, 121]⟩))) (.cmp .eq (.var 3) (.var 2))) (.cons (.raise_ 88773228880886087251490932 (.some (.attr 90595379144050 (.var 0) ⟨#[97, 116]⟩))) .nil) .nil) (.cons (.augf 90595379144050 (.var 0) ⟨#[97, 116]⟩ .add (.int 1)) (.cons (.ite (.cmp .notin (.mcall 90595379144050 99610672791658496589916014 ⟨#[115, 105, 103, 110]⟩ (.var 0) .nil) (.tup (.cons (.str ⟨#[43]⟩) (.cons (.str ⟨#[45]⟩) .nil)))) (.cons (.raise_ 88773228880886087251490932 (.some (.attr 90595379144050 (.var 0) ⟨#[97, 116]⟩))) .nil) .nil) (.cons (.augf 90595379144050 (.var 0) ⟨#[97, 116]⟩ .add (.int 1)) (.cons (.ret (.tup (.cons (.var 3) (.cons (.ite (.cmp .eq (.ix (.attr 90595379144050 (.var 0) ⟨#[116, 101, 120, 116]⟩) (.bin .sub (.attr 90595379144050 (.var 0) ⟨#[97, 116]⟩) (.int 1))) (.str ⟨#[43]⟩)) (.int 1) (.int 0)) .nil)))) .nil)))))))⟩
/-- 0 self, 1 own, 2 found -/
def F_Reader_guard_v2 : FnI := ⟨2, 3, [false, false], (.cons (.own 2 (.lst .nil)) (.cons (.augf 90595379144050 (.var 0) ⟨#[97, 116]⟩ .add (.int 1)) (.cons (.ex (.mcall 90595379144050 99610672791658496590047600 ⟨#[115, 107, 105, 112]⟩ (.var 0) .nil)) (.cons (.while_ (.or (.cmp .ne (.mcall 90595379144050 99610672791658496589916014 ⟨#[115, 105, 103, 110]⟩ (.var 0) .nil) (.str ⟨#[93]⟩)) (.cmp .eq (.bor 2) (.lst .nil))) (.cons (.app 2 (.mcall 90595379144050 25500332234664575127202655844 ⟨#[115, 116, 97, 110, 100]⟩ (.var 0) (.cons (.ite (.cmp .ne (.bor 2) (.lst .nil)) (.ix (.ix (.bor 2) (.neg (.int 1))) (.int 0)) (.neg (.int 1))) (.cons (.var 1) .nil)))) (.cons (.ite (.cmp .notin (.mcall 90595379144050 99610672791658496589916014 ⟨#[115, 105, 103, 110]⟩ (.var 0) .nil) (.tup (.cons (.str ⟨#[32]⟩) (.cons (.str ⟨#[93]⟩) .nil)))) (.cons (.raise_ 88773228880886087251490932 (.some (.attr 90595379144050 (.var 0) ⟨#[97, 116]⟩))) .nil) .nil) (.cons (.ex (.mcall 90595379144050 99610672791658496590047600 ⟨#[115, 107, 105, 112]⟩ (.var 0) .nil)) .nil)))) (.cons (.augf 90595379144050 (.var 0) ⟨#[97, 116]⟩ .add (.int 1)) (.cons (.ret (.blt .tuple (.bor 2))) .nil))))))⟩
/-- 0 self, 1 start, 2 found -/
def F_Reader_signal_v2 : FnI := ⟨1, 3, [false], (.cons (.set 1 (.attr 90595379144050 (.var 0) ⟨#[97, 116]⟩)) (.cons (.ite (.or (.cmp .eq (.mcall 90595379144050 99610672791658496589916014 ⟨#[115, 105, 103, 110]⟩ (.var 0) .nil) (.str ⟨#[]⟩)) (.cmp .notin (.mcall 90595379144050 99610672791658496589916014 ⟨#[115, 105, 103, 110]⟩ (.var 0) .nil) (.glob 75081519289427))) (.cons (.raise_ 88773228880886087251490932 (.some (.attr 90595379144050 (.var 0) ⟨#[97, 116]⟩))) .nil) .nil) (.cons (.set 2 (.int 0)) (.cons (.while_ (.and (.cmp .ne (.mcall 90595379144050 99610672791658496589916014 ⟨#[115, 105, 103, 110]⟩ (.var 0) .nil) (.str ⟨#[]⟩)) (.cmp .isin (.mcall 90595379144050 99610672791658496589916014 ⟨#[115, 105, 103, 110]⟩ (.var 0) .nil) (.glob 75081519289427))) (.cons (.ite (.or (.and (.cmp .gt (.attr 90595379144050 (.var 0) ⟨#[97, 116]⟩) (.var 1)) (.cmp .eq (.var 2) (.int 0))) (.cmp .gt (.bin .add (.bin .mul (.int 10) (.var 2)) (.blt .int (.mcall 90595379144050 99610672791658496589916014 ⟨#[115, 105, 103, 110]⟩ (.var 0) .nil))) (.glob 93461892221900862484529484))) (.cons (.raise_ 88773228880886087251490932 (.some (.attr 90595379144050 (.var 0) ⟨#[97, 116]⟩))) .nil) .nil) (.cons (.set 2 (.bin .add (.bin .mul (.int 10) (.var 2)) (.blt .int (.mcall 90595379144050 99610672791658496589916014 ⟨#[115, 105, 103, 110]⟩ (.var 0) .nil)))) (.cons (.augf 90595379144050 (.var 0) ⟨#[97, 116]⟩ .add (.int 1)) .nil)))) (.cons (.ret (.var 2)) .nil)))))⟩
/-- 0 self, 1 kind, 2 found, 3 switch, 4 stand -/
def F_Reader_item_v2 : FnI := ⟨1, 5, [false], (.cons (.ite (.cmp .eq (.attr 90595379144050 (.var 0) ⟨#[114, 101, 97, 100]⟩) (.glob 365085516491757478825299)) (.cons (.raise_ 88773228880886087251490932 (.some (.attr 90595379144050 (.var 0) ⟨#[97, 116]⟩))) .nil) .nil) (.cons (.augf 90595379144050 (.var 0) ⟨#[114, 101, 97, 100]⟩ .add (.int 1)) (.cons (.ite (.cmp .isin (.mcall 90595379144050 99610672791658496589916014 ⟨#[115, 105, 103, 110]⟩ (.var 0) .nil) (.tup (.cons (.str ⟨#[33]⟩) (.cons (.str ⟨#[63]⟩) .nil)))) (.cons (.set 1 (.ite (.cmp .eq (.mcall 90595379144050 99610672791658496589916014 ⟨#[115, 105, 103, 110]⟩ (.var 0) .nil) (.str ⟨#[33]⟩)) (.str ⟨#[116, 101, 108, 108]⟩) (.str ⟨#[119, 97, 105, 116]⟩))) (.cons (.augf 90595379144050 (.var 0) ⟨#[97, 116]⟩ .add (.int 1)) (.cons (.set 2 (.tup (.cons (.var 1) (.cons (.mcall 90595379144050 6528085052074131232516735918444 ⟨#[115, 105, 103, 110, 97, 108]⟩ (.var 0) .nil) .nil)))) .nil))) (.cons (.unp [3, 4] (.mcall 90595379144050 25500332234664575127202655844 ⟨#[115, 116, 97, 110, 100]⟩ (.var 0) (.cons (.neg (.int 1)) (.cons (.neg (.int 1)) .nil)))) (.cons (.set 2 (.tup (.cons (.str ⟨#[115, 101, 116]⟩) (.cons (.var 3) (.cons (.var 4) (.cons (.ite (.cmp .eq (.mcall 90595379144050 99610672791658496589916014 ⟨#[115, 105, 103, 110]⟩ (.var 0) .nil) (.str ⟨#[91]⟩)) (.mcall 90595379144050 25500332234664575075679826532 ⟨#[103, 117, 97, 114, 100]⟩ (.var 0) (.cons (.var 3) .nil)) (.tup .nil)) .nil)))))) .nil))) (.cons (.ite (.cmp .notin (.mcall 90595379144050 99610672791658496589916014 ⟨#[115, 105, 103, 110]⟩ (.var 0) .nil) (.tup (.cons (.str ⟨#[]⟩) (.cons (.str ⟨#[32]⟩) (.cons (.str ⟨#[124]⟩) .nil))))) (.cons (.raise_ 88773228880886087251490932 (.some (.attr 90595379144050 (.var 0) ⟨#[97, 116]⟩))) .nil) .nil) (.cons (.ret (.var 2)) .nil)))))⟩
/-- 0 self, 1 found -/
def F_Reader_row : FnI := ⟨1, 2, [false], (.cons (.own 1 (.lst .nil)) (.cons (.ex (.mcall 90595379144050 99610672791658496590047600 ⟨#[115, 107, 105, 112]⟩ (.var 0) .nil)) (.cons (.while_ (.cmp .notin (.mcall 90595379144050 99610672791658496589916014 ⟨#[115, 105, 103, 110]⟩ (.var 0) .nil) (.tup (.cons (.str ⟨#[]⟩) (.cons (.str ⟨#[124]⟩) .nil)))) (.cons (.app 1 (.mcall 90595379144050 99610672791658496422864237 ⟨#[105, 116, 101, 109]⟩ (.var 0) .nil)) (.cons (.ex (.mcall 90595379144050 99610672791658496590047600 ⟨#[115, 107, 105, 112]⟩ (.var 0) .nil)) .nil))) (.cons (.ret (.blt .tuple (.bor 1))) .nil))))⟩
/-- 0 text, 1 reader, 2 start, 3 rows -/
def F_read_program_v2 : FnI := ⟨1, 4, [false], (.cons (.ite (.not (.isi (.var 0) [.str])) (.cons (.raise_ 22077593606256756 .none) .nil) .nil) (.cons (.set 1 (.make 90595379144050 427824581972730263010252373783502687 (.cons (.var 0) .nil))) (.cons (.ex (.mcall 90595379144050 99610672791658496590047600 ⟨#[115, 107, 105, 112]⟩ (.var 1) .nil)) (.cons (.par [(2, 0), (3, 1)] (.cons (.mcall 90595379144050 25500332234664575053936945518 ⟨#[98, 101, 103, 105, 110]⟩ (.var 1) .nil) (.cons (.lst .nil) .nil))) (.cons (.ite (.cmp .ne (.mcall 90595379144050 99610672791658496589916014 ⟨#[115, 105, 103, 110]⟩ (.var 1) .nil) (.str ⟨#[124]⟩)) (.cons (.raise_ 88773228880886087251490932 (.some (.attr 90595379144050 (.var 1) ⟨#[97, 116]⟩))) .nil) .nil) (.cons (.while_ (.cmp .eq (.mcall 90595379144050 99610672791658496589916014 ⟨#[115, 105, 103, 110]⟩ (.var 1) .nil) (.str ⟨#[124]⟩)) (.cons (.ite (.cmp .eq (.blt .len (.bor 3)) (.glob 365085516491752865678419)) (.cons (.raise_ 88773228880886087251490932 (.some (.attr 90595379144050 (.var 1) ⟨#[97, 116]⟩))) .nil) .nil) (.cons (.augf 90595379144050 (.var 1) ⟨#[97, 116]⟩ .add (.int 1)) (.cons (.app 3 (.mcall 90595379144050 389104190592416002240375 ⟨#[114, 111, 119]⟩ (.var 1) .nil)) .nil)))) (.cons (.ret (.tup (.cons (.var 2) (.cons (.blt .tuple (.bor 3)) .nil)))) .nil)))))))⟩
/-- 0 program, 1 found, 2 hand, 3 row, 4 index -/
def F_all_items : FnI := ⟨1, 5, [false], (.cons (.set 1 (.lst .nil)) (.cons (.for_ (.many [2, 3]) (.enum (.ix (.var 0) (.int 1))) (.cons (.set 1 (.bin .add (.var 1) (.comp (.one 4) (.rng1 (.blt .len (.var 3))) .none (.tup (.cons (.var 2) (.cons (.var 4) .nil)))))) .nil)) (.cons (.ret (.var 1)) .nil)))⟩
/-- 0 program, 1 name -/
def F_item_at : FnI := ⟨2, 2, [false, false], (.cons (.ret (.ix (.ix (.ix (.var 0) (.int 1)) (.ix (.var 1) (.int 0))) (.ix (.var 1) (.int 1)))) .nil)⟩
/-- 0 program, 1 switch, 2 found, 3 name, 4 item -/
def F_deeds_on : FnI := ⟨2, 5, [false, false], (.cons (.own 2 (.lst .nil)) (.cons (.for_ (.one 3) (.seq (.call 1797146899509936483699 (.cons (.var 0) .nil))) (.cons (.set 4 (.call 29682851530105204 (.cons (.var 0) (.cons (.var 3) .nil)))) (.cons (.ite (.and (.cmp .eq (.ix (.var 4) (.int 0)) (.str ⟨#[115, 101, 116]⟩)) (.cmp .eq (.ix (.var 4) (.int 1)) (.var 1))) (.cons (.app 2 (.tup (.cons (.var 3) (.cons (.ix (.var 4) (.int 2)) .nil)))) .nil) .nil) .nil))) (.frz [2] (.cons (.ret (.var 2)) .nil))))⟩
/-- 0 program, 1 kind, 2 name -/
def F_signals_of : FnI := ⟨2, 3, [false, false], (.cons (.ret (.comp (.one 2) (.seq (.call 1797146899509936483699 (.cons (.var 0) .nil))) (.some (.cmp .eq (.ix (.call 29682851530105204 (.cons (.var 0) (.cons (.var 2) .nil))) (.int 0)) (.var 1))) (.ix (.call 29682851530105204 (.cons (.var 0) (.cons (.var 2) .nil))) (.int 1)))) .nil)⟩
/-- 0 program, 1 name, 2 item, 3 stands, 4 switch, 5 stand, 6 other, 7 one -/
def F_is_bent : FnI := ⟨2, 8, [false, false], (.cons (.set 2 (.call 29682851530105204 (.cons (.var 0) (.cons (.var 1) .nil)))) (.cons (.ite (.cmp .eq (.ix (.var 2) (.int 0)) (.str ⟨#[116, 101, 108, 108]⟩)) (.cons (.ret (.cmp .gt (.cnt (.call 545016506659300467240806 (.cons (.var 0) (.cons (.str ⟨#[116, 101, 108, 108]⟩) .nil))) (.ix (.var 2) (.int 1))) (.int 1))) .nil) .nil) (.cons (.ite (.cmp .eq (.ix (.var 2) (.int 0)) (.str ⟨#[119, 97, 105, 116]⟩)) (.cons (.ret (.cmp .ne (.cnt (.call 545016506659300467240806 (.cons (.var 0) (.cons (.str ⟨#[116, 101, 108, 108]⟩) .nil))) (.ix (.var 2) (.int 1))) (.int 1))) .nil) .nil) (.cons (.set 3 (.comp (.many [6, 5]) (.seq (.call 7234299858547339118 (.cons (.var 0) (.cons (.ix (.var 2) (.int 1)) .nil)))) .none (.var 5))) (.cons (.ite (.or (.cmp .gt (.cnt (.var 3) (.ix (.var 2) (.int 2))) (.int 1)) (.and (.cmp .eq (.ix (.var 2) (.int 2)) (.ix (.ix (.var 0) (.int 0)) (.ix (.var 2) (.int 1)))) (.cmp .notin (.bin .sub (.int 1) (.ix (.var 2) (.int 2))) (.var 3)))) (.cons (.ret (.bl true)) .nil) .nil) (.cons (.for_ (.many [4, 5]) (.seq (.ix (.var 2) (.int 3))) (.cons (.ite (.and (.cmp .eq (.var 5) (.ix (.ix (.var 0) (.int 0)) (.var 4))) (.cmp .isin (.var 5) (.comp (.many [6, 7]) (.seq (.call 7234299858547339118 (.cons (.var 0) (.cons (.var 4) .nil)))) .none (.var 7)))) (.cons (.ret (.bl true)) .nil) .nil) .nil)) (.cons (.ret (.bl false)) .nil)))))))⟩
/-- 0 program, 1 found, 2 name -/
def F_bent : FnI := ⟨1, 3, [false], (.cons (.ex (.call 34165931398695334765290217837 (.cons (.var 0) .nil))) (.cons (.set 1 (.comp (.one 2) (.seq (.call 1797146899509936483699 (.cons (.var 0) .nil))) (.some (.call 29681726064520820 (.cons (.var 0) (.cons (.var 2) .nil)))) (.var 2))) (.cons (.ret (.ite (.cmp .ne (.var 1) (.lst .nil)) (.ix (.var 1) (.int 0)) .non)) .nil)))⟩
/-- 0 program -/
def F_is_straight : FnI := ⟨1, 1, [false], (.cons (.ret (.isn (.call 1650814580 (.cons (.var 0) .nil)))) .nil)⟩
/-- 0 program -/
def F_need_straight_v2 : FnI := ⟨1, 1, [false], (.cons (.ite (.notn (.call 1650814580 (.cons (.var 0) .nil))) (.cons (.raise_ 94822542445409321706023028 .none) .nil) .nil) .nil)⟩
/-- 0 program, 1 switch, 2 stand, 3 found, 4 name, 5 there -/
def F_change : FnI := ⟨3, 6, [false, false, false], (.cons (.set 3 (.comp (.many [4, 5]) (.seq (.call 7234299858547339118 (.cons (.var 0) (.cons (.var 1) .nil)))) (.some (.cmp .eq (.var 5) (.var 2))) (.var 4))) (.cons (.ret (.ite (.cmp .ne (.var 3) (.lst .nil)) (.ix (.var 3) (.int 0)) .non)) .nil))⟩
/-- 0 program, 1 name, 2 found, 3 switch, 4 stand, 5 maker, 6 taker -/
def F_guard_befores : FnI := ⟨2, 7, [false, false], (.cons (.own 2 (.lst .nil)) (.cons (.for_ (.many [3, 4]) (.seq (.ix (.call 29682851530105204 (.cons (.var 0) (.cons (.var 1) .nil))) (.int 3))) (.cons (.par [(5, 0), (6, 0)] (.cons (.call 109299962373989 (.cons (.var 0) (.cons (.var 3) (.cons (.var 4) .nil)))) (.cons (.call 109299962373989 (.cons (.var 0) (.cons (.var 3) (.cons (.bin .sub (.int 1) (.var 4)) .nil)))) .nil))) (.cons (.ite (.and (.cmp .ne (.var 4) (.ix (.ix (.var 0) (.int 0)) (.var 3))) (.notn (.var 5))) (.cons (.app 2 (.tup (.cons (.var 5) (.cons (.var 1) (.cons (.str ⟨#[103, 117, 97, 114, 100]⟩) .nil))))) .nil) .nil) (.cons (.ite (.and (.notn (.var 6)) (.or (.cmp .eq (.var 4) (.ix (.ix (.var 0) (.int 0)) (.var 3))) (.notn (.var 5)))) (.cons (.app 2 (.tup (.cons (.var 1) (.cons (.var 6) (.cons (.str ⟨#[98, 97, 114]⟩) .nil))))) .nil) .nil) .nil)))) (.frz [2] (.cons (.ret (.var 2)) .nil))))⟩
/-- 0 program, 1 found, 2 name, 3 item, 4 other -/
def F_befores_in : FnI := ⟨1, 5, [false], (.cons (.own 1 (.lst .nil)) (.cons (.for_ (.one 2) (.seq (.call 1797146899509936483699 (.cons (.var 0) .nil))) (.cons (.set 3 (.call 29682851530105204 (.cons (.var 0) (.cons (.var 2) .nil)))) (.cons (.ite (.cmp .gt (.ix (.var 2) (.int 1)) (.int 0)) (.cons (.app 1 (.tup (.cons (.tup (.cons (.ix (.var 2) (.int 0)) (.cons (.bin .sub (.ix (.var 2) (.int 1)) (.int 1)) .nil))) (.cons (.var 2) (.cons (.str ⟨#[114, 111, 119]⟩) .nil))))) .nil) .nil) (.cons (.ite (.cmp .eq (.ix (.var 3) (.int 0)) (.str ⟨#[119, 97, 105, 116]⟩)) (.cons (.for_ (.one 4) (.seq (.call 1797146899509936483699 (.cons (.var 0) .nil))) (.cons (.ite (.cmp .eq (.call 29682851530105204 (.cons (.var 0) (.cons (.var 4) .nil))) (.tup (.cons (.str ⟨#[116, 101, 108, 108]⟩) (.cons (.ix (.var 3) (.int 1)) .nil)))) (.cons (.app 1 (.tup (.cons (.var 4) (.cons (.var 2) (.cons (.str ⟨#[115, 105, 103, 110, 97, 108]⟩) .nil))))) .nil) .nil) .nil)) .nil) .nil) (.cons (.ite (.cmp .eq (.ix (.var 3) (.int 0)) (.str ⟨#[115, 101, 116]⟩)) (.cons (.ite (.cmp .eq (.ix (.var 3) (.int 2)) (.ix (.ix (.var 0) (.int 0)) (.ix (.var 3) (.int 1)))) (.cons (.app 1 (.tup (.cons (.call 109299962373989 (.cons (.var 0) (.cons (.ix (.var 3) (.int 1)) (.cons (.bin .sub (.int 1) (.ix (.var 3) (.int 2))) .nil)))) (.cons (.var 2) (.cons (.str ⟨#[116, 117, 114, 110]⟩) .nil))))) .nil) .nil) (.cons (.own 1 (.bin .add (.bor 1) (.call 8196828291124153386188233926003 (.cons (.var 0) (.cons (.var 2) .nil))))) .nil)) .nil) .nil))))) (.cons (.ret (.blt .sorted (.bor 1))) .nil)))⟩
/-- 0 program -/
def F_befores : FnI := ⟨1, 1, [false], (.cons (.ex (.call 8746478438066222438918977448052 (.cons (.var 0) .nil))) (.cons (.ret (.blt .tuple (.call 464662417716764232083822 (.cons (.var 0) .nil)))) .nil))⟩
/-- 0 program, 1 found, 2 name, 3 item, 4 lacks, 5 switch, 6 stand -/
def F_hopeless_in : FnI := ⟨1, 7, [false], (.cons (.own 1 (.lst .nil)) (.cons (.for_ (.one 2) (.seq (.call 1797146899509936483699 (.cons (.var 0) .nil))) (.cons (.set 3 (.call 29682851530105204 (.cons (.var 0) (.cons (.var 2) .nil)))) (.cons (.ite (.cmp .eq (.ix (.var 3) (.int 0)) (.str ⟨#[115, 101, 116]⟩)) (.cons (.set 4 (.comp (.many [5, 6]) (.seq (.ix (.var 3) (.int 3))) (.some (.cmp .ne (.var 6) (.ix (.ix (.var 0) (.int 0)) (.var 5)))) (.var 5))) (.cons (.ite (.cmp .ne (.comp (.one 5) (.seq (.var 4)) (.some (.isn (.call 109299962373989 (.cons (.var 0) (.cons (.var 5) (.cons (.bin .sub (.int 1) (.ix (.ix (.var 0) (.int 0)) (.var 5))) .nil)))))) (.var 5)) (.lst .nil)) (.cons (.app 1 (.var 2)) .nil) .nil) .nil)) .nil) .nil))) (.frz [1] (.cons (.ret (.var 1)) .nil))))⟩
/-- 0 program, 1 pairs, 2 line, 3 left, 4 going, 5 ends, 6 ahead, 7 one, 8 other, 9 sort, 10 name -/
def F_ring_in : FnI := ⟨1, 11, [false], (.cons (.set 1 (.comp (.many [7, 8, 9]) (.seq (.call 464662417716764232083822 (.cons (.var 0) .nil))) .none (.tup (.cons (.var 7) (.cons (.var 8) .nil))))) (.cons (.par [(3, 0), (4, 0)] (.cons (.call 1797146899509936483699 (.cons (.var 0) .nil)) (.cons (.bl true) .nil))) (.cons (.while_ (.var 4) (.cons (.set 5 (.comp (.one 10) (.seq (.var 3)) (.some (.cmp .eq (.comp (.many [7, 8]) (.seq (.var 1)) (.some (.and (.cmp .eq (.var 8) (.var 10)) (.cmp .isin (.var 7) (.var 3)))) (.var 7)) (.lst .nil))) (.var 10))) (.cons (.set 3 (.comp (.one 10) (.seq (.var 3)) (.some (.cmp .notin (.var 10) (.var 5))) (.var 10))) (.cons (.set 4 (.cmp .ne (.var 5) (.lst .nil))) .nil)))) (.cons (.ite (.cmp .eq (.var 3) (.lst .nil)) (.cons (.ret .non) .nil) .nil) (.cons (.own 2 (.lst (.cons (.ix (.var 3) (.int 0)) .nil))) (.cons (.while_ (.bl true) (.cons (.set 6 (.ix (.comp (.many [7, 8]) (.seq (.var 1)) (.some (.and (.cmp .eq (.var 8) (.ix (.bor 2) (.neg (.int 1)))) (.cmp .isin (.var 7) (.var 3)))) (.var 7)) (.int 0))) (.cons (.ite (.cmp .isin (.var 6) (.bor 2)) (.cons (.ret (.blt .tuple (.rev (.sl (.bor 2) (.some (.idx (.bor 2) (.var 6))) .none)))) .nil) .nil) (.cons (.app 2 (.var 6)) .nil)))) .nil))))))⟩
/-- 0 program -/
def F_ends_in : FnI := ⟨1, 1, [false], (.cons (.ret (.and (.cmp .eq (.call 126254541263184062104693102 (.cons (.var 0) .nil)) (.lst .nil)) (.isn (.call 32204070246639982 (.cons (.var 0) .nil))))) .nil)⟩
/-- 0 program -/
def F_can_end : FnI := ⟨1, 1, [false], (.cons (.ex (.call 8746478438066222438918977448052 (.cons (.var 0) .nil))) (.cons (.ret (.call 28550350359193966 (.cons (.var 0) .nil))) .nil))⟩
/-- 0 program, 1 pairs, 2 done, 3 found, 4 hand, 5 row, 6 name, 7 one, 8 other, 9 sort -/
def F_least_ending : FnI := ⟨1, 10, [false], (.cons (.par [(1, 0), (2, 1), (3, 1)] (.cons (.comp (.many [7, 8, 9]) (.seq (.call 464662417716764232083822 (.cons (.var 0) .nil))) .none (.tup (.cons (.var 7) (.cons (.var 8) .nil)))) (.cons (.lst .nil) (.cons (.lst .nil) .nil)))) (.cons (.while_ (.cmp .lt (.blt .len (.bor 2)) (.blt .len (.call 1797146899509936483699 (.cons (.var 0) .nil)))) (.cons (.for_ (.many [4, 5]) (.enum (.ix (.var 0) (.int 1))) (.cons (.set 6 (.tup (.cons (.var 4) (.cons (.cnt (.bor 3) (.var 4)) .nil)))) (.cons (.ite (.and (.cmp .lt (.ix (.var 6) (.int 1)) (.blt .len (.var 5))) (.cmp .eq (.comp (.many [7, 8]) (.seq (.var 1)) (.some (.and (.cmp .eq (.var 8) (.var 6)) (.cmp .notin (.var 7) (.bor 2)))) (.var 7)) (.lst .nil))) (.cons (.app 2 (.var 6)) (.cons (.app 3 (.var 4)) (.cons .brk .nil))) .nil) .nil))) .nil)) (.cons (.ret (.blt .tuple (.bor 3))) .nil)))⟩
/-- 0 program -/
def F_ending : FnI := ⟨1, 1, [false], (.cons (.ex (.call 8746478438066222438918977448052 (.cons (.var 0) .nil))) (.cons (.ret (.ite (.call 28550350359193966 (.cons (.var 0) .nil)) (.call 33546942767796284357098434151 (.cons (.var 0) .nil)) .non)) .nil))⟩
/-- 0 program, 1 name -/
def F_need_item_v2 : FnI := ⟨2, 2, [false, false], (.cons (.ite (.or (.not (.isi (.var 1) [.tuple])) (.or (.cmp .ne (.blt .len (.var 1)) (.int 2)) (.not (.call 452907198830 (.cons (.ix (.var 1) (.int 0)) (.cons (.int 0) (.cons (.bin .sub (.blt .len (.ix (.var 0) (.int 1))) (.int 1)) .nil))))))) (.cons (.raise_ 18684431819892077 .none) .nil) .nil) (.cons (.ite (.not (.call 452907198830 (.cons (.ix (.var 1) (.int 1)) (.cons (.int 0) (.cons (.bin .sub (.blt .len (.ix (.ix (.var 0) (.int 1)) (.ix (.var 1) (.int 0)))) (.int 1)) .nil))))) (.cons (.raise_ 18684431819892077 .none) .nil) .nil) .nil))⟩
/-- 0 program -/
def F_need_ending_v2 : FnI := ⟨1, 1, [false], (.cons (.ex (.call 8746478438066222438918977448052 (.cons (.var 0) .nil))) (.cons (.ite (.not (.call 28550350359193966 (.cons (.var 0) .nil))) (.cons (.raise_ 1446157180335893144691 .none) .nil) .nil) .nil))⟩
/-- 0 program, 1 name, 2 moved, 3 names, 4 ahead, 5 more, 6 one, 7 other, 8 sort, 9 far -/
def F_closed : FnI := ⟨1, 10, [false], (.cons (.par [(3, 0), (4, 1)] (.cons (.call 1797146899509936483699 (.cons (.var 0) .nil)) (.cons (.dct .nil .nil) .nil))) (.cons (.for_ (.one 1) (.seq (.var 3)) (.cons (.put 4 (.var 1) (.comp (.many [6, 7, 8]) (.seq (.call 464662417716764232083822 (.cons (.var 0) .nil))) (.some (.cmp .eq (.var 7) (.var 1))) (.var 6))) .nil)) (.cons (.set 2 (.bl true)) (.cons (.while_ (.var 2) (.cons (.set 2 (.bl false)) (.cons (.for_ (.one 1) (.seq (.var 3)) (.cons (.set 5 (.lst .nil)) (.cons (.for_ (.one 6) (.seq (.ix (.bor 4) (.var 1))) (.cons (.set 5 (.bin .add (.var 5) (.comp (.one 9) (.seq (.ix (.bor 4) (.var 6))) (.some (.cmp .notin (.var 9) (.ix (.bor 4) (.var 1)))) (.var 9)))) .nil)) (.cons (.ite (.cmp .ne (.var 5) (.lst .nil)) (.cons (.putset 4 (.var 1) (.blt .sortedSet (.bin .add (.ix (.bor 4) (.var 1)) (.var 5))) 2 (.bl true)) .nil) .nil) .nil)))) .nil))) (.cons (.ret (.blt .dict (.comp (.one 1) (.seq (.var 3)) .none (.tup (.cons (.var 1) (.cons (.blt .sortedSet (.ix (.bor 4) (.var 1))) .nil)))))) .nil)))))⟩
/-- 0 program, 1 one, 2 other -/
def F_is_before : FnI := ⟨3, 3, [false, false, false], (.cons (.ex (.call 133460669526141539434720871 (.cons (.var 0) .nil))) (.cons (.ex (.call 2036448204439483082093 (.cons (.var 0) (.cons (.var 1) .nil)))) (.cons (.ex (.call 2036448204439483082093 (.cons (.var 0) (.cons (.var 2) .nil)))) (.cons (.ret (.cmp .isin (.var 1) (.ix (.call 109317377451364 (.cons (.var 0) .nil)) (.var 2)))) .nil))))⟩
/-- 0 program, 1 other, 2 ahead, 3 found, 4 one, 5 name -/
def F_steps_in : FnI := ⟨1, 6, [false], (.cons (.par [(2, 0), (3, 1)] (.cons (.call 109317377451364 (.cons (.var 0) .nil)) (.cons (.lst .nil) .nil))) (.cons (.for_ (.one 1) (.seq (.call 1797146899509936483699 (.cons (.var 0) .nil))) (.cons (.for_ (.one 4) (.seq (.ix (.var 2) (.var 1))) (.cons (.ite (.cmp .eq (.comp (.one 5) (.seq (.ix (.var 2) (.var 1))) (.some (.cmp .isin (.var 4) (.ix (.var 2) (.var 5)))) (.var 5)) (.lst .nil)) (.cons (.app 3 (.tup (.cons (.var 4) (.cons (.var 1) .nil)))) .nil) .nil) .nil)) .nil)) (.cons (.ret (.blt .sorted (.bor 3))) .nil)))⟩
/-- 0 program, 1 waited, 2 step, 3 one, 4 other, 5 sort -/
def F_loose_in : FnI := ⟨1, 6, [false], (.cons (.set 1 (.comp (.many [3, 4, 5]) (.seq (.call 464662417716764232083822 (.cons (.var 0) .nil))) (.some (.cmp .ne (.var 5) (.str ⟨#[98, 97, 114]⟩))) (.tup (.cons (.var 3) (.cons (.var 4) .nil))))) (.cons (.ret (.comp (.one 2) (.seq (.call 8319385945306524014 (.cons (.var 0) .nil))) (.some (.cmp .notin (.var 2) (.var 1))) (.var 2))) .nil))⟩
/-- 0 program, 1 names, 2 ahead, 3 done, 4 found, 5 fits, 6 name, 7 one -/
def F_order_of : FnI := ⟨2, 8, [false, false], (.cons (.par [(2, 0), (3, 1), (4, 1)] (.cons (.call 109317377451364 (.cons (.var 0) .nil)) (.cons (.lst .nil) (.cons (.lst .nil) .nil)))) (.cons (.while_ (.cmp .lt (.blt .len (.bor 3)) (.blt .len (.var 1))) (.cons (.set 5 (.comp (.one 6) (.seq (.var 1)) (.some (.and (.cmp .notin (.var 6) (.bor 3)) (.cmp .eq (.comp (.one 7) (.seq (.ix (.var 2) (.var 6))) (.some (.cmp .notin (.var 7) (.bor 3))) (.var 7)) (.lst .nil)))) (.var 6))) (.cons (.app 3 (.ix (.var 5) (.int 0))) (.cons (.app 4 (.ix (.ix (.var 5) (.int 0)) (.int 0))) .nil)))) (.frz [4] (.cons (.ret (.var 4)) .nil))))⟩
/-- 0 program, 1 some, 2 names, 3 found, 4 state, 5 other, 6 ahead, 7 one, 8 then, 9 sort -/
def F_stuck_in : FnI := ⟨1, 10, [false], (.cons (.set 1 (.call 7813586419923773806 (.cons (.var 0) .nil))) (.cons (.ite (.cmp .eq (.var 1) (.lst .nil)) (.cons (.ret .non) .nil) .nil) (.cons (.par [(5, 0), (6, 0)] (.cons (.ix (.ix (.var 1) (.int 0)) (.int 1)) (.cons (.call 109317377451364 (.cons (.var 0) .nil)) .nil))) (.cons (.set 2 (.lst .nil)) (.cons (.for_ (.many [7, 8, 9]) (.seq (.call 464662417716764232083822 (.cons (.var 0) .nil))) (.cons (.ite (.and (.cmp .eq (.var 8) (.var 5)) (.cmp .ne (.var 9) (.str ⟨#[98, 97, 114]⟩))) (.cons (.set 2 (.bin .add (.bin .add (.var 2) (.lst (.cons (.var 7) .nil))) (.ix (.var 6) (.var 7)))) .nil) .nil) .nil)) (.cons (.own 3 (.bin .add (.call 8030591472428347238 (.cons (.var 0) (.cons (.blt .sortedSet (.var 2)) .nil))) (.lst (.cons (.ix (.var 5) (.int 0)) .nil)))) (.cons (.set 4 (.ix (.call 30515220352821614 (.cons (.var 0) (.cons (.bor 3) .nil))) (.neg (.int 1)))) (.cons (.while_ (.cmp .ne (.call 7453291831223085422 (.cons (.var 0) (.cons (.var 4) .nil))) (.lst .nil)) (.cons (.app 3 (.ix (.call 7453291831223085422 (.cons (.var 0) (.cons (.var 4) .nil))) (.int 0))) (.cons (.set 4 (.call 1735356005 (.cons (.var 0) (.cons (.var 4) (.cons (.ix (.bor 3) (.neg (.int 1))) .nil))))) .nil))) (.cons (.ret (.blt .tuple (.bor 3))) .nil)))))))))⟩
/-- 0 program -/
def F_stuck_way : FnI := ⟨1, 1, [false], (.cons (.ex (.call 133460669526141539434720871 (.cons (.var 0) .nil))) (.cons (.ret (.call 8319403481523775854 (.cons (.var 0) .nil))) .nil))⟩
/-- 0 program, 1 pairs, 2 signals, 3 rows, 4 hand, 5 row, 6 items, 7 index, 8 item, 9 pair, 10 signal -/
def F_put_in : FnI := ⟨3, 11, [false, false, false], (.cons (.own 3 (.lst .nil)) (.cons (.for_ (.many [4, 5]) (.enum (.ix (.var 0) (.int 1))) (.cons (.own 6 (.lst .nil)) (.cons (.for_ (.many [7, 8]) (.enum (.var 5)) (.cons (.for_ (.many [9, 10]) (.zip (.var 1) (.var 2)) (.cons (.ite (.cmp .eq (.ix (.var 9) (.int 1)) (.tup (.cons (.var 4) (.cons (.var 7) .nil)))) (.cons (.app 6 (.tup (.cons (.str ⟨#[119, 97, 105, 116]⟩) (.cons (.var 10) .nil)))) .nil) .nil) .nil)) (.cons (.app 6 (.var 8)) (.cons (.for_ (.many [9, 10]) (.zip (.var 1) (.var 2)) (.cons (.ite (.cmp .eq (.ix (.var 9) (.int 0)) (.tup (.cons (.var 4) (.cons (.var 7) .nil)))) (.cons (.app 6 (.tup (.cons (.str ⟨#[116, 101, 108, 108]⟩) (.cons (.var 10) .nil)))) .nil) .nil) .nil)) .nil)))) (.cons (.app 3 (.blt .tuple (.bor 6))) .nil)))) (.cons (.ret (.tup (.cons (.ix (.var 0) (.int 0)) (.cons (.blt .tuple (.bor 3)) .nil)))) .nil)))⟩
/-- 0 program, 1 pairs, 2 known, 3 free, 4 signal -/
def F_with_signals : FnI := ⟨1, 5, [false], (.cons (.ex (.call 133460669526141539434720871 (.cons (.var 0) .nil))) (.cons (.set 1 (.call 7813586419923773806 (.cons (.var 0) .nil))) (.cons (.set 2 (.bin .add (.call 545016506659300467240806 (.cons (.var 0) (.cons (.str ⟨#[116, 101, 108, 108]⟩) .nil))) (.call 545016506659300467240806 (.cons (.var 0) (.cons (.str ⟨#[119, 97, 105, 116]⟩) .nil))))) (.cons (.set 3 (.comp (.one 4) (.rng1 (.bin .add (.glob 93461892221900862484529484) (.int 1))) (.some (.cmp .notin (.var 4) (.var 2))) (.var 4))) (.cons (.ite (.cmp .gt (.bin .add (.blt .len (.call 1797146899509936483699 (.cons (.var 0) .nil))) (.bin .mul (.int 2) (.blt .len (.var 1)))) (.glob 365085516491757478825299)) (.cons (.raise_ 23766421873979001 (.some (.glob 365085516491757478825299))) .nil) .nil) (.cons (.ret (.call 123649765894510 (.cons (.var 0) (.cons (.var 1) (.cons (.sl (.var 3) .none (.some (.blt .len (.var 1)))) .nil))))) .nil))))))⟩
/-- 0 program, 1 signal, 2 rows, 3 row, 4 item -/
def F_without : FnI := ⟨2, 5, [false, false], (.cons (.own 2 (.lst .nil)) (.cons (.for_ (.one 3) (.seq (.ix (.var 0) (.int 1))) (.cons (.app 2 (.blt .tuple (.comp (.one 4) (.seq (.var 3)) (.some (.or (.cmp .eq (.ix (.var 4) (.int 0)) (.str ⟨#[115, 101, 116]⟩)) (.cmp .ne (.ix (.var 4) (.int 1)) (.var 1)))) (.var 4)))) .nil)) (.cons (.ret (.tup (.cons (.ix (.var 0) (.int 0)) (.cons (.blt .tuple (.bor 2)) .nil)))) .nil)))⟩
/-- 0 program, 1 signal -/
def F_without_signal_v2 : FnI := ⟨2, 2, [false, false], (.cons (.ex (.call 34165931398695334765290217837 (.cons (.var 0) .nil))) (.cons (.ite (.or (.not (.call 452907198830 (.cons (.var 1) (.cons (.int 0) (.cons (.glob 93461892221900862484529484) .nil))))) (.cmp .notin (.var 1) (.bin .add (.call 545016506659300467240806 (.cons (.var 0) (.cons (.str ⟨#[116, 101, 108, 108]⟩) .nil))) (.call 545016506659300467240806 (.cons (.var 0) (.cons (.str ⟨#[119, 97, 105, 116]⟩) .nil)))))) (.cons (.raise_ 1224502934696352440684 .none) .nil) .nil) (.cons (.ret (.call 33611470917825908 (.cons (.var 0) (.cons (.var 1) .nil)))) .nil)))⟩
/-- 0 program -/
def F_need_safe_v2 : FnI := ⟨1, 1, [false], (.cons (.ex (.call 133460669526141539434720871 (.cons (.var 0) .nil))) (.cons (.ite (.cmp .ne (.call 7813586419923773806 (.cons (.var 0) .nil)) (.lst .nil)) (.cons (.raise_ 22077593589212773 .none) .nil) .nil) .nil))⟩
/-- 0 program, 1 name, 2 ahead, 3 found, 4 one -/
def F_deed_order : FnI := ⟨1, 5, [false], (.cons (.par [(2, 0), (3, 1)] (.cons (.call 109317377451364 (.cons (.var 0) .nil)) (.cons (.lst .nil) .nil))) (.cons (.for_ (.one 1) (.seq (.call 1797146899509936483699 (.cons (.var 0) .nil))) (.cons (.for_ (.one 4) (.seq (.ix (.var 2) (.var 1))) (.cons (.ite (.and (.cmp .eq (.ix (.call 29682851530105204 (.cons (.var 0) (.cons (.var 4) .nil))) (.int 0)) (.str ⟨#[115, 101, 116]⟩)) (.cmp .eq (.ix (.call 29682851530105204 (.cons (.var 0) (.cons (.var 1) .nil))) (.int 0)) (.str ⟨#[115, 101, 116]⟩))) (.cons (.app 3 (.tup (.cons (.sl (.call 29682851530105204 (.cons (.var 0) (.cons (.var 4) .nil))) (.some (.int 1)) (.some (.int 3))) (.cons (.sl (.call 29682851530105204 (.cons (.var 0) (.cons (.var 1) .nil))) (.some (.int 1)) (.some (.int 3))) .nil)))) .nil) .nil) .nil)) .nil)) (.cons (.ret (.blt .sorted (.bor 3))) .nil)))⟩
/-- 0 program, 1 found, 2 signal, 3 other -/
def F_needless : FnI := ⟨1, 4, [false], (.cons (.ex (.call 2036448204439649609317 (.cons (.var 0) .nil))) (.cons (.own 1 (.lst .nil)) (.cons (.for_ (.one 2) (.seq (.blt .sortedSet (.call 545016506659300467240806 (.cons (.var 0) (.cons (.str ⟨#[116, 101, 108, 108]⟩) .nil))))) (.cons (.set 3 (.call 33611470917825908 (.cons (.var 0) (.cons (.var 2) .nil)))) (.cons (.ite (.and (.cmp .eq (.call 474107075507836953060722 (.cons (.var 3) .nil)) (.call 474107075507836953060722 (.cons (.var 0) .nil))) (.cmp .eq (.call 7813586419923773806 (.cons (.var 3) .nil)) (.lst .nil))) (.cons (.app 1 (.var 2)) .nil) .nil) .nil))) (.cons (.ret (.blt .tuple (.bor 1))) .nil))))⟩
/-- 0 program, 1 name -/
def F_deeds_of : FnI := ⟨1, 2, [false], (.cons (.ret (.blt .sorted (.comp (.one 1) (.seq (.call 1797146899509936483699 (.cons (.var 0) .nil))) (.some (.cmp .eq (.ix (.call 29682851530105204 (.cons (.var 0) (.cons (.var 1) .nil))) (.int 0)) (.str ⟨#[115, 101, 116]⟩))) (.sl (.call 29682851530105204 (.cons (.var 0) (.cons (.var 1) .nil))) (.some (.int 1)) (.some (.int 3)))))) .nil)⟩
/-- 0 program, 1 other -/
def F_alike : FnI := ⟨2, 2, [false, false], (.cons (.ex (.call 133460669526141539434720871 (.cons (.var 0) .nil))) (.cons (.ex (.call 133460669526141539434720871 (.cons (.var 1) .nil))) (.cons (.ret (.and (.cmp .eq (.call 7234299858547339110 (.cons (.var 0) .nil)) (.call 7234299858547339110 (.cons (.var 1) .nil))) (.cmp .eq (.call 474107075507836953060722 (.cons (.var 0) .nil)) (.call 474107075507836953060722 (.cons (.var 1) .nil))))) .nil)))⟩
/-- 0 program, 1 ahead, 2 places, 3 found, 4 hand, 5 row, 6 name, 7 one -/
def F_nexts : FnI := ⟨3, 8, [false, false, false], (.cons (.own 3 (.lst .nil)) (.cons (.for_ (.many [4, 5]) (.enum (.ix (.var 0) (.int 1))) (.cons (.set 6 (.tup (.cons (.var 4) (.cons (.ix (.var 2) (.var 4)) .nil)))) (.cons (.ite (.cmp .lt (.ix (.var 2) (.var 4)) (.blt .len (.var 5))) (.cons (.ite (.cmp .eq (.comp (.one 7) (.seq (.ix (.var 1) (.var 6))) (.some (.cmp .ge (.ix (.var 7) (.int 1)) (.ix (.var 2) (.ix (.var 7) (.int 0))))) (.var 7)) (.lst .nil)) (.cons (.app 3 (.var 4)) .nil) .nil) .nil) .nil) .nil))) (.frz [3] (.cons (.ret (.var 3)) .nil))))⟩
/-- 0 places, 1 hand -/
def F_moved : FnI := ⟨2, 2, [false, false], (.cons (.ret (.bin .add (.bin .add (.sl (.var 0) .none (.some (.var 1))) (.tup (.cons (.bin .add (.ix (.var 0) (.var 1)) (.int 1)) .nil))) (.sl (.var 0) (.some (.bin .add (.var 1) (.int 1))) .none))) .nil)⟩
/-- 0 program, 1 ahead, 2 rows, 3 turn, 4 found, 5 line, 6 more, 7 places, 8 hand -/
def F_ways_from : FnI := ⟨2, 9, [false, false], (.cons (.own 2 (.lst (.cons (.lst (.cons (.bin .mul (.tup (.cons (.int 0) .nil)) (.blt .len (.ix (.var 0) (.int 1)))) .nil)) .nil))) (.cons (.for_ (.one 3) (.rng1 (.blt .len (.call 1797146899509936483699 (.cons (.var 0) .nil)))) (.cons (.own 6 (.dct .nil .nil)) (.cons (.for_ (.one 7) (.seq (.ix (.bor 2) (.neg (.int 1)))) (.cons (.for_ (.one 8) (.seq (.call 474148795507 (.cons (.var 0) (.cons (.var 1) (.cons (.var 7) .nil))))) (.cons (.put 6 (.call 470021465444 (.cons (.var 7) (.cons (.var 8) .nil))) (.bl true)) .nil)) .nil)) (.cons (.app 2 (.skeys (.bor 6))) .nil)))) (.cons (.own 4 (.blt .dict (.comp (.one 7) (.seq (.ix (.bor 2) (.neg (.int 1)))) .none (.tup (.cons (.var 7) (.cons (.int 1) .nil)))))) (.cons (.for_ (.one 5) (.seq (.rev (.sl (.bor 2) .none (.some (.neg (.int 1)))))) (.cons (.for_ (.one 7) (.seq (.var 5)) (.cons (.put 4 (.var 7) (.blt .sum (.comp (.one 8) (.seq (.call 474148795507 (.cons (.var 0) (.cons (.var 1) (.cons (.var 7) .nil))))) .none (.ix (.bor 4) (.call 470021465444 (.cons (.var 7) (.cons (.var 8) .nil))))))) .nil)) .nil)) (.frz [4] (.cons (.ret (.var 4)) .nil))))))⟩
/-- 0 program, 1 index, 2 ahead, 3 known, 4 turn, 5 places, 6 found, 7 left, 8 hand, 9 ways -/
def F_ending_at : FnI := ⟨2, 10, [false, false], (.cons (.ex (.call 133460669526141539434720871 (.cons (.var 0) .nil))) (.cons (.set 2 (.call 109317377451364 (.cons (.var 0) .nil))) (.cons (.ite (.not (.call 452907198830 (.cons (.var 1) (.cons (.int 0) (.cons (.bin .pow (.int 10) (.int 30)) .nil))))) (.cons (.raise_ 4783214520039730804 .none) .nil) .nil) (.cons (.set 3 (.call 2202186316718875504493 (.cons (.var 0) (.cons (.var 2) .nil)))) (.cons (.ite (.cmp .ge (.var 1) (.ix (.var 3) (.bin .mul (.tup (.cons (.int 0) .nil)) (.blt .len (.ix (.var 0) (.int 1)))))) (.cons (.raise_ 4783214520039730804 .none) .nil) .nil) (.cons (.par [(5, 0), (6, 1), (7, 0)] (.cons (.bin .mul (.tup (.cons (.int 0) .nil)) (.blt .len (.ix (.var 0) (.int 1)))) (.cons (.lst .nil) (.cons (.var 1) .nil)))) (.cons (.for_ (.one 4) (.rng1 (.blt .len (.call 1797146899509936483699 (.cons (.var 0) .nil)))) (.cons (.for_ (.one 8) (.seq (.call 474148795507 (.cons (.var 0) (.cons (.var 2) (.cons (.var 5) .nil))))) (.cons (.set 9 (.ix (.var 3) (.call 470021465444 (.cons (.var 5) (.cons (.var 8) .nil))))) (.cons (.ite (.cmp .lt (.var 7) (.var 9)) (.cons (.app 6 (.var 8)) (.cons (.set 5 (.call 470021465444 (.cons (.var 5) (.cons (.var 8) .nil)))) (.cons .brk .nil))) .nil) (.cons (.aug 7 .sub (.var 9)) .nil)))) .nil)) (.cons (.ret (.blt .tuple (.bor 6))) .nil))))))))⟩
/-- 0 program, 1 weaving, 2 ahead, 3 there, 4 hand, 5 known, 6 places, 7 found, 8 one -/
def F_ending_number : FnI := ⟨2, 9, [false, false], (.cons (.ex (.call 133460669526141539434720871 (.cons (.var 0) .nil))) (.cons (.set 2 (.call 109317377451364 (.cons (.var 0) .nil))) (.cons (.ite (.not (.call 7598521898220020851 (.cons (.var 0) (.cons (.var 1) .nil)))) (.cons (.ret .non) .nil) .nil) (.cons (.set 3 (.call 30515220352821614 (.cons (.var 0) (.cons (.var 1) .nil)))) (.cons (.ite (.or (.cmp .le (.blt .len (.var 3)) (.blt .len (.var 1))) (.not (.call 115944242638436 (.cons (.var 0) (.cons (.ix (.var 3) (.neg (.int 1))) .nil))))) (.cons (.ret .non) .nil) .nil) (.cons (.par [(5, 0), (6, 0), (7, 0)] (.cons (.call 2202186316718875504493 (.cons (.var 0) (.cons (.var 2) .nil))) (.cons (.bin .mul (.tup (.cons (.int 0) .nil)) (.blt .len (.ix (.var 0) (.int 1)))) (.cons (.int 0) .nil)))) (.cons (.for_ (.one 4) (.seq (.var 1)) (.cons (.aug 7 .add (.blt .sum (.comp (.one 8) (.seq (.call 474148795507 (.cons (.var 0) (.cons (.var 2) (.cons (.var 6) .nil))))) (.some (.cmp .lt (.var 8) (.var 4))) (.ix (.var 5) (.call 470021465444 (.cons (.var 6) (.cons (.var 8) .nil))))))) (.cons (.set 6 (.call 470021465444 (.cons (.var 6) (.cons (.var 4) .nil)))) .nil))) (.cons (.ret (.var 7)) .nil))))))))⟩
/-- 0 program, 1 one, 2 other, 3 ahead, 4 known, 5 turn, 6 rows, 7 found, 8 more, 9 places, 10 hand, 11 there -/
def F_ahead_share : FnI := ⟨3, 12, [false, false, false], (.cons (.ex (.call 133460669526141539434720871 (.cons (.var 0) .nil))) (.cons (.ex (.call 2036448204439483082093 (.cons (.var 0) (.cons (.var 1) .nil)))) (.cons (.ex (.call 2036448204439483082093 (.cons (.var 0) (.cons (.var 2) .nil)))) (.cons (.set 3 (.call 109317377451364 (.cons (.var 0) .nil))) (.cons (.set 4 (.call 2202186316718875504493 (.cons (.var 0) (.cons (.var 3) .nil)))) (.cons (.par [(6, 0), (7, 0)] (.cons (.dct (.cons (.bin .mul (.tup (.cons (.int 0) .nil)) (.blt .len (.ix (.var 0) (.int 1)))) .nil) (.cons (.int 1) .nil)) (.cons (.int 0) .nil))) (.cons (.for_ (.one 5) (.rng1 (.blt .len (.call 1797146899509936483699 (.cons (.var 0) .nil)))) (.cons (.own 8 (.dct .nil .nil)) (.cons (.for_ (.one 9) (.keys (.var 6)) (.cons (.for_ (.one 10) (.seq (.call 474148795507 (.cons (.var 0) (.cons (.var 3) (.cons (.var 9) .nil))))) (.cons (.set 11 (.call 470021465444 (.cons (.var 9) (.cons (.var 10) .nil)))) (.cons (.ite (.and (.cmp .eq (.tup (.cons (.var 10) (.cons (.ix (.var 9) (.var 10)) .nil))) (.var 1)) (.and (.cmp .le (.ix (.var 9) (.ix (.var 2) (.int 0))) (.ix (.var 2) (.int 1))) (.cmp .ne (.var 1) (.var 2)))) (.cons (.aug 7 .add (.bin .mul (.ix (.var 6) (.var 9)) (.ix (.var 4) (.var 11)))) .nil) .nil) (.cons (.put 8 (.var 11) (.bin .add (.get (.bor 8) (.var 11) (.int 0)) (.ix (.var 6) (.var 9)))) .nil)))) .nil)) (.frz [8] (.cons (.set 6 (.var 8)) .nil))))) (.cons (.ret (.call 32199629485598052 (.cons (.var 7) (.cons (.ix (.var 4) (.bin .mul (.tup (.cons (.int 0) .nil)) (.blt .len (.ix (.var 0) (.int 1))))) .nil)))) .nil))))))))⟩
/-- 0 program, 1 ahead, 2 found, 3 left, 4 name, 5 one, 6 other -/
def F_levels : FnI := ⟨2, 7, [false, false], (.cons (.par [(2, 1), (3, 0)] (.cons (.dct .nil .nil) (.cons (.call 1797146899509936483699 (.cons (.var 0) .nil)) .nil))) (.cons (.while_ (.cmp .ne (.var 3) (.lst .nil)) (.cons (.for_ (.one 4) (.seq (.comp (.one 5) (.seq (.var 3)) (.some (.cmp .eq (.comp (.one 6) (.seq (.ix (.var 1) (.var 5))) (.some (.cmp .notin (.var 6) (.bor 2))) (.var 6)) (.lst .nil))) (.var 5))) (.cons (.put 2 (.var 4) (.bin .add (.blt .max (.bin .add (.lst (.cons (.neg (.int 1)) .nil)) (.comp (.one 5) (.seq (.ix (.var 1) (.var 4))) .none (.ix (.bor 2) (.var 5))))) (.int 1))) .nil)) (.cons (.set 3 (.comp (.one 4) (.seq (.var 3)) (.some (.cmp .notin (.var 4) (.bor 2))) (.var 4))) .nil))) (.frz [2] (.cons (.ret (.var 2)) .nil))))⟩
/-- 0 program, 1 told, 2 found, 3 hand, 4 row, 5 index -/
def F_in_rows : FnI := ⟨2, 6, [false, false], (.cons (.own 2 (.lst .nil)) (.cons (.for_ (.many [3, 4]) (.enum (.ix (.var 0) (.int 1))) (.cons (.app 2 (.blt .tuple (.comp (.one 5) (.rng1 (.blt .len (.var 4))) .none (.ix (.var 1) (.tup (.cons (.var 3) (.cons (.var 5) .nil))))))) .nil)) (.cons (.ret (.blt .tuple (.bor 2))) .nil)))⟩
/-- 0 program -/
def F_beats : FnI := ⟨1, 1, [false], (.cons (.ex (.call 2036448204439649609317 (.cons (.var 0) .nil))) (.cons (.ret (.call 29676228775475059 (.cons (.var 0) (.cons (.call 119183033855091 (.cons (.var 0) (.cons (.call 109317377451364 (.cons (.var 0) .nil)) .nil))) .nil)))) .nil))⟩
/-- 0 program, 1 wish, 2 one -/
def F_need_wish_v2 : FnI := ⟨2, 3, [false, false], (.cons (.ite (.or (.not (.isi (.var 1) [.tuple])) (.cmp .ne (.blt .len (.var 1)) (.blt .len (.ix (.var 0) (.int 0))))) (.cons (.raise_ 1224502934743496418419 .none) .nil) .nil) (.cons (.ite (.cmp .ne (.comp (.one 2) (.seq (.var 1)) (.some (.and (.notn (.var 2)) (.not (.call 452907198830 (.cons (.var 2) (.cons (.int 0) (.cons (.int 1) .nil))))))) (.var 2)) (.lst .nil)) (.cons (.raise_ 1224502934743496418419 .none) .nil) .nil) .nil))⟩
/-- 0 program, 1 wish, 2 found, 3 switch, 4 stand, 5 first, 6 second, 7 bar, 8 early, 9 late, 10 done, 11 bars -/
def F_choices : FnI := ⟨2, 12, [false, false], (.cons (.set 2 (.lst (.cons (.tup (.cons (.lst .nil) (.cons (.lst .nil) .nil))) .nil))) (.cons (.for_ (.many [3, 4]) (.enum (.var 1)) (.cons (.set 5 (.call 109299962373989 (.cons (.var 0) (.cons (.var 3) (.cons (.bin .sub (.int 1) (.ix (.ix (.var 0) (.int 0)) (.var 3))) .nil))))) (.cons (.set 6 (.call 109299962373989 (.cons (.var 0) (.cons (.var 3) (.cons (.ix (.ix (.var 0) (.int 0)) (.var 3)) .nil))))) (.cons (.ite (.and (.notn (.var 4)) (.cmp .ne (.var 4) (.ix (.ix (.var 0) (.int 0)) (.var 3)))) (.cons (.ite (.isn (.var 5)) (.cons (.ret (.lst .nil)) .nil) .nil) (.cons (.set 7 (.ite (.notn (.var 6)) (.lst (.cons (.var 6) .nil)) (.lst .nil))) (.cons (.set 2 (.comp (.many [10, 11]) (.seq (.var 2)) .none (.tup (.cons (.bin .add (.var 10) (.lst (.cons (.var 5) .nil))) (.cons (.bin .add (.var 11) (.var 7)) .nil))))) .nil))) .nil) (.cons (.ite (.and (.notn (.var 4)) (.and (.cmp .eq (.var 4) (.ix (.ix (.var 0) (.int 0)) (.var 3))) (.notn (.var 5)))) (.cons (.set 8 (.comp (.many [10, 11]) (.seq (.var 2)) .none (.tup (.cons (.var 10) (.cons (.bin .add (.var 11) (.lst (.cons (.var 5) .nil))) .nil))))) (.cons (.set 9 (.ite (.notn (.var 6)) (.comp (.many [10, 11]) (.seq (.var 2)) .none (.tup (.cons (.bin .add (.var 10) (.lst (.cons (.var 6) .nil))) (.cons (.var 11) .nil)))) (.lst .nil))) (.cons (.set 2 (.bin .add (.var 8) (.var 9))) .nil))) .nil) .nil))))) (.cons (.ret (.var 2)) .nil)))⟩
/-- 0 program, 1 wish, 2 ahead, 3 done, 4 bars, 5 names, 6 name -/
def F_moment_in : FnI := ⟨2, 7, [false, false], (.cons (.set 2 (.call 109317377451364 (.cons (.var 0) .nil))) (.cons (.for_ (.many [3, 4]) (.seq (.call 27980850413135219 (.cons (.var 0) (.cons (.var 1) .nil)))) (.cons (.set 5 (.blt .sortedSet (.var 3))) (.cons (.for_ (.one 6) (.seq (.var 3)) (.cons (.set 5 (.blt .sortedSet (.bin .add (.var 5) (.ix (.var 2) (.var 6))))) .nil)) (.cons (.ite (.cmp .eq (.comp (.one 6) (.seq (.var 4)) (.some (.cmp .isin (.var 6) (.var 5))) (.var 6)) (.lst .nil)) (.cons (.ret (.blt .tuple (.call 8030591472428347238 (.cons (.var 0) (.cons (.var 5) .nil))))) .nil) .nil) .nil)))) (.cons (.ret .non) .nil)))⟩
/-- 0 program, 1 wish -/
def F_may_be : FnI := ⟨2, 2, [false, false], (.cons (.ex (.call 2036448204439649609317 (.cons (.var 0) .nil))) (.cons (.ex (.call 2036448204439717245800 (.cons (.var 0) (.cons (.var 1) .nil)))) (.cons (.ret (.notn (.call 2018724289270085806446 (.cons (.var 0) (.cons (.var 1) .nil))))) .nil)))⟩
/-- 0 program, 1 wish, 2 value, 3 there, 4 switch, 5 stand -/
def F_shows_moment : FnI := ⟨3, 6, [false, false, false], (.cons (.ex (.call 2036448204439649609317 (.cons (.var 0) .nil))) (.cons (.ex (.call 2036448204439717245800 (.cons (.var 0) (.cons (.var 1) .nil)))) (.cons (.ite (.isn (.call 2018724289270085806446 (.cons (.var 0) (.cons (.var 1) .nil)))) (.cons (.ret (.isn (.var 2))) .nil) .nil) (.cons (.ite (.not (.call 7598521898220020851 (.cons (.var 0) (.cons (.var 2) .nil)))) (.cons (.ret (.bl false)) .nil) .nil) (.cons (.set 3 (.call 30515220352821614 (.cons (.var 0) (.cons (.var 2) .nil)))) (.cons (.ite (.cmp .le (.blt .len (.var 3)) (.blt .len (.var 2))) (.cons (.ret (.bl false)) .nil) .nil) (.cons (.ret (.cmp .eq (.comp (.many [4, 5]) (.enum (.var 1)) (.some (.and (.notn (.var 5)) (.cmp .ne (.ix (.ix (.ix (.var 3) (.neg (.int 1))) (.int 0)) (.var 4)) (.var 5)))) (.var 4)) (.lst .nil))) .nil)))))))⟩
/-- 0 web, 1 index, 2 one, 3 k -/
def F_need_web_v2 : FnI := ⟨1, 4, [false], (.cons (.ite (.or (.not (.isi (.var 0) [.tuple])) (.or (.cmp .ne (.blt .len (.var 0)) (.int 2)) (.not (.call 452907198830 (.cons (.ix (.var 0) (.int 0)) (.cons (.int 1) (.cons (.glob 6125118568654498866660624581971) .nil))))))) (.cons (.raise_ 72986062710114 (.some .non)) .nil) .nil) (.cons (.ite (.not (.isi (.ix (.var 0) (.int 1)) [.tuple])) (.cons (.raise_ 72986062710114 (.some .non)) .nil) .nil) (.cons (.for_ (.many [1, 2]) (.enum (.ix (.var 0) (.int 1))) (.cons (.ite (.or (.not (.isi (.var 2) [.tuple])) (.or (.cmp .ne (.blt .len (.var 2)) (.int 2)) (.cmp .ne (.comp (.one 3) (.seq (.var 2)) (.some (.not (.call 452907198830 (.cons (.var 3) (.cons (.int 0) (.cons (.bin .sub (.ix (.var 0) (.int 0)) (.int 1)) .nil)))))) (.var 3)) (.lst .nil)))) (.cons (.raise_ 72986062710114 (.some (.var 1))) .nil) .nil) (.cons (.ite (.or (.cmp .ge (.ix (.var 2) (.int 0)) (.ix (.var 2) (.int 1))) (.and (.cmp .gt (.var 1) (.int 0)) (.cmp .le (.var 2) (.ix (.ix (.var 0) (.int 1)) (.bin .sub (.var 1) (.int 1)))))) (.cons (.raise_ 72986062710114 (.some (.var 1))) .nil) .nil) .nil))) .nil)))⟩
/-- 0 web, 1 lamps, 2 index, 3 one -/
def F_need_lamps_v2 : FnI := ⟨2, 4, [false, false], (.cons (.ite (.not (.isi (.var 1) [.tuple])) (.cons (.raise_ 4783214558459031667 (.some .non)) .nil) .nil) (.cons (.for_ (.many [2, 3]) (.enum (.var 1)) (.cons (.ite (.or (.not (.call 452907198830 (.cons (.var 3) (.cons (.int 0) (.cons (.bin .sub (.ix (.var 0) (.int 0)) (.int 1)) .nil))))) (.and (.cmp .gt (.var 2) (.int 0)) (.cmp .le (.var 3) (.ix (.var 1) (.bin .sub (.var 2) (.int 1)))))) (.cons (.raise_ 4783214558459031667 (.some (.var 2))) .nil) .nil) .nil)) .nil))⟩
/-- 0 web, 1 one, 2 other -/
def F_need_three : FnI := ⟨3, 3, [false, false, false], (.cons (.ex (.call 7954875798592644450 (.cons (.var 0) .nil))) (.cons (.ex (.call 521330740336520235675763 (.cons (.var 0) (.cons (.var 1) .nil)))) (.cons (.ex (.call 521330740336520235675763 (.cons (.var 0) (.cons (.var 2) .nil)))) .nil)))⟩
/-- 0 web, 1 lamp, 2 first, 3 second -/
def F_ahead_of : FnI := ⟨2, 4, [false, false], (.cons (.ret (.comp (.many [2, 3]) (.seq (.ix (.var 0) (.int 1))) (.some (.cmp .eq (.var 3) (.var 1))) (.var 2))) .nil)⟩
/-- 0 web, 1 lamp, 2 first, 3 second -/
def F_behind : FnI := ⟨2, 4, [false, false], (.cons (.ret (.comp (.many [2, 3]) (.seq (.ix (.var 0) (.int 1))) (.some (.cmp .eq (.var 2) (.var 1))) (.var 3))) .nil)⟩
/-- 0 web, 1 one, 2 other, 3 found, 4 lit, 5 out, 6 near, 7 lamp, 8 more -/
def F_spare_in : FnI := ⟨3, 9, [false, false, false], (.cons (.set 3 (.lst .nil)) (.cons (.while_ (.bl true) (.cons (.set 4 (.bin .add (.comp (.one 7) (.seq (.var 2)) (.some (.cmp .notin (.var 7) (.var 1))) (.var 7)) (.var 3))) (.cons (.set 5 (.bin .add (.comp (.one 7) (.seq (.var 1)) (.some (.cmp .notin (.var 7) (.var 2))) (.var 7)) (.var 3))) (.cons (.set 6 (.lst .nil)) (.cons (.for_ (.one 7) (.seq (.var 4)) (.cons (.set 6 (.bin .add (.var 6) (.call 7018971488227127142 (.cons (.var 0) (.cons (.var 7) .nil))))) .nil)) (.cons (.for_ (.one 7) (.seq (.var 5)) (.cons (.set 6 (.bin .add (.var 6) (.call 108187682958948 (.cons (.var 0) (.cons (.var 7) .nil))))) .nil)) (.cons (.set 8 (.comp (.one 7) (.seq (.var 6)) (.some (.and (.cmp .notin (.var 7) (.var 1)) (.and (.cmp .notin (.var 7) (.var 2)) (.cmp .notin (.var 7) (.var 3))))) (.var 7))) (.cons (.ite (.cmp .eq (.var 8) (.lst .nil)) (.cons (.ret (.blt .sorted (.var 3))) .nil) .nil) (.cons (.set 3 (.blt .sortedSet (.bin .add (.var 3) (.var 8)))) .nil))))))))) .nil))⟩
/-- 0 web, 1 one, 2 other -/
def F_spare : FnI := ⟨3, 3, [false, false, false], (.cons (.ex (.call 521330740336554713179493 (.cons (.var 0) (.cons (.var 1) (.cons (.var 2) .nil))))) (.cons (.ret (.blt .tuple (.call 8318255655708223854 (.cons (.var 0) (.cons (.var 1) (.cons (.var 2) .nil)))))) .nil))⟩
/-- 0 web, 1 owners, 2 one -/
def F_need_owners_v2 : FnI := ⟨2, 3, [false, false], (.cons (.ite (.or (.not (.isi (.var 1) [.tuple])) (.cmp .ne (.blt .len (.var 1)) (.ix (.var 0) (.int 0)))) (.cons (.raise_ 1224502930358552326771 .none) .nil) .nil) (.cons (.ite (.cmp .ne (.comp (.one 2) (.seq (.var 1)) (.some (.not (.call 452907198830 (.cons (.var 2) (.cons (.int 0) (.cons (.bin .sub (.glob 365085516491752865678419) (.int 1)) .nil)))))) (.var 2)) (.lst .nil)) (.cons (.raise_ 1224502930358552326771 .none) .nil) .nil) .nil))⟩
/-- 0 web, 1 one, 2 other, 3 owners, 4 extra, 5 rows, 6 lamp, 7 hand, 8 guard, 9 row, 10 near -/
def F_plain_in : FnI := ⟨4, 11, [false, false, false, false], (.cons (.set 4 (.call 8318255655708223854 (.cons (.var 0) (.cons (.var 1) (.cons (.var 2) .nil))))) (.cons (.own2n 5 7 (.bin .add (.blt .max (.var 3)) (.int 1))) (.cons (.for_ (.one 6) (.rng1 (.ix (.var 0) (.int 0))) (.cons (.ite (.or (.cmp .isin (.var 6) (.var 4)) (.and (.cmp .isin (.var 6) (.var 2)) (.cmp .notin (.var 6) (.var 1)))) (.cons (.set 8 (.blt .tuple (.comp (.one 10) (.seq (.blt .sorted (.call 7018971488227127142 (.cons (.var 0) (.cons (.var 6) .nil))))) .none (.tup (.cons (.var 10) (.cons (.int 1) .nil)))))) (.cons (.appi 5 (.ix (.var 3) (.var 6)) (.tup (.cons (.str ⟨#[115, 101, 116]⟩) (.cons (.var 6) (.cons (.int 1) (.cons (.var 8) .nil)))))) .nil)) .nil) .nil)) (.cons (.for_ (.one 6) (.rng1 (.ix (.var 0) (.int 0))) (.cons (.ite (.or (.cmp .isin (.var 6) (.var 4)) (.and (.cmp .isin (.var 6) (.var 1)) (.cmp .notin (.var 6) (.var 2)))) (.cons (.set 8 (.blt .tuple (.comp (.one 10) (.seq (.blt .sorted (.call 108187682958948 (.cons (.var 0) (.cons (.var 6) .nil))))) .none (.tup (.cons (.var 10) (.cons (.int 1) .nil)))))) (.cons (.appi 5 (.ix (.var 3) (.var 6)) (.tup (.cons (.str ⟨#[115, 101, 116]⟩) (.cons (.var 6) (.cons (.int 0) (.cons (.var 8) .nil)))))) .nil)) .nil) .nil)) (.frz [5] (.cons (.ret (.tup (.cons (.blt .tuple (.comp (.one 6) (.rng1 (.ix (.var 0) (.int 0))) .none (.blt .int (.cmp .isin (.var 6) (.var 1))))) (.cons (.blt .tuple (.comp (.one 9) (.seq (.var 5)) .none (.blt .tuple (.var 9)))) .nil)))) .nil))))))⟩
/-- 0 web, 1 one, 2 other, 3 owners -/
def F_need_made : FnI := ⟨4, 4, [false, false, false, false], (.cons (.ex (.call 521330740336554713179493 (.cons (.var 0) (.cons (.var 1) (.cons (.var 2) .nil))))) (.cons (.ex (.call 133460669526152573373215347 (.cons (.var 0) (.cons (.var 3) .nil)))) .nil))⟩
/-- 0 web, 1 one, 2 other, 3 owners -/
def F_plain_program : FnI := ⟨4, 4, [false, false, false, false], (.cons (.ex (.call 2036448204439548945509 (.cons (.var 0) (.cons (.var 1) (.cons (.var 2) (.cons (.var 3) .nil)))))) (.cons (.ret (.call 8100956935183886702 (.cons (.var 0) (.cons (.var 1) (.cons (.var 2) (.cons (.var 3) .nil)))))) .nil))⟩
/-- 0 web, 1 one, 2 other, 3 owners, 4 program, 5 pairs, 6 row -/
def F_made : FnI := ⟨4, 7, [false, false, false, false], (.cons (.ex (.call 2036448204439548945509 (.cons (.var 0) (.cons (.var 1) (.cons (.var 2) (.cons (.var 3) .nil)))))) (.cons (.set 4 (.call 8100956935183886702 (.cons (.var 0) (.cons (.var 1) (.cons (.var 2) (.cons (.var 3) .nil)))))) (.cons (.set 5 (.call 7813586419923773806 (.cons (.var 4) .nil))) (.cons (.ite (.cmp .gt (.bin .add (.blt .sum (.comp (.one 6) (.seq (.ix (.var 4) (.int 1))) .none (.blt .len (.var 6)))) (.bin .mul (.int 2) (.blt .len (.var 5)))) (.glob 365085516491757478825299)) (.cons (.raise_ 23766421873979001 (.some (.glob 365085516491757478825299))) .nil) .nil) (.cons (.ret (.call 123649765894510 (.cons (.var 4) (.cons (.var 5) (.cons (.rng (.blt .len (.var 5))) .nil))))) .nil)))))⟩
/-- 0 item -/
def F_turned_item : FnI := ⟨1, 1, [false], (.cons (.ite (.cmp .eq (.ix (.var 0) (.int 0)) (.str ⟨#[115, 101, 116]⟩)) (.cons (.ret (.tup (.cons (.str ⟨#[115, 101, 116]⟩) (.cons (.ix (.var 0) (.int 1)) (.cons (.bin .sub (.int 1) (.ix (.var 0) (.int 2))) (.cons (.ix (.var 0) (.int 3)) .nil)))))) .nil) .nil) (.cons (.ret (.tup (.cons (.ite (.cmp .eq (.ix (.var 0) (.int 0)) (.str ⟨#[116, 101, 108, 108]⟩)) (.str ⟨#[119, 97, 105, 116]⟩) (.str ⟨#[116, 101, 108, 108]⟩)) (.cons (.ix (.var 0) (.int 1)) .nil)))) .nil))⟩
/-- 0 program, 1 stands, 2 rows, 3 switch, 4 stand, 5 row, 6 item -/
def F_turned : FnI := ⟨1, 7, [false], (.cons (.ex (.call 133460669526141539434720871 (.cons (.var 0) .nil))) (.cons (.own 1 (.lst .nil)) (.cons (.for_ (.many [3, 4]) (.enum (.ix (.var 0) (.int 0))) (.cons (.app 1 (.ite (.cmp .eq (.blt .len (.call 7234299858547339118 (.cons (.var 0) (.cons (.var 3) .nil)))) (.int 1)) (.bin .sub (.int 1) (.var 4)) (.var 4))) .nil)) (.cons (.set 2 (.comp (.one 5) (.seq (.ix (.var 0) (.int 1))) .none (.blt .tuple (.comp (.one 6) (.seq (.rev (.var 5))) .none (.call 140790022837491813418558829 (.cons (.var 6) .nil)))))) (.cons (.ret (.tup (.cons (.blt .tuple (.bor 1)) (.cons (.blt .tuple (.var 2)) .nil)))) .nil)))))⟩
/-- 0 program, 1 order, 2 one, 3 hand -/
def F_with_hands_v2 : FnI := ⟨2, 4, [false, false], (.cons (.ex (.call 34165931398695334765290217837 (.cons (.var 0) .nil))) (.cons (.ite (.or (.not (.isi (.var 1) [.tuple])) (.cmp .ne (.comp (.one 2) (.seq (.var 1)) (.some (.not (.call 452907198830 (.cons (.var 2) (.cons (.int 0) (.cons (.bin .sub (.glob 365085516491752865678419) (.int 1)) .nil)))))) (.var 2)) (.lst .nil))) (.cons (.raise_ 4783214571628553586 .none) .nil) .nil) (.cons (.ite (.cmp .ne (.blt .sorted (.var 1)) (.rng (.blt .len (.ix (.var 0) (.int 1))))) (.cons (.raise_ 4783214571628553586 .none) .nil) .nil) (.cons (.ret (.tup (.cons (.ix (.var 0) (.int 0)) (.cons (.blt .tuple (.comp (.one 3) (.seq (.var 1)) .none (.ix (.ix (.var 0) (.int 1)) (.var 3)))) .nil)))) .nil))))⟩
/-- 0 item, 1 switches, 2 signals, 3 guard, 4 one, 5 stand -/
def F_moved_item : FnI := ⟨3, 6, [false, false, false], (.cons (.ite (.cmp .eq (.ix (.var 0) (.int 0)) (.str ⟨#[115, 101, 116]⟩)) (.cons (.set 3 (.blt .tuple (.comp (.many [4, 5]) (.seq (.ix (.var 0) (.int 3))) .none (.tup (.cons (.bin .add (.var 4) (.var 1)) (.cons (.var 5) .nil)))))) (.cons (.ret (.tup (.cons (.str ⟨#[115, 101, 116]⟩) (.cons (.bin .add (.ix (.var 0) (.int 1)) (.var 1)) (.cons (.ix (.var 0) (.int 2)) (.cons (.var 3) .nil)))))) .nil)) .nil) (.cons (.ret (.tup (.cons (.ix (.var 0) (.int 0)) (.cons (.bin .add (.ix (.var 0) (.int 1)) (.var 2)) .nil)))) .nil))⟩
/-- 0 program, 1 other, 2 switches, 3 first, 4 rows, 5 row, 6 item -/
def F_beside : FnI := ⟨2, 7, [false, false], (.cons (.ex (.call 34165931398695334765290217837 (.cons (.var 0) .nil))) (.cons (.ex (.call 34165931398695334765290217837 (.cons (.var 1) .nil))) (.cons (.set 2 (.blt .len (.ix (.var 0) (.int 0)))) (.cons (.ite (.cmp .gt (.bin .add (.var 2) (.blt .len (.ix (.var 1) (.int 0)))) (.glob 6125118568654498866660624581971)) (.cons (.raise_ 23766421873979001 (.some (.glob 6125118568654498866660624581971))) .nil) .nil) (.cons (.ite (.cmp .gt (.bin .add (.blt .len (.ix (.var 0) (.int 1))) (.blt .len (.ix (.var 1) (.int 1)))) (.glob 365085516491752865678419)) (.cons (.raise_ 23766421873979001 (.some (.glob 365085516491752865678419))) .nil) .nil) (.cons (.ite (.cmp .gt (.bin .add (.blt .len (.call 1797146899509936483699 (.cons (.var 0) .nil))) (.blt .len (.call 1797146899509936483699 (.cons (.var 1) .nil)))) (.glob 365085516491757478825299)) (.cons (.raise_ 23766421873979001 (.some (.glob 365085516491757478825299))) .nil) .nil) (.cons (.set 3 (.bin .add (.int 1) (.blt .max (.bin .add (.bin .add (.lst (.cons (.neg (.int 1)) .nil)) (.call 545016506659300467240806 (.cons (.var 0) (.cons (.str ⟨#[116, 101, 108, 108]⟩) .nil)))) (.call 545016506659300467240806 (.cons (.var 0) (.cons (.str ⟨#[119, 97, 105, 116]⟩) .nil))))))) (.cons (.ite (.cmp .gt (.bin .add (.var 3) (.blt .max (.bin .add (.bin .add (.lst (.cons (.int 0) .nil)) (.call 545016506659300467240806 (.cons (.var 1) (.cons (.str ⟨#[116, 101, 108, 108]⟩) .nil)))) (.call 545016506659300467240806 (.cons (.var 1) (.cons (.str ⟨#[119, 97, 105, 116]⟩) .nil)))))) (.glob 93461892221900862484529484)) (.cons (.raise_ 23766421873979001 (.some (.glob 93461892221900862484529484))) .nil) .nil) (.cons (.set 4 (.comp (.one 5) (.seq (.ix (.var 1) (.int 1))) .none (.blt .tuple (.comp (.one 6) (.seq (.var 5)) .none (.call 516794066560403165701485 (.cons (.var 6) (.cons (.var 2) (.cons (.var 3) .nil)))))))) (.cons (.ret (.tup (.cons (.bin .add (.ix (.var 0) (.int 0)) (.ix (.var 1) (.int 0))) (.cons (.bin .add (.ix (.var 0) (.int 1)) (.blt .tuple (.var 4))) .nil)))) .nil))))))))))⟩
/-- 0 _law_work, 1 _law_found, 2 error, 3 _law_known, 4 _law_words, 5 _law_word, 6 _law_field -/
def F__law_error1 : FnI := ⟨1, 7, [false], (.cons .stk (.cons .stk (.cons .stk .nil)))⟩
end VI

set_option Elab.async false
set_option linter.all false
set_option maxRecDepth 100000
set_option maxHeartbeats 4000000
/-! law k35: its own text, the table of its defs -/
namespace VI
open PySem L2
def top (i : Nat) : Stmt := PySem.Challenge.pw_handguards_k35_order_of_errors.main.body.getD i (.Pass ⟨0, 0, 0, 0⟩)
/-- 0 _law_script, 1 _law_row, 2 _law_told, 3 _law_crooked, 4 _law_ringed, 5 _law_open_one, 6 _law_fine, 7 _law_word, 8 _law_field -/
def F_law : FnI := ⟨1, 9, [false], (.cons (.newo 1 (.cons (.var 0) (.cons (.int 0) (.cons (.int 10035) (.cons (.int 0) .nil))))) (.cons (.par [(3, 0), (4, 0)] (.cons (.call 35403852548514783561608487277 (.cons (.str ⟨#[48, 124, 48, 43, 124, 48, 43]⟩) .nil)) (.cons (.call 35403852548514783561608487277 (.cons (.str ⟨#[48, 48, 124, 48, 43, 91, 49, 43, 93, 124, 49, 43, 91, 48, 43, 93]⟩) .nil)) .nil))) (.cons (.par [(5, 0), (6, 0)] (.cons (.call 35403852548514783561608487277 (.cons (.str ⟨#[49, 48, 124, 49, 43, 91, 48, 43, 93, 124, 48, 45]⟩) .nil)) (.cons (.call 35403852548514783561608487277 (.cons (.str ⟨#[48, 48, 124, 48, 43, 124, 49, 43]⟩) .nil)) .nil))) (.cons (.set 2 (.lst (.cons (.err (.call 444250812007 (.cons .non (.cons .non .nil)))) (.cons (.err (.call 444250812007 (.cons (.var 6) (.cons (.tup (.cons (.int 0) (.cons (.int 2) .nil))) .nil)))) .nil)))) (.cons (.set 2 (.bin .add (.var 2) (.lst (.cons (.err (.call 444250812007 (.cons (.var 6) (.cons (.tup (.cons (.int 0) (.cons (.int 0) .nil))) .nil)))) .nil)))) (.cons (.set 2 (.bin .add (.var 2) (.lst (.cons (.err (.call 35731565875373150918159524709 (.cons (.tup (.cons (.tup (.cons (.int 0) .nil)) (.cons (.tup (.cons (.tup (.cons .non .nil)) .nil)) .nil))) .nil))) .nil)))) (.cons (.ite (.cmp .ne (.var 2) (.lst (.cons (.tup (.cons (.str ⟨#[112, 114, 111, 103, 114, 97, 109]⟩) (.cons .non .nil))) (.cons (.tup (.cons (.str ⟨#[119, 101, 97, 118, 105, 110, 103]⟩) (.cons .non .nil))) (.cons (.tup (.cons (.str ⟨#[119, 101, 97, 118, 105, 110, 103]⟩) (.cons (.int 1) .nil))) (.cons (.tup (.cons (.str ⟨#[112, 114, 111, 103, 114, 97, 109]⟩) (.cons (.tup (.cons (.int 0) (.cons (.int 0) .nil))) .nil))) .nil)))))) (.cons (.ret (.bl false)) .nil) .nil) (.cons (.set 2 (.lst (.cons (.err (.call 127482043965153249317054580 (.cons (.tup (.cons (.tup (.cons (.int 2) .nil)) (.cons (.tup (.cons (.tup .nil) .nil)) .nil))) .nil))) (.cons (.err (.call 27973149369134692 (.cons (.var 3) .nil))) .nil)))) (.cons (.set 2 (.bin .add (.var 2) (.lst (.cons (.err (.call 27696038348481907 (.cons (.var 3) .nil))) (.cons (.err (.call 111524805439079 (.cons (.var 4) .nil))) .nil))))) (.cons (.set 2 (.bin .add (.var 2) (.lst (.cons (.err (.call 1945221599364301943397 (.cons (.var 3) (.cons .non (.cons .non .nil))))) .nil)))) (.cons (.set 2 (.bin .add (.var 2) (.lst (.cons (.err (.call 1945221599364301943397 (.cons (.var 6) (.cons (.tup (.cons (.int 0) (.cons (.int 1) .nil))) (.cons .non .nil))))) .nil)))) (.cons (.set 2 (.bin .add (.var 2) (.lst (.cons (.err (.call 1945221599364301943397 (.cons (.var 6) (.cons (.tup (.cons (.int 0) (.cons (.int 0) .nil))) (.cons (.tup (.cons (.int 0) (.cons (.int 1) .nil))) .nil))))) .nil)))) (.cons (.ite (.cmp .ne (.comp (.many [7, 8]) (.seq (.var 2)) .none (.var 7)) (.lst (.cons (.str ⟨#[112, 114, 111, 103, 114, 97, 109]⟩) (.cons (.str ⟨#[115, 116, 114, 97, 105, 103, 104, 116]⟩) (.cons (.str ⟨#[115, 116, 114, 97, 105, 103, 104, 116]⟩) (.cons (.str ⟨#[]⟩) (.cons (.str ⟨#[115, 116, 114, 97, 105, 103, 104, 116]⟩) (.cons (.str ⟨#[105, 116, 101, 109]⟩) (.cons (.str ⟨#[105, 116, 101, 109]⟩) .nil))))))))) (.cons (.ret (.bl false)) .nil) .nil) (.cons (.set 2 (.lst (.cons (.err (.call 7954875798809572211 (.cons (.var 3) .nil))) (.cons (.err (.call 7954875798809572211 (.cons (.var 4) .nil))) .nil)))) (.cons (.set 2 (.bin .add (.var 2) (.lst (.cons (.err (.call 7954875798809572211 (.cons (.var 5) .nil))) (.cons (.err (.call 418430675813 (.cons (.var 4) (.cons .non .nil)))) .nil))))) (.cons (.set 2 (.bin .add (.var 2) (.lst (.cons (.err (.call 418430675813 (.cons (.var 6) (.cons (.var 3) .nil)))) (.cons (.err (.call 2421961726414320386049533629325676 (.cons (.var 6) (.cons (.int 0) .nil)))) .nil))))) (.cons (.set 2 (.bin .add (.var 2) (.lst (.cons (.err (.call 2129767291270087532921 (.cons (.var 4) .nil))) (.cons (.err (.call 422607680627 (.cons (.var 5) .nil))) .nil))))) (.cons (.ite (.cmp .ne (.comp (.many [7, 8]) (.seq (.var 2)) .none (.var 7)) (.lst (.cons (.str ⟨#[115, 116, 114, 97, 105, 103, 104, 116]⟩) (.cons (.str ⟨#[110, 101, 118, 101, 114]⟩) (.cons (.str ⟨#[115, 97, 102, 101]⟩) (.cons (.str ⟨#[110, 101, 118, 101, 114]⟩) (.cons (.str ⟨#[115, 116, 114, 97, 105, 103, 104, 116]⟩) (.cons (.str ⟨#[115, 105, 103, 110, 97, 108]⟩) (.cons (.str ⟨#[110, 101, 118, 101, 114]⟩) (.cons (.str ⟨#[115, 97, 102, 101]⟩) .nil)))))))))) (.cons (.ret (.bl false)) .nil) .nil) (.cons (.set 2 (.lst (.cons (.err (.call 120265415549541 (.cons (.var 5) (.cons .non .nil)))) (.cons (.err (.call 120265415549541 (.cons (.var 6) (.cons (.tup (.cons (.int 0) .nil)) .nil)))) .nil)))) (.cons (.set 2 (.bin .add (.var 2) (.lst (.cons (.err (.call 35717030800850231402068012660 (.cons (.var 6) (.cons (.tup (.cons (.int 2) (.cons (.int 0) .nil))) (.cons .non .nil))))) .nil)))) (.cons (.set 2 (.bin .add (.var 2) (.lst (.cons (.err (.call 1871075750209409474932 (.cons (.var 4) (.cons .non .nil)))) .nil)))) (.cons (.set 2 (.bin .add (.var 2) (.lst (.cons (.err (.call 1871075750209409474932 (.cons (.var 6) (.cons (.int 2) .nil)))) .nil)))) (.cons (.set 2 (.bin .add (.var 2) (.lst (.cons (.err (.call 8036209155488078860605253117298 (.cons (.var 4) (.cons .non .nil)))) .nil)))) (.cons (.set 2 (.bin .add (.var 2) (.lst (.cons (.err (.call 117758800755827986340606565 (.cons (.var 6) (.cons (.tup (.cons (.int 9) (.cons (.int 9) .nil))) (.cons .non .nil))))) .nil)))) (.cons (.set 2 (.bin .add (.var 2) (.lst (.cons (.err (.call 128047779833188 (.cons (.var 3) .nil))) .nil)))) (.cons (.ite (.cmp .ne (.comp (.many [7, 8]) (.seq (.var 2)) .none (.var 7)) (.lst (.cons (.str ⟨#[115, 97, 102, 101]⟩) (.cons (.str ⟨#[115, 116, 97, 110, 100, 115]⟩) (.cons (.str ⟨#[115, 116, 97, 110, 100, 115]⟩) (.cons (.str ⟨#[110, 101, 118, 101, 114]⟩) (.cons (.str ⟨#[99, 111, 117, 110, 116]⟩) (.cons (.str ⟨#[110, 101, 118, 101, 114]⟩) (.cons (.str ⟨#[105, 116, 101, 109]⟩) (.cons (.str ⟨#[115, 116, 114, 97, 105, 103, 104, 116]⟩) .nil)))))))))) (.cons (.ret (.bl false)) .nil) .nil) (.cons (.set 2 (.lst (.cons (.err (.call 563906907648435176760435 (.cons (.var 6) (.cons (.tup (.cons (.int 0) .nil)) .nil)))) (.cons (.err (.call 108187867505765 (.cons (.var 6) (.cons .non .nil)))) .nil)))) (.cons (.set 2 (.bin .add (.var 2) (.lst (.cons (.err (.call 495806673509 (.cons (.tup (.cons (.int 2) (.cons (.tup (.cons (.tup (.cons (.int 1) (.cons (.int 0) .nil))) .nil)) .nil))) (.cons .non (.cons .non .nil))))) .nil)))) (.cons (.set 2 (.bin .add (.var 2) (.lst (.cons (.err (.call 495806673509 (.cons (.tup (.cons (.int 2) (.cons (.tup .nil) .nil))) (.cons (.tup (.cons (.int 5) .nil)) (.cons .non .nil))))) .nil)))) (.cons (.set 2 (.bin .add (.var 2) (.lst (.cons (.err (.call 8907096346347313368803740639597 (.cons (.tup (.cons (.int 2) (.cons (.tup .nil) .nil))) (.cons (.tup .nil) (.cons (.tup (.cons (.int 0) .nil)) (.cons (.tup (.cons (.int 0) .nil)) .nil)))))) .nil)))) (.cons (.set 2 (.bin .add (.var 2) (.lst (.cons (.err (.call 1835099237 (.cons (.tup (.cons (.int 2) (.cons (.tup .nil) .nil))) (.cons (.tup .nil) (.cons (.tup (.cons (.int 0) (.cons (.int 0) .nil))) (.cons .non .nil)))))) .nil)))) (.cons (.set 2 (.bin .add (.var 2) (.lst (.cons (.err (.call 36956203099650952735110556787 (.cons (.tup (.cons (.bin .mul (.tup (.cons (.int 0) .nil)) (.int 8)) (.cons (.tup (.cons (.bin .mul (.tup (.cons (.tup (.cons (.str ⟨#[116, 101, 108, 108]⟩) (.cons (.int 0) .nil))) .nil)) (.int 25)) .nil)) .nil))) .nil))) .nil)))) (.cons (.ret (.cmp .eq (.comp (.many [7, 8]) (.seq (.var 2)) .none (.var 7)) (.lst (.cons (.str ⟨#[111, 114, 100, 101, 114]⟩) (.cons (.str ⟨#[112, 114, 111, 103, 114, 97, 109]⟩) (.cons (.str ⟨#[119, 101, 98]⟩) (.cons (.str ⟨#[108, 97, 109, 112, 115]⟩) (.cons (.str ⟨#[111, 119, 110, 101, 114, 115]⟩) (.cons (.str ⟨#[108, 97, 109, 112, 115]⟩) (.cons (.str ⟨#[112, 114, 111, 103, 114, 97, 109]⟩) .nil)))))))))) .nil)))))))))))))))))))))))))))))))))⟩
def tab : Tab := [⟨⟨#[105, 115, 95, 105, 110]⟩, none, top 19, F_is_in, [⟨#[118, 97, 108, 117, 101]⟩, ⟨#[108, 101, 97, 115, 116]⟩, ⟨#[109, 111, 115, 116]⟩]⟩,
  ⟨⟨#[103, 99, 100]⟩, none, top 20, F_gcd, [⟨#[111, 110, 101]⟩, ⟨#[111, 116, 104, 101, 114]⟩]⟩,
  ⟨⟨#[114, 101, 100, 117, 99, 101, 100]⟩, none, top 21, F_reduced, [⟨#[110, 117, 109, 101, 114, 97, 116, 111, 114]⟩, ⟨#[100, 101, 110, 111, 109, 105, 110, 97, 116, 111, 114]⟩, ⟨#[99, 111, 109, 109, 111, 110]⟩]⟩,
  ⟨⟨#[112, 108, 117, 115]⟩, none, top 22, F_plus, [⟨#[111, 110, 101]⟩, ⟨#[111, 116, 104, 101, 114]⟩]⟩,
  ⟨⟨#[116, 105, 109, 101, 115]⟩, none, top 23, F_times, [⟨#[111, 110, 101]⟩, ⟨#[111, 116, 104, 101, 114]⟩]⟩,
  ⟨⟨#[105, 115, 95, 103, 117, 97, 114, 100]⟩, none, top 29, F_is_guard, [⟨#[118, 97, 108, 117, 101]⟩, ⟨#[115, 119, 105, 116, 99, 104]⟩, ⟨#[109, 97, 110, 121]⟩, ⟨#[108, 97, 115, 116]⟩, ⟨#[112, 97, 105, 114]⟩]⟩,
  ⟨⟨#[105, 115, 95, 105, 116, 101, 109]⟩, none, top 30, F_is_item, [⟨#[118, 97, 108, 117, 101]⟩, ⟨#[109, 97, 110, 121]⟩]⟩,
  ⟨⟨#[110, 101, 101, 100, 95, 112, 114, 111, 103, 114, 97, 109]⟩, none, top 31, F_need_program_v2, [⟨#[112, 114, 111, 103, 114, 97, 109]⟩, ⟨#[115, 116, 97, 114, 116]⟩, ⟨#[114, 111, 119, 115]⟩, ⟨#[104, 97, 110, 100]⟩, ⟨#[114, 111, 119]⟩, ⟨#[105, 110, 100, 101, 120]⟩, ⟨#[105, 116, 101, 109]⟩, ⟨#[111, 110, 101]⟩]⟩,
  ⟨⟨#[97, 108, 108, 95, 105, 116, 101, 109, 115]⟩, none, top 32, F_all_items, [⟨#[112, 114, 111, 103, 114, 97, 109]⟩, ⟨#[102, 111, 117, 110, 100]⟩, ⟨#[104, 97, 110, 100]⟩, ⟨#[114, 111, 119]⟩, ⟨#[105, 110, 100, 101, 120]⟩]⟩,
  ⟨⟨#[105, 116, 101, 109, 95, 97, 116]⟩, none, top 33, F_item_at, [⟨#[112, 114, 111, 103, 114, 97, 109]⟩, ⟨#[110, 97, 109, 101]⟩]⟩,
  ⟨⟨#[110, 101, 101, 100, 95, 105, 116, 101, 109]⟩, none, top 34, F_need_item_v2, [⟨#[112, 114, 111, 103, 114, 97, 109]⟩, ⟨#[110, 97, 109, 101]⟩]⟩,
  ⟨⟨#[100, 101, 101, 100, 115, 95, 111, 110]⟩, none, top 35, F_deeds_on, [⟨#[112, 114, 111, 103, 114, 97, 109]⟩, ⟨#[115, 119, 105, 116, 99, 104]⟩, ⟨#[102, 111, 117, 110, 100]⟩, ⟨#[110, 97, 109, 101]⟩, ⟨#[105, 116, 101, 109]⟩]⟩,
  ⟨⟨#[115, 105, 103, 110, 97, 108, 115, 95, 111, 102]⟩, none, top 36, F_signals_of, [⟨#[112, 114, 111, 103, 114, 97, 109]⟩, ⟨#[107, 105, 110, 100]⟩, ⟨#[110, 97, 109, 101]⟩]⟩,
  ⟨⟨#[102, 105, 114, 115, 116, 95, 115, 116, 97, 116, 101]⟩, none, top 38, F_first_state, [⟨#[112, 114, 111, 103, 114, 97, 109]⟩]⟩,
  ⟨⟨#[99, 97, 110, 95, 103, 111]⟩, none, top 39, F_can_go, [⟨#[112, 114, 111, 103, 114, 97, 109]⟩, ⟨#[115, 116, 97, 116, 101]⟩, ⟨#[104, 97, 110, 100]⟩, ⟨#[105, 116, 101, 109]⟩, ⟨#[115, 116, 97, 110, 100, 115]⟩, ⟨#[112, 108, 97, 99, 101, 115]⟩, ⟨#[116, 111, 108, 100]⟩, ⟨#[111, 110, 101]⟩, ⟨#[115, 116, 97, 110, 100]⟩]⟩,
  ⟨⟨#[103, 111, 110, 101]⟩, none, top 40, F_gone, [⟨#[112, 114, 111, 103, 114, 97, 109]⟩, ⟨#[115, 116, 97, 116, 101]⟩, ⟨#[104, 97, 110, 100]⟩, ⟨#[105, 116, 101, 109]⟩, ⟨#[112, 108, 97, 99, 101, 115]⟩, ⟨#[115, 116, 97, 110, 100, 115]⟩, ⟨#[116, 111, 108, 100]⟩]⟩,
  ⟨⟨#[103, 111, 105, 110, 103, 95, 105, 110]⟩, none, top 41, F_going_in, [⟨#[112, 114, 111, 103, 114, 97, 109]⟩, ⟨#[115, 116, 97, 116, 101]⟩, ⟨#[104, 97, 110, 100]⟩]⟩,
  ⟨⟨#[105, 115, 95, 101, 110, 100]⟩, none, top 42, F_is_end, [⟨#[112, 114, 111, 103, 114, 97, 109]⟩, ⟨#[115, 116, 97, 116, 101]⟩, ⟨#[114, 111, 119]⟩]⟩,
  ⟨⟨#[105, 115, 95, 104, 97, 110, 100, 115]⟩, none, top 43, F_is_hands, [⟨#[112, 114, 111, 103, 114, 97, 109]⟩, ⟨#[118, 97, 108, 117, 101]⟩, ⟨#[111, 110, 101]⟩]⟩,
  ⟨⟨#[108, 105, 110, 101, 95, 105, 110]⟩, none, top 44, F_line_in, [⟨#[112, 114, 111, 103, 114, 97, 109]⟩, ⟨#[119, 101, 97, 118, 105, 110, 103]⟩, ⟨#[102, 111, 117, 110, 100]⟩, ⟨#[104, 97, 110, 100]⟩]⟩,
  ⟨⟨#[115, 116, 97, 116, 101, 95, 97, 102, 116, 101, 114]⟩, none, top 45, F_state_after, [⟨#[112, 114, 111, 103, 114, 97, 109]⟩, ⟨#[119, 101, 97, 118, 105, 110, 103]⟩, ⟨#[102, 111, 117, 110, 100]⟩]⟩,
  ⟨⟨#[103, 111, 105, 110, 103]⟩, none, top 46, F_going, [⟨#[112, 114, 111, 103, 114, 97, 109]⟩, ⟨#[119, 101, 97, 118, 105, 110, 103]⟩]⟩,
  ⟨⟨#[119, 97, 108, 107, 101, 100]⟩, none, top 47, F_walked, [⟨#[112, 114, 111, 103, 114, 97, 109]⟩, ⟨#[114, 111, 119, 115]⟩, ⟨#[102, 111, 117, 110, 100]⟩, ⟨#[109, 111, 114, 101]⟩, ⟨#[115, 116, 97, 116, 101]⟩, ⟨#[115, 111, 109, 101]⟩, ⟨#[104, 97, 110, 100]⟩, ⟨#[116, 104, 101, 114, 101]⟩, ⟨#[112, 97, 114, 116]⟩, ⟨#[119, 97, 121, 115]⟩, ⟨#[99, 104, 97, 110, 99, 101]⟩]⟩,
  ⟨⟨#[108, 97, 115, 116, 95, 105, 110]⟩, none, top 48, F_last_in, [⟨#[112, 114, 111, 103, 114, 97, 109]⟩, ⟨#[101, 110, 100, 101, 100]⟩, ⟨#[102, 111, 117, 110, 100]⟩, ⟨#[114, 111, 119, 115]⟩, ⟨#[115, 116, 97, 116, 101]⟩]⟩,
  ⟨⟨#[115, 116, 117, 99, 107, 95, 99, 104, 97, 110, 99, 101]⟩, none, top 49, F_stuck_chance, [⟨#[112, 114, 111, 103, 114, 97, 109]⟩, ⟨#[102, 111, 117, 110, 100]⟩, ⟨#[119, 97, 121, 115]⟩, ⟨#[99, 104, 97, 110, 99, 101]⟩]⟩,
  ⟨⟨#[105, 115, 95, 98, 101, 110, 116]⟩, none, top 51, F_is_bent, [⟨#[112, 114, 111, 103, 114, 97, 109]⟩, ⟨#[110, 97, 109, 101]⟩, ⟨#[105, 116, 101, 109]⟩, ⟨#[115, 116, 97, 110, 100, 115]⟩, ⟨#[115, 119, 105, 116, 99, 104]⟩, ⟨#[115, 116, 97, 110, 100]⟩, ⟨#[111, 116, 104, 101, 114]⟩, ⟨#[111, 110, 101]⟩]⟩,
  ⟨⟨#[98, 101, 110, 116]⟩, none, top 52, F_bent, [⟨#[112, 114, 111, 103, 114, 97, 109]⟩, ⟨#[102, 111, 117, 110, 100]⟩, ⟨#[110, 97, 109, 101]⟩]⟩,
  ⟨⟨#[105, 115, 95, 115, 116, 114, 97, 105, 103, 104, 116]⟩, none, top 53, F_is_straight, [⟨#[112, 114, 111, 103, 114, 97, 109]⟩]⟩,
  ⟨⟨#[110, 101, 101, 100, 95, 115, 116, 114, 97, 105, 103, 104, 116]⟩, none, top 54, F_need_straight_v2, [⟨#[112, 114, 111, 103, 114, 97, 109]⟩]⟩,
  ⟨⟨#[99, 104, 97, 110, 103, 101]⟩, none, top 55, F_change, [⟨#[112, 114, 111, 103, 114, 97, 109]⟩, ⟨#[115, 119, 105, 116, 99, 104]⟩, ⟨#[115, 116, 97, 110, 100]⟩, ⟨#[102, 111, 117, 110, 100]⟩, ⟨#[110, 97, 109, 101]⟩, ⟨#[116, 104, 101, 114, 101]⟩]⟩,
  ⟨⟨#[103, 117, 97, 114, 100, 95, 98, 101, 102, 111, 114, 101, 115]⟩, none, top 56, F_guard_befores, [⟨#[112, 114, 111, 103, 114, 97, 109]⟩, ⟨#[110, 97, 109, 101]⟩, ⟨#[102, 111, 117, 110, 100]⟩, ⟨#[115, 119, 105, 116, 99, 104]⟩, ⟨#[115, 116, 97, 110, 100]⟩, ⟨#[109, 97, 107, 101, 114]⟩, ⟨#[116, 97, 107, 101, 114]⟩]⟩,
  ⟨⟨#[98, 101, 102, 111, 114, 101, 115, 95, 105, 110]⟩, none, top 57, F_befores_in, [⟨#[112, 114, 111, 103, 114, 97, 109]⟩, ⟨#[102, 111, 117, 110, 100]⟩, ⟨#[110, 97, 109, 101]⟩, ⟨#[105, 116, 101, 109]⟩, ⟨#[111, 116, 104, 101, 114]⟩]⟩,
  ⟨⟨#[98, 101, 102, 111, 114, 101, 115]⟩, none, top 58, F_befores, [⟨#[112, 114, 111, 103, 114, 97, 109]⟩]⟩,
  ⟨⟨#[104, 111, 112, 101, 108, 101, 115, 115, 95, 105, 110]⟩, none, top 59, F_hopeless_in, [⟨#[112, 114, 111, 103, 114, 97, 109]⟩, ⟨#[102, 111, 117, 110, 100]⟩, ⟨#[110, 97, 109, 101]⟩, ⟨#[105, 116, 101, 109]⟩, ⟨#[108, 97, 99, 107, 115]⟩, ⟨#[115, 119, 105, 116, 99, 104]⟩, ⟨#[115, 116, 97, 110, 100]⟩]⟩,
  ⟨⟨#[114, 105, 110, 103, 95, 105, 110]⟩, none, top 60, F_ring_in, [⟨#[112, 114, 111, 103, 114, 97, 109]⟩, ⟨#[112, 97, 105, 114, 115]⟩, ⟨#[108, 105, 110, 101]⟩, ⟨#[108, 101, 102, 116]⟩, ⟨#[103, 111, 105, 110, 103]⟩, ⟨#[101, 110, 100, 115]⟩, ⟨#[97, 104, 101, 97, 100]⟩, ⟨#[111, 110, 101]⟩, ⟨#[111, 116, 104, 101, 114]⟩, ⟨#[115, 111, 114, 116]⟩, ⟨#[110, 97, 109, 101]⟩]⟩,
  ⟨⟨#[101, 110, 100, 115, 95, 105, 110]⟩, none, top 61, F_ends_in, [⟨#[112, 114, 111, 103, 114, 97, 109]⟩]⟩,
  ⟨⟨#[99, 97, 110, 95, 101, 110, 100]⟩, none, top 62, F_can_end, [⟨#[112, 114, 111, 103, 114, 97, 109]⟩]⟩,
  ⟨⟨#[110, 101, 101, 100, 95, 101, 110, 100, 105, 110, 103]⟩, none, top 63, F_need_ending_v2, [⟨#[112, 114, 111, 103, 114, 97, 109]⟩]⟩,
  ⟨⟨#[108, 101, 97, 115, 116, 95, 101, 110, 100, 105, 110, 103]⟩, none, top 64, F_least_ending, [⟨#[112, 114, 111, 103, 114, 97, 109]⟩, ⟨#[112, 97, 105, 114, 115]⟩, ⟨#[100, 111, 110, 101]⟩, ⟨#[102, 111, 117, 110, 100]⟩, ⟨#[104, 97, 110, 100]⟩, ⟨#[114, 111, 119]⟩, ⟨#[110, 97, 109, 101]⟩, ⟨#[111, 110, 101]⟩, ⟨#[111, 116, 104, 101, 114]⟩, ⟨#[115, 111, 114, 116]⟩]⟩,
  ⟨⟨#[101, 110, 100, 105, 110, 103]⟩, none, top 65, F_ending, [⟨#[112, 114, 111, 103, 114, 97, 109]⟩]⟩,
  ⟨⟨#[99, 108, 111, 115, 101, 100]⟩, none, top 67, F_closed, [⟨#[112, 114, 111, 103, 114, 97, 109]⟩, ⟨#[110, 97, 109, 101]⟩, ⟨#[109, 111, 118, 101, 100]⟩, ⟨#[110, 97, 109, 101, 115]⟩, ⟨#[97, 104, 101, 97, 100]⟩, ⟨#[109, 111, 114, 101]⟩, ⟨#[111, 110, 101]⟩, ⟨#[111, 116, 104, 101, 114]⟩, ⟨#[115, 111, 114, 116]⟩, ⟨#[102, 97, 114]⟩]⟩,
  ⟨⟨#[105, 115, 95, 98, 101, 102, 111, 114, 101]⟩, none, top 68, F_is_before, [⟨#[112, 114, 111, 103, 114, 97, 109]⟩, ⟨#[111, 110, 101]⟩, ⟨#[111, 116, 104, 101, 114]⟩]⟩,
  ⟨⟨#[115, 116, 101, 112, 115, 95, 105, 110]⟩, none, top 69, F_steps_in, [⟨#[112, 114, 111, 103, 114, 97, 109]⟩, ⟨#[111, 116, 104, 101, 114]⟩, ⟨#[97, 104, 101, 97, 100]⟩, ⟨#[102, 111, 117, 110, 100]⟩, ⟨#[111, 110, 101]⟩, ⟨#[110, 97, 109, 101]⟩]⟩,
  ⟨⟨#[108, 111, 111, 115, 101, 95, 105, 110]⟩, none, top 70, F_loose_in, [⟨#[112, 114, 111, 103, 114, 97, 109]⟩, ⟨#[119, 97, 105, 116, 101, 100]⟩, ⟨#[115, 116, 101, 112]⟩, ⟨#[111, 110, 101]⟩, ⟨#[111, 116, 104, 101, 114]⟩, ⟨#[115, 111, 114, 116]⟩]⟩,
  ⟨⟨#[110, 101, 101, 100, 95, 115, 97, 102, 101]⟩, none, top 71, F_need_safe_v2, [⟨#[112, 114, 111, 103, 114, 97, 109]⟩]⟩,
  ⟨⟨#[111, 114, 100, 101, 114, 95, 111, 102]⟩, none, top 72, F_order_of, [⟨#[112, 114, 111, 103, 114, 97, 109]⟩, ⟨#[110, 97, 109, 101, 115]⟩, ⟨#[97, 104, 101, 97, 100]⟩, ⟨#[100, 111, 110, 101]⟩, ⟨#[102, 111, 117, 110, 100]⟩, ⟨#[102, 105, 116, 115]⟩, ⟨#[110, 97, 109, 101]⟩, ⟨#[111, 110, 101]⟩]⟩,
  ⟨⟨#[115, 116, 117, 99, 107, 95, 105, 110]⟩, none, top 73, F_stuck_in, [⟨#[112, 114, 111, 103, 114, 97, 109]⟩, ⟨#[115, 111, 109, 101]⟩, ⟨#[110, 97, 109, 101, 115]⟩, ⟨#[102, 111, 117, 110, 100]⟩, ⟨#[115, 116, 97, 116, 101]⟩, ⟨#[111, 116, 104, 101, 114]⟩, ⟨#[97, 104, 101, 97, 100]⟩, ⟨#[111, 110, 101]⟩, ⟨#[116, 104, 101, 110]⟩, ⟨#[115, 111, 114, 116]⟩]⟩,
  ⟨⟨#[115, 116, 117, 99, 107, 95, 119, 97, 121]⟩, none, top 74, F_stuck_way, [⟨#[112, 114, 111, 103, 114, 97, 109]⟩]⟩,
  ⟨⟨#[112, 117, 116, 95, 105, 110]⟩, none, top 75, F_put_in, [⟨#[112, 114, 111, 103, 114, 97, 109]⟩, ⟨#[112, 97, 105, 114, 115]⟩, ⟨#[115, 105, 103, 110, 97, 108, 115]⟩, ⟨#[114, 111, 119, 115]⟩, ⟨#[104, 97, 110, 100]⟩, ⟨#[114, 111, 119]⟩, ⟨#[105, 116, 101, 109, 115]⟩, ⟨#[105, 110, 100, 101, 120]⟩, ⟨#[105, 116, 101, 109]⟩, ⟨#[112, 97, 105, 114]⟩, ⟨#[115, 105, 103, 110, 97, 108]⟩]⟩,
  ⟨⟨#[119, 105, 116, 104, 95, 115, 105, 103, 110, 97, 108, 115]⟩, none, top 76, F_with_signals, [⟨#[112, 114, 111, 103, 114, 97, 109]⟩, ⟨#[112, 97, 105, 114, 115]⟩, ⟨#[107, 110, 111, 119, 110]⟩, ⟨#[102, 114, 101, 101]⟩, ⟨#[115, 105, 103, 110, 97, 108]⟩]⟩,
  ⟨⟨#[119, 105, 116, 104, 111, 117, 116]⟩, none, top 77, F_without, [⟨#[112, 114, 111, 103, 114, 97, 109]⟩, ⟨#[115, 105, 103, 110, 97, 108]⟩, ⟨#[114, 111, 119, 115]⟩, ⟨#[114, 111, 119]⟩, ⟨#[105, 116, 101, 109]⟩]⟩,
  ⟨⟨#[119, 105, 116, 104, 111, 117, 116, 95, 115, 105, 103, 110, 97, 108]⟩, none, top 78, F_without_signal_v2, [⟨#[112, 114, 111, 103, 114, 97, 109]⟩, ⟨#[115, 105, 103, 110, 97, 108]⟩]⟩,
  ⟨⟨#[100, 101, 101, 100, 95, 111, 114, 100, 101, 114]⟩, none, top 79, F_deed_order, [⟨#[112, 114, 111, 103, 114, 97, 109]⟩, ⟨#[110, 97, 109, 101]⟩, ⟨#[97, 104, 101, 97, 100]⟩, ⟨#[102, 111, 117, 110, 100]⟩, ⟨#[111, 110, 101]⟩]⟩,
  ⟨⟨#[110, 101, 101, 100, 108, 101, 115, 115]⟩, none, top 80, F_needless, [⟨#[112, 114, 111, 103, 114, 97, 109]⟩, ⟨#[102, 111, 117, 110, 100]⟩, ⟨#[115, 105, 103, 110, 97, 108]⟩, ⟨#[111, 116, 104, 101, 114]⟩]⟩,
  ⟨⟨#[100, 101, 101, 100, 115, 95, 111, 102]⟩, none, top 81, F_deeds_of, [⟨#[112, 114, 111, 103, 114, 97, 109]⟩, ⟨#[110, 97, 109, 101]⟩]⟩,
  ⟨⟨#[97, 108, 105, 107, 101]⟩, none, top 82, F_alike, [⟨#[112, 114, 111, 103, 114, 97, 109]⟩, ⟨#[111, 116, 104, 101, 114]⟩]⟩,
  ⟨⟨#[108, 101, 118, 101, 108, 115]⟩, none, top 84, F_levels, [⟨#[112, 114, 111, 103, 114, 97, 109]⟩, ⟨#[97, 104, 101, 97, 100]⟩, ⟨#[102, 111, 117, 110, 100]⟩, ⟨#[108, 101, 102, 116]⟩, ⟨#[110, 97, 109, 101]⟩, ⟨#[111, 110, 101]⟩, ⟨#[111, 116, 104, 101, 114]⟩]⟩,
  ⟨⟨#[105, 110, 95, 114, 111, 119, 115]⟩, none, top 85, F_in_rows, [⟨#[112, 114, 111, 103, 114, 97, 109]⟩, ⟨#[116, 111, 108, 100]⟩, ⟨#[102, 111, 117, 110, 100]⟩, ⟨#[104, 97, 110, 100]⟩, ⟨#[114, 111, 119]⟩, ⟨#[105, 110, 100, 101, 120]⟩]⟩,
  ⟨⟨#[98, 101, 97, 116, 115]⟩, none, top 86, F_beats, [⟨#[112, 114, 111, 103, 114, 97, 109]⟩]⟩,
  ⟨⟨#[110, 101, 120, 116, 115]⟩, none, top 88, F_nexts, [⟨#[112, 114, 111, 103, 114, 97, 109]⟩, ⟨#[97, 104, 101, 97, 100]⟩, ⟨#[112, 108, 97, 99, 101, 115]⟩, ⟨#[102, 111, 117, 110, 100]⟩, ⟨#[104, 97, 110, 100]⟩, ⟨#[114, 111, 119]⟩, ⟨#[110, 97, 109, 101]⟩, ⟨#[111, 110, 101]⟩]⟩,
  ⟨⟨#[109, 111, 118, 101, 100]⟩, none, top 89, F_moved, [⟨#[112, 108, 97, 99, 101, 115]⟩, ⟨#[104, 97, 110, 100]⟩]⟩,
  ⟨⟨#[119, 97, 121, 115, 95, 102, 114, 111, 109]⟩, none, top 90, F_ways_from, [⟨#[112, 114, 111, 103, 114, 97, 109]⟩, ⟨#[97, 104, 101, 97, 100]⟩, ⟨#[114, 111, 119, 115]⟩, ⟨#[116, 117, 114, 110]⟩, ⟨#[102, 111, 117, 110, 100]⟩, ⟨#[108, 105, 110, 101]⟩, ⟨#[109, 111, 114, 101]⟩, ⟨#[112, 108, 97, 99, 101, 115]⟩, ⟨#[104, 97, 110, 100]⟩]⟩,
  ⟨⟨#[101, 110, 100, 105, 110, 103, 95, 97, 116]⟩, none, top 91, F_ending_at, [⟨#[112, 114, 111, 103, 114, 97, 109]⟩, ⟨#[105, 110, 100, 101, 120]⟩, ⟨#[97, 104, 101, 97, 100]⟩, ⟨#[107, 110, 111, 119, 110]⟩, ⟨#[116, 117, 114, 110]⟩, ⟨#[112, 108, 97, 99, 101, 115]⟩, ⟨#[102, 111, 117, 110, 100]⟩, ⟨#[108, 101, 102, 116]⟩, ⟨#[104, 97, 110, 100]⟩, ⟨#[119, 97, 121, 115]⟩]⟩,
  ⟨⟨#[101, 110, 100, 105, 110, 103, 95, 110, 117, 109, 98, 101, 114]⟩, none, top 92, F_ending_number, [⟨#[112, 114, 111, 103, 114, 97, 109]⟩, ⟨#[119, 101, 97, 118, 105, 110, 103]⟩, ⟨#[97, 104, 101, 97, 100]⟩, ⟨#[116, 104, 101, 114, 101]⟩, ⟨#[104, 97, 110, 100]⟩, ⟨#[107, 110, 111, 119, 110]⟩, ⟨#[112, 108, 97, 99, 101, 115]⟩, ⟨#[102, 111, 117, 110, 100]⟩, ⟨#[111, 110, 101]⟩]⟩,
  ⟨⟨#[97, 104, 101, 97, 100, 95, 115, 104, 97, 114, 101]⟩, none, top 93, F_ahead_share, [⟨#[112, 114, 111, 103, 114, 97, 109]⟩, ⟨#[111, 110, 101]⟩, ⟨#[111, 116, 104, 101, 114]⟩, ⟨#[97, 104, 101, 97, 100]⟩, ⟨#[107, 110, 111, 119, 110]⟩, ⟨#[116, 117, 114, 110]⟩, ⟨#[114, 111, 119, 115]⟩, ⟨#[102, 111, 117, 110, 100]⟩, ⟨#[109, 111, 114, 101]⟩, ⟨#[112, 108, 97, 99, 101, 115]⟩, ⟨#[104, 97, 110, 100]⟩, ⟨#[116, 104, 101, 114, 101]⟩]⟩,
  ⟨⟨#[116, 117, 114, 110, 101, 100, 95, 105, 116, 101, 109]⟩, none, top 95, F_turned_item, [⟨#[105, 116, 101, 109]⟩]⟩,
  ⟨⟨#[116, 117, 114, 110, 101, 100]⟩, none, top 96, F_turned, [⟨#[112, 114, 111, 103, 114, 97, 109]⟩, ⟨#[115, 116, 97, 110, 100, 115]⟩, ⟨#[114, 111, 119, 115]⟩, ⟨#[115, 119, 105, 116, 99, 104]⟩, ⟨#[115, 116, 97, 110, 100]⟩, ⟨#[114, 111, 119]⟩, ⟨#[105, 116, 101, 109]⟩]⟩,
  ⟨⟨#[119, 105, 116, 104, 95, 104, 97, 110, 100, 115]⟩, none, top 97, F_with_hands_v2, [⟨#[112, 114, 111, 103, 114, 97, 109]⟩, ⟨#[111, 114, 100, 101, 114]⟩, ⟨#[111, 110, 101]⟩, ⟨#[104, 97, 110, 100]⟩]⟩,
  ⟨⟨#[109, 111, 118, 101, 100, 95, 105, 116, 101, 109]⟩, none, top 98, F_moved_item, [⟨#[105, 116, 101, 109]⟩, ⟨#[115, 119, 105, 116, 99, 104, 101, 115]⟩, ⟨#[115, 105, 103, 110, 97, 108, 115]⟩, ⟨#[103, 117, 97, 114, 100]⟩, ⟨#[111, 110, 101]⟩, ⟨#[115, 116, 97, 110, 100]⟩]⟩,
  ⟨⟨#[98, 101, 115, 105, 100, 101]⟩, none, top 99, F_beside, [⟨#[112, 114, 111, 103, 114, 97, 109]⟩, ⟨#[111, 116, 104, 101, 114]⟩, ⟨#[115, 119, 105, 116, 99, 104, 101, 115]⟩, ⟨#[102, 105, 114, 115, 116]⟩, ⟨#[114, 111, 119, 115]⟩, ⟨#[114, 111, 119]⟩, ⟨#[105, 116, 101, 109]⟩]⟩,
  ⟨⟨#[110, 101, 101, 100, 95, 119, 101, 98]⟩, none, top 101, F_need_web_v2, [⟨#[119, 101, 98]⟩, ⟨#[105, 110, 100, 101, 120]⟩, ⟨#[111, 110, 101]⟩, ⟨#[107]⟩]⟩,
  ⟨⟨#[110, 101, 101, 100, 95, 108, 97, 109, 112, 115]⟩, none, top 102, F_need_lamps_v2, [⟨#[119, 101, 98]⟩, ⟨#[108, 97, 109, 112, 115]⟩, ⟨#[105, 110, 100, 101, 120]⟩, ⟨#[111, 110, 101]⟩]⟩,
  ⟨⟨#[110, 101, 101, 100, 95, 116, 104, 114, 101, 101]⟩, none, top 103, F_need_three, [⟨#[119, 101, 98]⟩, ⟨#[111, 110, 101]⟩, ⟨#[111, 116, 104, 101, 114]⟩]⟩,
  ⟨⟨#[97, 104, 101, 97, 100, 95, 111, 102]⟩, none, top 104, F_ahead_of, [⟨#[119, 101, 98]⟩, ⟨#[108, 97, 109, 112]⟩, ⟨#[102, 105, 114, 115, 116]⟩, ⟨#[115, 101, 99, 111, 110, 100]⟩]⟩,
  ⟨⟨#[98, 101, 104, 105, 110, 100]⟩, none, top 105, F_behind, [⟨#[119, 101, 98]⟩, ⟨#[108, 97, 109, 112]⟩, ⟨#[102, 105, 114, 115, 116]⟩, ⟨#[115, 101, 99, 111, 110, 100]⟩]⟩,
  ⟨⟨#[115, 112, 97, 114, 101, 95, 105, 110]⟩, none, top 106, F_spare_in, [⟨#[119, 101, 98]⟩, ⟨#[111, 110, 101]⟩, ⟨#[111, 116, 104, 101, 114]⟩, ⟨#[102, 111, 117, 110, 100]⟩, ⟨#[108, 105, 116]⟩, ⟨#[111, 117, 116]⟩, ⟨#[110, 101, 97, 114]⟩, ⟨#[108, 97, 109, 112]⟩, ⟨#[109, 111, 114, 101]⟩]⟩,
  ⟨⟨#[115, 112, 97, 114, 101]⟩, none, top 107, F_spare, [⟨#[119, 101, 98]⟩, ⟨#[111, 110, 101]⟩, ⟨#[111, 116, 104, 101, 114]⟩]⟩,
  ⟨⟨#[110, 101, 101, 100, 95, 111, 119, 110, 101, 114, 115]⟩, none, top 108, F_need_owners_v2, [⟨#[119, 101, 98]⟩, ⟨#[111, 119, 110, 101, 114, 115]⟩, ⟨#[111, 110, 101]⟩]⟩,
  ⟨⟨#[112, 108, 97, 105, 110, 95, 105, 110]⟩, none, top 109, F_plain_in, [⟨#[119, 101, 98]⟩, ⟨#[111, 110, 101]⟩, ⟨#[111, 116, 104, 101, 114]⟩, ⟨#[111, 119, 110, 101, 114, 115]⟩, ⟨#[101, 120, 116, 114, 97]⟩, ⟨#[114, 111, 119, 115]⟩, ⟨#[108, 97, 109, 112]⟩, ⟨#[104, 97, 110, 100]⟩, ⟨#[103, 117, 97, 114, 100]⟩, ⟨#[114, 111, 119]⟩, ⟨#[110, 101, 97, 114]⟩]⟩,
  ⟨⟨#[110, 101, 101, 100, 95, 109, 97, 100, 101]⟩, none, top 110, F_need_made, [⟨#[119, 101, 98]⟩, ⟨#[111, 110, 101]⟩, ⟨#[111, 116, 104, 101, 114]⟩, ⟨#[111, 119, 110, 101, 114, 115]⟩]⟩,
  ⟨⟨#[112, 108, 97, 105, 110, 95, 112, 114, 111, 103, 114, 97, 109]⟩, none, top 111, F_plain_program, [⟨#[119, 101, 98]⟩, ⟨#[111, 110, 101]⟩, ⟨#[111, 116, 104, 101, 114]⟩, ⟨#[111, 119, 110, 101, 114, 115]⟩]⟩,
  ⟨⟨#[109, 97, 100, 101]⟩, none, top 112, F_made, [⟨#[119, 101, 98]⟩, ⟨#[111, 110, 101]⟩, ⟨#[111, 116, 104, 101, 114]⟩, ⟨#[111, 119, 110, 101, 114, 115]⟩, ⟨#[112, 114, 111, 103, 114, 97, 109]⟩, ⟨#[112, 97, 105, 114, 115]⟩, ⟨#[114, 111, 119]⟩]⟩,
  ⟨⟨#[110, 101, 101, 100, 95, 119, 105, 115, 104]⟩, none, top 114, F_need_wish_v2, [⟨#[112, 114, 111, 103, 114, 97, 109]⟩, ⟨#[119, 105, 115, 104]⟩, ⟨#[111, 110, 101]⟩]⟩,
  ⟨⟨#[99, 104, 111, 105, 99, 101, 115]⟩, none, top 115, F_choices, [⟨#[112, 114, 111, 103, 114, 97, 109]⟩, ⟨#[119, 105, 115, 104]⟩, ⟨#[102, 111, 117, 110, 100]⟩, ⟨#[115, 119, 105, 116, 99, 104]⟩, ⟨#[115, 116, 97, 110, 100]⟩, ⟨#[102, 105, 114, 115, 116]⟩, ⟨#[115, 101, 99, 111, 110, 100]⟩, ⟨#[98, 97, 114]⟩, ⟨#[101, 97, 114, 108, 121]⟩, ⟨#[108, 97, 116, 101]⟩, ⟨#[100, 111, 110, 101]⟩, ⟨#[98, 97, 114, 115]⟩]⟩,
  ⟨⟨#[109, 111, 109, 101, 110, 116, 95, 105, 110]⟩, none, top 116, F_moment_in, [⟨#[112, 114, 111, 103, 114, 97, 109]⟩, ⟨#[119, 105, 115, 104]⟩, ⟨#[97, 104, 101, 97, 100]⟩, ⟨#[100, 111, 110, 101]⟩, ⟨#[98, 97, 114, 115]⟩, ⟨#[110, 97, 109, 101, 115]⟩, ⟨#[110, 97, 109, 101]⟩]⟩,
  ⟨⟨#[109, 97, 121, 95, 98, 101]⟩, none, top 117, F_may_be, [⟨#[112, 114, 111, 103, 114, 97, 109]⟩, ⟨#[119, 105, 115, 104]⟩]⟩,
  ⟨⟨#[115, 104, 111, 119, 115, 95, 109, 111, 109, 101, 110, 116]⟩, none, top 118, F_shows_moment, [⟨#[112, 114, 111, 103, 114, 97, 109]⟩, ⟨#[119, 105, 115, 104]⟩, ⟨#[118, 97, 108, 117, 101]⟩, ⟨#[116, 104, 101, 114, 101]⟩, ⟨#[115, 119, 105, 116, 99, 104]⟩, ⟨#[115, 116, 97, 110, 100]⟩]⟩,
  ⟨⟨#[82, 101, 97, 100, 101, 114, 46, 95, 95, 105, 110, 105, 116, 95, 95]⟩, some (⟨#[82, 101, 97, 100, 101, 114]⟩, ⟨#[95, 95, 105, 110, 105, 116, 95, 95]⟩), methSt (top 121) 0, F_Reader___init__, [⟨#[115, 101, 108, 102]⟩, ⟨#[116, 101, 120, 116]⟩]⟩,
  ⟨⟨#[82, 101, 97, 100, 101, 114, 46, 115, 105, 103, 110]⟩, some (⟨#[82, 101, 97, 100, 101, 114]⟩, ⟨#[115, 105, 103, 110]⟩), methSt (top 121) 1, F_Reader_sign, [⟨#[115, 101, 108, 102]⟩]⟩,
  ⟨⟨#[82, 101, 97, 100, 101, 114, 46, 115, 107, 105, 112]⟩, some (⟨#[82, 101, 97, 100, 101, 114]⟩, ⟨#[115, 107, 105, 112]⟩), methSt (top 121) 2, F_Reader_skip, [⟨#[115, 101, 108, 102]⟩]⟩,
  ⟨⟨#[82, 101, 97, 100, 101, 114, 46, 98, 101, 103, 105, 110]⟩, some (⟨#[82, 101, 97, 100, 101, 114]⟩, ⟨#[98, 101, 103, 105, 110]⟩), methSt (top 121) 3, F_Reader_begin_v2, [⟨#[115, 101, 108, 102]⟩, ⟨#[102, 111, 117, 110, 100]⟩]⟩,
  ⟨⟨#[82, 101, 97, 100, 101, 114, 46, 115, 116, 97, 110, 100]⟩, some (⟨#[82, 101, 97, 100, 101, 114]⟩, ⟨#[115, 116, 97, 110, 100]⟩), methSt (top 121) 4, F_Reader_stand_v2, [⟨#[115, 101, 108, 102]⟩, ⟨#[108, 97, 115, 116]⟩, ⟨#[111, 119, 110]⟩, ⟨#[115, 119, 105, 116, 99, 104]⟩]⟩,
  ⟨⟨#[82, 101, 97, 100, 101, 114, 46, 103, 117, 97, 114, 100]⟩, some (⟨#[82, 101, 97, 100, 101, 114]⟩, ⟨#[103, 117, 97, 114, 100]⟩), methSt (top 121) 5, F_Reader_guard_v2, [⟨#[115, 101, 108, 102]⟩, ⟨#[111, 119, 110]⟩, ⟨#[102, 111, 117, 110, 100]⟩]⟩,
  ⟨⟨#[82, 101, 97, 100, 101, 114, 46, 115, 105, 103, 110, 97, 108]⟩, some (⟨#[82, 101, 97, 100, 101, 114]⟩, ⟨#[115, 105, 103, 110, 97, 108]⟩), methSt (top 121) 6, F_Reader_signal_v2, [⟨#[115, 101, 108, 102]⟩, ⟨#[115, 116, 97, 114, 116]⟩, ⟨#[102, 111, 117, 110, 100]⟩]⟩,
  ⟨⟨#[82, 101, 97, 100, 101, 114, 46, 105, 116, 101, 109]⟩, some (⟨#[82, 101, 97, 100, 101, 114]⟩, ⟨#[105, 116, 101, 109]⟩), methSt (top 121) 7, F_Reader_item_v2, [⟨#[115, 101, 108, 102]⟩, ⟨#[107, 105, 110, 100]⟩, ⟨#[102, 111, 117, 110, 100]⟩, ⟨#[115, 119, 105, 116, 99, 104]⟩, ⟨#[115, 116, 97, 110, 100]⟩]⟩,
  ⟨⟨#[82, 101, 97, 100, 101, 114, 46, 114, 111, 119]⟩, some (⟨#[82, 101, 97, 100, 101, 114]⟩, ⟨#[114, 111, 119]⟩), methSt (top 121) 8, F_Reader_row, [⟨#[115, 101, 108, 102]⟩, ⟨#[102, 111, 117, 110, 100]⟩]⟩,
  ⟨⟨#[114, 101, 97, 100, 95, 112, 114, 111, 103, 114, 97, 109]⟩, none, top 122, F_read_program_v2, [⟨#[116, 101, 120, 116]⟩, ⟨#[114, 101, 97, 100, 101, 114]⟩, ⟨#[115, 116, 97, 114, 116]⟩, ⟨#[114, 111, 119, 115]⟩]⟩,
  ⟨⟨#[95, 108, 97, 119, 95, 101, 114, 114, 111, 114, 49]⟩, none, top 124, F__law_error1, [⟨#[95, 108, 97, 119, 95, 119, 111, 114, 107]⟩, ⟨#[95, 108, 97, 119, 95, 102, 111, 117, 110, 100]⟩, ⟨#[101, 114, 114, 111, 114]⟩, ⟨#[95, 108, 97, 119, 95, 107, 110, 111, 119, 110]⟩, ⟨#[95, 108, 97, 119, 95, 119, 111, 114, 100, 115]⟩, ⟨#[95, 108, 97, 119, 95, 119, 111, 114, 100]⟩, ⟨#[95, 108, 97, 119, 95, 102, 105, 101, 108, 100]⟩]⟩,
  ⟨⟨#[108, 97, 119]⟩, none, top 125, F_law, [⟨#[95, 108, 97, 119, 95, 115, 99, 114, 105, 112, 116]⟩, ⟨#[95, 108, 97, 119, 95, 114, 111, 119]⟩, ⟨#[95, 108, 97, 119, 95, 116, 111, 108, 100]⟩, ⟨#[95, 108, 97, 119, 95, 99, 114, 111, 111, 107, 101, 100]⟩, ⟨#[95, 108, 97, 119, 95, 114, 105, 110, 103, 101, 100]⟩, ⟨#[95, 108, 97, 119, 95, 111, 112, 101, 110, 95, 111, 110, 101]⟩, ⟨#[95, 108, 97, 119, 95, 102, 105, 110, 101]⟩, ⟨#[95, 108, 97, 119, 95, 119, 111, 114, 100]⟩, ⟨#[95, 108, 97, 119, 95, 102, 105, 101, 108, 100]⟩]⟩]
def tabI : Tbl := [(452907198830, F_is_in), (6775652, F_gcd), (32199629485598052, F_reduced), (1886156147, F_plus), (499984983411, F_times), (7598521894259749476, F_is_guard), (29681726182942061, F_is_item), (34165931398695334765290217837, F_need_program_v2), (1797146899509936483699, F_all_items), (29682851530105204, F_item_at), (2036448204439483082093, F_need_item_v2), (7234299858547339118, F_deeds_on), (545016506659300467240806, F_signals_of), (123808393329597252594922597, F_first_state), (109270114723695, F_can_go), (1735356005, F_gone), (7453291831223085422, F_going_in), (115944242638436, F_is_end), (7598521898220020851, F_is_hands), (30515220352821614, F_line_in), (139576061489085136745293170, F_state_after), (444250812007, F_going), (131260314510692, F_walked), (30506445986294126, F_last_in), (35731565875373150918159524709, F_stuck_chance), (29681726064520820, F_is_bent), (1650814580, F_bent), (127482043965153249317054580, F_is_straight), (8746478438066222438918977448052, F_need_straight_v2), (109299962373989, F_change), (8196828291124153386188233926003, F_guard_befores), (464662417716764232083822, F_befores_in), (27696038348481907, F_befores), (126254541263184062104693102, F_hopeless_in), (32204070246639982, F_ring_in), (28550350359193966, F_ends_in), (27973149369134692, F_can_end), (133460669526141539434720871, F_need_ending_v2), (33546942767796284357098434151, F_least_ending), (111524805439079, F_ending), (109317377451364, F_closed), (1945221599364301943397, F_is_before), (8319385945306524014, F_steps_in), (7813586419923773806, F_loose_in), (2036448204439649609317, F_need_safe_v2), (8030591472428347238, F_order_of), (8319403481523775854, F_stuck_in), (2129767291270087532921, F_stuck_way), (123649765894510, F_put_in), (36956203099650952735110556787, F_with_signals), (33611470917825908, F_without), (2421961726414320386049533629325676, F_without_signal_v2), (474107075507836953060722, F_deed_order), (7954875798809572211, F_needless), (7234299858547339110, F_deeds_of), (418430675813, F_alike), (119183033855091, F_levels), (29676228775475059, F_in_rows), (422607680627, F_beats), (474148795507, F_nexts), (470021465444, F_moved), (2202186316718875504493, F_ways_from), (1871075750209409474932, F_ending_at), (8036209155488078860605253117298, F_ending_number), (117758800755827986340606565, F_ahead_share), (140790022837491813418558829, F_turned_item), (128047779833188, F_turned), (563906907648435176760435, F_with_hands_v2), (516794066560403165701485, F_moved_item), (108187867505765, F_beside), (7954875798592644450, F_need_web_v2), (521330740336520235675763, F_need_lamps_v2), (521330740336554713179493, F_need_three), (7018971488227127142, F_ahead_of), (108187682958948, F_behind), (8318255655708223854, F_spare_in), (495806673509, F_spare), (133460669526152573373215347, F_need_owners_v2), (8100956935183886702, F_plain_in), (2036448204439548945509, F_need_made), (8907096346347313368803740639597, F_plain_program), (1835099237, F_made), (2036448204439717245800, F_need_wish_v2), (27980850413135219, F_choices), (2018724289270085806446, F_moment_in), (120265415549541, F_may_be), (35717030800850231402068012660, F_shows_moment), (427824581972730263010252373783502687, F_Reader___init__), (99610672791658496589916014, F_Reader_sign), (99610672791658496590047600, F_Reader_skip), (25500332234664575053936945518, F_Reader_begin_v2), (25500332234664575127202655844, F_Reader_stand_v2), (25500332234664575075679826532, F_Reader_guard_v2), (6528085052074131232516735918444, F_Reader_signal_v2), (99610672791658496422864237, F_Reader_item_v2), (389104190592416002240375, F_Reader_row), (35403852548514783561608487277, F_read_program_v2), (115359766379420198628192817, F__law_error1), (7102839, F_law)]
def cons : List (Str × VI.D) := [(⟨#[77, 79, 83, 84, 95, 72, 65, 78, 68, 83]⟩, VI.D.int 4), (⟨#[77, 79, 83, 84, 95, 73, 84, 69, 77, 83]⟩, VI.D.int 24), (⟨#[77, 79, 83, 84, 95, 83, 73, 71, 78, 65, 76]⟩, VI.D.int 31), (⟨#[77, 79, 83, 84, 95, 83, 87, 73, 84, 67, 72, 69, 83]⟩, VI.D.int 8), (⟨#[68, 73, 71, 73, 84, 83]⟩, VI.D.str ⟨#[48, 49, 50, 51, 52, 53, 54, 55, 56, 57]⟩)]
def clss : Cls0 := [(⟨#[82, 101, 97, 100, 101, 114]⟩, [⟨#[116, 101, 120, 116]⟩, ⟨#[97, 116]⟩, ⟨#[109, 97, 110, 121]⟩, ⟨#[114, 101, 97, 100]⟩])]
def ers : Ers := [(⟨#[66, 97, 100, 80, 114, 111, 103, 114, 97, 109]⟩, some ⟨#[112, 108, 97, 99, 101]⟩), (⟨#[66, 97, 100, 87, 101, 97, 118, 105, 110, 103]⟩, some ⟨#[105, 110, 100, 101, 120]⟩), (⟨#[66, 97, 100, 73, 116, 101, 109]⟩, none), (⟨#[66, 97, 100, 83, 116, 97, 110, 100, 115]⟩, none), (⟨#[66, 97, 100, 83, 105, 103, 110, 97, 108]⟩, none), (⟨#[66, 97, 100, 87, 101, 98]⟩, some ⟨#[105, 110, 100, 101, 120]⟩), (⟨#[66, 97, 100, 76, 97, 109, 112, 115]⟩, some ⟨#[105, 110, 100, 101, 120]⟩), (⟨#[66, 97, 100, 79, 119, 110, 101, 114, 115]⟩, none), (⟨#[66, 97, 100, 79, 114, 100, 101, 114]⟩, none), (⟨#[78, 111, 116, 83, 116, 114, 97, 105, 103, 104, 116]⟩, none), (⟨#[78, 101, 118, 101, 114, 69, 110, 100, 115]⟩, none), (⟨#[78, 111, 116, 83, 97, 102, 101]⟩, none), (⟨#[66, 97, 100, 67, 111, 117, 110, 116]⟩, none), (⟨#[78, 111, 116, 84, 101, 120, 116]⟩, none), (⟨#[84, 111, 111, 77, 97, 110, 121]⟩, some ⟨#[109, 111, 115, 116]⟩), (⟨#[73, 110, 118, 97, 108, 105, 100, 84, 101, 120, 116]⟩, some ⟨#[112, 108, 97, 99, 101]⟩)]
def lms : List Str := [⟨#[108, 97, 119]⟩]
end VI

set_option Elab.async false
set_option linter.all false
set_option maxRecDepth 100000
set_option maxHeartbeats 4000000
namespace VI
open PySem PySem.Spec PyProof.Rows L2
abbrev fnH : List He.DefD := tab.map En.dd
abbrev faH : List He.Fa := faOf tab cons clss
abbrev R : PySem.W.OpenRow := PySem.W.OpenLaw.row PySem.Challenge.rw_handguards_k35_order_of_errors
abbrev exH : PySem.W.Frag → Bool := ersB R.prog ers
def hk : PySem.W.Hook := hookZ 4 faH fnH exH lms
def ob (s : PySem.W.SharedT) : AlZ := obsZ 4 faH fnH exH lms (HandSHeadRun.getT s)
theorem ob_eq (s : PySem.W.SharedT) : ob s = hk.obs s.abs := obsZ_eq (HandSHeadRun.getT_eq s)
section
open PySem.W PySem.Calls
def qH : Program := PySem.W.view R.prog [125]
def looseH : List PySem.Str := [("HandError" : PySem.Str), ("BadProgram" : PySem.Str), ("BadWeaving" : PySem.Str), ("BadItem" : PySem.Str), ("BadStands" : PySem.Str), ("BadSignal" : PySem.Str), ("BadWeb" : PySem.Str), ("BadLamps" : PySem.Str), ("BadOwners" : PySem.Str), ("BadOrder" : PySem.Str), ("NotStraight" : PySem.Str), ("NeverEnds" : PySem.Str), ("NotSafe" : PySem.Str), ("BadCount" : PySem.Str), ("NotText" : PySem.Str), ("InvalidText" : PySem.Str), ("TooMany" : PySem.Str), ("is_in" : PySem.Str), ("gcd" : PySem.Str), ("reduced" : PySem.Str), ("plus" : PySem.Str), ("times" : PySem.Str), ("MOST_SWITCHES" : PySem.Str), ("MOST_HANDS" : PySem.Str), ("MOST_ITEMS" : PySem.Str), ("MOST_SIGNAL" : PySem.Str), ("is_guard" : PySem.Str), ("is_item" : PySem.Str), ("need_program" : PySem.Str), ("all_items" : PySem.Str), ("item_at" : PySem.Str), ("need_item" : PySem.Str), ("deeds_on" : PySem.Str), ("signals_of" : PySem.Str), ("first_state" : PySem.Str), ("can_go" : PySem.Str), ("gone" : PySem.Str), ("going_in" : PySem.Str), ("is_end" : PySem.Str), ("is_hands" : PySem.Str), ("line_in" : PySem.Str), ("state_after" : PySem.Str), ("going" : PySem.Str), ("walked" : PySem.Str), ("last_in" : PySem.Str), ("stuck_chance" : PySem.Str), ("is_bent" : PySem.Str), ("bent" : PySem.Str), ("is_straight" : PySem.Str), ("need_straight" : PySem.Str), ("change" : PySem.Str), ("guard_befores" : PySem.Str), ("befores_in" : PySem.Str), ("befores" : PySem.Str), ("hopeless_in" : PySem.Str), ("ring_in" : PySem.Str), ("ends_in" : PySem.Str), ("can_end" : PySem.Str), ("need_ending" : PySem.Str), ("least_ending" : PySem.Str), ("ending" : PySem.Str), ("closed" : PySem.Str), ("is_before" : PySem.Str), ("steps_in" : PySem.Str), ("loose_in" : PySem.Str), ("need_safe" : PySem.Str), ("order_of" : PySem.Str), ("stuck_in" : PySem.Str), ("stuck_way" : PySem.Str), ("put_in" : PySem.Str), ("with_signals" : PySem.Str), ("without" : PySem.Str), ("without_signal" : PySem.Str), ("deed_order" : PySem.Str), ("needless" : PySem.Str), ("deeds_of" : PySem.Str), ("alike" : PySem.Str), ("levels" : PySem.Str), ("in_rows" : PySem.Str), ("beats" : PySem.Str), ("nexts" : PySem.Str), ("moved" : PySem.Str), ("ways_from" : PySem.Str), ("ending_at" : PySem.Str), ("ending_number" : PySem.Str), ("ahead_share" : PySem.Str), ("turned_item" : PySem.Str), ("turned" : PySem.Str), ("with_hands" : PySem.Str), ("moved_item" : PySem.Str), ("beside" : PySem.Str), ("need_web" : PySem.Str), ("need_lamps" : PySem.Str), ("need_three" : PySem.Str), ("ahead_of" : PySem.Str), ("behind" : PySem.Str), ("spare_in" : PySem.Str), ("spare" : PySem.Str), ("need_owners" : PySem.Str), ("plain_in" : PySem.Str), ("need_made" : PySem.Str), ("plain_program" : PySem.Str), ("made" : PySem.Str), ("need_wish" : PySem.Str), ("choices" : PySem.Str), ("moment_in" : PySem.Str), ("may_be" : PySem.Str), ("shows_moment" : PySem.Str), ("DIGITS" : PySem.Str), ("Reader" : PySem.Str), ("read_program" : PySem.Str), ("_law_error1" : PySem.Str)]
def kOf (s : SharedT) : PySem.W.Frag := kZ 4 (HandSHeadRun.getT s)
theorem runA (w : World) (os : OsState) : (HandSHeadRun.endF (HandSHeadRun.stepQ (HandSHeadRun.denQ HandSHeadRun.tabQ) R.prog w) 8000 R.prog w os).map (fun s => (HandSHeadRun.looksF R.prog (boot_heap w.params) s.abs, HandSHeadRun.seenQ qH looseH (importedModules R.prog.main.body) (fun s => xlAt qH [] s && recOk R.toRowW.records s) s.abs)) = some (true, openGood qH looseH) := by
  kernel_rfl
theorem runB (w : World) (os : OsState) : (HandSHeadRun.endF (HandSHeadRun.stepQ (HandSHeadRun.denQ HandSHeadRun.tabQ) R.prog w) 8000 R.prog w os).map (fun s => faH.all fun f => f.ok (kOf s)) = some true := by
  kernel_rfl
theorem runC (w : World) (os : OsState) : (HandSHeadRun.endF (HandSHeadRun.stepQ (HandSHeadRun.denQ HandSHeadRun.tabQ) R.prog w) 8000 R.prog w os).map (fun s => (fnH.all fun d => d.ok (kOf s), exH (kOf s))) = some (true, true) := by
  kernel_rfl
theorem runD (w : World) (os : OsState) : (HandSHeadRun.endF (HandSHeadRun.stepQ (HandSHeadRun.denQ HandSHeadRun.tabQ) R.prog w) 8000 R.prog w os).map (fun s => fnH.map fun d => He.fnW (kOf s) d.at_) = some (fnH.map He.DefD.val) := by
  kernel_rfl
theorem runL (w : World) (os : OsState) : (HandSHeadRun.endF (HandSHeadRun.stepQ (HandSHeadRun.denQ HandSHeadRun.tabQ) R.prog w) 8000 R.prog w os).map (fun s => (lamQ lms (kOf s), lamG lms (kOf s) (HandSHeadRun.getT s))) = some (true, true) := by
  kernel_rfl
theorem runH (w : World) : HandSHeadRun.RunEq R (PySem.W.view R.prog [125]) hk ob 8000 [("HandError" : PySem.Str), ("BadProgram" : PySem.Str), ("BadWeaving" : PySem.Str), ("BadItem" : PySem.Str), ("BadStands" : PySem.Str), ("BadSignal" : PySem.Str), ("BadWeb" : PySem.Str), ("BadLamps" : PySem.Str), ("BadOwners" : PySem.Str), ("BadOrder" : PySem.Str), ("NotStraight" : PySem.Str), ("NeverEnds" : PySem.Str), ("NotSafe" : PySem.Str), ("BadCount" : PySem.Str), ("NotText" : PySem.Str), ("InvalidText" : PySem.Str), ("TooMany" : PySem.Str), ("is_in" : PySem.Str), ("gcd" : PySem.Str), ("reduced" : PySem.Str), ("plus" : PySem.Str), ("times" : PySem.Str), ("MOST_SWITCHES" : PySem.Str), ("MOST_HANDS" : PySem.Str), ("MOST_ITEMS" : PySem.Str), ("MOST_SIGNAL" : PySem.Str), ("is_guard" : PySem.Str), ("is_item" : PySem.Str), ("need_program" : PySem.Str), ("all_items" : PySem.Str), ("item_at" : PySem.Str), ("need_item" : PySem.Str), ("deeds_on" : PySem.Str), ("signals_of" : PySem.Str), ("first_state" : PySem.Str), ("can_go" : PySem.Str), ("gone" : PySem.Str), ("going_in" : PySem.Str), ("is_end" : PySem.Str), ("is_hands" : PySem.Str), ("line_in" : PySem.Str), ("state_after" : PySem.Str), ("going" : PySem.Str), ("walked" : PySem.Str), ("last_in" : PySem.Str), ("stuck_chance" : PySem.Str), ("is_bent" : PySem.Str), ("bent" : PySem.Str), ("is_straight" : PySem.Str), ("need_straight" : PySem.Str), ("change" : PySem.Str), ("guard_befores" : PySem.Str), ("befores_in" : PySem.Str), ("befores" : PySem.Str), ("hopeless_in" : PySem.Str), ("ring_in" : PySem.Str), ("ends_in" : PySem.Str), ("can_end" : PySem.Str), ("need_ending" : PySem.Str), ("least_ending" : PySem.Str), ("ending" : PySem.Str), ("closed" : PySem.Str), ("is_before" : PySem.Str), ("steps_in" : PySem.Str), ("loose_in" : PySem.Str), ("need_safe" : PySem.Str), ("order_of" : PySem.Str), ("stuck_in" : PySem.Str), ("stuck_way" : PySem.Str), ("put_in" : PySem.Str), ("with_signals" : PySem.Str), ("without" : PySem.Str), ("without_signal" : PySem.Str), ("deed_order" : PySem.Str), ("needless" : PySem.Str), ("deeds_of" : PySem.Str), ("alike" : PySem.Str), ("levels" : PySem.Str), ("in_rows" : PySem.Str), ("beats" : PySem.Str), ("nexts" : PySem.Str), ("moved" : PySem.Str), ("ways_from" : PySem.Str), ("ending_at" : PySem.Str), ("ending_number" : PySem.Str), ("ahead_share" : PySem.Str), ("turned_item" : PySem.Str), ("turned" : PySem.Str), ("with_hands" : PySem.Str), ("moved_item" : PySem.Str), ("beside" : PySem.Str), ("need_web" : PySem.Str), ("need_lamps" : PySem.Str), ("need_three" : PySem.Str), ("ahead_of" : PySem.Str), ("behind" : PySem.Str), ("spare_in" : PySem.Str), ("spare" : PySem.Str), ("need_owners" : PySem.Str), ("plain_in" : PySem.Str), ("need_made" : PySem.Str), ("plain_program" : PySem.Str), ("made" : PySem.Str), ("need_wish" : PySem.Str), ("choices" : PySem.Str), ("moment_in" : PySem.Str), ("may_be" : PySem.Str), ("shows_moment" : PySem.Str), ("DIGITS" : PySem.Str), ("Reader" : PySem.Str), ("read_program" : PySem.Str), ("_law_error1" : PySem.Str)] w := by
  intro os
  have a := runA w os
  have b := runB w os
  have c := runC w os
  have d := runD w os
  have l := runL w os
  generalize (HandSHeadRun.endF (HandSHeadRun.stepQ (HandSHeadRun.denQ HandSHeadRun.tabQ) R.prog w) 8000 R.prog w os) = E at a b c d l ⊢
  cases E with
  | none => cases a
  | some s =>
    rw [Option.map_some] at a b c d l ⊢
    obtain ⟨a1, a2⟩ := Prod.mk.inj (Option.some.inj a)
    have b := Option.some.inj b
    obtain ⟨c1, c2⟩ := Prod.mk.inj (Option.some.inj c)
    have d := Option.some.inj d
    have l := Option.some.inj l
    have e : ob s = hk.val w := by
      show ((((faH.all fun f => f.ok (kOf s)) && fnH.all fun d => d.ok (kOf s), fnH.map fun d => He.fnW (kOf s) d.at_), exH (kOf s)), (lamQ lms (kOf s), lamG lms (kOf s) (HandSHeadRun.getT s))) = (((true, fnH.map He.DefD.val), true), (true, true))
      rw [b, c1, c2, d, l]; rfl
    exact congrArg some (Prod.ext a1 (Prod.ext a2 e))
end
end VI

set_option Elab.async false
set_option linter.all false
set_option maxRecDepth 100000
/-! VI, part 2: how the data lie in the abstract heap. -/
namespace VI
open PySem L2

/-! ### keys -/
mutual
def nk : D → NestedKey
  | .non => .none
  | .int i => .num i
  | .str x => .text x
  | .tup ds => .tup (nks ds)
  | .bl _ => .none
  | .lst _ => .none
  | .dct _ => .none
  | .fn _ => .none
  | .obj _ => .none
  | .scr _ => .none
def nks : List D → List NestedKey
  | [] => []
  | d :: ds => nk d :: nks ds
end
def allKok (n : Nat) (ds : List D) : Prop := ∀ d ∈ ds, D.kok n d = true
theorem kok_tup {n : Nat} {ds : List D} (h : D.kok n (.tup ds) = true) : ∃ m, n = m + 1 ∧ allKok m ds := by
  cases n with
  | zero => cases h
  | succ n => exact ⟨n, rfl, List.all_eq_true.mp h⟩
theorem kok_not {n : Nat} {d : D} (h : D.kok n d = true) : (d = .non ∨ (∃ i, d = .int i) ∨ (∃ x, d = .str x) ∨ ∃ ds, d = .tup ds) := by
  cases d with
  | non => exact .inl rfl
  | int i => exact .inr (.inl ⟨i, rfl⟩)
  | str x => exact .inr (.inr (.inl ⟨x, rfl⟩))
  | tup ds => exact .inr (.inr (.inr ⟨ds, rfl⟩))
  | _ => cases n <;> cases h
mutual
theorem eqv_nk : ∀ (a b : D) (m n : Nat), D.kok m a = true → D.kok n b = true → D.eqv a b = decide (nk a = nk b)
  | .non, b, m, n, _, h => by
    rcases kok_not h with rfl | ⟨i, rfl⟩ | ⟨x, rfl⟩ | ⟨ds, rfl⟩ <;> (simp only [D.eqv, nk]; rw [Bool.eq_iff_iff]; simp)
  | .int i, b, m, n, _, h => by
    rcases kok_not h with rfl | ⟨i, rfl⟩ | ⟨x, rfl⟩ | ⟨ds, rfl⟩ <;> (simp only [D.eqv, nk]; rw [Bool.eq_iff_iff]; simp)
  | .str x, b, m, n, _, h => by
    rcases kok_not h with rfl | ⟨i, rfl⟩ | ⟨x, rfl⟩ | ⟨ds, rfl⟩ <;> (simp only [D.eqv, nk]; rw [Bool.eq_iff_iff]; simp)
  | .tup ds, b, m, n, g, h => by
    obtain ⟨m, rfl, g2⟩ := kok_tup g
    rcases kok_not h with rfl | ⟨i, rfl⟩ | ⟨x, rfl⟩ | ⟨es, rfl⟩
    · simp [D.eqv, nk]
    · simp [D.eqv, nk]
    · simp [D.eqv, nk]
    · obtain ⟨n, rfl, h2⟩ := kok_tup h
      simp only [D.eqv, nk]
      rw [eqvs_nk ds es m n g2 h2]
      simp
  | .bl _, _, m, _, h, _ => by cases m <;> cases h
  | .lst _, _, m, _, h, _ => by cases m <;> cases h
  | .dct _, _, m, _, h, _ => by cases m <;> cases h
  | .fn _, _, m, _, h, _ => by cases m <;> cases h
  | .obj _, _, m, _, h, _ => by cases m <;> cases h
  | .scr _, _, m, _, h, _ => by cases m <;> cases h
theorem eqvs_nk : ∀ (ds es : List D) (m n : Nat), allKok m ds → allKok n es → D.eqvs ds es = decide (nks ds = nks es)
  | [], [], _, _, _, _ => by simp [D.eqvs, nks]
  | [], _ :: _, _, _, _, _ => by simp [D.eqvs, nks]
  | _ :: _, [], _, _, _, _ => by simp [D.eqvs, nks]
  | d :: ds, e :: es, m, n, g, h => by
    simp only [D.eqvs, nks]
    rw [eqv_nk d e m n (g d (.head _)) (h e (.head _)), eqvs_nk ds es m n (fun x hx => g x (.tail _ hx)) fun x hx => h x (.tail _ hx)]
    rw [Bool.eq_iff_iff]
    simp
end
mutual
theorem nk_depth : ∀ (d : D) (n : Nat), D.kok n d = true → (nk d).depth ≤ n
  | .non, n, _ => by unfold nk NestedKey.depth; exact Nat.zero_le _
  | .int i, n, _ => by unfold nk NestedKey.depth; exact Nat.zero_le _
  | .str i, n, _ => by unfold nk NestedKey.depth; exact Nat.zero_le _
  | .tup ds, n, h => by
    obtain ⟨m, rfl, h2⟩ := kok_tup h
    have := nks_depth ds m h2
    unfold nk NestedKey.depth
    omega
  | .bl _, m, h => by cases m <;> cases h
  | .lst _, m, h => by cases m <;> cases h
  | .dct _, m, h => by cases m <;> cases h
  | .fn _, m, h => by cases m <;> cases h
  | .obj _, m, h => by cases m <;> cases h
  | .scr _, m, h => by cases m <;> cases h
theorem nks_depth : ∀ (ds : List D) (n : Nat), allKok n ds → NestedKey.depthAll (nks ds) ≤ n
  | [], n, _ => by unfold nks NestedKey.depthAll; exact Nat.zero_le _
  | d :: ds, n, h => by
    have h1 := nk_depth d n (h d (.head _))
    have h2 := nks_depth ds n fun x hx => h x (.tail _ hx)
    unfold nks NestedKey.depthAll
    omega
end
theorem key_kok {d : D} (h : D.key d = true) : D.kok 6 d = true ∧ ∃ ds, d = .tup ds := by
  cases d <;> first | (cases h; done) | exact ⟨h, _, rfl⟩

structure Pm where
  K : PySem.W.Frag
  wo : World
  cls : Nat → Value
  fld : Nat → Str
  tb : List (Addr × Str)
/-- no table of code objects -/
abbrev NT (o : HO) : Prop := ∀ ps, o ≠ .tbl ps
theorem nt_lst {vs : List V} : NT (.lst vs) := fun _ z => nomatch z
theorem nt_raw {d : Addr} {es : Array DictEntry} {ep : Nat} : NT (dRaw d es ep) := fun _ z => by
  unfold dRaw at z
  cases z

def Ext (os os' : List Addr) : Prop := ∃ m, os' = os ++ m
theorem Ext.refl {os : List Addr} : Ext os os := ⟨[], by simp⟩
theorem Ext.trans {a b c : List Addr} : Ext a b → Ext b c → Ext a c
  | ⟨m, h⟩, ⟨n, g⟩ => ⟨m ++ n, by rw [g, h, List.append_assoc]⟩
theorem Ext.get {os os' : List Addr} {n : Nat} {a : Addr} (e : Ext os os') (h : os[n]? = some a) : os'[n]? = some a := by
  obtain ⟨m, rfl⟩ := e
  obtain ⟨hn, _⟩ := List.getElem?_eq_some_iff.mp h
  rw [List.getElem?_append_left hn]; exact h
abbrev Le (Z Z' : Hp) : Prop := ∀ a o, Z a = some o → Z' a = some o
theorem Le.refl {Z : Hp} : Le Z Z := fun _ _ h => h
theorem Le.trans {A B C : Hp} (h : Le A B) (g : Le B C) : Le A C := fun a o e => g a o (h a o e)
theorem sqL_le {K : PySem.W.Frag} {Z Z' : Hp} {a : Addr} {vs : List V} (h : Le Z Z') (s : SqL K Z a vs) : SqL K Z' a vs := by
  rcases s with (s | ⟨o, s⟩) | s
  · exact .inl (.inl (h _ _ s))
  · exact .inl (.inr ⟨o, h _ _ s⟩)
  · exact .inr s
mutual
/-- a value for good -/
def Rep (P : Pm) (os : List Addr) (Z : Hp) : D → V → Prop
  | .non, v => v = .non
  | .bl b, v => v = .bl b
  | .int i, v => v = .int i
  | .str x, v => v = .str x
  | .tup ds, v => ∃ a vs, v = .ref a ∧ Z a = some (.tup vs) ∧ Reps P os Z ds vs
  | .lst ds, v => ∃ a vs, v = .ref a ∧ Z a = some (.lst vs) ∧ Reps P os Z ds vs
  | .dct kvs, v => ∃ a es ep qs, v = .ref a ∧ Z a = some (dRaw a es ep) ∧ Rws P.wo Z qs es ∧ RepKs P os Z kvs qs
  | .fn _, _ => False
  | .obj n, v => ∃ a, v = .ref a ∧ os[n]? = some a
  | .scr ns, v => ∃ a, v = .ref a ∧ SqL P.K Z a (ns.map V.int)
def RepK (P : Pm) (os : List Addr) (Z : Hp) : D × D → Row → Prop
  | (k, d), q => D.key k = true ∧ q.1 = nk k ∧ Rep P os Z d q.2.2
def RepKs (P : Pm) (os : List Addr) (Z : Hp) : List (D × D) → List Row → Prop
  | [], qs => qs = []
  | p :: ps, qs => ∃ q r, qs = q :: r ∧ RepK P os Z p q ∧ RepKs P os Z ps r
def Reps (P : Pm) (os : List Addr) (Z : Hp) : List D → List V → Prop
  | [], vs => vs = []
  | d :: ds, vs => ∃ v r, vs = v :: r ∧ Rep P os Z d v ∧ Reps P os Z ds r
end
section
variable {P : Pm} {os os' : List Addr} {Z Z' H H' : Hp}
theorem reps_nil : Reps P os Z [] [] := by unfold Reps; rfl
theorem reps_cons {d : D} {ds : List D} {v : V} {vs : List V} (h : Rep P os Z d v) (t : Reps P os Z ds vs) : Reps P os Z (d :: ds) (v :: vs) := by
  unfold Reps; exact ⟨v, vs, rfl, h, t⟩
theorem reps_paired : ∀ {ds : List D} {vs : List V}, Reps P os Z ds vs ↔ Paired (Rep P os Z) ds vs
  | [], vs => by
    unfold Reps
    constructor
    · rintro rfl; exact .nil
    · intro h; cases h; rfl
  | d :: ds, vs => by
    unfold Reps
    constructor
    · rintro ⟨v, r, rfl, h, t⟩; exact .cons h (reps_paired.mp t)
    · intro h; cases h with | cons h t => exact ⟨_, _, rfl, h, reps_paired.mpr t⟩
theorem repks_paired : ∀ {ds : List (D × D)} {qs : List Row}, RepKs P os Z ds qs ↔ Paired (RepK P os Z) ds qs
  | [], vs => by
    unfold RepKs
    constructor
    · rintro rfl; exact .nil
    · intro h; cases h; rfl
  | d :: ds, vs => by
    unfold RepKs
    constructor
    · rintro ⟨v, r, rfl, h, t⟩; exact .cons h (repks_paired.mp t)
    · intro h; cases h with | cons h t => exact ⟨_, _, rfl, h, repks_paired.mpr t⟩
theorem Rws.mono {w : World} {qs : List Row} {es : Array DictEntry} (hz : Le Z Z') (r : Rws w Z qs es) : Rws w Z' qs es :=
  ⟨r.row, fun q hq => ⟨NkV.mono (fun a xs h => hz a _ h) (r.key q hq).1, (r.key q hq).2⟩, r.nd, r.few⟩
theorem Reps.length {ds : List D} {vs : List V} (h : Reps P os Z ds vs) : ds.length = vs.length := Paired.length (reps_paired.mp h)
mutual
theorem Rep.mono (hz : Le Z Z') (ho : Ext os os') : ∀ {d : D} {v : V}, Rep P os Z d v → Rep P os' Z' d v
  | .non, v, h => by unfold Rep at *; exact h
  | .bl b, v, h => by unfold Rep at *; exact h
  | .int i, v, h => by unfold Rep at *; exact h
  | .str x, v, h => by unfold Rep at *; exact h
  | .tup ds, v, h => by
    unfold Rep at *
    obtain ⟨a, vs, e, s, r⟩ := h
    exact ⟨a, vs, e, hz _ _ s, Reps.mono hz ho r⟩
  | .lst ds, v, h => by
    unfold Rep at *
    obtain ⟨a, vs, e, s, r⟩ := h
    exact ⟨a, vs, e, hz _ _ s, Reps.mono hz ho r⟩
  | .dct kvs, v, h => by
    unfold Rep at *
    obtain ⟨a, es, ep, qs, e, s, r, t⟩ := h
    exact ⟨a, es, ep, qs, e, hz _ _ s, r.mono hz, RepKs.mono hz ho t⟩
  | .fn _, v, h => by unfold Rep at *; exact h
  | .obj n, v, h => by
    unfold Rep at *
    obtain ⟨a, e, s⟩ := h
    exact ⟨a, e, ho.get s⟩
  | .scr ns, v, h => by
    unfold Rep at *
    obtain ⟨a, e, s⟩ := h
    exact ⟨a, e, sqL_le hz s⟩
theorem RepK.mono (hz : Le Z Z') (ho : Ext os os') : ∀ {p : D × D} {q : Row}, RepK P os Z p q → RepK P os' Z' p q
  | (k, d), q, h => by
    unfold RepK at *
    exact ⟨h.1, h.2.1, Rep.mono hz ho h.2.2⟩
theorem RepKs.mono (hz : Le Z Z') (ho : Ext os os') : ∀ {ps : List (D × D)} {qs : List Row}, RepKs P os Z ps qs → RepKs P os' Z' ps qs
  | [], vs, h => by unfold RepKs at *; exact h
  | p :: ps, vs, h => by
    unfold RepKs at *
    obtain ⟨v, r, e, h1, h2⟩ := h
    exact ⟨v, r, e, RepK.mono hz ho h1, RepKs.mono hz ho h2⟩
theorem Reps.mono (hz : Le Z Z') (ho : Ext os os') : ∀ {ds : List D} {vs : List V}, Reps P os Z ds vs → Reps P os' Z' ds vs
  | [], vs, h => by unfold Reps at *; exact h
  | d :: ds, vs, h => by
    unfold Reps at *
    obtain ⟨v, r, e, h1, h2⟩ := h
    exact ⟨v, r, e, Rep.mono hz ho h1, Reps.mono hz ho h2⟩
end
theorem Reps.append {ds es : List D} {vs us : List V} (h : Reps P os Z ds vs) (g : Reps P os Z es us) : Reps P os Z (ds ++ es) (vs ++ us) := by
  induction ds generalizing vs with
  | nil => unfold Reps at h; subst h; exact g
  | cons d ds ih =>
    unfold Reps at h
    obtain ⟨v, r, rfl, h1, h2⟩ := h
    exact reps_cons h1 (ih h2)
theorem Paired.get {α β : Type} {F : α → β → Prop} : ∀ {xs : List α} {ys : List β} {i : Nat} {x : α}, Paired F xs ys → xs[i]? = some x → ∃ y, ys[i]? = some y ∧ F x y
  | _, _, _, _, .nil, e => by simp at e
  | _, _, 0, _, .cons r _, e => by simp at e; subst e; exact ⟨_, rfl, r⟩
  | _, _, i + 1, x, .cons _ t, e => by
    obtain ⟨u, h1, h2⟩ := Paired.get (i := i) (x := x) t (by simpa using e)
    exact ⟨u, by simpa using h1, h2⟩
theorem Paired.set {α β : Type} {F : α → β → Prop} {x : α} {y : β} (r : F x y) : ∀ {xs : List α} {ys : List β} (i : Nat), Paired F xs ys → Paired F (xs.set i x) (ys.set i y)
  | _, _, _, .nil => .nil
  | _, _, 0, .cons _ t => .cons r t
  | _, _, i + 1, .cons q t => .cons q (Paired.set r i t)
theorem Paired.app' {α β : Type} {F : α → β → Prop} : ∀ {xs us : List α} {ys ws : List β}, Paired F xs ys → Paired F us ws → Paired F (xs ++ us) (ys ++ ws)
  | _, _, _, _, .nil, s => s
  | _, _, _, _, .cons r t, s => .cons r (Paired.app' t s)
theorem Paired.rev {α β : Type} {F : α → β → Prop} : ∀ {xs : List α} {ys : List β}, Paired F xs ys → Paired F xs.reverse ys.reverse
  | _, _, .nil => .nil
  | _, _, .cons r t => by
    rw [List.reverse_cons, List.reverse_cons]
    exact Paired.app' (Paired.rev t) (.cons r .nil)
theorem Paired.drop {α β : Type} {F : α → β → Prop} : ∀ {xs : List α} {ys : List β} (n : Nat), Paired F xs ys → Paired F (xs.drop n) (ys.drop n)
  | _, _, 0, r => r
  | _, _, _ + 1, .nil => .nil
  | _, _, n + 1, .cons _ t => Paired.drop n t
theorem Paired.take {α β : Type} {F : α → β → Prop} : ∀ {xs : List α} {ys : List β} (n : Nat), Paired F xs ys → Paired F (xs.take n) (ys.take n)
  | _, _, 0, _ => .nil
  | _, _, _ + 1, .nil => .nil
  | _, _, n + 1, .cons r t => .cons r (Paired.take n t)
theorem Paired.app {α β : Type} {F : α → β → Prop} : ∀ {xs us : List α} {ys ws : List β}, Paired F xs ys → Paired F us ws → Paired F (xs ++ us) (ys ++ ws)
  | _, _, _, _, .nil, s => s
  | _, _, _, _, .cons r t, s => .cons r (Paired.app t s)
theorem Reps.get {ds : List D} {vs : List V} {i : Nat} {d : D} (h : Reps P os Z ds vs) (e : ds[i]? = some d) : ∃ v, vs[i]? = some v ∧ Rep P os Z d v := Paired.get (reps_paired.mp h) e
theorem Reps.set {ds : List D} {vs : List V} {d : D} {v : V} (r : Rep P os Z d v) (i : Nat) (h : Reps P os Z ds vs) : Reps P os Z (ds.set i d) (vs.set i v) := reps_paired.mpr (Paired.set r i (reps_paired.mp h))
theorem Reps.reverse {ds : List D} {vs : List V} (h : Reps P os Z ds vs) : Reps P os Z ds.reverse vs.reverse := reps_paired.mpr (Paired.rev (reps_paired.mp h))

/-- a dict, as it lies now -/
def DctR (P : Pm) (os : List Addr) (Z H : Hp) (kvs : List (D × D)) (a : Addr) : Prop := ∃ es ep qs, H a = some (dRaw a es ep) ∧ Rws P.wo Z qs es ∧ Paired (RepK P os Z) kvs qs
theorem paired_imp {α β : Type} {F G : α → β → Prop} (h : ∀ a b, F a b → G a b) : ∀ {xs : List α} {ys : List β}, Paired F xs ys → Paired G xs ys
  | _, _, .nil => .nil
  | _, _, .cons r t => .cons (h _ _ r) (paired_imp h t)
theorem Rep.dct {kvs : List (D × D)} {v : V} (h : Rep P os Z (.dct kvs) v) : ∃ a, v = .ref a ∧ DctR P os Z Z kvs a := by
  unfold Rep at h
  obtain ⟨a, es, ep, qs, e, s, r, t⟩ := h
  exact ⟨a, e, es, ep, qs, s, r, repks_paired.mp t⟩
theorem DctR.rep {kvs : List (D × D)} {a : Addr} (h : DctR P os Z Z kvs a) : Rep P os Z (.dct kvs) (.ref a) := by
  obtain ⟨es, ep, qs, s, r, t⟩ := h
  unfold Rep
  exact ⟨a, es, ep, qs, rfl, s, r, repks_paired.mpr t⟩
theorem DctR.step {kvs : List (D × D)} {a : Addr} (h : DctR P os Z H kvs a) (hz : Le Z Z') (ho : Ext os os') (hh : ∀ o, H a = some o → NT o → H' a = some o) : DctR P os' Z' H' kvs a := by
  obtain ⟨es, ep, qs, s, r, t⟩ := h
  exact ⟨es, ep, qs, hh _ s nt_raw, r.mono hz, paired_imp (fun _ _ => RepK.mono hz ho) t⟩
theorem DctR.there {kvs : List (D × D)} {a : Addr} (h : DctR P os Z H kvs a) : H a ≠ none := by
  obtain ⟨es, ep, qs, s, r, t⟩ := h
  rw [s]; exact fun z => nomatch z
/-! ### looked at -/
def LR (P : Pm) (os : List Addr) (Z H : Hp) : Nat → D → V → Prop
  | 0, d, v => Rep P os Z d v
  | n + 1, d, v => Rep P os Z d v ∨ (∃ a vs ds, d = .lst ds ∧ v = .ref a ∧ a ∉ os ∧ H a = some (.lst vs) ∧ Paired (LR P os Z H n) ds vs) ∨ ∃ a kvs, d = .dct kvs ∧ v = .ref a ∧ a ∉ os ∧ DctR P os Z H kvs a
theorem LR.of {n : Nat} {d : D} {v : V} (h : Rep P os Z d v) : LR P os Z H n d v := by
  cases n with
  | zero => exact h
  | succ n => exact .inl h
theorem LR.up {n : Nat} : ∀ {d : D} {v : V}, LR P os Z H n d v → LR P os Z H (n + 1) d v := by
  induction n with
  | zero => intro d v h; exact .inl h
  | succ n ih =>
    intro d v h
    rcases h with h | ⟨a, vs, ds, e1, e2, na, hh, r⟩ | h
    · exact .inl h
    · exact .inr (.inl ⟨a, vs, ds, e1, e2, na, hh, paired_imp (fun _ _ => ih) r⟩)
    · exact .inr (.inr h)
theorem LR.le {m n : Nat} (h : m ≤ n) {d : D} {v : V} (r : LR P os Z H m d v) : LR P os Z H n d v := by
  induction h with
  | refl => exact r
  | step _ ih => exact ih.up
end

/-! ### a state and its steps -/
/-- what stood there -/
abbrev Ex (H : Hp) : Addr → Prop := fun a => H a ≠ none
/-- a field -/
def FldR (P : Pm) (os : List Addr) (Z : Hp) (p : Str × D) (q : Str × V) : Prop := p.1 = q.1 ∧ Rep P os Z p.2 q.2
theorem FldR.mono {P : Pm} {os os' : List Addr} {Z Z' : Hp} (hz : Le Z Z') (ho : Ext os os') {p : Str × D} {q : Str × V} (h : FldR P os Z p q) : FldR P os' Z' p q := ⟨h.1, h.2.mono hz ho⟩
theorem flds_mono {P : Pm} {os os' : List Addr} {Z Z' : Hp} (hz : Le Z Z') (ho : Ext os os') {ps : List (Str × D)} {qs : List (Str × V)} (h : Paired (FldR P os Z) ps qs) : Paired (FldR P os' Z') ps qs := paired_imp (fun _ _ => FldR.mono hz ho) h
def ObjR (P : Pm) (os : List Addr) (Z H : Hp) (a : Addr) : Obj → Prop
  | .cells ds => ∃ vs, H a = some (.lst vs) ∧ Reps P os Z ds vs
  | .inst c fs => ∃ C dx vs, P.cls c = .ref C ∧ H a = some (.ins C dx vs) ∧ Paired (FldR P os Z) fs vs
structure Ok (P : Pm) (os : List Addr) (w : Wd) (Z H : Hp) : Prop where
  zh : Le Z H
  nz : ∀ a ∈ os, Z a = none
  nd : os.Nodup
  len : os.length = w.length
  obj : ∀ (n : Nat) (a : Addr) (o : Obj), os[n]? = some a → w[n]? = some o → ObjR P os Z H a o
  tb : LamX.Tabs P.tb H
  zt : ∀ a ps, Z a ≠ some (.tbl ps)
structure Step (B : Addr → Prop) (os : List Addr) (Z H : Hp) (os' : List Addr) (Z' H' : Hp) : Prop where
  keep : ∀ a o, B a → H a = some o → a ∉ os → NT o → H' a = some o
  there : ∀ a, H a ≠ none → H' a ≠ none
  zle : Le Z Z'
  zkeep : ∀ a, B a → Z a = none → Z' a = none
  ext : ∃ m, os' = os ++ m ∧ ∀ a ∈ m, H a = none
section
variable {P : Pm} {os os' os1 os2 : List Addr} {Z Z' Z1 Z2 H H' H1 H2 : Hp} {w w' : Wd} {B B' : Addr → Prop} {a p : Addr} {o : HO}
theorem Ok.there (k : Ok P os w Z H) (ha : a ∈ os) : H a ≠ none := by
  obtain ⟨n, hn, e⟩ := List.mem_iff_getElem.mp ha
  have h1 : os[n]? = some a := by rw [List.getElem?_eq_getElem hn, e]
  have h2 : n < w.length := by rw [← k.len]; exact hn
  have h3 := k.obj n a w[n] h1 (List.getElem?_eq_getElem h2)
  cases q : w[n] with
  | cells ds =>
    rw [q] at h3
    obtain ⟨vs, hv, _⟩ := h3
    rw [hv]; intro z; cases z
  | inst c fs =>
    rw [q] at h3
    obtain ⟨C, dx, vs, _, hv, _⟩ := h3
    rw [hv]; intro z; cases z
/-- an object that may be written: no table, no code object -/
structure Pl (a : Addr) (u : HO) : Prop where
  nt : NT u
  nc : ∀ q, u ≠ LamX.CodeO a q
theorem pl_lst {vs : List V} : Pl a (.lst vs) := ⟨nt_lst, fun q z => by unfold LamX.CodeO at z; cases z⟩
theorem pl_ins {C dx : Addr} {vs : List (Str × V)} : Pl a (.ins C dx vs) := ⟨(fun _ z => nomatch z), fun q z => by unfold LamX.CodeO at z; cases z⟩
theorem pl_raw {es : Array DictEntry} {ep : Nat} : Pl a (dRaw a es ep) := ⟨nt_raw, fun q z => by
  unfold LamX.CodeO dRaw at z
  injection z with z
  have ho : (⟨Array.replicate (a + 1) { cls := .none, data := .fields #[.none, .str q 0] }, {}⟩ : Heap).get? a = some { cls := .none, data := .fields #[.none, .str q 0] } := by
    unfold Heap.get?
    simp
  obtain ⟨_, o, e1, _, e3⟩ := (congrFun z (⟨Array.replicate (a + 1) { cls := .none, data := .fields #[.none, .str q 0] }, {}⟩ : Heap)).mpr ⟨_, _, 0, ho, rfl, rfl⟩
  rw [ho] at e1
  cases e1
  cases e3⟩
theorem tabs_write {T : List (Addr × Str)} {u u' : HO} (t : LamX.Tabs T H) (h : H a = some u) (pl : Pl a u) : LamX.Tabs T (upd H a u') := fun p hp => by
  obtain ⟨ps, e1, e2, e3⟩ := t p hp
  refine ⟨ps, by rw [upd_ne (fun z => pl.nt ps (Option.some.inj (h.symm.trans (by rw [← z]; exact e1))))]; exact e1, e2, fun pos cv hc => ?_⟩
  obtain ⟨c, e4, e5⟩ := e3 pos cv hc
  exact ⟨c, e4, by rw [upd_ne (fun z => pl.nc p.2 (Option.some.inj (h.symm.trans (by rw [← z]; exact e5))))]; exact e5⟩
theorem Step.refl : Step B os Z H os Z H := ⟨fun _ _ _ h _ _ => h, fun _ h => h, Le.refl, fun _ _ h => h, [], by simp, by simp⟩
theorem Step.sub (s : Step B os Z H os' Z' H') (h : ∀ a, B' a → B a) : Step B' os Z H os' Z' H' :=
  ⟨fun a o b => s.keep a o (h a b), s.there, s.zle, fun a b => s.zkeep a (h a b), s.ext⟩
theorem Step.ex (s : Step B os Z H os' Z' H') : Ext os os' := let ⟨m, e, _⟩ := s.ext; ⟨m, e⟩
theorem Step.nin (s : Step B os Z H os' Z' H') (h : H a ≠ none) (n : a ∉ os) : a ∉ os' := by
  obtain ⟨m, rfl, hm⟩ := s.ext
  intro z
  rcases List.mem_append.mp z with z | z
  · exact n z
  · exact h (hm a z)
theorem Step.trans (s : Step B os Z H os1 Z1 H1) (t : Step B os1 Z1 H1 os2 Z2 H2) : Step B os Z H os2 Z2 H2 where
  keep := fun a o b h n nt => t.keep a o b (s.keep a o b h n nt) (s.nin (by rw [h]; exact fun z => nomatch z) n) nt
  there := fun a h => t.there a (s.there a h)
  zle := s.zle.trans t.zle
  zkeep := fun a b h => t.zkeep a b (s.zkeep a b h)
  ext := by
    obtain ⟨m, rfl, hm⟩ := s.ext
    obtain ⟨n, rfl, hn⟩ := t.ext
    refine ⟨m ++ n, by rw [List.append_assoc], fun a ha => ?_⟩
    rcases List.mem_append.mp ha with z | z
    · exact hm a z
    · cases q : H a with
      | none => rfl
      | some o => exact absurd (hn a z) (s.there a (by rw [q]; exact fun z => nomatch z))
/-- first what stood at the start, then what stood later on -/
theorem Step.then (s : Step (Ex H) os Z H os1 Z1 H1) (t : Step (Ex H1) os1 Z1 H1 os2 Z2 H2) : Step (Ex H) os Z H os2 Z2 H2 :=
  s.trans (t.sub fun a h => s.there a h)
/-- a new object, for good -/
theorem Ok.alloc (k : Ok P os w Z H) (hp : H p = none) (o : HO) (nt : NT o := by exact fun _ z => nomatch z) : Ok P os w (upd Z p o) (upd H p o) ∧ Step (Ex H) os Z H os (upd Z p o) (upd H p o) := by
  have hz : Z p = none := by
    cases q : Z p with
    | none => rfl
    | some u => rw [k.zh p u q] at hp; cases hp
  have np : p ∉ os := fun z => k.there z hp
  have lz : Le Z (upd Z p o) := fun a u h => by
    rw [upd_ne (show a ≠ p from fun e => by rw [e, hz] at h; cases h)]; exact h
  refine ⟨⟨fun a u h => ?_, fun a ha => ?_, k.nd, k.len, fun n a u h1 h2 => ?_, k.tb.ext fun b u e => by rw [upd_ne (show b ≠ p from fun z => by rw [z, hp] at e; cases e)]; exact e, fun b ps z => ?_⟩, ⟨fun a u b h _ _ => ?_, fun a h => ?_, lz, fun a b h => ?_, [], by simp, by simp⟩⟩
  · by_cases e : a = p
    · subst e; rw [upd_same] at h ⊢; exact h
    · rw [upd_ne e] at h ⊢; exact k.zh a u h
  · rw [upd_ne (show a ≠ p from fun e => np (e ▸ ha))]; exact k.nz a ha
  · have hne : a ≠ p := fun e => np (e ▸ List.mem_of_getElem? h1)
    have := k.obj n a u h1 h2
    cases u with
    | cells ds =>
      obtain ⟨vs, hv, r⟩ := this
      exact ⟨vs, by rw [upd_ne hne]; exact hv, r.mono lz Ext.refl⟩
    | inst c fs =>
      obtain ⟨C, dx, vs, e, hv, r⟩ := this
      exact ⟨C, dx, vs, e, by rw [upd_ne hne]; exact hv, flds_mono lz Ext.refl r⟩
  · by_cases e : b = p
    · subst e; rw [upd_same] at z; exact nt ps (Option.some.inj z)
    · rw [upd_ne e] at z; exact k.zt b ps z
  · rw [upd_ne (show a ≠ p from fun e => b (e ▸ hp))]; exact h
  · by_cases e : a = p
    · subst e; rw [upd_same]; exact fun z => nomatch z
    · rw [upd_ne e]; exact h
  · rw [upd_ne (show a ≠ p from fun e => b (e ▸ hp))]; exact h
/-- a new object, still one's own -/
theorem Ok.allocOwn (k : Ok P os w Z H) (hp : H p = none) (o : HO) : Ok P os w Z (upd H p o) ∧ Step (Ex H) os Z H os Z (upd H p o) ∧ Z p = none ∧ p ∉ os := by
  have hz : Z p = none := by
    cases q : Z p with
    | none => rfl
    | some u => rw [k.zh p u q] at hp; cases hp
  have np : p ∉ os := fun z => k.there z hp
  refine ⟨⟨fun a u h => ?_, k.nz, k.nd, k.len, fun n a u h1 h2 => ?_, k.tb.ext fun b u e => by rw [upd_ne (show b ≠ p from fun z => by rw [z, hp] at e; cases e)]; exact e, k.zt⟩, ⟨fun a u b h _ _ => ?_, fun a h => ?_, Le.refl, fun a b h => h, [], by simp, by simp⟩, hz, np⟩
  · rw [upd_ne (show a ≠ p from fun e => by rw [e, hz] at h; cases h)]; exact k.zh a u h
  · have hne : a ≠ p := fun e => np (e ▸ List.mem_of_getElem? h1)
    have := k.obj n a u h1 h2
    cases u with
    | cells ds =>
      obtain ⟨vs, hv, r⟩ := this
      exact ⟨vs, by rw [upd_ne hne]; exact hv, r⟩
    | inst c fs =>
      obtain ⟨C, dx, vs, e, hv, r⟩ := this
      exact ⟨C, dx, vs, e, by rw [upd_ne hne]; exact hv, r⟩
  · rw [upd_ne (show a ≠ p from fun e => b (e ▸ hp))]; exact h
  · by_cases e : a = p
    · subst e; rw [upd_same]; exact fun z => nomatch z
    · rw [upd_ne e]; exact h
/-- what was one's own, for good -/
theorem Ok.freeze (k : Ok P os w Z H) (ha : H a = some o) (n : a ∉ os) (hz : Z a = none) (nt : NT o := by exact fun _ z => nomatch z) : Ok P os w (upd Z a o) H ∧ Le Z (upd Z a o) := by
  have lz : Le Z (upd Z a o) := fun b u h => by
    rw [upd_ne (show b ≠ a from fun e => by rw [e, hz] at h; cases h)]; exact h
  refine ⟨⟨fun b u h => ?_, fun b hb => ?_, k.nd, k.len, fun i b u h1 h2 => ?_, k.tb, fun b ps z => ?_⟩, lz⟩
  · by_cases e : b = a
    · subst e; rw [upd_same] at h; rw [← h]; exact ha
    · rw [upd_ne e] at h; exact k.zh b u h
  · rw [upd_ne (show b ≠ a from fun e => n (e ▸ hb))]; exact k.nz b hb
  · have := k.obj i b u h1 h2
    cases u with
    | cells ds =>
      obtain ⟨vs, hv, r⟩ := this
      exact ⟨vs, hv, r.mono lz Ext.refl⟩
    | inst c fs =>
      obtain ⟨C, dx, vs, e, hv, r⟩ := this
      exact ⟨C, dx, vs, e, hv, flds_mono lz Ext.refl r⟩
  · by_cases e : b = a
    · subst e; rw [upd_same] at z; exact nt ps (Option.some.inj z)
    · rw [upd_ne e] at z; exact k.zt b ps z
theorem Step.freeze (s : Step B os Z H os' Z' H') (nb : ¬ B a) (hz : Z' a = none) : Step B os Z H os' (upd Z' a o) H' where
  keep := s.keep
  there := s.there
  zle := fun b u h => by
    have h' := s.zle b u h
    rw [upd_ne (show b ≠ a from fun e => by rw [e, hz] at h'; cases h')]; exact h'
  zkeep := fun b hb h => by
    rw [upd_ne (show b ≠ a from fun e => nb (e ▸ hb))]; exact s.zkeep b hb h
  ext := s.ext
theorem LR.step {n : Nat} (s : Step (Ex H) os Z H os' Z' H') : ∀ {d : D} {v : V}, LR P os Z H n d v → LR P os' Z' H' n d v := by
  induction n with
  | zero => intro d v h; exact Rep.mono s.zle s.ex h
  | succ n ih =>
    intro d v h
    rcases h with h | ⟨a, vs, ds, e1, e2, na, hh, r⟩ | ⟨a, kvs, e1, e2, na, r⟩
    · exact .inl (Rep.mono s.zle s.ex h)
    · have he : H a ≠ none := by rw [hh]; exact fun z => nomatch z
      exact .inr (.inl ⟨a, vs, ds, e1, e2, s.nin he na, s.keep a _ he hh na nt_lst, paired_imp (fun _ _ => ih) r⟩)
    · exact .inr (.inr ⟨a, kvs, e1, e2, s.nin r.there na, r.step s.zle s.ex fun o e nt => s.keep a o r.there e na nt⟩)
end

/-! ### slots -/
def Rows (P : Pm) (os : List Addr) (Z H : Hp) : List (List D) → List Addr → Prop := Paired fun ds b => ∃ vs, H b = some (.lst vs) ∧ Reps P os Z ds vs
def SlotR (P : Pm) (B : Addr → Prop) (os : List Addr) (Z H : Hp) (as : List Addr) : Sl → Option (Option V) → Prop
  | .no, _ => True
  | .fz d, o => ∃ v, o = some (some v) ∧ Rep P os Z d v
  | .ow ds, o => ∃ a vs, o = some (some (.ref a)) ∧ as = [a] ∧ H a = some (.lst vs) ∧ Reps P os Z ds vs
  | .ow2 dss, o => ∃ a bs, o = some (some (.ref a)) ∧ as = a :: bs ∧ H a = some (.lst (bs.map V.ref)) ∧ Rows P os Z H dss bs
  | .od kvs, o => ∃ a, o = some (some (.ref a)) ∧ as = [a] ∧ DctR P os Z H kvs a
  | .bo ds, o => ∃ a vs, o = some (some (.ref a)) ∧ a ∉ os ∧ B a ∧ H a = some (.lst vs) ∧ Reps P os Z ds vs
structure Slots (P : Pm) (B : Addr → Prop) (env : Env) (σ : St) (ad : Nat → List Addr) (os : List Addr) (Z H : Hp) : Prop where
  len : σ.length = env.length
  at_ : ∀ i s, env[i]? = some s → SlotR P B os Z H (ad i) s σ[i]?
  own : ∀ i a, a ∈ ad i → a ∉ os ∧ Z a = none ∧ H a ≠ none ∧ ¬ B a
  dis : ∀ i j a, a ∈ ad i → a ∈ ad j → i = j
  nd : ∀ i, (ad i).Nodup
section
variable {P : Pm} {os os' os1 os2 : List Addr} {Z Z' Z1 Z2 H H' H1 H2 : Hp} {w w' : Wd} {B B' : Addr → Prop} {a p : Addr} {o : HO} {env : Env} {σ : St} {ad : Nat → List Addr}
theorem SlotR.step {B : Addr → Prop} (s : Step (Ex H) os Z H os' Z' H') {as : List Addr} (n : ∀ a ∈ as, a ∉ os) {x : Sl} {q : Option (Option V)} (h : SlotR P B os Z H as x q) : SlotR P B os' Z' H' as x q := by
  have kp : ∀ a ∈ as, ∀ u, H a = some u → NT u → H' a = some u := fun a ha u e nt => s.keep a u (by show H a ≠ none; rw [e]; exact fun z => nomatch z) e (n a ha) nt
  cases x with
  | no => trivial
  | fz d => obtain ⟨v, e, r⟩ := h; exact ⟨v, e, Rep.mono s.zle s.ex r⟩
  | ow ds => obtain ⟨a, vs, e, e2, hh, r⟩ := h; exact ⟨a, vs, e, e2, kp a (by simp [e2]) _ hh nt_lst, r.mono s.zle s.ex⟩
  | ow2 dss =>
    obtain ⟨a, bs, e, e2, hh, r⟩ := h
    refine ⟨a, bs, e, e2, kp a (by simp [e2]) _ hh nt_lst, ?_⟩
    have all : ∀ b ∈ bs, b ∈ as := fun b hb => by rw [e2]; exact List.mem_cons_of_mem _ hb
    clear hh e2
    unfold Rows at *
    induction r with
    | nil => exact .nil
    | cons q _ ih =>
      obtain ⟨vs, h1, h2⟩ := q
      exact .cons ⟨vs, kp _ (all _ List.mem_cons_self) _ h1 nt_lst, h2.mono s.zle s.ex⟩ (ih fun b hb => all b (List.mem_cons_of_mem _ hb))
  | od kvs => obtain ⟨a, e, e2, r⟩ := h; exact ⟨a, e, e2, r.step s.zle s.ex (kp a (by simp [e2]))⟩
  | bo ds => obtain ⟨a, vs, e, na, b, hh, r⟩ := h; exact ⟨a, vs, e, s.nin (by rw [hh]; exact fun z => nomatch z) na, b, s.keep a _ (by show H a ≠ none; rw [hh]; exact fun z => nomatch z) hh na nt_lst, r.mono s.zle s.ex⟩
theorem Slots.step (k : Slots P B env σ ad os Z H) (s : Step (Ex H) os Z H os' Z' H') : Slots P B env σ ad os' Z' H' :=
  ⟨k.len, fun i x e => (k.at_ i x e).step s fun a ha => (k.own i a ha).1, fun i a ha => by
    obtain ⟨h1, h2, h3, h4⟩ := k.own i a ha
    exact ⟨s.nin h3 h1, s.zkeep a h3 h2, s.there a h3, h4⟩, k.dis, k.nd⟩
/-- fewer addresses of one's own known, a part of a slot's value forgotten -/
theorem Slots.env_of (k : Slots P B env σ ad os Z H) {env' : Env} {σ' : St} (hl : σ'.length = env'.length) (h : ∀ i s, env'[i]? = some s → SlotR P B os Z H (ad i) s σ'[i]?) : Slots P B env' σ' ad os Z H :=
  ⟨hl, h, k.own, k.dis, k.nd⟩
/-- a slot is given a value for good -/
theorem Slots.setFz (k : Slots P B env σ ad os Z H) (i : Nat) {d : D} {v : V} (r : Rep P os Z d v) : Slots P B (env.set i (.fz d)) (σ.set i (some v)) ad os Z H := by
  refine k.env_of (by simp [k.len]) fun j s e => ?_
  by_cases hj : i = j
  · subst hj
    by_cases hi : i < env.length
    · rw [List.getElem?_set_self hi] at e
      cases e
      exact ⟨v, by rw [List.getElem?_set_self (by rw [k.len]; exact hi)], r⟩
    · rw [List.getElem?_eq_none (by simpa using hi)] at e; cases e
  · rw [List.getElem?_set_ne hj] at e ⊢
    exact k.at_ j s e
end

/-! ### outcomes -/
def ExR (P : Pm) (os : List Addr) (Z H : Hp) (c : Nat) (f : Option D) (cls : Value) (dd : Option Addr) : Prop :=
  cls = P.cls c ∧ match f with
    | none => dd = none
    | some d => ∃ ad v, dd = some ad ∧ H ad = some (.xd [(P.fld c, v)]) ∧ Rep P os Z d v
def Out {α : Type} (P : Pm) (W : WX) (σ : St) (os : List Addr) (Z H : Hp) (R : Res α) (Kt : α → Wd → List Addr → Hp → Hp → Prop) : Prop := match R with
  | .ok a w => ∀ os' Z' H', Step (Ex H) os Z H os' Z' H' → Ok P os' w Z' H' → Kt a w os' Z' H'
  | .exn c f w => ∀ os' Z' H' cls dd, Step (Ex H) os Z H os' Z' H' → Ok P os' w Z' H' → ExR P os' Z' H' c f cls dd → W cls dd σ H'
  | .no => False
section
variable {P : Pm} {os os' os1 os2 : List Addr} {Z Z' Z1 Z2 H H' H1 H2 : Hp} {w w' : Wd} {W : WX} {σ : St} {α β : Type}
theorem Out.base {R : Res α} {Kt : α → Wd → List Addr → Hp → Hp → Prop} (s : Step (Ex H) os Z H os1 Z1 H1) (h : Out P W σ os Z H R Kt) : Out P W σ os1 Z1 H1 R Kt := by
  cases R with
  | ok a w => exact fun os' Z' H' t k => h os' Z' H' (s.then t) k
  | exn c f w => exact fun os' Z' H' cls dd t k x => h os' Z' H' cls dd (s.then t) k x
  | no => exact h
theorem Out.mono {R : Res α} {Kt Kt' : α → Wd → List Addr → Hp → Hp → Prop} (h : Out P W σ os Z H R Kt) (g : ∀ a w os' Z' H', Step (Ex H) os Z H os' Z' H' → Ok P os' w Z' H' → Kt a w os' Z' H' → Kt' a w os' Z' H') : Out P W σ os Z H R Kt' := by
  cases R with
  | ok a w => exact fun os' Z' H' t k => g _ _ _ _ _ t k (h os' Z' H' t k)
  | exn c f w => exact h
  | no => exact h
theorem Out.bnd {m : M α} {f : α → M β} {Kt : β → Wd → List Addr → Hp → Hp → Prop} (h : Out P W σ os Z H (bnd m f w) Kt) :
    Out P W σ os Z H (m w) fun a w1 os1 Z1 H1 => Out P W σ os1 Z1 H1 (f a w1) Kt := by
  unfold VI.bnd at h
  cases q : m w with
  | ok a w1 =>
    rw [q] at h
    exact fun os1 Z1 H1 s _ => Out.base s h
  | exn c f w1 => rw [q] at h; exact h
  | no => rw [q] at h; exact h
theorem Out.ret {a : α} {Kt : α → Wd → List Addr → Hp → Hp → Prop} (k : Ok P os w Z H) (h : Out P W σ os Z H (VI.ret a w) Kt) : Kt a w os Z H := h os Z H Step.refl k
theorem Out.lft {x : Option α} {Kt : α → Wd → List Addr → Hp → Hp → Prop} (h : Out P W σ os Z H (VI.lft x w) Kt) : ∃ a, x = some a ∧ Out P W σ os Z H (VI.ret a w) Kt := by
  cases x with
  | none => exact h.elim
  | some a => exact ⟨a, rfl, h⟩
end
end VI

set_option Elab.async false
set_option linter.all false
set_option maxRecDepth 100000
/-! VI, part 3: the operators, by data. -/
namespace VI
open PySem L2
section
variable {P : Pm} {os os' : List Addr} {Z Z' H H' : Hp} {w : Wd} {X : Cx} {Q : VK}
/-- a result that is not yet anybody's -/
def New (P : Pm) (os' : List Addr) (Z' H0 H' : Hp) (d : D) (v : V) : Prop := match d with
  | .lst ds => ∃ a vs, v = .ref a ∧ H0 a = none ∧ a ∉ os' ∧ Z' a = none ∧ H' a = some (.lst vs) ∧ Reps P os' Z' ds vs
  | .dct kvs => ∃ a, v = .ref a ∧ H0 a = none ∧ a ∉ os' ∧ Z' a = none ∧ DctR P os' Z' H' kvs a
  | d => Rep P os' Z' d v
/-- what is wanted of a result -/
def Wn (P : Pm) (os : List Addr) (Z H : Hp) (w : Wd) (d : D) (Q : VK) : Prop := ∀ v os' Z' H', Step (Ex H) os Z H os' Z' H' → Ok P os' w Z' H' → New P os' Z' H H' d v → Q v H'
def isLst : D → Bool
  | .lst _ => true
  | _ => false
theorem new_rep {d : D} {v : V} {H0 : Hp} (hd : isOwn d = false) (r : Rep P os' Z' d v) : New P os' Z' H0 H' d v := by
  cases d <;> first | exact r | cases hd
theorem Wn.val {d : D} {v : V} (h : Wn P os Z H w d Q) (k : Ok P os w Z H) (hd : isOwn d = false) (r : Rep P os Z d v) : Q v H := h v os Z H Step.refl k (new_rep hd r)
theorem Wn.int {i : Int} (h : Wn P os Z H w (.int i) Q) (k : Ok P os w Z H) : Q (.int i) H := h.val k rfl (by unfold Rep; rfl)
theorem Wn.bl {b : Bool} (h : Wn P os Z H w (.bl b) Q) (k : Ok P os w Z H) : Q (.bl b) H := h.val k rfl (by unfold Rep; rfl)
theorem Wn.str {x : Str} (h : Wn P os Z H w (.str x) Q) (k : Ok P os w Z H) : Q (.str x) H := h.val k rfl (by unfold Rep; rfl)
theorem Wn.lst {ds : List D} {vs : List V} {p : Addr} (h : Wn P os Z H w (.lst ds) Q) (k : Ok P os w Z H) (hp : H p = none) (r : Reps P os Z ds vs) : Q (.ref p) (upd H p (.lst vs)) := by
  obtain ⟨k2, s, hz, np⟩ := k.allocOwn hp (.lst vs)
  exact h _ _ _ _ s k2 ⟨p, vs, rfl, hp, np, hz, upd_same, r⟩
theorem Wn.dct {kvs : List (D × D)} {p : Addr} {es : Array DictEntry} {ep : Nat} {qs : List Row} (h : Wn P os Z H w (.dct kvs) Q) (k : Ok P os w Z H) (hp : H p = none) (hr : Rws P.wo Z qs es) (hk : Paired (RepK P os Z) kvs qs) : Q (.ref p) (upd H p (dRaw p es ep)) := by
  obtain ⟨k2, s, hz, np⟩ := k.allocOwn hp (dRaw p es ep)
  exact h _ _ _ _ s k2 ⟨p, rfl, hp, np, hz, es, ep, qs, upd_same, hr, hk⟩
theorem Wn.tup {ds : List D} {vs : List V} {p : Addr} (h : Wn P os Z H w (.tup ds) Q) (k : Ok P os w Z H) (hp : H p = none) (r : Reps P os Z ds vs) : Q (.ref p) (upd H p (.tup vs)) := by
  obtain ⟨k2, s⟩ := k.alloc hp (.tup vs)
  refine h _ _ _ _ s k2 ?_
  show Rep P os (upd Z p (.tup vs)) (.tup ds) (.ref p)
  unfold Rep
  exact ⟨p, vs, rfl, upd_same, r.mono s.zle Ext.refl⟩

/-! what a value's shape is -/
theorem LR.non {n : Nat} {v : V} (h : LR P os Z H n .non v) : v = .non := by
  cases n with
  | zero => have h : Rep P os Z .non v := h; unfold Rep at h; exact h
  | succ n => rcases h with h | ⟨_, _, _, e, _⟩ | ⟨_, _, e, _⟩
              · unfold Rep at h; exact h
              · cases e
              · cases e
theorem LR.bl {n : Nat} {b : Bool} {v : V} (h : LR P os Z H n (.bl b) v) : v = .bl b := by
  cases n with
  | zero => have h : Rep P os Z (.bl b) v := h; unfold Rep at h; exact h
  | succ n => rcases h with h | ⟨_, _, _, e, _⟩ | ⟨_, _, e, _⟩
              · unfold Rep at h; exact h
              · cases e
              · cases e
theorem LR.int {n : Nat} {i : Int} {v : V} (h : LR P os Z H n (.int i) v) : v = .int i := by
  cases n with
  | zero => have h : Rep P os Z (.int i) v := h; unfold Rep at h; exact h
  | succ n => rcases h with h | ⟨_, _, _, e, _⟩ | ⟨_, _, e, _⟩
              · unfold Rep at h; exact h
              · cases e
              · cases e
theorem LR.str {n : Nat} {x : Str} {v : V} (h : LR P os Z H n (.str x) v) : v = .str x := by
  cases n with
  | zero => have h : Rep P os Z (.str x) v := h; unfold Rep at h; exact h
  | succ n => rcases h with h | ⟨_, _, _, e, _⟩ | ⟨_, _, e, _⟩
              · unfold Rep at h; exact h
              · cases e
              · cases e
theorem LR.notLst {n : Nat} {d : D} {v : V} (h : LR P os Z H n d v) (hd : isOwn d = false) : Rep P os Z d v := by
  cases n with
  | zero => exact h
  | succ n => rcases h with h | ⟨_, _, _, e, _⟩ | ⟨_, _, e, _⟩
              · exact h
              · subst e; cases hd
              · subst e; cases hd
theorem LR.dref {n : Nat} {kvs : List (D × D)} {v : V} (h : LR P os Z H n (.dct kvs) v) : ∃ a, v = .ref a := by
  cases n with
  | zero => obtain ⟨a, e, _⟩ := Rep.dct h; exact ⟨a, e⟩
  | succ n =>
    rcases h with h | ⟨_, _, _, e, _⟩ | ⟨a, kvs', e, e2, _, r⟩
    · obtain ⟨a, e, _⟩ := h.dct; exact ⟨a, e⟩
    · cases e
    · exact ⟨a, e2⟩
theorem LR.dct {n : Nat} {kvs : List (D × D)} {v : V} (k : Le Z H) (h : LR P os Z H n (.dct kvs) v) : ∃ a, v = .ref a ∧ DctR P os Z H kvs a := by
  have key : Rep P os Z (.dct kvs) v → ∃ a, v = .ref a ∧ DctR P os Z H kvs a := fun h => by
    obtain ⟨a, e, r⟩ := h.dct
    exact ⟨a, e, r.step Le.refl Ext.refl fun o e _ => k a o e⟩
  cases n with
  | zero => exact key h
  | succ n =>
    rcases h with h | ⟨_, _, _, e, _⟩ | ⟨a, kvs', e, e2, _, r⟩
    · exact key h
    · cases e
    · cases e; exact ⟨a, e2, r⟩
theorem Rep.tup {ds : List D} {v : V} (h : Rep P os Z (.tup ds) v) : ∃ a vs, v = .ref a ∧ Z a = some (.tup vs) ∧ Reps P os Z ds vs := by unfold Rep at h; exact h
theorem Rep.lst {ds : List D} {v : V} (h : Rep P os Z (.lst ds) v) : ∃ a vs, v = .ref a ∧ Z a = some (.lst vs) ∧ Reps P os Z ds vs := by unfold Rep at h; exact h
theorem Rep.scr {ns : List Int} {v : V} (h : Rep P os Z (.scr ns) v) : ∃ a, v = .ref a ∧ SqL P.K Z a (ns.map V.int) := by unfold Rep at h; exact h
theorem LR.tup {n : Nat} {ds : List D} {v : V} (k : Le Z H) (h : LR P os Z H n (.tup ds) v) : ∃ a vs, v = .ref a ∧ H a = some (.tup vs) ∧ Reps P os Z ds vs := by
  obtain ⟨a, vs, e, s, r⟩ := (h.notLst rfl).tup
  exact ⟨a, vs, e, k _ _ s, r⟩
theorem paired_rep {n : Nat} {ds : List D} {vs : List V} (r : Reps P os Z ds vs) : Paired (LR P os Z H n) ds vs := paired_imp (fun _ _ h => LR.of h) (reps_paired.mp r)
/-- a list that is looked at, its items -/
theorem LR.lstN {n : Nat} {ds : List D} {v : V} (k : Le Z H) (h : LR P os Z H (n + 1) (.lst ds) v) : ∃ a vs, v = .ref a ∧ H a = some (.lst vs) ∧ Paired (LR P os Z H n) ds vs := by
  rcases h with h | ⟨a, vs, ds', e1, e2, na, hh, r⟩ | ⟨_, _, e, _⟩
  · obtain ⟨a, vs, e, s, r⟩ := h.lst
    exact ⟨a, vs, e, k _ _ s, paired_rep r⟩
  · cases e1
    exact ⟨a, vs, e2, hh, r⟩
  · cases e
theorem LR.lst {ds : List D} {v : V} (k : Le Z H) (h : LR P os Z H 1 (.lst ds) v) : ∃ a vs, v = .ref a ∧ H a = some (.lst vs) ∧ Reps P os Z ds vs := by
  obtain ⟨a, vs, e, s, r⟩ := h.lstN k
  exact ⟨a, vs, e, s, reps_paired.mpr r⟩
theorem LR.len {n : Nat} {ds : List D} {v : V} (k : Le Z H) (h : LR P os Z H n (.lst ds) v) : ∃ a vs, v = .ref a ∧ H a = some (.lst vs) ∧ ds.length = vs.length := by
  obtain ⟨a, vs, e, s, r⟩ := (h.up).lstN k
  exact ⟨a, vs, e, s, Paired.length r⟩

theorem lim_eq : lim = sizeLine := by rw [sizeLine_eq]; rfl
theorem Paired.flatten {α β : Type} {F : α → β → Prop} {xs : List α} {ys : List β} (h : Paired F xs ys) : ∀ n : Nat, Paired F (List.replicate n xs).flatten (List.replicate n ys).flatten
  | 0 => .nil
  | n + 1 => by
    rw [List.replicate_succ, List.replicate_succ, List.flatten_cons, List.flatten_cons]
    exact Paired.app h (Paired.flatten h n)

/-! ### binary operators -/
def opB : Bop → Operator
  | .add => .Add
  | .sub => .Sub
  | .mul => .Mult
  | .fdiv => .FloorDiv
  | .mod => .Mod
  | .pow => .Pow
/-- t * k, k = 1 gives t itself -/
def rRepT1 (K : PySem.W.Frag) : R2 := fun x y H Q => rRepT K x y H Q ∨ ((∃ a xs, x = .ref a ∧ y = .int 1 ∧ SqT K H a xs ∧ xs ≠ [] ∧ Q (.ref a) H) ∨ ∃ a xs, x = .ref a ∧ y = .int 0 ∧ SqT K H a xs ∧ xs ≠ [] ∧ ∀ p, H p = none → Q (.ref p) (upd H p (.tup [])))
def rBin (K : PySem.W.Frag) : Bop → R2
  | .add => fun x y H Q => rI0 (fun i j => .int (i + j)) x y H Q ∨ ((∃ i j, x = .str i ∧ y = .str j ∧ i.length + j.length ≤ sizeLine ∧ Q (.str (i ++ j)) H) ∨ (rCatA K x y H Q ∨ rCat x y H Q))
  | .sub => rI0 fun i j => .int (i - j)
  | .mul => fun x y H Q => rI CMul (fun i j => .int (i * j)) x y H Q ∨ (rI CMulW (fun i j => .int (i * j)) x y H Q ∨ (rRep x y H Q ∨ rRepT1 K x y H Q))
  | .fdiv => rI CDivW fun i j => .int (i / j)
  | .mod => rI (fun _ j => 0 < j) fun i j => .int (i % j)
  | .pow => rI CPow fun i j => .int (i ^ j.toNat)
end
section
open PySem.Spec PyProof.Rows
theorem tuple_mul1 (l : Addr) (items : Array Value) (n : Nat) (dd : Option Addr) (sl : Array (Option Value)) (u : Tok) :
    Meets (Builtin.«tuple.__mul__» ⟨[.ref l, .int 1 u], []⟩) (fun _ R s => s.heap.get? l = some { cls := .type "tuple", dict := dd, data := .seq items n, slots := sl } ∧
      R (.ok (.ret (Value.ref l))) s) :=
  .of_wp fun prog w A R s h => by
    obtain ⟨hp, g, d, tk, os⟩ := s
    obtain ⟨hl, h⟩ := h
    have f1 := AutoSeq1.idx_int
    have c0 : (decide ((1 : Int) < -(2 ^ 63)) || decide ((1 : Int) ≥ 2 ^ 63)) = false := by decide
    have c1 : (items.isEmpty || (1 : Int) == 1) = true := by simp
    wp_walk using wpAny_loadPart' hl
    repeat (first
      | (refine wpAny_ite_false (decide_eq_false (by rw [c0]; exact Bool.false_ne_true)) ?_; wp_walk using wpAny_loadPart' hl)
      | (refine wpAny_ite_true (decide_eq_true c1) ?_; wp_walk using wpAny_loadPart' hl))
    exact ⟨_, rfl, h⟩
theorem op_repT1 {X : Cx} : OpR X (binaryOp .Mult) (fun x y H Q => ∃ a xs, x = .ref a ∧ y = .int 1 ∧ SqT X.K H a xs ∧ xs ≠ [] ∧ Q (.ref a) H) := by
  intro pins s σ H x y v u Q I rx ry h
  obtain ⟨l, xs, rfl, rfl, hT, hne, q⟩ := h
  cases rx
  obtain ⟨t, rfl⟩ := ry
  obtain ⟨its, r, ⟨⟨cls, dd, data, sl⟩, ho, hc, n, hd⟩, hs⟩ := I.tuple hT
  simp only at hc hd
  subst hc hd
  exact wpAny_binaryOp_repeat_ref (T := "tuple") (U := "int") (by decide) ⟨_, ho, rfl⟩ (fun s' => typeIs_int s' 1 t) noFill_tuple_mul F.fills_int_mul F.slot_int_rmul repeat_tuple F.slot_int_index.lookup
    (call_meets F.slot_int_rmul (typeIs_int s 1 t) F.entry_int_rmul (F.args_int_rmul_2 _ _) (int_rmul_tuple 1 t l its.toArray n dd sl)
      ⟨ho, rfl, ⟨_, ho, rfl⟩, call_meets F.slot_tuple_mul ⟨_, ho, rfl⟩ F.entry_tuple_mul (F.args_tuple_mul_2 _ _) (tuple_mul1 l its.toArray n dd sl t) ⟨ho, ⟨.ref l, H, I, rfl, q⟩⟩⟩)
theorem tuple_mul0 (l : Addr) (items : Array Value) (n : Nat) (dd : Option Addr) (sl : Array (Option Value)) (u : Tok) (hi : items.isEmpty = false) :
    Meets (Builtin.«tuple.__mul__» ⟨[.ref l, .int 0 u], []⟩) (fun _ R s => s.heap.get? l = some { cls := .type "tuple", dict := dd, data := .seq items n, slots := sl } ∧
      R (.ok (.ret (Value.ref s.heap.objs.size))) { s with heap := s.heap.push { cls := Value.type "tuple", data := Data.seq #[] }, toks := s.toks }) :=
  .of_wp fun prog w A R s h => by
    obtain ⟨hp, g, d, tk, os⟩ := s
    obtain ⟨hl, h⟩ := h
    have f1 := AutoSeq1.idx_int
    have c0 : (decide ((0 : Int) < -(2 ^ 63)) || decide ((0 : Int) ≥ 2 ^ 63)) = false := by decide
    have c1 : (items.isEmpty || (0 : Int) == 1) = false := by rw [hi]; rfl
    have c2 : (decide ((0 : Int) ≤ 0) || items.isEmpty) = true := by rw [hi]; rfl
    wp_walk using wpAny_loadPart' hl
    repeat (first
      | (refine wpAny_ite_false (decide_eq_false (by rw [c0]; exact Bool.false_ne_true)) ?_; wp_walk using wpAny_loadPart' hl)
      | (refine wpAny_ite_false (decide_eq_false (by rw [c1]; exact Bool.false_ne_true)) ?_; wp_walk using wpAny_loadPart' hl)
      | (refine wpAny_ite_true (decide_eq_true c2) ?_; wp_walk using wpAny_loadPart' hl))
    exact ⟨_, rfl, h⟩
theorem op_repT0 {X : Cx} : OpR X (binaryOp .Mult) (fun x y H Q => ∃ a xs, x = .ref a ∧ y = .int 0 ∧ SqT X.K H a xs ∧ xs ≠ [] ∧ ∀ p, H p = none → Q (.ref p) (upd H p (.tup []))) := by
  intro pins s σ H x y v u Q I rx ry h
  obtain ⟨l, xs, rfl, rfl, hT, hne, q⟩ := h
  cases rx
  obtain ⟨t, rfl⟩ := ry
  obtain ⟨its, r, ⟨⟨cls, dd, data, sl⟩, ho, hc, n, hd⟩, hs⟩ := I.tuple hT
  simp only at hc hd
  subst hc hd
  have hle : its.length = xs.length := r.length.symm
  have hi : its.toArray.isEmpty = false := by
    cases its with
    | nil => exact absurd (List.eq_nil_of_length_eq_zero hle.symm) hne
    | cons a b => rfl
  refine wpAny_binaryOp_repeat_ref (T := "tuple") (U := "int") (by decide) ⟨_, ho, rfl⟩ (fun s' => typeIs_int s' 0 t) noFill_tuple_mul F.fills_int_mul F.slot_int_rmul repeat_tuple F.slot_int_index.lookup
    (call_meets F.slot_int_rmul (typeIs_int s 0 t) F.entry_int_rmul (F.args_int_rmul_2 _ _) (int_rmul_tuple 0 t l its.toArray n dd sl)
      ⟨ho, rfl, ⟨_, ho, rfl⟩, call_meets F.slot_tuple_mul ⟨_, ho, rfl⟩ F.entry_tuple_mul (F.args_tuple_mul_2 _ _) (tuple_mul0 l its.toArray n dd sl t hi) ⟨ho, ?_⟩⟩)
  refine ⟨.ref s.heap.objs.size, _, I.laid (t' := s.toks) (o := .tup []) (fun b ob q => Heap.get?_push_of_some _ q) (Nat.le_refl _) ?_, rfl, q _ (I.hok.fresh (Nat.le_refl _))⟩
  exact ⟨Nat.zero_le _, [], .nil, IsTup.new _ _⟩
theorem rBin_ok {X : Cx} : ∀ o : Bop, OpR X (binaryOp (opB o)) (rBin X.K o)
  | .add => op_add.or (op_add_str.or (op_catA.or op_cat))
  | .sub => op_sub
  | .mul => op_mul.or (op_mulW.or (op_rep.or (op_repT.or (op_repT1.or op_repT0))))
  | .fdiv => op_fdivW
  | .mod => op_mod
  | .pow => op_pow
end
section
variable {P : Pm} {os os' : List Addr} {Z Z' H H' : Hp} {w : Wd} {X : Cx} {Q : VK}
theorem guardO_some {b : Bool} {x d : D} (h : guardO b (some x) = some d) : b = true ∧ d = x := by
  unfold guardO at h
  cases b with
  | true => simp only [if_true] at h; cases h; exact ⟨rfl, rfl⟩
  | false => simp at h
theorem bin_ok {o : Bop} {dx dy d : D} {x y : V} (k : Ok P os w Z H) (rx : LR P os Z H 1 dx x) (ry : LR P os Z H 1 dy y) (e : D.bin o dx dy = some d) (q : Wn P os Z H w d Q) : rBin P.K o x y H Q := by
  have h := lim_eq
  cases o with
  | add =>
    cases dx <;> cases dy <;> first | (cases e; done) | skip
    case int.int i j => cases e; exact .inl ⟨i, j, rx.int, ry.int, q.int k⟩
    case str.str i j =>
      obtain ⟨e1, rfl⟩ := guardO_some e
      exact .inr (.inl ⟨i, j, rx.str, ry.str, by rw [← h]; exact of_decide_eq_true e1, q.str k⟩)
    case tup.tup xs ys =>
      obtain ⟨e1, rfl⟩ := guardO_some e
      obtain ⟨a, vs, rfl, ha, ra⟩ := rx.tup k.zh
      obtain ⟨b, us, rfl, hb, rb⟩ := ry.tup k.zh
      have hl : vs.length + us.length ≤ sizeLine := by rw [← ra.length, ← rb.length, ← h]; exact of_decide_eq_true e1
      refine .inr (.inr (.inl ⟨a, b, vs, us, rfl, rfl, .of ha, .of hb, hl, fun e => ?_, fun _ e => ?_, fun _ _ p hp => q.tup k hp (ra.append rb)⟩))
      · have e2 : xs = [] := List.eq_nil_of_length_eq_zero (by rw [ra.length, e]; rfl)
        subst e2
        exact q.val k rfl (ry.notLst rfl)
      · have e2 : ys = [] := List.eq_nil_of_length_eq_zero (by rw [rb.length, e]; rfl)
        subst e2
        refine q.val k rfl ?_
        rw [List.append_nil]
        exact rx.notLst rfl
    case lst.lst xs ys =>
      obtain ⟨e1, rfl⟩ := guardO_some e
      obtain ⟨a, vs, rfl, ha, ra⟩ := rx.lst k.zh
      obtain ⟨b, us, rfl, hb, rb⟩ := ry.lst k.zh
      have hl : vs.length + us.length ≤ sizeLine := by rw [← ra.length, ← rb.length, ← h]; exact of_decide_eq_true e1
      exact .inr (.inr (.inr ⟨a, b, vs, us, rfl, rfl, ha, hb, hl, fun p hp => q.lst k hp (ra.append rb)⟩))
  | sub =>
    cases dx <;> cases dy <;> first | (cases e; done) | skip
    case int.int i j => cases e; exact ⟨i, j, rx.int, ry.int, q.int k⟩
  | mul =>
    cases dx <;> cases dy <;> first | (cases e; done) | skip
    case int.int i j =>
      obtain ⟨e1, rfl⟩ := guardO_some e
      unfold okMul smallI at e1
      simp only [Bool.or_eq_true, Bool.and_eq_true, decide_eq_true_eq] at e1
      rcases e1 with (e1 | e1) | e1
      · exact .inl ⟨i, j, rx.int, ry.int, .inl e1, q.int k⟩
      · exact .inl ⟨i, j, rx.int, ry.int, .inr e1, q.int k⟩
      · exact .inr (.inl ⟨i, j, rx.int, ry.int, by unfold CMulW; omega, q.int k⟩)
    case lst.int xs i =>
      obtain ⟨e1, rfl⟩ := guardO_some e
      simp only [Bool.and_eq_true, decide_eq_true_eq] at e1
      obtain ⟨a, vs, rfl, ha, ra⟩ := rx.lst k.zh
      refine .inr (.inr (.inl ⟨a, i, vs, rfl, ry.int, ha, by omega, by omega, ?_, fun p hp => q.lst k hp (reps_paired.mpr (Paired.flatten (reps_paired.mp ra) _))⟩))
      have hl := ra.length
      rw [sizeLine_eq]
      have : vs.length * i.toNat ≤ 1000 * 1000 := Nat.mul_le_mul (by omega) (by omega)
      omega
    case tup.int xs i =>
      obtain ⟨e1, rfl⟩ := guardO_some e
      simp only [Bool.and_eq_true, decide_eq_true_eq] at e1
      obtain ⟨a, vs, rfl, ha, ra⟩ := rx.tup k.zh
      have hne : vs ≠ [] := by
        intro z; subst z
        have := ra.length
        cases xs with
        | nil => simp at e1
        | cons _ _ => simp at this
      by_cases h1 : i = 1
      · subst h1
        refine .inr (.inr (.inr (.inr (.inl ⟨a, vs, rfl, ry.int, .of ha, hne, q.val k rfl ?_⟩))))
        simp only [Int.toNat_one, List.replicate_one, List.flatten_singleton]
        exact rx.notLst rfl
      · by_cases h0 : i = 0
        · subst h0
          refine .inr (.inr (.inr (.inr (.inr ⟨a, vs, rfl, ry.int, .of ha, hne, fun p hp => ?_⟩))))
          exact q.tup k hp reps_nil
        refine .inr (.inr (.inr (.inl ⟨a, i, vs, rfl, ry.int, .of ha, hne, by omega, by omega, ?_, fun p hp => q.tup k hp (reps_paired.mpr (Paired.flatten (reps_paired.mp ra) _))⟩)))
        rw [← ra.length]; omega
  | fdiv =>
    cases dx <;> cases dy <;> first | (cases e; done) | skip
    case int.int i j =>
      obtain ⟨e1, rfl⟩ := guardO_some e
      unfold okDiv at e1
      simp only [Bool.and_eq_true, decide_eq_true_eq] at e1
      exact ⟨i, j, rx.int, ry.int, ⟨e1.1, by omega⟩, q.int k⟩
  | mod =>
    cases dx <;> cases dy <;> first | (cases e; done) | skip
    case int.int i j =>
      obtain ⟨e1, rfl⟩ := guardO_some e
      exact ⟨i, j, rx.int, ry.int, of_decide_eq_true e1, q.int k⟩
  | pow =>
    cases dx <;> cases dy <;> first | (cases e; done) | skip
    case int.int i j =>
      obtain ⟨e1, rfl⟩ := guardO_some e
      simp only [Bool.and_eq_true, decide_eq_true_eq] at e1
      exact ⟨i, j, rx.int, ry.int, ⟨e1.1.1, e1.1.2, e1.2⟩, q.int k⟩
end
end VI

set_option Elab.async false
set_option linter.all false
set_option maxRecDepth 100000
/-! VI, part 3d: dicts, by data. -/
namespace VI
open PySem L2
section
variable {P : Pm} {os os' : List Addr} {Z Z' H H' : Hp} {w : Wd} {X : Cx} {Q : VK}
mutual
theorem rep_nk : ∀ (d : D) (n : Nat) (v : V), D.kok n d = true → Rep P os Z d v → NkV Z (nk d) v
  | .non, n, v, _, r => by unfold Rep at r; subst r; unfold nk NkV; rfl
  | .int i, n, v, _, r => by unfold Rep at r; subst r; unfold nk NkV; rfl
  | .str x, n, v, _, r => by unfold Rep at r; subst r; unfold nk NkV; rfl
  | .tup ds, n, v, h, r => by
    obtain ⟨m, rfl, h2⟩ := kok_tup h
    obtain ⟨a, vs, rfl, s, rr⟩ := r.tup
    unfold nk NkV
    exact ⟨a, vs, rfl, s, reps_nks ds m vs h2 rr⟩
  | .bl _, m, _, h, _ => by cases m <;> cases h
  | .lst _, m, _, h, _ => by cases m <;> cases h
  | .dct _, m, _, h, _ => by cases m <;> cases h
  | .fn _, m, _, h, _ => by cases m <;> cases h
  | .obj _, m, _, h, _ => by cases m <;> cases h
  | .scr _, m, _, h, _ => by cases m <;> cases h
theorem reps_nks : ∀ (ds : List D) (n : Nat) (vs : List V), allKok n ds → Reps P os Z ds vs → NksV Z (nks ds) vs
  | [], n, vs, _, r => by unfold Reps at r; subst r; unfold nks NksV; rfl
  | d :: ds, n, vs, h, r => by
    unfold Reps at r
    obtain ⟨v, t, rfl, r1, r2⟩ := r
    unfold nks NksV
    exact ⟨v, t, rfl, rep_nk d n v (h d (.head _)) r1, reps_nks ds n t (fun x hx => h x (.tail _ hx)) r2⟩
end
mutual
theorem nk_rep : ∀ (d : D) (n : Nat) (v : V), D.kok n d = true → NkV Z (nk d) v → Rep P os Z d v
  | .non, n, v, _, r => by unfold nk NkV at r; subst r; unfold Rep; rfl
  | .int i, n, v, _, r => by unfold nk NkV at r; subst r; unfold Rep; rfl
  | .str x, n, v, _, r => by unfold nk NkV at r; subst r; unfold Rep; rfl
  | .tup ds, n, v, h, r => by
    obtain ⟨m, rfl, h2⟩ := kok_tup h
    unfold nk NkV at r
    obtain ⟨a, vs, rfl, s, rr⟩ := r
    unfold Rep
    exact ⟨a, vs, rfl, s, nks_reps ds m vs h2 rr⟩
  | .bl _, m, _, h, _ => by cases m <;> cases h
  | .lst _, m, _, h, _ => by cases m <;> cases h
  | .dct _, m, _, h, _ => by cases m <;> cases h
  | .fn _, m, _, h, _ => by cases m <;> cases h
  | .obj _, m, _, h, _ => by cases m <;> cases h
  | .scr _, m, _, h, _ => by cases m <;> cases h
theorem nks_reps : ∀ (ds : List D) (n : Nat) (vs : List V), allKok n ds → NksV Z (nks ds) vs → Reps P os Z ds vs
  | [], n, vs, _, r => by unfold nks NksV at r; subst r; unfold Reps; rfl
  | d :: ds, n, vs, h, r => by
    unfold nks NksV at r
    obtain ⟨v, t, rfl, r1, r2⟩ := r
    unfold Reps
    exact ⟨v, t, rfl, nk_rep d n v (h d (.head _)) r1, nks_reps ds n t (fun x hx => h x (.tail _ hx)) r2⟩
end
/-- a key's value is where it lies -/
theorem key_ok {d : D} {v : V} (h : D.key d = true) (r : Rep P os Z d v) : ∃ b, v = .ref b ∧ KeyOk Z (nk d) b := by
  obtain ⟨h1, ds, rfl⟩ := key_kok h
  have r1 := rep_nk _ 6 v h1 r
  obtain ⟨a, vs, rfl, _⟩ := r.tup
  exact ⟨a, rfl, r1, Nat.le_trans (nk_depth _ 6 h1) (by decide)⟩
theorem KeyOk.mono {Z Z' : Hp} (hz : Le Z Z') {k : NestedKey} {b : Addr} (h : KeyOk Z k b) : KeyOk Z' k b := ⟨NkV.mono (fun a xs e => hz a _ e) h.1, h.2⟩
theorem eqv_keys {a b : D} (h : D.key a = true) (g : D.key b = true) : D.eqv a b = decide (nk a = nk b) := eqv_nk a b 6 6 (key_kok h).1 (key_kok g).1
theorem dget_find {k : D} (hk : D.key k = true) : ∀ {kvs : List (D × D)} {qs : List Row}, Paired (RepK P os Z) kvs qs → match dget kvs k with
    | some d => ∃ q, findQ qs (nk k) = some q ∧ Rep P os Z d q.2.2
    | none => findQ qs (nk k) = none
  | _, _, .nil => rfl
  | p :: kvs, q :: qs, .cons h t => by
    have ih := dget_find hk t
    obtain ⟨kk, d⟩ := p
    unfold RepK at h
    obtain ⟨h1, h2, h3⟩ := h
    unfold dget findQ at *
    by_cases c : nk kk = nk k
    · have c1 : D.eqv kk k = true := by rw [eqv_keys h1 hk, c]; simp
      rw [List.find?_cons_of_pos (by simpa using c1), List.find?_cons_of_pos (by simpa [h2] using c)]
      exact ⟨q, rfl, h3⟩
    · have c1 : ¬ D.eqv kk k = true := by rw [eqv_keys h1 hk]; simpa using c
      rw [List.find?_cons_of_neg (by simpa using c1), List.find?_cons_of_neg (by simpa [h2] using c)]
      exact ih
theorem dget_some {k d : D} {kvs : List (D × D)} {qs : List Row} (hk : D.key k = true) (h : Paired (RepK P os Z) kvs qs) (e : dget kvs k = some d) : ∃ q, findQ qs (nk k) = some q ∧ Rep P os Z d q.2.2 := by
  have := dget_find hk h; rw [e] at this; exact this
theorem dget_none {k : D} {kvs : List (D × D)} {qs : List Row} (hk : D.key k = true) (h : Paired (RepK P os Z) kvs qs) (e : dget kvs k = none) : findQ qs (nk k) = none := by
  have := dget_find hk h; rw [e] at this; exact this
theorem dget_is {k : D} {kvs : List (D × D)} {qs : List Row} (hk : D.key k = true) (h : Paired (RepK P os Z) kvs qs) : (findQ qs (nk k)).isSome = (dget kvs k).isSome := by
  cases e : dget kvs k with
  | none => rw [dget_none hk h e]; rfl
  | some d => obtain ⟨q, e1, _⟩ := dget_some hk h e; rw [e1]; rfl
theorem any_is {k : D} {kvs : List (D × D)} : (kvs.any fun p => D.eqv p.1 k) = (dget kvs k).isSome := by
  unfold dget
  induction kvs with
  | nil => rfl
  | cons p kvs ih =>
    rw [List.any_cons]
    by_cases c : D.eqv p.1 k = true
    · rw [List.find?_cons_of_pos (by simpa using c), c]; rfl
    · rw [List.find?_cons_of_neg (by simpa using c), ih]
      simp [c]
theorem dput_map {k d : D} {v : V} (hk : D.key k = true) (rd : Rep P os Z d v) : ∀ {kvs : List (D × D)} {qs : List Row}, Paired (RepK P os Z) kvs qs →
    Paired (RepK P os Z) (kvs.map fun p => if D.eqv p.1 k then (p.1, d) else p) (qs.map fun q => if q.1 = nk k then (q.1, q.2.1, v) else q)
  | _, _, .nil => .nil
  | (kk, d') :: kvs, q :: qs, .cons h t => by
    have ih := dput_map hk rd t
    unfold RepK at h
    obtain ⟨h1, h2, h3⟩ := h
    refine .cons ?_ ih
    by_cases c : nk kk = nk k
    · have c1 : D.eqv kk k = true := by rw [eqv_keys h1 hk, c]; simp
      simp only [c1, if_true, h2, c]
      unfold RepK
      exact ⟨h1, c.symm, rd⟩
    · have c1 : ¬ D.eqv kk k = true := by rw [eqv_keys h1 hk]; simpa using c
      simp only [if_neg c1, h2, if_neg c]
      unfold RepK
      exact ⟨h1, h2, h3⟩
/-- the rows when a key is given a value -/
theorem dput_rows {k d : D} {b : Addr} {v : V} {kvs : List (D × D)} {qs : List Row} (hk : D.key k = true) (rd : Rep P os Z d v) (h : Paired (RepK P os Z) kvs qs) : Paired (RepK P os Z) (dput kvs k d) (storeQ qs (nk k) b v) := by
  unfold dput storeQ
  rw [any_is, dget_is hk h]
  split
  · exact dput_map hk rd h
  · refine Paired.app h (.cons ?_ .nil)
    unfold RepK
    exact ⟨hk, rfl, rd⟩
theorem store_rws {w : World} {k : NestedKey} {b : Addr} {v : V} {qs : List Row} {es es' : Array DictEntry} (hk : KeyOk Z k b) (h : Rws w Z qs es) (hl : qs.length < sizeLine) (he : Paired (EntV w) (storeQ qs k b v) es'.toList) : Rws w Z (storeQ qs k b v) es' := by
  refine ⟨he, fun q hq => ?_, ?_, ?_⟩
  · unfold storeQ at hq
    split at hq
    · obtain ⟨q0, h0, rfl⟩ := List.mem_map.mp hq
      have := h.key q0 h0
      by_cases c : q0.1 = k
      · rw [if_pos c]; exact this
      · rw [if_neg c]; exact this
    · rcases List.mem_append.mp hq with hq | hq
      · exact h.key q hq
      · rcases List.mem_singleton.mp hq with rfl
        exact hk
  · rw [storeQ_keys]
    split
    · exact h.nd
    · rename_i c
      refine List.nodup_append.mpr ⟨h.nd, by simp, fun a ha c' hc e => ?_⟩
      rcases List.mem_singleton.mp hc with rfl
      subst e
      obtain ⟨q, hq, e⟩ := List.mem_map.mp ha
      refine c ?_
      unfold findQ
      rw [List.find?_isSome]
      exact ⟨q, hq, by simpa using e⟩
  · unfold storeQ
    split
    · rw [List.length_map]; omega
    · rw [List.length_append]; simp; omega
theorem rws_nil {w : World} : Rws w Z [] #[] := ⟨.nil, fun q h => (nomatch h), List.nodup_nil, Nat.zero_le _⟩
theorem storeQ_le {k : NestedKey} {b : Addr} {v : V} {qs : List Row} : (storeQ qs k b v).length ≤ qs.length + 1 := by
  unfold storeQ
  split
  · rw [List.length_map]; omega
  · rw [List.length_append]; simp
end
end VI

set_option Elab.async false
set_option linter.all false
set_option maxRecDepth 100000
/-! VI, part 4: comparisons, by data. -/
namespace VI
open PySem L2
theorem toPys_map : ∀ ds : List D, toPys ds = ds.map toPy
  | [] => rfl
  | d :: ds => by unfold toPys; rw [toPys_map ds, List.map_cons]
/-- what D.ok says, by places -/
def allOk (n : Nat) (ds : List D) : Prop := ∀ d ∈ ds, D.ok n d = true
theorem ok_lst {n : Nat} {ds : List D} (h : D.ok n (.lst ds) = true) : ∃ m, n = m + 1 ∧ allOk m ds := by
  cases n with
  | zero => cases h
  | succ n => exact ⟨n, rfl, List.all_eq_true.mp h⟩
theorem ok_tup {n : Nat} {ds : List D} (h : D.ok n (.tup ds) = true) : ∃ m, n = m + 1 ∧ allOk m ds := by
  cases n with
  | zero => cases h
  | succ n => exact ⟨n, rfl, List.all_eq_true.mp h⟩
theorem ok_str {n : Nat} {x : Str} (h : D.ok n (.str x) = true) : PyData.strOk x = true := by
  cases n <;> exact h
mutual
theorem lay_of : ∀ (d : D) (n : Nat), D.ok n d = true → (toPy d).canLay0 = true ∧ (toPy d).depth ≤ n
  | .non, n, _ => by unfold toPy PyData.canLay0 PyData.depth; exact ⟨rfl, Nat.zero_le _⟩
  | .bl b, n, _ => by unfold toPy PyData.canLay0 PyData.depth; exact ⟨rfl, Nat.zero_le _⟩
  | .int i, n, _ => by unfold toPy PyData.canLay0 PyData.depth; exact ⟨rfl, Nat.zero_le _⟩
  | .str x, n, h => by unfold toPy PyData.canLay0 PyData.depth; exact ⟨ok_str h, Nat.zero_le _⟩
  | .tup ds, n, h => by
    obtain ⟨m, rfl, h2⟩ := ok_tup h
    obtain ⟨a, b⟩ := lays_of ds m h2
    unfold toPy PyData.canLay0 PyData.depth
    exact ⟨a, by omega⟩
  | .lst ds, n, h => by
    obtain ⟨m, rfl, h2⟩ := ok_lst h
    obtain ⟨a, b⟩ := lays_of ds m h2
    unfold toPy PyData.canLay0 PyData.depth
    exact ⟨a, by omega⟩
  | .dct _, n, h => by cases n <;> cases h
  | .fn _, n, h => by cases n <;> cases h
  | .obj _, n, h => by cases n <;> cases h
  | .scr _, n, h => by cases n <;> cases h
theorem lays_of : ∀ (ds : List D) (n : Nat), allOk n ds → PyData.canLayAll0 (toPys ds) = true ∧ PyData.depthAll (toPys ds) ≤ n
  | [], n, _ => by unfold toPys PyData.canLayAll0 PyData.depthAll; exact ⟨rfl, Nat.zero_le _⟩
  | d :: ds, n, h => by
    obtain ⟨a, b⟩ := lay_of d n (h d List.mem_cons_self)
    obtain ⟨a2, b2⟩ := lays_of ds n fun e he => h e (List.mem_cons_of_mem _ he)
    unfold toPys PyData.canLayAll0 PyData.depthAll
    exact ⟨by rw [a, a2]; rfl, by omega⟩
end
theorem shaped_of {d : D} (h : D.ok dpt d = true) : SeqAt.shaped (toPy d) = true := by
  obtain ⟨a, b⟩ := lay_of d dpt h
  unfold SeqAt.shaped
  rw [a, Bool.true_and]
  exact decide_eq_true (Nat.le_trans b (by decide))
mutual
theorem eqv_py : ∀ (d e : D) (m n : Nat), D.ok m d = true → D.ok n e = true → PyData.eqv (toPy d) (toPy e) = D.eqv d e
  | .non, e, m, n, _, h => by cases e <;> first | (simp only [toPy, PyData.eqv, D.eqv]; done) | (exfalso; cases n <;> cases h; done)
  | .bl b, e, m, n, _, h => by cases e <;> first | (simp only [toPy, PyData.eqv, D.eqv]; done) | (exfalso; cases n <;> cases h; done)
  | .int i, e, m, n, _, h => by cases e <;> first | (simp only [toPy, PyData.eqv, D.eqv]; done) | (exfalso; cases n <;> cases h; done)
  | .str x, e, m, n, _, h => by cases e <;> first | (simp only [toPy, PyData.eqv, D.eqv]; done) | (exfalso; cases n <;> cases h; done)
  | .tup ds, e, m, n, g, h => by
    obtain ⟨m, rfl, g2⟩ := ok_tup g
    cases e <;> first | (simp only [toPy, PyData.eqv, D.eqv]; done) | (exfalso; cases n <;> cases h; done) | skip
    rename_i es
    obtain ⟨n, rfl, h2⟩ := ok_tup h
    simp only [toPy, PyData.eqv, D.eqv]
    exact eqvs_py ds es m n g2 h2
  | .lst ds, e, m, n, g, h => by
    obtain ⟨m, rfl, g2⟩ := ok_lst g
    cases e <;> first | (simp only [toPy, PyData.eqv, D.eqv]; done) | (exfalso; cases n <;> cases h; done) | skip
    rename_i es
    obtain ⟨n, rfl, h2⟩ := ok_lst h
    simp only [toPy, PyData.eqv, D.eqv]
    exact eqvs_py ds es m n g2 h2
  | .dct _, _, m, _, h, _ => by cases m <;> cases h
  | .fn _, _, m, _, h, _ => by cases m <;> cases h
  | .obj _, _, m, _, h, _ => by cases m <;> cases h
  | .scr _, _, m, _, h, _ => by cases m <;> cases h
theorem eqvs_py : ∀ (ds es : List D) (m n : Nat), allOk m ds → allOk n es → PyData.eqvAll (toPys ds) (toPys es) = D.eqvs ds es
  | [], [], _, _, _, _ => by simp only [toPys, PyData.eqvAll, D.eqvs]
  | [], _ :: _, _, _, _, _ => by simp only [toPys, PyData.eqvAll, D.eqvs]
  | _ :: _, [], _, _, _, _ => by simp only [toPys, PyData.eqvAll, D.eqvs]
  | d :: ds, e :: es, m, n, g, h => by
    simp only [toPys, PyData.eqvAll, D.eqvs]
    rw [eqv_py d e m n (g d List.mem_cons_self) (h e List.mem_cons_self), eqvs_py ds es m n (fun x hx => g x (List.mem_cons_of_mem _ hx)) fun x hx => h x (List.mem_cons_of_mem _ hx)]
end
section
variable {P : Pm} {os os' : List Addr} {Z Z' H H' : Hp} {w : Wd} {X : Cx} {Q : VK}
mutual
theorem Rep.dp (k : Le Z H) : ∀ (d : D) (n : Nat) (v : V), D.ok n d = true → Rep P os Z d v → Dp P.K H v (toPy d)
  | .non, n, v, _, r => by unfold Rep at r; subst r; unfold toPy; exact .non
  | .bl b, n, v, _, r => by unfold Rep at r; subst r; unfold toPy; exact .bl b
  | .int i, n, v, _, r => by unfold Rep at r; subst r; unfold toPy; exact .int i
  | .str x, n, v, _, r => by unfold Rep at r; subst r; unfold toPy; exact .str x
  | .tup ds, n, v, h, r => by
    obtain ⟨m, rfl, h2⟩ := ok_tup h
    obtain ⟨a, vs, rfl, s, rr⟩ := r.tup
    unfold toPy
    exact .tup (.of (k _ _ s)) (Reps.dp k ds m vs h2 rr)
  | .lst ds, n, v, h, r => by
    obtain ⟨m, rfl, h2⟩ := ok_lst h
    obtain ⟨a, vs, rfl, s, rr⟩ := r.lst
    unfold toPy
    exact .lst (.of (k _ _ s)) (Reps.dp k ds m vs h2 rr)
  | .dct _, n, _, h, _ => by cases n <;> cases h
  | .fn _, n, _, h, _ => by cases n <;> cases h
  | .obj _, n, _, h, _ => by cases n <;> cases h
  | .scr _, n, _, h, _ => by cases n <;> cases h
theorem Reps.dp (k : Le Z H) : ∀ (ds : List D) (n : Nat) (vs : List V), allOk n ds → Reps P os Z ds vs → DpAll P.K H vs (toPys ds)
  | [], n, vs, _, r => by unfold Reps at r; subst r; unfold toPys; exact .nil
  | d :: ds, n, vs, h, r => by
    unfold Reps at r
    obtain ⟨v, t, rfl, r1, r2⟩ := r
    unfold toPys
    exact .cons (Rep.dp k d n v (h d List.mem_cons_self) r1) (Reps.dp k ds n t (fun x hx => h x (List.mem_cons_of_mem _ hx)) r2)
end
theorem LR.dp (k : Le Z H) {d : D} {n : Nat} {v : V} (h : D.ok n d = true) (r : LR P os Z H 1 d v) : Dp P.K H v (toPy d) := by
  rcases r with r | ⟨a, vs, ds, rfl, rfl, na, hh, r⟩ | ⟨_, _, rfl, _⟩
  · exact r.dp k d n v h
  · obtain ⟨m, rfl, h2⟩ := ok_lst h
    unfold toPy
    exact .lst (.of hh) (Reps.dp k ds m vs h2 (reps_paired.mpr r))
  · cases n <;> cases h
/-- x in a tuple, at any depth -/
def rInT (K : PySem.W.Frag) (neg : Bool) : R2 := fun x y H Q => ∃ d ds, Dp K H x d ∧ Dp K H y (.tuple ds) ∧ SeqAt.shaped d = true ∧ SeqAt.shaped (.tuple ds) = true ∧ Q (.bl (if neg then !ds.any fun z => PyData.eqv z d else ds.any fun z => PyData.eqv z d)) H
theorem op_inT (hu : X.A.units + 65 < cLine) : OpR X (compareOp .In) (rInT X.K false) := by
  intro pins s σ H x y v u Q I rx ry h
  obtain ⟨d, ds, hd, he, sd, se, q⟩ := h
  obtain ⟨as, r1⟩ := Dp.reads I d x v hd rx
  obtain ⟨bs, r2⟩ := Dp.reads I (.tuple ds) y u he ry
  exact SeqAt.in_tuple_reads r2 r1 (SeqAt.canLay_of_shaped se) (SeqAt.canLay_of_shaped sd) (PyProof.Rows.room_in_shaped sd hu) ⟨.bl _, H, I, rfl, q⟩
theorem op_notInT (hu : X.A.units + 65 < cLine) : OpR X (compareOp .NotIn) (rInT X.K true) := by
  intro pins s σ H x y v u Q I rx ry h
  obtain ⟨d, ds, hd, he, sd, se, q⟩ := h
  obtain ⟨as, r1⟩ := Dp.reads I d x v hd rx
  obtain ⟨bs, r2⟩ := Dp.reads I (.tuple ds) y u he ry
  exact SeqAt.notIn_tuple_reads r2 r1 (SeqAt.canLay_of_shaped se) (SeqAt.canLay_of_shaped sd) (PyProof.Rows.room_in_shaped sd hu) ⟨.bl _, H, I, rfl, q⟩
def opC : Cop → CmpOp
  | .lt => .Lt
  | .le => .LtE
  | .gt => .Gt
  | .ge => .GtE
  | .eq => .Eq
  | .ne => .NotEq
  | .isin => .In
  | .notin => .NotIn
def rCmp (K : PySem.W.Frag) (w : World) : Cop → R2
  | .lt => rI0 fun i j => .bl (decide (i < j))
  | .le => fun x y H Q => rI0 (fun i j => .bl (decide (i ≤ j))) x y H Q ∨ rLeT K x y H Q
  | .gt => rI0 fun i j => .bl (decide (j < i))
  | .ge => rI0 fun i j => .bl (decide (j ≤ i))
  | .eq => fun x y H Q => rEqD K x y H Q ∨ rEqN x y H Q
  | .ne => fun x y H Q => rNeD K x y H Q ∨ rNeN x y H Q
  | .isin => fun x y H Q => rInN w false x y H Q ∨ (rInD K x y H Q ∨ (rInT K false x y H Q ∨ ∃ (c : Nat) (z : Str), x = .str ⟨#[c]⟩ ∧ y = .str z ∧ Q (.bl (decide (c ∈ z.cps.toList))) H))
  | .notin => fun x y H Q => rInN w true x y H Q ∨ (rNotInD K x y H Q ∨ (rInT K true x y H Q ∨ ∃ (c : Nat) (z : Str), x = .str ⟨#[c]⟩ ∧ y = .str z ∧ Q (.bl (!decide (c ∈ z.cps.toList))) H))
theorem rCmp_ok (hu : X.A.units + 65 < cLine) : ∀ o : Cop, OpR X (compareOp (opC o)) (rCmp X.K X.w o)
  | .lt => op_lt
  | .le => op_le.or (op_leT (by omega))
  | .gt => op_gt
  | .ge => op_ge
  | .eq => (op_eqD (by omega)).or (op_eqN (by omega))
  | .ne => (op_neD (by omega)).or (op_neN (by omega))
  | .isin => (op_inN (by omega)).or ((op_inD hu).or ((op_inT hu).or op_in_sign))
  | .notin => (op_notInN (by omega)).or ((op_notInD hu).or ((op_notInT hu).or op_notIn_sign))
theorem any_py {x : D} {ys : List D} {m n : Nat} (h : D.ok m x = true) (g : allOk n ys) : ((toPys ys).any fun z => PyData.eqv z (toPy x)) = ys.any fun y => D.eqv y x := by
  induction ys with
  | nil => unfold toPys; rfl
  | cons y ys ih =>
    unfold toPys
    rw [List.any_cons, List.any_cons, eqv_py y x n m (g y List.mem_cons_self) h, ih fun z hz => g z (List.mem_cons_of_mem _ hz)]
theorem cmpEq_ok {a b : D} {c : Bool} {x y : V} (k : Le Z H) (rx : LR P os Z H 1 a x) (ry : LR P os Z H 1 b y) (e : D.cmpEq a b = some c) :
    (∃ d e, Dp P.K H x d ∧ Dp P.K H y e ∧ SeqAt.shaped d = true ∧ SeqAt.shaped e = true ∧ PyData.eqv d e = c) ∨
    ∃ a b es ep ep2, x = .ref a ∧ y = .ref b ∧ H a = some (dRaw a es ep) ∧ H b = some (dRaw b #[] ep2) ∧ es.isEmpty = c := by
  unfold D.cmpEq at e
  by_cases h : (D.ok dpt a && D.ok dpt b) = true
  · rw [if_pos h] at e
    cases e
    rw [Bool.and_eq_true] at h
    exact .inl ⟨_, _, rx.dp k h.1, ry.dp k h.2, shaped_of h.1, shaped_of h.2, eqv_py a b _ _ h.1 h.2⟩
  · rw [if_neg h] at e
    cases a <;> first | (cases e; done) | skip
    rename_i kvs
    cases b <;> first | (cases e; done) | skip
    rename_i ks2
    cases ks2 <;> first | (cases e; done) | skip
    cases e
    obtain ⟨a, rfl, es, ep, qs, s1, r1, t1⟩ := rx.dct k
    obtain ⟨b, rfl, es2, ep2, qs2, s2, r2, t2⟩ := ry.dct k
    have e2 : es2 = #[] := by
      cases t2
      have := r2.size
      exact Array.eq_empty_of_size_eq_zero this
    subst e2
    refine .inr ⟨a, b, es, ep, ep2, rfl, rfl, s1, s2, ?_⟩
    have h1 := r1.size
    have h2 := Paired.length t1
    rw [Bool.eq_iff_iff]
    simp only [Array.isEmpty_iff_size_eq_zero, List.isEmpty_iff_length_eq_zero]
    omega
theorem isIn_ok {a b : D} {c : Bool} {x y : V} (k : Le Z H) (rx : LR P os Z H 1 a x) (ry : LR P os Z H 1 b y) (e : D.isIn a b = some c) :
    (∃ d es ep qs b kk, DK P.wo H y x d es ep qs b kk ∧ (findQ qs kk).isSome = c) ∨ (∃ d ds, Dp P.K H x d ∧ Dp P.K H y (.list ds) ∧ SeqAt.shaped d = true ∧ SeqAt.shaped (.list ds) = true ∧ (ds.any fun z => PyData.eqv z d) = c) ∨
    (∃ d ds, Dp P.K H x d ∧ Dp P.K H y (.tuple ds) ∧ SeqAt.shaped d = true ∧ SeqAt.shaped (.tuple ds) = true ∧ (ds.any fun z => PyData.eqv z d) = c) ∨
    ∃ (n : Nat) (z : Str), x = .str ⟨#[n]⟩ ∧ y = .str z ∧ decide (n ∈ z.cps.toList) = c := by
  have seq : ∀ {ys : List D}, D.inSeq a ys = some c → D.ok dpt a = true ∧ D.ok dpt (.lst ys) = true ∧ (ys.any fun y => D.eqv y a) = c := by
    intro ys h
    unfold D.inSeq at h
    by_cases g : (D.ok dpt a && D.ok dpt (.lst ys)) = true
    · rw [if_pos g] at h
      cases h
      rw [Bool.and_eq_true] at g
      exact ⟨g.1, g.2, rfl⟩
    · rw [if_neg g] at h; cases h
  cases b with
  | lst ys =>
    have e' : D.inSeq a ys = some c := by cases a <;> exact e
    obtain ⟨h1, h2, h3⟩ := seq e'
    refine .inr (.inl ⟨toPy a, toPys ys, rx.dp k h1, ?_, shaped_of h1, ?_, ?_⟩)
    · have := ry.dp k h2; unfold toPy at this; exact this
    · have := shaped_of h2; unfold toPy at this; exact this
    · obtain ⟨m, hm, h4⟩ := ok_lst h2
      rw [any_py h1 h4, h3]
  | tup ys =>
    have e' : D.inSeq a ys = some c := by cases a <;> exact e
    obtain ⟨h1, h2, h3⟩ := seq e'
    have h2' : D.ok dpt (.tup ys) = true := h2
    refine .inr (.inr (.inl ⟨toPy a, toPys ys, rx.dp k h1, ?_, shaped_of h1, ?_, ?_⟩))
    · have := ry.dp k h2'; unfold toPy at this; exact this
    · have := shaped_of h2'; unfold toPy at this; exact this
    · obtain ⟨m, hm, h4⟩ := ok_lst h2
      rw [any_py h1 h4, h3]
  | str z =>
    cases a with
    | str t =>
      have e' : signIn t z = some c := e
      unfold signIn at e'
      split at e'
      · rename_i n hn
        cases e'
        refine .inr (.inr (.inr ⟨n, z, ?_, ry.str, rfl⟩))
        rw [rx.str]
        obtain ⟨arr⟩ := t
        have : arr = #[n] := by
          apply Array.ext'
          exact hn
        rw [this]
      · cases e'
    | _ => cases e
  | dct kvs =>
    have e' : (if D.key a then some (dget kvs a).isSome else none) = some c := by cases a <;> exact e
    by_cases hk : D.key a = true
    · rw [if_pos hk] at e'
      cases e'
      obtain ⟨d, rfl, es, ep, qs, s1, r1, t1⟩ := ry.dct k
      obtain ⟨_, ds, hd⟩ := key_kok hk
      obtain ⟨b, rfl, hb⟩ := key_ok hk (rx.notLst (by rw [hd]; rfl))
      exact .inl ⟨d, es, ep, qs, b, nk a, ⟨rfl, rfl, s1, r1.mono k, hb.mono k⟩, dget_is hk t1⟩
    · rw [if_neg hk] at e'; cases e'
  | _ => cases a <;> cases e
theorem reps_ints : ∀ {ds : List D} {ns : List Int} {vs : List V}, intsL ds = some ns → Reps P os Z ds vs → vs = ns.map V.int
  | [], ns, vs, e, r => by
    cases e
    unfold Reps at r
    exact r
  | d :: ds, ns, vs, e, r => by
    unfold Reps at r
    obtain ⟨v, t, rfl, h1, h2⟩ := r
    cases d with
    | int i =>
      obtain ⟨m, e1, rfl⟩ := Option.map_eq_some_iff.mp (show (intsL ds).map (i :: ·) = some ns from e)
      unfold Rep at h1
      rw [h1, reps_ints e1 h2]; rfl
    | _ => cases e
theorem cmp_ok {o : Cop} {a b : D} {c : Bool} {x y : V} (k : Ok P os w Z H) (rx : LR P os Z H 1 a x) (ry : LR P os Z H 1 b y) (e : D.cmp o a b = some c) (q : Q (.bl c) H) : rCmp P.K P.wo o x y H Q := by
  cases o with
  | eq =>
    rcases cmpEq_ok k.zh rx ry e with ⟨d, u, h1, h2, h3, h4, rfl⟩ | ⟨a, b, es, ep, ep2, h1, h2, h3, h4, rfl⟩
    · exact .inl ⟨d, u, h1, h2, h3, h4, q⟩
    · exact .inr ⟨a, b, es, ep, ep2, h1, h2, h3, h4, q⟩
  | ne =>
    obtain ⟨c', e1, rfl⟩ := Option.map_eq_some_iff.mp e
    rcases cmpEq_ok k.zh rx ry e1 with ⟨d, u, h1, h2, h3, h4, rfl⟩ | ⟨a, b, es, ep, ep2, h1, h2, h3, h4, rfl⟩
    · exact .inl ⟨d, u, h1, h2, h3, h4, q⟩
    · exact .inr ⟨a, b, es, ep, ep2, h1, h2, h3, h4, q⟩
  | isin =>
    rcases isIn_ok k.zh rx ry e with ⟨d, es, ep, qs, b, kk, h1, rfl⟩ | ⟨d, ds, h1, h2, h3, h4, rfl⟩ | ⟨d, ds, h1, h2, h3, h4, rfl⟩ | ⟨n, z, h1, h2, rfl⟩
    · exact .inl ⟨d, es, ep, qs, b, kk, h1, q⟩
    · exact .inr (.inl ⟨d, ds, h1, h2, h3, h4, q⟩)
    · exact .inr (.inr (.inl ⟨d, ds, h1, h2, h3, h4, q⟩))
    · exact .inr (.inr (.inr ⟨n, z, h1, h2, q⟩))
  | notin =>
    obtain ⟨c', e1, rfl⟩ := Option.map_eq_some_iff.mp e
    rcases isIn_ok k.zh rx ry e1 with ⟨d, es, ep, qs, b, kk, h1, rfl⟩ | ⟨d, ds, h1, h2, h3, h4, rfl⟩ | ⟨d, ds, h1, h2, h3, h4, rfl⟩ | ⟨n, z, h1, h2, rfl⟩
    · exact .inl ⟨d, es, ep, qs, b, kk, h1, q⟩
    · exact .inr (.inl ⟨d, ds, h1, h2, h3, h4, q⟩)
    · exact .inr (.inr (.inl ⟨d, ds, h1, h2, h3, h4, q⟩))
    · exact .inr (.inr (.inr ⟨n, z, h1, h2, q⟩))
  | lt =>
    cases a <;> cases b <;> first | (cases e; done) | skip
    cases e; exact ⟨_, _, rx.int, ry.int, q⟩
  | le =>
    cases a <;> cases b <;> first | (cases e; done) | skip
    · cases e; exact .inl ⟨_, _, rx.int, ry.int, q⟩
    · rename_i xs ys
      have e : D.cmpT .le xs ys = some c := e
      unfold D.cmpT at e
      split at e
      · rename_i ns ms _ e1 e2
        cases e
        obtain ⟨a, vs, rfl, ha, r⟩ := rx.tup k.zh
        obtain ⟨b, us, rfl, hb, r2⟩ := ry.tup k.zh
        rw [reps_ints e1 r] at ha
        rw [reps_ints e2 r2] at hb
        exact .inr ⟨a, b, ns, ms, rfl, rfl, .of ha, .of hb, q⟩
      · cases e
  | gt =>
    cases a <;> cases b <;> first | (cases e; done) | skip
    cases e; exact ⟨_, _, rx.int, ry.int, q⟩
  | ge =>
    cases a <;> cases b <;> first | (cases e; done) | skip
    cases e; exact ⟨_, _, rx.int, ry.int, q⟩
end
end VI

set_option Elab.async false
set_option linter.all false
set_option maxRecDepth 100000
set_option maxHeartbeats 1000000
/-! VI, part 4s: sorted of alike data of any depth. -/
namespace VI
open PySem L2 PyProof.Rows
theorem insB_perm {α : Type} {lt : α → α → Bool} {x : α} : ∀ {l : List α}, (insB lt x l).Perm (x :: l)
  | [] => .refl _
  | y :: l => by
    unfold insB
    split
    · exact (List.Perm.cons y insB_perm).trans (List.Perm.swap x y l)
    · exact .refl _
theorem isortB_perm {α : Type} {lt : α → α → Bool} : ∀ {l : List α}, (isortB lt l).Perm l
  | [] => .refl _
  | x :: l => insB_perm.trans (List.Perm.cons x isortB_perm)
theorem insB_srtd {α : Type} {lt : α → α → Bool} (O : SrtO.Swo lt) {x : α} : ∀ {l : List α}, SrtO.Srtd lt l → SrtO.Srtd lt (insB lt x l)
  | [], _ => SrtO.srtd_one x
  | y :: l, h => by
    have h2 := List.pairwise_cons.mp h
    unfold insB
    split
    · rename_i q
      refine List.pairwise_cons.mpr ⟨fun z hz => ?_, insB_srtd O h2.2⟩
      rcases List.mem_cons.mp (insB_perm.mem_iff.mp hz) with rfl | hz
      · exact O.asym y z q
      · exact h2.1 z hz
    · rename_i q
      have q : lt y x = false := by simpa using q
      refine List.pairwise_cons.mpr ⟨fun z hz => ?_, h⟩
      rcases List.mem_cons.mp hz with rfl | hz
      · exact q
      · exact O.tr x y z q (h2.1 z hz)
theorem isortB_srtd {α : Type} {lt : α → α → Bool} (O : SrtO.Swo lt) : ∀ {l : List α}, SrtO.Srtd lt (isortB lt l)
  | [] => List.Pairwise.nil
  | x :: l => insB_srtd O (isortB_srtd O)
def rSortedD (K : PySem.W.Frag) : List V → Hp → VK → Prop := fun vs H Q => ∃ (a : Addr) (xs : List V) (ds : List PyData), vs = [V.ref a] ∧ SqL K H a xs ∧ DpAll K H xs ds ∧ xs.length = ds.length ∧ PySem.W.AllAlike ds ∧ PySem.W.Sortable ds ∧ (∀ d ∈ ds, d.depth ≤ 60) ∧
  ∀ p, H p = none → Q (.ref p) (upd H p (.lst (((xs.zip ds).mergeSort (PySem.W.dataLe false fun b => b.2)).map (·.1))))
section
variable {X : Cx} {s : Shared}
theorem each_zip {h : Heap} : ∀ {xs : List V} {its : List Value} {ds : List PyData} {as : List Addr}, Vals xs its → xs.length = ds.length → ReadsAll h its ds as →
    PySem.W.EachIs (fun v (b : V × PyData) => RelV b.1 v) its (xs.zip ds) ∧ PySem.W.EachIs (fun v (b : V × PyData) => ∃ as, Reads h v b.2 as) its (xs.zip ds)
  | [], [], [], _, _, _, _ => ⟨.nil, .nil⟩
  | x :: xs, u :: us, d :: ds, as, .cons r t, hl, h => by
    cases h with
    | cons h1 h2 =>
    obtain ⟨e1, e2⟩ := each_zip t (by simpa using hl) h2
    exact ⟨.cons r e1, .cons ⟨_, h1⟩ e2⟩
  | _ :: _, _ :: _, [], _, _, hl, _ => by simp at hl
theorem vals_each : ∀ {out : List Value} {bs : List (V × PyData)}, PySem.W.EachIs (fun v (b : V × PyData) => RelV b.1 v) out bs → Vals (bs.map (·.1)) out
  | _, _, .nil => .nil
  | _, _, .cons r t => .cons r (vals_each t)
theorem zip_snd {xs : List V} {ds : List PyData} (h : xs.length = ds.length) : (xs.zip ds).map (fun b => b.2) = ds := by
  rw [show (fun (b : V × PyData) => b.2) = Prod.snd from rfl, List.map_snd_zip]
  omega
theorem cr_sortedD (hu : X.A.units + 65 < cLine) : CallR X (.builtin "sorted") (rSortedD X.K) := by
  intro pins s σ H vs us Q I r h
  obtain ⟨a, xs, ds, rfl, hs, hd, hlx, hal, hk, hdep, q⟩ := h
  obtain ⟨its, rv, hl, hz⟩ := I.list hs
  obtain ⟨u, rfl, ru⟩ := vals1 r
  obtain rfl : u = Value.ref a := ru
  obtain ⟨as, h4⟩ := Dp.readsAll I ds xs its hd rv
  obtain ⟨e, er⟩ := each_zip rv hlx h4
  have hzl : (xs.zip ds).length = xs.length := by rw [List.length_zip, hlx, Nat.min_self]
  refine PySem.W.sorted_data (R := fun v (b : V × PyData) => RelV b.1 v) (enc := fun b => b.2) hl.isList e er (by rw [zip_snd hlx]; exact hal) (by rw [zip_snd hlx]; exact hk) (by rw [hzl]; exact hz) (fun b hb => ?_) fun out hlen he => ?_
  · have : b.2 ∈ ds := by
      have z : b.2 ∈ (xs.zip ds).map (fun b => b.2) := List.mem_map.mpr ⟨b, hb, rfl⟩
      rwa [zip_snd hlx] at z
    have := hdep _ this
    omega
  · obtain ⟨ep, he'⟩ := PyProof.Rows.sortedAll_at s.heap its out.toArray
    have hll : (((xs.zip ds).mergeSort (PySem.W.dataLe false fun b => b.2)).map (·.1)).length ≤ sizeLine := by
      rw [List.length_map, List.length_mergeSort, hzl]
      exact hz
    exact ⟨.ref _, upd H (s.heap.objs.size + 1) (.lst (((xs.zip ds).mergeSort (PySem.W.dataLe false fun b => b.2)).map (·.1))), I.laid (t' := s.toks) (fun _ _ => PyProof.Rows.sortedAll_old) (Nat.le_succ _) ⟨hll, out, ep, vals_each he, he'⟩, rfl, q _ (I.hok.fresh (Nat.le_succ _))⟩
end


/-! a list of one item -/
section
open PySem PySem.W
variable {prog : Program} {w : World} {A : Around} {E : Value → Shared → Prop} {s : Shared} {β : Type} {vs : List Value} {bs : List β} {enc : β → PyData} {R : Value → β → Prop}
theorem sorted_one {l : Addr} {Q : Value → Shared → Prop} (h1 : bs.length ≤ 1) (hl : s.heap.IsList l vs.toArray) (e : EachIs R vs bs) (er : EachIs (fun v b => ∃ as, Reads s.heap v (enc b) as) vs bs) (hal : AllAlike (bs.map enc)) (hk : ∀ d ∈ bs.map enc, d ≠ .none)
    (hu : ∀ b, b ∈ bs → A.units + 2 + (enc b).depth < cLine) (h : ∀ out, out.length = bs.length → EachIs R out (bs.mergeSort (dataLe false enc)) → Q (.ref (s.heap.objs.size + 1)) { s with heap := sortedAll s.heap vs (List.toArray out) }) :
    wpAny (model prog w) A (call (.builtin "sorted") [.ref l]) Q E s := by
  have er' : EachIs (fun v b => ∃ as, Reads (sortingHeap (copyHeap s.heap vs) (s.heap.objs.size + 1) vs) v (enc b) as) vs bs := er.mono fun _ _ ⟨as, r⟩ => ⟨as, PyProof.Rows.Reads.keeps (fun _ _ => sorting_copy_old) r⟩
  exact sorted_vals hl (sortsOne (s := { s with heap := sortingHeap (copyHeap s.heap vs) (s.heap.objs.size + 1) vs }) (by rw [List.length_map]; exact h1) (each_map (R := fun v d => ∃ as, Reads (sortingHeap (copyHeap s.heap vs) (s.heap.objs.size + 1) vs) v d as) enc er') hal hk (bound_map hu)) (by rw [e.length]; exact Nat.le_trans h1 (by decide))
    (h _ (by rw [sortVals_length false rfl]; exact e.length) (sortVals_data false e er' hal))
end
def rSorted1 (K : PySem.W.Frag) : List V → Hp → VK → Prop := fun vs H Q => ∃ (a : Addr) (x : V) (d : PyData), vs = [V.ref a] ∧ SqL K H a [x] ∧ DpAll K H [x] [d] ∧ PySem.W.AllAlike [d] ∧ d ≠ .none ∧ d.depth ≤ 60 ∧ ∀ p, H p = none → Q (.ref p) (upd H p (.lst [x]))
theorem cr_sorted1 {X : Cx} (hu : X.A.units + 65 < cLine) : CallR X (.builtin "sorted") (rSorted1 X.K) := by
  intro pins s σ H vs us Q I r h
  obtain ⟨a, x, d, rfl, hs, hd, hal, hk, hdep, q⟩ := h
  obtain ⟨its, rv, hl, hz⟩ := I.list hs
  obtain ⟨u, rfl, ru⟩ := vals1 r
  obtain rfl : u = Value.ref a := ru
  obtain ⟨as, h4⟩ := Dp.readsAll I [d] [x] its hd rv
  obtain ⟨e, er⟩ := each_zip rv rfl h4
  refine sorted_one (R := fun v (b : V × PyData) => RelV b.1 v) (enc := fun b => b.2) (bs := [(x, d)]) (Nat.le_refl _) hl.isList e er hal (fun z hz => ?_) (fun b hb => ?_) fun out hlen he => ?_
  · have hz : z = d := by simpa using hz
    rw [hz]; exact hk
  · have hb : b = (x, d) := by simpa using hb
    rw [hb]
    show X.A.units + 2 + d.depth < cLine
    omega
  · obtain ⟨ep, he'⟩ := PyProof.Rows.sortedAll_at s.heap its out.toArray
    have hm : ([(x, d)].mergeSort (PySem.W.dataLe false fun b => b.2)) = [(x, d)] := by simp [List.mergeSort]
    rw [hm] at he
    exact ⟨.ref _, upd H (s.heap.objs.size + 1) (.lst [x]), I.laid (t' := s.toks) (fun _ _ => PyProof.Rows.sortedAll_old) (Nat.le_succ _) ⟨by show 1 ≤ sizeLine; decide, out, ep, vals_each he, he'⟩, rfl, q _ (I.hok.fresh (Nat.le_succ _))⟩

def ltk (d e : PyData) : Bool := PySem.W.dataLt d e
theorem ltk_swo : SrtO.Swo ltk := by
  refine ⟨fun x y h => ?_, fun x y z h1 h2 => ?_⟩
  · cases q : ltk y x with
    | false => rfl
    | true =>
      have := lex_trans _ _ _ h q
      rw [lex_irrefl] at this
      cases this
  · cases q : ltk z x with
    | false => rfl
    | true =>
      rcases lex_negTrans _ (PySem.W.keyToks y) _ q with z1 | z1
      · rw [show ltk z y = true from z1] at h2; cases h2
      · rw [show ltk y x = true from z1] at h1; cases h1
theorem ltk_eqv {x y : PyData} (ha : PySem.W.alike x y = true) (h1 : ltk x y = false) (h2 : ltk y x = false) : PyData.eqv x y = true := by
  have e := lex_total _ _ h1 h2
  cases q : PyData.eqv x y with
  | true => rfl
  | false =>
    have z := (PySem.W.toks_eqv x y ha).2 q [] [.inl 0]
    rw [e, List.append_nil, lex_irrefl] at z
    have w := PySem.W.lex_pre (PySem.W.keyToks y) [] [.inl 0]
    rw [List.append_nil, z] at w
    exact absurd w (by decide)


mutual
theorem alike_eq : ∀ (d e : D) (m n : Nat), D.ok m d = true → D.ok n e = true → PySem.W.alike (toPy d) (toPy e) = true → D.eqv d e = true → d = e
  | .non, e, m, n, _, h, a, q => by cases e <;> first | rfl | (simp [D.eqv] at q; done)
  | .bl b, e, m, n, _, h, a, q => by
    cases e <;> first | (simp [D.eqv] at q; subst q; rfl) | (simp [toPy, PySem.W.alike] at a; done) | (simp [D.eqv] at q; done)
  | .int i, e, m, n, _, h, a, q => by
    cases e <;> first | (simp [D.eqv] at q; subst q; rfl) | (simp [toPy, PySem.W.alike] at a; done) | (simp [D.eqv] at q; done)
  | .str x, e, m, n, _, h, a, q => by
    cases e <;> first | (simp [D.eqv] at q; subst q; rfl) | (simp [D.eqv] at q; done)
  | .tup ds, e, m, n, hm, hn, a, q => by
    cases e <;> first | (simp [D.eqv] at q; done) | skip
    rename_i es
    obtain ⟨m', rfl, h1⟩ := ok_tup hm
    obtain ⟨n', rfl, h2⟩ := ok_tup hn
    simp only [toPy, PySem.W.alike] at a
    simp only [D.eqv] at q
    rw [alikes_eq ds es m' n' h1 h2 a q]
  | .lst ds, e, m, n, hm, hn, a, q => by
    cases e <;> first | (simp [D.eqv] at q; done) | skip
    rename_i es
    obtain ⟨m', rfl, h1⟩ := ok_lst hm
    obtain ⟨n', rfl, h2⟩ := ok_lst hn
    simp only [toPy, PySem.W.alike] at a
    simp only [D.eqv] at q
    rw [alikes_eq ds es m' n' h1 h2 a q]
  | .dct _, _, m, _, h, _, _, _ => by cases m <;> cases h
  | .fn _, _, m, _, h, _, _, _ => by cases m <;> cases h
  | .obj _, _, m, _, h, _, _, _ => by cases m <;> cases h
  | .scr _, _, m, _, h, _, _, _ => by cases m <;> cases h
theorem alikes_eq : ∀ (ds es : List D) (m n : Nat), allOk m ds → allOk n es → PySem.W.alikeAll (toPys ds) (toPys es) = true → D.eqvs ds es = true → ds = es
  | [], [], _, _, _, _, _, _ => rfl
  | [], _ :: _, _, _, _, _, _, q => by simp [D.eqvs] at q
  | _ :: _, [], _, _, _, _, _, q => by simp [D.eqvs] at q
  | d :: ds, e :: es, m, n, h1, h2, a, q => by
    simp only [toPys, PySem.W.alikeAll, Bool.and_eq_true] at a
    simp only [D.eqvs, Bool.and_eq_true] at q
    rw [alike_eq d e m n (h1 d (.head _)) (h2 e (.head _)) a.1 q.1, alikes_eq ds es m n (fun x hx => h1 x (.tail _ hx)) (fun x hx => h2 x (.tail _ hx)) a.2 q.2]
end


theorem ltD_swo : SrtO.Swo ltD := ⟨fun x y h => ltk_swo.asym _ _ h, fun x y z h1 h2 => ltk_swo.tr _ _ _ h1 h2⟩
theorem srtd_uniqM {α : Type} {lt : α → α → Bool} : ∀ {l m : List α}, (∀ x ∈ l, ∀ y ∈ l, lt x y = false → lt y x = false → x = y) → SrtO.Srtd lt l → SrtO.Srtd lt m → l.Perm m → l = m
  | [], m, _, _, _, h => (List.Perm.eq_nil h.symm).symm
  | x :: l, [], _, _, _, h => absurd h.length_eq (by simp)
  | x :: l, y :: m, ae, hl, hm, h => by
    have hy0 : y ∈ x :: l := h.mem_iff.mpr (List.mem_cons_self (a := y) (l := m))
    have e : x = y := by
      rcases List.mem_cons.mp (h.mem_iff.mp (List.mem_cons_self (a := x) (l := l))) with e | hx
      · exact e
      · rcases List.mem_cons.mp hy0 with e | hy
        · exact e.symm
        · exact ae x (.head _) y hy0 (SrtO.srtd_head hm x hx) (SrtO.srtd_head hl y hy)
    subst e
    rw [srtd_uniqM (fun a ha b hb => ae a (.tail _ ha) b (.tail _ hb)) (List.pairwise_cons.mp hl).2 (List.pairwise_cons.mp hm).2 h.cons_inv]
section
variable {P : Pm} {os : List Addr} {Z : Hp}
theorem zip_pairs : ∀ {ds : List D} {vs : List V}, Reps P os Z ds vs → (ds.zip vs).map (fun p => (p.2, toPy p.1)) = vs.zip (toPys ds) ∧ (ds.zip vs).map (·.1) = ds ∧ ∀ p ∈ ds.zip vs, Rep P os Z p.1 p.2
  | [], vs, r => by
    unfold Reps at r
    subst r
    exact ⟨rfl, rfl, fun _ h => (nomatch h)⟩
  | d :: ds, vs, r => by
    unfold Reps at r
    obtain ⟨v, t, rfl, h1, h2⟩ := r
    obtain ⟨e1, e2, e3⟩ := zip_pairs h2
    refine ⟨by simp only [List.zip_cons_cons, List.map_cons, toPys, e1], by simp only [List.zip_cons_cons, List.map_cons, e2], fun p hp => ?_⟩
    rw [List.zip_cons_cons] at hp
    rcases List.mem_cons.mp hp with rfl | hp
    · exact h1
    · exact e3 p hp
theorem reps_of_pairs : ∀ {l : List (D × V)}, (∀ p ∈ l, Rep P os Z p.1 p.2) → Reps P os Z (l.map (·.1)) (l.map (·.2))
  | [], _ => reps_nil
  | p :: l, h => reps_cons (h p (.head _)) (reps_of_pairs fun q hq => h q (.tail _ hq))
theorem sorted_reps {ds : List D} {vs : List V} {n : Nat} (r : Reps P os Z ds vs) (ok : allOk n ds) (al : PySem.W.AllAlike (toPys ds)) :
    Reps P os Z (isortB ltD ds) (((vs.zip (toPys ds)).mergeSort (PySem.W.dataLe false fun b => b.2)).map (·.1)) := by
  obtain ⟨e1, e2, e3⟩ := zip_pairs r
  have em := List.map_mergeSort (r := fun (p q : D × V) => !ltD q.1 p.1) (s := PySem.W.dataLe false fun (b : V × PyData) => b.2) (f := fun p => (p.2, toPy p.1)) (l := ds.zip vs) (fun a _ b _ => rfl)
  rw [e1] at em
  rw [← em, List.map_map]
  have hp := List.mergeSort_perm (ds.zip vs) (fun (p q : D × V) => !ltD q.1 p.1)
  have hr := reps_of_pairs (l := (ds.zip vs).mergeSort fun (p q : D × V) => !ltD q.1 p.1) fun p h => e3 p (hp.mem_iff.mp h)
  have hperm : (((ds.zip vs).mergeSort fun (p q : D × V) => !ltD q.1 p.1).map (·.1)).Perm ds := by
    have := hp.map (·.1)
    rwa [e2] at this
  have hs : SrtO.Srtd ltD (((ds.zip vs).mergeSort fun (p q : D × V) => !ltD q.1 p.1).map (·.1)) := by
    refine List.pairwise_map.mpr ((List.pairwise_mergeSort (fun a b c h1 h2 => ?_) (fun a b => ?_) (ds.zip vs)).imp fun {a b} h => by simpa using h)
    · have h1 : ltD b.1 a.1 = false := by simpa using h1
      have h2 : ltD c.1 b.1 = false := by simpa using h2
      rw [ltD_swo.tr a.1 b.1 c.1 h1 h2]; rfl
    · cases q : ltD b.1 a.1 with
      | false => rfl
      | true => rw [ltD_swo.asym _ _ q]; rfl
  have he := srtd_uniqM (fun x hx y hy h1 h2 => ?_) hs (isortB_srtd ltD_swo) (hperm.trans (isortB_perm (lt := ltD)).symm)
  · rw [← he]; exact hr
  · have mx := hperm.mem_iff.mp hx
    have my := hperm.mem_iff.mp hy
    have a1 := al (toPy x) (by rw [toPys_map]; exact List.mem_map.mpr ⟨x, mx, rfl⟩) (toPy y) (by rw [toPys_map]; exact List.mem_map.mpr ⟨y, my, rfl⟩)
    exact alike_eq x y n n (ok x mx) (ok y my) a1 (by rw [← eqv_py x y n n (ok x mx) (ok y my)]; exact ltk_eqv a1 h1 h2)
end
end VI

set_option Elab.async false
set_option linter.all false
set_option maxRecDepth 100000
set_option maxHeartbeats 1000000
/-! VI, part 4m: min of a list, max of a tuple, of alike data. -/
namespace VI
open PySem L2 PyProof.Rows
theorem depthAll_le {n : Nat} : ∀ {ds : List PyData}, (∀ d ∈ ds, d.depth ≤ n) → PyData.depthAll ds ≤ n
  | [], _ => by simp [PyData.depthAll]
  | d :: ds, h => by
    have h1 := h d (.head _)
    have h2 := depthAll_le (ds := ds) fun x hx => h x (.tail _ hx)
    simp only [PyData.depthAll]
    omega
def bestA (gt : Bool) (ds : List PyData) : Nat := PySem.argBest (fun i j => if gt then PySem.W.dataLt (ds.getD j .none) (ds.getD i .none) else PySem.W.dataLt (ds.getD i .none) (ds.getD j .none)) (ds.length - 1)
def rBest (K : PySem.W.Frag) (gt : Bool) : List V → Hp → VK → Prop := fun vs H Q => ∃ (a : Addr) (xs : List V) (ds : List PyData), vs = [V.ref a] ∧ (if gt then SqT K H a xs else SqL K H a xs) ∧ DpAll K H xs ds ∧ ds ≠ [] ∧ PySem.W.AlikeAll ds ∧ (∀ d ∈ ds, d.depth ≤ 60) ∧ ∀ x, xs[bestA gt ds]? = some x → Q x H
section
variable {X : Cx} {s : Shared}
theorem vals_at {xs : List V} {its : List Value} (r : Vals xs its) {i : Nat} {u : Value} (h : its[i]? = some u) : ∃ x, xs[i]? = some x ∧ RelV x u := by
  induction r generalizing i with
  | nil => simp at h
  | cons r0 t ih =>
    cases i with
    | zero => simp at h; subst h; exact ⟨_, rfl, r0⟩
    | succ i => exact ih (by simpa using h)
theorem cr_minD (hc : X.calm = true) (hu : X.A.units + 65 < cLine) : CallR X (.builtin "min") (rBest X.K false) := by
  intro pins s σ H vs us Q I r h
  obtain ⟨a, xs, ds, rfl, hs, hd, hne, hal, hdep, q⟩ := h
  have hs : SqL X.K H a xs := hs
  obtain ⟨its, rv, hl, hz⟩ := I.list hs
  obtain ⟨u, rfl, ru⟩ := vals1 r
  obtain rfl : u = Value.ref a := ru
  obtain ⟨as, h4⟩ := Dp.readsAll I ds xs its hd rv
  have h4' : ReadsAll s.heap its.toArray.toList ds as := by rw [List.toList_toArray]; exact h4
  have hn := PySem.W.readsAll_len h4'
  have hlen : 0 < ds.length := List.length_pos_iff.mpr hne
  have hdA := depthAll_le hdep
  refine call_min_walkH (PySem.W.iter_listW (A := X.A.in1) (I.ok.hd hc) hl.isList fun s₂ e W st hfp hw hk => ?_)
  refine ⟨_, _, _, _, _, _, _, s.heap, _, rfl, W, st, hfp, by omega, hw, hk, PySem.W.cmpIn_lt (A := X.A.in1) h4' hal (by show X.A.units + 1 + _ < _; omega), fun v s' hP m => ?_⟩
  obtain ⟨h', tk, rfl, hk'⟩ := PySem.W.moved_old e rfl m
  have hP : its.toArray[PySem.argBest (fun i j => PySem.W.dataLt (ds.getD i .none) (ds.getD j .none)) (its.toArray.size - 1)]? = some v := hP
  rw [hn] at hP
  have hP2 : its[bestA false ds]? = some v := by simpa [bestA] using hP
  obtain ⟨x, hx, rx⟩ := vals_at rv hP2
  exact ⟨x, H, I.kept hk', rx, q x hx⟩
theorem cr_maxT (hc : X.calm = true) (hu : X.A.units + 65 < cLine) : CallR X (.builtin "max") (rBest X.K true) := by
  intro pins s σ H vs us Q I r h
  obtain ⟨a, xs, ds, rfl, hs, hd, hne, hal, hdep, q⟩ := h
  have hs : SqT X.K H a xs := hs
  obtain ⟨its, rv, hl, hz⟩ := I.tuple hs
  obtain ⟨u, rfl, ru⟩ := vals1 r
  obtain rfl : u = Value.ref a := ru
  obtain ⟨as, h4⟩ := Dp.readsAll I ds xs its hd rv
  have h4' : ReadsAll s.heap its.toArray.toList ds as := by rw [List.toList_toArray]; exact h4
  have hn := PySem.W.readsAll_len h4'
  have hlen : 0 < ds.length := List.length_pos_iff.mpr hne
  have hdA := depthAll_le hdep
  refine call_max_walkH (PySem.W.iter_tupleW (A := X.A.in1) (I.ok.hd hc) (show s.heap.IsTuple a its.toArray from hl) fun s₂ e W st hfp hw hk => ?_)
  refine ⟨_, _, _, _, _, _, _, s.heap, _, rfl, W, st, hfp, by omega, hw, hk, PySem.W.cmpIn_gt (A := X.A.in1) h4' hal (by show X.A.units + 1 + _ < _; omega), fun v s' hP m => ?_⟩
  obtain ⟨h', tk, rfl, hk'⟩ := PySem.W.moved_old e rfl m
  have hP : its.toArray[PySem.argBest (fun i j => PySem.W.dataLt (ds.getD j .none) (ds.getD i .none)) (its.toArray.size - 1)]? = some v := hP
  rw [hn] at hP
  have hP2 : its[bestA true ds]? = some v := by simpa [bestA] using hP
  obtain ⟨x, hx, rx⟩ := vals_at rv hP2
  exact ⟨x, H, I.kept hk', rx, q x hx⟩
end
end VI

set_option Elab.async false
set_option linter.all false
set_option maxRecDepth 100000
/-! VI, part 5: built-ins, subscripts, slices, methods, by data. -/
namespace VI
open PySem L2
theorem CallR.or {X : Cx} {f : Value} {r r' : List V → Hp → VK → Prop} (h : CallR X f r) (h' : CallR X f r') : CallR X f (fun xs H Q => r xs H Q ∨ r' xs H Q) := by
  intro pins s σ H xs us Q I rr q
  rcases q with q | q
  · exact h pins s σ H xs us Q I rr q
  · exact h' pins s σ H xs us Q I rr q
section
variable {P : Pm} {os os' : List Addr} {Z Z' H H' : Hp} {w : Wd} {X : Cx} {Q : VK}
theorem maxI_ok : ∀ {ns : List Int} {m : Int}, maxI ns = some m → m ∈ ns ∧ (∀ y ∈ ns, y ≤ m) ∧ 0 < ns.length
  | [], m, e => by cases e
  | [i], m, e => by
    cases e
    exact ⟨by simp, fun y hy => by simp at hy; omega, by simp⟩
  | i :: j :: r, m, e => by
    unfold maxI at e
    obtain ⟨k, e1, rfl⟩ := Option.map_eq_some_iff.mp e
    obtain ⟨h1, h2, _⟩ := maxI_ok e1
    refine ⟨?_, fun y hy => ?_, by simp⟩
    · split
      · exact List.mem_cons_of_mem _ h1
      · exact List.mem_cons_self
    · rcases List.mem_cons.mp hy with rfl | hy
      · split <;> omega
      · have := h2 y hy
        split <;> omega

/-! ### built-ins of one argument -/
def rB1 (K : PySem.W.Frag) (w : World) : Bl1 → List V → Hp → VK → Prop
  | .len => fun xs H Q => ∃ x n, xs = [x] ∧ LenV K x H n ∧ Q (.int n) H
  | .abs => fun xs H Q => ∃ i, xs = [.int i] ∧ Q (.int (if i < 0 then -i else i)) H
  | .int => fun xs H Q => ((∃ i, xs = [.int i] ∧ Q (.int i) H) ∨ ∃ k, xs = [.bl k] ∧ Q (.int (if k then 1 else 0)) H) ∨ ∃ a n, xs = [.str a] ∧ PySem.intText? a = some n ∧ a.length ≤ 640 ∧ Q (.int n) H
  | .str => fun xs H Q => ∃ i, xs = [.int i] ∧ i.natAbs.log2 < 1920 ∧ Q (.str (toString i)) H
  | .bool => fun xs H Q => (∃ i, xs = [.int i] ∧ Q (.bl (i != 0)) H) ∨ ∃ k, xs = [.bl k] ∧ Q (.bl k) H
  | .sum => rSum K
  | .max => fun vs H Q => rMax K vs H Q ∨ rBest K true vs H Q
  | .min => rBest K false
  | .tuple => fun xs H Q => ∃ p ys, xs = [.ref p] ∧ ((SqL K H p ys ∧ ∀ l, H l = none → Q (.ref l) (upd H l (.tup ys))) ∨ (SqT K H p ys ∧ Q (.ref p) H))
  | .list => fun xs H Q => ∃ p ys, xs = [.ref p] ∧ (SqL K H p ys ∨ SqT K H p ys) ∧ ∀ l, H l = none → Q (.ref l) (upd H l (.lst ys))
  | .sorted => fun vs H Q => rSortedD K vs H Q ∨ (rSortedTu K vs H Q ∨ rSorted1 K vs H Q)
  | .dict => rDictL w
  | _ => fun _ _ _ => False
def blId : Bl1 → String
  | .len => "len"
  | .abs => "abs"
  | .int => "int"
  | .bool => "bool"
  | .str => "str"
  | .sum => "sum"
  | .max => "max"
  | .min => "min"
  | .sorted => "sorted"
  | .sortedSet => "sorted"
  | .tuple => "tuple"
  | .list => "list"
  | .dict => "dict"
def blTy : Bl1 → Bool
  | .int => true
  | .bool => true
  | .str => true
  | .tuple => true
  | .list => true
  | .dict => true
  | _ => false
def blV (b : Bl1) : Value := if blTy b then .type (blId b) else .builtin (blId b)
theorem callR_no {f : Value} : CallR X f (fun _ _ _ => False) := fun _ _ _ _ _ _ _ _ _ h => h.elim
theorem rB1_ok (hc : X.calm = true) (hu : X.A.units + 65 < cLine) : ∀ b : Bl1, CallR X (blV b) (rB1 X.K X.w b)
  | .len => call_len
  | .abs => call_abs
  | .int => call_int1.or call_int_str
  | .bool => call_bool1
  | .str => call_str_int
  | .sum => cr_sum hc
  | .max => (cr_max hc).or (cr_maxT hc hu)
  | .min => cr_minD hc hu
  | .sorted => (cr_sortedD hu).or ((cr_sortedTu hu).or (cr_sorted1 hu))
  | .sortedSet => callR_no
  | .tuple => call_tuple_of
  | .list => call_list_of
  | .dict => call_dictL hc (by omega)
/-- what okSortB says, of the values -/
theorem srt_of {xs : List D} {vs : List V} (k : Le Z H) (c : okSortB xs = true) (r : Reps P os Z xs vs) : allOk dpt xs ∧ PySem.W.AllAlike (toPys xs) ∧ PySem.W.Sortable (toPys xs) ∧ (∀ d ∈ toPys xs, d.depth ≤ 60) ∧ DpAll P.K H vs (toPys xs) ∧ vs.length = (toPys xs).length := by
  unfold okSortB at c
  simp only [Bool.and_eq_true, Bool.or_eq_true] at c
  obtain ⟨c1, c2, c3⟩ := c
  have ok : allOk dpt xs := List.all_eq_true.mp c1
  refine ⟨ok, fun x hx y hy => ?_, ?_, fun d hd => ?_, Reps.dp k xs dpt vs ok r, by rw [← r.length, toPys_map, List.length_map]⟩
  · rw [toPys_map] at hx hy
    obtain ⟨d, hd, rfl⟩ := List.mem_map.mp hx
    obtain ⟨e, he, rfl⟩ := List.mem_map.mp hy
    exact List.all_eq_true.mp (List.all_eq_true.mp c2 d hd) e he
  · rw [toPys_map]
    rcases c3 with c3 | c3
    · refine .inl fun x hx => ?_
      obtain ⟨d, hd, rfl⟩ := List.mem_map.mp hx
      have := List.all_eq_true.mp c3 d hd
      split at this
      · exact ⟨_, _, by unfold toPy toPys; rfl⟩
      · cases this
    · refine .inr fun x hx => ?_
      obtain ⟨d, hd, rfl⟩ := List.mem_map.mp hx
      have := List.all_eq_true.mp c3 d hd
      have okd := ok d hd
      cases d <;> first | (cases this; done) | (cases okd; done) | exact ⟨by unfold toPy; exact fun z => (nomatch z), fun ys => by unfold toPy; exact fun z => (nomatch z)⟩
  · rw [toPys_map] at hd
    obtain ⟨e, he, rfl⟩ := List.mem_map.mp hd
    exact Nat.le_trans (lay_of e dpt (ok e he)).2 (by decide)
theorem srt_arg {xs : List D} {vs : List V} (k : Le Z H) (c : okSortB xs = true) (r : Reps P os Z xs vs) (hl : vs.length ≤ sizeLine) : SrtArg P.K H vs (toPys xs) :=
  let ⟨_, h2, h3, h4, h5, h6⟩ := srt_of k c r
  ⟨h5, h6, h2, .inl h3, h4, hl⟩
theorem sorted_srt {xs : List D} {vs : List V} (k : Le Z H) (c : okSortB xs = true) (r : Reps P os Z xs vs) : Reps P os Z (isortB ltD xs) (srtV vs (toPys xs)) :=
  let ⟨h1, h2, _⟩ := srt_of k c r
  sorted_reps r h1 h2
theorem toPys_at {xs : List D} {i : Nat} : (toPys xs).getD i .none = toPy (xs.getD i .non) := by
  rw [toPys_map, List.getD_eq_getElem?_getD, List.getD_eq_getElem?_getD, List.getElem?_map]
  cases xs[i]? with
  | none => rfl
  | some x => rfl
theorem best_same {gt : Bool} {xs : List D} : bestA gt (toPys xs) = bestI gt xs := by
  unfold bestA bestI
  have hl : (toPys xs).length = xs.length := by rw [toPys_map, List.length_map]
  rw [hl]
  congr 1
  funext i j
  rw [toPys_at, toPys_at]
  rfl
/-- what okBest says, of the values -/
theorem best_of {gt : Bool} {xs : List D} {vs : List V} {d : D} (k : Le Z H) (e : bestD gt xs = some d) (r : Reps P os Z xs vs) :
    DpAll P.K H vs (toPys xs) ∧ toPys xs ≠ [] ∧ PySem.W.AlikeAll (toPys xs) ∧ (∀ d ∈ toPys xs, d.depth ≤ 60) ∧ isOwn d = false ∧ ∀ x, vs[bestA gt (toPys xs)]? = some x → Rep P os Z d x := by
  unfold bestD at e
  split at e
  · rename_i c
    unfold okBest at c
    simp only [Bool.and_eq_true, Bool.not_eq_true', List.all_eq_true] at c
    obtain ⟨c1, c2, c3, c4⟩ := c
    have ok : allOk dpt xs := fun x hx => (c2 x hx).1
    refine ⟨Reps.dp k xs dpt vs ok r, fun z => ?_, ⟨fun x hx y hy => ?_, fun x hx => ?_⟩, fun d hd => ?_, (c2 d (List.mem_of_getElem? e)).2, fun x hx => ?_⟩
    · rw [toPys_map, List.map_eq_nil_iff] at z
      rw [z] at c1; cases c1
    · rw [toPys_map] at hx hy
      obtain ⟨d, hd, rfl⟩ := List.mem_map.mp hx
      obtain ⟨e, he, rfl⟩ := List.mem_map.mp hy
      exact c3 d hd e he
    · rw [toPys_map] at hx
      obtain ⟨d, hd, rfl⟩ := List.mem_map.mp hx
      have h4 := c4 d hd
      have okd := ok d hd
      cases d <;> first | (cases h4; done) | (cases okd; done) | (unfold toPy; exact fun z => (nomatch z))
    · rw [toPys_map] at hd
      obtain ⟨e, he, rfl⟩ := List.mem_map.mp hd
      exact Nat.le_trans (lay_of e dpt (ok e he)).2 (by decide)
    · rw [best_same] at hx
      obtain ⟨y, h1, h2⟩ := Paired.get (reps_paired.mp r) e
      rw [h1] at hx
      cases hx
      exact h2
  · cases e
theorem sortD_some {xs : List D} {d : D} (e : sortD xs = some d) : okSortB xs = true ∧ d = .lst (isortB ltD xs) := by
  unfold sortD at e
  by_cases c : okSortB xs = true
  · rw [if_pos c] at e; cases e; exact ⟨c, rfl⟩
  · rw [if_neg c] at e; cases e
/-- a list of pairs, as the rows of a dict -/
theorem pairs_rows : ∀ {xs : List D} {ps : List (D × D)} {vs : List V}, pairsL xs = some ps → Reps P os Z xs vs → ∃ qs : List Row, Paired (PrR Z) vs qs ∧ Paired (RepK P os Z) ps qs ∧ ∀ q ∈ qs, KeyOk Z q.1 q.2.1
  | [], ps, vs, e, r => by
    cases e
    unfold Reps at r
    subst r
    exact ⟨[], .nil, .nil, fun q h => (nomatch h)⟩
  | x :: xs, ps, vs, e, r => by
    unfold Reps at r
    obtain ⟨v, t, rfl, r1, r2⟩ := r
    unfold pairsL at e
    split at e
    · rename_i h; cases h
    · rename_i kk dd r0 heq
      cases heq
      split at e
      · rename_i hk
        obtain ⟨ps', e1, rfl⟩ := Option.map_eq_some_iff.mp e
        obtain ⟨qs, h1, h2, h3⟩ := pairs_rows e1 r2
        obtain ⟨T, us, rfl, hT, ru⟩ := r1.tup
        unfold Reps at ru
        obtain ⟨u1, t1, rfl, ru1, ru2⟩ := ru
        unfold Reps at ru2
        obtain ⟨u2, t2, rfl, ru3, ru4⟩ := ru2
        unfold Reps at ru4
        subst ru4
        obtain ⟨b, rfl, hb⟩ := key_ok hk ru1
        refine ⟨(nk kk, b, u2) :: qs, .cons ⟨T, rfl, hT⟩ h1, .cons ?_ h2, fun q hq => ?_⟩
        · unfold RepK
          exact ⟨hk, rfl, ru3⟩
        · rcases List.mem_cons.mp hq with rfl | hq
          · exact hb
          · exact h3 q hq
      · cases e
    · cases e
theorem storeAll_rows : ∀ {ps : List (D × D)} {qs : List Row} {acc : List (D × D)} {rows : List Row}, Paired (RepK P os Z) acc rows → Paired (RepK P os Z) ps qs → (∀ p ∈ ps, D.key p.1 = true) →
    Paired (RepK P os Z) (ps.foldl (fun acc p => dput acc p.1 p.2) acc) (storeAllQ rows qs)
  | _, _, acc, rows, h, .nil, _ => h
  | p :: ps, q :: qs, acc, rows, h, .cons g t, hk => by
    obtain ⟨kk, dd⟩ := p
    unfold RepK at g
    obtain ⟨g1, g2, g3⟩ := g
    show Paired (RepK P os Z) (ps.foldl (fun acc p => dput acc p.1 p.2) (dput acc kk dd)) (storeAllQ (storeQ rows q.1 q.2.1 q.2.2) qs)
    refine storeAll_rows ?_ t fun p hp => hk p (.tail _ hp)
    rw [g2]
    exact dput_rows g1 g3 h
theorem rows_keys : ∀ {ps : List (D × D)} {qs : List Row}, Paired (RepK P os Z) ps qs → ∀ p ∈ ps, D.key p.1 = true
  | _, _, .nil, p, h => nomatch h
  | (kk, dd) :: ps, q :: qs, .cons g t, p, h => by
    rcases List.mem_cons.mp h with rfl | h
    · unfold RepK at g; exact g.1
    · exact rows_keys t p h
theorem storeAll_props : ∀ {qs rows : List Row}, (∀ q ∈ rows, KeyOk Z q.1 q.2.1) → (rows.map (·.1)).Nodup → (∀ q ∈ qs, KeyOk Z q.1 q.2.1) →
    (∀ q ∈ storeAllQ rows qs, KeyOk Z q.1 q.2.1) ∧ ((storeAllQ rows qs).map (·.1)).Nodup ∧ (storeAllQ rows qs).length ≤ rows.length + qs.length
  | [], rows, h1, h2, _ => ⟨h1, h2, by simp [storeAllQ]⟩
  | q :: qs, rows, h1, h2, h3 => by
    have a1 : ∀ q' ∈ storeQ rows q.1 q.2.1 q.2.2, KeyOk Z q'.1 q'.2.1 := fun q' hq => by
      unfold storeQ at hq
      split at hq
      · obtain ⟨q0, h0, rfl⟩ := List.mem_map.mp hq
        have := h1 q0 h0
        by_cases c : q0.1 = q.1
        · rw [if_pos c]; exact this
        · rw [if_neg c]; exact this
      · rcases List.mem_append.mp hq with hq | hq
        · exact h1 q' hq
        · rcases List.mem_singleton.mp hq with rfl
          exact h3 q (.head _)
    have a2 : ((storeQ rows q.1 q.2.1 q.2.2).map (·.1)).Nodup := by
      rw [storeQ_keys]
      split
      · exact h2
      · rename_i c
        refine List.nodup_append.mpr ⟨h2, by simp, fun a ha c' hc e => ?_⟩
        rcases List.mem_singleton.mp hc with rfl
        subst e
        obtain ⟨q', hq, e⟩ := List.mem_map.mp ha
        refine c ?_
        unfold findQ
        rw [List.find?_isSome]
        exact ⟨q', hq, by simpa using e⟩
    obtain ⟨b1, b2, b3⟩ := storeAll_props a1 a2 fun q' hq => h3 q' (.tail _ hq)
    refine ⟨b1, b2, Nat.le_trans b3 ?_⟩
    have := storeQ_le (k := q.1) (b := q.2.1) (v := q.2.2) (qs := rows)
    rw [List.length_cons]
    omega
theorem digit1_all : ∀ n, n < 10 → PySem.intText? ⟨#[48 + n]⟩ = some (n : Int) := by decide +kernel
theorem digit1_ok {x : Str} {m : Int} (e : digit1 x = some m) : PySem.intText? x = some m ∧ x.length ≤ 640 := by
  unfold digit1 at e
  split at e
  · rename_i n hn
    split at e
    · rename_i hc
      cases e
      rw [Bool.and_eq_true] at hc
      have h1 := Nat.le_of_ble_eq_true hc.1
      have h2 := Nat.le_of_ble_eq_true hc.2
      obtain ⟨cps⟩ := x
      have hx : cps = #[n] := by rw [← Array.toArray_toList (xs := cps), hn]
      subst hx
      have h3 := digit1_all (n - 48) (by omega)
      have h4 : 48 + (n - 48) = n := by omega
      rw [h4] at h3
      exact ⟨h3, by show (#[n] : Array Nat).size ≤ 640; simp⟩
    · cases e
  · cases e
theorem digs_all : ∀ n, n < 100 → (toString (Int.ofNat n) : Str) = digsI (Int.ofNat n) ∧ (Int.ofNat n).natAbs.log2 < 1920 := by decide +kernel
theorem digs_ok {i : Int} (h0 : 0 ≤ i) (h1 : i < 100) : i.natAbs.log2 < 1920 ∧ (toString i : Str) = digsI i := by
  obtain ⟨n, rfl⟩ := Int.eq_ofNat_of_zero_le h0
  have := digs_all n (by omega)
  exact ⟨this.2, this.1⟩
theorem bl1_ok {b : Bl1} {dx d : D} {n : Nat} {x : V} (k : Ok P os w Z H) (rx : LR P os Z H n dx x) (hn : n ≤ 1 ∨ b = .len) (hb : b ≠ .sortedSet) (e : bl1 b dx = some d) (q : Wn P os Z H w d Q) : rB1 P.K P.wo b [x] H Q := by
  have hl := lim_eq
  have r1 : b ≠ .len → LR P os Z H 1 dx x := fun h => by
    rcases hn with z | z
    · exact rx.le z
    · exact absurd z h
  cases b with
  | len =>
    cases dx <;> first | (cases e; done) | skip
    case lst xs =>
      cases e
      obtain ⟨a, vs, rfl, ha, e⟩ := rx.len k.zh
      exact ⟨_, xs.length, rfl, .inl ⟨vs, .of ha, e⟩, q.int k⟩
    case tup xs =>
      cases e
      obtain ⟨a, vs, rfl, ha, r⟩ := rx.tup k.zh
      exact ⟨_, xs.length, rfl, .inr ⟨vs, .of ha, r.length⟩, q.int k⟩
    case scr ns =>
      cases e
      obtain ⟨a, rfl, s⟩ := (rx.notLst rfl).scr
      exact ⟨_, ns.length, rfl, .inl ⟨_, sqL_le k.zh s, by simp⟩, q.int k⟩
    case str y =>
      obtain ⟨e1, rfl⟩ := guardO_some e
      cases rx.str
      exact ⟨_, y.length, rfl, ⟨by rw [← hl]; exact of_decide_eq_true e1, rfl⟩, q.int k⟩
  | abs =>
    cases dx <;> first | (cases e; done) | skip
    case int i => cases e; cases rx.int; exact ⟨i, rfl, q.int k⟩
  | int =>
    cases dx <;> first | (cases e; done) | skip
    case int i => cases e; cases rx.int; exact .inl (.inl ⟨i, rfl, q.int k⟩)
    case bl i => cases e; cases rx.bl; exact .inl (.inr ⟨i, rfl, q.int k⟩)
    case str z =>
      obtain ⟨m, e1, rfl⟩ := Option.map_eq_some_iff.mp (show (digit1 z).map D.int = some d from e)
      cases rx.str
      obtain ⟨h1, h2⟩ := digit1_ok e1
      exact .inr ⟨z, m, rfl, h1, h2, q.int k⟩
  | bool =>
    cases dx <;> first | (cases e; done) | skip
    case int i => cases e; cases rx.int; exact .inl ⟨i, rfl, q.bl k⟩
    case bl i => cases e; cases rx.bl; exact .inr ⟨i, rfl, q.bl k⟩
  | str =>
    cases dx <;> first | (cases e; done) | skip
    case int i =>
      obtain ⟨e1, rfl⟩ := guardO_some (show guardO (decide (0 ≤ i) && decide (i < 100)) (some (D.str (digsI i))) = some d from e)
      simp only [Bool.and_eq_true, decide_eq_true_eq] at e1
      cases rx.int
      obtain ⟨h1, h2⟩ := digs_ok e1.1 e1.2
      refine ⟨i, rfl, h1, ?_⟩
      rw [h2]
      exact q.str k
  | sum =>
    cases dx <;> first | (cases e; done) | skip
    case lst xs =>
      obtain ⟨ns, e1, rfl⟩ := Option.map_eq_some_iff.mp e
      obtain ⟨a, vs, rfl, ha, r⟩ := (r1 (by decide)).lst k.zh
      rw [reps_ints e1 r] at ha
      exact ⟨a, ns, rfl, .of ha, q.int k⟩
  | max =>
    cases dx <;> first | (cases e; done) | skip
    case lst xs =>
      obtain ⟨ns, e1, e2⟩ := Option.bind_eq_some_iff.mp e
      obtain ⟨m, e3, rfl⟩ := Option.map_eq_some_iff.mp e2
      obtain ⟨h1, h2, h3⟩ := maxI_ok e3
      obtain ⟨a, vs, rfl, ha, r⟩ := (r1 (by decide)).lst k.zh
      rw [reps_ints e1 r] at ha
      refine .inl ⟨a, ns, rfl, .of ha, h3, fun m' g1 g2 => ?_⟩
      have : m' = m := Int.le_antisymm (h2 m' g1) (g2 m h1)
      rw [this]
      exact q.int k
    case tup xs =>
      obtain ⟨a, vs, rfl, ha, r⟩ := rx.tup k.zh
      obtain ⟨h1, h2, h3, h4, h5, h6⟩ := best_of k.zh (show bestD true xs = some d from e) r
      exact .inr ⟨a, vs, toPys xs, rfl, .of ha, h1, h2, h3, h4, fun x hx => q.val k h5 (h6 x hx)⟩
  | min =>
    cases dx <;> first | (cases e; done) | skip
    case lst xs =>
      obtain ⟨a, vs, rfl, ha, r⟩ := (r1 (by decide)).lst k.zh
      obtain ⟨h1, h2, h3, h4, h5, h6⟩ := best_of k.zh (show bestD false xs = some d from e) r
      exact ⟨a, vs, toPys xs, rfl, .of ha, h1, h2, h3, h4, fun x hx => q.val k h5 (h6 x hx)⟩
  | sorted =>
    cases dx <;> first | (cases e; done) | skip
    case lst xs =>
      obtain ⟨a, vs, rfl, ha, r⟩ := (r1 (by decide)).lst k.zh
      have e : sort1D xs = some d := e
      unfold sort1D at e
      split at e
      · rename_i d' e1
        cases e
        obtain ⟨c, rfl⟩ := sortD_some e1
        obtain ⟨h1, h2, h3, h4, h5, h6⟩ := srt_of k.zh c r
        exact .inl ⟨a, vs, toPys xs, rfl, .of ha, h5, h6, h2, h3, h4, fun p hp => q.lst k hp (sorted_srt k.zh c r)⟩
      · split at e
        · cases e
          have h5 := Reps.dp k.zh [.tup []] dpt vs (fun x hx => by rcases List.mem_singleton.mp hx with rfl; rfl) r
          have hr := r
          unfold Reps at r
          obtain ⟨v, t, rfl, g1, g2⟩ := r
          unfold Reps at g2
          subst g2
          simp only [toPys, toPy] at h5
          refine .inr (.inr ⟨a, v, .tuple [], rfl, .of ha, h5, fun x hx y hy => ?_, (fun z => nomatch z), ?_, fun p hp => q.lst k hp hr⟩)
          · rw [List.mem_singleton.mp hx, List.mem_singleton.mp hy]
            simp [PySem.W.alike, PySem.W.alikeAll]
          · simp [PyData.depth, PyData.depthAll]
        · cases e
    case tup xs =>
      obtain ⟨a, vs, rfl, ha, r⟩ := rx.tup k.zh
      obtain ⟨c, rfl⟩ := sortD_some (show sortD xs = some d from e)
      exact .inr (.inl ⟨a, vs, toPys xs, rfl, .of ha, fun hl => srt_arg k.zh c r hl, fun p hp => q.lst k hp (sorted_srt k.zh c r)⟩)
  | sortedSet => exact absurd rfl hb
  | tuple =>
    cases dx <;> first | (cases e; done) | skip
    case lst xs =>
      cases e
      obtain ⟨a, vs, rfl, ha, r⟩ := (r1 (by decide)).lst k.zh
      exact ⟨a, vs, rfl, .inl ⟨.of ha, fun p hp => q.tup k hp r⟩⟩
    case tup xs =>
      cases e
      have rr := (r1 (by decide)).notLst rfl
      obtain ⟨a, vs, rfl, ha, r⟩ := rx.tup k.zh
      exact ⟨a, vs, rfl, .inr ⟨.of ha, q.val k rfl rr⟩⟩
  | list =>
    cases dx <;> first | (cases e; done) | skip
    case lst xs =>
      cases e
      obtain ⟨a, vs, rfl, ha, r⟩ := (r1 (by decide)).lst k.zh
      exact ⟨a, vs, rfl, .inl (.of ha), fun p hp => q.lst k hp r⟩
    case tup xs =>
      cases e
      obtain ⟨a, vs, rfl, ha, r⟩ := rx.tup k.zh
      exact ⟨a, vs, rfl, .inr (.of ha), fun p hp => q.lst k hp r⟩
  | dict =>
    cases dx <;> first | (cases e; done) | skip
    case lst xs =>
      obtain ⟨ps, e1, rfl⟩ := Option.map_eq_some_iff.mp (show (pairsL xs).map (fun ps => D.dct (ps.foldl (fun acc p => dput acc p.1 p.2) [])) = some d from e)
      obtain ⟨a, vs, rfl, ha, r⟩ := (r1 (by decide)).lst k.zh
      obtain ⟨qs, h1, h2, h3⟩ := pairs_rows e1 r
      have h9 := storeAll_props (Z := Z) (qs := qs) (rows := ([] : List Row)) (fun q h => by cases h) List.nodup_nil h3
      have hp : Paired (PrR H) vs qs := paired_imp (fun x q ⟨T, e, hT⟩ => ⟨T, e, k.zh _ _ hT⟩) h1
      refine ⟨a, vs, qs, rfl, ha, hp, fun q hq => (h3 q hq).mono k.zh, fun hl p es ep hn hes => q.dct k hn ⟨hes, ?_, ?_, ?_⟩ (storeAll_rows .nil h2 (rows_keys h2))⟩
      · exact h9.1
      · exact h9.2.1
      · have h5 := h9.2.2
        have h6 := Paired.length h1
        simp only [List.length_nil] at h5
        omega

/-! ### truth -/
theorem tru_of {d : D} {n : Nat} {x : V} {c : Bool} (k : Le Z H) (rx : LR P os Z H n d x) (e : D.truth d = some c) : TruV P.K x H c := by
  cases d with
  | non => cases e; cases rx.non; rfl
  | bl b => cases e; cases rx.bl; rfl
  | int i => cases e; cases rx.int; rfl
  | str y =>
    cases rx.str
    simp only [D.truth] at e
    by_cases h : y.length ≤ lim
    · rw [if_pos h] at e; cases e; exact ⟨by rw [← lim_eq]; exact h, rfl⟩
    · rw [if_neg h] at e; cases e
  | tup xs =>
    cases e
    obtain ⟨a, vs, rfl, ha, r⟩ := rx.tup k
    refine .inr (.inl ⟨vs, .of ha, ?_⟩)
    have := r.length
    cases xs <;> cases vs <;> simp at this ⊢
  | lst xs =>
    cases e
    obtain ⟨a, vs, rfl, ha, r⟩ := rx.len k
    refine .inl ⟨vs, .of ha, ?_⟩
    cases xs <;> cases vs <;> simp at r ⊢
  | dct kvs => cases e
  | fn _ => cases e
  | obj _ => cases e
  | scr _ => cases e

/-! ### subscripts -/
theorem atI_paired {α β : Type} {F : α → β → Prop} {xs : List α} {ys : List β} {i : Int} {x : α} (h : Paired F xs ys) (e : atI xs i = some x) : ∃ y, atI ys i = some y ∧ F x y := by
  unfold atI at *
  obtain ⟨j, e1, e2⟩ := Option.bind_eq_some_iff.mp e
  obtain ⟨y, h1, h2⟩ := Paired.get h e2
  refine ⟨y, ?_, h2⟩
  rw [← Paired.length h, e1]
  exact h1
def rIxA (K : PySem.W.Frag) (w : World) : R2 := fun x y H Q => rIx K x y H Q ∨ rIxN w x y H Q
theorem rIxA_ok {X : Cx} (hu : X.A.units + 10 < cLine) : IxR X (rIxA X.K X.w) := by
  intro value slice pins s σ H x y v u Q I rx ry h hs
  rcases h with h | h
  · exact ix_seq value slice pins s σ H x y v u Q I rx ry h hs
  · exact ix_dictN hu value slice pins s σ H x y v u Q I rx ry h hs
theorem ix_ok {dx dy d : D} {n : Nat} {x y : V} (k : Le Z H) (rx : LR P os Z H (n + 1) dx x) (ry : Rep P os Z dy y) (e : D.ix dx dy = some d) (q : ∀ v, LR P os Z H n d v → Q v H) : rIxA P.K P.wo x y H Q := by
  by_cases hdct : ∃ kvs, dx = .dct kvs
  · obtain ⟨kvs, rfl⟩ := hdct
    have e : (if D.key dy then dget kvs dy else none) = some d := by cases dy <;> exact e
    by_cases hk : D.key dy = true
    · rw [if_pos hk] at e
      obtain ⟨a, rfl, es, ep, qs, s1, r1, t1⟩ := rx.dct k
      obtain ⟨b, rfl, hb⟩ := key_ok hk ry
      obtain ⟨q0, g1, g2⟩ := dget_some hk t1 e
      exact .inr ⟨a, es, ep, qs, b, nk dy, q0, ⟨rfl, rfl, s1, r1.mono k, hb.mono k⟩, g1, q _ (.of g2)⟩
    · rw [if_neg hk] at e; cases e
  refine .inl ?_
  cases dx <;> cases dy <;> first | (cases e; done) | (exact absurd ⟨_, rfl⟩ hdct) | skip
  case tup.int xs i =>
    obtain ⟨a, vs, rfl, ha, r⟩ := rx.tup k
    unfold Rep at ry
    obtain ⟨v, h1, h2⟩ := atI_paired (reps_paired.mp r) e
    exact .inr (.inl ⟨a, vs, i, v, rfl, ry, .of ha, h1, q v (.of h2)⟩)
  case lst.int xs i =>
    obtain ⟨a, vs, rfl, ha, r⟩ := rx.lstN k
    unfold Rep at ry
    obtain ⟨v, h1, h2⟩ := atI_paired r e
    exact .inl ⟨a, vs, i, v, rfl, ry, .of ha, h1, q v h2⟩
  case str.int z i =>
    unfold Rep at ry
    have e : (if z.length ≤ lim then (atI z.cps.toList i).map fun c => D.str ⟨#[c]⟩ else none) = some d := e
    by_cases hl : z.length ≤ lim
    · rw [if_pos hl] at e
      obtain ⟨c, e1, rfl⟩ := Option.map_eq_some_iff.mp e
      exact .inr (.inr ⟨z, i, c, rx.str, ry, by rw [← lim_eq]; exact hl, e1, q _ (.of (by unfold Rep; rfl))⟩)
    · rw [if_neg hl] at e; cases e
  case scr.int ns i =>
    obtain ⟨a, rfl, s⟩ := (rx.notLst rfl).scr
    obtain ⟨z, e1, rfl⟩ := Option.map_eq_some_iff.mp (show (atI ns i).map D.int = some d from e)
    unfold Rep at ry
    have h1 : Paired (fun (j : Int) (v : V) => v = .int j) ns (ns.map V.int) := by
      clear s e e1 rx hdct
      induction ns with
      | nil => exact .nil
      | cons m ns ih => exact .cons rfl ih
    obtain ⟨v, h2, rfl⟩ := atI_paired h1 e1
    exact .inl ⟨a, _, i, _, rfl, ry, sqL_le k s, h2, q _ (.of (by unfold Rep; rfl))⟩

/-! ### slices -/
def rSlc (K : PySem.W.Frag) : V → Option Int → Option Int → Hp → VK → Prop := fun x lo hi H Q => rSlA K x lo hi H Q ∨ (rSlL K x lo hi H Q ∨ (∃ z, x = .str z ∧ z.length ≤ sizeLine ∧ Q (.str (cutS z lo hi)) H))
theorem rSlc_ok : SlR X (rSlc X.K) := sl_tupA.or (sl_list.or sl_str)
theorem cut_paired {α β : Type} {F : α → β → Prop} {xs : List α} {ys : List β} (h : Paired F xs ys) (lo hi : Option Int) : Paired F (cut xs lo hi) (cut ys lo hi) := by
  unfold cut
  rw [Paired.length h]
  exact Paired.take _ (Paired.drop _ h)
theorem sl_ok {dx d : D} {lo hi : Option Int} {x : V} (k : Ok P os w Z H) (rx : LR P os Z H 1 dx x) (e : D.sl dx lo hi = some d) (q : Wn P os Z H w d Q) : rSlc P.K x lo hi H Q := by
  cases dx <;> first | (cases e; done) | skip
  case tup xs =>
    cases e
    have rr := rx.notLst rfl
    obtain ⟨a, vs, rfl, ha, r⟩ := rx.tup k.zh
    refine .inl ⟨a, vs, rfl, .of ha, fun hw => ?_, fun _ p hp => q.tup k hp (reps_paired.mpr (cut_paired (reps_paired.mp r) lo hi))⟩
    have : cut xs lo hi = xs := by
      unfold cut
      rw [r.length, hw.1, hw.2, ← r.length]
      simp
    rw [this] at q
    exact q.val k rfl rr
  case lst xs =>
    cases e
    obtain ⟨a, vs, rfl, ha, r⟩ := rx.lst k.zh
    exact .inr (.inl ⟨a, vs, rfl, .of ha, fun p hp => q.lst k hp (reps_paired.mpr (cut_paired (reps_paired.mp r) lo hi))⟩)
  case str z =>
    simp only [D.sl] at e
    by_cases h : z.length ≤ lim
    · rw [if_pos h] at e
      cases e
      exact .inr (.inr ⟨z, rx.str, by rw [← lim_eq]; exact h, q.str k⟩)
    · rw [if_neg h] at e; cases e
theorem rev_ok {dx d : D} {x : V} (k : Ok P os w Z H) (rx : LR P os Z H 1 dx x) (e : D.rev dx = some d) (q : Wn P os Z H w d Q) : rRev P.K x H Q := by
  cases dx <;> first | (cases e; done) | skip
  case lst xs =>
    cases e
    obtain ⟨a, vs, rfl, ha, r⟩ := rx.lst k.zh
    exact ⟨a, vs, rfl, .inl ⟨.of ha, fun p hp => q.lst k hp r.reverse⟩⟩
  case tup xs =>
    cases e
    obtain ⟨a, vs, rfl, ha, r⟩ := rx.tup k.zh
    exact ⟨a, vs, rfl, .inr ⟨.of ha, fun p hp => q.tup k hp r.reverse⟩⟩

/-! ### count, index -/
theorem cnt_ok {da dx d : D} {a x : V} (k : Ok P os w Z H) (ra : LR P os Z H 1 da a) (rx : Rep P os Z dx x) (e : cntD da dx = some d) (q : Wn P os Z H w d Q) : rCntI P.K a [x] H Q := by
  cases da <;> cases dx <;> first | (cases e; done) | skip
  case lst.int ys i =>
    obtain ⟨ns, e1, rfl⟩ := Option.map_eq_some_iff.mp e
    obtain ⟨a, vs, rfl, ha, r⟩ := ra.lst k.zh
    rw [reps_ints e1 r] at ha
    unfold Rep at rx
    subst rx
    exact ⟨a, ns, i, rfl, rfl, .of ha, q.int k⟩
theorem firstAt_ok {x : D} : ∀ {ys : List D} {n : Nat}, firstAt x ys = some n → (∃ y, ys[n]? = some y ∧ D.eqv y x = true) ∧ ∀ m y, m < n → ys[m]? = some y → D.eqv y x = false
  | [], n, e => by cases e
  | y :: ys, n, e => by
    unfold firstAt at e
    by_cases h : D.eqv y x = true
    · rw [if_pos h] at e
      cases e
      exact ⟨⟨y, rfl, h⟩, fun m z hm => by omega⟩
    · rw [if_neg h] at e
      obtain ⟨m, e1, rfl⟩ := Option.map_eq_some_iff.mp e
      obtain ⟨⟨z, h1, h2⟩, h3⟩ := firstAt_ok e1
      refine ⟨⟨z, by simpa using h1, h2⟩, fun j u hj e => ?_⟩
      cases j with
      | zero => cases e; simpa using h
      | succ j => exact h3 j u (by omega) (by simpa using e)
theorem idx_ok {da dx d : D} {a x : V} (k : Ok P os w Z H) (ra : LR P os Z H 1 da a) (rx : Rep P os Z dx x) (e : idxD da dx = some d) (q : Wn P os Z H w d Q) : rIndexD P.K a [x] H Q := by
  cases da <;> first | (cases e; done) | skip
  case lst ys =>
    unfold idxD at e
    by_cases h : (D.ok dpt dx && D.ok dpt (.lst ys)) = true
    · simp only [if_pos h] at e
      rw [Bool.and_eq_true] at h
      obtain ⟨n, e1, rfl⟩ := Option.map_eq_some_iff.mp e
      obtain ⟨⟨y, h1, h2⟩, h3⟩ := firstAt_ok e1
      have hd := ra.dp k.zh h.2
      have hs := shaped_of h.2
      obtain ⟨m, hm, h4⟩ := ok_lst h.2
      obtain ⟨a, vs, rfl, ha, r⟩ := ra.lst k.zh
      unfold toPy at hd hs
      have gt : ∀ {j : Nat} {z : PyData}, (toPys ys)[j]? = some z → ∃ u, ys[j]? = some u ∧ z = toPy u := by
        intro j z hz
        rw [toPys_map, List.getElem?_map] at hz
        obtain ⟨u, h5, h6⟩ := Option.map_eq_some_iff.mp hz
        exact ⟨u, h5, h6.symm⟩
      refine ⟨a, x, toPy dx, toPys ys, n, toPy y, rfl, rfl, hd, rx.dp k.zh dx dpt x h.1, hs, shaped_of h.1, ?_, ?_, fun j z hj hz => ?_, q.int k⟩
      · rw [toPys_map, List.getElem?_map, h1]; rfl
      · rw [eqv_py y dx m dpt (h4 y (List.mem_of_getElem? h1)) h.1]; exact h2
      · obtain ⟨u, h5, rfl⟩ := gt hz
        rw [eqv_py u dx m dpt (h4 u (List.mem_of_getElem? h5)) h.1]
        exact h3 j u hj h5
    · simp only [if_neg h] at e
      cases e

/-! ### isinstance -/
def tyN : Ty → String
  | .int => "int"
  | .bool => "bool"
  | .str => "str"
  | .tuple => "tuple"
  | .list => "list"
def dTy : D → Option String
  | .non => some "NoneType"
  | .bl _ => some "bool"
  | .int _ => some "int"
  | .str _ => some "str"
  | .tup _ => some "tuple"
  | .lst _ => some "list"
  | .dct _ => some "dict"
  | _ => none
theorem ty_of {d : D} {n : Nat} {x : V} {t : String} (k : Le Z H) (rx : LR P os Z H n d x) (e : dTy d = some t) : TyY P.K H x (.type t) := by
  cases d <;> cases e
  case non => cases rx.non; exact .base (.base .non)
  case bl b => cases rx.bl; exact .base (.base (.bl b))
  case int i => cases rx.int; exact .base (.base (.int i))
  case str y => cases rx.str; exact .base (.base (.str y))
  case tup ds => obtain ⟨a, vs, rfl, ha, _⟩ := rx.tup k; exact .base (.base (.tup ha))
  case lst ds => obtain ⟨a, vs, rfl, ha, _⟩ := rx.len k; exact .base (.base (.lst ha))
  case dct kvs => obtain ⟨a, rfl, es, ep, qs, s1, _⟩ := rx.dct k; exact .raw s1
theorem isTy_ok {d : D} {t : Ty} {b : Bool} (e : D.isTy t d = some b) : ∃ n, dTy d = some n ∧ kitB n (tyN t) = some b := by
  cases d with
  | dct b => refine ⟨_, rfl, ?_⟩; cases t <;> cases e <;> decide +kernel
  | fn f => cases t <;> cases e
  | obj f => cases t <;> cases e
  | scr f => cases t <;> cases e
  | non => refine ⟨_, rfl, ?_⟩; cases t <;> cases e <;> decide +kernel
  | bl b => refine ⟨_, rfl, ?_⟩; cases t <;> cases e <;> decide +kernel
  | int b => refine ⟨_, rfl, ?_⟩; cases t <;> cases e <;> decide +kernel
  | str b => refine ⟨_, rfl, ?_⟩; cases t <;> cases e <;> decide +kernel
  | tup b => refine ⟨_, rfl, ?_⟩; cases t <;> cases e <;> decide +kernel
  | lst b => refine ⟨_, rfl, ?_⟩; cases t <;> cases e <;> decide +kernel
theorem isTys_ok {K : PySem.W.Frag} {d : D} {n : String} (hn : dTy d = some n) : ∀ {ts : List Ty} {b : Bool}, isTys d ts = some b → PySem.W.kitAny K (.type n) (ts.map fun t => .type (tyN t)) = some b
  | [], b, e => by cases e; exact kitAny_nil
  | t :: ts, b, e => by
    unfold isTys at e
    cases h1 : D.isTy t d with
    | none => rw [h1] at e; cases e
    | some c1 =>
      cases h2 : isTys d ts with
      | none => rw [h1, h2] at e; cases e
      | some c2 =>
        rw [h1, h2] at e
        cases e
        obtain ⟨m, e1, e2⟩ := isTy_ok h1
        rw [hn] at e1
        cases e1
        rw [List.map_cons]
        refine kitAny_cons (b := c1) (kit_ty e2) (fun z => ?_) fun z => by rw [z]; rfl
        rw [z, Bool.false_or]
        exact isTys_ok hn h2
theorem isTy_single {K : PySem.W.Frag} {d : D} {t : Ty} {b : Bool} {n : String} (hn : dTy d = some n) (e : isTys d [t] = some b) : PySem.W.kitOne K (.type n) (.type (tyN t)) = some b := by
  unfold isTys at e
  cases h1 : D.isTy t d with
  | none => rw [h1] at e; cases e
  | some c1 =>
    rw [h1] at e
    simp only [isTys] at e
    obtain ⟨m, e1, e2⟩ := isTy_ok h1
    rw [hn] at e1
    cases e1
    have : c1 = b := by simpa using e
    subst this
    exact kit_ty e2
end
end VI

set_option Elab.async false
set_option linter.all false
set_option maxRecDepth 100000
set_option maxHeartbeats 1000000
/-! VI, part 5s: sorted(set(xs)), by data. -/
namespace VI
open PySem L2
def rSetA (K : PySem.W.Frag) (P : Program) (w : World) : List V → Hp → VK → Prop := fun vs H Q => rSetI K w vs H Q ∨ rSetTs K P w vs H Q
def rSortedSA (K : PySem.W.Frag) (P : Program) (w : World) : List V → Hp → VK → Prop := fun vs H Q => rSortedSI K w vs H Q ∨ rSortedST K P w vs H Q
theorem cr_setA {X : Cx} (hc : X.calm = true) (hu : X.A.units + 65 < cLine) : CallR X (.type "set") (rSetA X.K X.prog X.w) := (cr_setI hc).or (cr_setTs hc (by omega))
theorem cr_sortedSA {X : Cx} (hc : X.calm = true) (hu : X.A.units + 65 < cLine) : CallR X (.builtin "sorted") (rSortedSA X.K X.prog X.w) := (cr_sortedSI hc hu).or (cr_sortedST hc hu)
theorem nub_mem {xs : List D} (h : ∀ x ∈ xs, ∀ y ∈ xs, D.eqv x y = true ↔ x = y) : (∀ x, x ∈ nubD xs ↔ x ∈ xs) ∧ (nubD xs).Nodup := by
  induction xs with
  | nil => exact ⟨fun x => Iff.rfl, List.nodup_nil⟩
  | cons x xs ih =>
    obtain ⟨h1, h2⟩ := ih fun a ha b hb => h a (.tail _ ha) b (.tail _ hb)
    have hf : ∀ y, y ∈ (nubD xs).filter (fun y => !D.eqv x y) ↔ y ∈ xs ∧ y ≠ x := fun y => by
      rw [List.mem_filter, h1]
      refine and_congr_right fun hy => ?_
      have := h x (.head _) y (.tail _ hy)
      cases q : D.eqv x y with
      | true => simp; exact (this.mp q).symm
      | false =>
        simp
        intro e
        rw [this.mpr e.symm] at q; cases q
    unfold nubD
    refine ⟨fun y => ?_, List.nodup_cons.mpr ⟨fun hx => ((hf x).mp hx).2 rfl, List.Nodup.sublist (List.filter_sublist) h2⟩⟩
    rw [List.mem_cons, hf, List.mem_cons]
    constructor
    · rintro (e | ⟨e, _⟩)
      · exact .inl e
      · exact .inr e
    · rintro (e | e)
      · exact .inl e
      · by_cases c : y = x
        · exact .inl c
        · exact .inr ⟨e, c⟩
theorem ok_sub {xs ys : List D} (h : okSortB xs = true) (s : ∀ y ∈ ys, y ∈ xs) : okSortB ys = true := by
  unfold okSortB at *
  simp only [Bool.and_eq_true, Bool.or_eq_true, List.all_eq_true] at *
  obtain ⟨h1, h2, h3⟩ := h
  refine ⟨fun x hx => h1 x (s x hx), fun x hx y hy => h2 x (s x hx) y (s y hy), ?_⟩
  rcases h3 with h3 | h3
  · exact .inl fun x hx => h3 x (s x hx)
  · exact .inr fun x hx => h3 x (s x hx)
theorem isortB_uniq {xs ys : List D} (h : okSortB xs = true) (p : ys.Perm xs) : isortB ltD ys = isortB ltD xs := by
  have hx := isortB_srtd (lt := ltD) ltD_swo (l := xs)
  have hy := isortB_srtd (lt := ltD) ltD_swo (l := ys)
  refine srtd_uniqM (fun a ha b hb h1 h2 => ?_) hy hx ((isortB_perm.trans p).trans isortB_perm.symm)
  have ma := p.mem_iff.mp (isortB_perm.mem_iff.mp ha)
  have mb := p.mem_iff.mp (isortB_perm.mem_iff.mp hb)
  unfold okSortB at h
  simp only [Bool.and_eq_true, List.all_eq_true] at h
  have oa := h.1 a ma
  have ob := h.1 b mb
  have al := h.2.1 a ma b mb
  exact alike_eq a b dpt dpt oa ob al (by rw [← eqv_py a b dpt dpt oa ob]; exact ltk_eqv al h1 h2)
theorem eqv_ints : ∀ (a b : List Int), D.eqvs (a.map D.int) (b.map D.int) = true ↔ a = b
  | [], [] => by simp [D.eqvs]
  | [], _ :: _ => by simp [D.eqvs]
  | _ :: _, [] => by simp [D.eqvs]
  | i :: a, j :: b => by simp [D.eqvs, D.eqv, eqv_ints a b]
theorem intsL_map : ∀ {xs : List D} {ns : List Int}, intsL xs = some ns → xs = ns.map D.int
  | [], ns, e => by cases e; rfl
  | x :: xs, ns, e => by
    cases x <;> first | (cases e; done) | skip
    rename_i i
    obtain ⟨m, e1, rfl⟩ := Option.map_eq_some_iff.mp (show (intsL xs).map (i :: ·) = some ns from e)
    rw [intsL_map e1]; rfl
section
variable {P : Pm} {os : List Addr} {Z H : Hp} {w : Wd} {Q : VK}
theorem reps_intsV : ∀ (ns : List Int), Reps P os Z (ns.map D.int) (ns.map V.int)
  | [] => reps_nil
  | n :: ns => reps_cons (by unfold Rep; rfl) (reps_intsV ns)
theorem toPys_ints : ∀ ns : List Int, toPys (ns.map D.int) = ns.map PyData.int
  | [] => rfl
  | n :: ns => by simp only [List.map_cons, toPys, toPy, toPys_ints ns]
theorem reps_tups : ∀ {xs : List D} {vs : List V}, (∀ x ∈ xs, ∃ ns : List Int, x = .tup (ns.map .int)) → Reps P os Z xs vs → ∃ ks : List (Addr × List Int), vs = ks.map (fun p => V.ref p.1) ∧ xs = ks.map (fun p => D.tup (p.2.map D.int)) ∧
    ∀ p ∈ ks, Z p.1 = some (.tup (p.2.map V.int))
  | [], vs, _, r => by unfold Reps at r; subst r; exact ⟨[], rfl, rfl, fun p h => (nomatch h)⟩
  | x :: xs, vs, h, r => by
    unfold Reps at r
    obtain ⟨v, t, rfl, r1, r2⟩ := r
    obtain ⟨ns, rfl⟩ := h x (.head _)
    obtain ⟨ks, rfl, rfl, h3⟩ := reps_tups (fun y hy => h y (.tail _ hy)) r2
    obtain ⟨a, us, rfl, ha, ru⟩ := r1.tup
    have : us = ns.map V.int := reps_ints (by
      have : ∀ ns : List Int, intsL (ns.map D.int) = some ns := by
        intro ns
        induction ns with
        | nil => rfl
        | cons n ns ih => simp only [List.map_cons, intsL, ih]; rfl
      exact this ns) ru
    subst this
    refine ⟨(a, ns) :: ks, rfl, rfl, fun p hp => ?_⟩
    rcases List.mem_cons.mp hp with rfl | hp
    · exact ha
    · exact h3 p hp
theorem toPys_tups (L : List (Addr × List Int)) : toPys (L.map fun p => D.tup (p.2.map D.int)) = L.map fun p => PyData.tuple (p.2.map PyData.int) := by
  induction L with
  | nil => rfl
  | cons p L ih => simp only [List.map_cons, toPys, toPy, ih, toPys_ints]
theorem reps_of_tups : ∀ {L : List (Addr × List Int)}, (∀ p ∈ L, Z p.1 = some (.tup (p.2.map V.int))) → Reps P os Z (L.map fun p => D.tup (p.2.map D.int)) (L.map fun p => V.ref p.1)
  | [], _ => reps_nil
  | p :: L, h => reps_cons (by unfold Rep; exact ⟨p.1, _, rfl, h p (.head _), reps_intsV p.2⟩) (reps_of_tups fun q hq => h q (.tail _ hq))
theorem tup_inj {a b : List Int} (h : D.tup (a.map D.int) = D.tup (b.map D.int)) : a = b := by
  injection h with h
  have := (eqv_ints a b).mp (by rw [h]; exact (eqv_ints b b).mpr rfl)
  exact this
theorem sset_ok {prog : Program} {dx d : D} {xs : List D} {x : V} (k : Ok P os w Z H) (rx : (∃ a vs, x = .ref a ∧ SqL P.K H a vs ∧ Reps P os Z xs vs) ∨ ((∃ ns, intsL xs = some ns) ∧ ∃ a vs, x = .ref a ∧ SqT P.K H a vs ∧ Reps P os Z xs vs)) (e : setD xs = some d) (q : Wn P os Z H w d Q) :
    rSetA P.K prog P.wo [x] H fun y H2 => rSortedSA P.K prog P.wo [y] H2 Q := by
  unfold setD at e
  by_cases c : okSet xs = true
  case neg => rw [if_neg c] at e; cases e
  rw [if_pos c] at e
  obtain ⟨oks, rfl⟩ := sortD_some e
  unfold okSet at c
  simp only [Bool.and_eq_true, decide_eq_true_eq] at c
  obtain ⟨c1, c2, c3⟩ := c
  by_cases hi : ∃ ns, intsL xs = some ns
  · obtain ⟨ns, hns⟩ := hi
    have hx := intsL_map hns
    have eqI : ∀ a ∈ xs, ∀ b ∈ xs, D.eqv a b = true ↔ a = b := fun a ha b hb => by
      rw [hx] at ha hb
      obtain ⟨i, _, rfl⟩ := List.mem_map.mp ha
      obtain ⟨j, _, rfl⟩ := List.mem_map.mp hb
      simp [D.eqv]
    obtain ⟨n1, n2⟩ := nub_mem eqI
    have fin : ∀ (p0 : Addr) (c0 : Nat), H p0 = none → rSortedSA P.K prog P.wo [V.ref p0] (upd H p0 (SetO P.wo p0 (fun j => decide (j ∈ ns)) c0)) Q := fun p0 c0 hp0 => by
      obtain ⟨k2, s2⟩ := k.alloc hp0 (SetO P.wo p0 (fun j => decide (j ∈ ns)) c0) (fun _ z => by unfold SetO at z; cases z)
      refine .inl ⟨p0, _, c0, rfl, upd_same, fun ks nd hk => ?_⟩
      have hperm : (ks.map D.int).Perm (nubD xs) := by
        refine (List.perm_ext_iff_of_nodup (List.Pairwise.map D.int (fun a b hab z => by injection z with z; exact hab z) nd) n2).mpr fun y => ?_
        rw [n1, hx]
        constructor
        · intro hy
          obtain ⟨i, h1, rfl⟩ := List.mem_map.mp hy
          exact List.mem_map.mpr ⟨i, of_decide_eq_true ((hk i).mp h1), rfl⟩
        · intro hy
          obtain ⟨i, h1, rfl⟩ := List.mem_map.mp hy
          exact List.mem_map.mpr ⟨i, (hk i).mpr (decide_eq_true h1), rfl⟩
      have ok2 : okSortB (ks.map D.int) = true := ok_sub oks fun y hy => hperm.mem_iff.mp hy
      have hl : (ks.map V.int).length ≤ sizeLine := by
        have := hperm.length_eq
        rw [List.length_map] at this ⊢
        rw [sizeLine_eq]; omega
      have r2 : Reps P os (upd Z p0 (SetO P.wo p0 (fun j => decide (j ∈ ns)) c0)) (ks.map D.int) (ks.map V.int) := reps_intsV ks
      have sa := srt_arg k2.zh ok2 r2 hl
      have sr := sorted_srt k2.zh ok2 r2
      rw [toPys_ints] at sa sr
      refine ⟨sa, fun p hp => ?_⟩
      rw [isortB_uniq oks hperm] at sr
      obtain ⟨k3, s3, hz3, np3⟩ := k2.allocOwn hp (.lst (srtV (ks.map V.int) (ks.map PyData.int)))
      refine q _ _ _ _ (s2.then s3) k3 ⟨p, _, rfl, ?_, np3, hz3, upd_same, sr⟩
      cases q0 : H p with
      | none => rfl
      | some o => exact absurd hp (s2.there p (by rw [q0]; intro z; cases z))
    have hb : ns.length + 1 < scanBound := by
      have c3 : xs.length < 4000 := by
        rw [hns] at c3
        simpa using c3
      have : xs.length = ns.length := by rw [hx, List.length_map]
      unfold scanBound; omega
    rcases rx with ⟨a, vs, rfl, ha, r⟩ | ⟨_, a, vs, rfl, ha, r⟩
    · rw [reps_ints hns r] at ha
      exact .inl ⟨a, ns, rfl, .inl ha, hb, fun p c0 hp => fin p c0 hp⟩
    · rw [reps_ints hns r] at ha
      exact .inl ⟨a, ns, rfl, .inr ha, hb, fun p c0 hp => fin p c0 hp⟩
  · have ht : ∀ x ∈ xs, ∃ ns : List Int, x = .tup (ns.map .int) := by
      rw [Bool.or_eq_true] at c1
      rcases c1 with c1 | c1
      · refine absurd ?_ hi
        have : ∀ xs : List D, (xs.all fun x => match x with
          | .int _ => true
          | _ => false) = true → ∃ ns, intsL xs = some ns := by
          intro xs
          induction xs with
          | nil => intro _; exact ⟨[], rfl⟩
          | cons x xs ih =>
            intro h
            rw [List.all_cons, Bool.and_eq_true] at h
            obtain ⟨ha, hb⟩ := h
            obtain ⟨ns, e⟩ := ih hb
            cases x <;> first | (exact absurd ha Bool.false_ne_true) | skip
            rename_i i
            exact ⟨i :: ns, by simp only [intsL, e]; rfl⟩
        exact this xs c1
      · intro x hx
        have h1 := List.all_eq_true.mp c1 x hx
        cases x <;> first | (exact absurd h1 Bool.false_ne_true) | skip
        rename_i ys
        simp only [Bool.and_eq_true] at h1
        obtain ⟨ns, e⟩ := Option.isSome_iff_exists.mp h1.1
        exact ⟨ns, by rw [intsL_map e]⟩
    rcases rx with ⟨a, vs, rfl, ha, r⟩ | ⟨h, _⟩
    case inr => exact absurd h hi
    obtain ⟨ks, rfl, hx, hks⟩ := reps_tups ht r
    have eqT : ∀ a ∈ xs, ∀ b ∈ xs, D.eqv a b = true ↔ a = b := fun a ha b hb => by
      obtain ⟨i, rfl⟩ := ht a ha
      obtain ⟨j, rfl⟩ := ht b hb
      show D.eqvs _ _ = true ↔ _
      rw [eqv_ints]
      exact ⟨fun e => by rw [e], tup_inj⟩
    obtain ⟨n1, n2⟩ := nub_mem eqT
    have toN : ∀ L : List (Addr × List Int), (L.map (·.2)).Nodup → (L.map fun p => D.tup (p.2.map D.int)).Nodup := fun L hL => by
      have : (L.map fun p => D.tup (p.2.map D.int)) = (L.map (·.2)).map fun l => D.tup (l.map D.int) := by rw [List.map_map]; rfl
      rw [this]
      exact List.Pairwise.map _ (fun a b hab z => hab (tup_inj z)) hL
    refine .inr ⟨a, ks, rfl, ha, fun p hp => .of (k.zh _ _ (hks p hp)), fun L hL nd => ?_, fun p0 L hp0 hL hall nd => ?_⟩
    · have h1 : (L.map fun p => D.tup (p.2.map D.int)).length ≤ (nubD xs).length := (toN L nd).length_le_of_subset fun y hy => by
        obtain ⟨p, hp, rfl⟩ := List.mem_map.mp hy
        rw [n1, hx]
        exact List.mem_map.mpr ⟨p, hL p hp, rfl⟩
      rw [List.length_map] at h1
      omega
    · obtain ⟨k2, s2⟩ := k.alloc hp0 (SetTO prog P.wo p0 L) (fun _ z => by unfold SetTO at z; cases z)
      have zL : ∀ p ∈ L, upd Z p0 (SetTO prog P.wo p0 L) p.1 = some (.tup (p.2.map V.int)) := fun p hp => s2.zle _ _ (hks p (hL p hp))
      refine .inr ⟨p0, L, rfl, upd_same, fun p hp => .of (k2.zh _ _ (zL p hp)), fun L' pm => ?_⟩
      have nd' : (L'.map (·.2)).Nodup := (pm.map (·.2)).nodup_iff.mpr nd
      have hperm : (L'.map fun p => D.tup (p.2.map D.int)).Perm (nubD xs) := by
        refine (List.perm_ext_iff_of_nodup (toN L' nd') n2).mpr fun y => ?_
        rw [n1, hx]
        constructor
        · intro hy
          obtain ⟨p, h1, rfl⟩ := List.mem_map.mp hy
          exact List.mem_map.mpr ⟨p, hL p (pm.mem_iff.mp h1), rfl⟩
        · intro hy
          obtain ⟨p, h1, rfl⟩ := List.mem_map.mp hy
          obtain ⟨p', h2, e⟩ := List.mem_map.mp (hall p h1)
          exact List.mem_map.mpr ⟨p', pm.mem_iff.mpr h2, by rw [e]⟩
      have ok2 := ok_sub oks fun y hy => hperm.mem_iff.mp hy
      have hl : (L'.map fun p => V.ref p.1).length ≤ sizeLine := by
        have := hperm.length_eq
        rw [List.length_map] at this ⊢
        rw [sizeLine_eq]; omega
      have r2 : Reps P os (upd Z p0 (SetTO prog P.wo p0 L)) (L'.map fun p => D.tup (p.2.map D.int)) (L'.map fun p => V.ref p.1) := reps_of_tups fun p hp => zL p (pm.mem_iff.mp hp)
      have sa := srt_arg k2.zh ok2 r2 hl
      have sr := sorted_srt k2.zh ok2 r2
      rw [toPys_tups] at sa sr
      refine ⟨sa, fun p hp => ?_⟩
      rw [isortB_uniq oks hperm] at sr
      obtain ⟨k3, s3, hz3, np3⟩ := k2.allocOwn hp (.lst (srtV (L'.map fun p => V.ref p.1) (L'.map fun p => PyData.tuple (p.2.map PyData.int))))
      refine q _ _ _ _ (s2.then s3) k3 ⟨p, _, rfl, ?_, np3, hz3, upd_same, sr⟩
      cases q0 : H p with
      | none => rfl
      | some o => exact absurd hp (s2.there p (by rw [q0]; intro z; cases z))
end
end VI

set_option Elab.async false
set_option linter.all false
set_option maxRecDepth 100000
/-! VI, part 6: what is walked: lists, tuples, ranges, enumerate, zip. -/
namespace VI
open PySem PySem.Spec PyProof.Rows L2
abbrev SlS := L2.St

/-! ### a list or a tuple -/
def iSeqA (K : PySem.W.Frag) (tl : TE) : TI := fun σ H R => tl σ H fun x H1 => (∃ a xs, x = .ref a ∧ SqL K H1 a xs ∧ R (Itl K a) H1) ∨ (∃ a xs, x = .ref a ∧ SqT K H1 a xs ∧ R (Itt K a) H1)
theorem pi_seqA {X : Cx} {tg l : Expr} {tl : TE} (hl : PE X l tl) : PI X tg l (iSeqA X.K tl) := by
  refine ⟨fun pins s σ H R I h => ?_⟩
  refine thn (hl.run pins s σ H _ I h) fun v s1 ⟨x, H1, I1, r1, q1⟩ => ?_
  rcases q1 with ⟨a, xs, e, hq, q⟩ | ⟨a, xs, e, hq, q⟩
  · subst e
    cases r1
    obtain ⟨its, rv, p, hz⟩ := I1.list hq
    refine wpAny_pyIter_list p.isList ?_
    refine ⟨s1.heap.objs.size, [s1.heap.objs.size], _, _, H1, rfl, I1.kept (t' := s1.toks) fun b o e => Heap.get?_push_of_some _ e, turn_list a _, ⟨_, Heap.get?_push_size _ rfl, rfl, rfl⟩, fun b hb => ?_, q⟩
    have e : b = s1.heap.objs.size := by simpa using hb
    subst e
    exact I1.fpOk (Nat.le_refl _) (I1.hok.fresh (Nat.le_refl _))
  · subst e
    cases r1
    obtain ⟨its, rv, p, hz⟩ := I1.tuple hq
    refine wpAny_pyIter_tuple (show s1.heap.IsTuple a its.toArray from p) ?_
    refine ⟨s1.heap.objs.size, [s1.heap.objs.size], _, _, H1, rfl, I1.kept (t' := s1.toks) fun b o e => Heap.get?_push_of_some _ e, turn_tuple a _, ⟨_, Heap.get?_push_size _ rfl, rfl, rfl⟩, fun b hb => ?_, q⟩
    have e : b = s1.heap.objs.size := by simpa using hb
    subst e
    exact I1.fpOk (Nat.le_refl _) (I1.hok.fresh (Nat.le_refl _))

/-! ### enumerate of a tuple -/
theorem meets_enumerate_newT (l : Addr) (items : Array Value) (n : Nat) (dct : Option Addr) (sl : Array (Option Value)) :
    Meets (Builtin.«enumerate.__new__» ⟨[.type "enumerate", .ref l], []⟩) (fun _ R s => s.heap.get? l = some { cls := .type "tuple", dict := dct, data := .seq items n, slots := sl } ∧
      R (.ok (.ret (.ref (s.heap.push { cls := .type "tuple_iterator", data := .fields #[.ref l, .int 0 0] }).objs.size)))
        { s with heap := (s.heap.push { cls := .type "tuple_iterator", data := .fields #[.ref l, .int 0 0] }).push { cls := .type "enumerate", data := .fields #[.none, .bool false, .ref s.heap.objs.size, rawInt 0, .none, .none] } }) :=
  .of_wp fun prog w A R s h => by
    obtain ⟨hp, g, d, tk, os⟩ := s; obtain ⟨hl, h⟩ := h
    have hsub := sub_enumerate
    have hL : Heap.IsTuple (Shared.heap ⟨hp, g, d, tk, os⟩) l items := ⟨_, hl, rfl, n, rfl⟩
    wp_walk using wpAny_loadPart' hl
    refine wpAny_stack_any fun st => wpAny_pure ?_
    split
    · rename_i c _ _ _ _ _
      cases (c == Value.type "enumerate")
      · wp_walk using wpAny_loadPart' hl, wpAny_pyIter_tuple hL
        exact ⟨_, rfl, h⟩
      · wp_walk using wpAny_loadPart' hl, wpAny_pyIter_tuple hL
        exact ⟨_, rfl, h⟩
    · wp_walk using wpAny_loadPart' hl, wpAny_pyIter_tuple hL
      exact ⟨_, rfl, h⟩
theorem call_enumerate_tuple {prog : Program} {w : World} {A : Around} {E : Value → Shared → Prop} {s : Shared} {l : Addr} {items : Array Value} {Q : Value → Shared → Prop} (hL : s.heap.IsTuple l items)
    (h : ∀ h', IsEnum h' (s.heap.objs.size + 1) s.heap.objs.size 0 .none → h'.IsTupleIter s.heap.objs.size l 0 → h'.objs.size = s.heap.objs.size + 2 →
      (∀ b o, s.heap.get? b = some o → h'.get? b = some o) → Q (.ref (s.heap.objs.size + 1)) { s with heap := h' }) :
    wpAny (model prog w) A (call (.type "enumerate") [.ref l]) Q E s := by
  obtain ⟨⟨c, dct, dt, sl⟩, hl, hc, n, hd⟩ := hL
  replace hc : c = .type "tuple" := hc
  replace hd : dt = .seq items n := hd
  subst hc hd
  refine callType_new F.called_enumerate (by decide) (F.typeCall_enumerate_1 _) (F.newCall_enumerate_1 _) (fun obj => F.args_object_init_2 obj _) F.entry_enumerate_new
    (meets_enumerate_newT l items n dct sl) ⟨hl, ?_⟩
  have hz : (s.heap.push { cls := .type "tuple_iterator", data := .fields #[.ref l, .int 0 0] }).objs.size = s.heap.objs.size + 1 := Heap.size_push ..
  show _ ∧ _
  rw [hz]
  have he : IsEnum ((s.heap.push { cls := .type "tuple_iterator", data := .fields #[.ref l, .int 0 0] }).push
      { cls := .type "enumerate", data := .fields #[.none, .bool false, .ref s.heap.objs.size, rawInt 0, .none, .none] }) (s.heap.objs.size + 1) s.heap.objs.size 0 .none := by
    have := Heap.get?_push_size (s.heap.push { cls := .type "tuple_iterator", data := .fields #[.ref l, .int 0 0] })
      (o := { cls := .type "enumerate", data := .fields #[.none, .bool false, .ref s.heap.objs.size, rawInt 0, .none, .none] }) rfl
    rw [hz] at this; exact this
  refine ⟨⟨_, he, rfl⟩, h _ he ⟨_, Heap.get?_push_of_some _ (Heap.get?_push_size _ rfl), rfl, rfl⟩ (by rw [Heap.size_push, hz]) fun b o x => Heap.get?_push_of_some _ (Heap.get?_push_of_some _ x)⟩
def IteT (K : PySem.W.Frag) (a : Addr) : L2.It :=
  ⟨fun i H => ∃ (xs : List V) (x : V), SqT K H a xs ∧ xs[i]? = some x, fun i H v H' => ∃ T x, v = .ref T ∧ H T = none ∧ H' = upd H T (.tup [.int (i : Nat), x]) ∧ ∀ xs, SqT K H a xs → xs[i]? = some x, fun i H => ∃ xs : List V, SqT K H a xs ∧ xs.length ≤ i⟩
theorem tup_apart {h : Heap} {a e it : Addr} {its : Array Value} {i : Int} {j : Nat} {old : Value} (p : h.IsTuple a its) (he : IsEnum h e it i old) (hit : h.IsTupleIter it a j) : a ≠ it ∧ e ≠ a := by
  obtain ⟨o, ho, hc, _⟩ := p
  obtain ⟨o2, ho2, hc2, _⟩ := hit
  constructor
  · intro q; rw [q, ho2] at ho; cases ho; rw [hc2] at hc; injection hc with z; exact absurd z (by decide)
  · intro q; rw [q] at he; rw [he] at ho; cases ho; injection hc with z; exact absurd z (by decide)
theorem turn_enumT {P : Program} {w : World} {K : PySem.W.Frag} {elts : List Expr} {kk : Nat} {tpos : Pos} (a e it : Addr) :
    Turn P w K (.Tuple elts kk tpos) (IteT K a) [e, it] e (fun i h => (∃ old, IsEnum h e it ((i : Nat) : Int) old) ∧ h.IsTupleIter it a i ∧ e ≠ it) where
  mem := by simp
  obj := fun i h st b hb => by
    obtain ⟨⟨old, he⟩, ⟨o, ho, hc, hd⟩, _⟩ := st
    have e' : b = e ∨ b = it := by simpa using hb
    rcases e' with z | z
    · rw [z]; exact ⟨_, he, fun v q => nomatch q⟩
    · rw [z]; exact ⟨o, ho, fun v q => by rw [hd] at q; cases q⟩
  keep := fun i h h' st k => let ⟨⟨old, he⟩, hi, hne⟩ := st; ⟨⟨old, k e (by simp) _ he⟩, hi.at fun o q => k it (by simp) o q, hne⟩
  item := by
    intro X hP hw hK hc i pins s σ H E I hf st hg
    subst hP hw hK
    obtain ⟨⟨old, he⟩, hit, hne⟩ := st
    obtain ⟨xs, x, hq, hx⟩ := hg
    obtain ⟨its, rv, p, hz⟩ := I.tuple hq
    obtain ⟨u, hu, ru⟩ := rv.get hx
    have hel : e < s.heap.objs.size := Heap.lt_size he
    have hil : it < s.heap.objs.size := by obtain ⟨_, q, _⟩ := hit; exact Heap.lt_size q
    obtain ⟨ha1, ha2⟩ := tup_apart (show s.heap.IsTuple a its.toArray from p) he hit
    have hlt : i < its.toArray.size := by
      obtain ⟨z, _⟩ := List.getElem?_eq_some_iff.mp hu
      simpa using z
    refine wpAny_pyNext_enum_itemD (Draws.tuple (A := X.A.in1) (I.ok.hd hc) it a ha1 its.toArray) he ⟨hit, p⟩ hlt hne (by simp [hne, ha2]) fun x' h' tk hx' ho hst' hT hsz hk => ?_
    have ex : x' = u := by
      have : its.toArray[i]? = some u := by simpa using hu
      rw [this] at hx'
      exact (Option.some.inj hx').symm
    subst ex
    refine ⟨_, rfl, wpAny_letOwnedTupleGo_enum (s := { s with heap := h', toks := tk + 1 }) ho fun h'' he' sb => ?_⟩
    have hT2 : h''.get? s.heap.objs.size = some { cls := .type "tuple", data := .seq #[.int i tk, x'] } := (sb.2 _ (Nat.ne_of_gt hel)).trans hT
    have new : ObjOk X.prog X.w (upd H s.heap.objs.size (.tup [.int (i : Nat), x])) h'' s.heap.objs.size (.tup [.int (i : Nat), x]) :=
      ⟨by show 2 ≤ sizeLine; decide, [.int i tk, x'], .cons ⟨_, rfl⟩ (.cons ru .nil), ⟨_, hT2, rfl, _, rfl⟩⟩
    have I1 : Inv X pins σ (upd H s.heap.objs.size (.tup [.int (i : Nat), x])) { s with heap := h'', toks := tk + 1 } :=
      I.turnedNew (ch := [e, it]) (fun b ob hb q => (sb.2 b (fun z => hb (by simp [z]))).trans (hk b ob (fun z => hb (by simp [z])) (fun z => hb (by simp [z])) q)) hf (Nat.le_refl _) new
    refine ⟨.ref s.heap.objs.size, _, I1, rfl, ⟨_, x, rfl, I.hok.fresh (Nat.le_refl _), rfl, fun ys hy => by rw [I.tuple_inj hy hq]; exact hx⟩, ⟨⟨x', ?_⟩, hst'.1.at fun o q => (sb.2 it (Ne.symm hne)).trans q, hne⟩, fun b hb => ?_⟩
    · have e1 : ((i + 1 : Nat) : Int) = (i : Int) + 1 := by omega
      rw [e1]; exact he'
    · have hb' : b < s.heap.objs.size := by
        have e' : b = e ∨ b = it := by simpa using hb
        rcases e' with z | z
        · rw [z]; exact hel
        · rw [z]; exact hil
      rw [upd_ne (Nat.ne_of_lt hb')]
      exact (hf b hb).1
  done := by
    intro X hP hw hK hc i pins s σ H E I hf st hg
    subst hP hw hK
    obtain ⟨⟨old, he⟩, hit, hne⟩ := st
    obtain ⟨xs, hq, hx⟩ := hg
    obtain ⟨its, rv, p, hz⟩ := I.tuple hq
    obtain ⟨f0, f1, f2, f3, f4, f5⟩ := hf it (by simp)
    have hl := rv.length
    obtain ⟨ha1, ha2⟩ := tup_apart (show s.heap.IsTuple a its.toArray from p) he hit
    by_cases hi : i = its.toArray.size
    · subst hi
      exact wpAny_pyNext_enum_endD (Draws.tuple (A := X.A.in1) (I.ok.hd hc) it a ha1 its.toArray) he ⟨hit, p⟩ fun h' eb => ⟨rfl, I.turned (t' := s.toks) (fun b o hb q => eb b o hb q) f0 f1 f3 f4 f5⟩
    · have D : Draws X.prog X.w X.A.in1 it [it, a] i (fun _ _ => False) (fun j h => j = i ∧ h.IsTupleIter it a i ∧ h.IsTuple a its.toArray) := {
        live := fun _ _ st => let ⟨_, ⟨o, ho, _⟩, _⟩ := st; ⟨o, ho⟩
        frame := fun _ _ _ st hk => ⟨st.1, st.2.1.at fun o q => hk it (by simp) o q, st.2.2.at fun o q => hk a (by simp) o q⟩
        item := fun j s Q E hj st _ => absurd st.1 (Nat.ne_of_lt hj)
        done := fun s Q E st hE => wpAny_nextOf_tuple_end (I.ok.hd hc) st.2.1 st.2.2 (by simp; omega) hE }
      exact wpAny_pyNext_enum_endD D he ⟨rfl, hit, p⟩ fun h' eb => ⟨rfl, I.turned (t' := s.toks) (fun b o hb q => eb b o hb q) f0 f1 f3 f4 f5⟩
  self := fun A i s Q E st h => let ⟨⟨_, he⟩, _⟩ := st; wpAny_pyIter_enum he h
def iEnumA (K : PySem.W.Frag) (ta : TA) : TI := fun σ H R => ta σ H fun vs H1 => (∃ a xs, vs = [.ref a] ∧ SqL K H1 a xs ∧ R (Ite K a) H1) ∨ (∃ a xs, vs = [.ref a] ∧ SqT K H1 a xs ∧ R (IteT K a) H1)
theorem pi_enumA {X : Cx} {e : Expr} {ta : TA} {p pos tpos : Pos} {elts : List Expr} {kk : Nat} (hg : Gl X "enumerate") (hm : X.mg "enumerate" = none) (ha : PA X [e] ta) (hs : starEach [e] X.env = [(false, eval e X.env)]) :
    PI X (.Tuple elts kk tpos) (.Call (.Name "enumerate" p) [e] [] pos) (iEnumA X.K ta) := by
  refine ⟨fun pins s σ H R I h => ?_⟩
  refine Call_ (ld_blt I hg hm boot_enumerate (PyProof.Rows.callWith_type1 (thn (ha.run pos pins s σ H _ I h) fun us s1 ⟨vs, H1, I1, r1, q1⟩ => ?_) hs rfl))
  rcases q1 with ⟨a, xs, ex, hq, q⟩ | ⟨a, xs, ex, hq, q⟩
  · subst ex
    cases r1 with
    | cons r rr =>
      cases rr
      cases r
      obtain ⟨its, rv, p', hz⟩ := I1.list hq
      refine call_enumerate_list p'.isList fun h' he hit hsz hk => wpAny_pyIter_enum he ?_
      have I2 : Inv X pins σ H1 { s1 with heap := h' } := I1.kept (t' := s1.toks) hk
      refine ⟨s1.heap.objs.size + 1, [s1.heap.objs.size + 1, s1.heap.objs.size], _, _, H1, rfl, I2, turn_enum a (s1.heap.objs.size + 1) s1.heap.objs.size, ⟨⟨.none, he⟩, hit, Nat.succ_ne_self _⟩, fun b hb => ?_, q⟩
      have e' : b = s1.heap.objs.size + 1 ∨ b = s1.heap.objs.size := by simpa using hb
      have hle : s1.heap.objs.size ≤ b := by
        rcases e' with z | z
        · rw [z]; exact Nat.le_add_right _ _
        · rw [z]; exact Nat.le_refl _
      exact I1.fpOk hle (I1.hok.fresh hle)
  · subst ex
    cases r1 with
    | cons r rr =>
      cases rr
      cases r
      obtain ⟨its, rv, p', hz⟩ := I1.tuple hq
      refine call_enumerate_tuple (show s1.heap.IsTuple a its.toArray from p') fun h' he hit hsz hk => wpAny_pyIter_enum he ?_
      have I2 : Inv X pins σ H1 { s1 with heap := h' } := I1.kept (t' := s1.toks) hk
      refine ⟨s1.heap.objs.size + 1, [s1.heap.objs.size + 1, s1.heap.objs.size], _, _, H1, rfl, I2, turn_enumT a (s1.heap.objs.size + 1) s1.heap.objs.size, ⟨⟨.none, he⟩, hit, Nat.succ_ne_self _⟩, fun b hb => ?_, q⟩
      have e' : b = s1.heap.objs.size + 1 ∨ b = s1.heap.objs.size := by simpa using hb
      have hle : s1.heap.objs.size ≤ b := by
        rcases e' with z | z
        · rw [z]; exact Nat.le_add_right _ _
        · rw [z]; exact Nat.le_refl _
      exact I1.fpOk hle (I1.hok.fresh hle)

/-! ### walks by data -/
section
variable {P : Pm} {os os' : List Addr} {Z Z' H H' : Hp} {w : Wd} {X : Cx}
def WalkD (P : Pm) (J : L2.It) (xs : List D) (os : List Addr) (Z : Hp) : Prop := ∃ G Y, Walk J xs.length G Y ∧ (∀ os' w' Z' H', Le Z Z' → Ext os os' → Ok P os' w' Z' H' → G H') ∧
  ∀ i x H H' os' w' Z', Le Z Z' → Ext os os' → Ok P os' w' Z' H → Y i H x H' → ∀ d, xs[i]? = some d → ∃ Z'', Step (Ex H) os' Z' H os' Z'' H' ∧ Ok P os' w' Z'' H' ∧ Rep P os' Z'' d x
theorem walkD_list {a : Addr} {ds : List D} {vs : List V} (h : Z a = some (.lst vs)) (r : Reps P os Z ds vs) : WalkD P (Itl P.K a) ds os Z := by
  refine ⟨fun H => SqL P.K H a vs, YAt vs, ?_, fun os' w' Z' H' hz ho k => .of (k.zh _ _ (hz _ _ h)), fun i x H H' os' w' Z' hz ho k y d e => ?_⟩
  · rw [r.length]; exact walk_list
  · obtain ⟨rfl, hx⟩ := y
    obtain ⟨v, h1, h2⟩ := (r.mono hz ho).get e
    have hx : vs[i]? = some x := hx
    rw [hx] at h1
    cases h1
    exact ⟨Z', Step.refl, k, h2⟩
theorem walkD_tup {a : Addr} {ds : List D} {vs : List V} (h : Z a = some (.tup vs)) (r : Reps P os Z ds vs) : WalkD P (Itt P.K a) ds os Z := by
  refine ⟨fun H => SqT P.K H a vs, YAt vs, ?_, fun os' w' Z' H' hz ho k => .of (k.zh _ _ (hz _ _ h)), fun i x H H' os' w' Z' hz ho k y d e => ?_⟩
  · rw [r.length]; exact walk_tup
  · obtain ⟨rfl, hx⟩ := y
    obtain ⟨v, h1, h2⟩ := (r.mono hz ho).get e
    have hx : vs[i]? = some x := hx
    rw [hx] at h1
    cases h1
    exact ⟨Z', Step.refl, k, h2⟩
theorem rngL_length (lo hi : Int) : (rngL lo hi).length = (hi - lo).toNat := by unfold rngL; simp
theorem walkD_range {lo hi : Int} : WalkD P (Itr lo (hi - lo).toNat) (rngL lo hi) os Z := by
  refine ⟨fun _ => True, YFn fun i => .int (lo + i), ?_, fun _ _ _ _ _ _ _ => trivial, fun i x H H' os' w' Z' hz ho k y d e => ?_⟩
  · rw [rngL_length]; exact walk_range
  · obtain ⟨rfl, hx⟩ := y
    subst hx
    unfold rngL at e
    rw [List.getElem?_map] at e
    obtain ⟨j, h1, rfl⟩ := Option.map_eq_some_iff.mp e
    have : j = i := by
      obtain ⟨h2, h3⟩ := List.getElem?_eq_some_iff.mp h1
      simp at h3
      exact h3.symm
    subst this
    exact ⟨Z', Step.refl, k, by unfold Rep; rfl⟩
theorem enumL_get : ∀ (n : Nat) (xs : List D) (i : Nat), (enumL n xs)[i]? = (xs[i]?).map fun x => .tup [.int ((n + i : Nat) : Int), x]
  | n, [], i => by unfold enumL; simp
  | n, x :: xs, 0 => by unfold enumL; simp
  | n, x :: xs, i + 1 => by
    unfold enumL
    rw [List.getElem?_cons_succ, List.getElem?_cons_succ, enumL_get (n + 1) xs i]
    have : n + 1 + i = n + (i + 1) := by omega
    rw [this]
theorem enumL_length : ∀ (n : Nat) (xs : List D), (enumL n xs).length = xs.length
  | n, [] => rfl
  | n, x :: xs => by unfold enumL; rw [List.length_cons, List.length_cons, enumL_length (n + 1) xs]
/-- a new pair of two values -/
theorem pair_ok {T : Addr} {x y : V} {dx dy : D} {w : Wd} (k : Ok P os w Z H) (hT : H T = none) (rx : Rep P os Z dx x) (ry : Rep P os Z dy y) :
    ∃ Z'', Step (Ex H) os Z H os Z'' (upd H T (.tup [x, y])) ∧ Ok P os w Z'' (upd H T (.tup [x, y])) ∧ Rep P os Z'' (.tup [dx, dy]) (.ref T) := by
  obtain ⟨k2, s⟩ := k.alloc hT (.tup [x, y])
  refine ⟨_, s, k2, ?_⟩
  unfold Rep
  exact ⟨T, _, rfl, upd_same, reps_cons (rx.mono s.zle Ext.refl) (reps_cons (ry.mono s.zle Ext.refl) reps_nil)⟩
theorem walk_enumT {K : PySem.W.Frag} {a : Addr} {xs : List V} : Walk (IteT K a) xs.length (fun H => SqT K H a xs) (YPair (fun i => some (.int (i : Nat))) (fun i => xs[i]?)) where
  goes := fun i H hi h => ⟨xs, xs[i], h, by simp [hi]⟩
  stops := fun H h => ⟨xs, h, Nat.le_refl _⟩
  yields := fun i H x H' hi h ⟨T, y, e1, e2, e3, e4⟩ => ⟨T, .int (i : Nat), y, e1, e2, e3, rfl, e4 xs h⟩
theorem walkD_enumL {a : Addr} {ds : List D} {vs : List V} (h : Z a = some (.lst vs)) (r : Reps P os Z ds vs) : WalkD P (Ite P.K a) (enumL 0 ds) os Z := by
  refine ⟨fun H => SqL P.K H a vs, YPair (fun i => some (.int (i : Nat))) (fun i => vs[i]?), ?_, fun os' w' Z' H' hz ho k => .of (k.zh _ _ (hz _ _ h)), fun i x H H' os' w' Z' hz ho k y d e => ?_⟩
  · rw [enumL_length, r.length]; exact walk_enum
  · obtain ⟨T, u, v, rfl, hT, rfl, h1, h2⟩ := y
    replace h1 : some (V.int (i : Nat)) = some u := h1
    replace h2 : vs[i]? = some v := h2
    rw [enumL_get] at e
    obtain ⟨z, h3, rfl⟩ := Option.map_eq_some_iff.mp e
    obtain ⟨v', h4, h5⟩ := (r.mono hz ho).get h3
    rw [h2] at h4
    cases h4
    cases h1
    have e0 : (0 + i : Nat) = i := by omega
    rw [e0]
    exact pair_ok k hT (by unfold Rep; rfl) h5
theorem walkD_enumT {a : Addr} {ds : List D} {vs : List V} (h : Z a = some (.tup vs)) (r : Reps P os Z ds vs) : WalkD P (IteT P.K a) (enumL 0 ds) os Z := by
  refine ⟨fun H => SqT P.K H a vs, YPair (fun i => some (.int (i : Nat))) (fun i => vs[i]?), ?_, fun os' w' Z' H' hz ho k => .of (k.zh _ _ (hz _ _ h)), fun i x H H' os' w' Z' hz ho k y d e => ?_⟩
  · rw [enumL_length, r.length]; exact walk_enumT
  · obtain ⟨T, u, v, rfl, hT, rfl, h1, h2⟩ := y
    replace h1 : some (V.int (i : Nat)) = some u := h1
    replace h2 : vs[i]? = some v := h2
    rw [enumL_get] at e
    obtain ⟨z, h3, rfl⟩ := Option.map_eq_some_iff.mp e
    obtain ⟨v', h4, h5⟩ := (r.mono hz ho).get h3
    rw [h2] at h4
    cases h4
    cases h1
    have e0 : (0 + i : Nat) = i := by omega
    rw [e0]
    exact pair_ok k hT (by unfold Rep; rfl) h5
theorem zipL_get : ∀ (xs ys : List D) (i : Nat) (d : D), (zipL xs ys)[i]? = some d → ∃ x y, xs[i]? = some x ∧ ys[i]? = some y ∧ d = .tup [x, y]
  | [], ys, i, d, h => by unfold zipL at h; simp at h
  | x :: xs, [], i, d, h => by unfold zipL at h; simp at h
  | x :: xs, y :: ys, 0, d, h => by
    unfold zipL at h
    simp at h
    exact ⟨x, y, rfl, rfl, h.symm⟩
  | x :: xs, y :: ys, i + 1, d, h => by
    unfold zipL at h
    rw [List.getElem?_cons_succ] at h
    obtain ⟨a, b, h1, h2, h3⟩ := zipL_get xs ys i d h
    exact ⟨a, b, by simpa using h1, by simpa using h2, h3⟩
theorem zipL_length : ∀ (xs ys : List D), (zipL xs ys).length = min xs.length ys.length
  | [], ys => by unfold zipL; simp
  | x :: xs, [] => by unfold zipL; simp
  | x :: xs, y :: ys => by unfold zipL; rw [List.length_cons, List.length_cons, List.length_cons, zipL_length xs ys]; omega
theorem walkD_zip {a b : Addr} {ds es : List D} {vs us : List V} (h : Z a = some (.lst vs)) (h' : Z b = some (.lst us)) (r : Reps P os Z ds vs) (r' : Reps P os Z es us) : WalkD P (Itz P.K a b) (zipL ds es) os Z := by
  refine ⟨fun H => SqL P.K H a vs ∧ SqL P.K H b us, YPair (fun i => vs[i]?) (fun i => us[i]?), walk_zip (by rw [zipL_length, r.length, r'.length]), fun os' w' Z' H' hz ho k => ⟨.of (k.zh _ _ (hz _ _ h)), .of (k.zh _ _ (hz _ _ h'))⟩, fun i x H H' os' w' Z' hz ho k y d e => ?_⟩
  obtain ⟨T, u, v, rfl, hT, rfl, h1, h2⟩ := y
  replace h1 : vs[i]? = some u := h1
  replace h2 : us[i]? = some v := h2
  obtain ⟨p, q, e1, e2, rfl⟩ := zipL_get _ _ _ _ e
  obtain ⟨u', h3, h4⟩ := (r.mono hz ho).get e1
  obtain ⟨v', h5, h6⟩ := (r'.mono hz ho).get e2
  rw [h1] at h3
  rw [h2] at h5
  cases h3
  cases h5
  exact pair_ok k hT h4 h6
/-! dicts -/
theorem walkD_at {J : L2.It} {vs : List V} {G : Hp → Prop} {ds : List D} (hw : Walk J vs.length G (YAt vs)) (hG : ∀ os' w' Z' H', Le Z Z' → Ext os os' → Ok P os' w' Z' H' → G H') (r : Reps P os Z ds vs) : WalkD P J ds os Z := by
  refine ⟨G, YAt vs, by rw [r.length]; exact hw, hG, fun i x H H' os' w' Z' hz ho k y d e => ?_⟩
  obtain ⟨rfl, hx⟩ := y
  obtain ⟨v, h1, h2⟩ := (r.mono hz ho).get e
  have hx : vs[i]? = some x := hx
  rw [hx] at h1
  cases h1
  exact ⟨Z', Step.refl, k, h2⟩
theorem keys_reps {w : World} : ∀ {kvs : List (D × D)} {qs : List Row} {l : List DictEntry}, Paired (RepK P os Z) kvs qs → Paired (EntV w) qs l → (∀ q ∈ qs, KeyOk Z q.1 q.2.1) → Reps P os Z (kvs.map (·.1)) (qs.map fun q => V.ref q.2.1) ∧ Paired (fun v (e : DictEntry) => RelV v e.key) (qs.map fun q => V.ref q.2.1) l
  | _, _, _, .nil, .nil, _ => ⟨reps_nil, .nil⟩
  | (kk, dd) :: kvs, q :: qs, e :: l, .cons h t, .cons g u, hk => by
    obtain ⟨h1, h2⟩ := keys_reps t u fun q hq => hk q (.tail _ hq)
    unfold RepK at h
    obtain ⟨a1, a2, a3⟩ := h
    obtain ⟨b1, b2, b3⟩ := g
    have hq := hk q (.head _)
    refine ⟨reps_cons (nk_rep kk 6 _ (key_kok a1).1 (by rw [← a2]; exact hq.1)) h1, .cons ?_ h2⟩
    rw [b1]; rfl
theorem vals_reps {w : World} : ∀ {kvs : List (D × D)} {qs : List Row} {l : List DictEntry}, Paired (RepK P os Z) kvs qs → Paired (EntV w) qs l → Reps P os Z (kvs.map (·.2)) (qs.map fun q => q.2.2) ∧ Paired (fun v (e : DictEntry) => RelV v e.val) (qs.map fun q => q.2.2) l
  | _, _, _, .nil, .nil => ⟨reps_nil, .nil⟩
  | (kk, dd) :: kvs, q :: qs, e :: l, .cons h t, .cons g u => by
    obtain ⟨h1, h2⟩ := vals_reps t u
    unfold RepK at h
    exact ⟨reps_cons h.2.2 h1, .cons g.2.2 h2⟩
end
end VI

set_option Elab.async false
set_option linter.all false
set_option maxRecDepth 100000
/-! VI, part 7: readings by data; the forms of the text's trees. -/
namespace VI
open PySem L2
abbrev Stt := L2.St
/-! ### readings -/
def tX {α β : Type} (P : Pm) (W : WX) (m : Env → M α) (R : α → List Addr → Hp → Hp → Hp → β → Prop) : Stt → Hp → (β → Hp → Prop) → Prop := fun σ H Q =>
  ∃ os Z w env ad B, Ok P os w Z H ∧ Slots P B env σ ad os Z H ∧ Out P W σ os Z H (m env w) fun a _ os' Z' H' => ∀ v, R a os' Z' H H' v → Q v H'
section
variable {P : Pm} {W : WX} {os os' : List Addr} {Z Z' H H' H0 : Hp} {w w' : Wd} {env : Env} {ad : Nat → List Addr} {B : Addr → Prop} {σ : Stt} {α β : Type}
theorem tX_intro {m : Env → M α} {R : α → List Addr → Hp → Hp → Hp → β → Prop} {Q : β → Hp → Prop} {Kt : α → Wd → List Addr → Hp → Hp → Prop} (k : Ok P os w Z H) (sl : Slots P B env σ ad os Z H) (h : Out P W σ os Z H (m env w) Kt)
    (hq : ∀ a w' os' Z' H' v, Step (Ex H) os Z H os' Z' H' → Ok P os' w' Z' H' → Slots P B env σ ad os' Z' H' → R a os' Z' H H' v → Kt a w' os' Z' H' → Q v H') : tX P W m R σ H Q :=
  ⟨os, Z, w, env, ad, B, k, sl, h.mono fun a w' os' Z' H' st k' kt v r => hq a w' os' Z' H' v st k' (sl.step st) r kt⟩
/-- the outcome's relations -/
def RV (P : Pm) (n : Nat) : D → List Addr → Hp → Hp → Hp → V → Prop := fun d os' Z' _ H' v => LR P os' Z' H' n d v
def RN (P : Pm) : D → List Addr → Hp → Hp → Hp → V → Prop := fun d os' Z' H0 H' v => New P os' Z' H0 H' d v
def RB : D → List Addr → Hp → Hp → Hp → Bool → Prop := fun d _ _ _ _ b => d = .bl b
def RA (P : Pm) : List D → List Addr → Hp → Hp → Hp → List V → Prop := fun ds os' Z' _ _ vs => Reps P os' Z' ds vs
def RO : Option Int → List Addr → Hp → Hp → Hp → Option Int → Prop := fun o _ _ _ _ x => o = x
def RI (P : Pm) : List D → List Addr → Hp → Hp → Hp → L2.It → Prop := fun ds os' Z' _ _ J => WalkD P J ds os' Z'
theorem Out.wn {d : D} {Q : VK} (s : Step (Ex H0) os Z H0 os' Z' H') (h : Out P W σ os' Z' H' (VI.ret d w) fun a _ os2 Z2 H2 => ∀ v, New P os2 Z2 H0 H2 a v → Q v H2) : Wn P os' Z' H' w d Q := fun v os2 Z2 H2 st k n => by
  refine h os2 Z2 H2 st k v ?_
  cases d with
  | lst ds =>
    obtain ⟨a, vs, e, h0, r⟩ := n
    refine ⟨a, vs, e, ?_, r⟩
    cases q : H0 a with
    | none => rfl
    | some o => exact absurd h0 (s.there a (by rw [q]; intro z; cases z))
  | dct kvs =>
    obtain ⟨a, e, h0, r⟩ := n
    refine ⟨a, e, ?_, r⟩
    cases q : H0 a with
    | none => rfl
    | some o => exact absurd h0 (s.there a (by rw [q]; intro z; cases z))
  | _ => exact n
theorem tX_mono {m : Env → M α} {R : α → List Addr → Hp → Hp → Hp → β → Prop} {Q Q' : β → Hp → Prop} (h : tX P W m R σ H Q) (g : ∀ v H', Q v H' → Q' v H') : tX P W m R σ H Q' := by
  obtain ⟨os, Z, w, env, ad, B, k, sl, h⟩ := h
  exact ⟨os, Z, w, env, ad, B, k, sl, h.mono fun a w' os' Z' H' st k' q v r => g v H' (q v r)⟩
/-- from nobody's to a value for good -/
theorem tX_frz {m : Env → M D} {Q : VK} {n : Nat} (h : tX P W m (RV P n) σ H Q) : tX P W m (RN P) σ H Q := by
  obtain ⟨os, Z, w, env, ad, B, k, sl, h⟩ := h
  refine ⟨os, Z, w, env, ad, B, k, sl, ?_⟩
  revert h
  cases m env w with
  | no => exact fun h => h
  | exn c f w1 => exact fun h => h
  | ok d w1 =>
    intro h os' Z' H' st k' v r
    cases d with
    | lst ds =>
      obtain ⟨a, vs, rfl, h0, na, hz, hh, rr⟩ := r
      obtain ⟨k2, lz⟩ := k'.freeze hh na hz
      refine h os' (upd Z' a (.lst vs)) H' (st.freeze (fun z => z h0) hz) k2 (.ref a) (.of ?_)
      unfold Rep
      exact ⟨a, vs, rfl, upd_same, rr.mono lz Ext.refl⟩
    | dct kvs =>
      obtain ⟨a, rfl, h0, na, hz, es, ep, qs, hh, rw0, t⟩ := r
      obtain ⟨k2, lz⟩ := k'.freeze hh na hz nt_raw
      refine h os' (upd Z' a (dRaw a es ep)) H' (st.freeze (fun z => z h0) hz) k2 (.ref a) (.of ?_)
      exact DctR.rep ⟨es, ep, qs, upd_same, rw0.mono lz, paired_imp (fun _ _ => RepK.mono lz Ext.refl) t⟩
    | _ => exact h os' Z' H' st k' v (.of r)
end
theorem _root_.L2.PE.imp {X : Cx} {e : Expr} {t t' : TE} (h : PE X e t) (g : ∀ σ H Q, t' σ H Q → t σ H Q) : PE X e t' := ⟨fun pins s σ H Q I q => h.run pins s σ H Q I (g σ H Q q)⟩
theorem _root_.L2.PT.imp {X : Cx} {e : Expr} {t t' : TT} (h : PT X e t) (g : ∀ σ H Q, t' σ H Q → t σ H Q) : PT X e t' := ⟨fun pins s σ H Q I q => h.run pins s σ H Q I (g σ H Q q)⟩
theorem _root_.L2.PW.imp {X : Cx} {e : Expr} {t t' : TT} (h : PW X e t) (g : ∀ σ H Q, t' σ H Q → t σ H Q) : PW X e t' := ⟨fun wh pins s σ H Q I q => h.run wh pins s σ H Q I (g σ H Q q)⟩
theorem _root_.L2.PA.imp {X : Cx} {e : List Expr} {t t' : TA} (h : PA X e t) (g : ∀ σ H Q, t' σ H Q → t σ H Q) : PA X e t' := ⟨fun pos pins s σ H Q I q => h.run pos pins s σ H Q I (g σ H Q q)⟩
theorem _root_.L2.PI.imp {X : Cx} {tg e : Expr} {t t' : TI} (h : PI X tg e t) (g : ∀ σ H Q, t' σ H Q → t σ H Q) : PI X tg e t' := ⟨fun pins s σ H Q I q => h.run pins s σ H Q I (g σ H Q q)⟩
theorem _root_.L2.PO.imp {X : Cx} {e : Option Expr} {t t' : TO} (h : PO X e t) (g : ∀ σ H Q, t' σ H Q → t σ H Q) : PO X e t' := ⟨fun pins s σ H Q I q => h.run pins s σ H Q I (g σ H Q q)⟩
theorem _root_.L2.PTs.imp {X : Cx} {e : List Expr} {t t' : TT} (h : PTs X e t) (g : ∀ σ H Q, t' σ H Q → t σ H Q) : PTs X e t' := ⟨fun pins s σ H Q I q => h.run pins s σ H Q I (g σ H Q q)⟩
theorem _root_.L2.PG.imp {X : Cx} {e : Expr} {t t' : TG} (h : PG X e t) (g : ∀ v σ H Q, t' v σ H Q → t v σ H Q) : PG X e t' := ⟨fun pins s σ H v u Q r I q => h.run pins s σ H v u Q r I (g v σ H Q q)⟩

/-! ### the forms of trees -/
def asName : Expr → Option (Str × Pos)
  | .Name x p => some (x, p)
  | _ => none
theorem asName_eq {t : Expr} {r} (h : asName t = some r) : t = .Name r.1 r.2 := by unfold asName at h; split at h <;> cases h; rfl
def asConst : Expr → Option (Const × Nat × Pos)
  | .Constant c k p => some (c, k, p)
  | _ => none
theorem asConst_eq {t : Expr} {r} (h : asConst t = some r) : t = .Constant r.1 r.2.1 r.2.2 := by unfold asConst at h; split at h <;> cases h; rfl
def asTup : Expr → Option (List Expr × Nat × Pos)
  | .Tuple c k p => some (c, k, p)
  | _ => none
theorem asTup_eq {t : Expr} {r} (h : asTup t = some r) : t = .Tuple r.1 r.2.1 r.2.2 := by unfold asTup at h; split at h <;> cases h; rfl
def asLst : Expr → Option (List Expr × Pos)
  | .List c p => some (c, p)
  | _ => none
theorem asLst_eq {t : Expr} {r} (h : asLst t = some r) : t = .List r.1 r.2 := by unfold asLst at h; split at h <;> cases h; rfl
def asBin : Expr → Option (Expr × Operator × Expr × Pos)
  | .BinOp a o b p => some (a, o, b, p)
  | _ => none
theorem asBin_eq {t : Expr} {r} (h : asBin t = some r) : t = .BinOp r.1 r.2.1 r.2.2.1 r.2.2.2 := by unfold asBin at h; split at h <;> cases h; rfl
def asUn : Expr → Option (UnaryOp × Expr × Pos)
  | .UnaryOp o a p => some (o, a, p)
  | _ => none
theorem asUn_eq {t : Expr} {r} (h : asUn t = some r) : t = .UnaryOp r.1 r.2.1 r.2.2 := by unfold asUn at h; split at h <;> cases h; rfl
def asBool : Expr → Option (BoolOp × Expr × Expr × List Expr × Pos)
  | .BoolOp o (a :: b :: r) p => some (o, a, b, r, p)
  | _ => none
theorem asBool_eq {t : Expr} {r} (h : asBool t = some r) : t = .BoolOp r.1 (r.2.1 :: r.2.2.1 :: r.2.2.2.1) r.2.2.2.2 := by unfold asBool at h; split at h <;> cases h; rfl
def asIf : Expr → Option (Expr × Expr × Expr × Pos)
  | .IfExp a b c p => some (a, b, c, p)
  | _ => none
theorem asIf_eq {t : Expr} {r} (h : asIf t = some r) : t = .IfExp r.1 r.2.1 r.2.2.1 r.2.2.2 := by unfold asIf at h; split at h <;> cases h; rfl
def asCmp1 : Expr → Option (Expr × CmpOp × Expr × Pos)
  | .Compare a [o] [b] p => some (a, o, b, p)
  | _ => none
theorem asCmp1_eq {t : Expr} {r} (h : asCmp1 t = some r) : t = .Compare r.1 [r.2.1] [r.2.2.1] r.2.2.2 := by unfold asCmp1 at h; split at h <;> cases h; rfl
def asCmp2 : Expr → Option (Expr × CmpOp × CmpOp × Expr × Expr × Pos)
  | .Compare a [o, o'] [b, c] p => some (a, o, o', b, c, p)
  | _ => none
theorem asCmp2_eq {t : Expr} {r} (h : asCmp2 t = some r) : t = .Compare r.1 [r.2.1, r.2.2.1] [r.2.2.2.1, r.2.2.2.2.1] r.2.2.2.2.2 := by unfold asCmp2 at h; split at h <;> cases h; rfl
/-- f(e, ..) -/
def asCall : Expr → Option (Str × Pos × Expr × List Expr × Pos)
  | .Call (.Name x p) (e :: es) [] q => some (x, p, e, es, q)
  | _ => none
theorem asCall_eq {t : Expr} {r} (h : asCall t = some r) : t = .Call (.Name r.1 r.2.1) (r.2.2.1 :: r.2.2.2.1) [] r.2.2.2.2 := by unfold asCall at h; split at h <;> cases h; rfl
/-- o.m(e, ..) -/
def asMeth : Expr → Option (Expr × Str × Pos × Expr × List Expr × Pos)
  | .Call (.Attribute o m p) (e :: es) [] q => some (o, m, p, e, es, q)
  | _ => none
theorem asMeth_eq {t : Expr} {r} (h : asMeth t = some r) : t = .Call (.Attribute r.1 r.2.1 r.2.2.1) (r.2.2.2.1 :: r.2.2.2.2.1) [] r.2.2.2.2.2 := by unfold asMeth at h; split at h <;> cases h; rfl
def asSub : Expr → Option (Expr × Expr × Pos)
  | .Subscript a i p => some (a, i, p)
  | _ => none
theorem asSub_eq {t : Expr} {r} (h : asSub t = some r) : t = .Subscript r.1 r.2.1 r.2.2 := by unfold asSub at h; split at h <;> cases h; rfl
def asSlice : Expr → Option (Expr × Option Expr × Option Expr × Pos × Pos)
  | .Subscript a (.Slice lo hi none p) q => some (a, lo, hi, p, q)
  | _ => none
theorem asSlice_eq {t : Expr} {r} (h : asSlice t = some r) : t = .Subscript r.1 (.Slice r.2.1 r.2.2.1 none r.2.2.2.1) r.2.2.2.2 := by unfold asSlice at h; split at h <;> cases h; rfl
def asRev : Expr → Option (Expr × Nat × Pos × Pos × Pos × Pos)
  | .Subscript a (.Slice none none (some (.UnaryOp .USub (.Constant (.int 1) k p1) p2)) p3) q => some (a, k, p1, p2, p3, q)
  | _ => none
theorem asRev_eq {t : Expr} {r} (h : asRev t = some r) : t = .Subscript r.1 (.Slice none none (some (.UnaryOp .USub (.Constant (.int 1) r.2.1 r.2.2.1) r.2.2.2.1)) r.2.2.2.2.1) r.2.2.2.2.2 := by
  unfold asRev at h; split at h <;> cases h; rfl
/-- o.m() -/
def asMeth0 : Expr → Option (Expr × Str × Pos × Pos)
  | .Call (.Attribute o m p) [] [] q => some (o, m, p, q)
  | _ => none
theorem asMeth0_eq {t : Expr} {r} (h : asMeth0 t = some r) : t = .Call (.Attribute r.1 r.2.1 r.2.2.1) [] [] r.2.2.2 := by unfold asMeth0 at h; split at h <;> cases h; rfl
/-- o.f -/
def asAttr : Expr → Option (Expr × Str × Pos)
  | .Attribute o f p => some (o, f, p)
  | _ => none
theorem asAttr_eq {t : Expr} {r} (h : asAttr t = some r) : t = .Attribute r.1 r.2.1 r.2.2 := by unfold asAttr at h; split at h <;> cases h; rfl
def asCmp3 : Expr → Option (Expr × CmpOp × CmpOp × CmpOp × Expr × Expr × Expr × Pos)
  | .Compare a [o, o', o''] [b, c, d] p => some (a, o, o', o'', b, c, d, p)
  | _ => none
def asDct0 : Expr → Option Pos
  | .Dict [] [] p => some p
  | _ => none
theorem asDct0_eq {t : Expr} {r} (h : asDct0 t = some r) : t = .Dict [] [] r := by unfold asDct0 at h; split at h <;> cases h; rfl
def asDct1 : Expr → Option (Expr × Expr × Pos)
  | .Dict [some k] [v] p => some (k, v, p)
  | _ => none
theorem asDct1_eq {t : Expr} {r} (h : asDct1 t = some r) : t = .Dict [some r.1] [r.2.1] r.2.2 := by unfold asDct1 at h; split at h <;> cases h; rfl
def asComp : Expr → Option (Expr × Expr × Expr × List Expr × Scope × Pos)
  | .ListComp e [⟨tg, it, ifs, 0⟩] sc p => some (e, tg, it, ifs, sc, p)
  | _ => none
theorem asComp_eq {t : Expr} {r} (h : asComp t = some r) : t = .ListComp r.1 [⟨r.2.1, r.2.2.1, r.2.2.2.1, 0⟩] r.2.2.2.2.1 r.2.2.2.2.2 := by unfold asComp at h; split at h <;> cases h; rfl

/-! ### conditions on trees -/
def notStar : Expr → Bool
  | .Starred _ _ => false
  | _ => true
theorem star_of {e : Expr} {es : List Expr} {env : PySem.Env} (h : notStar e = true) : starEach (e :: es) env = (false, eval e env) :: starEach es env := by
  cases e <;> first | rfl | (cases h; done)
theorem back_any {es : List Expr} {env : PySem.Env} {pos : Pos} (h : es.all notStar = true) : (backTo pos (starEach es env)).any (·.1) = false := by
  induction es with
  | nil => rfl
  | cons e es ih =>
    rw [List.all_cons, Bool.and_eq_true] at h
    rw [star_of h.1]
    show (false || (backTo pos (starEach es env)).any (·.1)) = false
    rw [ih h.2]; rfl
theorem back_all {es : List Expr} {env : PySem.Env} {pos : Pos} (h : es.all notStar = true) : (backTo pos (starEach es env)).all (fun x => !x.1) = true := by
  induction es with
  | nil => rfl
  | cons e es ih =>
    rw [List.all_cons, Bool.and_eq_true] at h
    rw [star_of h.1]
    show (true && (backTo pos (starEach es env)).all (fun x => !x.1)) = true
    rw [ih h.2]; rfl
def notSlice : Expr → Bool
  | .Slice _ _ _ _ => false
  | _ => true
theorem plainIx_of {e : Expr} (h : notSlice e = true) : PlainIx e := by
  intro o i
  cases e <;> first | rfl | (cases h; done)
def notSet : Expr → Bool
  | .Set _ _ _ => false
  | _ => true
theorem marks_of {op : CmpOp} {e : Expr} (h : notSet e = true) : behindInMarks op e = false := by
  cases e <;> first | rfl | (cases h; done)
theorem folded_of {e : Expr} {env : PySem.Env} (h : notSet e = true) (x : Value) : foldedSetIterable e env x = pure x := by
  cases e <;> first | rfl | (cases h; done)
def notCall0 : Expr → Bool
  | .Call _ [] _ _ => false
  | _ => true
theorem base_of {e : Expr} {n : Str} {env : PySem.Env} (h : notCall0 e = true) (w : Sem Value) : attributeBase e n env w = w := by
  cases e with
  | Call f args kws pos =>
    cases args with
    | nil => cases h
    | cons a as => cases f <;> rfl
  | _ => rfl
/-- a test by the value's truth -/
def plainT : Expr → Bool
  | .UnaryOp .Not _ _ => false
  | .BoolOp _ _ _ => false
  | .IfExp _ _ _ _ => false
  | .Compare _ _ _ _ => false
  | _ => true
theorem isTrue_of {e : Expr} {env : PySem.Env} (h : plainT e = true) (whole : Sem Value) : isTrue e env whole = (do let v ← whole; standAt e.pos; holding [v] (truthy v)) := by
  cases e with
  | UnaryOp op a p => cases op <;> first | rfl | (cases h; done)
  | BoolOp op a p => cases h
  | IfExp a b c p => cases h
  | Compare a b c p => cases h
  | _ => rfl
/-- what serves at every place -/
def good (e : Expr) : Bool := notStar e && notSlice e && notSet e
theorem good_of {e : Expr} (h : good e = true) : notStar e = true ∧ notSlice e = true ∧ notSet e = true ∧ True := by
  unfold good at h
  simp only [Bool.and_eq_true] at h
  exact ⟨h.1.1, h.1.2, h.2, trivial⟩
end VI

set_option Elab.async false
set_option linter.all false
set_option maxRecDepth 100000
set_option maxHeartbeats 1000000
/-! VI, part 8: an expression's tree keeps what the small language says of it. -/
namespace VI
open PySem L2
/-! ### the check -/
structure Ck where
  N : List Str
  defs : List (Str × List Bool)
  consts : List Str
  fls : List (Nat × Str)
  mts : List ((Nat × Str) × (Nat × List Bool))
  mks : List (Str × (Nat × (Nat × List Bool)))
  hot : Bool
  ers : List (Str × (Nat × Option Str))
  hdefs : List (Str × List Bool)
  lam : Bool
  err : Bool
def visB (sc : Scope) (x : Str) : Bool := match sc.names.lookup x with
  | some .local => true
  | some .cell => true
  | some .free => true
  | _ => false
def locB (sc : Scope) (x : Str) : Bool := match sc.names.lookup x with
  | some .local => true
  | some .cell => true
  | _ => false
def glB (sc : Scope) (x : Str) : Bool := decide (sc.names.lookup x = some .globalImplicit)
def dbg (x : Str) : Bool := (x == ("__debug__" : Str)) || (x == ("__classdict__" : Str))
def nameB (c : Ck) (sc : Scope) (i : Nat) (x : Str) : Bool := decide (c.N[i]? = some x) && (visB sc x && !dbg x)
def lev : E → Nat
  | .bor _ => 1
  | .bor2 _ => 2
  | .ix a _ => lev a - 1
  | _ => 0
def fresh : E → Bool
  | .lst _ => true
  | .dct _ _ => true
  | .skeys _ => true
  | .lvals _ => true
  | .bin _ _ _ => true
  | .blt _ _ => true
  | .rng _ => true
  | .sl _ _ _ => true
  | .rev _ => true
  | .comp _ _ _ _ => true
  | _ => false
def blOk (b : Bl1) : Bool := match b with
  | .sortedSet => false
  | _ => true
def chkTy (sc : Scope) (t : Ty) (e : Expr) : Bool := match asName e with
  | some (x, _) => decide (x = Str.ofString (tyN t)) && glB sc x
  | none => false
def chkTyL (sc : Scope) : List Ty → List Expr → Bool
  | [], [] => true
  | t :: ts, e :: es => chkTy sc t e && chkTyL sc ts es
  | _, _ => false
def chkTys (sc : Scope) (ts : List Ty) (e : Expr) : Bool := match asTup e with
  | some (es, _, _) => chkTyL sc ts es && (!ts.isEmpty && decide (ts.length ≤ 10))
  | none => (match ts with
    | [t] => chkTy sc t e
    | _ => false)
def patB1 (c : Ck) (sc : Scope) (i : Nat) (e : Expr) : Bool := match asName e with
  | some (x, _) => decide (c.N[i]? = some x) && (locB sc x)
  | none => false
def patBL (c : Ck) (sc : Scope) : List Nat → List Expr → Bool
  | [], [] => true
  | i :: is, e :: es => patB1 c sc i e && patBL c sc is es
  | _, _ => false
def patB (c : Ck) (sc : Scope) (p : Pat) (e : Expr) : Bool := match p with
  | .one i => patB1 c sc i e
  | .many is => (match asTup e with
    | some (es, _, _) => patBL c sc is es
    | none => false)
def isTupE (e : Expr) : Bool := (asTup e).isSome
def ownOf (c : Ck) (p : Pat) : List (Str × Nat) := p.slots.map fun i => ((c.N[i]?).getD (Str.ofString ""), i)
def meth0B (o : Expr) (m : Str) (name : String) (apos pos : Pos) : Bool := decide (m = Str.ofString name) && ((apos.endLine == pos.line) && notCall0 o)
def methB (o : Expr) (m : Str) (name : String) (apos pos : Pos) (n : Nat) : Bool := decide (m = Str.ofString name) && ((apos.endLine == pos.line) && (notCall0 o && decide (n < 20)))
/-- f(lambda: body), the lambda's parameter with a default or none -/
def errN : Str := Str.ofString "_law_error1"
def asErr : Expr → Option (Str × Arguments × Expr × Scope)
  | .Call (.Name f _) [.Lambda params body scope _] [] _ => some (f, params, body, scope)
  | _ => none
theorem asErr_eq {t : Expr} {r} (h : asErr t = some r) : ∃ p lpos pos, t = .Call (.Name r.1 p) [.Lambda r.2.1 r.2.2.1 r.2.2.2 lpos] [] pos := by
  unfold asErr at h
  split at h
  · cases h; exact ⟨_, _, _, rfl⟩
  · cases h
def lamNB (N : List Str) (sc scope : Scope) : Bool := decide (scope.kind = .function) && (!scope.isCoroutine && (!scope.isGenerator && scope.names.all fun y => match y.2 with
  | .cell => false
  | .local => !N.contains y.1
  | .free => decide (sc.names.lookup y.1 = some .cell) || decide (sc.names.lookup y.1 = some .free)
  | _ => true))
theorem lamN_by {N : List Str} {sc scope : Scope} (h : lamNB N sc scope = true) : VL.LamN N sc scope := by
  unfold lamNB at h
  simp only [Bool.and_eq_true, Bool.not_eq_true', decide_eq_true_eq] at h
  obtain ⟨h1, h2, h3, h4⟩ := h
  have h4 := List.all_eq_true.mp h4
  refine ⟨h1, h2, h3, fun y hy => ⟨fun e => ?_, fun e z => ?_⟩, fun y hy e => ?_⟩
  · have := h4 y hy
    rw [e] at this
    cases this
  · have := h4 y hy
    rw [e] at this
    simp only [Bool.not_eq_true'] at this
    rw [List.contains_iff_mem.mpr z] at this
    cases this
  · have := h4 y hy
    rw [e] at this
    simp only [Bool.or_eq_true, decide_eq_true_eq] at this
    exact this
def lamB (N : List Str) (sc : Scope) (params : Arguments) (scope : Scope) : Bool := VL.lamPB params && (decide (params.args.length = params.defaults.length) && ((params.args.all fun y => decide (scope.names.lookup y.arg = some .local)) && lamNB N sc scope))
/-- within a block, within a try -/
def Ck.inB (c : Ck) : Ck := { c with err := false }
/-- within a lambda -/
def Ck.inL (c : Ck) : Ck := { c with lam := false, err := false, mts := [], mks := [], hdefs := [] }
/-- sorted(x, key=lambda one: -told[one]) -/
def asSlam : Expr → Option (Str × Str × Str × Expr × Scope)
  | .Call (.Name f _) [x] [⟨some k, .Lambda ⟨[], [a], none, [], [], none, []⟩ (.UnaryOp .USub (.Subscript (.Name told _) (.Name one _) _) _) scope _, _⟩] _ => if decide (k = Str.ofString "key") && decide (a.arg = one) then some (f, one, told, x, scope) else none
  | _ => none
theorem asSlam_eq {t : Expr} {r} (h : asSlam t = some r) : ∃ p x a p1 p2 p3 p4 lpos kpos pos, a.arg = r.2.1 ∧ t = .Call (.Name r.1 p) [x] [⟨some (Str.ofString "key"), .Lambda ⟨[], [a], none, [], [], none, []⟩ (.UnaryOp .USub (.Subscript (.Name r.2.2.1 p1) (.Name r.2.1 p2) p3) p4) r.2.2.2.2 lpos, kpos⟩] pos ∧ x = r.2.2.2.1 := by
  unfold asSlam at h
  split at h
  · split at h
    · rename_i hk
      simp only [Bool.and_eq_true, decide_eq_true_eq] at hk
      obtain ⟨rfl, e⟩ := hk
      cases h
      exact ⟨_, _, _, _, _, _, _, _, _, _, e, rfl, rfl⟩
    · cases h
  · cases h
def slamB (one told : Str) (scope : Scope) : Bool := decide (scope.kind = .function) && (!scope.isCoroutine && (!scope.isGenerator && (decide (scope.names = [(one, .local), (told, .free)]) && (!(told == one) && (!dbg told && !(one == ("__debug__" : Str)))))))
mutual
def chkE (c : Ck) : Scope → E → Expr → Bool
  | sc, .var i, t => (match asName t with
    | some (x, _) => nameB c sc i x
    | none => false)
  | sc, .bor i, t => (match asName t with
    | some (x, _) => nameB c sc i x
    | none => false)
  | sc, .bor2 i, t => (match asName t with
    | some (x, _) => nameB c sc i x
    | none => false)
  | sc, .glob n, t => (match asName t with
    | some (x, _) => glB sc x && (decide (x ∈ c.consts) && (decide (codeOf x = n) && !dbg x))
    | none => false)
  | _, .int i, t => (match asConst t with
    | some (.int j, _, _) => decide (i = j)
    | _ => false)
  | _, .bl i, t => (match asConst t with
    | some (.bool j, _, _) => decide (i = j)
    | _ => false)
  | _, .str i, t => (match asConst t with
    | some (.str j, _, _) => decide (i = j)
    | _ => false)
  | _, .non, t => (match asConst t with
    | some (.none, _, _) => true
    | _ => false)
  | sc, .tup es, t => (match asTup t with
    | some (xs, _, _) => chkEs c sc es xs
    | none => false)
  | sc, .lst es, t => (match asLst t with
    | some (xs, _) => chkEs c sc es xs
    | none => false)
  | _, .dct .nil .nil, t => (asDct0 t).isSome
  | sc, .dct (.cons k .nil) (.cons v .nil), t => (match asDct1 t with
    | some (x, y, _) => chkE c sc k x && (chkE c sc v y && (decide (lev k = 0) && decide (lev v = 0)))
    | none => false)
  | _, .dct _ _, _ => false
  | sc, .bin o a b, t => (match asBin t with
    | some (x, op, y, _) => decide (op = opB o) && (chkE c sc a x && (chkE c sc b y && (decide (lev a ≤ 1) && decide (lev b ≤ 1))))
    | none => false)
  | sc, .neg a, t => (match asUn t with
    | some (.USub, x, _) => chkE c sc a x && decide (lev a = 0)
    | _ => false)
  | sc, .not a, t => (match asUn t with
    | some (.Not, x, _) => chkE c sc a x
    | _ => false)
  | sc, .and a b, t => (match asBool t with
    | some (.And, x, y, rest, pos) => chkE c sc a x && (decide (lev a = 0) && (decide (lev b = 0) && (match rest with
      | [] => chkE c sc b y
      | _ :: _ => chkE c sc b (.BoolOp .And (y :: rest) pos))))
    | _ => false)
  | sc, .or a b, t => (match asBool t with
    | some (.Or, x, y, rest, pos) => chkE c sc a x && (decide (lev a = 0) && (decide (lev b = 0) && (match rest with
      | [] => chkE c sc b y
      | _ :: _ => chkE c sc b (.BoolOp .Or (y :: rest) pos))))
    | _ => false)
  | sc, .ite d a b, t => (match asIf t with
    | some (z, x, y, _) => chkE c sc d z && (chkE c sc a x && (chkE c sc b y && (decide (lev a = 0) && decide (lev b = 0))))
    | none => false)
  | sc, .cmp o a b, t => (match asCmp1 t with
    | some (x, op, y, _) => decide (op = opC o) && (chkE c sc a x && (chkE c sc b y && (decide (lev a ≤ 1) && decide (lev b ≤ 1))))
    | none => false)
  | sc, .chain o o' a b d, t => (match asCmp2 t with
    | some (x, op, op', y, z, _) => decide (op = opC o) && (decide (op' = opC o') && (chkE c sc a x && (chkE c sc b y && (chkE c sc d z && (decide (lev a ≤ 1) && (decide (lev b ≤ 1) && decide (lev d ≤ 1)))))))
    | none => false)
  | _, .chain3 _ _ _ _ _ _ _, _ => false
  | sc, .ist a b, t => (match asCmp1 t with
    | some (x, .Is, y, _) => chkE c sc a x && (match asConst y with
      | some (.bool d, _, _) => decide (d = b)
      | _ => false)
    | some (x, .IsNot, y, _) => chkE c sc a x && (match asConst y with
      | some (.bool d, _, _) => decide (d = !b)
      | _ => false)
    | _ => false)
  | sc, .isn a, t => (match asCmp1 t with
    | some (x, .Is, y, _) => chkE c sc a x && (match asConst y with
      | some (.none, _, _) => true
      | _ => false)
    | _ => false)
  | sc, .notn a, t => (match asCmp1 t with
    | some (x, .IsNot, y, _) => chkE c sc a x && (match asConst y with
      | some (.none, _, _) => true
      | _ => false)
    | _ => false)
  | sc, .isi a ts, t => (match asCall t with
    | some (f, _, x, [y], _) => decide (f = Str.ofString "isinstance") && (glB sc f && (chkE c sc a x && chkTys sc ts y))
    | _ => false)
  | sc, .call f es, t => (match asCall t with
    | some (x, _, e, as, _) => (!c.hot) && (decide (codeOf x = f) && (glB sc x && (!dbg x && (match c.defs.lookup x with
      | some bw => chkB c sc bw es (e :: as)
      | none => false))))
    | none => false)
  | sc, .blt .sortedSet a, t => (match asCall t with
    | some (x, _, y, [], _) => (!c.hot) && (decide (x = Str.ofString "sorted") && (glB sc x && (match asCall y with
      | some (z, _, u, [], _) => decide (z = Str.ofString "set") && (glB sc z && (chkE c sc a u && decide (lev a ≤ 1)))
      | _ => false)))
    | _ => false)
  | sc, .skeys a, t => (match asCall t with
    | some (x, _, y, [], _) => (!c.hot) && (decide (x = Str.ofString "sorted") && (glB sc x && (match asMeth0 y with
      | some (o, m, apos, pos) => meth0B o m "keys" apos pos && (chkE c sc a o && decide (lev a ≤ 1))
      | _ => false)))
    | _ => false)
  | sc, .lvals a, t => (match asCall t with
    | some (x, _, y, [], _) => (!c.hot) && (decide (x = Str.ofString "list") && (glB sc x && (match asMeth0 y with
      | some (o, m, apos, pos) => meth0B o m "values" apos pos && (chkE c sc a o && decide (lev a ≤ 1))
      | _ => false)))
    | _ => false)
  | sc, .blt b a, t => (match asCall t with
    | some (x, _, y, [], _) => (!c.hot) && (decide (x = Str.ofString (blId b)) && (glB sc x && (chkE c sc a y && ((decide (lev a ≤ 1) || decide (b = .len)) && blOk b))))
    | _ => false)
  | sc, .rng a, t => (match asCall t with
    | some (x, _, y, [], _) => (!c.hot) && (decide (x = Str.ofString "list") && (glB sc x && (match asCall y with
      | some (z, _, u, [], _) => decide (z = Str.ofString "range") && (glB sc z && (chkE c sc a u && decide (lev a = 0)))
      | _ => false)))
    | _ => false)
  | sc, .cnt a x, t => (match asMeth t with
    | some (o, m, apos, y, [], pos) => methB o m "count" apos pos 1 && (chkE c sc a o && (decide (lev a ≤ 1) && (chkE c sc x y && decide (lev x = 0))))
    | _ => false)
  | sc, .idx a x, t => (match asMeth t with
    | some (o, m, apos, y, [], pos) => methB o m "index" apos pos 1 && (chkE c sc a o && (decide (lev a ≤ 1) && (chkE c sc x y && decide (lev x = 0))))
    | _ => false)
  | sc, .get d k x, t => (match asMeth t with
    | some (o, m, apos, y, [z], pos) => methB o m "get" apos pos 2 && (chkE c sc d o && (decide (lev d ≤ 1) && (chkE c sc k y && (decide (lev k = 0) && (chkE c sc x z && decide (lev x = 0))))))
    | _ => false)
  | sc, .ix a i, t => (match asSub t with
    | some (x, y, _) => chkE c sc a x && (chkE c sc i y && decide (lev i = 0))
    | none => false)
  | sc, .sl a lo hi, t => (match asSlice t with
    | some (x, l, h, _, _) => chkE c sc a x && (decide (lev a ≤ 1) && (chkO c sc lo l && chkO c sc hi h))
    | none => false)
  | sc, .rev a, t => (match asRev t with
    | some (x, _, _, _, _, _) => chkE c sc a x && decide (lev a ≤ 1)
    | none => false)
  | sc, .comp p it d e, t => (match asComp t with
    | some (elt, tg, iter, ifs, scope, _) => (!c.hot) && (chkI c sc it iter tg && (patB c scope p tg && (blkC c.N sc scope (ownOf c p) && (chkC c.inB (relS scope sc) d ifs && (chkE c.inB (relS scope sc) e elt && (decide (lev e = 0) && notSet iter))))))
    | none => false)
  | sc, .attr k a f, t => (match asAttr t with
    | some (x, y, _) => decide (y = f) && (notCall0 x && (decide ((k, f) ∈ c.fls) && (chkE c sc a x && decide (lev a = 0))))
    | none => false)
  | sc, .mcall k f m o es, t => (match asMeth0 t with
    | some (x, y, apos, pos) => (!c.hot) && (decide (y = m) && (notCall0 x && ((apos.endLine == pos.line) && (chkE c sc o x && (decide (lev o = 0) && (match c.mts.lookup (k, m), es with
      | some (g, [_]), .nil => decide (g = f)
      | _, _ => false))))))
    | none => (match asMeth t with
      | some (x, y, apos, e, as, pos) => (!c.hot) && (decide (y = m) && (notCall0 x && ((apos.endLine == pos.line) && (decide (as.length < 20) && (chkE c sc o x && (decide (lev o = 0) && (match c.mts.lookup (k, m) with
        | some (g, _ :: bw) => decide (g = f) && chkB c sc bw es (e :: as)
        | _ => false)))))))
      | none => false))
  | sc, .make k f es, t => (match asCall t with
    | some (x, _, e, as, _) => (!c.hot) && (glB sc x && (!dbg x && (match c.mks.lookup x with
      | some (k', g, _ :: bw) => decide (k' = k) && (decide (g = f) && chkB c sc bw es (e :: as))
      | _ => false)))
    | none => false)
  | sc, .err b, t => (match asErr t with
    | some (f, params, body, scope) => (!c.hot) && (c.lam && (c.err && (decide (f = errN) && (glB sc f && (lamB c.N sc params scope && (chkE c.inL scope b body && decide (lev b = 0)))))))
    | none => false)
  | sc, .join a x, t => (match asMeth t with
    | some (o, m, apos, y, [], pos) => methB o m "join" apos pos 1 && (chkE c sc a o && (decide (lev a = 0) && (chkE c sc x y && decide (lev x ≤ 1))))
    | _ => false)
def chkEs (c : Ck) : Scope → Es → List Expr → Bool
  | _, .nil, [] => true
  | sc, .cons e es, x :: xs => chkE c sc e x && (decide (lev e = 0) && chkEs c sc es xs)
  | _, _, _ => false
def chkB (c : Ck) : Scope → List Bool → Es → List Expr → Bool
  | _, [], .nil, [] => true
  | sc, b :: bs, .cons e es, x :: xs => chkE c sc e x && (decide (lev e ≤ if b then 1 else 0) && chkB c sc bs es xs)
  | _, _, _, _ => false
def chkO (c : Ck) : Scope → Eo → Option Expr → Bool
  | _, .none, none => true
  | sc, .some e, some x => chkE c sc e x && decide (lev e = 0)
  | _, _, _ => false
def chkC (c : Ck) : Scope → Eo → List Expr → Bool
  | _, .none, [] => true
  | sc, .some e, [x] => chkE c sc e x
  | _, _, _ => false
def chkI (c : Ck) : Scope → It → Expr → Expr → Bool
  | sc, .seq e, t, _ => chkE c sc e t && decide (lev e = 0)
  | sc, .rng1 a, t, _ => (match asCall t with
    | some (x, _, y, [], _) => decide (x = Str.ofString "range") && (glB sc x && (chkE c sc a y && decide (lev a = 0)))
    | _ => false)
  | sc, .rng2 a b, t, _ => (match asCall t with
    | some (x, _, y, [z], _) => decide (x = Str.ofString "range") && (glB sc x && (chkE c sc a y && (decide (lev a = 0) && (chkE c sc b z && decide (lev b = 0)))))
    | _ => false)
  | sc, .enum e, t, tg => (match asCall t with
    | some (x, _, y, [], _) => decide (x = Str.ofString "enumerate") && (glB sc x && (chkE c sc e y && (decide (lev e = 0) && isTupE tg)))
    | _ => false)
  | sc, .zip a b, t, tg => (match asCall t with
    | some (x, _, y, [z], _) => decide (x = Str.ofString "zip") && (glB sc x && (chkE c sc a y && (decide (lev a = 0) && (chkE c sc b z && (decide (lev b = 0) && isTupE tg)))))
    | _ => false)
  | sc, .keys e, t, _ => (match asMeth0 t with
    | some (o, m, apos, pos) => meth0B o m "keys" apos pos && (chkE c sc e o && decide (lev e = 0))
    | none => false)
  | sc, .vals e, t, _ => (match asMeth0 t with
    | some (o, m, apos, pos) => meth0B o m "values" apos pos && (chkE c sc e o && decide (lev e = 0))
    | none => false)
  | sc, .slam i e, t, _ => (match asSlam t with
    | some (f, one, told, x, scope) => (!c.hot) && (c.lam && (decide (f = Str.ofString "sorted") && (glB sc f && (decide (c.N[i]? = some told) && (decide (sc.names.lookup told = some .cell) && (slamB one told scope && (chkE c sc e x && (decide (lev e = 0) && notStar x))))))))
    | none => false)
end
end VI

set_option Elab.async false
set_option linter.all false
set_option maxRecDepth 100000
set_option maxHeartbeats 1000000
/-! VI, part 9: the rules for each form of expression. -/
namespace VI
open PySem L2
/-- a def's promise: what the small language says of it -/
def LRs (P : Pm) (os : List Addr) (Z H : Hp) : List Bool → List VI.D → List V → Prop
  | [], [], [] => True
  | b :: bs, d :: ds, v :: vs => LR P os Z H (if b then 1 else 0) d v ∧ LRs P os Z H bs ds vs
  | _, _, _ => False
theorem LRs.step {P : Pm} {os os' : List Addr} {Z Z' H H' : Hp} (s : Step (Ex H) os Z H os' Z' H') : ∀ {bs : List Bool} {ds : List VI.D} {vs : List V}, LRs P os Z H bs ds vs → LRs P os' Z' H' bs ds vs
  | [], [], [], _ => trivial
  | b :: bs, d :: ds, v :: vs, h => ⟨LR.step s h.1, LRs.step s h.2⟩
  | [], [], _ :: _, h => h.elim
  | [], _ :: _, _, h => h.elim
  | _ :: _, [], _, h => h.elim
  | _ :: _, _ :: _, [], h => h.elim
theorem LRs.len {P : Pm} {os : List Addr} {Z H : Hp} : ∀ {bs : List Bool} {ds : List VI.D} {vs : List V}, LRs P os Z H bs ds vs → ds.length = bs.length ∧ vs.length = bs.length
  | [], [], [], _ => ⟨rfl, rfl⟩
  | b :: bs, d :: ds, v :: vs, h => by
    obtain ⟨e1, e2⟩ := h.2.len
    exact ⟨by rw [List.length_cons, List.length_cons, e1], by rw [List.length_cons, List.length_cons, e2]⟩
  | [], [], _ :: _, h => h.elim
  | [], _ :: _, _, h => h.elim
  | _ :: _, [], _, h => h.elim
  | _ :: _, _ :: _, [], h => h.elim
def spOf (P : Pm) (G : Glo) (f : Nat) (bw : List Bool) : Sp := fun vs H Q E => ∃ os Z w ds, Ok P os w Z H ∧ LRs P os Z H bw ds vs ∧
  Out P (fun cls dd _ H' => E cls dd H') [] os Z H (G.call f ds w) fun d _ os' Z' H' => ∀ v, Rep P os' Z' d v → Q v H'
structure CallOk (P : Pm) (G : Glo) (X : Cx) (x : Str) (kf : Nat) (fA : Addr) (fd : FuncData) (ps : List Str) (bw : List Bool) : Prop where
  ok : FnOk X.prog X.w X.K X.mg X.base (L2N.CX X.prog X.w) kf fA fd ps (spOf P G (codeOf x) bw)
  room : Room kf X.A
  mg : X.mg x = some (.ref fA)
  keep : PySem.W.keepIn X.K (.ref fA) = true
  bind : Binds X.K fd ps []
/-- a def that may be called within a suite -/
structure HotOk (P : Pm) (G : Glo) (X : Cx) (x : Str) (kf : Nat) (fA : Addr) (fd : FuncData) (ps : List Str) (bw : List Bool) : Prop where
  ok : L2H.FnH X.prog X.w X.K X.mg X.base (L2N.CX X.prog X.w) kf fA fd ps (spOf P G (codeOf x) bw)
  room : L2H.RoomH kf X.A
  mg : X.mg x = some (.ref fA)
  keep : PySem.W.keepIn X.K (.ref fA) = true
  bind : Binds X.K fd ps []
structure MethOk (P : Pm) (G : Glo) (X : Cx) (c : Nat) (m : Str) (C : Addr) (f kf : Nat) (fA : Addr) (fd : FuncData) (ps : List Str) (bw : List Bool) : Prop where
  cls : P.cls c = .ref C
  cl : Cls X.K C
  mt : Meth X.K C m fA
  ok : FnOk X.prog X.w X.K X.mg X.base (L2N.CX X.prog X.w) kf fA fd ps (spOf P G f bw)
  room : Room kf X.A
  bind : Binds X.K fd ps []
structure MakeOk (P : Pm) (G : Glo) (X : Cx) (x : Str) (c : Nat) (C : Addr) (f kf : Nat) (fA : Addr) (fd : FuncData) (ps : List Str) (bw : List Bool) : Prop where
  cls : P.cls c = .ref C
  mkr : Mk X.K C fA
  ok : FnOk X.prog X.w X.K X.mg X.base (L2N.CX X.prog X.w) kf fA fd ps (spOf P G f bw)
  room : Room (kf + 1) X.A
  mg : X.mg x = some (.ref C)
  bind : Binds X.K fd ps []
/-- the maker of lambdas: its code object and its table -/
structure LamF (P : Pm) (X : Cx) (c Pt : Addr) : Prop where
  code : X.env.code = .ref c
  tab : LamX.TabB X.base X.mg c Pt
  mem : (Pt, X.env.qual ++ "<lambda>") ∈ P.tb
  uni : ∀ p ∈ P.tb, p.1 = Pt → p.2 = X.env.qual ++ "<lambda>"
/-- what the def that is told of errors by a lambda promises -/
def ErrOk (P : Pm) (X : Cx) (n : Nat) : Prop := ∃ g, X.mg errN = some (.ref g) ∧ PySem.W.keepIn X.K (.ref g) = true ∧
  ∀ (W : WX) (pins : List (Addr × PySem.Obj)) (s : Shared) (σ : L2.St) (H : Hp) (Q : VK) (m : Env → M VI.D) (params : Arguments) (body : Expr) (scope : Scope) (f c' : Addr), Inv X pins σ H s → VL.LamN X.N X.env.scope scope → VL.lamPB params = true → params.args.length = params.defaults.length →
    (∀ y ∈ params.args, scope.names.lookup y.arg = some .local) → VL.LamK X H params body scope f c' →
    (∀ (E : XK) (A : Around) (out : List PySem.Env) (s2 : Shared) (H2 : Hp), Room n (A.deeper (VL.envL X scope s2.heap.objs.size f c')) → PE (VL.cxL X A out s2 H2 E scope f c') body (tX P (fun cls d _ H' => E cls d H') m (RV P 0))) →
    tX P W (fun env => errM (m env)) (RV P 0) σ H Q → codeAny (model X.prog X.w) X.A (.call (.ref g) ⟨[.ref f], []⟩) (CR (L2N.CX X.prog X.w) X.stack X.prog X.w H s Q (fun _ _ _ => False)) s
structure Gd (P : Pm) (G : Glo) (c : Ck) (sc : Scope) (X : Cx) : Prop where
  K : X.K = P.K
  W : X.w = P.wo
  N : X.N = c.N
  nd : c.N.Nodup
  sc : X.env.scope = sc
  calm : (!c.hot) = true → X.calm = true
  room : (!c.hot) = true → Room 1 X.A
  un : X.A.units + 65 < cLine
  blt : ∀ x ∈ bltNames, X.mg x = none
  glob : ∀ x ∈ c.consts, ∃ u d v, X.mg x = some u ∧ RelV v u ∧ G.glob (codeOf x) = some d ∧ (∀ os Z, Rep P os Z d v)
  call : (!c.hot) = true → ∀ x bw, c.defs.lookup x = some bw → ∃ kf fA fd ps, CallOk P G X x kf fA fd ps bw
  fld : ∀ q ∈ c.fls, ∃ C, P.cls q.1 = .ref C ∧ Cls X.K C ∧ NoAttr X.K C q.2
  meth : (!c.hot) = true → ∀ q r, c.mts.lookup q = some r → ∃ C kf fA fd ps, MethOk P G X q.1 q.2 C r.1 kf fA fd ps r.2
  make : (!c.hot) = true → ∀ x r, c.mks.lookup x = some r → ∃ C kf fA fd ps, MakeOk P G X x r.1 C r.2.1 kf fA fd ps r.2.2
  er : ∀ x k fo, (x, (k, fo)) ∈ c.ers → ∃ C, P.cls k = .ref C ∧ X.mg x = some (.ref C) ∧ ErP X.prog X.K C fo ∧ ∀ f, fo = some f → P.fld k = f
  he : c.ers ≠ [] → X.mg heN = some (.ref (He.ga X.K heN))
  two : ∀ x k fo y k' fo', (x, (k, fo)) ∈ c.ers → (y, (k', fo')) ∈ c.ers → PySem.W.kitOne X.K (P.cls k) (P.cls k') = some (Nat.beq k k')
  hcall : ∀ x bw, c.hdefs.lookup x = some bw → ∃ kf fA fd ps, HotOk P G X x kf fA fd ps bw
  lam : c.lam = true → ∃ cd Pt, LamF P X cd Pt
  err : (!c.hot) = true → c.err = true → ∃ n, ErrOk P X n ∧ 1 ≤ n ∧ ∀ x bw, c.defs.lookup x = some bw → ∃ kf fA fd ps, kf ≤ n ∧ CallOk P G X x kf fA fd ps bw
structure SE (P : Pm) (W : WX) (G : Glo) (X : Cx) (e : E) (t : Expr) : Prop where
  pv : PE X t (tX P W (ev G e .v) (RV P (lev e)))
  pt : PT X t (tX P W (ev G e .t) RB)
  pf : fresh e = true → PE X t (tX P W (ev G e .v) (RN P))
  pw : ∀ op vs pos, t = .BoolOp op vs pos → PW X t (tX P W (ev G e .t) RB)
section
variable {P : Pm} {W : WX} {G : Glo} {X : Cx} {c : Ck} {sc : Scope}
theorem pt_plain {e : E} {t : Expr} {n : Nat} (K : X.K = P.K) (hv : PE X t (tX P W (ev G e .v) (RV P n))) (ht : ∀ env, ev G e .t env = bnd (ev G e .v env) fun x => lft (x.truth.map .bl)) (hp : plainT t = true) :
    PT X t (tX P W (ev G e .t) RB) := by
  refine (pt_truth hv (isTrue_of hp)).imp fun σ H Q h => ?_
  obtain ⟨os, Z, w, env, ad, B, k, sl, h⟩ := h
  rw [ht] at h
  refine tX_intro k sl h.bnd fun a w1 os1 Z1 H1 v s1 k1 sl1 r h1 => ?_
  obtain ⟨b, e1, h2⟩ := h1.lft
  obtain ⟨d, e2, rfl⟩ := Option.map_eq_some_iff.mp e1
  refine ⟨d, ?_, h2 os1 Z1 H1 Step.refl k1 d rfl⟩
  rw [K]
  exact tru_of k1.zh r e2
/-- a form whose value's truth is its test, no BoolOp -/
theorem SE.of {e : E} {t : Expr} (K : X.K = P.K) (hv : PE X t (tX P W (ev G e .v) (RV P (lev e)))) (hf : fresh e = true → PE X t (tX P W (ev G e .v) (RN P)))
    (ht : ∀ env, ev G e .t env = bnd (ev G e .v env) fun x => lft (x.truth.map .bl)) (hp : plainT t = true) : SE P W G X e t :=
  ⟨hv, pt_plain K hv ht hp, hf, fun op vs pos z => by subst z; cases hp⟩
theorem SE.ofN {e : E} {t : Expr} (K : X.K = P.K) (hf : PE X t (tX P W (ev G e .v) (RN P))) (ht : ∀ env, ev G e .t env = bnd (ev G e .v env) fun x => lft (x.truth.map .bl)) (hp : plainT t = true) : SE P W G X e t :=
  SE.of K (hf.imp fun _ _ _ => tX_frz) (fun _ => hf) ht hp
theorem kind_vis {sc : Scope} {x : Str} (h : visB sc x = true) : Vis sc x := by
  unfold visB at h
  split at h
  · exact .inl (by assumption)
  · exact .inr (.inl (by assumption))
  · exact .inr (.inr (by assumption))
  · cases h
theorem loc_of {sc : Scope} {x : Str} (h : locB sc x = true) : Loc sc x := by
  unfold locB at h
  split at h
  · exact .inl (by assumption)
  · exact .inr (by assumption)
  · cases h
theorem dbg_of {x : Str} (h : (!dbg x) = true) : (x == ("__debug__" : Str)) = false ∧ (x == ("__classdict__" : Str)) = false := by
  unfold dbg at h
  rw [Bool.not_eq_true', Bool.or_eq_false_iff] at h
  exact h
/-! names -/
theorem pe_name {i : Nat} {x : Str} {pos : Pos} (g : Gd P G c sc X) (h : nameB c sc i x = true) : PE X (.Name x pos) (tVar i) := by
  unfold nameB at h
  simp only [Bool.and_eq_true, decide_eq_true_eq] at h
  obtain ⟨h1, h2, h3⟩ := h
  obtain ⟨d1, d2⟩ := dbg_of h3
  exact pe_var (by rw [g.N]; exact h1) (by rw [g.sc]; exact kind_vis h2) d1 d2
theorem slot_at {os : List Addr} {Z H : Hp} {env : Env} {σ : Stt} {ad : Nat → List Addr} {B : Addr → Prop} {i : Nat} {s : Sl} (sl : Slots P B env σ ad os Z H) (h : env[i]? = some s) : SlotR P B os Z H (ad i) s σ[i]? := sl.at_ i s h
theorem r_var {i : Nat} {σ : Stt} {H : Hp} {Q : VK} (h : tX P W (ev G (.var i) .v) (RV P 0) σ H Q) : tVar i σ H Q := by
  obtain ⟨os, Z, w, env, ad, B, k, sl, h⟩ := h
  have h : Out P W σ os Z H (lft (look env i) w) _ := h
  obtain ⟨d, e, h2⟩ := h.lft
  unfold look at e
  cases q : env[i]? with
  | none => rw [q] at e; cases e
  | some s =>
    rw [q] at e
    cases s <;> first | (cases e; done) | skip
    cases e
    obtain ⟨v, h3, r⟩ := slot_at sl q
    exact ⟨v, h3, h2.ret k v r⟩
theorem r_bor {i : Nat} {σ : Stt} {H : Hp} {Q : VK} (h : tX P W (ev G (.bor i) .v) (RV P 1) σ H Q) : tVar i σ H Q := by
  obtain ⟨os, Z, w, env, ad, B, k, sl, h⟩ := h
  have h : Out P W σ os Z H (lft (lookB env i) w) _ := h
  obtain ⟨d, e, h2⟩ := h.lft
  unfold lookB at e
  cases q : env[i]? with
  | none => rw [q] at e; cases e
  | some s =>
    rw [q] at e
    have q2 := slot_at sl q
    cases s <;> first | (cases e; done) | skip
    case fz =>
      cases e
      obtain ⟨v, h3, r⟩ := q2
      exact ⟨v, h3, h2.ret k v (.inl r)⟩
    case ow =>
      cases e
      obtain ⟨a, vs, h3, h4, h5, r⟩ := q2
      refine ⟨.ref a, h3, h2.ret k _ (.inr (.inl ⟨a, vs, _, rfl, rfl, (sl.own i a (by simp [h4])).1, h5, reps_paired.mp r⟩))⟩
    case od =>
      cases e
      obtain ⟨a, h3, h4, r⟩ := q2
      refine ⟨.ref a, h3, h2.ret k _ (.inr (.inr ⟨a, _, rfl, rfl, (sl.own i a (by simp [h4])).1, r⟩))⟩
    case bo =>
      cases e
      obtain ⟨a, vs, h3, na, _, h5, r⟩ := q2
      refine ⟨.ref a, h3, h2.ret k _ (.inr (.inl ⟨a, vs, _, rfl, rfl, na, h5, reps_paired.mp r⟩))⟩
theorem rows_paired {os : List Addr} {Z H : Hp} {dss : List (List D)} {bs : List Addr} (n : ∀ b ∈ bs, b ∉ os) (h : Rows P os Z H dss bs) : Paired (LR P os Z H 1) (dss.map .lst) (bs.map V.ref) := by
  unfold Rows at h
  induction h with
  | nil => exact .nil
  | cons q _ ih =>
    obtain ⟨vs, h1, h2⟩ := q
    exact .cons (.inr (.inl ⟨_, vs, _, rfl, rfl, n _ List.mem_cons_self, h1, reps_paired.mp h2⟩)) (ih fun b hb => n b (List.mem_cons_of_mem _ hb))
theorem r_bor2 {i : Nat} {σ : Stt} {H : Hp} {Q : VK} (h : tX P W (ev G (.bor2 i) .v) (RV P 2) σ H Q) : tVar i σ H Q := by
  obtain ⟨os, Z, w, env, ad, B, k, sl, h⟩ := h
  have h : Out P W σ os Z H (lft (lookB2 env i) w) _ := h
  obtain ⟨d, e, h2⟩ := h.lft
  unfold lookB2 at e
  cases q : env[i]? with
  | none => rw [q] at e; cases e
  | some s =>
    rw [q] at e
    have q2 := slot_at sl q
    cases s <;> first | (cases e; done) | skip
    case fz =>
      cases e
      obtain ⟨v, h3, r⟩ := q2
      exact ⟨v, h3, h2.ret k v (.inl r)⟩
    case ow2 =>
      cases e
      obtain ⟨a, bs, h3, h4, h5, r⟩ := q2
      refine ⟨.ref a, h3, h2.ret k _ (.inr (.inl ⟨a, _, _, rfl, rfl, (sl.own i a (by simp [h4])).1, h5, rows_paired (fun b hb => (sl.own i b (by simp [h4, hb])).1) r⟩))⟩
/-! constants -/
theorem r_const {d : D} {v : V} {n : Nat} {σ : Stt} {H : Hp} {Q : VK} (hr : ∀ os Z, Rep P os Z d v) (h : tX P W (fun _ => ret d) (RV P n) σ H Q) : tC v σ H Q := by
  obtain ⟨os, Z, w, env, ad, B, k, sl, h⟩ := h
  exact h.ret k v (.of (hr os Z))
/-! arguments -/
theorem pa_nilX : PA X [] (tX P W (evs G .nil) (RA P)) := pa_nil.imp fun σ H Q h => by
  obtain ⟨os, Z, w, env, ad, B, k, sl, h⟩ := h
  exact h.ret k [] reps_nil
theorem pa_consX {e : E} {es : Es} {t : Expr} {ts : List Expr} (he : PE X t (tX P W (ev G e .v) (RV P 0))) (hr : PA X ts (tX P W (evs G es) (RA P))) (hs : notStar t = true) : PA X (t :: ts) (tX P W (evs G (.cons e es)) (RA P)) :=
  (pa_cons he hr (star_of hs)).imp fun σ H Q h => by
    obtain ⟨os, Z, w, env, ad, B, k, sl, h⟩ := h
    have h : Out P W σ os Z H (bnd (ev G e .v env) (fun d => bnd (evs G es env) fun ds => ret (d :: ds)) w) _ := h
    refine tX_intro k sl h.bnd fun d w1 os1 Z1 H1 v s1 k1 sl1 r h1 => ?_
    refine tX_intro k1 sl1 h1.bnd fun ds w2 os2 Z2 H2 vs s2 k2 sl2 rs h2 => ?_
    exact h2.ret k2 _ (reps_cons (Rep.mono s2.zle s2.ex r) rs)
/-- arguments, some of them looked at -/
def RL (P : Pm) (bw : List Bool) : List VI.D → List Addr → Hp → Hp → Hp → List V → Prop := fun ds os' Z' _ H' vs => LRs P os' Z' H' bw ds vs
theorem pb_nilX : PA X [] (tX P W (evs G .nil) (RL P [])) := pa_nil.imp fun σ H Q h => by
  obtain ⟨os, Z, w, env, ad, B, k, sl, h⟩ := h
  exact h.ret k [] trivial
theorem pb_consX {b : Bool} {bs : List Bool} {e : E} {es : Es} {t : Expr} {ts : List Expr} (he : PE X t (tX P W (ev G e .v) (RV P (lev e)))) (hl : lev e ≤ if b then 1 else 0) (hr : PA X ts (tX P W (evs G es) (RL P bs))) (hs : notStar t = true) :
    PA X (t :: ts) (tX P W (evs G (.cons e es)) (RL P (b :: bs))) :=
  (pa_cons he hr (star_of hs)).imp fun σ H Q h => by
    obtain ⟨os, Z, w, env, ad, B, k, sl, h⟩ := h
    have h : Out P W σ os Z H (bnd (ev G e .v env) (fun d => bnd (evs G es env) fun ds => ret (d :: ds)) w) _ := h
    refine tX_intro k sl h.bnd fun d w1 os1 Z1 H1 v s1 k1 sl1 r h1 => ?_
    refine tX_intro k1 sl1 h1.bnd fun ds w2 os2 Z2 H2 vs s2 k2 sl2 rs h2 => ?_
    exact h2.ret k2 _ ⟨LR.le hl (LR.step s2 r), rs⟩
/-! displays -/
theorem r_tup {es : Es} {σ : Stt} {H : Hp} {Q : VK} (h : tX P W (ev G (.tup es) .v) (RV P 0) σ H Q) : tTup (tX P W (evs G es) (RA P)) σ H Q := by
  obtain ⟨os, Z, w, env, ad, B, k, sl, h⟩ := h
  have h : Out P W σ os Z H (bnd (evs G es env) (fun ds => lft (guardO (decide (ds.length ≤ lim)) (some (D.tup ds)))) w) _ := h
  refine tX_intro k sl h.bnd fun ds w1 os1 Z1 H1 vs s1 k1 sl1 r h1 => ?_
  obtain ⟨d, e, h2⟩ := h1.lft
  obtain ⟨e1, rfl⟩ := guardO_some e
  refine ⟨by rw [← r.length, ← lim_eq]; exact of_decide_eq_true e1, fun p hp => ?_⟩
  obtain ⟨k2, st⟩ := k1.alloc hp (.tup vs)
  refine h2 _ _ _ st k2 (.ref p) (.of ?_)
  unfold Rep
  exact ⟨p, vs, rfl, upd_same, r.mono st.zle Ext.refl⟩
theorem r_lst {es : Es} {σ : Stt} {H : Hp} {Q : VK} (h : tX P W (ev G (.lst es) .v) (RN P) σ H Q) : tLst (tX P W (evs G es) (RA P)) σ H Q := by
  obtain ⟨os, Z, w, env, ad, B, k, sl, h⟩ := h
  have h : Out P W σ os Z H (bnd (evs G es env) (fun ds => lft (guardO (decide (ds.length ≤ lim)) (some (D.lst ds)))) w) _ := h
  refine tX_intro k sl h.bnd fun ds w1 os1 Z1 H1 vs s1 k1 sl1 r h1 => ?_
  obtain ⟨d, e, h2⟩ := h1.lft
  obtain ⟨e1, rfl⟩ := guardO_some e
  exact ⟨by rw [← r.length, ← lim_eq]; exact of_decide_eq_true e1, fun p hp => (h2.wn s1).lst k1 hp r⟩
/-! operators -/
theorem r_bin {o : Bop} {a b : E} {σ : Stt} {H : Hp} {Q : VK} (ha : lev a ≤ 1) (hb : lev b ≤ 1) (h : tX P W (ev G (.bin o a b) .v) (RN P) σ H Q) :
    tOp (rBin P.K o) (tX P W (ev G a .v) (RV P (lev a))) (tX P W (ev G b .v) (RV P (lev b))) σ H Q := by
  obtain ⟨os, Z, w, env, ad, B, k, sl, h⟩ := h
  have h : Out P W σ os Z H (bnd (ev G a .v env) (fun x => bnd (ev G b .v env) fun y => lft (D.bin o x y)) w) _ := h
  refine tX_intro k sl h.bnd fun x w1 os1 Z1 H1 v s1 k1 sl1 r h1 => ?_
  refine tX_intro k1 sl1 h1.bnd fun y w2 os2 Z2 H2 u s2 k2 sl2 r' h2 => ?_
  obtain ⟨d, e, h3⟩ := h2.lft
  exact bin_ok k2 ((LR.step s2 r).le ha) (LR.le hb r') e (h3.wn (s1.then s2))
theorem r_neg {a : E} {σ : Stt} {H : Hp} {Q : VK} (ha : lev a = 0) (h : tX P W (ev G (.neg a) .v) (RV P 0) σ H Q) :
    tUn (rU fun i => .int (-i)) (tX P W (ev G a .v) (RV P (lev a))) σ H Q := by
  obtain ⟨os, Z, w, env, ad, B, k, sl, h⟩ := h
  have h : Out P W σ os Z H (bnd (ev G a .v env) (fun x => lft (negD x)) w) _ := h
  refine tX_intro k sl h.bnd fun x w1 os1 Z1 H1 v s1 k1 sl1 r h1 => ?_
  obtain ⟨d, e, h2⟩ := h1.lft
  cases x <;> first | (cases e; done) | skip
  cases e
  exact ⟨_, LR.int r, h2.ret k1 _ (by show Rep P os1 Z1 _ _; unfold Rep; rfl)⟩
theorem r_cmp {o : Cop} {a b : E} {md : Md} {σ : Stt} {H : Hp} {Q : VK} (ha : lev a ≤ 1) (hb : lev b ≤ 1) (h : tX P W (ev G (.cmp o a b) md) (RV P 0) σ H Q) :
    tOp (rCmp P.K P.wo o) (tX P W (ev G a .v) (RV P (lev a))) (tX P W (ev G b .v) (RV P (lev b))) σ H Q := by
  obtain ⟨os, Z, w, env, ad, B, k, sl, h⟩ := h
  have h : Out P W σ os Z H (bnd (ev G a .v env) (fun x => bnd (ev G b .v env) fun y => lft ((D.cmp o x y).map D.bl)) w) _ := h
  refine tX_intro k sl h.bnd fun x w1 os1 Z1 H1 v s1 k1 sl1 r h1 => ?_
  refine tX_intro k1 sl1 h1.bnd fun y w2 os2 Z2 H2 u s2 k2 sl2 r' h2 => ?_
  obtain ⟨d, e, h3⟩ := h2.lft
  obtain ⟨b', e2, rfl⟩ := Option.map_eq_some_iff.mp e
  exact cmp_ok k2 ((LR.step s2 r).le ha) (LR.le hb r') e2 (h3.ret k2 _ (by show Rep P os2 Z2 _ _; unfold Rep; rfl))
theorem t_bl {m : Env → M D} {σ : Stt} {H : Hp} {Q : Bool → Hp → Prop} (hb : ∀ env w d w', m env w = .ok d w' → ∃ b, d = .bl b) (h : tX P W m RB σ H Q) : tX P W m (RV P 0) σ H fun x H' => ∃ k, x = .bl k ∧ Q k H' := by
  obtain ⟨os, Z, w, env, ad, B, k, sl, h⟩ := h
  refine ⟨os, Z, w, env, ad, B, k, sl, ?_⟩
  cases q : m env w with
  | no => rw [q] at h; exact h
  | exn c f w1 => rw [q] at h; exact h
  | ok d w1 =>
    rw [q] at h
    intro os' Z' H' st k' v r
    obtain ⟨b, rfl⟩ := hb _ _ _ _ q
    have r : Rep P os' Z' (.bl b) v := r
    unfold Rep at r
    exact ⟨b, r, h os' Z' H' st k' b rfl⟩
theorem bnd_ok {α β : Type} {m : M α} {f : α → M β} {w w' : Wd} {b : β} (h : bnd m f w = .ok b w') : ∃ a w1, m w = .ok a w1 ∧ f a w1 = .ok b w' := by
  unfold bnd at h
  cases q : m w with
  | ok a w1 => rw [q] at h; exact ⟨a, w1, rfl, h⟩
  | exn c f w1 => rw [q] at h; cases h
  | no => rw [q] at h; cases h
theorem lft_ok {α : Type} {x : Option α} {w w' : Wd} {a : α} (h : lft x w = .ok a w') : x = some a ∧ w' = w := by
  cases x with
  | none => cases h
  | some b => cases h; exact ⟨rfl, rfl⟩
theorem cmp_bl {o : Cop} {a b : E} {md : Md} (env : Env) (w : Wd) (d : D) (w' : Wd) (h : ev G (.cmp o a b) md env w = .ok d w') : ∃ k, d = .bl k := by
  obtain ⟨x, w1, _, h⟩ := bnd_ok h
  obtain ⟨y, w2, _, h⟩ := bnd_ok h
  obtain ⟨e, _⟩ := lft_ok h
  obtain ⟨k, _, rfl⟩ := Option.map_eq_some_iff.mp e
  exact ⟨k, rfl⟩
theorem r_chain {o o' : Cop} {a b d : E} {md : Md} {σ : Stt} {H : Hp} {Q : VK} (ha : lev a ≤ 1) (hb : lev b ≤ 1) (hd : lev d ≤ 1) (h : tX P W (ev G (.chain o o' a b d) md) (RV P 0) σ H Q) :
    tChain (rCmp P.K P.wo o) (rCmp P.K P.wo o') (tX P W (ev G a .v) (RV P (lev a))) (tX P W (ev G b .v) (RV P (lev b))) (tX P W (ev G d .v) (RV P (lev d))) σ H Q := by
  obtain ⟨os, Z, w, env, ad, B, k, sl, h⟩ := h
  have h : Out P W σ os Z H (bnd (ev G a .v env) (fun x => bnd (ev G b .v env) fun y => bnd (lft (D.cmp o x y)) fun k =>
      if k then bnd (ev G d .v env) fun z => lft ((D.cmp o' y z).map D.bl) else ret (D.bl false)) w) _ := h
  refine tX_intro k sl h.bnd fun x w1 os1 Z1 H1 v s1 k1 sl1 r h1 => ?_
  refine tX_intro k1 sl1 h1.bnd fun y w2 os2 Z2 H2 u s2 k2 sl2 r' h2 => ?_
  obtain ⟨c1, e, h3⟩ := h2.bnd.lft
  refine cmp_ok k2 ((LR.step s2 r).le ha) (LR.le hb r') e ⟨c1, rfl, ?_⟩
  have h4 := h3.ret k2
  cases c1 with
  | false => exact h4.ret k2 _ (by show Rep P os2 Z2 _ _; unfold Rep; rfl)
  | true =>
    refine tX_intro k2 sl2 h4.bnd fun z w3 os3 Z3 H3 t s3 k3 sl3 r'' h5 => ?_
    obtain ⟨d', e2, h6⟩ := h5.lft
    obtain ⟨b', e3, rfl⟩ := Option.map_eq_some_iff.mp e2
    exact cmp_ok k3 ((LR.step s3 r').le hb) (LR.le hd r'') e3 (h6.ret k3 _ (by show Rep P os3 Z3 _ _; unfold Rep; rfl))
theorem chain_bl {o o' : Cop} {a b d : E} {md : Md} (env : Env) (w : Wd) (x : D) (w' : Wd) (h : ev G (.chain o o' a b d) md env w = .ok x w') : ∃ k, x = .bl k := by
  obtain ⟨x, w1, _, h⟩ := bnd_ok h
  obtain ⟨y, w2, _, h⟩ := bnd_ok h
  obtain ⟨k, w3, _, h⟩ := bnd_ok h
  cases k with
  | false => cases h; exact ⟨_, rfl⟩
  | true =>
    obtain ⟨z, w4, _, h⟩ := bnd_ok h
    obtain ⟨e, _⟩ := lft_ok h
    obtain ⟨k, _, rfl⟩ := Option.map_eq_some_iff.mp e
    exact ⟨k, rfl⟩
theorem isNon_eq {d : D} {v : V} {n : Nat} {os : List Addr} {Z H : Hp} (r : LR P os Z H n d v) (hf : ∀ f, d ≠ .fn f) : isNon d = decide (v = .non) := by
  cases d with
  | non => rw [r.non]; rfl
  | bl b => rw [r.bl]; rfl
  | int i => rw [r.int]; rfl
  | str x => rw [r.str]; rfl
  | tup ds => obtain ⟨a, vs, rfl, _⟩ := (r.notLst rfl).tup; rfl
  | lst ds =>
    cases n with
    | zero => obtain ⟨a, vs, rfl, _⟩ := Rep.lst r; rfl
    | succ n =>
      rcases r with r | ⟨a, vs, _, _, rfl, _⟩ | ⟨_, _, _, rfl, _⟩
      · obtain ⟨a, vs, rfl, _⟩ := Rep.lst r; rfl
      · rfl
      · rfl
  | dct kvs => obtain ⟨a, rfl⟩ := r.dref; rfl
  | fn f => exact absurd rfl (hf f)
  | obj m =>
    have := r.notLst rfl
    unfold Rep at this
    obtain ⟨a, rfl, _⟩ := this
    rfl
  | scr ns => obtain ⟨a, rfl, _⟩ := (r.notLst rfl).scr; rfl
theorem fn_none {n f : Nat} {v : V} {os : List Addr} {Z H : Hp} (h : LR P os Z H n (.fn f) v) : False := by
  have := h.notLst rfl
  unfold Rep at this
  exact this
theorem isNon_lr {d : D} {v : V} {n : Nat} {os : List Addr} {Z H : Hp} (r : LR P os Z H n d v) : isNon d = decide (v = .non) :=
  isNon_eq r fun f e => by subst e; exact fn_none r
theorem r_isn {a : E} {md : Md} {σ : Stt} {H : Hp} {Q : VK} (h : tX P W (ev G (.isn a) md) (RV P 0) σ H Q) : tIsN (tX P W (ev G a .v) (RV P (lev a))) σ H Q := by
  obtain ⟨os, Z, w, env, ad, B, k, sl, h⟩ := h
  have h : Out P W σ os Z H (bnd (ev G a .v env) (fun x => ret (D.bl (isNon x))) w) _ := h
  refine tX_intro k sl h.bnd fun x w1 os1 Z1 H1 v s1 k1 sl1 r h1 => ?_
  rw [← isNon_lr r]
  exact h1.ret k1 _ (by show Rep P os1 Z1 _ _; unfold Rep; rfl)
theorem r_notn {a : E} {md : Md} {σ : Stt} {H : Hp} {Q : VK} (h : tX P W (ev G (.notn a) md) (RV P 0) σ H Q) : tNotN (tX P W (ev G a .v) (RV P (lev a))) σ H Q := by
  obtain ⟨os, Z, w, env, ad, B, k, sl, h⟩ := h
  have h : Out P W σ os Z H (bnd (ev G a .v env) (fun x => ret (D.bl (!isNon x))) w) _ := h
  refine tX_intro k sl h.bnd fun x w1 os1 Z1 H1 v s1 k1 sl1 r h1 => ?_
  rw [← isNon_lr r]
  exact h1.ret k1 _ (by show Rep P os1 Z1 _ _; unfold Rep; rfl)
theorem isn_bl {a : E} {md : Md} (env : Env) (w : Wd) (x : D) (w' : Wd) (h : ev G (.isn a) md env w = .ok x w') : ∃ k, x = .bl k := by
  obtain ⟨x, w1, _, h⟩ := bnd_ok h
  cases h; exact ⟨_, rfl⟩
theorem notn_bl {a : E} {md : Md} (env : Env) (w : Wd) (x : D) (w' : Wd) (h : ev G (.notn a) md env w = .ok x w') : ∃ k, x = .bl k := by
  obtain ⟨x, w1, _, h⟩ := bnd_ok h
  cases h; exact ⟨_, rfl⟩
theorem r_ist {a : E} {b : Bool} {md : Md} {σ : Stt} {H : Hp} {Q : VK} (h : tX P W (ev G (.ist a b) md) (RV P 0) σ H Q) : tIsB b (tX P W (ev G a .v) (RV P (lev a))) σ H Q := by
  obtain ⟨os, Z, w, env, ad, B, k, sl, h⟩ := h
  have h : Out P W σ os Z H (bnd (ev G a .v env) (fun x => lft ((isB b x).map D.bl)) w) _ := h
  refine tX_intro k sl h.bnd fun x w1 os1 Z1 H1 v s1 k1 sl1 r h1 => ?_
  obtain ⟨d, e, h2⟩ := h1.lft
  obtain ⟨c, e2, rfl⟩ := Option.map_eq_some_iff.mp e
  cases x <;> first | (cases e2; done) | skip
  cases e2
  exact ⟨_, LR.bl r, h2.ret k1 _ (by show Rep P os1 Z1 _ _; unfold Rep; rfl)⟩
theorem ist_bl {a : E} {b : Bool} {md : Md} (env : Env) (w : Wd) (x : D) (w' : Wd) (h : ev G (.ist a b) md env w = .ok x w') : ∃ k, x = .bl k := by
  obtain ⟨x, w1, _, h⟩ := bnd_ok h
  obtain ⟨e, _⟩ := lft_ok h
  obtain ⟨k, _, rfl⟩ := Option.map_eq_some_iff.mp e
  exact ⟨k, rfl⟩
/-! not, and, or, if -/
theorem r_notV {a : E} {σ : Stt} {H : Hp} {Q : VK} (K : X.K = P.K) (h : tX P W (ev G (.not a) .v) (RV P 0) σ H Q) : tNotT X.K (tX P W (ev G a .v) (RV P (lev a))) σ H Q := by
  obtain ⟨os, Z, w, env, ad, B, k, sl, h⟩ := h
  have h : Out P W σ os Z H (bnd (ev G a .v env) (fun x => lft (x.truth.map fun b => D.bl (!b))) w) _ := h
  refine tX_intro k sl h.bnd fun x w1 os1 Z1 H1 v s1 k1 sl1 r h1 => ?_
  obtain ⟨d, e, h2⟩ := h1.lft
  obtain ⟨b, e2, rfl⟩ := Option.map_eq_some_iff.mp e
  exact ⟨b, by rw [K]; exact tru_of k1.zh r e2, h2.ret k1 _ (by show Rep P os1 Z1 _ _; unfold Rep; rfl)⟩
theorem r_notT {a : E} {σ : Stt} {H : Hp} {Q : Bool → Hp → Prop} (h : tX P W (ev G (.not a) .t) RB σ H Q) : tNot (tX P W (ev G a .t) RB) σ H Q := by
  obtain ⟨os, Z, w, env, ad, B, k, sl, h⟩ := h
  have h : Out P W σ os Z H (bnd (ev G a .t env) (fun x => lft ((toB x).map fun b => D.bl (!b))) w) _ := h
  refine tX_intro k sl h.bnd fun x w1 os1 Z1 H1 v s1 k1 sl1 r h1 => ?_
  obtain ⟨d, e, h2⟩ := h1.lft
  have r : x = .bl v := r
  subst r
  cases e
  exact h2.ret k1 _ rfl
theorem r_ite {α : Type} {c a b : Env → M D} {R : D → List Addr → Hp → Hp → Hp → α → Prop} (hR : ∀ d os Z H0 H1 H v, R d os Z H1 H v → R d os Z H0 H v) {σ : Stt} {H : Hp} {Q : α → Hp → Prop} (h : tX P W (fun env => iteM (c env) (a env) (b env)) R σ H Q) :
    tX P W c RB σ H fun k H1 => if k = true then tX P W a R σ H1 Q else tX P W b R σ H1 Q := by
  obtain ⟨os, Z, w, env, ad, B, k, sl, h⟩ := h
  refine tX_intro k sl h.bnd fun x w1 os1 Z1 H1 v s1 k1 sl1 r h1 => ?_
  have r : x = .bl v := r
  subst r
  cases v with
  | true => exact tX_intro k1 sl1 h1 fun d w2 os2 Z2 H2 v s2 k2 sl2 r h2 => h2 v (hR _ _ _ _ _ _ _ r)
  | false => exact tX_intro k1 sl1 h1 fun d w2 os2 Z2 H2 v s2 k2 sl2 r h2 => h2 v (hR _ _ _ _ _ _ _ r)
theorem r_andV {a b : E} {σ : Stt} {H : Hp} {Q : VK} (K : X.K = P.K) (ha : lev a = 0) (hb : lev b = 0) (h : tX P W (ev G (.and a b) .v) (RV P 0) σ H Q) :
    tAndT X.K (tX P W (ev G a .v) (RV P (lev a))) (tX P W (ev G b .v) (RV P (lev b))) σ H Q := by
  obtain ⟨os, Z, w, env, ad, B, k, sl, h⟩ := h
  have h : Out P W σ os Z H (bnd (ev G a .v env) (fun x => bnd (lft x.truth) fun c => if c then ev G b .v env else ret x) w) _ := h
  refine tX_intro k sl h.bnd fun x w1 os1 Z1 H1 v s1 k1 sl1 r h1 => ?_
  obtain ⟨c1, e, h2⟩ := h1.bnd.lft
  refine ⟨c1, by rw [K]; exact tru_of k1.zh r e, ?_⟩
  have h4 := h2.ret k1
  cases c1 with
  | true => exact tX_intro k1 sl1 h4 fun d w2 os2 Z2 H2 v s2 k2 sl2 r h2 => h2 v (by rw [hb] at r; exact r)
  | false => exact h4.ret k1 _ (by rw [ha] at r; exact r)
theorem r_orV {a b : E} {σ : Stt} {H : Hp} {Q : VK} (K : X.K = P.K) (ha : lev a = 0) (hb : lev b = 0) (h : tX P W (ev G (.or a b) .v) (RV P 0) σ H Q) :
    tOrT X.K (tX P W (ev G a .v) (RV P (lev a))) (tX P W (ev G b .v) (RV P (lev b))) σ H Q := by
  obtain ⟨os, Z, w, env, ad, B, k, sl, h⟩ := h
  have h : Out P W σ os Z H (bnd (ev G a .v env) (fun x => bnd (lft x.truth) fun c => if c then ret x else ev G b .v env) w) _ := h
  refine tX_intro k sl h.bnd fun x w1 os1 Z1 H1 v s1 k1 sl1 r h1 => ?_
  obtain ⟨c1, e, h2⟩ := h1.bnd.lft
  refine ⟨c1, by rw [K]; exact tru_of k1.zh r e, ?_⟩
  have h4 := h2.ret k1
  cases c1 with
  | true => exact h4.ret k1 _ (by rw [ha] at r; exact r)
  | false => exact tX_intro k1 sl1 h4 fun d w2 os2 Z2 H2 v s2 k2 sl2 r h2 => h2 v (by rw [hb] at r; exact r)
theorem rb_true {σ : Stt} {H : Hp} {Q : Bool → Hp → Prop} {b : Bool} (h : tX P W (fun _ => ret (.bl b)) RB σ H Q) : Q b H := by
  obtain ⟨os, Z, w, env, ad, B, k, sl, h⟩ := h
  exact h.ret k b rfl
theorem pt_ifExpT {c a b : Expr} {pos : Pos} {tc ta tb : TT} (hc : PT X c tc) (ha : PT X a ta) (hb : PT X b tb) : PT X (.IfExp c a b pos) (fun σ H Q => tc σ H fun k H1 => if k = true then ta σ H1 Q else tb σ H1 Q) := by
  refine ⟨fun pins s σ H Q I h => ?_⟩
  show wpAny _ _ (do if ← isTrue c X.env (eval c X.env) then isTrue a X.env (eval a X.env) else isTrue b X.env (eval b X.env)) _ _ s
  refine wpAny_bind (thn (hc.run pins s σ H _ I h) fun d s1 ⟨H1, I1, q1⟩ => ?_)
  cases d with
  | true => exact ha.run pins s1 σ H1 Q I1 q1
  | false => exact hb.run pins s1 σ H1 Q I1 q1
/-! calls -/
theorem r_call {f : Nat} {es : Es} {bw : List Bool} {σ : Stt} {H : Hp} {Q : VK} (h : tX P W (ev G (.call f es) .v) (RV P 0) σ H Q) :
    tCallSD (spOf P G f bw) [] (WE W) (tX P W (evs G es) (RL P bw)) σ H Q := by
  obtain ⟨os, Z, w, env, ad, B, k, sl, h⟩ := h
  have h : Out P W σ os Z H (bnd (evs G es env) (fun ds => G.call f ds) w) _ := h
  have h' := h.bnd
  revert h'
  intro h'
  refine ⟨os, Z, w, env, ad, B, k, sl, ?_⟩
  cases q : evs G es env w with
  | no => rw [q] at h'; exact h'
  | exn c g w1 => rw [q] at h'; exact h'
  | ok ds w1 =>
    rw [q] at h'
    intro os1 Z1 H1 s1 k1 vs r
    refine ⟨os1, Z1, w1, ds, k1, by rw [List.append_nil]; exact r, ?_⟩
    have h2 : Out P W σ os1 Z1 H1 (G.call f ds w1) (fun a _ os' Z' H' => ∀ v, RV P 0 a os' Z' H H' v → Q v H') := h' os1 Z1 H1 s1 k1
    revert h2
    cases G.call f ds w1 with
    | no => exact fun h => h
    | exn c g w2 => exact fun h => h
    | ok d w2 => exact fun h => h
theorem r_blt {b : Bl1} {a : E} {σ : Stt} {H : Hp} {Q : VK} (ha : lev a ≤ 1 ∨ b = .len) (hb : blOk b = true) (h : tX P W (ev G (.blt b a) .v) (RN P) σ H Q) :
    tCB (rB1 P.K P.wo b) (tCons (tX P W (ev G a .v) (RV P (lev a))) tNil) σ H Q := by
  obtain ⟨os, Z, w, env, ad, B, k, sl, h⟩ := h
  have h : Out P W σ os Z H (bnd (ev G a .v env) (fun x => lft (bl1 b x)) w) _ := h
  refine tX_intro k sl h.bnd fun x w1 os1 Z1 H1 v s1 k1 sl1 r h1 => ?_
  obtain ⟨d, e, h2⟩ := h1.lft
  exact bl1_ok k1 r ha (by cases b <;> first | (cases hb; done) | decide) e (h2.wn s1)
theorem r_rng {a : E} {σ : Stt} {H : Hp} {Q : VK} (ha : lev a = 0) (h : tX P W (ev G (.rng a) .v) (RN P) σ H Q) :
    tLstRg (tRg1 (tX P W (ev G a .v) (RV P (lev a)))) σ H Q := by
  obtain ⟨os, Z, w, env, ad, B, k, sl, h⟩ := h
  have h : Out P W σ os Z H (bnd (ev G a .v env) (fun x => lft ((toI x).bind fun n => guardO (okRng n && decide (n ≤ 1000000)) (some (D.lst (rngL 0 n))))) w) _ := h
  refine tX_intro k sl h.bnd fun x w1 os1 Z1 H1 v s1 k1 sl1 r h1 => ?_
  obtain ⟨d, e, h2⟩ := h1.lft
  obtain ⟨n, e1, e2⟩ := Option.bind_eq_some_iff.mp e
  obtain ⟨e3, rfl⟩ := guardO_some e2
  cases x <;> first | (cases e1; done) | skip
  cases e1
  unfold okRng at e3
  simp only [Bool.and_eq_true, decide_eq_true_eq] at e3
  refine ⟨n, LR.int r, ⟨by decide, by decide, e3.1.1, e3.1.2, by omega⟩, fun p hp => (h2.wn s1).lst k1 hp ?_⟩
  unfold rngL rgV
  rw [reps_paired]
  generalize List.range (n - 0).toNat = l
  induction l with
  | nil => exact .nil
  | cons j l ih => exact .cons (by show Rep P os1 Z1 _ _; unfold Rep; rfl) ih
theorem tyV_list {da : D} {a : V} {os : List Addr} {w : Wd} {Z H : Hp} (k : Ok P os w Z H) (r : LR P os Z H 1 da a) (h : isLst da = true) : tyV P.K "list" a H := by
  cases da <;> first | (cases h; done) | skip
  obtain ⟨p, vs, rfl, hp, _⟩ := r.lst k.zh
  exact .inl ⟨rfl, vs, .of hp⟩
theorem needL_some {d e : D} (h : needL d = some e) : e = d ∧ isLst d = true := by
  cases d <;> first | (cases h; done) | skip
  cases h; exact ⟨rfl, rfl⟩
theorem r_cnt {a x : E} {σ : Stt} {H : Hp} {Q : VK} (ha : lev a ≤ 1) (hx : lev x = 0) (h : tX P W (ev G (.cnt a x) .v) (RV P 0) σ H Q) :
    tBM P.K "list" (rCntI P.K) (tX P W (ev G a .v) (RV P (lev a))) (tCons (tX P W (ev G x .v) (RV P (lev x))) tNil) σ H Q := by
  obtain ⟨os, Z, w, env, ad, B, k, sl, h⟩ := h
  have h : Out P W σ os Z H (bnd (bnd (ev G a .v env) fun a => lft (needL a)) (fun a => bnd (ev G x .v env) fun x => lft (cntD a x)) w) _ := h
  refine tX_intro k sl h.bnd.bnd fun da w1 os1 Z1 H1 v s1 k1 sl1 r h1 => ?_
  obtain ⟨d0, e, h2⟩ := h1.lft
  obtain ⟨hd, hl⟩ := needL_some e
  subst hd
  refine ⟨tyV_list k1 (r.le ha) hl, ?_⟩
  refine tX_intro k1 sl1 (h2.ret k1).bnd fun dx w2 os2 Z2 H2 u s2 k2 sl2 r' h3 => ?_
  obtain ⟨d, e, h4⟩ := h3.lft
  rw [hx] at r'
  exact cnt_ok k2 ((LR.step s2 r).le ha) r' e fun v os3 Z3 H3 st kk n => h4 os3 Z3 H3 st kk v (.of (by cases d0 <;> cases dx <;> first | (cases e; done) | (obtain ⟨_, _, rfl⟩ := Option.map_eq_some_iff.mp e; exact n)))
theorem r_idx {a x : E} {σ : Stt} {H : Hp} {Q : VK} (ha : lev a ≤ 1) (hx : lev x = 0) (h : tX P W (ev G (.idx a x) .v) (RV P 0) σ H Q) :
    tBM P.K "list" (rIndexD P.K) (tX P W (ev G a .v) (RV P (lev a))) (tCons (tX P W (ev G x .v) (RV P (lev x))) tNil) σ H Q := by
  obtain ⟨os, Z, w, env, ad, B, k, sl, h⟩ := h
  have h : Out P W σ os Z H (bnd (bnd (ev G a .v env) fun a => lft (needL a)) (fun a => bnd (ev G x .v env) fun x => lft (idxD a x)) w) _ := h
  refine tX_intro k sl h.bnd.bnd fun da w1 os1 Z1 H1 v s1 k1 sl1 r h1 => ?_
  obtain ⟨d0, e, h2⟩ := h1.lft
  obtain ⟨hd, hl⟩ := needL_some e
  subst hd
  refine ⟨tyV_list k1 (r.le ha) hl, ?_⟩
  refine tX_intro k1 sl1 (h2.ret k1).bnd fun dx w2 os2 Z2 H2 u s2 k2 sl2 r' h3 => ?_
  obtain ⟨d, e, h4⟩ := h3.lft
  rw [hx] at r'
  refine idx_ok k2 ((LR.step s2 r).le ha) r' e fun v os3 Z3 H3 st kk n => h4 os3 Z3 H3 st kk v (.of ?_)
  cases d0 <;> first | (cases hl; done) | skip
  simp only [idxD] at e
  split at e
  · obtain ⟨_, _, rfl⟩ := Option.map_eq_some_iff.mp e; exact n
  · cases e
/-! subscripts, slices -/
theorem obj_get {os : List Addr} {Z H : Hp} {w : Wd} {n : Nat} {ds : List D} (k : Ok P os w Z H) {v : V} (r : Rep P os Z (.obj n) v) (hw : w[n]? = some (.cells ds)) : ∃ a vs, v = .ref a ∧ os[n]? = some a ∧ H a = some (.lst vs) ∧ Reps P os Z ds vs := by
  unfold Rep at r
  obtain ⟨a, rfl, h1⟩ := r
  obtain ⟨vs, h2, h3⟩ := k.obj n a _ h1 hw
  exact ⟨a, vs, rfl, h1, h2, h3⟩
theorem r_ix {a i : E} {σ : Stt} {H : Hp} {Q : VK} (hi : lev i = 0) (h : tX P W (ev G (.ix a i) .v) (RV P (lev a - 1)) σ H Q) :
    tOp (rIxA P.K P.wo) (tX P W (ev G a .v) (RV P (lev a))) (tX P W (ev G i .v) (RV P (lev i))) σ H Q := by
  obtain ⟨os, Z, w, env, ad, B, k, sl, h⟩ := h
  have h : Out P W σ os Z H (bnd (ev G a .v env) (fun a => bnd (ev G i .v env) fun i => ixM a i) w) _ := h
  refine tX_intro k sl h.bnd fun da w1 os1 Z1 H1 v s1 k1 sl1 r h1 => ?_
  refine tX_intro k1 sl1 h1.bnd fun di w2 os2 Z2 H2 u s2 k2 sl2 r' h2 => ?_
  rw [hi] at r'
  have r2 : LR P os2 Z2 H2 (lev a) da v := LR.step s2 r
  have plain : ∀ {d : D}, Out P W σ os2 Z2 H2 (ret d w2) (fun d w' os' Z' H' => ∀ v, RV P (lev a - 1) d os' Z' H H' v → Q v H') → D.ix da di = some d → rIxA P.K P.wo v u H2 Q := by
    intro d h4 e
    refine ix_ok k2.zh (n := lev a - 1) (LR.le (by omega) r2) r' e fun v rv => h4.ret k2 v rv
  cases da with
  | obj n =>
    have h2 : Out P W σ os2 Z2 H2 (match w2[n]?, di with
      | some (.cells ds), .int k => (match L2.atI ds k with
        | some d => .ok d w2
        | none => .no)
      | _, _ => .no) _ := h2
    split at h2
    · rename_i ds kk hw _
      split at h2
      · rename_i d hd
        obtain ⟨ad2, vs, rfl, h5, h6, h7⟩ := obj_get k2 (r2.notLst rfl) hw
        obtain ⟨z, h8, h9⟩ := atI_paired (reps_paired.mp h7) hd
        have r' : Rep P os2 Z2 (.int kk) u := r'
        unfold Rep at r'
        exact .inl <| .inl ⟨ad2, vs, kk, z, rfl, r', .of h6, h8, h2 os2 Z2 H2 Step.refl k2 z (.of h9)⟩
      · exact h2.elim
    · exact h2.elim
  | non => obtain ⟨d, e, h4⟩ := Out.lft (x := D.ix .non di) h2; exact plain h4 e
  | bl b => obtain ⟨d, e, h4⟩ := Out.lft (x := D.ix (.bl b) di) h2; exact plain h4 e
  | int b => obtain ⟨d, e, h4⟩ := Out.lft (x := D.ix (.int b) di) h2; exact plain h4 e
  | str b => obtain ⟨d, e, h4⟩ := Out.lft (x := D.ix (.str b) di) h2; exact plain h4 e
  | tup b => obtain ⟨d, e, h4⟩ := Out.lft (x := D.ix (.tup b) di) h2; exact plain h4 e
  | lst b => obtain ⟨d, e, h4⟩ := Out.lft (x := D.ix (.lst b) di) h2; exact plain h4 e
  | dct b => obtain ⟨d, e, h4⟩ := Out.lft (x := D.ix (.dct b) di) h2; exact plain h4 e
  | fn b => obtain ⟨d, e, h4⟩ := Out.lft (x := D.ix (.fn b) di) h2; exact plain h4 e
  | scr b => obtain ⟨d, e, h4⟩ := Out.lft (x := D.ix (.scr b) di) h2; exact plain h4 e
theorem r_part {e : E} {σ : Stt} {H : Hp} {Q : Option Int → Hp → Prop} (he : lev e = 0) (h : tX P W (evO G (.some e)) RO σ H Q) : tPart (tX P W (ev G e .v) (RV P (lev e))) σ H Q := by
  obtain ⟨os, Z, w, env, ad, B, k, sl, h⟩ := h
  have h : Out P W σ os Z H (bnd (ev G e .v env) (fun d => lft ((toI d).map some)) w) _ := h
  refine tX_intro k sl h.bnd fun x w1 os1 Z1 H1 v s1 k1 sl1 r h1 => ?_
  obtain ⟨d, e1, h2⟩ := h1.lft
  cases x <;> first | (cases e1; done) | skip
  cases e1
  exact ⟨_, LR.int r, h2.ret k1 _ rfl⟩
theorem r_nopart {σ : Stt} {H : Hp} {Q : Option Int → Hp → Prop} (h : tX P W (evO G .none) RO σ H Q) : tNoPart σ H Q := by
  obtain ⟨os, Z, w, env, ad, B, k, sl, h⟩ := h
  exact h.ret k none rfl
theorem r_sl {a : E} {lo hi : Eo} {σ : Stt} {H : Hp} {Q : VK} (ha : lev a ≤ 1) (h : tX P W (ev G (.sl a lo hi) .v) (RN P) σ H Q) :
    tSl (rSlc P.K) (tX P W (ev G a .v) (RV P (lev a))) (tX P W (evO G lo) RO) (tX P W (evO G hi) RO) σ H Q := by
  obtain ⟨os, Z, w, env, ad, B, k, sl, h⟩ := h
  have h : Out P W σ os Z H (bnd (ev G a .v env) (fun a => bnd (evO G lo env) fun lo => bnd (evO G hi env) fun hi => lft (D.sl a lo hi)) w) _ := h
  refine tX_intro k sl h.bnd fun da w1 os1 Z1 H1 v s1 k1 sl1 r h1 => ?_
  refine tX_intro k1 sl1 h1.bnd fun l w2 os2 Z2 H2 u s2 k2 sl2 r2 h2 => ?_
  refine tX_intro k2 sl2 h2.bnd fun l' w3 os3 Z3 H3 u' s3 k3 sl3 r3 h3 => ?_
  obtain ⟨d, e, h4⟩ := h3.lft
  have r2 : l = u := r2
  have r3 : l' = u' := r3
  subst r2 r3
  exact sl_ok k3 ((LR.step s3 (LR.step s2 r)).le ha) e (h4.wn ((s1.then s2).then s3))
theorem r_rev {a : E} {σ : Stt} {H : Hp} {Q : VK} (ha : lev a ≤ 1) (h : tX P W (ev G (.rev a) .v) (RN P) σ H Q) : tRevA P.K (tX P W (ev G a .v) (RV P (lev a))) σ H Q := by
  obtain ⟨os, Z, w, env, ad, B, k, sl, h⟩ := h
  have h : Out P W σ os Z H (bnd (ev G a .v env) (fun a => lft (D.rev a)) w) _ := h
  refine tX_intro k sl h.bnd fun da w1 os1 Z1 H1 v s1 k1 sl1 r h1 => ?_
  obtain ⟨d, e, h2⟩ := h1.lft
  exact rev_ok k1 (r.le ha) e (h2.wn s1)
section
variable {os os' os1 : List Addr} {Z Z' Z1 H H' H1 H0 : Hp} {w w' : Wd} {env env' : Env} {ad : Nat → List Addr} {B : Addr → Prop} {σ : Stt}
theorem tX_ok {α β : Type} {m : Env → M α} {a : α} {R : α → List Addr → Hp → Hp → Hp → β → Prop} {Q : β → Hp → Prop} (k : Ok P os w Z H) (sl : Slots P B env σ ad os Z H) (e : m env w = .ok a w')
    (h : ∀ os' Z' H' v, Step (Ex H) os Z H os' Z' H' → Ok P os' w' Z' H' → Slots P B env σ ad os' Z' H' → R a os' Z' H H' v → Q v H') : tX P W m R σ H Q :=
  ⟨os, Z, w, env, ad, B, k, sl, by rw [e]; exact fun os' Z' H' st k' v r => h os' Z' H' v st k' (sl.step st) r⟩
theorem Ok.updOwn {D : Addr} {o : HO} {u0 : HO} (k : Ok P os w Z H) (hz : Z D = none) (n : D ∉ os) (hu : H D = some u0) (pl : Pl D u0) : Ok P os w Z (upd H D o) := by
  refine ⟨fun a u h => ?_, k.nz, k.nd, k.len, fun i a u h1 h2 => ?_, tabs_write k.tb hu pl, k.zt⟩
  · rw [upd_ne (show a ≠ D from fun e => by rw [e, hz] at h; cases h)]; exact k.zh a u h
  · have hne : a ≠ D := fun e => n (e ▸ List.mem_of_getElem? h1)
    have := k.obj i a u h1 h2
    cases u with
    | cells ds =>
      obtain ⟨vs, hv, r⟩ := this
      exact ⟨vs, by rw [upd_ne hne]; exact hv, r⟩
    | inst c fs =>
      obtain ⟨C, dx, vs, e, hv, r⟩ := this
      exact ⟨C, dx, vs, e, by rw [upd_ne hne]; exact hv, r⟩
theorem Step.updOwn {D : Addr} {o : HO} (s : Step B os Z H os' Z' H') (n : ¬ B D) : Step B os Z H os' Z' (upd H' D o) where
  keep := fun a u b h na nt => by rw [upd_ne (show a ≠ D from fun e => n (e ▸ b))]; exact s.keep a u b h na nt
  there := fun a h => by
    by_cases e : a = D
    · subst e; rw [upd_same]; intro z; cases z
    · rw [upd_ne e]; exact s.there a h
  zle := s.zle
  zkeep := s.zkeep
  ext := s.ext
end
/-! dicts -/
theorem r_dct0 {σ : Stt} {H : Hp} {Q : VK} (h : tX P W (ev G (.dct .nil .nil) .v) (RN P) σ H Q) : tDNewN σ H Q := by
  obtain ⟨os, Z, w, env, ad, B, k, sl, h⟩ := h
  have h : Out P W σ os Z H (ret (D.dct []) w) _ := h
  intro p ep hp
  exact (h.wn Step.refl).dct k hp rws_nil .nil
theorem r_dct1 {ke ve : E} {σ : Stt} {H : Hp} {Q : VK} (hk : lev ke = 0) (hv : lev ve = 0) (h : tX P W (ev G (.dct (.cons ke .nil) (.cons ve .nil)) .v) (RN P) σ H Q) :
    tDispN P.wo (tX P W (ev G ke .v) (RV P (lev ke))) (tX P W (ev G ve .v) (RV P (lev ve))) σ H Q := by
  obtain ⟨os, Z, w, env, ad, B, k, sl, h⟩ := h
  have h : Out P W σ os Z H (shut (bnd (evs G (.cons ke .nil) env) fun kd => bnd (evs G (.cons ve .nil) env) fun vd => lft (dctD kd vd)) w) _ := h
  have hb : ∃ dk w1 dv w2 d, ev G ke .v env w = .ok dk w1 ∧ ev G ve .v env w1 = .ok dv w2 ∧ dctD [dk] [dv] = some d ∧ Out P W σ os Z H (.ok d w2) (fun a w' os' Z' H' => ∀ v, RN P a os' Z' H H' v → Q v H') := by
    unfold shut at h
    cases q : (bnd (evs G (.cons ke .nil) env) fun kd => bnd (evs G (.cons ve .nil) env) fun vd => lft (dctD kd vd)) w with
    | no => rw [q] at h; exact h.elim
    | exn c f w2 => rw [q] at h; exact h.elim
    | ok d w2 =>
      rw [q] at h
      obtain ⟨kd, w1, h1, h2⟩ := bnd_ok q
      obtain ⟨vd, w3, h3, h4⟩ := bnd_ok h2
      obtain ⟨e, rfl⟩ := lft_ok h4
      obtain ⟨dk, w4, g1, g2⟩ := bnd_ok (show bnd (ev G ke .v env) (fun d => bnd (evs G .nil env) fun ds => ret (d :: ds)) w = .ok kd w1 from h1)
      cases g2
      obtain ⟨dv, w5, g3, g4⟩ := bnd_ok (show bnd (ev G ve .v env) (fun d => bnd (evs G .nil env) fun ds => ret (d :: ds)) _ = .ok vd w2 from h3)
      cases g4
      exact ⟨dk, _, dv, _, d, g1, g3, e, h⟩
  obtain ⟨dk, w1, dv, w2, d, e1, e2, e3, hK⟩ := hb
  have hkey : D.key dk = true ∧ d = .dct [(dk, dv)] := by
    unfold dctD at e3
    by_cases c : D.key dk = true
    · simp [c, dput] at e3
      exact ⟨c, e3.symm⟩
    · simp [c] at e3
  obtain ⟨ck, rfl⟩ := hkey
  intro p ep hp
  obtain ⟨k0, s0, hz0, n0⟩ := k.allocOwn hp (dRaw p #[] ep)
  refine tX_ok k0 (sl.step s0) e1 fun os1 Z1 H1 y s1 k1 sl1 r => ?_
  refine tX_ok k1 sl1 e2 fun os2 Z2 H2 z s2 k2 sl2 r' => ?_
  rw [hk] at r
  rw [hv] at r'
  have hp0 : upd H p (dRaw p #[] ep) p ≠ none := by rw [upd_same]; exact fun z => nomatch z
  have d1 : H1 p = some (dRaw p #[] ep) := s1.keep p _ hp0 upd_same n0 nt_raw
  have np1 : p ∉ os1 := s1.nin hp0 n0
  have d1n : H1 p ≠ none := by rw [d1]; exact fun z => nomatch z
  have d2 : H2 p = some (dRaw p #[] ep) := s2.keep p _ d1n d1 np1 nt_raw
  have np2 : p ∉ os2 := s2.nin d1n np1
  have z2 : Z2 p = none := s2.zkeep p d1n (s1.zkeep p hp0 hz0)
  obtain ⟨b, rfl, hb⟩ := key_ok ck (Rep.mono s2.zle s2.ex r)
  refine ⟨d2, b, nk dk, rfl, hb.mono k2.zh, fun es' ep' hes => ?_⟩
  refine hK os2 Z2 _ (((s0.then s1).then s2).updOwn (fun z => z hp)) (k2.updOwn z2 np2 d2 pl_raw) (.ref p) ⟨p, rfl, hp, np2, z2, es', ep', [(nk dk, b, z)], upd_same, ⟨hes, ?_, ?_, ?_⟩, .cons ?_ .nil⟩
  · intro q hq
    rcases List.mem_singleton.mp hq with rfl
    exact hb
  · simp
  · rw [sizeLine_eq]; simp
  · unfold RepK
    exact ⟨ck, rfl, r'⟩
theorem needD_some {d e : D} (h : needD d = some e) : e = d ∧ ∃ kvs, d = .dct kvs := by
  cases d <;> first | (cases h; done) | skip
  cases h; exact ⟨rfl, _, rfl⟩
theorem r_get {d kx x : E} {σ : Stt} {H : Hp} {Q : VK} (hd : lev d ≤ 1) (hk : lev kx = 0) (hx : lev x = 0) (h : tX P W (ev G (.get d kx x) .v) (RV P 0) σ H Q) :
    tGetN P.wo (tX P W (ev G d .v) (RV P (lev d))) (tX P W (ev G kx .v) (RV P (lev kx))) (tX P W (ev G x .v) (RV P (lev x))) σ H Q := by
  obtain ⟨os, Z, w, env, ad, B, k, sl, h⟩ := h
  have h : Out P W σ os Z H (bnd (bnd (ev G d .v env) fun d => lft (needD d)) (fun d => bnd (ev G kx .v env) fun k => bnd (ev G x .v env) fun x => lft (getD d k x)) w) _ := h
  refine tX_intro k sl h.bnd.bnd fun dd w1 os1 Z1 H1 v s1 k1 sl1 r h1 => ?_
  obtain ⟨d0, e, h2⟩ := h1.lft
  obtain ⟨rfl, kvs, rfl⟩ := needD_some e
  obtain ⟨a, rfl, es, ep, qs, g1, _⟩ := LR.dct k1.zh r
  refine ⟨⟨a, es, ep, rfl, g1⟩, ?_⟩
  refine tX_intro k1 sl1 (h2.ret k1).bnd fun dk w2 os2 Z2 H2 u s2 k2 sl2 r2 h3 => ?_
  refine tX_intro k2 sl2 h3.bnd fun dx w3 os3 Z3 H3 t s3 k3 sl3 r3 h4 => ?_
  obtain ⟨d, e2, h5⟩ := h4.lft
  rw [hk] at r2
  rw [hx] at r3
  have e2 : (if D.key dk then some ((dget kvs dk).getD dx) else none) = some d := e2
  by_cases ck : D.key dk = true
  · rw [if_pos ck] at e2
    cases e2
    obtain ⟨a', ea, es', ep', qs', g1', g2', g3'⟩ := LR.dct k3.zh (LR.step (s2.then s3) r)
    cases ea
    obtain ⟨b, rfl, hb⟩ := key_ok ck (Rep.mono s3.zle s3.ex r2)
    refine ⟨a, es', ep', qs', b, nk dk, ⟨rfl, rfl, g1', g2'.mono k3.zh, hb.mono k3.zh⟩, h5.ret k3 _ ?_⟩
    cases q : dget kvs dk with
    | none =>
      rw [dget_none ck g3' q]
      exact r3
    | some dq =>
      obtain ⟨qq, f1, f2⟩ := dget_some ck g3' q
      rw [f1]
      exact f2
  · rw [if_neg ck] at e2; cases e2
theorem r_skeys {a : E} {σ : Stt} {H : Hp} {Q : VK} (h : tX P W (ev G (.skeys a) .v) (RN P) σ H Q) :
    tCB (rSortedKV P.K) (tCons (tView kView (tX P W (ev G a .v) (RV P (lev a)))) tNil) σ H Q := by
  obtain ⟨os, Z, w, env, ad, B, k, sl, h⟩ := h
  have h : Out P W σ os Z H (bnd (ev G a .v env) (fun d => lft ((needD d).bind keysD |>.bind sort1D)) w) _ := h
  refine tX_intro k sl h.bnd fun x w1 os1 Z1 H1 v s1 k1 sl1 r h1 => ?_
  obtain ⟨d, e, h2⟩ := h1.lft
  obtain ⟨ks, e1, e2⟩ := Option.bind_eq_some_iff.mp e
  obtain ⟨d0, e3, e4⟩ := Option.bind_eq_some_iff.mp e1
  obtain ⟨rfl, kvs, rfl⟩ := needD_some e3
  cases e4
  obtain ⟨a, rfl, es, ep, qs, g1, g2, g3⟩ := LR.dct k1.zh r
  refine ⟨a, es, ep, rfl, g1, fun p hp => ?_⟩
  obtain ⟨f1, f2⟩ := keys_reps g3 g2.row g2.key
  obtain ⟨k2, s2⟩ := k1.alloc hp (kView p a) (fun _ z => by unfold kView at z; cases z)
  have f3 := f1.mono s2.zle s2.ex
  have hap : a ≠ p := fun e => by rw [e, hp] at g1; cases g1
  have hl : (qs.map fun q => V.ref q.2.1).length ≤ sizeLine := by rw [List.length_map]; exact g2.few
  unfold sort1D at e2
  split at e2
  · rename_i d' e5
    cases e2
    obtain ⟨c, rfl⟩ := sortD_some e5
    have sa := srt_arg k2.zh c f3 hl
    have sr := sorted_srt k2.zh c f3
    refine ⟨p, a, es, ep, _, _, rfl, upd_same, by rw [upd_ne hap]; exact g1, f2, sa, fun p2 hp2 => ?_⟩
    obtain ⟨k3, s3, hz3, np3⟩ := k2.allocOwn hp2 (.lst (srtV (qs.map fun q => V.ref q.2.1) (toPys (kvs.map (·.1)))))
    refine h2 _ _ _ (s2.then s3) k3 (.ref p2) ⟨p2, _, rfl, ?_, np3, hz3, upd_same, sr⟩
    cases q0 : H p2 with
    | none => rfl
    | some o => exact absurd hp2 ((s1.then s2).there p2 (by rw [q0]; intro z; cases z))
  · split at e2
    · rename_i e5
      cases e2
      rw [e5] at f3
      have h5 := Reps.dp k2.zh [.tup []] dpt _ (fun x hx => by rcases List.mem_singleton.mp hx with rfl; rfl) f3
      simp only [toPys, toPy] at h5
      have hq := f3
      unfold Reps at hq
      obtain ⟨v, t, hqs, q1, q2⟩ := hq
      unfold Reps at q2
      subst q2
      have sa : SrtArg P.K _ (qs.map fun q => V.ref q.2.1) [.tuple []] := ⟨h5, by rw [hqs]; rfl, fun x hx y hy => by
        rw [List.mem_singleton.mp hx, List.mem_singleton.mp hy]
        simp [PySem.W.alike, PySem.W.alikeAll], .inr ⟨Nat.le_refl _, fun d hd => by rw [List.mem_singleton.mp hd]; intro z; cases z⟩, fun d hd => by
        rw [List.mem_singleton.mp hd]
        simp [PyData.depth, PyData.depthAll], hl⟩
      have sv : srtV (qs.map fun q => V.ref q.2.1) [.tuple []] = qs.map fun q => V.ref q.2.1 := by
        rw [hqs]
        simp [srtV, List.mergeSort]
      refine ⟨p, a, es, ep, _, _, rfl, upd_same, by rw [upd_ne hap]; exact g1, f2, sa, fun p2 hp2 => ?_⟩
      rw [sv]
      obtain ⟨k3, s3, hz3, np3⟩ := k2.allocOwn hp2 (.lst (qs.map fun q => V.ref q.2.1))
      refine h2 _ _ _ (s2.then s3) k3 (.ref p2) ⟨p2, _, rfl, ?_, np3, hz3, upd_same, f3⟩
      cases q0 : H p2 with
      | none => rfl
      | some o => exact absurd hp2 ((s1.then s2).there p2 (by rw [q0]; intro z; cases z))
    · cases e2
theorem r_lvals {a : E} {σ : Stt} {H : Hp} {Q : VK} (h : tX P W (ev G (.lvals a) .v) (RN P) σ H Q) :
    tCB rListVV (tCons (tView vView (tX P W (ev G a .v) (RV P (lev a)))) tNil) σ H Q := by
  obtain ⟨os, Z, w, env, ad, B, k, sl, h⟩ := h
  have h : Out P W σ os Z H (bnd (ev G a .v env) (fun d => lft ((needD d).bind valsD)) w) _ := h
  refine tX_intro k sl h.bnd fun x w1 os1 Z1 H1 v s1 k1 sl1 r h1 => ?_
  obtain ⟨d, e, h2⟩ := h1.lft
  obtain ⟨d0, e3, e4⟩ := Option.bind_eq_some_iff.mp e
  obtain ⟨rfl, kvs, rfl⟩ := needD_some e3
  cases e4
  obtain ⟨a, rfl, es, ep, qs, g1, g2, g3⟩ := LR.dct k1.zh r
  refine ⟨a, es, ep, rfl, g1, fun p hp => ?_⟩
  obtain ⟨f1, f2⟩ := vals_reps g3 g2.row
  obtain ⟨k2, s2⟩ := k1.alloc hp (vView p a) (fun _ z => by unfold vView at z; cases z)
  have f3 := f1.mono s2.zle s2.ex
  have hap : a ≠ p := fun e => by rw [e, hp] at g1; cases g1
  have hl : (qs.map fun q => q.2.2).length ≤ sizeLine := by rw [List.length_map]; exact g2.few
  refine ⟨p, a, es, ep, _, rfl, upd_same, by rw [upd_ne hap]; exact g1, f2, hl, fun p2 hp2 => ?_⟩
  obtain ⟨k3, s3, hz3, np3⟩ := k2.allocOwn hp2 (.lst (qs.map fun q => q.2.2))
  refine h2 _ _ _ (s2.then s3) k3 (.ref p2) ⟨p2, _, rfl, ?_, np3, hz3, upd_same, f3⟩
  cases q0 : H p2 with
  | none => rfl
  | some o => exact absurd hp2 ((s1.then s2).there p2 (by rw [q0]; intro z; cases z))
theorem r_sset {a : E} {prog : Program} {σ : Stt} {H : Hp} {Q : VK} (ha : lev a ≤ 1) (h : tX P W (ev G (.blt .sortedSet a) .v) (RN P) σ H Q) :
    tCB (rSortedSA P.K prog P.wo) (tCons (tCB (rSetA P.K prog P.wo) (tCons (tX P W (ev G a .v) (RV P (lev a))) tNil)) tNil) σ H Q := by
  obtain ⟨os, Z, w, env, ad, B, k, sl, h⟩ := h
  have h : Out P W σ os Z H (bnd (ev G a .v env) (fun x => lft (bl1 .sortedSet x)) w) _ := h
  refine tX_intro k sl h.bnd fun x w1 os1 Z1 H1 v s1 k1 sl1 r h1 => ?_
  obtain ⟨d, e, h2⟩ := h1.lft
  replace r := LR.le ha r
  show rSetA P.K prog P.wo [v] H1 fun y H2 => rSortedSA P.K prog P.wo [y] H2 Q
  cases x <;> first | (cases e; done) | skip
  case lst xs =>
    obtain ⟨p, vs, rfl, hp, rr⟩ := r.lst k1.zh
    exact sset_ok k1 (dx := .lst xs) (.inl ⟨p, vs, rfl, .of hp, rr⟩) (show setD xs = some d from e) (h2.wn s1)
  case tup xs =>
    obtain ⟨p, vs, rfl, hp, rr⟩ := r.tup k1.zh
    have e : (if (intsL xs).isSome then setD xs else none) = some d := e
    by_cases c : (intsL xs).isSome = true
    · rw [if_pos c] at e
      exact sset_ok k1 (dx := .tup xs) (.inr ⟨Option.isSome_iff_exists.mp c, p, vs, rfl, .of hp, rr⟩) e (h2.wn s1)
    · rw [if_neg c] at e; cases e
/-! instances -/
theorem flds_get {os : List Addr} {Z : Hp} {f : Str} : ∀ {fs : List (Str × D)} {vs : List (Str × V)}, Paired (FldR P os Z) fs vs → (∀ d, fs.lookup f = some d → ∃ v, vs.lookup f = some v ∧ Rep P os Z d v) ∧ (fs.lookup f = none → vs.lookup f = none)
  | _, _, .nil => ⟨fun d h => (by cases h), fun _ => rfl⟩
  | (g, x) :: fs, (g', y) :: vs, .cons q t => by
    obtain ⟨h1, h2⟩ := q
    cases h1
    have ih := flds_get (f := f) t
    rw [List.lookup_cons, List.lookup_cons]
    cases e : f == g with
    | true => exact ⟨fun d h => (by cases h; exact ⟨y, rfl, h2⟩), fun h => (by cases h)⟩
    | false => exact ih
theorem inst_get {os : List Addr} {Z H : Hp} {w : Wd} {n c : Nat} {fs : List (Str × D)} (k : Ok P os w Z H) {v : V} (r : Rep P os Z (.obj n) v) (hw : w[n]? = some (.inst c fs)) : ∃ a C dx vs, v = .ref a ∧ os[n]? = some a ∧ P.cls c = .ref C ∧ H a = some (.ins C dx vs) ∧ Paired (FldR P os Z) fs vs := by
  unfold Rep at r
  obtain ⟨a, rfl, h1⟩ := r
  obtain ⟨C, dx, vs, h2, h3, h4⟩ := k.obj n a _ h1 hw
  exact ⟨a, C, dx, vs, rfl, h1, h2, h3, h4⟩
theorem attrM_out {c : Nat} {f : Str} {x : D} {w : Wd} {os : List Addr} {Z H : Hp} {σ : Stt} {Kt : D → Wd → List Addr → Hp → Hp → Prop} {v : V} (k : Ok P os w Z H) (r : Rep P os Z x v) (h : Out P W σ os Z H (attrM c f x w) Kt) :
    ∃ n fs a C dx vs d u, x = .obj n ∧ w[n]? = some (.inst c fs) ∧ v = .ref a ∧ os[n]? = some a ∧ P.cls c = .ref C ∧ H a = some (.ins C dx vs) ∧ Paired (FldR P os Z) fs vs ∧ fs.lookup f = some d ∧ vs.lookup f = some u ∧ Rep P os Z d u ∧ Kt d w os Z H := by
  cases x with
  | obj n =>
    replace h : Out P W σ os Z H (match w[n]? with
      | some (.inst c' fs) => if c' = c then (match fs.lookup f with
        | some d => Res.ok d w
        | none => .no) else .no
      | _ => .no) Kt := h
    split at h
    · rename_i c' fs hw
      by_cases e : c' = c
      · rw [if_pos e] at h
        subst e
        split at h
        · rename_i d hd
          obtain ⟨a, C, dx, vs, h1, h2, h3, h4, h5⟩ := inst_get k r hw
          obtain ⟨u, h6, h7⟩ := (flds_get h5).1 d hd
          exact ⟨n, fs, a, C, dx, vs, d, u, rfl, hw, h1, h2, h3, h4, h5, hd, h6, h7, h os Z H Step.refl k⟩
        · exact h.elim
      · rw [if_neg e] at h; exact h.elim
    · exact h.elim
  | _ => exact h.elim
theorem r_attr {c : Nat} {a : E} {f : Str} {C : Addr} {σ : Stt} {H : Hp} {Q : VK} (ha : lev a = 0) (hC : P.cls c = .ref C) (cl : Cls P.K C) (na : NoAttr P.K C f) (h : tX P W (ev G (.attr c a f) .v) (RV P 0) σ H Q) :
    tFld P.K (tX P W (ev G a .v) (RV P (lev a))) f σ H Q := by
  obtain ⟨os, Z, w, env, ad, B, k, sl, h⟩ := h
  have h : Out P W σ os Z H (bnd (ev G a .v env) (fun x => attrM c f x) w) _ := h
  refine tX_intro k sl h.bnd fun x w1 os1 Z1 H1 v s1 k1 sl1 r h1 => ?_
  rw [ha] at r
  obtain ⟨n, fs, p, C', dx, vs, d, u, rfl, hw, rfl, ho, hc, hH, hf, hl, hl2, ru, hk⟩ := attrM_out k1 r h1
  rw [hC] at hc
  cases hc
  exact ⟨p, C, dx, vs, u, rfl, hH, cl, na, hl2, hk u ru⟩
theorem r_mcall {c f : Nat} {m : Str} {o : E} {es : Es} {C : Addr} {b : Bool} {bw : List Bool} {σ : Stt} {H : Hp} {Q : VK} (ho : lev o = 0) (hC : P.cls c = .ref C) (h : tX P W (ev G (.mcall c f m o es) .v) (RV P 0) σ H Q) :
    tMethSD C m (spOf P G f (b :: bw)) (WE W) (tX P W (ev G o .v) (RV P (lev o))) (tX P W (evs G es) (RL P bw)) σ H Q := by
  obtain ⟨os, Z, w, env, ad, B, k, sl, h⟩ := h
  have h : Out P W σ os Z H (bnd (bnd (ev G o .v env) fun x => instM c m x) (fun x => bnd (evs G es env) fun ds => G.call f (x :: ds)) w) _ := h
  refine tX_intro k sl h.bnd.bnd fun x w1 os1 Z1 H1 v s1 k1 sl1 r h1 => ?_
  rw [ho] at r
  cases x with
  | obj n =>
    replace h1 : Out P W σ os1 Z1 H1 (match w1[n]? with
      | some (.inst c' fs) => if c' = c ∧ fs.lookup m = none then Res.ok (VI.D.obj n) w1 else .no
      | _ => .no) _ := h1
    split at h1
    · rename_i c' fs hw
      by_cases e : c' = c ∧ fs.lookup m = none
      · rw [if_pos e] at h1
        obtain ⟨rfl, hl⟩ := e
        obtain ⟨a, C', dx, vs, rfl, h2, h3, h4, h5⟩ := inst_get k1 r hw
        rw [hC] at h3
        cases h3
        refine ⟨a, dx, vs, rfl, h4, (flds_get h5).2 hl, ?_⟩
        have h' := (h1 os1 Z1 H1 Step.refl k1).bnd
        refine ⟨os1, Z1, w1, env, ad, B, k1, sl1, ?_⟩
        cases q : evs G es env w1 with
        | no => rw [q] at h'; exact h'
        | exn c g w2 => rw [q] at h'; exact h'
        | ok ds w2 =>
          rw [q] at h'
          intro os2 Z2 H2 s2 k2 us ru
          refine ⟨os2, Z2, w2, .obj n :: ds, k2, ⟨.of (Rep.mono s2.zle s2.ex r), ru⟩, ?_⟩
          have h6 : Out P W σ os2 Z2 H2 (G.call f (.obj n :: ds) w2) (fun a _ os' Z' H' => ∀ v, RV P 0 a os' Z' H H' v → Q v H') := h' os2 Z2 H2 s2 k2
          revert h6
          cases G.call f (.obj n :: ds) w2 with
          | no => exact fun h => h
          | exn c g w2 => exact fun h => h
          | ok d w2 => exact fun h => h
      · rw [if_neg e] at h1; exact h1.elim
    · exact h1.elim
  | _ => exact h1.elim
theorem Ok.newInst {os : List Addr} {Z H : Hp} {w : Wd} {c : Nat} {C x dx : Addr} (k : Ok P os w Z H) (hC : P.cls c = .ref C) (hx : H x = none) (hd : H dx = none) (hne : dx ≠ x) :
    Ok P (os ++ [x]) (w ++ [.inst c []]) Z (upd (upd H dx (.own x)) x (.ins C dx [])) ∧ Step (Ex H) os Z H (os ++ [x]) Z (upd (upd H dx (.own x)) x (.ins C dx [])) ∧ Rep P (os ++ [x]) Z (.obj w.length) (.ref x) := by
  have zn : ∀ p, H p = none → Z p = none := fun p hp => by
    cases q : Z p with
    | none => rfl
    | some o => rw [k.zh p o q] at hp; cases hp
  have up : ∀ p o, H p = some o → upd (upd H dx (.own x)) x (.ins C dx []) p = some o := fun p o h => by
    rw [upd_ne (show p ≠ x from fun e => by rw [e, hx] at h; cases h), upd_ne (show p ≠ dx from fun e => by rw [e, hd] at h; cases h)]; exact h
  have nx : x ∉ os := fun z => k.there z hx
  have e2 : Ext os (os ++ [x]) := ⟨[x], rfl⟩
  refine ⟨⟨fun p o h => up p o (k.zh p o h), fun a ha => ?_, ?_, by simp [k.len], fun n a o h2 h3 => ?_, k.tb.ext up, k.zt⟩, ⟨fun a o b h na _ => up a o h, fun a h => ?_, Le.refl, fun _ _ h => h, [x], rfl, fun a ha => by rcases List.mem_singleton.mp ha with rfl; exact hx⟩, ?_⟩
  · rcases List.mem_append.mp ha with z | z
    · exact k.nz a z
    · rcases List.mem_singleton.mp z with rfl; exact zn _ hx
  · refine List.nodup_append.mpr ⟨k.nd, by simp, fun a ha b hb e => ?_⟩
    rcases List.mem_singleton.mp hb with rfl
    exact nx (e ▸ ha)
  · by_cases hn : n < os.length
    · rw [List.getElem?_append_left hn] at h2
      rw [List.getElem?_append_left (by rw [← k.len]; exact hn)] at h3
      have := k.obj n a o h2 h3
      cases o with
      | cells ds2 =>
        obtain ⟨vs2, h4, h5⟩ := this
        exact ⟨vs2, up _ _ h4, h5.mono Le.refl e2⟩
      | inst c fs =>
        obtain ⟨C2, dx2, vs2, h4, h5, h6⟩ := this
        exact ⟨C2, dx2, vs2, h4, up _ _ h5, flds_mono Le.refl e2 h6⟩
    · have hn2 : n = os.length := by
        obtain ⟨h4, _⟩ := List.getElem?_eq_some_iff.mp h2
        simp at h4
        omega
      subst hn2
      rw [List.getElem?_append_right (Nat.le_refl _)] at h2
      rw [k.len, List.getElem?_append_right (Nat.le_refl _)] at h3
      simp at h2 h3
      subst h2 h3
      exact ⟨C, dx, [], hC, upd_same, .nil⟩
  · cases q : H a with
    | none => exact absurd q h
    | some o => rw [up a o q]; exact fun z => nomatch z
  · unfold Rep
    exact ⟨x, rfl, by rw [← k.len]; simp⟩
theorem r_make {c f : Nat} {es : Es} {C : Addr} {b : Bool} {bw : List Bool} {σ : Stt} {H : Hp} {Q : VK} (hC : P.cls c = .ref C) (h : tX P W (ev G (.make c f es) .v) (RV P 0) σ H Q) :
    tMakeSD C (spOf P G f (b :: bw)) (WE W) (tX P W (evs G es) (RL P bw)) σ H Q := by
  obtain ⟨os, Z, w, env, ad, B, k, sl, h⟩ := h
  have h : Out P W σ os Z H (bnd (evs G es env) (fun ds => bnd (newM c) fun x => bnd (G.call f (x :: ds)) fun r => isNonM x r) w) _ := h
  have h' := h.bnd
  refine ⟨os, Z, w, env, ad, B, k, sl, ?_⟩
  cases q : evs G es env w with
  | no => rw [q] at h'; exact h'
  | exn c g w1 => rw [q] at h'; exact h'
  | ok ds w1 =>
    rw [q] at h'
    intro os1 Z1 H1 s1 k1 vs rs x dx hx hd hne
    obtain ⟨k2, s2, r2⟩ := k1.newInst (c := c) hC hx hd hne
    have rs : LRs P os1 Z1 H1 bw ds vs := rs
    have h2 : Out P W σ os1 Z1 H1 (bnd (newM c) (fun x => bnd (G.call f (x :: ds)) fun r => isNonM x r) w1) (fun a _ os' Z' H' => ∀ v, RV P 0 a os' Z' H H' v → Q v H') := h' os1 Z1 H1 s1 k1
    have h3 : Out P W σ (os1 ++ [x]) Z1 (upd (upd H1 dx (.own x)) x (.ins C dx [])) (bnd (G.call f (.obj w1.length :: ds)) (fun r => isNonM (.obj w1.length) r) (w1 ++ [.inst c []])) (fun a _ os' Z' H' => ∀ v, RV P 0 a os' Z' H H' v → Q v H') := h2.bnd _ _ _ s2 k2
    refine ⟨os1 ++ [x], Z1, w1 ++ [.inst c []], .obj w1.length :: ds, k2, ⟨.of r2, LRs.step s2 rs⟩, ?_⟩
    have h4 := h3.bnd
    revert h4
    cases G.call f (.obj w1.length :: ds) (w1 ++ [.inst c []]) with
    | no => exact fun h => h
    | exn c g w2 => exact fun h => h
    | ok d w2 =>
      intro h4 os3 Z3 H3 s3 k3 v rv
      have h5 := h4 os3 Z3 H3 s3 k3
      cases d <;> first | exact h5.elim | skip
      unfold Rep at rv
      exact ⟨rv, h5.ret k3 (.ref x) (Rep.mono s3.zle s3.ex r2)⟩
/-! the joining of texts -/
theorem strs_reps {os : List Addr} {Z : Hp} : ∀ {ds : List D} {ys : List Str} {vs : List V}, strsL ds = some ys → Reps P os Z ds vs → vs = ys.map V.str
  | [], ys, vs, e, r => by
    cases e
    unfold Reps at r
    exact r
  | d :: ds, ys, vs, e, r => by
    unfold Reps at r
    obtain ⟨v, t, rfl, h1, h2⟩ := r
    cases d with
    | str z =>
      obtain ⟨m, e1, rfl⟩ := Option.map_eq_some_iff.mp (show (strsL ds).map (z :: ·) = some ys from e)
      unfold Rep at h1
      rw [h1, strs_reps e1 h2]; rfl
    | _ => cases e
def rJoin (K : PySem.W.Frag) : V → List V → Hp → VK → Prop := fun x xs H Q => ∃ a p, ∃ ys : List Str, x = .str a ∧ xs = [.ref p] ∧ (SqL K H p (ys.map V.str) ∨ SqT K H p (ys.map V.str)) ∧
      (ys.map (·.length)).sum + ys.length * a.length ≤ 16777216 ∧ Q (.str (Txt.join a ys)) H
theorem r_join {a x : E} {σ : Stt} {H : Hp} {Q : VK} (ha : lev a = 0) (hx : lev x ≤ 1) (h : tX P W (ev G (.join a x) .v) (RV P 0) σ H Q) :
    tM1 (rJoin P.K) (tX P W (ev G a .v) (RV P (lev a))) (tX P W (ev G x .v) (RV P (lev x))) σ H Q := by
  obtain ⟨os, Z, w, env, ad, B, k, sl, h⟩ := h
  have h : Out P W σ os Z H (bnd (bnd (ev G a .v env) fun a => lft (needS a)) (fun a => bnd (ev G x .v env) fun x => lft (joinD a x)) w) _ := h
  refine tX_intro k sl h.bnd.bnd fun da w1 os1 Z1 H1 v s1 k1 sl1 r h1 => ?_
  obtain ⟨d0, e, h2⟩ := h1.lft
  rw [ha] at r
  cases da <;> first | (cases e; done) | skip
  rename_i z
  cases e
  have r : Rep P os1 Z1 (.str z) v := r
  unfold Rep at r
  subst r
  refine ⟨⟨z, rfl⟩, ?_⟩
  refine tX_intro k1 sl1 (h2.ret k1).bnd fun dx w2 os2 Z2 H2 u s2 k2 sl2 r' h3 => ?_
  obtain ⟨d, e, h4⟩ := h3.lft
  cases dx <;> first | (cases e; done) | skip
  rename_i ds
  obtain ⟨ys, e1, e2⟩ := Option.bind_eq_some_iff.mp (show ((strsL ds).bind fun ys => if (ys.map (·.length)).sum + ys.length * z.length ≤ 16777216 then some (D.str (Str.join z ys)) else none) = some d from e)
  by_cases hl : (ys.map (·.length)).sum + ys.length * z.length ≤ 16777216
  · rw [if_pos hl] at e2
    cases e2
    obtain ⟨p, vs, rfl, hp, rr⟩ := (LR.le hx r').lst k2.zh
    rw [strs_reps e1 rr] at hp
    exact ⟨z, p, ys, rfl, rfl, .inl (.of hp), hl, h4.ret k2 _ (by show Rep P os2 Z2 _ _; unfold Rep; rw [TL.join_eq])⟩
  · rw [if_neg hl] at e2; cases e2
end
end VI

set_option Elab.async false
set_option linter.all false
set_option maxRecDepth 100000
set_option maxHeartbeats 1000000
/-! VI, part 10: patterns, walks, comprehensions; every expression. -/
namespace VI
open PySem L2
/-! ### slots forgotten -/
theorem wipe_comm {σ : Stt} {j : Nat} {x : Option V} : ∀ {is : List Nat}, j ∉ is → wipe (σ.set j x) is = (wipe σ is).set j x
  | [], _ => rfl
  | v :: vs, h => by
    have h1 : j ≠ v := fun e => h (by simp [e])
    have h2 : j ∉ vs := fun e => h (by simp [e])
    show (wipe (σ.set j x) vs).set v none = ((wipe σ vs).set v none).set j x
    rw [wipe_comm h2, List.set_comm _ _ h1]
theorem wipe_set {σ : Stt} {j : Nat} {x : Option V} : ∀ {is : List Nat}, j ∈ is → wipe (σ.set j x) is = wipe σ is
  | [], h => by cases h
  | v :: vs, h => by
    show (wipe (σ.set j x) vs).set v none = (wipe σ vs).set v none
    by_cases h2 : j ∈ vs
    · rw [wipe_set h2]
    · have : j = v := by
        rcases List.mem_cons.mp h with e | e
        · exact e
        · exact absurd e h2
      subst this
      rw [wipe_comm h2, List.set_set]
theorem wipe_wipe {σ : Stt} {is : List Nat} : ∀ {js : List Nat}, (∀ j ∈ js, j ∈ is) → wipe (wipe σ js) is = wipe σ is
  | [], _ => rfl
  | j :: js, h => by
    show wipe ((wipe σ js).set j none) is = wipe σ is
    rw [wipe_set (h j List.mem_cons_self), wipe_wipe fun k hk => h k (List.mem_cons_of_mem _ hk)]
section
variable {P : Pm} {W : WX} {os os' : List Addr} {Z Z' H H' H0 : Hp} {w w' : Wd} {env env' : Env} {ad : Nat → List Addr} {B : Addr → Prop} {σ : Stt}
theorem Slots.setNo (k : Slots P B env σ ad os Z H) (i : Nat) : Slots P B (env.set i .no) (σ.set i none) ad os Z H := by
  refine k.env_of (by simp [k.len]) fun j s e => ?_
  by_cases hj : i = j
  · subst hj
    by_cases hi : i < env.length
    · rw [List.getElem?_set_self hi] at e
      cases e
      trivial
    · rw [List.getElem?_eq_none (by simpa using hi)] at e; cases e
  · rw [List.getElem?_set_ne hj] at e ⊢
    exact k.at_ j s e
theorem Slots.wipe (k : Slots P B env σ ad os Z H) : ∀ is : List Nat, Slots P B (wipeE env is) (L2.wipe σ is) ad os Z H
  | [] => k
  | i :: is => (Slots.wipe k is).setNo i

/-! ### patterns -/
def tP (P : Pm) (p : Pat) : TG := fun v σ H Q => ∃ os Z w env ad B d env', Ok P os w Z H ∧ Slots P B env σ ad os Z H ∧ Rep P os Z d v ∧ bindP p d env = some env' ∧
  ∀ σ', wipe σ' p.slots = wipe σ p.slots → Slots P B env' σ' ad os Z H → Q σ' H
def gList : List Nat → TGs
  | [] => gNil
  | i :: is => gCons (gName i) (gList is)
theorem r_pats : ∀ {is : List Nat} {ds : List D} {vs : List V} {env env' : Env} {σ : Stt} {Q : Stt → Hp → Prop}, Slots P B env σ ad os Z H → Reps P os Z ds vs → putAll env is ds = some env' →
    (∀ σ', (∀ js, (∀ i ∈ is, i ∈ js) → wipe σ' js = wipe σ js) → Slots P B env' σ' ad os Z H → Q σ' H) → gList is vs σ H Q
  | [], ds, vs, env, env', σ, Q, sl, r, e, h => by
    cases ds with
    | nil =>
      cases e
      unfold Reps at r
      exact ⟨r, h σ (fun _ _ => rfl) sl⟩
    | cons d ds => cases e
  | i :: is, ds, vs, env, env', σ, Q, sl, r, e, h => by
    cases ds with
    | nil => cases e
    | cons d ds =>
      unfold Reps at r
      obtain ⟨v, t, rfl, r1, r2⟩ := r
      refine ⟨v, t, rfl, ?_⟩
      refine r_pats (σ := σ.set i (some v)) (sl.setFz i r1) r2 e fun σ' hw sl' => h σ' (fun js hj => ?_) sl'
      rw [hw js fun k hk => hj k (List.mem_cons_of_mem _ hk), wipe_set (hj i List.mem_cons_self)]
theorem r_pat1 {i : Nat} {v : V} {Q : Stt → Hp → Prop} (h : tP P (.one i) v σ H Q) : gName i v σ H Q := by
  obtain ⟨os, Z, w, env, ad, B, d, env', k, sl, r, e, h⟩ := h
  cases e
  exact h _ (wipe_set (by simp [Pat.slots])) (sl.setFz i r)
theorem r_patn {is : List Nat} {v : V} {Q : Stt → Hp → Prop} (h : tP P (.many is) v σ H Q) : gTup P.K is.length (gList is) v σ H Q := by
  obtain ⟨os, Z, w, env, ad, B, d, env', k, sl, r, e, h⟩ := h
  cases d <;> first | (cases e; done) | skip
  rename_i ds
  obtain ⟨a, vs, rfl, ha, rr⟩ := Rep.tup r
  have e : putAll env is ds = some env' := e
  have hl : ∀ {is : List Nat} {ds : List D} {env env' : Env}, putAll env is ds = some env' → ds.length = is.length := by
    intro is
    induction is with
    | nil => intro ds env env' e; cases ds with
      | nil => rfl
      | cons d ds => cases e
    | cons i is ih => intro ds env env' e; cases ds with
      | nil => cases e
      | cons d ds => simp only [List.length_cons]; rw [ih (show putAll (env.set i (.fz d)) is ds = some env' from e)]
  exact ⟨a, vs, rfl, .of (k.zh _ _ ha), by rw [← rr.length, hl e], r_pats sl rr e fun σ' hw sl' => h σ' (hw _ fun i hi => hi) sl'⟩
end
/-- the names that a pattern may store -/
structure Sto (X : Cx) (sc : Scope) : Prop where
  loc : ∀ x, locB sc x = true → Loc X.env.scope x
  fn : ∀ x, locB sc x = true → X.fn x = true ∨ X.env.scope.names.lookup x = some .local
section
variable {P : Pm} {X : Cx} {c : Ck} {sc : Scope}
theorem patB1_eq {i : Nat} {e : Expr} (h : patB1 c sc i e = true) : ∃ x pos, e = .Name x pos ∧ c.N[i]? = some x ∧ locB sc x = true := by
  unfold patB1 at h
  split at h
  · rename_i x pos hx
    have := asName_eq hx
    simp only [Bool.and_eq_true, decide_eq_true_eq] at h
    exact ⟨x, pos, this, h.1, h.2⟩
  · cases h
theorem pg_one {i : Nat} {e : Expr} (hN : X.N = c.N) (nd : c.N.Nodup) (so : Sto X sc) (h : patB1 c sc i e = true) : PG X e (gName i) := by
  obtain ⟨x, pos, rfl, h1, h2⟩ := patB1_eq h
  exact pg_name (by rw [hN]; exact nd) (by rw [hN]; exact h1) (so.loc x h2) (so.fn x h2)
theorem pgs_all (hN : X.N = c.N) (nd : c.N.Nodup) (so : Sto X sc) : ∀ {is : List Nat} {es : List Expr}, patBL c sc is es = true → PGs X es (gList is) ∧ (assignEach es X.env).length = is.length ∧ (assignEach es X.env).findIdx? (·.1) = none
  | [], [], _ => ⟨pgs_nil, rfl, rfl⟩
  | [], _ :: _, h => by cases h
  | _ :: _, [], h => by cases h
  | i :: is, e :: es, h => by
    unfold patBL at h
    rw [Bool.and_eq_true] at h
    obtain ⟨g, hl, hf⟩ := pgs_all hN nd so h.2
    have g1 := pg_one hN nd so h.1
    obtain ⟨x, pos, rfl, h1, h2⟩ := patB1_eq h.1
    have ea : assignEach (.Name x pos :: es) X.env = (false, assign (.Name x pos) X.env) :: assignEach es X.env := rfl
    refine ⟨pgs_cons g1 g rfl, by rw [ea, List.length_cons, List.length_cons, hl], ?_⟩
    rw [ea, List.findIdx?_cons, hf]
    rfl
theorem pg_pat {p : Pat} {e : Expr} (K : X.K = P.K) (hc : X.calm = true) (hN : X.N = c.N) (nd : c.N.Nodup) (so : Sto X sc) (h : patB c sc p e = true) : PG X e (tP P p) := by
  cases p with
  | one i => exact (pg_one hN nd so h).imp fun v σ H Q q => r_pat1 q
  | many is =>
    simp only [patB] at h
    split at h
    · rename_i es k pos hx
      have := asTup_eq hx
      subst this
      obtain ⟨g, hl, hf⟩ := pgs_all hN nd so h
      exact (pg_tup hc g hl hf).imp fun v σ H Q q => by rw [K]; exact r_patn q
    · cases h
end

/-! ### comprehensions -/
section
variable {P : Pm} {W : WX} {G : Glo} {os os' os1 : List Addr} {Z Z' Z1 H H' H1 H0 : Hp} {w w' : Wd} {env env' : Env} {ad : Nat → List Addr} {B : Addr → Prop} {σ : Stt}
abbrev W0 : WX := fun _ _ _ _ => False
theorem mapM_cons {f : D → M (Option D)} {x : D} {xs ys : List D} {w w' : Wd} (h : mapM f (x :: xs) w = .ok ys w') :
    ∃ o w1 zs, f x w = .ok o w1 ∧ mapM f xs w1 = .ok zs w' ∧ ys = (match o with | some y => y :: zs | none => zs) := by
  obtain ⟨o, w1, h1, h⟩ := bnd_ok h
  obtain ⟨zs, w2, h2, h⟩ := bnd_ok h
  cases h
  exact ⟨o, w1, zs, h1, h2, rfl⟩
def compF (G : Glo) (p : Pat) (c : Eo) (e : E) (env : Env) : D → M (Option D) := fun x => bnd (lft (bindP p x (wipeE env p.slots))) fun env' =>
  iteM (evC G c env') (bnd (ev G e .v env') fun y => ret (some y)) (ret none)
theorem compF_ok {p : Pat} {c : Eo} {e : E} {x : D} {o : Option D} {w w' : Wd} (h : compF G p c e env x w = .ok o w') :
    ∃ env' w1 b, bindP p x (wipeE env p.slots) = some env' ∧ evC G c env' w = .ok (.bl b) w1 ∧ (if b = true then ∃ y, ev G e .v env' w1 = .ok y w' ∧ o = some y else w1 = w' ∧ o = none) := by
  obtain ⟨env', w0, h0, hb⟩ := bnd_ok h
  obtain ⟨h1, e1⟩ := lft_ok h0
  rw [e1] at hb
  clear h h0 e1
  obtain ⟨k, w2, h2, h⟩ := bnd_ok hb
  have hk : ∃ b, k = .bl b := by
    cases k with
    | bl b => exact ⟨b, rfl⟩
    | _ => cases h
  obtain ⟨b, rfl⟩ := hk
  cases b with
  | true =>
    obtain ⟨y, w3, h3, h⟩ := bnd_ok (show bnd (ev G e .v env') (fun y => ret (some y)) w2 = .ok o w' from h)
    cases h
    exact ⟨env', w2, true, h1, h2, by rw [if_pos rfl]; exact ⟨y, h3, rfl⟩⟩
  | false =>
    cases h
    exact ⟨env', _, false, h1, h2, by rw [if_neg Bool.false_ne_true]; exact ⟨rfl, rfl⟩⟩
theorem r_comp {p : Pat} {it : It} {c : Eo} {e : E} {Q : VK} (h : tX P W (ev G (.comp p it c e) .v) (RN P) σ H Q) :
    tLc (tX P W (evI G it) (RI P)) (tP P p) (tX P W0 (evC G c) RB) (tX P W0 (ev G e .v) (RV P 0)) p.slots σ H Q := by
  obtain ⟨os, Z, w, env, ad, B, k, sl, h⟩ := h
  have h : Out P W σ os Z H (bnd (evI G it env) (fun xs => shut (bnd (mapM (compF G p c e env) xs) fun ys => lft (guardO (decide (ys.length ≤ lim)) (some (VI.D.lst ys))))) w) _ := h
  refine tX_intro k sl h.bnd fun xs w1 os1 Z1 H1 J s1 k1 sl1 rJ h1 => ?_
  intro D hD
  -- the block ends well
  have hb : ∃ ys w2, mapM (compF G p c e env) xs w1 = .ok ys w2 ∧ ys.length ≤ lim ∧ Out P W σ os1 Z1 H1 (.ok (.lst ys) w2) (fun a w' os' Z' H' => ∀ v, RN P a os' Z' H H' v → Q v H') := by
    unfold shut VI.bnd at h1
    cases q : mapM (compF G p c e env) xs w1 with
    | no => rw [q] at h1; exact h1.elim
    | exn c f w2 => rw [q] at h1; exact h1.elim
    | ok ys w2 =>
      rw [q] at h1
      simp only at h1
      by_cases hl : ys.length ≤ lim
      · refine ⟨ys, w2, rfl, hl, ?_⟩
        have e1 : guardO (decide (ys.length ≤ lim)) (some (VI.D.lst ys)) = some (VI.D.lst ys) := by unfold guardO; rw [decide_eq_true hl]; rfl
        rw [e1] at h1
        exact h1
      · have e1 : guardO (decide (ys.length ≤ lim)) (some (VI.D.lst ys)) = none := by unfold guardO; rw [decide_eq_false hl]; rfl
        rw [e1] at h1
        exact h1.elim
  obtain ⟨ys, w2, hm, hl, hK⟩ := hb
  obtain ⟨Gp, Y, wk, hG, hY⟩ := rJ
  obtain ⟨k0, s0, hz0, n0⟩ := k1.allocOwn hD (.lst [])
  refine lc_it wk (fun i H' => ∃ osx Zx wx accD accV rest, Ok P osx wx Zx H' ∧ Step (Ex H1) os1 Z1 H1 osx Zx H' ∧ H' D = some (.lst accV) ∧ Reps P osx Zx accD accV ∧ Zx D = none ∧ D ∉ osx ∧ mapM (compF G p c e env) (xs.drop i) wx = .ok rest w2 ∧ ys = accD ++ rest)
    ⟨os1, Z1, w1, [], [], ys, k0, s0, upd_same, reps_nil, hz0, n0, hm, rfl⟩ ?_ ?_ ?_
  · rintro i H' hi ⟨osx, Zx, wx, accD, accV, rest, kx, sx, _⟩
    exact hG osx wx Zx H' sx.zle sx.ex kx
  · rintro i x Hi H' hi ⟨osx, Zx, wx, accD, accV, rest, kx, sx, hDx, ra, hzx, nx, hmx, hys⟩ y
    have hd : xs[i]? = some xs[i] := List.getElem?_eq_getElem hi
    obtain ⟨Z2, st2, k2, r2⟩ := hY i x Hi H' osx wx Zx sx.zle sx.ex kx y _ hd
    have hdrop : xs.drop i = xs[i] :: xs.drop (i + 1) := (List.drop_eq_getElem_cons hi)
    rw [hdrop] at hmx
    obtain ⟨o, w3, zs, h3, h4, h5⟩ := mapM_cons hmx
    obtain ⟨env', w4, b, h6, h7, h8⟩ := compF_ok h3
    have sx2 : Step (Ex H1) os1 Z1 H1 osx Z2 H' := sx.then st2
    have sl2 := sl1.step sx2
    have hD2 : H' D = some (.lst accV) := st2.keep D _ (by show Hi D ≠ none; rw [hDx]; intro z; cases z) hDx nx nt_lst
    have hz2 : Z2 D = none := st2.zkeep D (by show Hi D ≠ none; rw [hDx]; intro z; cases z) hzx
    refine ⟨osx, Z2, wx, wipeE env p.slots, ad, B, _, env', k2, sl2.wipe p.slots, r2, h6, fun σ2 hw sl3 => ⟨?_, ?_⟩⟩
    · rw [hw]; exact wipe_wipe fun j hj => hj
    refine tX_ok k2 sl3 h7 fun os3 Z3 H3 b' st3 k3 sl4 rb => ?_
    have rb : VI.D.bl b = .bl b' := rb
    cases rb
    have hD3 : H3 D = some (.lst accV) := st3.keep D _ (by show H' D ≠ none; rw [hD2]; intro z; cases z) hD2 nx nt_lst
    have hz3 : Z3 D = none := st3.zkeep D (by show H' D ≠ none; rw [hD2]; intro z; cases z) hz2
    have n3 : D ∉ os3 := st3.nin (by rw [hD2]; intro z; cases z) nx
    have sx3 := sx2.then st3
    have ra3 : Reps P os3 Z3 accD accV := (ra.mono st2.zle Ext.refl).mono st3.zle st3.ex
    cases b with
    | false =>
      rw [if_neg Bool.false_ne_true] at h8 ⊢
      obtain ⟨rfl, rfl⟩ := h8
      exact ⟨os3, Z3, w4, accD, accV, zs, k3, sx3, hD3, ra3, hz3, n3, h4, by rw [hys, h5]⟩
    | true =>
      rw [if_pos rfl] at h8 ⊢
      obtain ⟨yd, h9, rfl⟩ := h8
      refine tX_ok k3 sl4 h9 fun os4 Z4 H4 v st4 k4 sl5 rv => ?_
      have hD4 : H4 D = some (.lst accV) := st4.keep D _ (by show H3 D ≠ none; rw [hD3]; intro z; cases z) hD3 n3 nt_lst
      have hz4 : Z4 D = none := st4.zkeep D (by show H3 D ≠ none; rw [hD3]; intro z; cases z) hz3
      have n4 : D ∉ os4 := st4.nin (by rw [hD3]; intro z; cases z) n3
      have ra4 : Reps P os4 Z4 accD accV := ra3.mono st4.zle st4.ex
      refine ⟨accV, hD4, ?_, os4, Z4, w3, accD ++ [yd], accV ++ [v], zs, k4.updOwn hz4 n4 hD4 pl_lst, (sx3.then st4).updOwn (fun z => z hD), upd_same, ra4.append (reps_cons rv reps_nil), hz4, n4, h4, ?_⟩
      · rw [← ra4.length, ← lim_eq]
        have : ys.length = accD.length + (zs.length + 1) := by rw [hys, h5]; simp
        omega
      · rw [hys, h5]; simp
  · rintro H' ⟨osx, Zx, wx, accD, accV, rest, kx, sx, hDx, ra, hzx, nx, hmx, hys⟩
    rw [List.drop_length] at hmx
    cases hmx
    rw [List.append_nil] at hys
    subst hys
    refine hK osx Zx H' sx kx (.ref D) ⟨D, accV, rfl, ?_, nx, hzx, hDx, ra⟩
    cases q : H D with
    | none => rfl
    | some o => exact absurd hD (s1.there D (by rw [q]; intro z; cases z))
/-! ### walks -/
theorem r_seq {e : E} {Q : L2.It → Hp → Prop} (he : lev e = 0) (h : tX P W (evI G (.seq e)) (RI P) σ H Q) : iSeqA P.K (tX P W (ev G e .v) (RV P (lev e))) σ H Q := by
  obtain ⟨os, Z, w, env, ad, B, k, sl, h⟩ := h
  have h : Out P W σ os Z H (bnd (ev G e .v env) (fun d => lft (seqL d)) w) _ := h
  refine tX_intro k sl h.bnd fun d w1 os1 Z1 H1 v s1 k1 sl1 r h1 => ?_
  obtain ⟨xs, e1, h2⟩ := h1.lft
  rw [he] at r
  cases d <;> first | (cases e1; done) | skip
  case tup ds =>
    cases e1
    obtain ⟨a, vs, rfl, ha, rr⟩ := Rep.tup r
    exact .inr ⟨a, vs, rfl, .of (k1.zh _ _ ha), h2.ret k1 _ (walkD_tup ha rr)⟩
  case lst ds =>
    cases e1
    obtain ⟨a, vs, rfl, ha, rr⟩ := Rep.lst r
    exact .inl ⟨a, vs, rfl, .of (k1.zh _ _ ha), h2.ret k1 _ (walkD_list ha rr)⟩
theorem rng_ok {i : Int} (h : okRng i = true) : -(2 ^ 62) ≤ i ∧ i < 2 ^ 62 := by
  unfold okRng at h
  simp only [Bool.and_eq_true, decide_eq_true_eq] at h
  exact h
theorem r_rng1 {a : E} {Q : L2.It → Hp → Prop} (ha : lev a = 0) (h : tX P W (evI G (.rng1 a)) (RI P) σ H Q) : iRng1 (tCons (tX P W (ev G a .v) (RV P (lev a))) tNil) σ H Q := by
  obtain ⟨os, Z, w, env, ad, B, k, sl, h⟩ := h
  have h : Out P W σ os Z H (bnd (ev G a .v env) (fun x => lft ((toI x).bind fun n => if okRng n then some (rngL 0 n) else none)) w) _ := h
  refine tX_intro k sl h.bnd fun d w1 os1 Z1 H1 v s1 k1 sl1 r h1 => ?_
  obtain ⟨xs, e1, h2⟩ := h1.lft
  obtain ⟨n, e2, e3⟩ := Option.bind_eq_some_iff.mp e1
  cases d <;> first | (cases e2; done) | skip
  cases e2
  split at e3
  · rename_i ho
    cases e3
    obtain ⟨b1, b2⟩ := rng_ok ho
    rw [LR.int r]
    have := h2.ret k1 _ (walkD_range (lo := 0) (hi := n))
    rw [Int.sub_zero] at this
    exact ⟨n, rfl, b1, b2, this⟩
  · cases e3
theorem r_rng2 {a b : E} {Q : L2.It → Hp → Prop} (ha : lev a = 0) (hb : lev b = 0) (h : tX P W (evI G (.rng2 a b)) (RI P) σ H Q) :
    iRng2 (tCons (tX P W (ev G a .v) (RV P (lev a))) (tCons (tX P W (ev G b .v) (RV P (lev b))) tNil)) σ H Q := by
  obtain ⟨os, Z, w, env, ad, B, k, sl, h⟩ := h
  have h : Out P W σ os Z H (bnd (ev G a .v env) (fun x => bnd (ev G b .v env) fun y => lft ((toI x).bind fun m => (toI y).bind fun n => if okRng m && okRng n then some (rngL m n) else none)) w) _ := h
  refine tX_intro k sl h.bnd fun d w1 os1 Z1 H1 v s1 k1 sl1 r h1 => ?_
  refine tX_intro k1 sl1 h1.bnd fun d' w2 os2 Z2 H2 v' s2 k2 sl2 r' h2 => ?_
  obtain ⟨xs, e1, h3⟩ := h2.lft
  obtain ⟨m, e2, e3⟩ := Option.bind_eq_some_iff.mp e1
  obtain ⟨n, e4, e5⟩ := Option.bind_eq_some_iff.mp e3
  cases d <;> first | (cases e2; done) | skip
  cases d' <;> first | (cases e4; done) | skip
  cases e2
  cases e4
  split at e5
  · rename_i ho
    cases e5
    rw [Bool.and_eq_true] at ho
    obtain ⟨b1, b2⟩ := rng_ok ho.1
    obtain ⟨b3, b4⟩ := rng_ok ho.2
    rw [LR.int r, LR.int r']
    exact ⟨_, _, rfl, ⟨b1, b2, b3, b4⟩, h3.ret k2 _ walkD_range⟩
  · cases e5
theorem r_enum {e : E} {Q : L2.It → Hp → Prop} (he : lev e = 0) (h : tX P W (evI G (.enum e)) (RI P) σ H Q) : iEnumA P.K (tCons (tX P W (ev G e .v) (RV P (lev e))) tNil) σ H Q := by
  obtain ⟨os, Z, w, env, ad, B, k, sl, h⟩ := h
  have h : Out P W σ os Z H (bnd (ev G e .v env) (fun d => lft ((seqL d).map (enumL 0))) w) _ := h
  refine tX_intro k sl h.bnd fun d w1 os1 Z1 H1 v s1 k1 sl1 r h1 => ?_
  obtain ⟨xs, e1, h2⟩ := h1.lft
  obtain ⟨zs, e2, rfl⟩ := Option.map_eq_some_iff.mp e1
  rw [he] at r
  cases d <;> first | (cases e2; done) | skip
  case tup ds =>
    cases e2
    obtain ⟨a, vs, rfl, ha, rr⟩ := Rep.tup r
    exact .inr ⟨a, vs, rfl, .of (k1.zh _ _ ha), h2.ret k1 _ (walkD_enumT ha rr)⟩
  case lst ds =>
    cases e2
    obtain ⟨a, vs, rfl, ha, rr⟩ := Rep.lst r
    exact .inl ⟨a, vs, rfl, .of (k1.zh _ _ ha), h2.ret k1 _ (walkD_enumL ha rr)⟩
theorem r_zip {a b : E} {Q : L2.It → Hp → Prop} (ha : lev a = 0) (hb : lev b = 0) (h : tX P W (evI G (.zip a b)) (RI P) σ H Q) : iZip P.K (tCons (tX P W (ev G a .v) (RV P (lev a))) (tCons (tX P W (ev G b .v) (RV P (lev b))) tNil)) σ H Q := by
  obtain ⟨os, Z, w, env, ad, B, k, sl, h⟩ := h
  have h : Out P W σ os Z H (bnd (ev G a .v env) (fun x => bnd (ev G b .v env) fun y => lft ((lstL x).bind fun xs => (lstL y).map fun ys => zipL xs ys)) w) _ := h
  refine tX_intro k sl h.bnd fun d w1 os1 Z1 H1 v s1 k1 sl1 r h1 => ?_
  refine tX_intro k1 sl1 h1.bnd fun d' w2 os2 Z2 H2 v' s2 k2 sl2 r' h2 => ?_
  obtain ⟨zs, e1, h3⟩ := h2.lft
  obtain ⟨xs, e2, e3⟩ := Option.bind_eq_some_iff.mp e1
  obtain ⟨ys, e4, rfl⟩ := Option.map_eq_some_iff.mp e3
  rw [ha] at r
  rw [hb] at r'
  cases d <;> first | (cases e2; done) | skip
  cases d' <;> first | (cases e4; done) | skip
  cases e2
  cases e4
  obtain ⟨p, vs, rfl, hp, rr⟩ := Rep.lst (Rep.mono s2.zle s2.ex r)
  obtain ⟨q, us, rfl, hq, rr'⟩ := Rep.lst r'
  exact ⟨p, q, vs, us, rfl, .of (k2.zh _ _ hp), .of (k2.zh _ _ hq), h3.ret k2 _ (walkD_zip hp hq rr rr')⟩
theorem r_keys {e : E} {Q : L2.It → Hp → Prop} (he : lev e = 0) (h : tX P W (evI G (.keys e)) (RI P) σ H Q) : iDictN (·.key) (tX P W (ev G e .v) (RV P (lev e))) σ H Q := by
  obtain ⟨os, Z, w, env, ad, B, k, sl, h⟩ := h
  have h : Out P W σ os Z H (bnd (ev G e .v env) (fun d => lft (match d with
    | .dct kvs => some (kvs.map (·.1))
    | _ => none)) w) _ := h
  refine tX_intro k sl h.bnd fun d w1 os1 Z1 H1 v s1 k1 sl1 r h1 => ?_
  obtain ⟨xs, e1, h2⟩ := h1.lft
  rw [he] at r
  cases d <;> first | (cases e1; done) | skip
  cases e1
  obtain ⟨a, rfl, es, ep, qs, g1, g2, g3⟩ := Rep.dct r
  obtain ⟨f1, f2⟩ := keys_reps g3 g2.row g2.key
  exact ⟨a, es, ep, _, rfl, k1.zh _ _ g1, f2, h2.ret k1 _ (walkD_at walk_raw (fun os' w' Z' H' hz ho k => k.zh _ _ (hz _ _ g1)) f1)⟩
theorem r_vals {e : E} {Q : L2.It → Hp → Prop} (he : lev e = 0) (h : tX P W (evI G (.vals e)) (RI P) σ H Q) : iDictN (·.val) (tX P W (ev G e .v) (RV P (lev e))) σ H Q := by
  obtain ⟨os, Z, w, env, ad, B, k, sl, h⟩ := h
  have h : Out P W σ os Z H (bnd (ev G e .v env) (fun d => lft (match d with
    | .dct kvs => some (kvs.map (·.2))
    | _ => none)) w) _ := h
  refine tX_intro k sl h.bnd fun d w1 os1 Z1 H1 v s1 k1 sl1 r h1 => ?_
  obtain ⟨xs, e1, h2⟩ := h1.lft
  rw [he] at r
  cases d <;> first | (cases e1; done) | skip
  cases e1
  obtain ⟨a, rfl, es, ep, qs, g1, g2, g3⟩ := Rep.dct r
  obtain ⟨f1, f2⟩ := vals_reps g3 g2.row
  exact ⟨a, es, ep, _, rfl, k1.zh _ _ g1, f2, h2.ret k1 _ (walkD_at walk_raw (fun os' w' Z' H' hz ho k => k.zh _ _ (hz _ _ g1)) f1)⟩
end
end VI

set_option Elab.async false
set_option linter.all false
set_option maxRecDepth 100000
set_option maxHeartbeats 2000000
/-! VI, part 10s: a walk over sorted(e, key=lambda one: -told[one]) -/
namespace VI
open PySem L2
theorem insB_app {α : Type} {lt : α → α → Bool} {a : α} : ∀ {l m : List α}, (∀ b ∈ l, lt b a = true) → (∀ b ∈ m, lt b a = false) → insB lt a (l ++ m) = l ++ a :: m
  | [], [], _, _ => rfl
  | [], b :: m, _, h => by
    show (if lt b a then _ else _) = _
    rw [h b (.head _)]; rfl
  | b :: l, m, h, g => by
    show (if lt b a then b :: insB lt a (l ++ m) else _) = _
    rw [h b (.head _), if_pos rfl, insB_app (fun c hc => h c (.tail _ hc)) g]; rfl
theorem merge_isortB {α : Type} {lt : α → α → Bool} (tr : ∀ a b c, lt b a = false → lt c b = false → lt c a = false) (tot : ∀ a b, lt b a = false ∨ lt a b = false) : ∀ (l : List α), l.mergeSort (fun a b => !lt b a) = isortB lt l
  | [] => by simp [isortB]
  | x :: l => by
    have t1 : ∀ (a b c : α), (!lt b a) = true → (!lt c b) = true → (!lt c a) = true := fun a b c h1 h2 => by
      simp only [Bool.not_eq_true'] at *
      exact tr a b c h1 h2
    have t2 : ∀ (a b : α), ((!lt b a) || (!lt a b)) = true := fun a b => by
      rcases tot a b with h | h <;> simp [h]
    obtain ⟨l1, l2, e1, e2, e3⟩ := List.mergeSort_cons (le := fun a b => !lt b a) t1 t2 x l
    have ih := merge_isortB tr tot l
    show _ = insB lt x (isortB lt l)
    rw [← ih, e2, e1]
    have hs := List.pairwise_mergeSort (le := fun a b => !lt b a) t1 t2 (x :: l)
    rw [e1] at hs
    refine (insB_app (fun b hb => by simpa using e3 b hb) fun b hb => ?_).symm
    have := (List.pairwise_cons.mp (List.pairwise_append.mp hs).2.1).1 b hb
    simpa using this
section
variable {P : Pm} {W : WX} {G : Glo} {os : List Addr} {Z H H2 : Hp} {w : Wd} {σ : Stt}
theorem ok_tab (k : Ok P os w Z H) (st : VL.Grow P.tb H H2) : Ok P os w Z H2 ∧ Step (Ex H) os Z H os Z H2 := by
  refine ⟨⟨fun a o h => st.keep a o (k.zh a o h) fun ps z => k.zt a ps (by rw [h, z]), k.nz, k.nd, k.len, fun n a o h1 h2 => ?_, st.tabs, k.zt⟩, ⟨fun a o _ h _ nt => st.keep a o h nt, fun a h => st.there a h, Le.refl, fun _ _ h => h, [], by simp, by simp⟩⟩
  have := k.obj n a o h1 h2
  cases o with
  | cells ds =>
    obtain ⟨vs, hv, r⟩ := this
    exact ⟨vs, st.keep _ _ hv nt_lst, r⟩
  | inst c fs =>
    obtain ⟨C, dx, vs, e, hv, r⟩ := this
    exact ⟨C, dx, vs, e, st.keep _ _ hv (fun _ z => nomatch z), r⟩
theorem keysI_refs {kvs : List (D × D)} {qs : List Row} (ht : Paired (RepK P os Z) kvs qs) : ∀ {xs : List D} {ps : List (D × Int)} {vs : List V}, keysI kvs xs = some ps → Reps P os Z xs vs →
    ∃ bs : List VL.Kb, vs = bs.map (fun b => V.ref b.1) ∧ Paired (fun (p : D × Int) (b : VL.Kb) => Rep P os Z p.1 (.ref b.1) ∧ p.2 = b.2.2) ps bs ∧ ∀ b ∈ bs, KeyOk Z b.2.1 b.1 ∧ ∃ q, findQ qs b.2.1 = some q ∧ q.2.2 = V.int b.2.2
  | [], ps, vs, e, r => by
    unfold Reps at r
    cases e
    exact ⟨[], by simp [r], .nil, by simp⟩
  | x :: xs, ps, vs, e, r => by
    unfold Reps at r
    obtain ⟨v, rs, rfl, r1, r2⟩ := r
    unfold keysI at e
    split at e
    · rename_i hk
      split at e
      · rename_i n hg
        obtain ⟨ps', e1, rfl⟩ := Option.map_eq_some_iff.mp e
        obtain ⟨bs, rfl, h2, h3⟩ := keysI_refs ht e1 r2
        obtain ⟨b, rfl, kb⟩ := key_ok hk r1
        obtain ⟨q, f1, f2⟩ := dget_some hk ht hg
        unfold Rep at f2
        refine ⟨(b, nk x, n) :: bs, rfl, .cons ⟨r1, rfl⟩ h2, fun c hc => ?_⟩
        rcases List.mem_cons.mp hc with rfl | hc
        · exact ⟨kb, q, f1, f2⟩
        · exact h3 c hc
      · cases e
    · cases e
theorem zip_of {α β : Type} {F : α → β → Prop} : ∀ {xs : List α} {ys : List β}, Paired F xs ys → (xs.zip ys).map (·.1) = xs ∧ (xs.zip ys).map (·.2) = ys ∧ ∀ p ∈ xs.zip ys, F p.1 p.2
  | _, _, .nil => ⟨rfl, rfl, by simp⟩
  | _, _, .cons h t => by
    obtain ⟨h1, h2, h3⟩ := zip_of t
    refine ⟨by simp [h1], by simp [h2], fun p hp => ?_⟩
    rcases List.mem_cons.mp hp with rfl | hp
    · exact h
    · exact h3 p hp
theorem slam_reps {ps : List (D × Int)} {bs : List VL.Kb} (h : Paired (fun (p : D × Int) (b : VL.Kb) => Rep P os Z p.1 (.ref b.1) ∧ p.2 = b.2.2) ps bs) :
    Reps P os Z ((isortB (fun p q => decide (-p.2 < -q.2)) ps).map (·.1)) ((bs.mergeSort (PySem.W.dataLe false fun b => PyData.int (-b.2.2))).map fun b => V.ref b.1) := by
  obtain ⟨e1, e2, e3⟩ := zip_of h
  have m1 := List.map_mergeSort (r := fun (a b : (D × Int) × VL.Kb) => !decide (-b.1.2 < -a.1.2)) (s := fun (p q : D × Int) => !decide (-q.2 < -p.2)) (f := fun p => p.1) (l := ps.zip bs) (fun a _ b _ => rfl)
  have m2 := List.map_mergeSort (r := fun (a b : (D × Int) × VL.Kb) => !decide (-b.1.2 < -a.1.2)) (s := PySem.W.dataLe false fun (b : VL.Kb) => PyData.int (-b.2.2)) (f := fun p => p.2) (l := ps.zip bs) (fun a ha b hb => by
    show _ = !PySem.W.dataLt (.int (-b.2.2.2)) (.int (-a.2.2.2))
    rw [PySem.W.dataLt_int, (e3 a ha).2, (e3 b hb).2])
  rw [e1] at m1
  rw [e2] at m2
  rw [← merge_isortB (lt := fun (p q : D × Int) => decide (-p.2 < -q.2)) (fun a b c h1 h2 => by simp only [decide_eq_false_iff_not] at *; omega) (fun a b => by simp only [decide_eq_false_iff_not]; omega) ps, ← m1, ← m2, List.map_map, List.map_map]
  have hp := List.mergeSort_perm (ps.zip bs) (fun (a b : (D × Int) × VL.Kb) => !decide (-b.1.2 < -a.1.2))
  have h4 : ∀ z ∈ (ps.zip bs).mergeSort (fun (a b : (D × Int) × VL.Kb) => !decide (-b.1.2 < -a.1.2)), Rep P os Z z.1.1 (.ref z.2.1) := fun z hz => (e3 z (hp.mem_iff.mp hz)).1
  generalize (ps.zip bs).mergeSort (fun (a b : (D × Int) × VL.Kb) => !decide (-b.1.2 < -a.1.2)) = l at h4
  clear hp m1 m2 e1 e2 e3
  induction l with
  | nil => exact reps_nil
  | cons z l ih => exact reps_cons (h4 z (.head _)) (ih fun y hy => h4 y (.tail _ hy))
theorem r_slam {i : Nat} {e : E} {Q : L2.It → Hp → Prop} (he : lev e = 0) (h : tX P W (evI G (.slam i e)) (RI P) σ H Q) : iSeqA P.K (VL.tSortLam P.tb P.K P.wo i (tX P W (ev G e .v) (RV P (lev e)))) σ H Q := by
  obtain ⟨os, Z, w, env, ad, B, k, sl, h⟩ := h
  have h : Out P W σ os Z H (bnd (ev G e .v env) (fun d => bnd (lft (look env i)) fun t => lft (sortLD t d)) w) _ := h
  refine tX_intro k sl h.bnd fun d w1 os1 Z1 H1 v s1 k1 sl1 r h1 => ⟨k1.tb, fun H2 st => ?_⟩
  rw [he] at r
  obtain ⟨t, e1, h2⟩ := h1.bnd.lft
  have h3 := h2.ret k1
  obtain ⟨xs, e2, h4⟩ := Out.lft (os := os1) (Z := Z1) (H := H1) h3
  unfold sortLD at e2
  split at e2
  case h_2 => cases e2
  rename_i kvs ds
  obtain ⟨ps, e3, rfl⟩ := Option.map_eq_some_iff.mp e2
  obtain ⟨l, vs, rfl, hl, rr⟩ := Rep.lst r
  have e4 : env[i]? = some (.fz (.dct kvs)) := by
    unfold look at e1
    split at e1
    · rename_i q
      rw [q]
      cases e1
      rfl
    · cases e1
  obtain ⟨vd, es1, rd⟩ := sl1.at_ i _ e4
  obtain ⟨da, rfl, es, ep, qs, hd, hw, ht⟩ := Rep.dct rd
  obtain ⟨bs, rfl, pb, kb⟩ := keysI_refs ht e3 rr
  obtain ⟨k2, s2⟩ := ok_tab k1 st
  refine ⟨l, da, bs, es, ep, qs, rfl, es1, .of (k2.zh _ _ hl), k2.zh _ _ hd, hw.mono k2.zh, fun b hb => ⟨(kb b hb).1.mono k2.zh, (kb b hb).2⟩, fun p hp => ?_⟩
  obtain ⟨k3, s3⟩ := k2.alloc hp (.lst ((bs.mergeSort (PySem.W.dataLe false fun b => PyData.int (-b.2.2))).map fun b => V.ref b.1))
  refine .inl ⟨p, _, rfl, .of upd_same, h4 _ _ _ (s2.then s3) k3 _ (walkD_list upd_same ((slam_reps pb).mono s3.zle s3.ex))⟩
end
end VI

set_option Elab.async false
set_option linter.all false
set_option maxRecDepth 100000
set_option maxHeartbeats 2000000
/-! VI, part 11: every expression. -/
namespace VI
open PySem L2
theorem map_lookup {f : Str × NameKind → NameKind} : ∀ {l : List (Str × NameKind)} {x : Str} {k : NameKind}, l.lookup x = some k → (∀ y, f (y, k) = k) → (l.map fun p => (p.1, f p)).lookup x = some k
  | [], x, k, h, _ => by cases h
  | (n, j) :: l, x, k, h, hf => by
    rw [List.map_cons, List.lookup_cons]
    rw [List.lookup_cons] at h
    cases q : x == n with
    | true =>
      rw [q] at h
      have hj : j = k := Option.some.inj h
      subst hj
      show some (f (n, j)) = some j
      rw [hf]
    | false =>
      rw [q] at h
      exact map_lookup h hf
theorem relS_names {scope sc : Scope} : (relS scope sc).names = scope.names.map fun p => (p.1, if (p.2 == .free && sc.kind == .function && sc.names.lookup p.1 == some .cell) then .cell else p.2) := by
  unfold relS
  show scope.names.map _ = _
  apply List.map_congr_left
  rintro ⟨n, k⟩ _
  show (if _ then _ else _) = _
  split <;> rfl
theorem relS_loc {scope sc : Scope} {x : Str} (h : locB scope x = true) : scope.names.lookup x = some .local ∧ (relS scope sc).names.lookup x = some .local ∨ scope.names.lookup x = some .cell ∧ (relS scope sc).names.lookup x = some .cell := by
  rw [relS_names]
  rcases loc_of h with q | q
  · exact .inl ⟨q, map_lookup q fun y => rfl⟩
  · exact .inr ⟨q, map_lookup q fun y => rfl⟩
section
variable {P : Pm} {W : WX} {G : Glo} {X : Cx} {c : Ck} {sc : Scope}
theorem gl_of {x : Str} (g : Gd P G c sc X) (h : glB sc x = true) : Gl X x := by
  unfold glB at h
  show X.env.scope.names.lookup x = _
  rw [g.sc]
  exact of_decide_eq_true h
/-- a block's context -/
theorem Gd.blk (g : Gd P G c sc X) (s : Shared) (H : Hp) (scope : Scope) (C : Addr) (cl : List (Str × Addr)) (fp : List Addr) : Gd P G c.inB (relS scope sc) (X.blk s H scope (compEnvC scope cl C X.env) fp) := by
  refine ⟨g.K, g.W, g.N, g.nd, ?_, g.calm, g.room, g.un, g.blt, g.glob, fun hh x n hx => ?_, g.fld, fun hh q r hq => ?_, fun hh x r hx => ?_, g.er, g.he, g.two, fun x bw hx => let ⟨kf, fA, fd, ps, h⟩ := g.hcall x bw hx; ⟨kf, fA, fd, ps, h.ok, h.room, h.mg, h.keep, h.bind⟩, fun e => let ⟨cd, Pt, h⟩ := g.lam e; ⟨cd, Pt, h.code, h.tab, h.mem, h.uni⟩, fun _ z => (by cases z)⟩
  · show relS scope X.env.scope = _
    rw [g.sc]
  · obtain ⟨kf, fA, fd, ps, h⟩ := g.call hh x n hx
    exact ⟨kf, fA, fd, ps, h.ok, h.room, h.mg, h.keep, h.bind⟩
  · obtain ⟨C, kf, fA, fd, ps, h⟩ := g.meth hh q r hq
    exact ⟨C, kf, fA, fd, ps, h.cls, h.cl, h.mt, h.ok, h.room, h.bind⟩
  · obtain ⟨C, kf, fA, fd, ps, h⟩ := g.make hh x r hx
    exact ⟨C, kf, fA, fd, ps, h.cls, h.mkr, h.ok, h.room, h.mg, h.bind⟩
theorem Sto.blk (g : Gd P G c sc X) (s : Shared) (H : Hp) (scope : Scope) (C : Addr) (cl : List (Str × Addr)) (fp : List Addr) : Sto (X.blk s H scope (compEnvC scope cl C X.env) fp) scope := by
  refine ⟨fun x h => ?_, fun x h => ?_⟩
  · show Loc (relS scope X.env.scope) x
    rcases relS_loc (sc := X.env.scope) h with q | q
    · exact .inl q.2
    · exact .inr q.2
  · rcases relS_loc (sc := X.env.scope) h with q | q
    · exact .inr q.2
    · refine .inl ?_
      show (scope.names.lookup x == some .cell) = true
      rw [q.1]; rfl
theorem takes_blk (s : Shared) (H : Hp) (scope : Scope) (ce : PySem.Env) (fp : List Addr) : L2N.Takes (X.blk s H scope ce fp) W0 := fun u s' x => by
  obtain ⟨_, _, _, _, _, _, _, _, _, _, _, _, _, _, _, _, w⟩ := x
  exact w.elim
theorem units_of (g : Gd P G c sc X) : X.A.units + 65 < cLine := g.un
theorem own_snd (p : Pat) : (ownOf c p).map (·.2) = p.slots := by
  unfold ownOf
  rw [List.map_map]
  show List.map (fun i => i) p.slots = p.slots
  exact List.map_id' _
/-! each tree serves at every place -/
theorem chk_good : ∀ {e : E} {t : Expr}, chkE c sc e t = true → good t = true := by
  intro e t h
  cases e <;> try simp only [chkE] at h
  case var => split at h <;> first | (cases h; done) | (rename_i q; have := asName_eq q; subst this; rfl)
  case bor => split at h <;> first | (cases h; done) | (rename_i q; have := asName_eq q; subst this; rfl)
  case bor2 => split at h <;> first | (cases h; done) | (rename_i q; have := asName_eq q; subst this; rfl)
  case glob => split at h <;> first | (cases h; done) | (rename_i q; have := asName_eq q; subst this; rfl)
  case int => split at h <;> first | (cases h; done) | (rename_i q; have := asConst_eq q; subst this; rfl)
  case bl => split at h <;> first | (cases h; done) | (rename_i q; have := asConst_eq q; subst this; rfl)
  case str => split at h <;> first | (cases h; done) | (rename_i q; have := asConst_eq q; subst this; rfl)
  case non => split at h <;> first | (cases h; done) | (rename_i q; have := asConst_eq q; subst this; rfl)
  case tup => split at h <;> first | (cases h; done) | (rename_i q; have := asTup_eq q; subst this; rfl)
  case lst => split at h <;> first | (cases h; done) | (rename_i q; have := asLst_eq q; subst this; rfl)
  case dct ks vs =>
    cases ks with
    | nil =>
      cases vs with
      | nil =>
        simp only [chkE] at h
        obtain ⟨r, q⟩ := Option.isSome_iff_exists.mp h
        have := asDct0_eq q; subst this; rfl
      | cons _ _ => simp [chkE] at h
    | cons k ks =>
      cases ks with
      | cons _ _ => simp [chkE] at h
      | nil =>
        cases vs with
        | nil => simp [chkE] at h
        | cons v vs =>
          cases vs with
          | cons _ _ => simp [chkE] at h
          | nil =>
            simp only [chkE] at h
            split at h
            · rename_i q; have := asDct1_eq q; subst this; rfl
            · cases h
  case chain3 => cases h
  case ist => split at h <;> first | (cases h; done) | (rename_i q; have := asCmp1_eq q; subst this; rfl)
  case skeys => split at h <;> first | (cases h; done) | (rename_i q; have := asCall_eq q; subst this; rfl)
  case lvals => split at h <;> first | (cases h; done) | (rename_i q; have := asCall_eq q; subst this; rfl)
  case bin => split at h <;> first | (cases h; done) | (rename_i q; have := asBin_eq q; subst this; rfl)
  case neg => split at h <;> first | (cases h; done) | (rename_i q; have := asUn_eq q; subst this; rfl)
  case not => split at h <;> first | (cases h; done) | (rename_i q; have := asUn_eq q; subst this; rfl)
  case and => split at h <;> first | (cases h; done) | (rename_i q; have := asBool_eq q; subst this; rfl)
  case or => split at h <;> first | (cases h; done) | (rename_i q; have := asBool_eq q; subst this; rfl)
  case ite => split at h <;> first | (cases h; done) | (rename_i q; have := asIf_eq q; subst this; rfl)
  case cmp => split at h <;> first | (cases h; done) | (rename_i q; have := asCmp1_eq q; subst this; rfl)
  case chain => split at h <;> first | (cases h; done) | (rename_i q; have := asCmp2_eq q; subst this; rfl)
  case isn => split at h <;> first | (cases h; done) | (rename_i q; have := asCmp1_eq q; subst this; rfl)
  case notn => split at h <;> first | (cases h; done) | (rename_i q; have := asCmp1_eq q; subst this; rfl)
  case isi => split at h <;> first | (cases h; done) | (rename_i q; have := asCall_eq q; subst this; rfl)
  case call => split at h <;> first | (cases h; done) | (rename_i q; have := asCall_eq q; subst this; rfl)
  case blt b a =>
    cases b <;> simp only [chkE] at h
    all_goals split at h <;> first | (cases h; done) | (rename_i q; have := asCall_eq q; subst this; rfl)
  case rng => split at h <;> first | (cases h; done) | (rename_i q; have := asCall_eq q; subst this; rfl)
  case cnt => split at h <;> first | (cases h; done) | (rename_i q; have := asMeth_eq q; subst this; rfl)
  case idx => split at h <;> first | (cases h; done) | (rename_i q; have := asMeth_eq q; subst this; rfl)
  case get => split at h <;> first | (cases h; done) | (rename_i q; have := asMeth_eq q; subst this; rfl)
  case ix => split at h <;> first | (cases h; done) | (rename_i q; have := asSub_eq q; subst this; rfl)
  case sl => split at h <;> first | (cases h; done) | (rename_i q; have := asSlice_eq q; subst this; rfl)
  case rev => split at h <;> first | (cases h; done) | (rename_i q; have := asRev_eq q; subst this; rfl)
  case attr => split at h <;> first | (cases h; done) | (rename_i q; have := asAttr_eq q; subst this; rfl)
  case mcall =>
    split at h
    · rename_i q; have := asMeth0_eq q; subst this; rfl
    · split at h
      · rename_i q; have := asMeth_eq q; subst this; rfl
      · cases h
  case make => split at h <;> first | (cases h; done) | (rename_i q; have := asCall_eq q; subst this; rfl)
  case err => split at h <;> first | (cases h; done) | (rename_i q; obtain ⟨_, _, _, q2⟩ := asErr_eq q; subst q2; rfl)
  case join => split at h <;> first | (cases h; done) | (rename_i q; have := asMeth_eq q; subst this; rfl)
  case comp => split at h <;> first | (cases h; done) | (rename_i q; have := asComp_eq q; subst this; rfl)
theorem chkb_star : ∀ {bw : List Bool} {es : Es} {xs : List Expr}, chkB c sc bw es xs = true → xs.all notStar = true
  | [], .nil, [], _ => rfl
  | _ :: _, .cons e es, x :: xs, h => by
    simp only [chkB, Bool.and_eq_true] at h
    rw [List.all_cons, (good_of (chk_good h.1)).1, chkb_star h.2.2]
    rfl
  | [], .nil, _ :: _, h => by simp [chkB] at h
  | [], .cons _ _, _, h => by simp [chkB] at h
  | _ :: _, .nil, _, h => by simp [chkB] at h
  | _ :: _, .cons _ _, [], h => by simp [chkB] at h
/-! isinstance -/
theorem pe_ty {t : Ty} {y : Expr} (g : Gd P G c sc X) (h : chkTy sc t y = true) : PE X y (tC (.ty (tyN t))) ∧ notStar y = true := by
  unfold chkTy at h
  split at h
  · rename_i x pos q
    have := asName_eq q
    subst this
    simp only [Bool.and_eq_true, decide_eq_true_eq] at h
    obtain ⟨rfl, h2⟩ := h
    have gl := gl_of g h2
    refine ⟨?_, rfl⟩
    show PE X (.Name (Str.ofString (tyN t)) pos) (tC (.ty (tyN t)))
    have gl : Gl X (Str.ofString (tyN t)) := gl
    cases t
    · exact pe_bltn gl (g.blt _ (by decide +kernel)) PyProof.Rows.boot_int rfl (by decide +kernel) (by decide +kernel)
    · exact pe_bltn gl (g.blt _ (by decide +kernel)) PyProof.Rows.boot_bool rfl (by decide +kernel) (by decide +kernel)
    · exact pe_bltn gl (g.blt _ (by decide +kernel)) PyProof.Rows.boot_str rfl (by decide +kernel) (by decide +kernel)
    · exact pe_bltn gl (g.blt _ (by decide +kernel)) PyProof.Rows.boot_tuple rfl (by decide +kernel) (by decide +kernel)
    · exact pe_bltn gl (g.blt _ (by decide +kernel)) PyProof.Rows.boot_list rfl (by decide +kernel) (by decide +kernel)
  · cases h
def tTyL (ts : List Ty) : TA := fun _ H Q => Q (ts.map fun t => V.ty (tyN t)) H
theorem pa_tys (g : Gd P G c sc X) : ∀ {ts : List Ty} {ys : List Expr}, chkTyL sc ts ys = true → PA X ys (tTyL ts)
  | [], [], _ => pa_nil
  | [], _ :: _, h => by cases h
  | _ :: _, [], h => by cases h
  | t :: ts, y :: ys, h => by
    unfold chkTyL at h
    rw [Bool.and_eq_true] at h
    obtain ⟨h1, h2⟩ := pe_ty g h.1
    exact (pa_cons h1 (pa_tys g h.2) (star_of h2)).imp fun σ H Q q => q
theorem isi_bl {a : E} {ts : List Ty} {md : Md} (env : Env) (w : Wd) (x : D) (w' : Wd) (h : ev G (.isi a ts) md env w = .ok x w') : ∃ k, x = .bl k := by
  obtain ⟨x, w1, _, h⟩ := bnd_ok h
  obtain ⟨e, _⟩ := lft_ok h
  obtain ⟨k, _, rfl⟩ := Option.map_eq_some_iff.mp e
  exact ⟨k, rfl⟩
theorem dTy_of {d : D} {t : Ty} {ts : List Ty} {b : Bool} (e : isTys d (t :: ts) = some b) : ∃ n, dTy d = some n := by
  unfold isTys at e
  cases h1 : D.isTy t d with
  | none => rw [h1] at e; cases e
  | some c1 => obtain ⟨m, e1, _⟩ := isTy_ok h1; exact ⟨m, e1⟩
theorem r_isi1 {a : E} {t : Ty} {md : Md} {σ : Stt} {H : Hp} {Q : VK} (h : tX P W (ev G (.isi a [t]) md) (RV P 0) σ H Q) :
    tX P W (ev G a .v) (RV P (lev a)) σ H fun x H1 => tC (.ty (tyN t)) σ H1 fun y H2 => rIsiY P.K [x, y] H2 Q := by
  obtain ⟨os, Z, w, env, ad, B, k, sl, h⟩ := h
  have h : Out P W σ os Z H (bnd (ev G a .v env) (fun x => lft ((isTys x [t]).map D.bl)) w) _ := h
  refine tX_intro k sl h.bnd fun d w1 os1 Z1 H1 v s1 k1 sl1 r h1 => ?_
  obtain ⟨e, e1, h2⟩ := h1.lft
  obtain ⟨b, e2, rfl⟩ := Option.map_eq_some_iff.mp e1
  obtain ⟨n, hn⟩ := dTy_of e2
  exact ⟨v, _, .type n, .type (tyN t), b, rfl, .ty _, ty_of k1.zh r hn, isTy_single hn e2, h2.ret k1 _ (by show Rep P os1 Z1 _ _; unfold Rep; rfl)⟩
theorem paired_cls : ∀ ts : List Ty, Paired ClsV (ts.map fun t => V.ty (tyN t)) (ts.map fun t => Value.type (tyN t))
  | [] => .nil
  | t :: ts => .cons (.ty _) (paired_cls ts)
theorem r_isiL {a : E} {t : Ty} {ts : List Ty} {md : Md} {σ : Stt} {H : Hp} {Q : VK} (hl : (t :: ts).length ≤ 10) (h : tX P W (ev G (.isi a (t :: ts)) md) (RV P 0) σ H Q) :
    tX P W (ev G a .v) (RV P (lev a)) σ H fun x H1 => tTup (tTyL (t :: ts)) σ H1 fun y H2 => rIsiTY P.K [x, y] H2 Q := by
  obtain ⟨os, Z, w, env, ad, B, k, sl, h⟩ := h
  have h : Out P W σ os Z H (bnd (ev G a .v env) (fun x => lft ((isTys x (t :: ts)).map D.bl)) w) _ := h
  refine tX_intro k sl h.bnd fun d w1 os1 Z1 H1 v s1 k1 sl1 r h1 => ?_
  obtain ⟨e, e1, h2⟩ := h1.lft
  obtain ⟨b, e2, rfl⟩ := Option.map_eq_some_iff.mp e1
  obtain ⟨n, hn⟩ := dTy_of e2
  refine ⟨by rw [List.length_map, sizeLine_eq]; omega, fun p hp => ?_⟩
  obtain ⟨k2, st⟩ := k1.alloc hp (.tup ((t :: ts).map fun t => V.ty (tyN t)))
  exact ⟨v, p, _, .type n, _, b, rfl, upd_same, paired_cls (t :: ts), ty_of k2.zh (LR.step st r) hn, isTys_ok hn e2, h2 _ _ _ st k2 _ (by show Rep P os1 _ _ _; unfold Rep; rfl)⟩
end
end VI

set_option Elab.async false
set_option linter.all false
set_option maxRecDepth 100000
set_option maxHeartbeats 4000000
/-! VI, part 11e: f(lambda: body), f told of errors by the lambda -/
namespace VI
open PySem PySem.Spec PyProof.Rows L2
section
variable {P : Pm} {W : WX} {G : Glo} {X : Cx} {c : Ck} {sc : Scope}
/-- a lambda's body's context -/
theorem Gd.inL (g : Gd P G c sc X) {n : Nat} (cl : ∀ x bw, c.defs.lookup x = some bw → ∃ kf fA fd ps, kf ≤ n ∧ CallOk P G X x kf fA fd ps bw) {A : Around} {out : List PySem.Env} {s2 : Shared} {H2 : Hp} {E : XK} {scope : Scope} {f c' : Addr}
    (hr : Room n (A.deeper (VL.envL X scope s2.heap.objs.size f c'))) (h1 : 1 ≤ n) : Gd P G c.inL scope (VL.cxL X A out s2 H2 E scope f c') where
  K := g.K
  W := g.W
  N := g.N
  nd := g.nd
  sc := rfl
  calm := fun _ => rfl
  room := fun _ => hr.mono h1
  un := by have := hr.un; show (A.deeper (VL.envL X scope s2.heap.objs.size f c')).units + 65 < cLine; omega
  blt := g.blt
  glob := g.glob
  call := fun _ x bw hx => by
    obtain ⟨kf, fA, fd, ps, hk, h⟩ := cl x bw hx
    exact ⟨kf, fA, fd, ps, h.ok, hr.mono hk, h.mg, h.keep, h.bind⟩
  fld := g.fld
  meth := fun _ q r hq => (by cases hq)
  make := fun _ x r hx => (by cases hx)
  er := g.er
  he := g.he
  two := g.two
  hcall := fun x bw hx => (by cases hx)
  lam := fun z => (by cases z)
  err := fun _ z => (by cases z)
theorem lamB_of {N : List Str} {params : Arguments} {scope : Scope} (h : lamB N sc params scope = true) : VL.lamPB params = true ∧ params.args.length = params.defaults.length ∧ (∀ y ∈ params.args, scope.names.lookup y.arg = some .local) ∧ VL.LamN N sc scope := by
  unfold lamB at h
  simp only [Bool.and_eq_true, decide_eq_true_eq, List.all_eq_true] at h
  exact ⟨h.1, h.2.1, h.2.2.1, lamN_by h.2.2.2⟩
theorem pe_err {n : Nat} {params : Arguments} {body : Expr} {scope : Scope} {p lpos pos : Pos} {m : Env → M VI.D} (g : Gd P G c sc X) (hl : c.lam = true) (eo : ErrOk P X n) (hg : Gl X errN) (hb : lamB c.N sc params scope = true)
    (hbody : ∀ (E : XK) (A : Around) (out : List PySem.Env) (s2 : Shared) (H2 : Hp) (f c' : Addr), Room n (A.deeper (VL.envL X scope s2.heap.objs.size f c')) → PE (VL.cxL X A out s2 H2 E scope f c') body (tX P (fun cls d _ H' => E cls d H') m (RV P 0))) :
    PE X (.Call (.Name errN p) [.Lambda params body scope lpos] [] pos) (tX P W (fun env => errM (m env)) (RV P 0)) := by
  obtain ⟨hp, ha, hpl, hL⟩ := lamB_of hb
  rw [← g.N, ← g.sc] at hL
  obtain ⟨cd, Pt, L⟩ := g.lam hl
  obtain ⟨ge, hm, hk, run⟩ := eo
  refine ⟨fun pins s σ H Q I h => ?_⟩
  obtain ⟨os, Z, w, env, ad, B, k, sl, out⟩ := h
  refine wpAny_Call_Name_kw (ld_glob I hg hm ?_ (by decide +kernel))
  refine PySem.W.callWith_K (h₀ := X.base) I.ok.mod.kin hk ?_ (by rfl) (by rfl)
  show wpAny _ _ (spliced ((false, eval (.Lambda params body scope lpos) X.env) :: backTo pos (starEach [] X.env))) _ _ s
  refine Calls.spliced_cons (VL.lam_mk I L.tab L.code L.mem L.uni k.tb (hL.cells I.ok) hp fun f c' H1 s1 I1 st T1 hlk => ?_)
  refine Calls.spliced_nil ⟨I1.kIn, ?_⟩
  obtain ⟨k1, st1⟩ := ok_tab k (st.grow T1)
  refine wpAny_call (codeAny_mono (run W pins s1 σ H1 Q m params body scope f c' I1 hL hp ha hpl hlk (fun E A out s2 H2 hr => hbody E A out s2 H2 f c' hr) ⟨os, Z, w, env, ad, B, k1, sl.step st1, Out.base st1 out⟩) fun r s2 hq => ?_)
  cases r with
  | error e =>
    obtain ⟨_, _, _, _, _, _, _, _, _, _, _, _, z⟩ := hq
    exact z.elim
  | ok fl => cases fl <;> first | exact I1.after hq | exact False.elim hq
end
end VI

set_option Elab.async false
set_option linter.all false
set_option maxRecDepth 100000
set_option maxHeartbeats 4000000
/-! VI, part 12: every expression keeps what the small language says of it. -/
namespace VI
open PySem L2
section
variable {P : Pm} {G : Glo}
theorem lev0 {e : E} (h : lev e = 0) {X : Cx} {W : WX} {t : Expr} (p : PE X t (tX P W (ev G e .v) (RV P (lev e)))) : PE X t (tX P W (ev G e .v) (RV P 0)) := by rw [h] at p; exact p
theorem rv_base {n : Nat} : ∀ (d : D) os Z H0 H1 H v, RV P n d os Z H1 H v → RV P n d os Z H0 H v := fun _ _ _ _ _ _ _ h => h
theorem rb_base : ∀ (d : D) os Z H0 H1 H (v : Bool), RB d os Z H1 H v → RB d os Z H0 H v := fun _ _ _ _ _ _ _ h => h
theorem marks2 {op op' : CmpOp} {b d : Expr} (h : notSet d = true) : lastMarks [op, op'] [b, d] = false := by
  show lastMarks [op'] [d] = false
  show behindInMarks op' d = false
  exact marks_of h
theorem blId_ne (b : Bl1) : Str.ofString (blId b) ≠ ("__name__" : Str) := by cases b <;> decide +kernel
theorem blId_dbg (b : Bl1) : (Str.ofString (blId b) == ("__debug__" : Str)) = false := by cases b <;> decide +kernel
mutual
theorem snd_E : ∀ (e : E) {c : Ck} {X : Cx} {W : WX} {sc : Scope} {t : Expr}, Gd P G c sc X → L2N.Takes X W → chkE c sc e t = true → SE P W G X e t
  | .var i, c, X, W, sc, t, g, tk, h => by
    simp only [chkE] at h
    split at h
    · rename_i q
      have := asName_eq q
      subst this
      exact SE.of g.K ((pe_name g h).imp fun _ _ _ z => r_var z) (fun z => by cases z) (fun _ => rfl) rfl
    · cases h
  | .bor i, c, X, W, sc, t, g, tk, h => by
    simp only [chkE] at h
    split at h
    · rename_i q
      have := asName_eq q
      subst this
      exact SE.of g.K ((pe_name g h).imp fun _ _ _ z => r_bor z) (fun z => by cases z) (fun _ => rfl) rfl
    · cases h
  | .bor2 i, c, X, W, sc, t, g, tk, h => by
    simp only [chkE] at h
    split at h
    · rename_i q
      have := asName_eq q
      subst this
      exact SE.of g.K ((pe_name g h).imp fun _ _ _ z => r_bor2 z) (fun z => by cases z) (fun _ => rfl) rfl
    · cases h
  | .glob n, c, X, W, sc, t, g, tk, h => by
    simp only [chkE] at h
    split at h
    · rename_i q
      have := asName_eq q
      subst this
      simp only [Bool.and_eq_true, decide_eq_true_eq] at h
      obtain ⟨h1, h2, h3, h4⟩ := h
      obtain ⟨u, d, v, g1, g2, g3, g4⟩ := g.glob _ h2
      refine SE.of g.K ((pe_glob (gl_of g h1) g1 g2 (dbg_of h4).1).imp fun σ H Q z => ?_) (fun z => by cases z) (fun _ => rfl) rfl
      obtain ⟨os, Z, w, env, ad, B, k, sl, z⟩ := z
      have z : Out P W σ os Z H (lft (G.glob n) w) _ := z
      obtain ⟨d', e, z2⟩ := z.lft
      rw [← h3, g3] at e
      cases e
      exact z2.ret k v (.of (g4 os Z))
    · cases h
  | .int i, c, X, W, sc, t, g, tk, h => by
    simp only [chkE] at h
    split at h
    · rename_i q
      have := asConst_eq q
      subst this
      cases of_decide_eq_true h
      exact SE.of g.K (pe_int.imp fun _ _ _ z => r_const (d := .int i) (fun _ _ => by unfold Rep; rfl) z) (fun z => by cases z) (fun _ => rfl) rfl
    · cases h
  | .bl i, c, X, W, sc, t, g, tk, h => by
    simp only [chkE] at h
    split at h
    · rename_i q
      have := asConst_eq q
      subst this
      cases of_decide_eq_true h
      exact SE.of g.K (pe_bl.imp fun _ _ _ z => r_const (d := .bl i) (fun _ _ => by unfold Rep; rfl) z) (fun z => by cases z) (fun _ => rfl) rfl
    · cases h
  | .str i, c, X, W, sc, t, g, tk, h => by
    simp only [chkE] at h
    split at h
    · rename_i q
      have := asConst_eq q
      subst this
      cases of_decide_eq_true h
      exact SE.of g.K (pe_str.imp fun _ _ _ z => r_const (d := .str i) (fun _ _ => by unfold Rep; rfl) z) (fun z => by cases z) (fun _ => rfl) rfl
    · cases h
  | .non, c, X, W, sc, t, g, tk, h => by
    simp only [chkE] at h
    split at h
    · rename_i q
      have := asConst_eq q
      subst this
      exact SE.of g.K (pe_non.imp fun _ _ _ z => r_const (d := .non) (fun _ _ => by unfold Rep; rfl) z) (fun z => by cases z) (fun _ => rfl) rfl
    · cases h
  | .tup es, c, X, W, sc, t, g, tk, h => by
    simp only [chkE] at h
    split at h
    · rename_i q
      have := asTup_eq q
      subst this
      exact SE.of g.K ((pe_tup (snd_Es es g tk h)).imp fun _ _ _ z => r_tup z) (fun z => by cases z) (fun _ => rfl) rfl
    · cases h
  | .lst es, c, X, W, sc, t, g, tk, h => by
    simp only [chkE] at h
    split at h
    · rename_i q
      have := asLst_eq q
      subst this
      exact SE.ofN g.K ((pe_lst (snd_Es es g tk h)).imp fun _ _ _ z => r_lst z) (fun _ => rfl) rfl
    · cases h
  | .dct .nil .nil, c, X, W, sc, t, g, tk, h => by
    simp only [chkE] at h
    obtain ⟨r, q⟩ := Option.isSome_iff_exists.mp h
    have := asDct0_eq q
    subst this
    exact SE.ofN g.K (pe_dnewN.imp fun _ _ _ z => r_dct0 z) (fun _ => rfl) rfl
  | .dct (.cons ke .nil) (.cons ve .nil), c, X, W, sc, t, g, tk, h => by
    simp only [chkE] at h
    split at h
    · rename_i q
      have := asDct1_eq q
      subst this
      simp only [Bool.and_eq_true, decide_eq_true_eq] at h
      obtain ⟨h1, h2, h3, h4⟩ := h
      have hu := units_of g
      refine SE.ofN g.K ((pe_dispN (by omega) (snd_E ke g tk h1).pv (snd_E ve g tk h2).pv).imp fun _ _ _ z => ?_) (fun _ => rfl) rfl
      rw [g.W]
      exact r_dct1 h3 h4 z
    · cases h
  | .dct .nil (.cons _ _), c, X, W, sc, t, g, tk, h => by simp [chkE] at h
  | .dct (.cons _ .nil) .nil, c, X, W, sc, t, g, tk, h => by simp [chkE] at h
  | .dct (.cons _ .nil) (.cons _ (.cons _ _)), c, X, W, sc, t, g, tk, h => by simp [chkE] at h
  | .dct (.cons _ (.cons _ _)) _, c, X, W, sc, t, g, tk, h => by simp [chkE] at h
  | .chain3 _ _ _ _ _ _ _, c, X, W, sc, t, g, tk, h => by simp [chkE] at h
  | .ist a b, c, X, W, sc, t, g, tk, h => by
    simp only [chkE] at h
    split at h
    · rename_i q
      have := asCmp1_eq q
      subst this
      simp only [Bool.and_eq_true] at h
      obtain ⟨h1, h2⟩ := h
      split at h2
      · rename_i q2
        have e := asConst_eq q2
        simp only at e
        cases of_decide_eq_true h2
        have ia := snd_E a g tk h1
        simp only [e]
        exact ⟨(pe_cmp (pc_isB ia.pv)).imp fun _ _ _ z => r_ist z, (pt_cmp (pc_isB ia.pv)).imp fun _ _ _ z => r_ist (t_bl ist_bl z), fun z => (by cases z), fun _ _ _ z => (by cases z)⟩
      · cases h2
    · rename_i q
      have := asCmp1_eq q
      subst this
      simp only [Bool.and_eq_true] at h
      obtain ⟨h1, h2⟩ := h
      split at h2
      · rename_i q2
        have e := asConst_eq q2
        simp only at e
        have hd := of_decide_eq_true h2
        have ia := snd_E a g tk h1
        simp only [e]
        exact ⟨(pe_cmp (pc_isNotB hd ia.pv)).imp fun _ _ _ z => r_ist z, (pt_cmp (pc_isNotB hd ia.pv)).imp fun _ _ _ z => r_ist (t_bl ist_bl z), fun z => (by cases z), fun _ _ _ z => (by cases z)⟩
      · cases h2
    · cases h
  | .bin o a b, c, X, W, sc, t, g, tk, h => by
    simp only [chkE] at h
    split at h
    · rename_i q
      have := asBin_eq q
      subst this
      simp only [Bool.and_eq_true, decide_eq_true_eq] at h
      obtain ⟨h1, h2, h3, h4, h5⟩ := h
      subst h1
      have ia := snd_E a g tk h2
      have ib := snd_E b g tk h3
      refine SE.ofN g.K ((pe_op (rBin_ok o) ia.pv ib.pv).imp fun _ _ _ z => ?_) (fun _ => rfl) rfl
      rw [g.K]
      exact r_bin h4 h5 z
    · cases h
  | .neg a, c, X, W, sc, t, g, tk, h => by
    simp only [chkE] at h
    split at h
    · rename_i q
      have := asUn_eq q
      subst this
      simp only [Bool.and_eq_true, decide_eq_true_eq] at h
      exact SE.of g.K ((pe_un un_neg (snd_E a g tk h.1).pv).imp fun _ _ _ z => r_neg h.2 z) (fun z => by cases z) (fun _ => rfl) rfl
    · cases h
  | .not a, c, X, W, sc, t, g, tk, h => by
    simp only [chkE] at h
    split at h
    · rename_i q
      have := asUn_eq q
      subst this
      have ia := snd_E a g tk h
      exact ⟨(pe_notT ia.pv).imp fun _ _ _ z => r_notV g.K z, (pt_not ia.pt).imp fun _ _ _ z => r_notT z, fun z => (by cases z), fun _ _ _ z => (by cases z)⟩
    · cases h
  | .and a b, c, X, W, sc, t, g, tk, h => by
    simp only [chkE] at h
    split at h
    · rename_i x y rest pos q
      have := asBool_eq q
      subst this
      simp only [Bool.and_eq_true, decide_eq_true_eq] at h
      obtain ⟨h1, h2, h3, h4⟩ := h
      have ia := snd_E a g tk h1
      have hv : PE X (.BoolOp .And (y :: rest) pos) (tX P W (ev G b .v) (RV P (lev b))) ∧ PW X (.BoolOp .And (y :: rest) pos) (tX P W (ev G b .t) RB) := by
        cases rest with
        | nil =>
          have ib := snd_E b g tk h4
          exact ⟨pe_one ib.pv, pw_and1 ib.pt⟩
        | cons z zs =>
          have ib := snd_E b g tk h4
          exact ⟨ib.pv, ib.pw _ _ _ rfl⟩
      have hw : PW X (.BoolOp .And (x :: y :: rest) pos) (tX P W (ev G (.and a b) .t) RB) := (pw_and ia.pt hv.2).imp fun σ H Q z => by
        have z2 := r_ite rb_base (show tX P W (fun env => iteM (ev G a .t env) (ev G b .t env) (ret (.bl false))) RB σ H Q from z)
        refine tX_mono z2 fun k H1 z3 => ?_
        cases k with
        | true => exact z3
        | false => exact rb_true z3
      exact ⟨(pe_andT ia.pv hv.1).imp fun _ _ _ z => r_andV g.K h2 h3 z, hw.pt, fun z => (by cases z), fun _ _ _ z => (by cases z; exact hw)⟩
    · cases h
  | .or a b, c, X, W, sc, t, g, tk, h => by
    simp only [chkE] at h
    split at h
    · rename_i x y rest pos q
      have := asBool_eq q
      subst this
      simp only [Bool.and_eq_true, decide_eq_true_eq] at h
      obtain ⟨h1, h2, h3, h4⟩ := h
      have ia := snd_E a g tk h1
      have hv : PE X (.BoolOp .Or (y :: rest) pos) (tX P W (ev G b .v) (RV P (lev b))) ∧ PW X (.BoolOp .Or (y :: rest) pos) (tX P W (ev G b .t) RB) := by
        cases rest with
        | nil =>
          have ib := snd_E b g tk h4
          exact ⟨pe_one ib.pv, pw_or1 ib.pt⟩
        | cons z zs =>
          have ib := snd_E b g tk h4
          exact ⟨ib.pv, ib.pw _ _ _ rfl⟩
      have hw : PW X (.BoolOp .Or (x :: y :: rest) pos) (tX P W (ev G (.or a b) .t) RB) := (pw_or ia.pt hv.2).imp fun σ H Q z => by
        have z2 := r_ite rb_base (show tX P W (fun env => iteM (ev G a .t env) (ret (.bl true)) (ev G b .t env)) RB σ H Q from z)
        refine tX_mono z2 fun k H1 z3 => ?_
        cases k with
        | true => exact rb_true z3
        | false => exact z3
      exact ⟨(pe_orT ia.pv hv.1).imp fun _ _ _ z => r_orV g.K h2 h3 z, hw.pt, fun z => (by cases z), fun _ _ _ z => (by cases z; exact hw)⟩
    · cases h
  | .ite d a b, c, X, W, sc, t, g, tk, h => by
    simp only [chkE] at h
    split at h
    · rename_i q
      have := asIf_eq q
      subst this
      simp only [Bool.and_eq_true, decide_eq_true_eq] at h
      obtain ⟨h1, h2, h3, h4, h5⟩ := h
      have id := snd_E d g tk h1
      have ia := snd_E a g tk h2
      have ib := snd_E b g tk h3
      exact ⟨(pe_ifExp id.pt (lev0 h4 ia.pv) (lev0 h5 ib.pv)).imp fun _ _ _ z => r_ite rv_base z, (pt_ifExpT id.pt ia.pt ib.pt).imp fun _ _ _ z => r_ite rb_base z, fun z => (by cases z), fun _ _ _ z => (by cases z)⟩
    · cases h
  | .cmp o a b, c, X, W, sc, t, g, tk, h => by
    simp only [chkE] at h
    split at h
    · rename_i q
      have := asCmp1_eq q
      subst this
      simp only [Bool.and_eq_true, decide_eq_true_eq] at h
      obtain ⟨h1, h2, h3, h4, h5⟩ := h
      subst h1
      have ia := snd_E a g tk h2
      have ib := snd_E b g tk h3
      have hm := (good_of (chk_good h3)).2.2.1
      have hr : OpR X (compareOp (opC o)) (rCmp P.K P.wo o) := by have := rCmp_ok (units_of g) o; rw [g.K, g.W] at this; exact this
      exact ⟨(pe_cmpR hr ia.pv ib.pv (marks_of hm)).imp fun _ _ _ z => r_cmp h4 h5 z, (pt_cmpR hr ia.pv ib.pv (marks_of hm)).imp fun _ _ _ z => r_cmp h4 h5 (t_bl cmp_bl z), fun z => (by cases z), fun _ _ _ z => (by cases z)⟩
    · cases h
  | .chain o o' a b d, c, X, W, sc, t, g, tk, h => by
    simp only [chkE] at h
    split at h
    · rename_i q
      have := asCmp2_eq q
      subst this
      simp only [Bool.and_eq_true, decide_eq_true_eq] at h
      obtain ⟨h1, h2, h3, h4, h5, h6, h7, h8⟩ := h
      subst h1
      subst h2
      have ia := snd_E a g tk h3
      have ib := snd_E b g tk h4
      have id := snd_E d g tk h5
      have hm := (good_of (chk_good h5)).2.2.1
      have hr : ∀ o, OpR X (compareOp (opC o)) (rCmp P.K P.wo o) := fun o => by have := rCmp_ok (units_of g) o; rw [g.K, g.W] at this; exact this
      exact ⟨(pe_chain (hr o) (hr o') ia.pv ib.pv id.pv (marks2 hm)).imp fun _ _ _ z => r_chain h6 h7 h8 z, (pt_chain (hr o) (hr o') ia.pv ib.pv id.pv (marks2 hm)).imp fun _ _ _ z => r_chain h6 h7 h8 (t_bl chain_bl z), fun z => (by cases z), fun _ _ _ z => (by cases z)⟩
    · cases h
  | .isn a, c, X, W, sc, t, g, tk, h => by
    simp only [chkE] at h
    split at h
    · rename_i q
      have := asCmp1_eq q
      subst this
      simp only [Bool.and_eq_true] at h
      obtain ⟨h1, h2⟩ := h
      split at h2
      · rename_i q2
        have e := asConst_eq q2
        simp only at e
        have ia := snd_E a g tk h1
        simp only [e]
        exact ⟨(pe_cmp (pc_isN ia.pv)).imp fun _ _ _ z => r_isn z, (pt_cmp (pc_isN ia.pv)).imp fun _ _ _ z => r_isn (t_bl isn_bl z), fun z => (by cases z), fun _ _ _ z => (by cases z)⟩
      · cases h2
    · cases h
  | .notn a, c, X, W, sc, t, g, tk, h => by
    simp only [chkE] at h
    split at h
    · rename_i q
      have := asCmp1_eq q
      subst this
      simp only [Bool.and_eq_true] at h
      obtain ⟨h1, h2⟩ := h
      split at h2
      · rename_i q2
        have e := asConst_eq q2
        simp only at e
        have ia := snd_E a g tk h1
        simp only [e]
        exact ⟨(pe_cmp (pc_notN ia.pv)).imp fun _ _ _ z => r_notn z, (pt_cmp (pc_notN ia.pv)).imp fun _ _ _ z => r_notn (t_bl notn_bl z), fun z => (by cases z), fun _ _ _ z => (by cases z)⟩
      · cases h2
    · cases h
  | .isi a ts, c, X, W, sc, t, g, tk, h => by
    simp only [chkE] at h
    split at h
    · rename_i f fp x y pos q
      have := asCall_eq q
      subst this
      simp only [Bool.and_eq_true, decide_eq_true_eq] at h
      obtain ⟨rfl, h1, h2, h3⟩ := h
      have ia := snd_E a g tk h2
      have gl : Gl X (Str.ofString "isinstance") := gl_of g h1
      have hm : X.mg (Str.ofString "isinstance") = none := g.blt _ (by decide +kernel)
      have hs := (good_of (chk_good h2)).1
      have hp : PE X (.Call (.Name (Str.ofString "isinstance") fp) [x, y] [] pos) (tX P W (ev G (.isi a ts) .v) (RV P 0)) ∧ PT X (.Call (.Name (Str.ofString "isinstance") fp) [x, y] [] pos) (tX P W (ev G (.isi a ts) .t) RB) := by
        unfold chkTys at h3
        split at h3
        · rename_i es kk p2 q2
          have := asTup_eq q2
          subst this
          simp only [Bool.and_eq_true, decide_eq_true_eq] at h3
          obtain ⟨h4, h5, h6⟩ := h3
          cases ts with
          | nil => simp at h5
          | cons t ts =>
            have pa : PA X [x, .Tuple es kk p2] _ := pa_cons ia.pv (pa_cons (pe_tup (x1 := kk) (pos := p2) (pa_tys g h4)) pa_nil) (star_of hs)
            have hc := call_isiTY (X := X)
            rw [g.K] at hc
            have base := pe_callB hc gl hm PyProof.Rows.boot_isinstance pa (by decide +kernel) (by decide +kernel) (star_of hs) rfl (pos := pos) (p := fp)
            exact ⟨base.imp fun _ _ _ z => r_isiL h6 z, (pt_val base).imp fun _ _ _ z => r_isiL h6 (t_bl isi_bl z)⟩
        · split at h3
          · rename_i t
            obtain ⟨py, hys⟩ := pe_ty g h3
            have pa : PA X [x, y] _ := pa_cons ia.pv (pa_cons py pa_nil (star_of hys)) (star_of hs)
            have hc := call_isiY (X := X)
            rw [g.K] at hc
            have base := pe_callB hc gl hm PyProof.Rows.boot_isinstance pa (by decide +kernel) (by decide +kernel) (star_of hs) (back_any (by rw [List.all_cons, hys]; rfl)) (pos := pos) (p := fp)
            exact ⟨base.imp fun _ _ _ z => r_isi1 z, (pt_val base).imp fun _ _ _ z => r_isi1 (t_bl isi_bl z)⟩
          · cases h3
      exact ⟨hp.1, hp.2, fun z => (by cases z), fun _ _ _ z => (by cases z)⟩
    · cases h
  | .call f es, c, X, W, sc, t, g, tk, h => by
    simp only [chkE] at h
    split at h
    · rename_i x _ e as pos q
      have := asCall_eq q
      subst this
      simp only [Bool.and_eq_true, decide_eq_true_eq] at h
      obtain ⟨hh, rfl, h1, h3, h4⟩ := h
      split at h4
      case h_2 => cases h4
      rename_i bw h2
      obtain ⟨kf, fA, fd, ps, co⟩ := g.call hh x _ h2
      have pa := snd_B es g tk h4
      have hst := chkb_star h4
      rw [List.all_cons, Bool.and_eq_true] at hst
      refine SE.of g.K ((pe_callSD co.ok co.room (gl_of g h1) co.mg co.keep co.bind .nil (fun σ => L2N.passAt tk σ) pa (dbg_of h3).1 (star_of hst.1) (back_any hst.2)).imp fun _ _ _ z => ?_) (fun z => by cases z) (fun _ => rfl) rfl
      exact r_call z
    · cases h
  | .blt b a, c, X, W, sc, t, g, tk, h => by
    by_cases hss : b = .sortedSet
    · subst hss
      simp only [chkE] at h
      split at h
      · rename_i x _ y pos q
        have := asCall_eq q
        subst this
        simp only [Bool.and_eq_true, decide_eq_true_eq] at h
        obtain ⟨hh, rfl, h1, h2⟩ := h
        split at h2
        · rename_i z _ u pos2 q2
          have := asCall_eq q2
          subst this
          simp only [Bool.and_eq_true, decide_eq_true_eq] at h2
          obtain ⟨rfl, h3, h4, h5⟩ := h2
          have ia := snd_E a g tk h4
          have hs := (good_of (chk_good h4)).1
          have c1 := cr_setA (X := X) (g.calm hh) (units_of g)
          have c2 := cr_sortedSA (X := X) (g.calm hh) (units_of g)
          rw [g.K, g.W] at c1 c2
          refine SE.ofN g.K ((pe_callB c2 (gl_of g h1) (g.blt _ (by decide +kernel)) PyProof.Rows.boot_sorted (pa_cons (pe_callTy c1 (gl_of g h3) (g.blt _ (by decide +kernel)) PyProof.Rows.boot_set (pa_cons ia.pv pa_nil (star_of hs)) (by decide +kernel) (by decide +kernel) (star_of hs) rfl) pa_nil rfl) (by decide +kernel) (by decide +kernel) rfl rfl).imp fun _ _ _ z => r_sset h5 z) (fun _ => rfl) rfl
        · cases h2
      · cases h
    replace h : (match asCall t with
      | some (x, _, y, [], _) => (!c.hot) && (decide (x = Str.ofString (blId b)) && (glB sc x && (chkE c sc a y && ((decide (lev a ≤ 1) || decide (b = .len)) && blOk b))))
      | _ => false) = true := by
      cases b <;> first | (exact absurd rfl hss) | (simp only [chkE] at h; exact h)
    split at h
    · rename_i x _ y pos q
      have := asCall_eq q
      subst this
      simp only [Bool.and_eq_true, Bool.or_eq_true, decide_eq_true_eq] at h
      obtain ⟨hh, rfl, h1, h2, h3, h4⟩ := h
      have ia := snd_E a g tk h2
      have hs := (good_of (chk_good h2)).1
      have hc := rB1_ok (X := X) (g.calm hh) (units_of g) b
      rw [g.K, g.W] at hc
      have pa : PA X [y] _ := pa_cons ia.pv pa_nil (star_of hs)
      have gl : Gl X (Str.ofString (blId b)) := gl_of g h1
      have hm : X.mg (Str.ofString (blId b)) = none := g.blt _ (by cases b <;> decide +kernel)
      refine SE.ofN g.K (PE.imp (t := tCB (rB1 P.K P.wo b) (tCons (tX P W (ev G a .v) (RV P (lev a))) tNil)) ?_ fun _ _ _ z => r_blt h3 h4 z) (fun _ => rfl) rfl
      cases b <;> first | (cases h4; done) | skip
      case len => exact pe_callB hc gl hm PySem.boot_len pa (blId_ne _) (blId_dbg _) (star_of hs) rfl
      case abs => exact pe_callB hc gl hm PyProof.Rows.boot_abs pa (blId_ne _) (blId_dbg _) (star_of hs) rfl
      case str => exact pe_callTy hc gl hm PyProof.Rows.boot_str pa (blId_ne _) (blId_dbg _) (star_of hs) rfl
      case int => exact pe_callTy hc gl hm PyProof.Rows.boot_int pa (blId_ne _) (blId_dbg _) (star_of hs) rfl
      case bool => exact pe_callTy hc gl hm PyProof.Rows.boot_bool pa (blId_ne _) (blId_dbg _) (star_of hs) rfl
      case sum => exact pe_callB hc gl hm PyProof.Rows.boot_sum pa (blId_ne _) (blId_dbg _) (star_of hs) rfl
      case sorted => exact pe_callB hc gl hm PyProof.Rows.boot_sorted pa (blId_ne _) (blId_dbg _) (star_of hs) rfl
      case max => exact pe_callB hc gl hm PyProof.Rows.boot_max pa (blId_ne _) (blId_dbg _) (star_of hs) rfl
      case min => exact pe_callB hc gl hm PyProof.Rows.boot_min pa (blId_ne _) (blId_dbg _) (star_of hs) rfl
      case tuple => exact pe_callTy hc gl hm PyProof.Rows.boot_tuple pa (blId_ne _) (blId_dbg _) (star_of hs) rfl
      case dict => exact pe_callTy hc gl hm PyProof.Rows.boot_dict pa (blId_ne _) (blId_dbg _) (star_of hs) rfl
      case list => exact pe_callTy hc gl hm PyProof.Rows.boot_list pa (blId_ne _) (blId_dbg _) (star_of hs) rfl
    · cases h
  | .skeys a, c, X, W, sc, t, g, tk, h => by
    simp only [chkE] at h
    split at h
    · rename_i x _ y pos q
      have := asCall_eq q
      subst this
      simp only [Bool.and_eq_true, decide_eq_true_eq] at h
      obtain ⟨hh, rfl, h1, h2⟩ := h
      split at h2
      · rename_i o m apos mpos q2
        have := asMeth0_eq q2
        subst this
        unfold meth0B at h2
        simp only [Bool.and_eq_true, decide_eq_true_eq] at h2
        obtain ⟨⟨rfl, hl, hc0⟩, h3, h4⟩ := h2
        have ia := snd_E a g tk h3
        have c2 := cr_sortedKV (X := X) (g.calm hh) (units_of g)
        rw [g.K] at c2
        exact SE.ofN g.K ((pe_callB c2 (gl_of g h1) (g.blt _ (by decide +kernel)) PyProof.Rows.boot_sorted (pa_cons (pe_keysV ia.pv (base_of hc0 _) hl) pa_nil rfl) (by decide +kernel) (by decide +kernel) rfl rfl).imp fun _ _ _ z => r_skeys z) (fun _ => rfl) rfl
      · cases h2
    · cases h
  | .lvals a, c, X, W, sc, t, g, tk, h => by
    simp only [chkE] at h
    split at h
    · rename_i x _ y pos q
      have := asCall_eq q
      subst this
      simp only [Bool.and_eq_true, decide_eq_true_eq] at h
      obtain ⟨hh, rfl, h1, h2⟩ := h
      split at h2
      · rename_i o m apos mpos q2
        have := asMeth0_eq q2
        subst this
        unfold meth0B at h2
        simp only [Bool.and_eq_true, decide_eq_true_eq] at h2
        obtain ⟨⟨rfl, hl, hc0⟩, h3, h4⟩ := h2
        have ia := snd_E a g tk h3
        exact SE.ofN g.K ((pe_callTy (cr_listVV (X := X) (g.calm hh)) (gl_of g h1) (g.blt _ (by decide +kernel)) PyProof.Rows.boot_list (pa_cons (pe_valsV ia.pv (base_of hc0 _) hl) pa_nil rfl) (by decide +kernel) (by decide +kernel) rfl rfl).imp fun _ _ _ z => r_lvals z) (fun _ => rfl) rfl
      · cases h2
    · cases h
  | .rng a, c, X, W, sc, t, g, tk, h => by
    simp only [chkE] at h
    split at h
    · rename_i x _ y pos q
      have := asCall_eq q
      subst this
      simp only [Bool.and_eq_true, decide_eq_true_eq] at h
      obtain ⟨hh, rfl, h1, h2⟩ := h
      split at h2
      · rename_i z _ u pos2 q2
        have := asCall_eq q2
        subst this
        simp only [Bool.and_eq_true, decide_eq_true_eq] at h2
        obtain ⟨rfl, h3, h4, h5⟩ := h2
        have ia := snd_E a g tk h4
        have hs := (good_of (chk_good h4)).1
        exact SE.ofN g.K ((pe_listRg (g.calm hh) (gl_of g h1) (g.blt _ (by decide +kernel)) (prg_1 (gl_of g h3) (g.blt _ (by decide +kernel)) ia.pv (star_of hs)) rfl).imp fun _ _ _ z => r_rng h5 z) (fun _ => rfl) rfl
      · cases h2
    · cases h
  | .cnt a x, c, X, W, sc, t, g, tk, h => by
    simp only [chkE] at h
    split at h
    · rename_i o m apos y pos q
      have := asMeth_eq q
      subst this
      unfold methB at h
      simp only [Bool.and_eq_true, decide_eq_true_eq] at h
      obtain ⟨⟨rfl, hl, hc0, _⟩, h2, h3, h4, h5⟩ := h
      have ia := snd_E a g tk h2
      have ix := snd_E x g tk h4
      have hs := (good_of (chk_good h4)).1
      refine SE.of g.K ((pe_bm PySem.F.plainAttrs_list PySem.F.slot_list_count PySem.F.type_list_count mt_lcount ia.pv (pa_cons ix.pv pa_nil (star_of hs)) (base_of hc0 _) ?_ hl (star_of hs) rfl).imp fun _ _ _ z => by rw [g.K]; exact r_cnt h3 h5 z) (fun z => by cases z) (fun _ => rfl) rfl
      rw [back_all (by rw [List.all_cons, hs]; rfl)]; rfl
    · cases h
  | .idx a x, c, X, W, sc, t, g, tk, h => by
    simp only [chkE] at h
    split at h
    · rename_i o m apos y pos q
      have := asMeth_eq q
      subst this
      unfold methB at h
      simp only [Bool.and_eq_true, decide_eq_true_eq] at h
      obtain ⟨⟨rfl, hl, hc0, _⟩, h2, h3, h4, h5⟩ := h
      have ia := snd_E a g tk h2
      have ix := snd_E x g tk h4
      have hs := (good_of (chk_good h4)).1
      refine SE.of g.K ((pe_bm PySem.F.plainAttrs_list PySem.F.slot_list_index PySem.F.type_list_index (mt_indexD (units_of g)) ia.pv (pa_cons ix.pv pa_nil (star_of hs)) (base_of hc0 _) ?_ hl (star_of hs) rfl).imp fun _ _ _ z => by rw [g.K]; exact r_idx h3 h5 z) (fun z => by cases z) (fun _ => rfl) rfl
      rw [back_all (by rw [List.all_cons, hs]; rfl)]; rfl
    · cases h
  | .get d kx x, c, X, W, sc, t, g, tk, h => by
    simp only [chkE] at h
    split at h
    · rename_i o m apos y z pos q
      have := asMeth_eq q
      subst this
      unfold methB at h
      simp only [Bool.and_eq_true, decide_eq_true_eq] at h
      obtain ⟨⟨rfl, hl, hc0, _⟩, h2, h3, h4, h5, h6, h7⟩ := h
      have id_ := snd_E d g tk h2
      have ik := snd_E kx g tk h4
      have ix := snd_E x g tk h6
      have hs1 := (good_of (chk_good h4)).1
      have hs2 := (good_of (chk_good h6)).1
      have hu := units_of g
      have ht : backTo pos (starEach [y, z] X.env) = [(false, eval y X.env), (false, eval z X.env)] := by
        rw [star_of hs1, star_of hs2]; rfl
      refine SE.of g.K ((pe_getN (by omega) id_.pv ik.pv ix.pv ⟨base_of hc0 _, by rw [ht]; rfl, hl, ht⟩).imp fun _ _ _ z => ?_) (fun z => by cases z) (fun _ => rfl) rfl
      rw [g.W]
      exact r_get h3 h5 h7 z
    · cases h
  | .ix a i, c, X, W, sc, t, g, tk, h => by
    simp only [chkE] at h
    split at h
    · rename_i x y pos q
      have := asSub_eq q
      subst this
      simp only [Bool.and_eq_true, decide_eq_true_eq] at h
      obtain ⟨h1, h2, h3⟩ := h
      have ia := snd_E a g tk h1
      have ii := snd_E i g tk h2
      have hr := rIxA_ok (X := X) (by have := units_of g; omega)
      rw [g.K, g.W] at hr
      exact SE.of g.K ((pe_ix hr ia.pv ii.pv (plainIx_of (good_of (chk_good h2)).2.1)).imp fun _ _ _ z => r_ix h3 z) (fun z => by cases z) (fun _ => rfl) rfl
    · cases h
  | .sl a lo hi, c, X, W, sc, t, g, tk, h => by
    simp only [chkE] at h
    split at h
    · rename_i x l hh p2 pos q
      have := asSlice_eq q
      subst this
      simp only [Bool.and_eq_true, decide_eq_true_eq] at h
      obtain ⟨h1, h2, h3, h4⟩ := h
      have ia := snd_E a g tk h1
      have hr := rSlc_ok (X := X)
      rw [g.K] at hr
      exact SE.ofN g.K ((pe_slice hr ia.pv (snd_O lo g tk h3) (snd_O hi g tk h4)).imp fun _ _ _ z => r_sl h2 z) (fun _ => rfl) rfl
    · cases h
  | .rev a, c, X, W, sc, t, g, tk, h => by
    simp only [chkE] at h
    split at h
    · rename_i q
      have := asRev_eq q
      subst this
      simp only [Bool.and_eq_true, decide_eq_true_eq] at h
      exact SE.ofN g.K ((pe_revA (snd_E a g tk h.1).pv).imp fun _ _ _ z => by rw [g.K]; exact r_rev h.2 z) (fun _ => rfl) rfl
    · cases h
  | .comp p it d e, c, X, W, sc, t, g, tk, h => by
    simp only [chkE] at h
    split at h
    · rename_i elt tg iter ifs scope pos q
      have := asComp_eq q
      subst this
      simp only [Bool.and_eq_true, decide_eq_true_eq] at h
      obtain ⟨hh, h1, h2, h3, h4, h5, h6, h7⟩ := h
      refine SE.ofN g.K ((pe_lc (g.calm hh) (by rw [g.N]; exact g.nd) (snd_I it g tk h1) (blkOk_by (own := ownOf c p) (by rw [g.N, g.sc]; exact h3))
        (fun s H C cl fp => pg_pat (P := P) (c := c) (sc := scope) g.K (g.calm hh) g.N g.nd (Sto.blk g s H scope C cl fp) h2)
        (fun s H C cl fp => snd_C d (g.blk s H scope C cl fp) (takes_blk s H scope _ fp) h4)
        (fun s H C cl fp => lev0 h6 (snd_E e (g.blk s H scope C cl fp) (takes_blk s H scope _ fp) h5).pv)
        (fun x => folded_of h7 x)).imp fun _ _ _ z => ?_) (fun _ => rfl) rfl
      rw [own_snd]
      exact r_comp z
    · cases h
  | .attr k a f, c, X, W, sc, t, g, tk, h => by
    simp only [chkE] at h
    split at h
    · rename_i x y pos q
      have := asAttr_eq q
      subst this
      simp only [Bool.and_eq_true, decide_eq_true_eq] at h
      obtain ⟨rfl, hc0, h2, h3, h4⟩ := h
      obtain ⟨C, hC, cl, na⟩ := g.fld _ h2
      have ia := snd_E a g tk h3
      rw [g.K] at cl na
      exact SE.of g.K ((pe_fld ia.pv (base_of hc0 _)).imp fun _ _ _ z => by rw [g.K]; exact r_attr h4 hC cl na z) (fun z => by cases z) (fun _ => rfl) rfl
    · cases h
  | .mcall k f m o es, c, X, W, sc, t, g, tk, h => by
    simp only [chkE] at h
    split at h
    · rename_i x y apos pos q
      have := asMeth0_eq q
      subst this
      simp only [Bool.and_eq_true, decide_eq_true_eq] at h
      obtain ⟨hh, rfl, hc0, hl, h2, h3, h4⟩ := h
      split at h4
      · rename_i gf b hm
        cases of_decide_eq_true h4
        obtain ⟨C, kf, fA, fd, ps, mo⟩ := g.meth hh _ _ hm
        have io := snd_E o g tk h2
        refine SE.of g.K ((pe_methSD0 (pl := plainOf x X.env) io.pv mo.cl mo.mt mo.ok mo.room mo.bind (fun σ => L2N.passAt tk σ) ?_).imp fun σ H Q z => ?_) (fun z => by cases z) (fun _ => rfl) rfl
        · exact meth_line (base_of hc0 _) rfl hl
        · have z2 := r_mcall (b := b) (bw := []) h3 mo.cls z
          refine tX_mono z2 fun v H1 hh => ?_
          obtain ⟨a, dx, fs, e1, e2, e3, e4⟩ := hh
          refine ⟨a, dx, fs, e1, e2, e3, ?_⟩
          obtain ⟨os, Z, w, env, ad, B, kk, sl, out⟩ := e4
          exact out os Z H1 Step.refl kk [] trivial
      · cases h4
    · split at h
      · rename_i x y apos e as pos q
        have := asMeth_eq q
        subst this
        simp only [Bool.and_eq_true, decide_eq_true_eq] at h
        obtain ⟨hh, rfl, hc0, hl, hn, h2, h3, h4⟩ := h
        split at h4
        · rename_i gf b bw hm
          rw [Bool.and_eq_true] at h4
          obtain ⟨h5, h6⟩ := h4
          cases of_decide_eq_true h5
          obtain ⟨C, kf, fA, fd, ps, mo⟩ := g.meth hh _ _ hm
          have io := snd_E o g tk h2
          have pa := snd_B es g tk h6
          have hst := chkb_star h6
          rw [List.all_cons, Bool.and_eq_true] at hst
          refine SE.of g.K ((pe_methSD (pl := plainOf x X.env) io.pv mo.cl mo.mt mo.ok mo.room mo.bind (fun σ => L2N.passAt tk σ) pa (star_of hst.1) (back_any hst.2) ?_).imp fun _ _ _ z => r_mcall h3 mo.cls z) (fun z => by cases z) (fun _ => rfl) rfl
          refine meth_line (base_of hc0 _) ?_ hl
          unfold methodCallForm
          rw [back_all (by rw [List.all_cons, Bool.and_eq_true]; exact hst)]
          simp [keywordEach, backToKw]
          omega
        · cases h4
      · cases h
  | .make k f es, c, X, W, sc, t, g, tk, h => by
    simp only [chkE] at h
    split at h
    · rename_i x _ e as pos q
      have := asCall_eq q
      subst this
      simp only [Bool.and_eq_true] at h
      obtain ⟨hh, h1, h3, h4⟩ := h
      split at h4
      · rename_i k' gf b bw hm
        simp only [Bool.and_eq_true, decide_eq_true_eq] at h4
        obtain ⟨rfl, rfl, h6⟩ := h4
        obtain ⟨C, kf, fA, fd, ps, mo⟩ := g.make hh _ _ hm
        have pa := snd_B es g tk h6
        have hst := chkb_star h6
        rw [List.all_cons, Bool.and_eq_true] at hst
        exact SE.of g.K ((pe_makeSD mo.mkr mo.ok mo.room (gl_of g h1) mo.mg mo.bind (fun σ => L2N.passAt tk σ) pa (dbg_of h3).1 (star_of hst.1) (back_any hst.2)).imp fun _ _ _ z => r_make mo.cls z) (fun z => by cases z) (fun _ => rfl) rfl
      · cases h4
    · cases h
  | .err b, c, X, W, sc, t, g, tk, h => by
    simp only [chkE] at h
    split at h
    · rename_i f params body scope q
      obtain ⟨p, lpos, pos, rfl⟩ := asErr_eq q
      simp only [Bool.and_eq_true, decide_eq_true_eq] at h
      obtain ⟨hh, h1, h2, h3, h4, h5, h6, h7⟩ := h
      have h3 : f = errN := h3
      subst h3
      obtain ⟨n, eo, n1, cl⟩ := g.err hh h2
      refine SE.of g.K (pe_err g h1 eo (gl_of g h4) h5 fun E A out s2 H2 f c' hr => ?_) (fun z => by cases z) (fun _ => rfl) rfl
      exact lev0 h7 (snd_E b (g.inL cl hr n1) (L2N.takes_of rfl rfl rfl rfl) h6).pv
    · cases h
  | .join a x, c, X, W, sc, t, g, tk, h => by
    simp only [chkE] at h
    split at h
    · rename_i o m apos y pos q
      have := asMeth_eq q
      subst this
      unfold methB at h
      simp only [Bool.and_eq_true, decide_eq_true_eq] at h
      obtain ⟨⟨rfl, hl, hc0, _⟩, h2, h3, h4, h5⟩ := h
      have ia := snd_E a g tk h2
      have ix := snd_E x g tk h4
      have hs := (good_of (chk_good h4)).1
      exact SE.of g.K ((pe_join ia.pv ix.pv (by rw [star_of hs]; rfl) (base_of hc0 _) hl).imp fun _ _ _ z => by rw [g.K]; exact r_join h3 h5 z) (fun z => by cases z) (fun _ => rfl) rfl
    · cases h
theorem snd_Es : ∀ (es : Es) {c : Ck} {X : Cx} {W : WX} {sc : Scope} {xs : List Expr}, Gd P G c sc X → L2N.Takes X W → chkEs c sc es xs = true → PA X xs (tX P W (evs G es) (RA P))
  | .nil, c, X, W, sc, xs, g, tk, h => by
    cases xs with
    | nil => exact pa_nilX
    | cons _ _ => simp [chkEs] at h
  | .cons e es, c, X, W, sc, xs, g, tk, h => by
    cases xs with
    | nil => simp [chkEs] at h
    | cons x xs =>
      simp only [chkEs, Bool.and_eq_true, decide_eq_true_eq] at h
      exact pa_consX (lev0 h.2.1 (snd_E e g tk h.1).pv) (snd_Es es g tk h.2.2) (good_of (chk_good h.1)).1
theorem snd_B : ∀ (es : Es) {c : Ck} {X : Cx} {W : WX} {sc : Scope} {bw : List Bool} {xs : List Expr}, Gd P G c sc X → L2N.Takes X W → chkB c sc bw es xs = true → PA X xs (tX P W (evs G es) (RL P bw))
  | .nil, c, X, W, sc, bw, xs, g, tk, h => by
    cases bw <;> cases xs <;> first | exact pb_nilX | (simp [chkB] at h; done)
  | .cons e es, c, X, W, sc, bw, xs, g, tk, h => by
    cases bw with
    | nil => simp [chkB] at h
    | cons b bw =>
      cases xs with
      | nil => simp [chkB] at h
      | cons x xs =>
        simp only [chkB, Bool.and_eq_true, decide_eq_true_eq] at h
        exact pb_consX (snd_E e g tk h.1).pv h.2.1 (snd_B es g tk h.2.2) (good_of (chk_good h.1)).1
theorem snd_O : ∀ (o : Eo) {c : Ck} {X : Cx} {W : WX} {sc : Scope} {x : Option Expr}, Gd P G c sc X → L2N.Takes X W → chkO c sc o x = true → PO X x (tX P W (evO G o) RO)
  | .none, c, X, W, sc, x, g, tk, h => by
    cases x with
    | none => exact po_none.imp fun _ _ _ z => r_nopart z
    | some _ => simp [chkO] at h
  | .some e, c, X, W, sc, x, g, tk, h => by
    cases x with
    | none => simp [chkO] at h
    | some x =>
      simp only [chkO, Bool.and_eq_true, decide_eq_true_eq] at h
      exact (po_some (snd_E e g tk h.1).pv).imp fun _ _ _ z => r_part h.2 z
theorem snd_C : ∀ (o : Eo) {c : Ck} {X : Cx} {W : WX} {sc : Scope} {x : List Expr}, Gd P G c sc X → L2N.Takes X W → chkC c sc o x = true → PTs X x (tX P W (evC G o) RB)
  | .none, c, X, W, sc, x, g, tk, h => by
    cases x with
    | nil => exact pts_nil.imp fun σ H Q z => rb_true (show tX P W (fun _ => ret (.bl true)) RB σ H Q from z)
    | cons _ _ => simp [chkC] at h
  | .some e, c, X, W, sc, x, g, tk, h => by
    cases x with
    | nil => simp [chkC] at h
    | cons x xs =>
      cases xs with
      | nil =>
        simp only [chkC] at h
        exact (pts_one (snd_E e g tk h).pt).imp fun σ H Q z => z
      | cons _ _ => simp [chkC] at h
theorem snd_I : ∀ (o : It) {c : Ck} {X : Cx} {W : WX} {sc : Scope} {tg x : Expr}, Gd P G c sc X → L2N.Takes X W → chkI c sc o x tg = true → PI X tg x (tX P W (evI G o) (RI P))
  | .seq e, c, X, W, sc, tg, x, g, tk, h => by
    simp only [chkI, Bool.and_eq_true, decide_eq_true_eq] at h
    exact (pi_seqA (snd_E e g tk h.1).pv).imp fun _ _ _ z => by rw [g.K]; exact r_seq h.2 z
  | .rng1 a, c, X, W, sc, tg, x, g, tk, h => by
    simp only [chkI] at h
    split at h
    · rename_i n _ y pos q
      have := asCall_eq q
      subst this
      simp only [Bool.and_eq_true, decide_eq_true_eq] at h
      obtain ⟨rfl, h1, h2, h3⟩ := h
      have hs := (good_of (chk_good h2)).1
      exact (pi_range1 (gl_of g h1) (g.blt _ (by decide +kernel)) (pa_cons (snd_E a g tk h2).pv pa_nil (star_of hs)) (by rw [star_of hs]; rfl)).imp fun _ _ _ z => r_rng1 h3 z
    · cases h
  | .rng2 a b, c, X, W, sc, tg, x, g, tk, h => by
    simp only [chkI] at h
    split at h
    · rename_i n _ y z pos q
      have := asCall_eq q
      subst this
      simp only [Bool.and_eq_true, decide_eq_true_eq] at h
      obtain ⟨rfl, h1, h2, h3, h4, h5⟩ := h
      have hs := (good_of (chk_good h2)).1
      have hs2 := (good_of (chk_good h4)).1
      exact (pi_range2 (gl_of g h1) (g.blt _ (by decide +kernel)) (pa_cons (snd_E a g tk h2).pv (pa_cons (snd_E b g tk h4).pv pa_nil (star_of hs2)) (star_of hs)) (by rw [star_of hs, star_of hs2]; rfl) (by rw [star_of hs2]; rfl)).imp fun _ _ _ z => r_rng2 h3 h5 z
    · cases h
  | .enum e, c, X, W, sc, tg, x, g, tk, h => by
    simp only [chkI] at h
    split at h
    · rename_i n _ y pos q
      have := asCall_eq q
      subst this
      simp only [Bool.and_eq_true, decide_eq_true_eq] at h
      obtain ⟨rfl, h1, h2, h3, h4⟩ := h
      have hs := (good_of (chk_good h2)).1
      obtain ⟨es, kk, tp, rfl⟩ : ∃ es k pos, tg = .Tuple es k pos := by
        unfold isTupE at h4
        cases q2 : asTup tg with
        | none => rw [q2] at h4; cases h4
        | some r => exact ⟨_, _, _, asTup_eq q2⟩
      exact (pi_enumA (gl_of g h1) (g.blt _ (by decide +kernel)) (pa_cons (snd_E e g tk h2).pv pa_nil (star_of hs)) (by rw [star_of hs]; rfl)).imp fun _ _ _ z => by rw [g.K]; exact r_enum h3 z
    · cases h
  | .zip a b, c, X, W, sc, tg, x, g, tk, h => by
    simp only [chkI] at h
    split at h
    · rename_i n _ y z pos q
      have := asCall_eq q
      subst this
      simp only [Bool.and_eq_true, decide_eq_true_eq] at h
      obtain ⟨rfl, h1, h2, h3, h4, h5, h6⟩ := h
      have hs := (good_of (chk_good h2)).1
      have hs2 := (good_of (chk_good h4)).1
      obtain ⟨es, kk, tp, rfl⟩ : ∃ es k pos, tg = .Tuple es k pos := by
        unfold isTupE at h6
        cases q2 : asTup tg with
        | none => rw [q2] at h6; cases h6
        | some r => exact ⟨_, _, _, asTup_eq q2⟩
      exact (pi_zip (gl_of g h1) (g.blt _ (by decide +kernel)) (pa_cons (snd_E a g tk h2).pv (pa_cons (snd_E b g tk h4).pv pa_nil (star_of hs2)) (star_of hs)) (star_of hs) (by rw [star_of hs2]; rfl)).imp fun _ _ _ z => by rw [g.K]; exact r_zip h3 h5 z
    · cases h
  | .keys e, c, X, W, sc, tg, x, g, tk, h => by
    simp only [chkI] at h
    split at h
    · rename_i o m apos pos q
      have := asMeth0_eq q
      subst this
      unfold meth0B at h
      simp only [Bool.and_eq_true, decide_eq_true_eq] at h
      obtain ⟨⟨rfl, hl, hc0⟩, h3, h4⟩ := h
      exact (pi_keysN (snd_E e g tk h3).pv (base_of hc0 _) hl).imp fun _ _ _ z => r_keys h4 z
    · cases h
  | .vals e, c, X, W, sc, tg, x, g, tk, h => by
    simp only [chkI] at h
    split at h
    · rename_i o m apos pos q
      have := asMeth0_eq q
      subst this
      unfold meth0B at h
      simp only [Bool.and_eq_true, decide_eq_true_eq] at h
      obtain ⟨⟨rfl, hl, hc0⟩, h3, h4⟩ := h
      exact (pi_valsN (snd_E e g tk h3).pv (base_of hc0 _) hl).imp fun _ _ _ z => r_vals h4 z
    · cases h
  | .slam i e, c, X, W, sc, tg, x, g, tk, h => by
    simp only [chkI] at h
    split at h
    · rename_i f one told x' scope q
      obtain ⟨p, y, a, p1, p2, p3, p4, lpos, kpos, pos, ea, rfl, rfl⟩ := asSlam_eq q
      simp only [Bool.and_eq_true, decide_eq_true_eq] at h
      obtain ⟨h0, hlam, rfl, h1, h2, h3, h4, h5, h6, h7⟩ := h
      unfold slamB dbg at h4
      simp only [Bool.and_eq_true, decide_eq_true_eq, Bool.not_eq_true', Bool.or_eq_false_iff] at h4
      obtain ⟨k1, k2, k3, k4, k5, ⟨k6, k8⟩, k7⟩ := h4
      obtain ⟨cd, Pt, L⟩ := g.lam hlam
      have hu := g.un
      have hp := VL.pe_sortLam (T := P.tb) (X := X) (i := i) (p := p) (p1 := p1) (p2 := p2) (p3 := p3) (p4 := p4) (lpos := lpos) (kpos := kpos) (pos := pos) (snd_E e g tk h5).pv (gl_of g h1) (g.blt _ (by decide +kernel)) (by rw [g.N]; exact h2) (by rw [g.sc]; exact h3)
        L.tab L.code L.mem L.uni (g.room h0).depth (by omega) k1 k2 k3 k4 k5 k6 k8 k7 ea (by rw [star_of h7]; rfl) (by rw [star_of h7]; rfl)
      refine (pi_seqA (hp.imp (t' := VL.tSortLam P.tb P.K P.wo i (tX P W (ev G e .v) (RV P (lev e)))) fun _ _ _ z => by rw [g.K, g.W]; exact z)).imp fun _ _ _ z => by rw [g.K]; exact r_slam h6 z
    · cases h
end
end
end VI

set_option Elab.async false
set_option linter.all false
set_option maxRecDepth 100000
set_option maxHeartbeats 1000000
/-! VI, part 13: slots changed by statements. -/
namespace VI
open PySem L2
section
variable {P : Pm} {W : WX} {os os' os1 : List Addr} {Z Z' Z1 H H' H1 : Hp} {w w' : Wd} {env env' : Env} {ad ad' : Nat → List Addr} {B : Addr → Prop} {σ σ' : Stt} {a p : Addr} {o : HO}
theorem Rows.congr {dss : List (List D)} {bs : List Addr} (h : ∀ b ∈ bs, H' b = H b) (r : Rows P os Z H dss bs) : Rows P os Z H' dss bs := by
  unfold Rows at *
  induction r with
  | nil => exact .nil
  | cons q _ ih =>
    obtain ⟨vs, h1, h2⟩ := q
    exact .cons ⟨vs, by rw [h _ List.mem_cons_self]; exact h1, h2⟩ (ih fun b hb => h b (List.mem_cons_of_mem _ hb))
theorem Rows.mono {dss : List (List D)} {bs : List Addr} (lz : Le Z Z') (r : Rows P os Z H dss bs) : Rows P os Z' H dss bs := by
  unfold Rows at *
  induction r with
  | nil => exact .nil
  | cons q _ ih =>
    obtain ⟨vs, h1, h2⟩ := q
    exact .cons ⟨vs, h1, h2.mono lz Ext.refl⟩ ih
theorem SlotR.congr {as : List Addr} (hB : ∀ b, B b → b ∉ os → H' b = H b) (h : ∀ b ∈ as, H' b = H b) {s : Sl} {q : Option (Option V)} (r : SlotR P B os Z H as s q) : SlotR P B os Z H' as s q := by
  cases s with
  | no => trivial
  | fz d => exact r
  | ow ds =>
    obtain ⟨a, vs, e, e2, hh, rr⟩ := r
    exact ⟨a, vs, e, e2, by rw [h a (by simp [e2])]; exact hh, rr⟩
  | ow2 dss =>
    obtain ⟨a, bs, e, e2, hh, rr⟩ := r
    exact ⟨a, bs, e, e2, by rw [h a (by simp [e2])]; exact hh, rr.congr fun b hb => h b (by simp [e2, hb])⟩
  | od kvs =>
    obtain ⟨a, e, e2, rr⟩ := r
    exact ⟨a, e, e2, rr.step Le.refl Ext.refl fun o hh _ => by rw [h a (by simp [e2])]; exact hh⟩
  | bo ds =>
    obtain ⟨a, vs, e, na, b, hh, rr⟩ := r
    exact ⟨a, vs, e, na, b, by rw [hB a b na]; exact hh, rr⟩
theorem SlotR.mono {as : List Addr} (lz : Le Z Z') {s : Sl} {q : Option (Option V)} (r : SlotR P B os Z H as s q) : SlotR P B os Z' H as s q := by
  cases s with
  | no => trivial
  | fz d =>
    obtain ⟨v, e, rr⟩ := r
    exact ⟨v, e, Rep.mono lz Ext.refl rr⟩
  | ow ds =>
    obtain ⟨a, vs, e, e2, hh, rr⟩ := r
    exact ⟨a, vs, e, e2, hh, rr.mono lz Ext.refl⟩
  | ow2 dss =>
    obtain ⟨a, bs, e, e2, hh, rr⟩ := r
    exact ⟨a, bs, e, e2, hh, rr.mono lz⟩
  | od kvs =>
    obtain ⟨a, e, e2, rr⟩ := r
    exact ⟨a, e, e2, rr.step lz Ext.refl fun o hh _ => hh⟩
  | bo ds =>
    obtain ⟨a, vs, e, na, b, hh, rr⟩ := r
    exact ⟨a, vs, e, na, b, hh, rr.mono lz Ext.refl⟩
/-- one of a slot's own objects is changed -/
theorem Slots.updAt (k : Slots P B env σ ad os Z H) {i : Nat} {s : Sl} (ha : a ∈ ad i) (hs : SlotR P B os Z (upd H a o) (ad i) s σ[i]?) : Slots P B (env.set i s) σ ad os Z (upd H a o) := by
  refine ⟨by simp [k.len], fun j x e => ?_, fun j b hb => ?_, k.dis, k.nd⟩
  · by_cases hj : i = j
    · subst hj
      by_cases hi : i < env.length
      · rw [List.getElem?_set_self hi] at e
        cases e
        exact hs
      · rw [List.getElem?_eq_none (by simpa using hi)] at e; cases e
    · rw [List.getElem?_set_ne hj] at e
      exact (k.at_ j x e).congr (fun b hb _ => upd_ne (show b ≠ a from fun z => (k.own i a ha).2.2.2 (z ▸ hb))) fun b hb => upd_ne (show b ≠ a from fun z => hj (k.dis i j a ha (by rw [← z]; exact hb)))
  · obtain ⟨h1, h2, h3, h4⟩ := k.own j b hb
    refine ⟨h1, h2, ?_, h4⟩
    by_cases e : b = a
    · rw [e, upd_same]; intro z; cases z
    · rw [upd_ne e]; exact h3
/-- a slot is given objects of its own -/
theorem Slots.give (k : Slots P B env σ ad os Z H) (i : Nat) {s : Sl} {v : V} {as : List Addr} (hs : SlotR P B os Z H as s (some (some v))) (own : ∀ a ∈ as, a ∉ os ∧ Z a = none ∧ H a ≠ none ∧ ¬ B a) (nd : as.Nodup) (nw : ∀ a ∈ as, ∀ j, j ≠ i → a ∉ ad j) :
    Slots P B (env.set i s) (σ.set i (some v)) (fun j => if j = i then as else ad j) os Z H := by
  refine ⟨by simp [k.len], fun j x e => ?_, fun j a ha => ?_, fun j l a h1 h2 => ?_, fun j => ?_⟩
  · by_cases hj : i = j
    · subst hj
      by_cases hi : i < env.length
      · rw [List.getElem?_set_self hi] at e
        cases e
        rw [List.getElem?_set_self (by rw [k.len]; exact hi)]
        simp only [if_true]
        exact hs
      · rw [List.getElem?_eq_none (by simpa using hi)] at e; cases e
    · rw [List.getElem?_set_ne hj] at e ⊢
      simp only [if_neg (Ne.symm hj)]
      exact k.at_ j x e
  · by_cases hj : j = i
    · rw [if_pos hj] at ha; exact own a ha
    · rw [if_neg hj] at ha; exact k.own j a ha
  · by_cases hj : j = i
    · rw [if_pos hj] at h1
      by_cases hl : l = i
      · exact hj.trans hl.symm
      · rw [if_neg hl] at h2
        exact absurd h2 (nw a h1 l hl)
    · rw [if_neg hj] at h1
      by_cases hl : l = i
      · rw [if_pos hl] at h2
        exact absurd h1 (nw a h2 j hj)
      · rw [if_neg hl] at h2; exact k.dis j l a h1 h2
  · by_cases hj : j = i
    · simp only [if_pos hj]; exact nd
    · simp only [if_neg hj]; exact k.nd j
/-- a slot's own objects are nobody's from now on -/
theorem Slots.freeze (k : Slots P B env σ ad os Z H) {i : Nat} {s : Sl} (lz : Le Z Z') (hz : ∀ b, b ∉ ad i → Z b = none → Z' b = none) (hs : SlotR P B os Z' H [] s σ[i]?) :
    Slots P B (env.set i s) σ (fun j => if j = i then [] else ad j) os Z' H := by
  refine ⟨by simp [k.len], fun j x e => ?_, fun j a ha => ?_, fun j l a h1 h2 => ?_, fun j => ?_⟩
  · by_cases hj : i = j
    · subst hj
      by_cases hi : i < env.length
      · rw [List.getElem?_set_self hi] at e
        cases e
        simp only [if_true]
        exact hs
      · rw [List.getElem?_eq_none (by simpa using hi)] at e; cases e
    · rw [List.getElem?_set_ne hj] at e
      simp only [if_neg (Ne.symm hj)]
      exact (k.at_ j x e).mono lz
  · by_cases hj : j = i
    · rw [if_pos hj] at ha; cases ha
    · rw [if_neg hj] at ha
      obtain ⟨h1, h2, h3, h4⟩ := k.own j a ha
      exact ⟨h1, hz a (fun z => hj (k.dis j i a ha z)) h2, h3, h4⟩
  · by_cases hj : j = i
    · rw [if_pos hj] at h1; cases h1
    · rw [if_neg hj] at h1
      by_cases hl : l = i
      · rw [if_pos hl] at h2; cases h2
      · rw [if_neg hl] at h2; exact k.dis j l a h1 h2
  · by_cases hj : j = i
    · simp [hj]
    · simp only [if_neg hj]; exact k.nd j
/-- all of some objects for good -/
theorem freeze_rows : ∀ {dss : List (List D)} {bs : List Addr} {Z : Hp}, Ok P os w Z H → (∀ b ∈ bs, b ∉ os ∧ Z b = none) → bs.Nodup → Rows P os Z H dss bs →
    ∃ Z', Ok P os w Z' H ∧ Le Z Z' ∧ (∀ b, b ∉ bs → Z b = none → Z' b = none) ∧ Reps P os Z' (dss.map .lst) (bs.map V.ref)
  | [], bs, Z, k, hb, nd, r => by
    cases r
    exact ⟨Z, k, Le.refl, fun _ _ h => h, reps_nil⟩
  | ds :: dss, bs, Z, k, hb, nd, r => by
    cases r with
    | cons q t =>
      rename_i b bs
      obtain ⟨vs, h1, h2⟩ := q
      obtain ⟨n1, z1⟩ := hb b List.mem_cons_self
      obtain ⟨k2, lz⟩ := k.freeze h1 n1 z1
      have nd2 := List.nodup_cons.mp nd
      obtain ⟨Z', k3, lz2, hz, rr⟩ := freeze_rows (Z := upd Z b (.lst vs)) k2 (fun c hc => ⟨(hb c (List.mem_cons_of_mem _ hc)).1, by
        rw [upd_ne (show c ≠ b from fun e => nd2.1 (e ▸ hc))]; exact (hb c (List.mem_cons_of_mem _ hc)).2⟩) nd2.2 (Rows.mono lz t)
      refine ⟨Z', k3, lz.trans lz2, fun c hc hz' => ?_, ?_⟩
      · have c1 : c ≠ b := fun e => hc (by simp [e])
        exact hz c (fun z => hc (List.mem_cons_of_mem _ z)) (by rw [upd_ne c1]; exact hz')
      · refine reps_cons ?_ rr
        unfold Rep
        exact ⟨b, vs, rfl, lz2 _ _ upd_same, h2.mono (lz.trans lz2) Ext.refl⟩
theorem Step.zchange (s : Step B os Z H os' Z' H') {Z2 : Hp} (lz : Le Z' Z2) (hz : ∀ b, B b → Z' b = none → Z2 b = none) : Step B os Z H os' Z2 H' :=
  ⟨s.keep, s.there, s.zle.trans lz, fun a b h => hz a b (s.zkeep a b h), s.ext⟩
/-- a slot for good -/
theorem freeze_slot (k : Ok P os w Z H) (sl : Slots P B env σ ad os Z H) (i : Nat) : ∃ Z' ad', Ok P os w Z' H ∧ Step B os Z H os Z' H ∧ Slots P B (freeze1 env i) σ ad' os Z' H := by
  unfold freeze1
  cases q : env[i]? with
  | none => exact ⟨Z, ad, k, Step.refl, sl⟩
  | some s =>
    have q2 := sl.at_ i s q
    cases s with
    | no =>
      refine ⟨Z, _, k, Step.refl, sl.freeze (i := i) (s := Sl.freeze .no) Le.refl (fun _ _ h => h) ?_⟩
      show SlotR P B os Z H [] .no _
      trivial
    | fz d =>
      refine ⟨Z, _, k, Step.refl, sl.freeze (i := i) (s := Sl.freeze (.fz d)) Le.refl (fun _ _ h => h) ?_⟩
      exact q2
    | ow ds =>
      obtain ⟨a, vs, e, e2, hh, r⟩ := q2
      obtain ⟨n1, z1, _, b1⟩ := sl.own i a (by simp [e2])
      obtain ⟨k2, lz⟩ := k.freeze hh n1 z1
      have hz : ∀ b, b ∉ ad i → Z b = none → (upd Z a (.lst vs)) b = none := fun b hb h => by
        rw [upd_ne (show b ≠ a from fun e => hb (by simp [e2, e]))]; exact h
      refine ⟨_, _, k2, Step.refl.zchange lz fun b hb h => hz b (fun z => (sl.own i b z).2.2.2 hb) h, sl.freeze (i := i) (s := Sl.freeze (.ow ds)) lz hz ⟨.ref a, e, ?_⟩⟩
      unfold Rep
      exact ⟨a, vs, rfl, upd_same, r.mono lz Ext.refl⟩
    | ow2 dss =>
      obtain ⟨a, bs, e, e2, hh, r⟩ := q2
      have nd := sl.nd i
      rw [e2] at nd
      have nd2 := List.nodup_cons.mp nd
      obtain ⟨Z1, k1, lz1, hz1, rr⟩ := freeze_rows k (fun b hb => ⟨(sl.own i b (by simp [e2, hb])).1, (sl.own i b (by simp [e2, hb])).2.1⟩) nd2.2 r
      obtain ⟨n1, z1, _, b1⟩ := sl.own i a (by simp [e2])
      have z2 : Z1 a = none := hz1 a nd2.1 z1
      obtain ⟨k2, lz⟩ := k1.freeze hh n1 z2
      have hz : ∀ b, b ∉ ad i → Z b = none → (upd Z1 a (.lst (bs.map V.ref))) b = none := fun b hb h => by
        rw [e2] at hb
        simp only [List.mem_cons, not_or] at hb
        rw [upd_ne hb.1]; exact hz1 b hb.2 h
      refine ⟨_, _, k2, Step.refl.zchange (lz1.trans lz) fun b hb h => hz b (fun z => (sl.own i b z).2.2.2 hb) h, sl.freeze (i := i) (s := Sl.freeze (.ow2 dss)) (lz1.trans lz) hz ⟨.ref a, e, ?_⟩⟩
      unfold Rep
      exact ⟨a, _, rfl, upd_same, rr.mono lz Ext.refl⟩
    | od kvs =>
      obtain ⟨a, e, e2, es, ep, qs, hh, hr, ht⟩ := q2
      obtain ⟨n1, z1, _, b1⟩ := sl.own i a (by simp [e2])
      obtain ⟨k2, lz⟩ := k.freeze hh n1 z1 nt_raw
      have hz : ∀ b, b ∉ ad i → Z b = none → (upd Z a (dRaw a es ep)) b = none := fun b hb h => by
        rw [upd_ne (show b ≠ a from fun e => hb (by simp [e2, e]))]; exact h
      refine ⟨_, _, k2, Step.refl.zchange lz fun b hb h => hz b (fun z => (sl.own i b z).2.2.2 hb) h, sl.freeze (i := i) (s := Sl.freeze (.od kvs)) lz hz ⟨.ref a, e, ?_⟩⟩
      exact DctR.rep ⟨es, ep, qs, upd_same, hr.mono lz, paired_imp (fun _ _ => RepK.mono lz Ext.refl) ht⟩
    | bo ds =>
      refine ⟨Z, _, k, Step.refl, sl.freeze (i := i) (s := Sl.freeze (.bo ds)) Le.refl (fun _ _ h => h) ?_⟩
      show SlotR P B os Z H [] .no _
      trivial
theorem freeze_slots : ∀ (is : List Nat) {env : Env} {Z : Hp} {ad : Nat → List Addr}, Ok P os w Z H → Slots P B env σ ad os Z H → ∃ Z' ad', Ok P os w Z' H ∧ Step B os Z H os Z' H ∧ Slots P B (freezeAll env is) σ ad' os Z' H
  | [], env, Z, ad, k, sl => ⟨Z, ad, k, Step.refl, sl⟩
  | i :: is, env, Z, ad, k, sl => by
    obtain ⟨Z1, ad1, k1, s1, sl1⟩ := freeze_slot k sl i
    obtain ⟨Z2, ad2, k2, s2, sl2⟩ := freeze_slots is k1 sl1
    exact ⟨Z2, ad2, k2, s1.trans s2, sl2⟩
/-- a list of lists, its rows for good -/
theorem freeze_inner (k : Ok P os w Z H) (sl : Slots P B env σ ad os Z H) {i : Nat} {dss : List (List D)} (q : env[i]? = some (.ow2 dss)) : ∃ Z' ad', Ok P os w Z' H ∧ Step B os Z H os Z' H ∧ Slots P B (env.set i (.ow (dss.map .lst))) σ ad' os Z' H := by
  obtain ⟨a, bs, e, e2, hh, r⟩ := sl.at_ i _ q
  have nd := sl.nd i
  rw [e2] at nd
  have nd2 := List.nodup_cons.mp nd
  obtain ⟨Z1, k1, lz1, hz1, rr⟩ := freeze_rows k (fun b hb => ⟨(sl.own i b (by simp [e2, hb])).1, (sl.own i b (by simp [e2, hb])).2.1⟩) nd2.2 r
  obtain ⟨n1, z1, t1, b1⟩ := sl.own i a (by simp [e2])
  have z2 : Z1 a = none := hz1 a nd2.1 z1
  refine ⟨Z1, fun j => if j = i then [a] else ad j, k1, Step.refl.zchange lz1 fun b hb h => hz1 b (fun z => (sl.own i b (by simp [e2, z])).2.2.2 hb) h, ?_⟩
  refine ⟨by simp [sl.len], fun j x ee => ?_, fun j b hb => ?_, fun j l b h1 h2 => ?_, fun j => ?_⟩
  · by_cases hj : i = j
    · subst hj
      by_cases hi : i < env.length
      · rw [List.getElem?_set_self hi] at ee
        cases ee
        exact ⟨a, _, e, by simp, hh, rr⟩
      · rw [List.getElem?_eq_none (by simpa using hi)] at ee; cases ee
    · rw [List.getElem?_set_ne hj] at ee
      simp only [if_neg (Ne.symm hj)]
      exact (sl.at_ j x ee).mono lz1
  · by_cases hj : j = i
    · rw [if_pos hj] at hb
      rcases List.mem_singleton.mp hb with rfl
      exact ⟨n1, z2, t1, b1⟩
    · rw [if_neg hj] at hb
      obtain ⟨h1, h2, h3, h4⟩ := sl.own j b hb
      refine ⟨h1, hz1 b (fun z => hj ?_) h2, h3, h4⟩
      exact sl.dis j i b hb (by simp [e2, z])
  · by_cases hj : j = i
    · rw [if_pos hj] at h1
      rcases List.mem_singleton.mp h1 with rfl
      by_cases hl : l = i
      · exact hj.trans hl.symm
      · rw [if_neg hl] at h2
        exact absurd (sl.dis l i _ h2 (by simp [e2])) hl
    · rw [if_neg hj] at h1
      by_cases hl : l = i
      · rw [if_pos hl] at h2
        rcases List.mem_singleton.mp h2 with rfl
        exact absurd (sl.dis j i _ h1 (by simp [e2])) hj
      · rw [if_neg hl] at h2; exact sl.dis j l b h1 h2
  · by_cases hj : j = i
    · simp [hj]
    · simp only [if_neg hj]; exact sl.nd j
end
end VI

set_option Elab.async false
set_option linter.all false
set_option maxRecDepth 100000
set_option maxHeartbeats 1000000
/-! VI, part 14: readings of statements. -/
namespace VI
open PySem L2
def OutS (P : Pm) (W : WX) (B : Addr → Prop) (os : List Addr) (Z H : Hp) (R : Res Flow) (D : Ends) : Prop := match R with
  | .ok (.nx env') w' => ∀ σ' os' Z' H' ad', Step B os Z H os' Z' H' → Ok P os' w' Z' H' → Slots P B env' σ' ad' os' Z' H' → D.nx σ' H'
  | .ok (.bk env') w' => ∀ σ' os' Z' H' ad', Step B os Z H os' Z' H' → Ok P os' w' Z' H' → Slots P B env' σ' ad' os' Z' H' → D.bk σ' H'
  | .ok (.rt d) w' => ∀ v os' Z' H', Step B os Z H os' Z' H' → Ok P os' w' Z' H' → Rep P os' Z' d v → D.rt v H'
  | .exn c f w' => ∀ σ' os' Z' H' cls dd, Step B os Z H os' Z' H' → Ok P os' w' Z' H' → ExR P os' Z' H' c f cls dd → W cls dd σ' H'
  | .no => False
def tS (P : Pm) (W : WX) (m : Env → M Flow) : TS := fun D σ H => ∃ os Z w env ad B, Ok P os w Z H ∧ Slots P B env σ ad os Z H ∧ (∀ a, B a → H a ≠ none) ∧ OutS P W B os Z H (m env w) D
section
variable {P : Pm} {W : WX} {G : Glo} {os os' os1 : List Addr} {Z Z' Z1 H H' H1 : Hp} {w w' : Wd} {env env' : Env} {ad ad' : Nat → List Addr} {B : Addr → Prop} {σ σ' : Stt} {D : Ends} {α : Type}
theorem OutS.base {R : Res Flow} (s : Step B os Z H os1 Z1 H1) (h : OutS P W B os Z H R D) : OutS P W B os1 Z1 H1 R D := by
  cases R with
  | ok fl w =>
    cases fl with
    | nx e => exact fun σ' os' Z' H' ad' t k sl => h σ' os' Z' H' ad' (s.trans t) k sl
    | bk e => exact fun σ' os' Z' H' ad' t k sl => h σ' os' Z' H' ad' (s.trans t) k sl
    | rt d => exact fun v os' Z' H' t k r => h v os' Z' H' (s.trans t) k r
  | exn c f w => exact fun σ' os' Z' H' cls dd t k x => h σ' os' Z' H' cls dd (s.trans t) k x
  | no => exact h
theorem OutS.expr {m : M α} {f : α → M Flow} (hB : ∀ a, B a → H a ≠ none) (h : OutS P W B os Z H (bnd m f w) D) : Out P W σ os Z H (m w) fun a w1 os1 Z1 H1 => OutS P W B os1 Z1 H1 (f a w1) D := by
  unfold VI.bnd at h
  cases q : m w with
  | ok a w1 =>
    rw [q] at h
    exact fun os1 Z1 H1 s _ => OutS.base (s.sub hB) h
  | exn c f w1 =>
    rw [q] at h
    exact fun os1 Z1 H1 cls dd s k x => h σ os1 Z1 H1 cls dd (s.sub hB) k x
  | no => rw [q] at h; exact h
theorem OutS.lft {x : Option α} {f : α → M Flow} (h : OutS P W B os Z H (bnd (VI.lft x) f w) D) : ∃ a, x = some a ∧ OutS P W B os Z H (f a w) D := by
  cases x with
  | none => exact h.elim
  | some a => exact ⟨a, rfl, h⟩
theorem Bex {a : Addr} (hB : ∀ a, B a → H a ≠ none) (s : Step (Ex H) os Z H os1 Z1 H1) : ∀ a, B a → H1 a ≠ none := fun a b => s.there a (hB a b)
/-! name = e -/
theorem r_set {i : Nat} {e : E} (he : lev e = 0) (h : tS P W (exec G (.set i e)) D σ H) : tAsg (tX P W (ev G e .v) (RV P (lev e))) (gName i) D σ H := by
  obtain ⟨os, Z, w, env, ad, B, k, sl, hB, h⟩ := h
  refine tX_intro k sl (OutS.expr hB h) fun d w1 os1 Z1 H1 v s1 k1 sl1 r h1 => ?_
  rw [he] at r
  exact h1 _ _ _ _ _ Step.refl k1 (sl1.setFz i r)
theorem r_own {i : Nat} {e : E} (h : tS P W (exec G (.own i e)) D σ H) : tAsg (tX P W (ev G e .v) (RN P)) (gName i) D σ H := by
  obtain ⟨os, Z, w, env, ad, B, k, sl, hB, h⟩ := h
  refine tX_intro k sl (OutS.expr hB h) fun d w1 os1 Z1 H1 v s1 k1 sl1 r h1 => ?_
  obtain ⟨s, e1, h2⟩ := OutS.lft h1
  cases d <;> first | (cases e1; done) | skip
  case lst ds =>
    cases e1
    obtain ⟨a, vs, rfl, h0, na, hz, hh, rr⟩ := r
    have nb : ¬ B a := fun z => hB a z h0
    refine h2 _ _ _ _ _ Step.refl k1 (sl1.give (as := [a]) i ⟨a, vs, rfl, rfl, hh, rr⟩ (fun b hb => ?_) (by simp) fun b hb j hj z => ?_)
    · rcases List.mem_singleton.mp hb with rfl
      exact ⟨na, hz, by rw [hh]; (intro z; cases z), nb⟩
    · rcases List.mem_singleton.mp hb with rfl
      exact (sl.own j b z).2.2.1 h0
  case dct kvs =>
    cases e1
    obtain ⟨a, rfl, h0, na, hz, rr⟩ := r
    have nb : ¬ B a := fun z => hB a z h0
    refine h2 _ _ _ _ _ Step.refl k1 (sl1.give (as := [a]) i ⟨a, rfl, rfl, rr⟩ (fun b hb => ?_) (by simp) fun b hb j hj z => ?_)
    · rcases List.mem_singleton.mp hb with rfl
      exact ⟨na, hz, rr.there, nb⟩
    · rcases List.mem_singleton.mp hb with rfl
      exact (sl.own j b z).2.2.1 h0
theorem r_own2 {i : Nat} (h : tS P W (exec G (.own2 i)) D σ H) : tAsg (tLst tNil) (gName i) D σ H := by
  obtain ⟨os, Z, w, env, ad, B, k, sl, hB, h⟩ := h
  refine ⟨by simp, fun p hp => ?_⟩
  obtain ⟨k2, s, hz, np⟩ := k.allocOwn hp (.lst [])
  have nb : ¬ B p := fun z => hB p z hp
  refine h _ _ _ _ _ (s.sub hB) k2 ((sl.step s).give (as := [p]) i ⟨p, [], rfl, rfl, upd_same, .nil⟩ (fun b hb => ?_) (by simp) fun b hb j hj z => ?_)
  · rcases List.mem_singleton.mp hb with rfl
    exact ⟨np, hz, by rw [upd_same]; (intro z; cases z), nb⟩
  · rcases List.mem_singleton.mp hb with rfl
    exact (sl.own j b z).2.2.1 hp
theorem rows_nil {os : List Addr} {Z H' : Hp} : ∀ {bs : List Addr}, (∀ b ∈ bs, H' b = some (.lst [])) → Rows P os Z H' (List.replicate bs.length []) bs
  | [], _ => .nil
  | b :: bs, h => .cons ⟨[], h b (.head _), reps_nil⟩ (rows_nil fun c hc => h c (.tail _ hc))
theorem r_own2n {i v : Nat} {a : E} (h : tS P W (exec G (.own2n i v a)) D σ H) : tAsg (tLc (tX P W (evI G (.rng1 a)) (RI P)) (tP P (.one v)) tYes (tLst tNil) [v]) (gName i) D σ H := by
  obtain ⟨os, Z, w, env, ad, B, k, sl, hB, h⟩ := h
  have h : OutS P W B os Z H (bnd (evI G (.rng1 a) env) (fun xs => if xs.length ≤ lim then ret (VI.Flow.nx (env.set i (.ow2 (List.replicate xs.length [])))) else stuck) w) D := h
  refine tX_intro k sl (OutS.expr hB h) fun xs w1 os1 Z1 H1 J s1 k1 sl1 rJ h1 => ?_
  intro A hA
  by_cases hl : xs.length ≤ lim
  · rw [if_pos hl] at h1
    obtain ⟨Gp, Y, wk, hG, hY⟩ := rJ
    obtain ⟨k0, s0, hz0, n0⟩ := k1.allocOwn hA (.lst [])
    refine lc_it wk (fun j H' => ∃ Zx bs, Ok P os1 w1 Zx H' ∧ Step (Ex H1) os1 Z1 H1 os1 Zx H' ∧ H' A = some (.lst (bs.map V.ref)) ∧ bs.length = j ∧ (∀ b ∈ bs, H' b = some (.lst []) ∧ Zx b = none ∧ b ∉ os1 ∧ H1 b = none ∧ b ≠ A) ∧ bs.Nodup ∧ Zx A = none ∧ A ∉ os1)
      ⟨Z1, [], k0, s0, upd_same, rfl, fun b hb => absurd hb (by simp), List.nodup_nil, hz0, n0⟩ ?_ ?_ ?_
    · rintro j H' hj ⟨Zx, bs, kx, sx, _⟩
      exact hG os1 w1 Zx H' sx.zle sx.ex kx
    · rintro j x Hj H' hj ⟨Zx, bs, kx, sx, hAx, hbl, hbs, nd, hzx, nx⟩ y
      have hd : xs[j]? = some xs[j] := List.getElem?_eq_getElem hj
      obtain ⟨Z2, st2, k2, r2⟩ := hY j x Hj H' os1 w1 Zx sx.zle sx.ex kx y _ hd
      have sx2 : Step (Ex H1) os1 Z1 H1 os1 Z2 H' := sx.then st2
      have sl2 := sl1.step sx2
      have hA2 : H' A = some (.lst (bs.map V.ref)) := st2.keep A _ (by show Hj A ≠ none; rw [hAx]; intro z; cases z) hAx nx nt_lst
      have hz2 : Z2 A = none := st2.zkeep A (by show Hj A ≠ none; rw [hAx]; intro z; cases z) hzx
      have hb2 : ∀ b ∈ bs, H' b = some (.lst []) ∧ Z2 b = none ∧ b ∉ os1 ∧ H1 b = none ∧ b ≠ A := fun b hb => by
        obtain ⟨e1, e2, e3, e4, e5⟩ := hbs b hb
        have ne : Ex Hj b := by show Hj b ≠ none; rw [e1]; intro z; cases z
        exact ⟨st2.keep b _ ne e1 e3 nt_lst, st2.zkeep b ne e2, e3, e4, e5⟩
      refine ⟨os1, Z2, w1, wipeE env [v], ad, B, _, _, k2, sl2.wipe [v], r2, rfl, fun σ2 hw sl3 => ⟨?_, ?_⟩⟩
      · exact (show wipe σ2 [v] = _ from hw).trans (wipe_wipe fun j hj => hj)
      simp only [tYes, if_true]
      refine ⟨by simp, fun p hp => ?_⟩
      obtain ⟨k3, s3, hz3, n3⟩ := k2.allocOwn hp (.lst [])
      have hAp : A ≠ p := fun e => by rw [e, hp] at hA2; cases hA2
      have hp1 : H1 p = none := by
        cases q : H1 p with
        | none => rfl
        | some o => exact absurd hp (sx2.there p (by show H1 p ≠ none; rw [q]; intro z; cases z))
      refine ⟨bs.map V.ref, by rw [upd_ne hAp]; exact hA2, by rw [List.length_map, hbl, ← lim_eq]; omega, Z2, bs ++ [p], k3.updOwn hz2 nx (by rw [upd_ne hAp]; exact hA2) pl_lst, (sx2.then s3).updOwn (fun z => z hA), by rw [upd_same, List.map_append]; rfl, by rw [List.length_append, hbl]; rfl, fun b hb => ?_, ?_, hz2, nx⟩
      · rcases List.mem_append.mp hb with hb | hb
        · obtain ⟨e1, e2, e3, e4, e5⟩ := hb2 b hb
          have hbp : b ≠ p := fun e => by rw [e, hp] at e1; cases e1
          exact ⟨by rw [upd_ne e5, upd_ne hbp]; exact e1, e2, e3, e4, e5⟩
        · rcases List.mem_singleton.mp hb with rfl
          exact ⟨by rw [upd_ne (Ne.symm hAp), upd_same], hz3, n3, hp1, Ne.symm hAp⟩
      · refine List.nodup_append.mpr ⟨nd, by simp, fun b hb c hc e => ?_⟩
        rcases List.mem_singleton.mp hc with rfl
        have e1 := (hb2 b hb).1
        rw [e, hp] at e1; cases e1
    · rintro H' ⟨Zx, bs, kx, sx, hAx, hbl, hbs, nd, hzx, nx⟩
      have hBn : ∀ b, H1 b = none → ¬ B b := fun b hb z => s1.there b (hB b z) hb
      have rw' := rows_nil (P := P) (os := os1) (Z := Zx) (H' := H') (bs := bs) fun b hb => (hbs b hb).1
      rw [hbl] at rw'
      refine h1 _ _ _ _ _ (sx.sub fun b hb => s1.there b (hB b hb)) kx ((sl1.step sx).give (as := A :: bs) i ⟨A, bs, rfl, rfl, hAx, rw'⟩ (fun b hb => ?_) ?_ fun b hb j hj z => ?_)
      · rcases List.mem_cons.mp hb with rfl | hb
        · exact ⟨nx, hzx, by rw [hAx]; (intro z; cases z), hBn _ hA⟩
        · obtain ⟨e1, e2, e3, e4, e5⟩ := hbs b hb
          exact ⟨e3, e2, by rw [e1]; (intro z; cases z), hBn _ e4⟩
      · exact List.nodup_cons.mpr ⟨fun z => (hbs A z).2.2.2.2 rfl, nd⟩
      · have := (sl1.own j b z).2.2.1
        rcases List.mem_cons.mp hb with rfl | hb
        · exact this hA
        · exact this (hbs b hb).2.2.2.1
  · rw [if_neg hl] at h1
    exact h1.elim
/-! a tracked list -/
theorem r_newo {i : Nat} {es : Es} (h : tS P W (exec G (.newo i es)) D σ H) : tAsg (tLst (tX P W (evs G es) (RA P))) (gName i) D σ H := by
  obtain ⟨os, Z, w, env, ad, B, k, sl, hB, h⟩ := h
  refine tX_intro k sl (OutS.expr hB h) fun ds w1 os1 Z1 H1 vs s1 k1 sl1 r h1 => ?_
  by_cases hl : ds.length ≤ lim
  · rw [if_pos hl] at h1
    have r : Reps P os1 Z1 ds vs := r
    refine ⟨by rw [← r.length, ← lim_eq]; exact hl, fun p hp => ?_⟩
    obtain ⟨k2, s, hz, np⟩ := k1.allocOwn hp (.lst vs)
    have nb : ¬ B p := fun z => (Bex (a := p) hB s1) p z hp
    have e2 : Ext os1 (os1 ++ [p]) := ⟨[p], rfl⟩
    have k3 : Ok P (os1 ++ [p]) (w1 ++ [.cells ds]) Z1 (upd H1 p (.lst vs)) := by
      refine ⟨k2.zh, fun a ha => ?_, ?_, by simp [k2.len], fun n a o h2 h3 => ?_, k2.tb, k2.zt⟩
      · rcases List.mem_append.mp ha with z | z
        · exact k2.nz a z
        · rcases List.mem_singleton.mp z with rfl; exact hz
      · refine List.nodup_append.mpr ⟨k2.nd, by simp, fun a ha b hb e => ?_⟩
        rcases List.mem_singleton.mp hb with rfl
        exact np (e ▸ ha)
      · by_cases hn : n < os1.length
        · rw [List.getElem?_append_left hn] at h2
          rw [List.getElem?_append_left (by rw [← k2.len]; exact hn)] at h3
          have := k2.obj n a o h2 h3
          cases o with
          | cells ds2 =>
            obtain ⟨vs2, h4, h5⟩ := this
            exact ⟨vs2, h4, h5.mono Le.refl e2⟩
          | inst c fs =>
            obtain ⟨C, dx, vs, e, hv, r⟩ := this
            exact ⟨C, dx, vs, e, hv, flds_mono Le.refl e2 r⟩
        · have hn2 : n = os1.length := by
            obtain ⟨h4, _⟩ := List.getElem?_eq_some_iff.mp h2
            simp at h4
            omega
          subst hn2
          rw [List.getElem?_append_right (Nat.le_refl _)] at h2
          rw [k2.len, List.getElem?_append_right (Nat.le_refl _)] at h3
          simp at h2 h3
          subst h2 h3
          exact ⟨vs, upd_same, r.mono Le.refl e2⟩
    have s2 : Step B os1 Z1 H1 (os1 ++ [p]) Z1 (upd H1 p (.lst vs)) :=
      ⟨fun a o b h na _ => by rw [upd_ne (show a ≠ p from fun e => nb (e ▸ b))]; exact h, s.there, Le.refl, fun _ _ h => h, [p], rfl, fun a ha => by rcases List.mem_singleton.mp ha with rfl; exact hp⟩
    have s3 : Step (Ex H1) os1 Z1 H1 (os1 ++ [p]) Z1 (upd H1 p (.lst vs)) :=
      ⟨fun a o b h na _ => by rw [upd_ne (show a ≠ p from fun e => b (e ▸ hp))]; exact h, s.there, Le.refl, fun _ _ h => h, [p], rfl, fun a ha => by rcases List.mem_singleton.mp ha with rfl; exact hp⟩
    refine h1 _ _ _ _ _ s2 k3 ((sl1.step s3).setFz i ?_)
    unfold Rep
    exact ⟨p, rfl, by rw [← k1.len]; simp⟩
  · rw [if_neg hl] at h1
    exact h1.elim
/-! a, b = e -/
theorem r_unp {is : List Nat} {e : E} (he : lev e = 0) (h : tS P W (exec G (.unp is e)) D σ H) : tAsg (tX P W (ev G e .v) (RV P (lev e))) (gTup P.K is.length (gList is)) D σ H := by
  obtain ⟨os, Z, w, env, ad, B, k, sl, hB, h⟩ := h
  refine tX_intro k sl (OutS.expr hB h) fun d w1 os1 Z1 H1 v s1 k1 sl1 r h1 => ?_
  rw [he] at r
  cases d <;> first | exact h1.elim | skip
  rename_i ds
  obtain ⟨env2, e1, h2⟩ := OutS.lft h1
  refine r_patn (P := P) ⟨os1, Z1, w1, env, ad, B, .tup ds, env2, k1, sl1, r, e1, fun σ' _ sl2 => h2 _ _ _ _ _ Step.refl k1 sl2⟩
/-! x.append(e) -/
theorem r_app {i : Nat} {e : E} (he : lev e = 0) (h : tS P W (exec G (.app i e)) D σ H) : tDrop (tBM P.K "list" rAppend (tVar i) (tCons (tX P W (ev G e .v) (RV P (lev e))) tNil)) D σ H := by
  obtain ⟨os, Z, w, env, ad, B, k, sl, hB, h⟩ := h
  have h : OutS P W B os Z H ((match env[i]? with
    | some (.ow ds) => bnd (ev G e .v env) fun d => if ds.length < lim then ret (VI.Flow.nx (env.set i (.ow (ds ++ [d])))) else stuck
    | _ => stuck) w) D := h
  cases q : env[i]? with
  | none => rw [q] at h; exact h.elim
  | some s =>
    rw [q] at h
    cases s <;> first | exact h.elim | skip
    rename_i ds
    obtain ⟨a, vs, e1, e2, hh, rr⟩ := sl.at_ i _ q
    refine ⟨.ref a, e1, .inl ⟨rfl, vs, .of hh⟩, ?_⟩
    refine tX_intro k sl (OutS.expr hB h) fun d w1 os1 Z1 H1 v s1 k1 sl1 r h1 => ?_
    rw [he] at r
    obtain ⟨a', vs', e1', e2', hh', rr'⟩ := sl1.at_ i _ q
    rw [e1] at e1'
    cases e1'
    by_cases hl : ds.length < lim
    · rw [if_pos hl] at h1
      obtain ⟨n1, z1, _, b1⟩ := sl1.own i a (by simp [e2'])
      refine ⟨a, vs', v, rfl, rfl, hh', by rw [← rr'.length, ← lim_eq]; exact hl, ?_⟩
      refine h1 σ os1 Z1 _ ad (Step.refl.updOwn b1) (k1.updOwn z1 n1 hh' pl_lst) (sl1.updAt (a := a) (by simp [e2']) ⟨a, _, e1, e2', upd_same, rr'.append (reps_cons r reps_nil)⟩)
    · rw [if_neg hl] at h1; exact h1.elim
theorem r_app2 {i : Nat} (h : tS P W (exec G (.app2 i)) D σ H) : tDrop (tBM P.K "list" rAppend (tVar i) (tCons (tLst tNil) tNil)) D σ H := by
  obtain ⟨os, Z, w, env, ad, B, k, sl, hB, h⟩ := h
  have h : OutS P W B os Z H ((match env[i]? with
    | some (.ow2 dss) => if dss.length < lim then ret (VI.Flow.nx (env.set i (.ow2 (dss ++ [[]])))) else stuck
    | _ => stuck) w) D := h
  cases q : env[i]? with
  | none => rw [q] at h; exact h.elim
  | some s =>
    rw [q] at h
    cases s <;> first | exact h.elim | skip
    rename_i dss
    obtain ⟨a, bs, e1, e2, hh, rr⟩ := sl.at_ i _ q
    refine ⟨.ref a, e1, .inl ⟨rfl, _, .of hh⟩, ?_⟩
    refine ⟨by simp, fun p hp => ?_⟩
    obtain ⟨k2, s, hz, np⟩ := k.allocOwn hp (.lst [])
    have nb : ¬ B p := fun z => hB p z hp
    have sl2 := sl.step s
    obtain ⟨n1, z1, t1, b1⟩ := sl.own i a (by simp [e2])
    have hap : a ≠ p := fun e => t1 (e ▸ hp)
    by_cases hl : dss.length < lim
    · simp only [if_pos hl] at h
      have hlen : dss.length = bs.length := Paired.length rr
      refine ⟨a, bs.map V.ref, .ref p, rfl, rfl, by rw [upd_ne hap]; exact hh, by rw [List.length_map, ← hlen, ← lim_eq]; exact hl, ?_⟩
      have hnb : ∀ b ∈ bs, b ≠ p ∧ b ≠ a := fun b hb => ⟨fun e => (sl.own i b (by simp [e2, hb])).2.2.1 (e ▸ hp), fun e => by
        have nd := sl.nd i
        rw [e2] at nd
        exact (List.nodup_cons.mp nd).1 (e ▸ hb)⟩
      have sl3 := sl2.give (s := .no) (v := .ref a) (as := (a :: bs) ++ [p]) i trivial (fun b hb => ?_) ?_ fun b hb j hj z => ?_
      · have sl4 := sl3.updAt (i := i) (a := a) (o := .lst (bs.map V.ref ++ [.ref p])) (s := .ow2 (dss ++ [[]])) (by simp) (by
          refine ⟨a, bs ++ [p], ?_, by simp, by rw [upd_same, List.map_append]; rfl, ?_⟩
          · rw [List.getElem?_set_self]
            obtain ⟨hi, _⟩ := List.getElem?_eq_some_iff.mp e1
            exact hi
          · unfold Rows
            refine Paired.app ?_ (.cons ⟨[], by rw [upd_ne (Ne.symm hap), upd_same], reps_nil⟩ .nil)
            exact Rows.congr (fun b hb => by rw [upd_ne (hnb b hb).2, upd_ne (hnb b hb).1]) rr)
        rw [List.set_set] at sl4
        have es : σ.set i (some (.ref a)) = σ := by
          apply List.ext_getElem?
          intro j
          by_cases hj : i = j
          · subst hj
            obtain ⟨hi, _⟩ := List.getElem?_eq_some_iff.mp e1
            rw [List.getElem?_set_self hi, e1]
          · rw [List.getElem?_set_ne hj]
        rw [es] at sl4
        refine h σ os Z _ _ ((s.sub hB).updOwn b1) (k2.updOwn z1 n1 (by rw [upd_ne hap]; exact hh) pl_lst) sl4
      · rcases List.mem_append.mp hb with hb | hb
        · have := sl2.own i b (by rw [e2]; exact hb)
          exact this
        · rcases List.mem_singleton.mp hb with rfl
          exact ⟨np, hz, by rw [upd_same]; (intro z; cases z), nb⟩
      · refine List.nodup_append.mpr ⟨by rw [← e2]; exact sl.nd i, by simp, fun b hb c hc e => ?_⟩
        rcases List.mem_singleton.mp hc with rfl
        exact (sl.own i b (by rw [e2]; exact hb)).2.2.1 (e ▸ hp)
      · rcases List.mem_append.mp hb with hb | hb
        · exact hj (sl.dis j i b z (by rw [e2]; exact hb))
        · rcases List.mem_singleton.mp hb with rfl
          exact (sl.own j b z).2.2.1 hp
    · simp only [if_neg hl] at h; exact h.elim
end
end VI

set_option Elab.async false
set_option linter.all false
set_option maxRecDepth 100000
set_option maxHeartbeats 1000000
/-! VI, part 15: readings of statements, further. -/
namespace VI
open PySem L2
section
variable {P : Pm} {W : WX} {G : Glo} {os os' os1 : List Addr} {Z Z' Z1 H H' H1 H0 : Hp} {w w' : Wd} {env env' : Env} {ad ad' : Nat → List Addr} {B : Addr → Prop} {σ σ' : Stt} {D : Ends} {α : Type}
/-! rows[j].append(e) -/
theorem rows_set {dss : List (List VI.D)} {bs : List Addr} {n : Nat} {b : Addr} {ds : List VI.D} {vs : List V} (nd : bs.Nodup) (r : Rows P os Z H dss bs) (hb : bs[n]? = some b) (hr : Reps P os Z ds vs) :
    Rows P os Z (upd H b (.lst vs)) (dss.set n ds) bs := by
  unfold Rows at *
  have key : ∀ {dss : List (List VI.D)} {bs : List Addr} {n : Nat}, bs.Nodup → Paired (fun ds b => ∃ vs, H b = some (.lst vs) ∧ Reps P os Z ds vs) dss bs → bs[n]? = some b →
      Paired (fun ds c => ∃ vs', upd H b (.lst vs) c = some (.lst vs') ∧ Reps P os Z ds vs') (dss.set n ds) bs := by
    intro dss bs n nd r hb
    induction r generalizing n with
    | nil => simp at hb
    | cons q t ih =>
      rename_i d0 b0 ds0 bs0
      have nd2 := List.nodup_cons.mp nd
      cases n with
      | zero =>
        simp at hb
        subst hb
        refine .cons ⟨vs, upd_same, hr⟩ ?_
        clear ih
        have hne : ∀ c ∈ bs0, c ≠ b0 := fun c hc e => nd2.1 (e ▸ hc)
        clear nd nd2
        induction t with
        | nil => exact .nil
        | cons q2 t2 ih2 =>
          obtain ⟨v2, h1, h2⟩ := q2
          exact .cons ⟨v2, by rw [upd_ne (hne _ List.mem_cons_self)]; exact h1, h2⟩ (ih2 fun c hc => hne c (List.mem_cons_of_mem _ hc))
      | succ n =>
        have hb' : bs0[n]? = some b := by simpa using hb
        obtain ⟨v2, h1, h2⟩ := q
        have hne : b0 ≠ b := fun e => nd2.1 (e ▸ List.mem_of_getElem? hb')
        exact .cons ⟨v2, by rw [upd_ne hne]; exact h1, h2⟩ (ih nd2.2 hb')
  exact key nd r hb
theorem r_appi {i : Nat} {j e : E} (hj : lev j = 0) (he : lev e = 0) (h : tS P W (exec G (.appi i j e)) D σ H) :
    tDrop (tBM P.K "list" rAppend (tOp (rIx P.K) (tVar i) (tX P W (ev G j .v) (RV P (lev j)))) (tCons (tX P W (ev G e .v) (RV P (lev e))) tNil)) D σ H := by
  obtain ⟨os, Z, w, env, ad, B, k, sl, hB, h⟩ := h
  have h : OutS P W B os Z H ((match env[i]? with
    | some (.ow2 dss) => bnd (ev G j .v env) fun k => bnd (lft (rowAt dss k)) fun p => bnd (ev G e .v env) fun d => if p.2.length < lim then ret (VI.Flow.nx (env.set i (.ow2 (dss.set p.1 (p.2 ++ [d]))))) else stuck
    | _ => stuck) w) D := h
  cases q : env[i]? with
  | none => rw [q] at h; exact h.elim
  | some s =>
    rw [q] at h
    cases s <;> first | exact h.elim | skip
    rename_i dss
    obtain ⟨a, bs, e1, e2, hh, rr⟩ := sl.at_ i _ q
    refine ⟨.ref a, e1, ?_⟩
    refine tX_intro k sl (OutS.expr hB h) fun kd w1 os1 Z1 H1 v s1 k1 sl1 r h1 => ?_
    obtain ⟨⟨n, ds⟩, e3, h2⟩ := OutS.lft h1
    rw [hj] at r
    cases kd <;> first | (cases e3; done) | skip
    rename_i kk
    have e3 : ((ixN dss.length kk).bind fun n => (dss[n]?).map fun ds => (n, ds)) = some (n, ds) := e3
    obtain ⟨n', e4, e5⟩ := Option.bind_eq_some_iff.mp e3
    obtain ⟨ds', e6, e7⟩ := Option.map_eq_some_iff.mp e5
    cases e7
    have r : Rep P os1 Z1 (.int kk) v := r
    unfold Rep at r
    subst r
    obtain ⟨a', bs', e1', e2', hh', rr'⟩ := sl1.at_ i _ q
    rw [e1] at e1'
    cases e1'
    obtain ⟨b, hb, us, hus, rus⟩ := Paired.get rr' e6
    have hlen : dss.length = bs'.length := Paired.length rr'
    refine .inl ⟨a, bs'.map V.ref, kk, .ref b, rfl, rfl, .of hh', ?_, ?_⟩
    · unfold atI
      rw [List.length_map, ← hlen, e4]
      show (bs'.map V.ref)[n]? = _
      rw [List.getElem?_map, hb]; rfl
    refine ⟨.inl ⟨rfl, us, .of hus⟩, ?_⟩
    have hB1 : ∀ a, B a → H1 a ≠ none := fun a b => s1.there a (hB a b)
    refine tX_intro k1 sl1 (OutS.expr hB1 h2) fun d w2 os2 Z2 H2 u s2 k2 sl2 r h3 => ?_
    rw [he] at r
    obtain ⟨a2, bs2, e12, e22, hh2, rr2⟩ := sl2.at_ i _ q
    rw [e1] at e12
    cases e12
    have ebs : bs2 = bs' := by rw [e22] at e2'; cases e2'; rfl
    subst ebs
    obtain ⟨b', hb', us', hus', rus'⟩ := Paired.get rr2 e6
    rw [hb] at hb'
    cases hb'
    by_cases hl : ds.length < lim
    · simp only [if_pos hl] at h3
      have hmem : b ∈ ad i := by rw [e22]; exact List.mem_cons_of_mem _ (List.mem_of_getElem? hb)
      obtain ⟨n1, z1, _, b1⟩ := sl2.own i b hmem
      have nd := sl2.nd i
      rw [e22] at nd
      have nd2 := List.nodup_cons.mp nd
      have hab : a ≠ b := fun e => nd2.1 (e ▸ List.mem_of_getElem? hb)
      refine ⟨b, us', u, rfl, rfl, hus', by rw [← rus'.length, ← lim_eq]; exact hl, ?_⟩
      refine h3 σ os2 Z2 _ ad (Step.refl.updOwn b1) (k2.updOwn z1 n1 hus' pl_lst) (sl2.updAt (a := b) hmem ⟨a, bs2, e1, e22, by rw [upd_ne hab]; exact hh2, ?_⟩)
      exact rows_set nd2.2 rr2 hb (rus'.append (reps_cons r reps_nil))
    · simp only [if_neg hl] at h3; exact h3.elim
/-! x[k] = v -/
theorem ok_cells {n : Nat} {a : Addr} {ds ds' : List VI.D} {vs : List V} (k : Ok P os w Z H) (ha : os[n]? = some a) (hw : w[n]? = some (.cells ds)) (r : Reps P os Z ds' vs) : Ok P os (w.set n (.cells ds')) Z (upd H a (.lst vs)) := by
  refine ⟨fun b o h => ?_, k.nz, k.nd, by simp [k.len], fun m b o h1 h2 => ?_, let ⟨_, hv, _⟩ := k.obj n a _ ha hw; tabs_write k.tb hv pl_lst, k.zt⟩
  · rw [upd_ne (show b ≠ a from fun e => by rw [e, k.nz a (List.mem_of_getElem? ha)] at h; cases h)]; exact k.zh b o h
  · by_cases hm : n = m
    · subst hm
      rw [ha] at h1
      cases h1
      have hl : n < w.length := by obtain ⟨z, _⟩ := List.getElem?_eq_some_iff.mp hw; exact z
      rw [List.getElem?_set_self hl] at h2
      cases h2
      exact ⟨vs, upd_same, r⟩
    · rw [List.getElem?_set_ne hm] at h2
      have hne : b ≠ a := fun e => by
        subst e
        obtain ⟨l1, g1⟩ := List.getElem?_eq_some_iff.mp ha
        obtain ⟨l2, g2⟩ := List.getElem?_eq_some_iff.mp h1
        exact hm ((List.getElem_inj k.nd).mp (g1.trans g2.symm))
      have := k.obj m b o h1 h2
      cases o with
      | cells es =>
        obtain ⟨us, h3, h4⟩ := this
        exact ⟨us, by rw [upd_ne hne]; exact h3, h4⟩
      | inst c fs =>
        obtain ⟨C, dx, vs, e, hv, r⟩ := this
        exact ⟨C, dx, vs, e, by rw [upd_ne hne]; exact hv, r⟩
theorem putF_flds {f : Str} {d : VI.D} {v : V} (r : Rep P os Z d v) : ∀ {fs : List (Str × VI.D)} {vs : List (Str × V)}, Paired (FldR P os Z) fs vs → Paired (FldR P os Z) (putFD f d fs) (putF f v vs)
  | _, _, .nil => .cons ⟨rfl, r⟩ .nil
  | (g, x) :: fs, (g', y) :: vs, .cons q t => by
    obtain ⟨h1, h2⟩ := q
    cases h1
    unfold putFD putF
    by_cases e : g = f
    · rw [if_pos e, if_pos e]
      exact .cons ⟨rfl, r⟩ t
    · rw [if_neg e, if_neg e]
      exact .cons ⟨rfl, h2⟩ (putF_flds r t)
theorem ok_inst {n c : Nat} {a C dx : Addr} {fs fs' : List (Str × VI.D)} {vs : List (Str × V)} (k : Ok P os w Z H) (ha : os[n]? = some a) (hw : w[n]? = some (.inst c fs)) (hC : P.cls c = .ref C) (r : Paired (FldR P os Z) fs' vs) :
    Ok P os (w.set n (.inst c fs')) Z (upd H a (.ins C dx vs)) := by
  refine ⟨fun b o h => ?_, k.nz, k.nd, by simp [k.len], fun m b o h1 h2 => ?_, let ⟨_, _, _, _, hv, _⟩ := k.obj n a _ ha hw; tabs_write k.tb hv pl_ins, k.zt⟩
  · rw [upd_ne (show b ≠ a from fun e => by rw [e, k.nz a (List.mem_of_getElem? ha)] at h; cases h)]; exact k.zh b o h
  · by_cases hm : n = m
    · subst hm
      rw [ha] at h1
      cases h1
      have hl : n < w.length := by obtain ⟨z, _⟩ := List.getElem?_eq_some_iff.mp hw; exact z
      rw [List.getElem?_set_self hl] at h2
      cases h2
      exact ⟨C, dx, vs, hC, upd_same, r⟩
    · rw [List.getElem?_set_ne hm] at h2
      have hne : b ≠ a := fun e => by
        subst e
        obtain ⟨l1, g1⟩ := List.getElem?_eq_some_iff.mp ha
        obtain ⟨l2, g2⟩ := List.getElem?_eq_some_iff.mp h1
        exact hm ((List.getElem_inj k.nd).mp (g1.trans g2.symm))
      have := k.obj m b o h1 h2
      cases o with
      | cells es =>
        obtain ⟨us, h3, h4⟩ := this
        exact ⟨us, by rw [upd_ne hne]; exact h3, h4⟩
      | inst c fs =>
        obtain ⟨C2, dx2, vs2, h3, h4, h5⟩ := this
        exact ⟨C2, dx2, vs2, h3, by rw [upd_ne hne]; exact h4, h5⟩
/-- a store to a tracked object's address -/
theorem st_obj {n : Nat} {a : Addr} {o : HO} (ha : os[n]? = some a) : Step B os Z H os Z (upd H a o) :=
  ⟨fun b o _ h na _ => by rw [upd_ne (show b ≠ a from fun e => na (e ▸ List.mem_of_getElem? ha))]; exact h, fun b h => by
    by_cases e : b = a
    · subst e; rw [upd_same]; (intro z; cases z)
    · rw [upd_ne e]; exact h, Le.refl, fun _ _ h => h, [], by simp, by simp⟩
theorem sl_obj {n : Nat} {a : Addr} {o : HO} (ha : os[n]? = some a) (sl : Slots P B env σ ad os Z H) : Slots P B env σ ad os Z (upd H a o) := by
  refine ⟨sl.len, fun l x ex => (sl.at_ l x ex).congr (fun b _ nb => upd_ne (show b ≠ a from fun e => nb (by rw [e]; exact List.mem_of_getElem? ha))) fun b hb => upd_ne (show b ≠ a from fun e => (sl.own l b hb).1 (by rw [e]; exact List.mem_of_getElem? ha)), fun l b hb => ?_, sl.dis, sl.nd⟩
  obtain ⟨g1, g2, g3, g4⟩ := sl.own l b hb
  refine ⟨g1, g2, ?_, g4⟩
  by_cases e : b = a
  · subst e; rw [upd_same]; (intro z; cases z)
  · rw [upd_ne e]; exact g3
theorem set_step {c : Nat} {f : Str} {d x : VI.D} {v y : V} (k : Ok P os w Z H) (sl : Slots P B env σ ad os Z H) (r : Rep P os Z d v) (ry : Rep P os Z x y) (h : OutS P W B os Z H (bnd (setM c f d x) (fun _ => ret (VI.Flow.nx env)) w) D) :
    ∃ a C dx vs, y = .ref a ∧ P.cls c = .ref C ∧ H a = some (.ins C dx vs) ∧ vs.length < 1000 ∧ D.nx σ (upd H a (.ins C dx (putF f v vs))) := by
  cases x with
  | obj n =>
    have h : OutS P W B os Z H ((bnd (fun w => match w[n]? with
      | some (.inst c' fs) => if c' = c ∧ fs.length < 1000 then Res.ok () (w.set n (.inst c (putFD f d fs))) else .no
      | _ => .no) (fun _ => ret (VI.Flow.nx env))) w) D := h
    unfold VI.bnd at h
    cases q : w[n]? with
    | none => simp only [q] at h; exact h.elim
    | some o =>
      cases o with
      | cells ds => simp only [q] at h; exact h.elim
      | inst c' fs =>
        simp only [q] at h
        by_cases e : c' = c ∧ fs.length < 1000
        · simp only [if_pos e] at h
          obtain ⟨rfl, hl⟩ := e
          obtain ⟨a, C, dx, vs, rfl, ha, hC, hH, hp⟩ := inst_get k ry q
          refine ⟨a, C, dx, vs, rfl, hC, hH, by rw [← Paired.length hp]; exact hl, ?_⟩
          exact h σ os Z _ ad (st_obj ha) (ok_inst k ha q hC (putF_flds r hp)) (sl_obj ha sl)
        · simp only [if_neg e] at h; exact h.elim
  | _ => exact h.elim
theorem r_setf {c : Nat} {o e : E} {f : Str} {C : Addr} (ho : lev o = 0) (he : lev e = 0) (hC : P.cls c = .ref C) (cl : Cls P.K C) (na : NoAttr P.K C f) (h : tS P W (exec G (.setf c o f e)) D σ H) :
    sFld P.K (tX P W (ev G o .v) (RV P (lev o))) (tX P W (ev G e .v) (RV P (lev e))) f D σ H := by
  obtain ⟨os, Z, w, env, ad, B, k, sl, hB, h⟩ := h
  refine tX_intro k sl (OutS.expr hB h) fun d w1 os1 Z1 H1 v s1 k1 sl1 r h1 => ?_
  refine tX_intro k1 sl1 (OutS.expr (fun a b => s1.there a (hB a b)) h1) fun x w2 os2 Z2 H2 y s2 k2 sl2 ry h2 => ?_
  rw [he] at r
  rw [ho] at ry
  obtain ⟨a, C', dx, vs, rfl, hc, hH, hl, q⟩ := set_step k2 sl2 (Rep.mono s2.zle s2.ex r) ry h2
  rw [hC] at hc
  cases hc
  exact ⟨a, C, dx, vs, rfl, hH, cl, na, hl, q⟩
def rAug (op : Bop) : V → V → Hp → VK → Prop := match op with
  | .add => rAdd
  | .sub => rSub
  | _ => fun _ _ _ _ => False
theorem r_augf {c : Nat} {o e : E} {f : Str} {op : Bop} {C : Addr} (ho : lev o = 0) (he : lev e = 0) (hC : P.cls c = .ref C) (cl : Cls P.K C) (na : NoAttr P.K C f) (h : tS P W (exec G (.augf c o f op e)) D σ H) :
    sFldAug P.K (tX P W (ev G o .v) (RV P (lev o))) (tX P W (ev G e .v) (RV P (lev e))) (rAug op) f D σ H := by
  obtain ⟨os, Z, w, env, ad, B, k, sl, hB, h⟩ := h
  refine tX_intro k sl (OutS.expr hB h) fun x w1 os1 Z1 H1 y s1 k1 sl1 ry h1 => ?_
  rw [ho] at ry
  obtain ⟨n, fs, a, C', dx, vs, d, u, rfl, hw, rfl, ha, hc, hH, hf, hl, hl2, ru, h2⟩ := attrM_out k1 ry (OutS.expr (σ := σ) (fun a b => s1.there a (hB a b)) h1)
  rw [hC] at hc
  cases hc
  refine ⟨a, C, dx, vs, u, rfl, hH, cl, na, hl2, ?_⟩
  refine tX_intro k1 sl1 (OutS.expr (fun a b => s1.there a (hB a b)) h2) fun z w2 os2 Z2 H2 v s2 k2 sl2 rv h3 => ?_
  rw [he] at rv
  obtain ⟨d', e1, h4⟩ := OutS.lft h3
  unfold augI at e1
  split at e1
  · cases e1
    have ru : Rep P os1 Z1 (.int _) u := ru
    have rv : Rep P os2 Z2 (.int _) v := rv
    unfold Rep at ru rv
    refine ⟨_, _, ru, rv, ?_⟩
    obtain ⟨a', C', dx', vs', e2, hc', hH', hl', q⟩ := set_step (v := .int _) k2 sl2 (by unfold Rep; rfl) (Rep.mono s2.zle s2.ex ry) h4
    cases e2
    rw [hC] at hc'
    cases hc'
    exact ⟨dx', vs', hH', hl', q⟩
  · cases e1
    have ru : Rep P os1 Z1 (.int _) u := ru
    have rv : Rep P os2 Z2 (.int _) v := rv
    unfold Rep at ru rv
    refine ⟨_, _, ru, rv, ?_⟩
    obtain ⟨a', C', dx', vs', e2, hc', hH', hl', q⟩ := set_step (v := .int _) k2 sl2 (by unfold Rep; rfl) (Rep.mono s2.zle s2.ex ry) h4
    cases e2
    rw [hC] at hc'
    cases hc'
    exact ⟨dx', vs', hH', hl', q⟩
  · cases e1
def rPutA (w : World) : TSet := fun o i v H Q => rSetL o i v H Q ∨ rSetN w o i v H Q
theorem rPutA_ok {X : Cx} (hu : X.A.units + 10 < cLine) : PSet X (rPutA X.w) := by
  intro pins s σ H o i v ov iv u Q I ro ri rv h
  rcases h with h | h
  · exact set_list pins s σ H o i v ov iv u Q I ro ri rv h
  · exact set_dictN hu pins s σ H o i v ov iv u Q I ro ri rv h
/-- the store, once the value is there -/
theorem put_step {i : Nat} {kk : E} {d : VI.D} {v : V} {N : Stt → Hp → Prop} (hk : lev kk = 0) (k1 : Ok P os1 w Z1 H1) (sl1 : Slots P B env σ ad os1 Z1 H1) (hB1 : ∀ a, B a → H1 a ≠ none) (r : Rep P os1 Z1 d v)
    (h : OutS P W B os1 Z1 H1 (bnd (lft (putOk env i)) (fun _ => bnd (ev G kk .v env) fun k => putM env i k d) w) { D with nx := N }) : gSub (tVar i) (tX P W (ev G kk .v) (RV P (lev kk))) (rPutA P.wo) v σ H1 N := by
  obtain ⟨⟨⟩, e1, h2⟩ := OutS.lft h
  unfold putOk at e1
  cases q : env[i]? with
  | none => rw [q] at e1; cases e1
  | some s =>
    rw [q] at e1
    have q2 := sl1.at_ i s q
    cases s <;> first | (cases e1; done) | skip
    case ow ds =>
      obtain ⟨a, vs, e2, e3, hh, rr⟩ := q2
      refine ⟨.ref a, e2, ?_⟩
      refine tX_intro k1 sl1 (OutS.expr hB1 h2) fun kd w2 os2 Z2 H2 u s2 k2 sl2 ru h3 => ?_
      rw [hk] at ru
      have h3 : OutS P W B os2 Z2 H2 (putM env i kd d w2) { D with nx := N } := h3
      unfold putM at h3
      rw [q] at h3
      cases kd <;> first | exact h3.elim | skip
      rename_i j _
      have ru : Rep P os2 Z2 (.int j) u := ru
      unfold Rep at ru
      subst ru
      cases q3 : ixN ds.length j with
      | none => simp only [q3] at h3; exact h3.elim
      | some n =>
        simp only [q3] at h3
        obtain ⟨a', vs', e2', e3', hh', rr'⟩ := sl2.at_ i _ q
        rw [e2] at e2'
        cases e2'
        obtain ⟨n1, z1, _, b1⟩ := sl2.own i a (by simp [e3'])
        refine .inl ⟨a, vs', j, n, rfl, rfl, hh', by rw [← rr'.length]; exact q3, ?_⟩
        exact h3 σ os2 Z2 _ ad (Step.refl.updOwn b1) (k2.updOwn z1 n1 hh' pl_lst) (sl2.updAt (a := a) (by simp [e3']) ⟨a, _, e2, e3', upd_same, rr'.set (Rep.mono s2.zle s2.ex r) n⟩)
    case od kvs =>
      obtain ⟨a, e2, e3, _⟩ := q2
      refine ⟨.ref a, e2, ?_⟩
      refine tX_intro k1 sl1 (OutS.expr hB1 h2) fun kd w2 os2 Z2 H2 u s2 k2 sl2 ru h3 => ?_
      rw [hk] at ru
      have h3 : OutS P W B os2 Z2 H2 (putM env i kd d w2) { D with nx := N } := h3
      unfold putM at h3
      rw [q] at h3
      have h3 : OutS P W B os2 Z2 H2 ((if (VI.D.key kd && decide (kvs.length < lim)) = true then ret (VI.Flow.nx (env.set i (.od (dput kvs kd d)))) else stuck) w2) { D with nx := N } := h3
      by_cases c : (VI.D.key kd && decide (kvs.length < lim)) = true
      · rw [if_pos c] at h3
        simp only [Bool.and_eq_true, decide_eq_true_eq] at c
        obtain ⟨a', e2', e3', es', ep', qs', hh', hr', ht'⟩ := sl2.at_ i _ q
        rw [e2] at e2'
        cases e2'
        obtain ⟨n1, z1, _, b1⟩ := sl2.own i a (by simp [e3'])
        obtain ⟨b, rfl, hb⟩ := key_ok c.1 ru
        have hl : qs'.length < sizeLine := by rw [← Paired.length ht', ← lim_eq]; exact c.2
        refine .inr ⟨a, es', ep', qs', b, nk kd, ⟨rfl, rfl, hh', hr'.mono k2.zh, hb.mono k2.zh⟩, hl, fun es2 ep2 hes => ?_⟩
        exact h3 σ os2 Z2 _ ad (Step.refl.updOwn b1) (k2.updOwn z1 n1 hh' pl_raw) (sl2.updAt (a := a) (by simp [e3']) ⟨a, e2, e3', es2, ep2, _, upd_same, store_rws hb hr' hl hes, dput_rows c.1 (Rep.mono s2.zle s2.ex r) ht'⟩)
      · rw [if_neg c] at h3; exact h3.elim
    case fz d0 =>
      cases d0 <;> first | (cases e1; done) | skip
      rename_i m
      obtain ⟨vv, e2, r0⟩ := q2
      have r0' := r0
      unfold Rep at r0'
      obtain ⟨a, rfl, ha⟩ := r0'
      refine ⟨.ref a, e2, ?_⟩
      refine tX_intro k1 sl1 (OutS.expr hB1 h2) fun kd w2 os2 Z2 H2 u s2 k2 sl2 ru h3 => ?_
      rw [hk] at ru
      have h3 : OutS P W B os2 Z2 H2 (putM env i kd d w2) { D with nx := N } := h3
      unfold putM at h3
      rw [q] at h3
      simp only at h3
      split at h3
      · rename_i ds j hw _
        split at h3
        · rename_i n hn
          have ru : Rep P os2 Z2 (.int j) u := ru
          unfold Rep at ru
          subst ru
          have ha2 : os2[m]? = some a := s2.ex.get ha
          obtain ⟨vs, hh, rr⟩ := k2.obj m a _ ha2 hw
          refine .inl ⟨a, vs, j, n, rfl, rfl, hh, by rw [← rr.length]; exact hn, ?_⟩
          have rr2 := rr.set (Rep.mono s2.zle s2.ex r) n
          have st : Step B os2 Z2 H2 os2 Z2 (upd H2 a (.lst (vs.set n v))) :=
            ⟨fun b o _ h na _ => by rw [upd_ne (show b ≠ a from fun e => na (e ▸ List.mem_of_getElem? ha2))]; exact h, fun b h => by
              by_cases e : b = a
              · subst e; rw [upd_same]; (intro z; cases z)
              · rw [upd_ne e]; exact h, Le.refl, fun _ _ h => h, [], by simp, by simp⟩
          refine h3 σ os2 Z2 _ ad st (ok_cells k2 ha2 hw rr2) ⟨sl2.len, fun l x ex => (sl2.at_ l x ex).congr (fun b _ nb => upd_ne (show b ≠ a from fun e => nb (by rw [e]; exact List.mem_of_getElem? ha2))) fun b hb => upd_ne (show b ≠ a from fun e => (sl2.own l b hb).1 (by rw [e]; exact List.mem_of_getElem? ha2)), fun l b hb => ?_, sl2.dis, sl2.nd⟩
          obtain ⟨g1, g2, g3, g4⟩ := sl2.own l b hb
          exact ⟨g1, g2, st.there b g3, g4⟩
        · exact h3.elim
      · exact h3.elim
theorem r_put {i : Nat} {kk e : E} (hk : lev kk = 0) (he : lev e = 0) (h : tS P W (exec G (.put i kk e)) D σ H) :
    tAsg (tX P W (ev G e .v) (RV P (lev e))) (gSub (tVar i) (tX P W (ev G kk .v) (RV P (lev kk))) (rPutA P.wo)) D σ H := by
  obtain ⟨os, Z, w, env, ad, B, k, sl, hB, h⟩ := h
  refine tX_intro k sl (OutS.expr hB h) fun d w1 os1 Z1 H1 v s1 k1 sl1 r h1 => ?_
  have hB1 : ∀ a, B a → H1 a ≠ none := fun a b => s1.there a (hB a b)
  rw [he] at r
  exact put_step (D := D) hk k1 sl1 hB1 r h1
/-! x[k], y = a, b -/
def putK (j : Nat) (d' : VI.D) : VI.Flow → M VI.Flow := fun fl => match fl with
  | .nx env => ret (.nx (env.set j (.fz d')))
  | _ => stuck
theorem bnd_assoc {α β γ : Type} (m : M α) (f : α → M β) (g : β → M γ) : bnd (bnd m f) g = bnd m fun a => bnd (f a) g := by
  funext w
  unfold VI.bnd
  cases m w <;> rfl
theorem r_putset {i j : Nat} {kk a b : E} (hk : lev kk = 0) (ha : lev a = 0) (hb : lev b = 0) (h : tS P W (exec G (.putset i kk a j b)) D σ H) :
    tAsg (tTup (tCons (tX P W (ev G a .v) (RV P (lev a))) (tCons (tX P W (ev G b .v) (RV P (lev b))) tNil))) (gTup P.K 2 (gCons (gSub (tVar i) (tX P W (ev G kk .v) (RV P (lev kk))) (rPutA P.wo)) (gCons (gName j) gNil))) D σ H := by
  obtain ⟨os, Z, w, env, ad, B, k, sl, hB, h⟩ := h
  refine tX_intro k sl (OutS.expr hB h) fun d w1 os1 Z1 H1 v s1 k1 sl1 r h1 => ?_
  have hB1 : ∀ a, B a → H1 a ≠ none := fun a b => s1.there a (hB a b)
  refine tX_intro k1 sl1 (OutS.expr hB1 h1) fun d' w2 os2 Z2 H2 v' s2 k2 sl2 r' h2 => ?_
  have hB2 : ∀ a, B a → H2 a ≠ none := fun a b => s2.there a (hB1 a b)
  rw [ha] at r
  rw [hb] at r'
  refine ⟨by rw [sizeLine_eq]; simp, fun p hp => ?_⟩
  obtain ⟨k3, s3, hz3, np3⟩ := k2.allocOwn hp (.tup [v, v'])
  have sl3 := sl2.step s3
  have hB3 : ∀ a, B a → upd H2 p (.tup [v, v']) a ≠ none := fun a b => s3.there a (hB2 a b)
  refine ⟨p, [v, v'], rfl, .of upd_same, rfl, v, [v'], rfl, ?_⟩
  have r3 : Rep P os2 Z2 d v := Rep.mono s2.zle s2.ex r
  have h3 : OutS P W B os2 Z2 (upd H2 p (.tup [v, v'])) ((bnd (lft (putOk env i)) fun _ => bnd (ev G kk .v env) fun k => bnd (putM env i k d) (putK j d')) w2) D := OutS.base (s3.sub hB2) h2
  refine put_step (D := D) (N := fun σ' H' => gCons (gName j) gNil [v'] σ' H' D.nx) hk k3 sl3 hB3 r3 ?_
  rw [show (bnd (lft (putOk env i)) fun _ => bnd (ev G kk .v env) fun k => bnd (putM env i k d) (putK j d')) = bnd (bnd (lft (putOk env i)) fun _ => bnd (ev G kk .v env) fun k => putM env i k d) (putK j d') from by
    rw [bnd_assoc]
    congr 1
    funext _
    rw [bnd_assoc]] at h3
  revert h3
  generalize (bnd (lft (putOk env i)) fun _ => bnd (ev G kk .v env) fun k => putM env i k d) = M
  intro h3
  unfold VI.bnd at h3
  cases q : M w2 with
  | no => rw [q] at h3; exact h3
  | exn c f w => rw [q] at h3; exact h3
  | ok fl w =>
    rw [q] at h3
    cases fl with
    | rt d => exact h3.elim
    | bk e => exact h3.elim
    | nx e =>
      intro σ' os' Z' H' ad' st k' sl'
      have r4 : Rep P os' Z' d' v' := Rep.mono st.zle st.ex (Rep.mono s3.zle s3.ex r')
      exact ⟨v', [], rfl, rfl, h3 _ os' Z' H' ad' st k' (sl'.setFz j r4)⟩
/-! name op= e -/
theorem r_aug {i : Nat} {o : Bop} {e : E} (he : lev e = 0) (f : Int → Int → Int) (hf : ∀ a b, (match o with
    | .add => some (a + b)
    | .sub => some (a - b)
    | _ => none) = some (f a b)) (h : tS P W (exec G (.aug i o e)) D σ H) : tAug i (tX P W (ev G e .v) (RV P (lev e))) (ipI f) D σ H := by
  obtain ⟨os, Z, w, env, ad, B, k, sl, hB, h⟩ := h
  obtain ⟨x, e1, h2⟩ := OutS.lft h
  unfold look at e1
  cases q : env[i]? with
  | none => rw [q] at e1; cases e1
  | some s =>
    rw [q] at e1
    cases s <;> first | (cases e1; done) | skip
    cases e1
    obtain ⟨vx, e2, rx⟩ := sl.at_ i _ q
    refine ⟨vx, e2, ?_⟩
    refine tX_intro k sl (OutS.expr hB h2) fun y w1 os1 Z1 H1 v s1 k1 sl1 r h1 => ?_
    rw [he] at r
    have r : Rep P os1 Z1 y v := r
    split at h1
    · unfold Rep at rx r
      have := hf
      rename_i a b _
      have e3 : some (a + b) = some (f a b) := hf a b
      refine ⟨a, b, rx, r, ?_⟩
      rw [← Option.some.inj e3]
      exact h1 _ _ _ _ _ Step.refl k1 (sl1.setFz i (by unfold Rep; rfl))
    · unfold Rep at rx r
      rename_i a b _
      have e3 : some (a - b) = some (f a b) := hf a b
      refine ⟨a, b, rx, r, ?_⟩
      rw [← Option.some.inj e3]
      exact h1 _ _ _ _ _ Step.refl k1 (sl1.setFz i (by unfold Rep; rfl))
    · exact h1.elim
/-! the others -/
theorem r_ex {e : E} (h : tS P W (exec G (.ex e)) D σ H) : tDrop (tX P W (ev G e .v) (RV P (lev e))) D σ H := by
  obtain ⟨os, Z, w, env, ad, B, k, sl, hB, h⟩ := h
  exact tX_intro k sl (OutS.expr hB h) fun d w1 os1 Z1 H1 v s1 k1 sl1 r h1 => h1 _ _ _ _ _ Step.refl k1 sl1
theorem r_retS {e : E} (he : lev e = 0) (h : tS P W (exec G (.ret e)) D σ H) : tRet (tX P W (ev G e .v) (RV P (lev e))) D σ H := by
  obtain ⟨os, Z, w, env, ad, B, k, sl, hB, h⟩ := h
  refine tX_intro k sl (OutS.expr hB h) fun d w1 os1 Z1 H1 v s1 k1 sl1 r h1 => ?_
  rw [he] at r
  exact h1 v _ _ _ Step.refl k1 r
theorem r_retN (h : tS P W (exec G .retN) D σ H) : tRetN D σ H := by
  obtain ⟨os, Z, w, env, ad, B, k, sl, hB, h⟩ := h
  exact h .non _ _ _ Step.refl k (by unfold Rep; rfl)
theorem r_brk (h : tS P W (exec G .brk) D σ H) : tBreak D σ H := by
  obtain ⟨os, Z, w, env, ad, B, k, sl, hB, h⟩ := h
  exact h _ _ _ _ _ Step.refl k sl
theorem r_pass (h : tS P W (exec G .pass) D σ H) : tNext D σ H := by
  obtain ⟨os, Z, w, env, ad, B, k, sl, hB, h⟩ := h
  exact h _ _ _ _ _ Step.refl k sl
theorem r_stk (h : tS P W (exec G .stk) D σ H) : tNever D σ H := by
  obtain ⟨os, Z, w, env, ad, B, k, sl, hB, h⟩ := h
  exact h.elim
theorem r_if {c : E} {a b : Ss} (h : tS P W (exec G (.ite c a b)) D σ H) : tIfS (tX P W (ev G c .t) RB) (tS P W (execs G a)) (tS P W (execs G b)) D σ H := by
  obtain ⟨os, Z, w, env, ad, B, k, sl, hB, h⟩ := h
  refine tX_intro k sl (OutS.expr hB h) fun d w1 os1 Z1 H1 v s1 k1 sl1 r h1 => ?_
  have hB1 : ∀ a, B a → H1 a ≠ none := fun a b => s1.there a (hB a b)
  have r : d = .bl v := r
  subst r
  cases v with
  | true => exact ⟨os1, Z1, w1, env, ad, B, k1, sl1, hB1, h1⟩
  | false => exact ⟨os1, Z1, w1, env, ad, B, k1, sl1, hB1, h1⟩
def seqK (G : Glo) (ss : Ss) : VI.Flow → M VI.Flow := fun fl => match fl with
  | .nx e => execs G ss e
  | .rt d => ret (.rt d)
  | .bk e => ret (.bk e)
theorem r_seqS {s : S} {ss : Ss} (h : tS P W (execs G (.cons s ss)) D σ H) : tSeq (tS P W (exec G s)) (tS P W (execs G ss)) D σ H := by
  obtain ⟨os, Z, w, env, ad, B, k, sl, hB, h⟩ := h
  have h : OutS P W B os Z H (bnd (exec G s env) (seqK G ss) w) D := h
  refine ⟨os, Z, w, env, ad, B, k, sl, hB, ?_⟩
  unfold VI.bnd at h
  cases q : exec G s env w with
  | no => rw [q] at h; exact h
  | exn c f w1 => rw [q] at h; exact h
  | ok fl w1 =>
    rw [q] at h
    cases fl with
    | nx e => exact fun σ' os' Z' H' ad' t k' sl' => ⟨os', Z', w1, e, ad', B, k', sl', fun a b => t.there a (hB a b), OutS.base t h⟩
    | rt d => exact h
    | bk e => exact h
theorem r_nilS (h : tS P W (execs G .nil) D σ H) : tNext D σ H := by
  obtain ⟨os, Z, w, env, ad, B, k, sl, hB, h⟩ := h
  exact h _ _ _ _ _ Step.refl k sl
theorem r_frz {is : List Nat} {ss : Ss} (h : tS P W (execs G (.frz is ss)) D σ H) : tS P W (execs G ss) D σ H := by
  obtain ⟨os, Z, w, env, ad, B, k, sl, hB, h⟩ := h
  obtain ⟨Z', ad', k', s, sl'⟩ := freeze_slots is k sl
  exact ⟨os, Z', w, freezeAll env is, ad', B, k', sl', hB, OutS.base s h⟩
theorem r_frz1 {i : Nat} {ss : Ss} (h : tS P W (execs G (.frz1 i ss)) D σ H) : tS P W (execs G ss) D σ H := by
  obtain ⟨os, Z, w, env, ad, B, k, sl, hB, h⟩ := h
  have h : OutS P W B os Z H ((match env[i]? with
    | some (.ow2 dss) => execs G ss (env.set i (.ow (dss.map .lst)))
    | _ => stuck) w) D := h
  cases q : env[i]? with
  | none => rw [q] at h; exact h.elim
  | some s =>
    rw [q] at h
    cases s <;> first | exact h.elim | skip
    obtain ⟨Z', ad', k', s, sl'⟩ := freeze_inner k sl q
    exact ⟨os, Z', w, _, ad', B, k', sl', hB, OutS.base s h⟩
/-! loops -/
def loopK (next : Env → M VI.Flow) : VI.Flow → M VI.Flow := fun fl => match fl with
  | .nx e => next e
  | .bk e => ret (.nx e)
  | .rt d => ret (.rt d)
/-- one turn's body, then the rest -/
theorem OutS.turn {m : M VI.Flow} {next : Env → M VI.Flow} {N : Stt → Hp → Prop} (h : OutS P W B os Z H (bnd m (loopK next) w) D)
    (hN : ∀ e w1 σ' os' Z' H' ad', Step B os Z H os' Z' H' → Ok P os' w1 Z' H' → Slots P B e σ' ad' os' Z' H' → OutS P W B os' Z' H' (next e w1) D → N σ' H') : OutS P W B os Z H (m w) { D with nx := N, ct := N, bk := D.nx } := by
  unfold VI.bnd at h
  cases q : m w with
  | no => rw [q] at h; exact h
  | exn c f w1 => rw [q] at h; exact h
  | ok fl w1 =>
    rw [q] at h
    cases fl with
    | nx e => exact fun σ' os' Z' H' ad' t k' sl' => hN e w1 σ' os' Z' H' ad' t k' sl' (OutS.base t h)
    | rt d => exact h
    | bk e => exact h
theorem r_for {p : Pat} {it : It} {b : Ss} (h : tS P W (exec G (.for_ p it b)) D σ H) : tFor (tX P W (evI G it) (RI P)) (tP P p) (tS P W (execs G b)) D σ H := by
  obtain ⟨os, Z, w, env, ad, B, k, sl, hB, h⟩ := h
  refine tX_intro k sl (OutS.expr hB h) fun xs w1 os1 Z1 H1 J s1 k1 sl1 rJ h1 => ?_
  have hB1 : ∀ a, B a → H1 a ≠ none := fun a b => s1.there a (hB a b)
  obtain ⟨Gp, Y, wk, hG, hY⟩ := rJ
  refine for_it wk (fun i σ' H' => ∃ osx Zx wx envx adx, Ok P osx wx Zx H' ∧ Slots P B envx σ' adx osx Zx H' ∧ Step B os1 Z1 H1 osx Zx H' ∧ OutS P W B osx Zx H' (forL p (execs G b) (xs.drop i) envx wx) D)
    ⟨os1, Z1, w1, env, ad, k1, sl1, Step.refl, h1⟩ ?_ ?_ ?_
  · rintro i σ' H' hi ⟨osx, Zx, wx, envx, adx, kx, slx, sx, _⟩
    exact hG osx wx Zx H' sx.zle sx.ex kx
  · rintro i x σ' Hi H' hi ⟨osx, Zx, wx, envx, adx, kx, slx, sx, hx⟩ y
    have hd : xs[i]? = some xs[i] := List.getElem?_eq_getElem hi
    obtain ⟨Z2, st2, k2, r2⟩ := hY i x Hi H' osx wx Zx sx.zle sx.ex kx y _ hd
    have hBx : ∀ a, B a → Hi a ≠ none := fun a b => sx.there a (hB1 a b)
    have st2B : Step B osx Zx Hi osx Z2 H' := st2.sub hBx
    rw [List.drop_eq_getElem_cons hi] at hx
    have hx : OutS P W B osx Zx Hi (bnd (lft (bindP p xs[i] envx)) (fun env' => bnd (execs G b env') (loopK (forL p (execs G b) (xs.drop (i + 1))))) wx) D := by
      have e : forL p (execs G b) (xs[i] :: xs.drop (i + 1)) envx = bnd (lft (bindP p xs[i] envx)) (fun env' => bnd (execs G b env') (loopK (forL p (execs G b) (xs.drop (i + 1))))) := by
        show bnd _ _ = bnd _ _
        congr 1
      rw [e] at hx
      exact hx
    obtain ⟨env', e1, hx2⟩ := OutS.lft hx
    refine ⟨osx, Z2, wx, envx, adx, B, xs[i], env', k2, slx.step st2, r2, e1, fun σ2 _ sl2 => ?_⟩
    refine ⟨osx, Z2, wx, env', adx, B, k2, sl2, fun a b => st2.there a (hBx a b), ?_⟩
    refine (OutS.base st2B hx2).turn fun e w3 σ3 os3 Z3 H3 ad3 st3 k3 sl3 hn => ?_
    exact ⟨os3, Z3, w3, e, ad3, k3, sl3, (sx.trans st2B).trans st3, hn⟩
  · rintro σ' H' ⟨osx, Zx, wx, envx, adx, kx, slx, sx, hx⟩
    rw [List.drop_length] at hx
    exact hx _ _ _ _ _ Step.refl kx slx
theorem loop_it {p : Pat} {b : Ss} {J : L2.It} {xs : List VI.D} {Gp : Hp → Prop} {Y : Nat → Hp → V → Hp → Prop} (wk : Walk J xs.length Gp Y) (k : Ok P os w Z H) (sl : Slots P B env σ ad os Z H) (hB : ∀ a, B a → H a ≠ none)
    (hG : ∀ osx wx Zx Hx, Step B os Z H osx Zx Hx → Ok P osx wx Zx Hx → Gp Hx)
    (hY : ∀ i x Hi H' osx wx Zx, Step B os Z H osx Zx Hi → Ok P osx wx Zx Hi → Y i Hi x H' → ∀ d, xs[i]? = some d → ∃ Z'', Step (Ex Hi) osx Zx Hi osx Z'' H' ∧ Ok P osx wx Z'' H' ∧ Rep P osx Z'' d x)
    (h : OutS P W B os Z H (forL p (execs G b) xs env w) D) :
    ∃ W1 : Nat → Nat → Stt → Hp → Prop, (∃ m, W1 0 m σ H) ∧ ∀ i m σ H, W1 i m σ H → (J.stop i H ∧ D.nx σ H) ∨ (J.go i H ∧ ∃ N : Stt → Hp → Prop, (∀ σ' H', N σ' H' → ∃ m', m' < m ∧ W1 (i + 1) m' σ' H') ∧ ∀ x H', J.yld i H x H' → (tP P p) x σ H' fun σ2 H2 => (tS P W (execs G b)) { D with nx := N, ct := N, bk := D.nx } σ2 H2) := by
  refine for_it wk (fun i σ' H' => ∃ osx Zx wx envx adx, Ok P osx wx Zx H' ∧ Slots P B envx σ' adx osx Zx H' ∧ Step B os Z H osx Zx H' ∧ OutS P W B osx Zx H' (forL p (execs G b) (xs.drop i) envx wx) D)
    ⟨os, Z, w, env, ad, k, sl, Step.refl, h⟩ ?_ ?_ ?_
  · rintro i σ' H' hi ⟨osx, Zx, wx, envx, adx, kx, slx, sx, _⟩
    exact hG osx wx Zx H' sx kx
  · rintro i x σ' Hi H' hi ⟨osx, Zx, wx, envx, adx, kx, slx, sx, hx⟩ y
    have hd : xs[i]? = some xs[i] := List.getElem?_eq_getElem hi
    obtain ⟨Z2, st2, k2, r2⟩ := hY i x Hi H' osx wx Zx sx kx y _ hd
    have hBx : ∀ a, B a → Hi a ≠ none := fun a b => sx.there a (hB a b)
    have st2B : Step B osx Zx Hi osx Z2 H' := st2.sub hBx
    rw [List.drop_eq_getElem_cons hi] at hx
    have hx : OutS P W B osx Zx Hi (bnd (lft (bindP p xs[i] envx)) (fun env' => bnd (execs G b env') (loopK (forL p (execs G b) (xs.drop (i + 1))))) wx) D := by
      have e : forL p (execs G b) (xs[i] :: xs.drop (i + 1)) envx = bnd (lft (bindP p xs[i] envx)) (fun env' => bnd (execs G b env') (loopK (forL p (execs G b) (xs.drop (i + 1))))) := by
        show bnd _ _ = bnd _ _
        congr 1
      rw [e] at hx
      exact hx
    obtain ⟨env', e1, hx2⟩ := OutS.lft hx
    refine ⟨osx, Z2, wx, envx, adx, B, xs[i], env', k2, slx.step st2, r2, e1, fun σ2 _ sl2 => ?_⟩
    refine ⟨osx, Z2, wx, env', adx, B, k2, sl2, fun a b => st2.there a (hBx a b), ?_⟩
    refine (OutS.base st2B hx2).turn fun e w3 σ3 os3 Z3 H3 ad3 st3 k3 sl3 hn => ?_
    exact ⟨os3, Z3, w3, e, ad3, k3, sl3, (sx.trans st2B).trans st3, hn⟩
  · rintro σ' H' ⟨osx, Zx, wx, envx, adx, kx, slx, sx, hx⟩
    rw [List.drop_length] at hx
    exact hx _ _ _ _ _ Step.refl kx slx
theorem loop_D {p : Pat} {b : Ss} {J : L2.It} {xs : List VI.D} (wk : WalkD P J xs os Z) (k : Ok P os w Z H) (sl : Slots P B env σ ad os Z H) (hB : ∀ a, B a → H a ≠ none) (h : OutS P W B os Z H (forL p (execs G b) xs env w) D) :
    ∃ W1 : Nat → Nat → Stt → Hp → Prop, (∃ m, W1 0 m σ H) ∧ ∀ i m σ H, W1 i m σ H → (J.stop i H ∧ D.nx σ H) ∨ (J.go i H ∧ ∃ N : Stt → Hp → Prop, (∀ σ' H', N σ' H' → ∃ m', m' < m ∧ W1 (i + 1) m' σ' H') ∧ ∀ x H', J.yld i H x H' → (tP P p) x σ H' fun σ2 H2 => (tS P W (execs G b)) { D with nx := N, ct := N, bk := D.nx } σ2 H2) := by
  obtain ⟨Gp, Y, wk, hG, hY⟩ := wk
  exact loop_it wk k sl hB (fun osx wx Zx Hx sx kx => hG osx wx Zx Hx sx.zle sx.ex kx) (fun i x Hi H' osx wx Zx sx kx y d e => hY i x Hi H' osx wx Zx sx.zle sx.ex kx y d e) h
theorem r_forb {p : Pat} {i : Nat} {b : Ss} (h : tS P W (exec G (.forb p i b)) D σ H) : tFor (iSeqA P.K (tVar i)) (tP P p) (tS P W (execs G b)) D σ H := by
  obtain ⟨os, Z, w, env, ad, B, k, sl, hB, h⟩ := h
  have h : OutS P W B os Z H (bnd (lft (walkB (env[i]?))) (fun xs => forL p (execs G b) xs env) w) D := h
  obtain ⟨xs, e, h⟩ := OutS.lft h
  cases q : env[i]? with
  | none => rw [q] at e; cases e
  | some s =>
    rw [q] at e
    have q2 := slot_at sl q
    cases s <;> first | (cases e; done) | skip
    case fz d =>
      obtain ⟨v, h3, r⟩ := q2
      cases d <;> first | (cases e; done) | skip
      case tup ds =>
        cases e
        obtain ⟨a, vs, rfl, ha, rr⟩ := Rep.tup r
        exact ⟨_, h3, .inr ⟨a, vs, rfl, .of (k.zh _ _ ha), loop_D (walkD_tup ha rr) k sl hB h⟩⟩
      case lst ds =>
        cases e
        obtain ⟨a, vs, rfl, ha, rr⟩ := Rep.lst r
        exact ⟨_, h3, .inl ⟨a, vs, rfl, .of (k.zh _ _ ha), loop_D (walkD_list ha rr) k sl hB h⟩⟩
    case bo ds =>
      cases e
      obtain ⟨a, vs, h3, na, hBa, hh, rr⟩ := q2
      refine ⟨_, h3, .inl ⟨a, vs, rfl, .of hh, loop_it (Gp := fun H => SqL P.K H a vs) (Y := YAt vs) (by rw [rr.length]; exact walk_list) k sl hB (fun osx wx Zx Hx sx kx => .of (sx.keep a _ hBa hh na nt_lst)) (fun i x Hi H' osx wx Zx sx kx y d e => ?_) h⟩⟩
      obtain ⟨rfl, hx⟩ := y
      obtain ⟨v, h1, h2⟩ := (rr.mono sx.zle sx.ex).get e
      have hx : vs[i]? = some x := hx
      rw [hx] at h1
      cases h1
      exact ⟨Zx, Step.refl, kx, h2⟩
theorem r_while {c : E} {b : Ss} (h : tS P W (exec G (.while_ c b)) D σ H) : tWhile (tX P W (ev G c .t) RB) (tS P W (execs G b)) D σ H := by
  obtain ⟨os, Z, w, env, ad, B, k, sl, hB, h⟩ := h
  refine ⟨fun m σ' H' => ∃ osx Zx wx envx adx, Ok P osx wx Zx H' ∧ Slots P B envx σ' adx osx Zx H' ∧ (∀ a, B a → H' a ≠ none) ∧ OutS P W B osx Zx H' (whileL (ev G c .t) (execs G b) m envx wx) D, ⟨G.fuel, os, Z, w, env, ad, k, sl, hB, h⟩, ?_⟩
  rintro m σ' H' ⟨osx, Zx, wx, envx, adx, kx, slx, hBx, hx⟩
  cases m with
  | zero => exact hx.elim
  | succ m =>
    have e : whileL (ev G c .t) (execs G b) (m + 1) envx = bnd (ev G c .t envx) (fun kk => match kk with
        | .bl true => bnd (execs G b envx) (loopK (whileL (ev G c .t) (execs G b) m))
        | .bl false => ret (.nx envx)
        | _ => stuck) := by
      show bnd _ _ = bnd _ _
      congr 1
    rw [e] at hx
    refine tX_intro kx slx (OutS.expr hBx hx) fun d w1 os1 Z1 H1 v s1 k1 sl1 r h1 => ?_
    have hB1 : ∀ a, B a → H1 a ≠ none := fun a b => s1.there a (hBx a b)
    have r : d = .bl v := r
    subst r
    cases v with
    | false =>
      rw [if_neg Bool.false_ne_true]
      exact h1 _ _ _ _ _ Step.refl k1 sl1
    | true =>
      rw [if_pos rfl]
      refine ⟨fun σ2 H2 => ∃ osy Zy wy envy ady, Ok P osy wy Zy H2 ∧ Slots P B envy σ2 ady osy Zy H2 ∧ (∀ a, B a → H2 a ≠ none) ∧ OutS P W B osy Zy H2 (whileL (ev G c .t) (execs G b) m envy wy) D, fun σ2 H2 h => ⟨m, Nat.lt_succ_self m, h⟩, ?_⟩
      refine ⟨os1, Z1, w1, envx, adx, B, k1, sl1, hB1, ?_⟩
      exact (show OutS P W B os1 Z1 H1 (bnd (execs G b envx) (loopK (whileL (ev G c .t) (execs G b) m)) w1) D from h1).turn fun e w3 σ3 os3 Z3 H3 ad3 st3 k3 sl3 hn => ⟨os3, Z3, w3, e, ad3, k3, sl3, fun a b => st3.there a (hB1 a b), hn⟩
end
end VI

set_option Elab.async false
set_option linter.all false
set_option maxRecDepth 100000
set_option maxHeartbeats 1000000
/-! VI, part 16: several names at once. -/
namespace VI
open PySem L2
def parOk : Nat → VI.D → Bool
  | 0, _ => true
  | 1, .lst _ => true
  | 1, .dct _ => true
  | 2, .lst [] => true
  | _, _ => false
section
variable {P : Pm} {W : WX} {G : Glo} {os os' os1 : List Addr} {Z Z' Z1 H H' H1 H0 : Hp} {w w' : Wd} {env env' : Env} {ad ad' : Nat → List Addr} {B : Addr → Prop} {σ σ' : Stt} {D : Ends} {α : Type}
inductive Tri (P : Pm) (os : List Addr) (Z H : Hp) : List (Nat × Nat) → List VI.D → List V → List Addr → Prop
  | nil : Tri P os Z H [] [] [] []
  | fz {i d v is ds vs own} : Rep P os Z d v → Tri P os Z H is ds vs own → Tri P os Z H ((i, 0) :: is) (d :: ds) (v :: vs) own
  | ow {i xs a us is ds vs own} : H a = some (.lst us) → Reps P os Z xs us → Tri P os Z H is ds vs own → Tri P os Z H ((i, 1) :: is) (.lst xs :: ds) (.ref a :: vs) (a :: own)
  | ow2 {i a is ds vs own} : H a = some (.lst []) → Tri P os Z H is ds vs own → Tri P os Z H ((i, 2) :: is) (.lst [] :: ds) (.ref a :: vs) (a :: own)
  | od {i kvs a is ds vs own} : DctR P os Z H kvs a → Tri P os Z H is ds vs own → Tri P os Z H ((i, 1) :: is) (.dct kvs :: ds) (.ref a :: vs) (a :: own)
  | bad {i b d v is ds vs own} : parOk b d = false → Tri P os Z H is ds vs own → Tri P os Z H ((i, b) :: is) (d :: ds) (v :: vs) own
theorem Tri.step {is ds vs own} (s : Step (Ex H) os Z H os' Z' H') (r : Tri P os Z H is ds vs own) (n : ∀ a ∈ own, a ∉ os) : Tri P os' Z' H' is ds vs own := by
  induction r with
  | nil => exact .nil
  | fz h _ ih => exact .fz (Rep.mono s.zle s.ex h) (ih n)
  | ow h hr _ ih => exact .ow (s.keep _ _ (by show H _ ≠ none; rw [h]; intro z; cases z) h (n _ List.mem_cons_self) nt_lst) (hr.mono s.zle s.ex) (ih fun a ha => n a (List.mem_cons_of_mem _ ha))
  | ow2 h _ ih => exact .ow2 (s.keep _ _ (by show H _ ≠ none; rw [h]; intro z; cases z) h (n _ List.mem_cons_self) nt_lst) (ih fun a ha => n a (List.mem_cons_of_mem _ ha))
  | od h _ ih => exact .od (h.step s.zle s.ex fun o e nt => s.keep _ o h.there e (n _ List.mem_cons_self) nt) (ih fun a ha => n a (List.mem_cons_of_mem _ ha))
  | bad h _ ih => exact .bad h (ih n)
theorem Tri.there {is ds vs own} (r : Tri P os Z H is ds vs own) : ∀ a ∈ own, H a ≠ none := by
  induction r with
  | nil => intro a ha; cases ha
  | fz h _ ih => exact ih
  | ow h hr _ ih =>
    intro a ha
    rcases List.mem_cons.mp ha with rfl | ha
    · rw [h]; intro z; cases z
    · exact ih a ha
  | ow2 h _ ih =>
    intro a ha
    rcases List.mem_cons.mp ha with rfl | ha
    · rw [h]; intro z; cases z
    · exact ih a ha
  | od h _ ih =>
    intro a ha
    rcases List.mem_cons.mp ha with rfl | ha
    · exact h.there
    · exact ih a ha
  | bad h _ ih => exact ih
def RK (P : Pm) (is : List (Nat × Nat)) : List VI.D → List Addr → Hp → Hp → Hp → List V → Prop := fun ds os' Z' H0 H' vs =>
  ∃ own, Tri P os' Z' H' is ds vs own ∧ own.Nodup ∧ ∀ a ∈ own, H0 a = none ∧ a ∉ os' ∧ Z' a = none
theorem pk_nilX {X : Cx} : PA X [] (tX P W (evs G .nil) (RK P [])) := pa_nil.imp fun σ H Q h => by
  obtain ⟨os, Z, w, env, ad, B, k, sl, h⟩ := h
  exact h.ret k [] ⟨[], .nil, .nil, by simp⟩
theorem pk_cons0 {X : Cx} {i : Nat} {is : List (Nat × Nat)} {e : E} {es : Es} {t : Expr} {ts : List Expr} (he : PE X t (tX P W (ev G e .v) (RV P 0))) (hr : PA X ts (tX P W (evs G es) (RK P is))) (hs : notStar t = true) :
    PA X (t :: ts) (tX P W (evs G (.cons e es)) (RK P ((i, 0) :: is))) :=
  (pa_cons he hr (star_of hs)).imp fun σ H Q h => by
    obtain ⟨os, Z, w, env, ad, B, k, sl, h⟩ := h
    have h : Out P W σ os Z H (bnd (ev G e .v env) (fun d => bnd (evs G es env) fun ds => ret (d :: ds)) w) _ := h
    refine tX_intro k sl h.bnd fun d w1 os1 Z1 H1 v s1 k1 sl1 r h1 => ?_
    refine tX_intro k1 sl1 h1.bnd fun ds w2 os2 Z2 H2 vs s2 k2 sl2 rs h2 => ?_
    obtain ⟨own, r1, r2, r3⟩ := rs
    refine h2.ret k2 _ ⟨own, .fz (Rep.mono s2.zle s2.ex r) r1, r2, fun a ha => ?_⟩
    obtain ⟨g1, g2, g3⟩ := r3 a ha
    refine ⟨?_, g2, g3⟩
    cases q : H a with
    | none => rfl
    | some o => exact absurd g1 (s1.there a (by rw [q]; intro z; cases z))
theorem pk_consN {X : Cx} {i b : Nat} {is : List (Nat × Nat)} {e : E} {es : Es} {t : Expr} {ts : List Expr} (hb : b ≠ 0) (he : PE X t (tX P W (ev G e .v) (RN P))) (hr : PA X ts (tX P W (evs G es) (RK P is))) (hs : notStar t = true) :
    PA X (t :: ts) (tX P W (evs G (.cons e es)) (RK P ((i, b) :: is))) :=
  (pa_cons he hr (star_of hs)).imp fun σ H Q h => by
    obtain ⟨os, Z, w, env, ad, B, k, sl, h⟩ := h
    have h : Out P W σ os Z H (bnd (ev G e .v env) (fun d => bnd (evs G es env) fun ds => ret (d :: ds)) w) _ := h
    refine tX_intro k sl h.bnd fun d w1 os1 Z1 H1 v s1 k1 sl1 r h1 => ?_
    refine tX_intro k1 sl1 h1.bnd fun ds w2 os2 Z2 H2 vs s2 k2 sl2 rs h2 => ?_
    obtain ⟨own, r1, r2, r3⟩ := rs
    have up : ∀ a ∈ own, H a = none ∧ a ∉ os2 ∧ Z2 a = none := fun a ha => by
      obtain ⟨g1, g2, g3⟩ := r3 a ha
      refine ⟨?_, g2, g3⟩
      cases q : H a with
      | none => rfl
      | some o => exact absurd g1 (s1.there a (by rw [q]; intro z; cases z))
    by_cases hp : parOk b d = false
    · exact h2.ret k2 _ ⟨own, .bad hp r1, r2, up⟩
    · cases d with
      | lst xs =>
        obtain ⟨a, us, rfl, h0, na, hz, hh, rr⟩ := r
        have h1n : H1 a ≠ none := by rw [hh]; intro z; cases z
        have hh2 : H2 a = some (.lst us) := s2.keep a _ h1n hh na nt_lst
        have hz2 : Z2 a = none := s2.zkeep a h1n hz
        have na2 : a ∉ os2 := s2.nin h1n na
        have nd : (a :: own).Nodup := List.nodup_cons.mpr ⟨fun z => h1n (r3 a z).1, r2⟩
        have up2 : ∀ c ∈ a :: own, H c = none ∧ c ∉ os2 ∧ Z2 c = none := fun c hc => by
          rcases List.mem_cons.mp hc with rfl | hc
          · exact ⟨h0, na2, hz2⟩
          · exact up c hc
        match b, hb, hp with
        | 1, _, _ => exact h2.ret k2 _ ⟨a :: own, .ow hh2 (rr.mono s2.zle s2.ex) r1, nd, up2⟩
        | 2, _, hp =>
          cases xs with
          | nil =>
            unfold Reps at rr
            subst rr
            exact h2.ret k2 _ ⟨a :: own, .ow2 hh2 r1, nd, up2⟩
          | cons _ _ => exact absurd rfl hp
        | n + 3, _, hp => exact absurd rfl hp
      | dct kvs =>
        obtain ⟨a, rfl, h0, na, hz, rr⟩ := r
        have h1n : H1 a ≠ none := rr.there
        have hz2 : Z2 a = none := s2.zkeep a h1n hz
        have na2 : a ∉ os2 := s2.nin h1n na
        have nd : (a :: own).Nodup := List.nodup_cons.mpr ⟨fun z => h1n (r3 a z).1, r2⟩
        have up2 : ∀ c ∈ a :: own, H c = none ∧ c ∉ os2 ∧ Z2 c = none := fun c hc => by
          rcases List.mem_cons.mp hc with rfl | hc
          · exact ⟨h0, na2, hz2⟩
          · exact up c hc
        have rr2 := rr.step s2.zle s2.ex fun o e nt => s2.keep a o h1n e na nt
        match b, hb, hp with
        | 1, _, _ => exact h2.ret k2 _ ⟨a :: own, .od rr2 r1, nd, up2⟩
        | 2, _, hp => exact absurd rfl hp
        | n + 3, _, hp => exact absurd rfl hp
      | _ =>
        match b, hb, hp with
        | 1, _, hp => exact absurd rfl hp
        | 2, _, hp => exact absurd rfl hp
        | n + 3, _, hp => exact absurd rfl hp
theorem parL_bad {i b : Nat} {d : VI.D} {is : List (Nat × Nat)} {ds : List VI.D} (h : parOk b d = false) : parL env ((i, b) :: is) (d :: ds) = none := by
  unfold parL
  match b, d, h with
  | 1, .non, _ => rfl
  | 1, .bl _, _ => rfl
  | 1, .int _, _ => rfl
  | 1, .str _, _ => rfl
  | 1, .tup _, _ => rfl
  | 1, .fn _, _ => rfl
  | 1, .obj _, _ => rfl
  | 1, .scr _, _ => rfl
  | 2, .non, _ => rfl
  | 2, .bl _, _ => rfl
  | 2, .int _, _ => rfl
  | 2, .str _, _ => rfl
  | 2, .tup _, _ => rfl
  | 2, .lst (_ :: _), _ => rfl
  | 2, .dct _, _ => rfl
  | 2, .fn _, _ => rfl
  | 2, .obj _, _ => rfl
  | 2, .scr _, _ => rfl
  | n + 3, _, _ => rfl
theorem r_pars {is : List (Nat × Nat)} {ds : List VI.D} {vs : List V} {own : List Addr} (r : Tri P os Z H is ds vs own) : ∀ {env env' : Env} {σ : Stt} {ad : Nat → List Addr} {Q : Stt → Hp → Prop}, Slots P B env σ ad os Z H →
    own.Nodup → (∀ a ∈ own, a ∉ os ∧ Z a = none ∧ ¬ B a ∧ ∀ j, a ∉ ad j) → parL env is ds = some env' → (∀ σ' ad', Slots P B env' σ' ad' os Z H → Q σ' H) → gList (is.map (·.1)) vs σ H Q := by
  induction r with
  | nil =>
    intro env env' σ ad Q sl nd ho e h
    cases e
    exact ⟨rfl, h σ ad sl⟩
  | fz hr t ih =>
    intro env env' σ ad Q sl nd ho e h
    refine ⟨_, _, rfl, ?_⟩
    exact ih (sl.setFz _ hr) nd ho e h
  | ow hh hr t ih =>
    rename_i i xs a us is ds vs own
    intro env env' σ ad Q sl nd ho e h
    refine ⟨_, _, rfl, ?_⟩
    obtain ⟨g1, g2, g3, g4⟩ := ho a List.mem_cons_self
    have nd2 := List.nodup_cons.mp nd
    refine ih (sl.give (as := [a]) (s := .ow xs) i ⟨a, us, rfl, rfl, hh, hr⟩ (fun b hb => ?_) (by simp) fun b hb j hj z => ?_) nd2.2 (fun c hc => ?_) e h
    · rcases List.mem_singleton.mp hb with rfl
      exact ⟨g1, g2, by rw [hh]; (intro z; cases z), g3⟩
    · rcases List.mem_singleton.mp hb with rfl
      exact g4 j z
    · obtain ⟨f1, f2, f3, f4⟩ := ho c (List.mem_cons_of_mem _ hc)
      refine ⟨f1, f2, f3, fun j => ?_⟩
      by_cases hj : j = i
      · rw [if_pos hj]
        intro z
        exact nd2.1 (List.mem_singleton.mp z ▸ hc)
      · rw [if_neg hj]; exact f4 j
  | ow2 hh t ih =>
    rename_i i a is ds vs own
    intro env env' σ ad Q sl nd ho e h
    refine ⟨_, _, rfl, ?_⟩
    obtain ⟨g1, g2, g3, g4⟩ := ho a List.mem_cons_self
    have nd2 := List.nodup_cons.mp nd
    refine ih (sl.give (as := [a]) (s := .ow2 []) i ⟨a, [], rfl, rfl, hh, .nil⟩ (fun b hb => ?_) (by simp) fun b hb j hj z => ?_) nd2.2 (fun c hc => ?_) e h
    · rcases List.mem_singleton.mp hb with rfl
      exact ⟨g1, g2, by rw [hh]; (intro z; cases z), g3⟩
    · rcases List.mem_singleton.mp hb with rfl
      exact g4 j z
    · obtain ⟨f1, f2, f3, f4⟩ := ho c (List.mem_cons_of_mem _ hc)
      refine ⟨f1, f2, f3, fun j => ?_⟩
      by_cases hj : j = i
      · rw [if_pos hj]
        intro z
        exact nd2.1 (List.mem_singleton.mp z ▸ hc)
      · rw [if_neg hj]; exact f4 j
  | od hr t ih =>
    rename_i i kvs a is ds vs own
    intro env env' σ ad Q sl nd ho e h
    refine ⟨_, _, rfl, ?_⟩
    obtain ⟨g1, g2, g3, g4⟩ := ho a List.mem_cons_self
    have nd2 := List.nodup_cons.mp nd
    refine ih (sl.give (as := [a]) (s := .od kvs) i ⟨a, rfl, rfl, hr⟩ (fun b hb => ?_) (by simp) fun b hb j hj z => ?_) nd2.2 (fun c hc => ?_) e h
    · rcases List.mem_singleton.mp hb with rfl
      exact ⟨g1, g2, hr.there, g3⟩
    · rcases List.mem_singleton.mp hb with rfl
      exact g4 j z
    · obtain ⟨f1, f2, f3, f4⟩ := ho c (List.mem_cons_of_mem _ hc)
      refine ⟨f1, f2, f3, fun j => ?_⟩
      by_cases hj : j = i
      · rw [if_pos hj]
        intro z
        exact nd2.1 (List.mem_singleton.mp z ▸ hc)
      · rw [if_neg hj]; exact f4 j
  | bad hb t ih =>
    intro env env' σ ad Q sl nd ho e h
    rw [parL_bad hb] at e
    cases e
/-- what comes of it at the names -/
theorem r_par {is : List (Nat × Nat)} {es : Es} (h : tS P W (exec G (.par is es)) D σ H) : tX P W (evs G es) (RK P is) σ H fun vs H1 => gList (is.map (·.1)) vs σ H1 D.nx := by
  obtain ⟨os, Z, w, env, ad, B, k, sl, hB, h⟩ := h
  refine tX_intro k sl (OutS.expr hB h) fun ds w1 os1 Z1 H1 vs s1 k1 sl1 r h1 => ?_
  obtain ⟨env', e, h2⟩ := OutS.lft h1
  obtain ⟨own, r1, r2, r3⟩ := r
  refine r_pars r1 sl1 r2 (fun a ha => ?_) e fun σ' ad' sl' => h2 σ' os1 Z1 H1 ad' Step.refl k1 sl'
  obtain ⟨g1, g2, g3⟩ := r3 a ha
  exact ⟨g2, g3, fun z => hB a z g1, fun j z => (sl.own j a z).2.2.1 g1⟩
theorem Tri.len {is ds vs own} (r : Tri P os Z H is ds vs own) : vs.length = is.length := by
  induction r with
  | nil => rfl
  | fz _ _ ih => simp [ih]
  | ow _ _ _ ih => simp [ih]
  | ow2 _ _ ih => simp [ih]
  | od _ _ ih => simp [ih]
  | bad _ _ ih => simp [ih]
/-- .. where a tuple comes in between -/
theorem r_parT {is : List (Nat × Nat)} {es : Es} (hl : is.length ≤ 10) (h : tS P W (exec G (.par is es)) D σ H) :
    tAsg (tTup (tX P W (evs G es) (RK P is))) (gTup P.K is.length (gList (is.map (·.1)))) D σ H := by
  obtain ⟨os, Z, w, env, ad, B, k, sl, hB, h⟩ := h
  refine tX_intro k sl (OutS.expr hB h) fun ds w1 os1 Z1 H1 vs s1 k1 sl1 r h1 => ?_
  obtain ⟨env', e, h2⟩ := OutS.lft h1
  obtain ⟨own, r1, r2, r3⟩ := r
  refine ⟨by rw [r1.len, sizeLine_eq]; omega, fun p hp => ?_⟩
  obtain ⟨k2, st, hz, np⟩ := k1.allocOwn hp (.tup vs)
  have hB1 : ∀ a, B a → H1 a ≠ none := fun a b => s1.there a (hB a b)
  refine ⟨p, vs, rfl, .of upd_same, r1.len, ?_⟩
  refine r_pars (r1.step st fun a ha => (r3 a ha).2.1) (sl1.step st) r2 (fun a ha => ?_) e fun σ' ad' sl' => h2 σ' os1 Z1 _ ad' (st.sub hB1) k2 sl'
  obtain ⟨g1, g2, g3⟩ := r3 a ha
  exact ⟨g2, g3, fun z => hB a z g1, fun j z => (sl.own j a z).2.2.1 g1⟩
/-! the order of the stores -/
def swBlk (e : PySem.Env) (sc : Scope) : Prop := e.scope = sc ∧ e.blockKind = .function
def isStar : Expr → Bool
  | .Starred .. => true
  | _ => false
def swNames (sc : Scope) (ts vs : List Expr) : Option (Option (List Str)) :=
  if (!(ts.length == 2 || ts.length == 3) || vs.length != ts.length) = true then some none
  else if (vs.any fun | .Starred .. => true | _ => false) = true then some none
  else
    let line := (ts.head?.map (·.pos.line)).getD 0
    let names := ts.filterMap fun
      | .Name id pos => if sc.names.lookup id == some .local && pos.line == line then some id else none
      | _ => none
    if (names.length != ts.length || names.eraseDups.length != names.length) = true then some none
    else if vs.all (foldedForSure 8) = true then some none
    else if vs.all (constantsAlone 8) = true then none
    else some (some names)
theorem sw_eq {ts vs : List Expr} {k k2 : Nat} {p p2 : Pos} {e : PySem.Env} {sc : Scope} {r : Option (List Str)} (hs : e.scope = sc) (hb : e.blockKind = .function) (h : swNames sc ts vs = some r) :
    swappedStores [.Tuple ts k p] (.Tuple vs k2 p2) e = pure r := by
  unfold swNames at h
  unfold swappedStores
  simp only [hb, PySem.Env.kindOf, hs]
  split at h
  · rename_i c
    cases h
    have c' : (!(ts.length == 2 || ts.length == 3) || vs.length != ts.length || ScopeKind.function != ScopeKind.function) = true := by rw [c]; rfl
    simp only [c', if_true]
    try rfl
  · rename_i c
    have c' : ¬ (!(ts.length == 2 || ts.length == 3) || vs.length != ts.length || ScopeKind.function != ScopeKind.function) = true := by
      intro z
      rw [Bool.or_eq_true] at z
      rcases z with z | z
      · exact c z
      · exact absurd z (by decide)
    simp only [if_neg c']
    split at h
    · rename_i c2
      cases h
      exact (if_pos c2).trans rfl
    · rename_i c2
      refine (if_neg c2).trans ?_
      simp only at h ⊢
      split at h
      · rename_i c3
        cases h
        exact (if_pos c3).trans rfl
      · rename_i c3
        refine (if_neg c3).trans ?_
        split at h
        · rename_i c4
          cases h
          exact (if_pos c4).trans rfl
        · rename_i c4
          refine (if_neg c4).trans ?_
          split at h
          · cases h
          · rename_i c5
            refine (if_neg c5).trans ?_
            cases h
            rfl
end
end VI

set_option Elab.async false
set_option linter.all false
set_option maxRecDepth 100000
set_option maxHeartbeats 4000000
/-! VI, part 17: every statement. -/
namespace VI
open PySem L2
def asgN : Stmt → Option (Str × Pos × Expr × Pos)
  | .Assign [.Name x p] e q => some (x, p, e, q)
  | _ => none
theorem asgN_eq {t : Stmt} {r} (h : asgN t = some r) : t = .Assign [.Name r.1 r.2.1] r.2.2.1 r.2.2.2 := by unfold asgN at h; split at h <;> cases h; rfl
def asgT : Stmt → Option (List Expr × Nat × Pos × Expr × Pos)
  | .Assign [.Tuple ts k p] e q => some (ts, k, p, e, q)
  | _ => none
theorem asgT_eq {t : Stmt} {r} (h : asgT t = some r) : t = .Assign [.Tuple r.1 r.2.1 r.2.2.1] r.2.2.2.1 r.2.2.2.2 := by unfold asgT at h; split at h <;> cases h; rfl
def asgS : Stmt → Option (Expr × Expr × Pos × Expr × Pos)
  | .Assign [.Subscript o i p] e q => some (o, i, p, e, q)
  | _ => none
theorem asgS_eq {t : Stmt} {r} (h : asgS t = some r) : t = .Assign [.Subscript r.1 r.2.1 r.2.2.1] r.2.2.2.1 r.2.2.2.2 := by unfold asgS at h; split at h <;> cases h; rfl
def asgF : Stmt → Option (Expr × Str × Pos × Expr × Pos)
  | .Assign [.Attribute o f p] e q => some (o, f, p, e, q)
  | _ => none
theorem asgF_eq {t : Stmt} {r} (h : asgF t = some r) : t = .Assign [.Attribute r.1 r.2.1 r.2.2.1] r.2.2.2.1 r.2.2.2.2 := by unfold asgF at h; split at h <;> cases h; rfl
def asAugF : Stmt → Option (Expr × Str × Pos × Operator × Expr × Pos)
  | .AugAssign (.Attribute o f p) op e q => some (o, f, p, op, e, q)
  | _ => none
theorem asAugF_eq {t : Stmt} {r} (h : asAugF t = some r) : t = .AugAssign (.Attribute r.1 r.2.1 r.2.2.1) r.2.2.2.1 r.2.2.2.2.1 r.2.2.2.2.2 := by unfold asAugF at h; split at h <;> cases h; rfl
def asAug : Stmt → Option (Str × Pos × Operator × Expr × Pos)
  | .AugAssign (.Name x p) o e q => some (x, p, o, e, q)
  | _ => none
theorem asAug_eq {t : Stmt} {r} (h : asAug t = some r) : t = .AugAssign (.Name r.1 r.2.1) r.2.2.1 r.2.2.2.1 r.2.2.2.2 := by unfold asAug at h; split at h <;> cases h; rfl
def asExp : Stmt → Option (Expr × Pos)
  | .Expr e q => some (e, q)
  | _ => none
theorem asExp_eq {t : Stmt} {r} (h : asExp t = some r) : t = .Expr r.1 r.2 := by unfold asExp at h; split at h <;> cases h; rfl
def asIfS : Stmt → Option (Expr × List Stmt × List Stmt × Pos)
  | .If c a b q => some (c, a, b, q)
  | _ => none
theorem asIfS_eq {t : Stmt} {r} (h : asIfS t = some r) : t = .If r.1 r.2.1 r.2.2.1 r.2.2.2 := by unfold asIfS at h; split at h <;> cases h; rfl
def asFor : Stmt → Option (Expr × Expr × List Stmt × Pos)
  | .For tg it b [] q => some (tg, it, b, q)
  | _ => none
theorem asFor_eq {t : Stmt} {r} (h : asFor t = some r) : t = .For r.1 r.2.1 r.2.2.1 [] r.2.2.2 := by unfold asFor at h; split at h <;> cases h; rfl
def asWhile : Stmt → Option (Expr × List Stmt × Pos)
  | .While c b [] q => some (c, b, q)
  | _ => none
theorem asWhile_eq {t : Stmt} {r} (h : asWhile t = some r) : t = .While r.1 r.2.1 [] r.2.2 := by unfold asWhile at h; split at h <;> cases h; rfl
def asRet : Stmt → Option (Option Expr × Pos)
  | .Return e q => some (e, q)
  | _ => none
theorem asRet_eq {t : Stmt} {r} (h : asRet t = some r) : t = .Return r.1 r.2 := by unfold asRet at h; split at h <;> cases h; rfl
def isBrk : Stmt → Bool
  | .Break _ => true
  | _ => false
def isPass : Stmt → Bool
  | .Pass _ => true
  | .Expr (.Constant (.str _) _ _) _ => true
  | _ => false
def noComp : Expr → Bool
  | .ListComp _ _ _ _ => false
  | .SetComp _ _ _ _ => false
  | .DictComp _ _ _ _ _ => false
  | _ => true
def isComp : E → Bool
  | .comp _ _ _ _ => true
  | _ => false
def allLocal (sc : Scope) (xs : List Str) : Bool := xs.all fun x => decide (sc.names.lookup x = some .local)
/-- a, b = .. : which way the stores go -/
def parB (c : Ck) (sc : Scope) (is : List Nat) (ts vs : List Expr) : Bool := match swNames sc ts vs with
  | some none => patBL c sc is ts && decide (is.length ≤ 10)
  | some (some xs) => (match is, ts with
    | [i, j], [.Name x _, .Name y _] => decide (xs = [x, y]) && (allLocal sc [x, y] && (decide (i ≠ j) && (decide (c.N[i]? = some x) && decide (c.N[j]? = some y))))
    | [i, j, l], [.Name x _, .Name y _, .Name z _] => decide (xs = [x, y, z]) && (allLocal sc [x, y, z] && (decide (i ≠ j) && (decide (i ≠ l) && (decide (j ≠ l) && (decide (c.N[i]? = some x) && (decide (c.N[j]? = some y) && decide (c.N[l]? = some z)))))))
    | _, _ => false)
  | none => false
def parE (c : Ck) (sc : Scope) : List (Nat × Nat) → Es → List Expr → Bool
  | [], .nil, [] => true
  | (_, 0) :: is, .cons e es, x :: xs => chkE c sc e x && (decide (lev e = 0) && parE c sc is es xs)
  | (_, _ + 1) :: is, .cons e es, x :: xs => chkE c sc e x && (fresh e && parE c sc is es xs)
  | _, _, _ => false
def asRai : Stmt → Option (Str × Pos × List Expr × Pos × Pos)
  | .Raise (some (.Call (.Name x p) args [] pos)) none q => some (x, p, args, pos, q)
  | _ => none
theorem asRai_eq {t : Stmt} {r} (h : asRai t = some r) : t = .Raise (some (.Call (.Name r.1 r.2.1) r.2.2.1 [] r.2.2.2.1)) none r.2.2.2.2 := by unfold asRai at h; split at h <;> cases h; rfl
def asTry : Stmt → Option (Stmt × Str × Pos × Str × Stmt × Pos × Pos)
  | .Try [b] [.ExceptHandler (some (.Name x p)) (some n) [s] q] [] [] q' => some (b, x, p, n, s, q, q')
  | _ => none
theorem asTry_eq {t : Stmt} {r} (h : asTry t = some r) : t = .Try [r.1] [.ExceptHandler (some (.Name r.2.1 r.2.2.1)) (some r.2.2.2.1) [r.2.2.2.2.1] r.2.2.2.2.2.1] [] [] r.2.2.2.2.2.2 := by unfold asTry at h; split at h <;> cases h; rfl
def isName (n : Str) (t : Expr) : Bool := match asName t with
  | some (z, _) => decide (z = n)
  | none => false
def chkIs (c : Ck) (sc : Scope) (n : Str) (k : Nat) (t : Expr) : Bool := match asCall t with
  | some (f, _, x, [y], _) => decide (f = Str.ofString "isinstance") && (glB sc f && (isName n x && (match asName y with
    | some (z, _) => glB sc z && (!dbg z && (match c.ers.lookup z with
      | some (k', _) => decide (k' = k)
      | none => false))
    | none => false)))
  | _ => false
/-- len(f(..)) > k within a suite, f one of the defs that may be called there -/
def chkBig (c : Ck) (sc : Scope) : E → Expr → Bool
  | .cmp .gt (.blt .len (.call f es)) (.int k), t => (match asCmp1 t with
    | some (l, op, r, _) => decide (op = opC .gt) && (chkE c sc (.int k) r && (match asCall l with
      | some (x, _, y, [], _) => decide (x = Str.ofString (blId .len)) && (glB sc x && (match asCall y with
        | some (z, _, a, as, _) => decide (codeOf z = f) && (glB sc z && (!dbg z && (match c.hdefs.lookup z with
          | some bw => chkB c sc bw es (a :: as)
          | none => false)))
        | none => false))
      | _ => false))
    | none => false)
  | _, _ => false
def chkIsL (c : Ck) (sc : Scope) (n : Str) : List Nat → List Expr → Bool
  | [], [] => true
  | k :: ks, x :: xs => chkIs c sc n k x && chkIsL c sc n ks xs
  | _, _ => false
/-- an except suite's expression against its tree: n the error's name -/
def chkX (c : Ck) (sc : Scope) (n : Str) : Xe → Expr → Bool
  | .isx k, t => chkIs c sc n k t
  | .fld ks f, t => (match asAttr t with
    | some (x, y, _) => decide (y = f) && (isName n x && ks.all fun k => c.ers.any fun p => decide (p.2 = (k, some f)))
    | none => false)
  | .lit e, t => (chkE { c with hot := true } sc e t && decide (lev e = 0)) || chkBig { c with hot := true } sc e t
  | .and a b, t => (match asBool t with
    | some (.And, x, y, rest, pos) => chkX c sc n a x && (match rest with
      | [] => chkX c sc n b y
      | _ :: _ => chkX c sc n b (.BoolOp .And (y :: rest) pos))
    | _ => false)
  | .eq a b, t => (match asCmp1 t with
    | some (x, op, y, _) => decide (op = .Eq) && (chkX c sc n a x && (chkX c sc n b y && notSet y))
    | none => false)
  | .ite k a b, t => (match asIf t with
    | some (z, x, y, _) => chkIs c sc n k z && (chkX c sc n a x && chkX c sc n b y)
    | none => false)
  | .stk, _ => true
  | .isl ks, t => (match asLst t with
    | some (xs, _) => chkIsL c sc n ks xs && decide (ks.length ≤ 20)
    | none => false)
  | .vadd i x, t => (match asBin t with
    | some (a, op, b, _) => decide (op = .Add) && ((match asName a with
      | some (y, _) => nameB c sc i y
      | none => false) && chkX c sc n x b)
    | none => false)
  | .itl e a b, t => (match asIf t with
    | some (z, x, y, _) => chkE { c with hot := true } sc e z && (chkX c sc n a x && chkX c sc n b y)
    | none => false)
  | .tup2 a b, t => (match asTup t with
    | some ([x, y], _, _) => chkX c sc n a x && (chkX c sc n b y && (notStar x && notStar y))
    | _ => false)
def chkXs (c : Ck) (sc : Scope) (n : Str) (j : Nat) : Xs → Stmt → Bool
  | .set i x, t => (match asgN t with
    | some (y, _, v, _) => decide (c.N[i]? = some y) && (locB sc y && (chkX c sc n x v && (noComp v && decide (i ≠ j))))
    | none => false)
  | .ret x, t => (match asRet t with
    | some (some v, _) => chkX c sc n x v
    | _ => false)
mutual
def chkS (c : Ck) (sc : Scope) : S → Stmt → Bool
  | .set i e, t => (match asgN t with
    | some (x, _, v, _) => decide (c.N[i]? = some x) && (locB sc x && (chkE c sc e v && (decide (lev e = 0) && (noComp v || isComp e))))
    | none => false)
  | .own i e, t => (match asgN t with
    | some (x, _, v, _) => decide (c.N[i]? = some x) && (locB sc x && (chkE c sc e v && (fresh e && (noComp v || isComp e))))
    | none => false)
  | .own2 i, t => (match asgN t with
    | some (x, _, v, _) => decide (c.N[i]? = some x) && (locB sc x && (match asLst v with
      | some ([], _) => true
      | _ => false))
    | none => false)
  | .own2n i k a, t => (match asgN t with
    | some (x, _, v, _) => decide (c.N[i]? = some x) && (locB sc x && (match asComp v with
      | some (elt, tg, iter, [], scope, _) => (!c.hot) && (chkI c sc (.rng1 a) iter tg && (patB c scope (.one k) tg && (blkC c.N sc scope (ownOf c (.one k)) && (notSet iter && (match asLst elt with
        | some ([], _) => true
        | _ => false)))))
      | _ => false))
    | none => false)
  | .newo i es, t => (match asgN t with
    | some (x, _, v, _) => decide (c.N[i]? = some x) && (locB sc x && (match asLst v with
      | some (xs, _) => chkEs c sc es xs
      | _ => false))
    | none => false)
  | .unp is e, t => (match asgT t with
    | some (ts, _, _, v, _) => patBL c sc is ts && (chkE c sc e v && (decide (lev e = 0) && decide (asTup v = none)))
    | none => false)
  | .par is es, t => (match asgT t with
    | some (ts, _, _, v, _) => (match asTup v with
      | some (vs, _, _) => parB c sc (is.map (·.1)) ts vs && parE c sc is es vs
      | none => false)
    | none => false)
  | .putset i k a j b, t => (match asgT t with
    | some ([o2, y], _, _, v, _) => (match asSub o2 with
      | some (o, u, _) => (match asTup v with
        | some ([x1, x2], _, _) => (match asName o with
          | some (x, _) => nameB c sc i x
          | none => false) && (chkE c sc k u && (decide (lev k = 0) && (chkE c sc a x1 && (decide (lev a = 0) && (chkE c sc b x2 && (decide (lev b = 0) && (patB1 c sc j y && decide (swNames sc [o2, y] [x1, x2] = some none))))))))
        | _ => false)
      | none => false)
    | _ => false)
  | .app i e, t => (match asExp t with
    | some (v, _) => (match asMeth v with
      | some (o, m, apos, y, [], pos) => methB o m "append" apos pos 1 && ((match asName o with
        | some (x, _) => nameB c sc i x
        | none => false) && (chkE c sc e y && decide (lev e = 0)))
      | _ => false)
    | none => false)
  | .app2 i, t => (match asExp t with
    | some (v, _) => (match asMeth v with
      | some (o, m, apos, y, [], pos) => methB o m "append" apos pos 1 && ((match asName o with
        | some (x, _) => nameB c sc i x
        | none => false) && (match asLst y with
          | some ([], _) => true
          | _ => false))
      | _ => false)
    | none => false)
  | .appi i j e, t => (match asExp t with
    | some (v, _) => (match asMeth v with
      | some (o, m, apos, y, [], pos) => methB o m "append" apos pos 1 && ((match asSub o with
        | some (z, u, _) => (match asName z with
          | some (x, _) => nameB c sc i x
          | none => false) && (chkE c sc j u && decide (lev j = 0))
        | none => false) && (chkE c sc e y && decide (lev e = 0)))
      | _ => false)
    | none => false)
  | .put i k e, t => (match asgS t with
    | some (o, u, _, v, _) => (match asName o with
      | some (x, _) => nameB c sc i x
      | none => false) && (chkE c sc k u && (decide (lev k = 0) && (chkE c sc e v && decide (lev e = 0))))
    | none => false)
  | .aug i o e, t => (match asAug t with
    | some (x, _, op, v, _) => decide (c.N[i]? = some x) && (locB sc x && (chkE c sc e v && (decide (lev e = 0) && ((decide (o = .add) && decide (op = .Add)) || (decide (o = .sub) && decide (op = .Sub))))))
    | none => false)
  | .ex e, t => (match asExp t with
    | some (v, _) => chkE c sc e v && noComp v
    | none => false)
  | .setf k o f e, t => (match asgF t with
    | some (x, y, _, v, _) => decide (y = f) && (decide ((k, f) ∈ c.fls) && (chkE c sc o x && (decide (lev o = 0) && (chkE c sc e v && (decide (lev e = 0) && noComp v)))))
    | none => false)
  | .augf k o f op e, t => (match asAugF t with
    | some (x, y, _, op', v, _) => decide (y = f) && (decide ((k, f) ∈ c.fls) && (chkE c sc o x && (decide (lev o = 0) && (chkE c sc e v && (decide (lev e = 0) && ((decide (op = .add) && decide (op' = .Add)) || (decide (op = .sub) && decide (op' = .Sub))))))))
    | none => false)
  | .ite d a b, t => (match asIfS t with
    | some (u, x, y, _) => chkE c sc d u && (chkSs c sc a x && chkSs c sc b y)
    | none => false)
  | .for_ p it b, t => (match asFor t with
    | some (tg, iter, x, _) => chkI c sc it iter tg && (patB c sc p tg && (chkSs c sc b x && notSet iter))
    | none => false)
  | .forb p i b, t => (match asFor t with
    | some (tg, iter, x, _) => (match asName iter with
      | some (y, _) => nameB c sc i y
      | none => false) && (patB c sc p tg && (chkSs c sc b x && notSet iter))
    | none => false)
  | .while_ d b, t => (match asWhile t with
    | some (u, x, _) => chkE c sc d u && chkSs c sc b x
    | none => false)
  | .ret e, t => (match asRet t with
    | some (some v, _) => chkE c sc e v && decide (lev e = 0)
    | _ => false)
  | .retN, t => (match asRet t with
    | some (none, _) => true
    | _ => false)
  | .brk, t => isBrk t
  | .pass, t => isPass t
  | .stk, _ => true
  | .raise_ k e, t => (match asRai t with
    | some (x, _, args, _, _) => glB sc x && (!dbg x && (match c.ers.lookup x with
      | some (k', fo) => decide (k' = k) && (match fo, e, args with
        | none, .none, [] => true
        | some _, .some e, [y] => chkE c sc e y && (decide (lev e = 0) && notStar y)
        | _, _, _ => false)
      | none => false))
    | none => false)
  | .try_ i e j ks s, t => (match asTry t with
    | some (b, x, _, n, su, _, _) => decide (x = heN) && (glB sc x && (!dbg x && (decide (c.N[j]? = some n) && (decide (sc.names.lookup n = some .local) && (!dbg n && ((match asgN b with
      | some (y, _, v, _) => decide (c.N[i]? = some y) && (locB sc y && (chkE c.inB sc e v && (decide (lev e = 0) && noComp v)))
      | none => false) && (chkXs c sc n j s su && ((!ks.isEmpty) && (ks.all fun k => c.ers.any fun p => decide (p.2.1 = k))))))))))
    | none => false)
def chkSs (c : Ck) (sc : Scope) : Ss → List Stmt → Bool
  | .nil, [] => true
  | .cons s ss, t :: ts => chkS c sc s t && chkSs c sc ss ts
  | .frz _ ss, ts => chkSs c sc ss ts
  | .frz1 _ ss, ts => chkSs c sc ss ts
  | _, _ => false
end
theorem _root_.L2.PS.imp {X : Cx} {e : Stmt} {t t' : TS} (h : PS X e t) (g : ∀ D σ H, t' D σ H → t D σ H) : PS X e t' := ⟨fun pins s σ H D I q => h.run pins s σ H D I (g D σ H q)⟩
theorem _root_.L2.PSs.imp {X : Cx} {e : List Stmt} {t t' : TS} (h : PSs X e t) (g : ∀ D σ H, t' D σ H → t D σ H) : PSs X e t' := ⟨fun pins s σ H D I q => h.run pins s σ H D I (g D σ H q)⟩
structure Gs (P : Pm) (G : Glo) (c : Ck) (scp : Scope) (X : Cx) : Prop extends Gd P G c scp X where
  ht : (!c.hot) = true
  stk : X.stack = X.env :: X.outer ∧ X.env.frame = some X.env.locals
  blk : X.env.blockKind = .function
  sto : Sto X scp
  pass : PassesOwn (model X.prog X.w) X.A X.env X.xe
section
variable {P : Pm} {W : WX} {G : Glo} {c : Ck} {X : Cx} {sc : Scope}
theorem swaps_none {e : Expr} {tg : Option Expr} {l : Nat} {env : PySem.Env} (h : noComp e = true) : swapsWith e tg l env = pure false := by
  cases e <;> first | rfl | (cases h; done)
theorem swaps_other {e : Expr} {ts : List Expr} {k : Nat} {p : Pos} {l : Nat} {env : PySem.Env} : swapsWithSole [.Tuple ts k p] e l env = pure false := by
  cases e <;> rfl
theorem swaps_sub {e o i : Expr} {p : Pos} {l : Nat} {env : PySem.Env} : swapsWithSole [.Subscript o i p] e l env = pure false := by
  cases e <;> rfl
theorem stores_sub {e o i : Expr} {p : Pos} {env : PySem.Env} : swappedStores [.Subscript o i p] e env = pure none := by
  cases e <;> rfl
theorem stores_none {e : Expr} {ts : List Expr} {k : Nat} {p : Pos} {env : PySem.Env} (h : asTup e = none) : swappedStores [.Tuple ts k p] e env = pure none := by
  cases e <;> first | rfl | (cases h; done)
def swpB (sc : Scope) (x : Str) (p : Pos) (e : Expr) (s : Scope) : Bool := (decide (sc.names.lookup x = some .local) && p.line == e.pos.line) && !(s.names.any fun (n, k) => n == x && (k == .local || k == .cell))
theorem swaps_comp {elt : Expr} {gs : List Comprehension} {s : Scope} {pos : Pos} {x : Str} {p : Pos} {l : Nat} {env : PySem.Env} (hb : env.blockKind = .function) :
    swapsWith (.ListComp elt gs s pos) (some (.Name x p)) l env = pure (swpB env.scope x p (.ListComp elt gs s pos) s) := by
  show pure (env.blockKind == .function && env.kindOf x == some .local && p.line == _ && !(s.names.any fun (n, k) => n == x && (k == .local || k == .cell))) = _
  rw [hb]
  unfold swpB
  congr 2
  congr 1
  show (true && (env.scope.names.lookup x == some .local)) = _
  rw [Bool.true_and, Bool.eq_iff_iff]
  simp
theorem ps_setX {i : Nat} {x : Str} {e : Expr} {te : TE} {pos pos' : Pos} (g : Gs P G c sc X) (hi : c.N[i]? = some x) (hx : locB sc x = true) (he : PE X e te) (hs : swapsWith e (some (.Name x pos')) pos.line X.env = pure false) :
    PS X (.Assign [.Name x pos'] e pos) (tAsg te (gName i)) :=
  ps_set (by rw [g.N]; exact g.nd) (by rw [g.N]; exact hi) (g.sto.loc x hx) he hs (g.sto.fn x hx)
/-- a comprehension given to a name -/
theorem ps_setC {i : Nat} {x : Str} {e : E} {v : Expr} {pos pos' : Pos} (g : Gs P G c sc X) (tk : L2N.Takes X W) (hi : c.N[i]? = some x) (hx : locB sc x = true) (h : chkE c sc e v = true) (hc : isComp e = true) :
    PS X (.Assign [.Name x pos'] v pos) (tAsg (tX P W (ev G e .v) (RN P)) (gName i)) := by
  cases e <;> first | (cases hc; done) | skip
  rename_i p it d e
  have hv := (snd_E (W := W) (.comp p it d e) g.toGd tk h).pf rfl
  simp only [chkE] at h
  split at h
  · rename_i elt tg iter ifs scope cpos q
    have := asComp_eq q
    subst this
    simp only [Bool.and_eq_true, decide_eq_true_eq] at h
    obtain ⟨_, h1, h2, h3, h4, h5, h6, h7⟩ := h
    cases hsw : swpB X.env.scope x pos' (.ListComp elt [⟨tg, iter, ifs, 0⟩] scope cpos) scope with
    | false => exact ps_setX g hi hx hv ((swaps_comp g.blk).trans (by rw [hsw]))
    | true =>
      have hlo : X.env.scope.names.lookup x = some .local := by
        unfold swpB at hsw
        simp only [Bool.and_eq_true, decide_eq_true_eq] at hsw
        exact hsw.1.1
      refine (ps_setLc (i := i) (y := x) (py := pos') (spos := pos) (g.calm g.ht) (by rw [g.N]; exact g.nd) (by rw [g.N]; exact hi) hlo ((swaps_comp g.blk).trans (by rw [hsw])) (snd_I it g.toGd tk h1) (blkOk_by (own := ownOf c p) (by rw [g.N, g.sc]; exact h3))
        (fun s H C cl fp => pg_pat (P := P) (c := c) (sc := scope) g.K (g.calm g.ht) g.N g.nd (Sto.blk g.toGd s H scope C cl fp) h2)
        (fun s H C cl fp => snd_C d (g.toGd.blk s H scope C cl fp) (takes_blk s H scope _ fp) h4)
        (fun s H C cl fp => lev0 h6 (snd_E e (g.toGd.blk s H scope C cl fp) (takes_blk s H scope _ fp) h5).pv)
        (fun x => folded_of h7 x)).imp fun D σ H z => ?_
      rw [own_snd]
      exact r_comp z
  · cases h
/-- rows = [[] for .. in range(..)] -/
theorem ps_ownN {i k : Nat} {x : Str} {a : E} {tg iter : Expr} {scope : Scope} {pos pos' cpos lpos : Pos} (g : Gs P G c sc X) (tk : L2N.Takes X W) (hi : c.N[i]? = some x) (hx : locB sc x = true) (h1 : chkI c sc (.rng1 a) iter tg = true) (h2 : patB c scope (.one k) tg = true) (h3 : blkC c.N sc scope (ownOf c (.one k)) = true) (h7 : notSet iter = true) :
    PS X (.Assign [.Name x pos'] (.ListComp (.List [] lpos) [⟨tg, iter, [], 0⟩] scope cpos) pos) (tAsg (tLc (tX P W (evI G (.rng1 a)) (RI P)) (tP P (.one k)) tYes (tLst tNil) [k]) (gName i)) := by
  have ow : (ownOf c (.one k)).map (·.2) = [k] := own_snd (p := .one k)
  have hl := pe_lc (X := X) (elt := .List [] lpos) (te := tLst tNil) (pos := cpos) (g.calm g.ht) (by rw [g.N]; exact g.nd) (snd_I (W := W) (.rng1 a) g.toGd tk h1) (blkOk_by (own := ownOf c (.one k)) (by rw [g.N, g.sc]; exact h3))
        (fun s H C cl fp => pg_pat (P := P) (c := c) (sc := scope) g.K (g.calm g.ht) g.N g.nd (Sto.blk g.toGd s H scope C cl fp) h2)
        (fun s H C cl fp => pts_nil) (fun s H C cl fp => pe_lst pa_nil) (fun x => folded_of h7 x)
  rw [ow] at hl
  cases hsw : swpB X.env.scope x pos' (.ListComp (.List [] lpos) [⟨tg, iter, [], 0⟩] scope cpos) scope with
  | false => exact ps_setX g hi hx hl ((swaps_comp g.blk).trans (by rw [hsw]))
  | true =>
    have hlo : X.env.scope.names.lookup x = some .local := by
      unfold swpB at hsw
      simp only [Bool.and_eq_true, decide_eq_true_eq] at hsw
      exact hsw.1.1
    have hs := ps_setLc (X := X) (elt := .List [] lpos) (te := tLst tNil) (i := i) (y := x) (py := pos') (pos := cpos) (spos := pos) (g.calm g.ht) (by rw [g.N]; exact g.nd) (by rw [g.N]; exact hi) hlo ((swaps_comp g.blk).trans (by rw [hsw])) (snd_I (W := W) (.rng1 a) g.toGd tk h1) (blkOk_by (own := ownOf c (.one k)) (by rw [g.N, g.sc]; exact h3))
        (fun s H C cl fp => pg_pat (P := P) (c := c) (sc := scope) g.K (g.calm g.ht) g.N g.nd (Sto.blk g.toGd s H scope C cl fp) h2)
        (fun s H C cl fp => pts_nil) (fun s H C cl fp => pe_lst pa_nil) (fun x => folded_of h7 x)
    rw [ow] at hs
    exact hs
theorem frz_asg {m : Env → M VI.D} {i : Nat} {D : Ends} {σ : Stt} {H : Hp} (h : tAsg (tX P W m (RV P 0)) (gName i) D σ H) : tAsg (tX P W m (RN P)) (gName i) D σ H := tX_frz h
theorem nm_of {i : Nat} {o : Expr} (g : Gd P G c sc X) (h : (match asName o with
    | some (x, _) => nameB c sc i x
    | none => false) = true) : PE X o (tVar i) ∧ notStar o = true ∧ notCall0 o = true := by
  split at h
  · rename_i q
    have := asName_eq q
    subst this
    exact ⟨pe_name g h, rfl, rfl⟩
  · cases h
theorem pe_app {o y : Expr} {m : Str} {apos pos : Pos} {to : TE} {t : TA} (hK : X.K = P.K) (ho : PE X o to) (ha : PA X [y] t) (hb : methB o m "append" apos pos 1 = true) (hs : notStar y = true) :
    PE X (.Call (.Attribute o m apos) [y] [] pos) (tBM P.K "list" rAppend to t) := by
  unfold methB at hb
  simp only [Bool.and_eq_true, decide_eq_true_eq] at hb
  obtain ⟨rfl, hl, hc0, _⟩ := hb
  refine (pe_bm PySem.F.plainAttrs_list PySem.F.slot_list_append PySem.F.type_list_append mt_append ho ha (base_of hc0 _) ?_ hl (star_of hs) rfl).imp fun _ _ _ z => by rw [hK]; exact z
  rw [back_all (by rw [List.all_cons, hs]; rfl)]; rfl
theorem parE_pa {W : WX} (g : Gd P G c sc X) (tk : L2N.Takes X W) : ∀ {is : List (Nat × Nat)} {es : Es} {xs : List Expr}, parE c sc is es xs = true → PA X xs (tX P W (evs G es) (RK P is)) ∧ xs.all notStar = true
  | [], .nil, [], _ => ⟨pk_nilX, rfl⟩
  | [], .nil, _ :: _, h => by cases h
  | [], .cons _ _, _, h => by cases h
  | (_, 0) :: is, .cons e es, x :: xs, h => by
    simp only [parE, Bool.and_eq_true, decide_eq_true_eq] at h
    obtain ⟨p, q⟩ := parE_pa g tk h.2.2
    have hs := (good_of (chk_good h.1)).1
    exact ⟨pk_cons0 (lev0 h.2.1 (snd_E e g tk h.1).pv) p hs, by rw [List.all_cons, hs, q]; rfl⟩
  | (_, n + 1) :: is, .cons e es, x :: xs, h => by
    simp only [parE, Bool.and_eq_true] at h
    obtain ⟨p, q⟩ := parE_pa g tk h.2.2
    have hs := (good_of (chk_good h.1)).1
    exact ⟨pk_consN (Nat.succ_ne_zero n) ((snd_E e g tk h.1).pf h.2.1) p hs, by rw [List.all_cons, hs, q]; rfl⟩
  | (_, 0) :: _, .nil, _, h => by simp [parE] at h
  | (_, 0) :: _, .cons _ _, [], h => by simp [parE] at h
  | (_, _ + 1) :: _, .nil, _, h => by simp [parE] at h
  | (_, _ + 1) :: _, .cons _ _, [], h => by simp [parE] at h
theorem ps_parX {W : WX} {is : List (Nat × Nat)} {es : Es} {ts vs : List Expr} {k k2 : Nat} {p p2 pos : Pos} (g : Gs P G c sc X) (tk : L2N.Takes X W) (h1 : parB c sc (is.map (·.1)) ts vs = true) (h2 : parE c sc is es vs = true) :
    PS X (.Assign [.Tuple ts k p] (.Tuple vs k2 p2) pos) (tS P W (exec G (.par is es))) := by
  obtain ⟨pa, hst⟩ := parE_pa (W := W) g.toGd tk h2
  unfold parB at h1
  split at h1
  · rename_i hsw
    simp only [Bool.and_eq_true, decide_eq_true_eq] at h1
    obtain ⟨pg, hl, hf⟩ := pgs_all (X := X) g.N g.nd g.sto h1.1
    refine (ps_asg (pe_tup pa) (pg_tup (g.calm g.ht) pg hl hf) swaps_other (sw_eq g.sc g.blk hsw)).imp fun D σ H z => ?_
    rw [g.K, List.length_map]
    rw [List.length_map] at h1
    exact r_parT h1.2 z
  · rename_i xs hsw
    split at h1
    · rename_i i j x _ y _ q
      simp only [Bool.and_eq_true, decide_eq_true_eq, allLocal, List.all_cons, List.all_nil, Bool.and_true] at h1
      obtain ⟨rfl, ⟨hx, hy⟩, hij, hi, hj⟩ := h1
      have hN : X.N.Nodup := by rw [g.N]; exact g.nd
      match vs, pa, hsw, h2 with
      | [a, b], pa, hsw, h2 =>
        refine (ps_par (g.calm g.ht) hN (by rw [g.N]; exact hi) (by rw [g.N]; exact hj) hij (by rw [g.sc]; exact hx) (by rw [g.sc]; exact hy) pa (sw_eq g.sc g.blk hsw) swaps_other).imp fun D σ H z => ?_
        refine tX_mono (r_par z) fun us H1 hh => ?_
        rw [q] at hh
        obtain ⟨v, r, rfl, v2, r2, rfl, rfl, hh⟩ := hh
        exact ⟨v, v2, rfl, hh⟩
      | [], pa, hsw, h2 => simp [swNames] at hsw
      | [_], pa, hsw, h2 => simp [swNames] at hsw
      | _ :: _ :: _ :: _, pa, hsw, h2 => simp [swNames] at hsw
    · rename_i i j l x _ y _ z _ q
      simp only [Bool.and_eq_true, decide_eq_true_eq, allLocal, List.all_cons, List.all_nil, Bool.and_true] at h1
      obtain ⟨rfl, ⟨hx, hy, hz⟩, hij, hil, hjl, hi, hj, hl⟩ := h1
      have hN : X.N.Nodup := by rw [g.N]; exact g.nd
      match vs, pa, hsw, h2 with
      | [a, b, d], pa, hsw, h2 =>
        refine (ps_par3 (g.calm g.ht) hN (by rw [g.N]; exact hi) (by rw [g.N]; exact hj) (by rw [g.N]; exact hl) hij hil hjl (by rw [g.sc]; exact hx) (by rw [g.sc]; exact hy) (by rw [g.sc]; exact hz) pa (sw_eq g.sc g.blk hsw) swaps_other).imp fun D σ H z => ?_
        refine tX_mono (r_par z) fun us H1 hh => ?_
        rw [q] at hh
        obtain ⟨v, r, rfl, v2, r2, rfl, v3, r3, rfl, rfl, hh⟩ := hh
        exact ⟨v, v2, v3, rfl, hh⟩
      | [], pa, hsw, h2 => simp [swNames] at hsw
      | [_], pa, hsw, h2 => simp [swNames] at hsw
      | [_, _], pa, hsw, h2 => simp [swNames] at hsw
      | _ :: _ :: _ :: _ :: _, pa, hsw, h2 => simp [swNames] at hsw
    · cases h1
  · cases h1
end
end VI

set_option Elab.async false
set_option linter.all false
set_option maxRecDepth 100000
set_option maxHeartbeats 4000000
/-! VI, part 17b: own errors raised; try with an except suite. -/
namespace VI
open PySem L2
section
variable {P : Pm} {W : WX} {G : Glo} {os os' : List Addr} {Z Z' H H' : Hp} {w w' : Wd} {env env' : Env} {ad ad' : Nat → List Addr} {B : Addr → Prop} {σ σ' : Stt} {D : Ends} {α β : Type}
/-- raise C() -/
theorem r_raise0 {k : Nat} {C : Addr} (hC : P.cls k = .ref C) (h : tS P W (exec G (.raise_ k .none)) D σ H) : W (.ref C) none σ H := by
  obtain ⟨os, Z, w, env, ad, B, k0, sl, hB, h⟩ := h
  exact h σ os Z H _ _ Step.refl k0 ⟨hC.symm, rfl⟩
/-- raise C(e) -/
theorem r_raise1 {k : Nat} {e : E} {C : Addr} (he : lev e = 0) (hC : P.cls k = .ref C) (h : tS P W (exec G (.raise_ k (.some e))) D σ H) :
    tX P W (ev G e .v) (RV P (lev e)) σ H fun y H1 => ∀ d, H1 d = none → W (.ref C) (some d) σ (upd H1 d (.xd [(P.fld k, y)])) := by
  obtain ⟨os, Z, w, env, ad, B, k0, sl, hB, h⟩ := h
  have h : OutS P W B os Z H (bnd (ev G e .v env) (fun d => fun w => .exn k (some d) w) w) D := h
  refine tX_intro k0 sl (OutS.expr hB h) fun d w1 os1 Z1 H1 v s1 k1 sl1 r h1 => fun p hp => ?_
  rw [he] at r
  have r : Rep P os1 Z1 d v := r
  obtain ⟨k2, st⟩ := k1.alloc hp (.xd [(P.fld k, v)])
  exact h1 σ _ _ _ _ _ (st.sub fun a b => s1.there a (hB a b)) k2 ⟨hC.symm, p, v, rfl, upd_same, Rep.mono st.zle st.ex r⟩
/-! ### an except suite's state -/
/-- slot j holds the error at a, of the class k, its field f -/
def JE (P : Pm) (j : Nat) (a : Addr) (dd : Option Addr) (k : Nat) (f : Option VI.D) (σ : Stt) (os : List Addr) (Z H : Hp) : Prop := σ[j]? = some (some (.ref a)) ∧ match f with
  | none => dd = none
  | some d => ∃ ad v, dd = some ad ∧ H ad = some (.xd [(P.fld k, v)]) ∧ Rep P os Z d v
theorem Ok.noXd (k : Ok P os w Z H) {a : Addr} {fs : List (Str × V)} (h : H a = some (.xd fs)) : a ∉ os := fun ha => by
  obtain ⟨n, hn, e⟩ := List.mem_iff_getElem.mp ha
  have h1 : os[n]? = some a := by rw [List.getElem?_eq_getElem hn, e]
  have h2 : n < w.length := by rw [← k.len]; exact hn
  have h3 := k.obj n a w[n] h1 (List.getElem?_eq_getElem h2)
  cases q : w[n] with
  | cells ds =>
    rw [q] at h3
    obtain ⟨vs, e1, _⟩ := h3
    rw [h] at e1; cases e1
  | inst c fs =>
    rw [q] at h3
    obtain ⟨C, dx, vs, _, e1, _⟩ := h3
    rw [h] at e1; cases e1
theorem JE.step {j : Nat} {a : Addr} {dd : Option Addr} {k : Nat} {f : Option VI.D} (k0 : Ok P os w Z H) (s : Step (Ex H) os Z H os' Z' H') (h : JE P j a dd k f σ os Z H) : JE P j a dd k f σ os' Z' H' := by
  refine ⟨h.1, ?_⟩
  cases f with
  | none => exact h.2
  | some d =>
    obtain ⟨ad, v, e1, e2, e3⟩ := h.2
    exact ⟨ad, v, e1, s.keep ad _ (by show H ad ≠ none; rw [e2]; exact fun z => nomatch z) e2 (k0.noXd e2) (fun _ z => by cases z), Rep.mono s.zle s.ex e3⟩
abbrev Jst := Stt → List Addr → Hp → Hp → Prop
def Jok (P : Pm) (J : Jst) : Prop := ∀ {σ : Stt} {os : List Addr} {w : Wd} {Z H : Hp} {os' : List Addr} {Z' H' : Hp}, Ok P os w Z H → Step (Ex H) os Z H os' Z' H' → J σ os Z H → J σ os' Z' H'
def tJ (J : Jst) (P : Pm) (W : WX) (m : Env → M α) (R : α → List Addr → Hp → Hp → Hp → β → Prop) : Stt → Hp → (β → Hp → Prop) → Prop := fun σ H Q =>
  ∃ os Z w env ad B, Ok P os w Z H ∧ Slots P B env σ ad os Z H ∧ J σ os Z H ∧ Out P W σ os Z H (m env w) fun a _ os' Z' H' => ∀ v, R a os' Z' H H' v → Q v H'
variable {J : Jst}
theorem tJ.tX {m : Env → M α} {R : α → List Addr → Hp → Hp → Hp → β → Prop} {Q : β → Hp → Prop} (h : tJ J P W m R σ H Q) : tX P W m R σ H Q := by
  obtain ⟨os, Z, w, env, ad, B, k, sl, _, h⟩ := h
  exact ⟨os, Z, w, env, ad, B, k, sl, h⟩
theorem tJ_intro {m : Env → M α} {R : α → List Addr → Hp → Hp → Hp → β → Prop} {Q : β → Hp → Prop} {Kt : α → Wd → List Addr → Hp → Hp → Prop} (hJ : Jok P J) (k : Ok P os w Z H) (sl : Slots P B env σ ad os Z H) (j : J σ os Z H) (h : Out P W σ os Z H (m env w) Kt)
    (hq : ∀ a w' os' Z' H' v, Step (Ex H) os Z H os' Z' H' → Ok P os' w' Z' H' → Slots P B env σ ad os' Z' H' → J σ os' Z' H' → R a os' Z' H H' v → Kt a w' os' Z' H' → Q v H') : tJ J P W m R σ H Q :=
  ⟨os, Z, w, env, ad, B, k, sl, j, h.mono fun a w' os' Z' H' st k' kt v r => hq a w' os' Z' H' v st k' (sl.step st) (hJ k st j) r kt⟩
theorem r_jand {ma mb : Env → M VI.D} (hJ : Jok P J) {Q : VK} (h : tJ J P W (fun env => bnd (ma env) fun x => bnd (lft x.truth) fun c => if c then mb env else ret x) (RV P 0) σ H Q) :
    tAndT P.K (tJ J P W ma (RV P 0)) (tJ J P W mb (RV P 0)) σ H Q := by
  obtain ⟨os, Z, w, env, ad, B, k, sl, j, h⟩ := h
  refine tJ_intro hJ k sl j h.bnd fun x w1 os1 Z1 H1 v s1 k1 sl1 j1 r h1 => ?_
  obtain ⟨c1, e, h2⟩ := h1.bnd.lft
  refine ⟨c1, tru_of k1.zh r e, ?_⟩
  have h4 := h2.ret k1
  cases c1 with
  | true => exact tJ_intro hJ k1 sl1 j1 h4 fun d w2 os2 Z2 H2 v s2 k2 sl2 j2 r h2 => h2 v r
  | false => exact h4.ret k1 _ r
theorem r_jeq {ma mb : Env → M VI.D} (hJ : Jok P J) {Q : VK} (h : tJ J P W (fun env => bnd (ma env) fun x => bnd (mb env) fun y => lft ((VI.D.cmp .eq x y).map .bl)) (RV P 0) σ H Q) :
    tOp (rCmp P.K P.wo .eq) (tJ J P W ma (RV P 0)) (tJ J P W mb (RV P 0)) σ H Q := by
  obtain ⟨os, Z, w, env, ad, B, k, sl, j, h⟩ := h
  refine tJ_intro hJ k sl j h.bnd fun x w1 os1 Z1 H1 v s1 k1 sl1 j1 r h1 => ?_
  refine tJ_intro hJ k1 sl1 j1 h1.bnd fun y w2 os2 Z2 H2 u s2 k2 sl2 j2 r' h2 => ?_
  obtain ⟨d, e, h3⟩ := h2.lft
  obtain ⟨b', e2, rfl⟩ := Option.map_eq_some_iff.mp e
  exact cmp_ok k2 ((LR.step s2 r).le (Nat.zero_le _)) (LR.le (Nat.zero_le _) r') e2 (h3.ret k2 _ (by show Rep P os2 Z2 _ _; unfold Rep; rfl))
theorem r_jite {b : Bool} {ma mb : Env → M VI.D} (hJ : Jok P J) {Q : VK} (h : tJ J P W (fun env => if b then ma env else mb env) (RV P 0) σ H Q) :
    tIf (fun σ H Q => tJ J P W (fun _ => ret (.bl b)) (RV P 0) σ H fun x H' => ∃ c, TruV P.K x H' c ∧ Q c H') (tJ J P W ma (RV P 0)) (tJ J P W mb (RV P 0)) σ H Q := by
  obtain ⟨os, Z, w, env, ad, B, k, sl, j, h⟩ := h
  refine ⟨os, Z, w, env, ad, B, k, sl, j, fun os1 Z1 H1 s1 k1 v r => ⟨b, tru_of k1.zh r rfl, ?_⟩⟩
  have h : Out P W σ os Z H ((if b then ma env else mb env) w) _ := h
  cases b with
  | true => exact tJ_intro hJ k1 (sl.step s1) (hJ k s1 j) (Out.base s1 h) fun d w2 os2 Z2 H2 v s2 k2 sl2 j2 r h2 => h2 v r
  | false => exact tJ_intro hJ k1 (sl.step s1) (hJ k s1 j) (Out.base s1 h) fun d w2 os2 Z2 H2 v s2 k2 sl2 j2 r h2 => h2 v r
end
theorem lookup_mem0 {α β : Type} [BEq α] [LawfulBEq α] {x : α} {b : β} : ∀ {l : List (α × β)}, l.lookup x = some b → (x, b) ∈ l
  | [], h => by simp at h
  | (y, c) :: l, h => by
    rw [List.lookup_cons] at h
    split at h
    · rename_i e
      cases h
      rw [eq_of_beq e]
      exact .head _
    · exact .tail _ (lookup_mem0 h)
/-- nothing leaves a suite -/
abbrev WN : WX := fun _ _ _ _ => False
theorem takes_suite {X : Cx} {a : Addr} {pn : List (Addr × PySem.Obj)} : L2N.Takes (X.suite a pn) WN := fun u s' x => by
  obtain ⟨_, _, _, _, _, _, _, _, _, _, _, _, _, _, _, _, w⟩ := x
  exact w.elim
section
variable {P : Pm} {G : Glo} {c : Ck} {sc : Scope} {X : Cx} {n : Str} {j : Nat}
theorem Gd.suite (g : Gd P G c sc X) (a : Addr) (pn : List (Addr × PySem.Obj)) : Gd P G { c with hot := true } sc (X.suite a pn) :=
  ⟨g.K, g.W, g.N, g.nd, g.sc, fun z => (by cases z), fun z => (by cases z), g.un, g.blt, g.glob, fun z => (by cases z), g.fld, fun z => (by cases z), fun z => (by cases z), g.er, g.he, g.two, fun x bw hx => let ⟨kf, fA, fd, ps, h⟩ := g.hcall x bw hx; ⟨kf, fA, fd, ps, h.ok, ⟨h.room.dp, h.room.un⟩, h.mg, h.keep, h.bind⟩, fun e => let ⟨cd, Pt, h⟩ := g.lam e; ⟨cd, Pt, h.code, h.tab, h.mem, h.uni⟩, fun z => (by cases z)⟩
theorem isName_eq {n : Str} {t : Expr} (h : isName n t = true) : ∃ p, t = .Name n p := by
  unfold isName at h
  split at h
  · rename_i z p q
    have := asName_eq q
    cases of_decide_eq_true h
    exact ⟨_, this⟩
  · cases h
variable {a : Addr} {oe : PySem.Obj} {dd : Option Addr} {k : Nat} {f : Option VI.D} {pn : List (Addr × PySem.Obj)}
theorem je_ok : Jok P (JE P j a dd k f) := fun k s h => JE.step k s h
/-- isinstance(e, C) -/
theorem snd_is (g : Gd P G c sc X) (hj : c.N[j]? = some n) (hl : sc.names.lookup n = some .local) (hd : (!dbg n) = true) {x0 : Str} {fo : Option Str} (he : (x0, (k, fo)) ∈ c.ers) (hz : L2N.Zn (P.cls k) dd oe) (hf : ∃ vs, oe.data = .fields vs) {k' : Nat} {t : Expr} (h : chkIs c sc n k' t = true) :
    PE (X.suite a ((a, oe) :: pn)) t (tJ (JE P j a dd k f) P WN (fun _ => ret (.bl (Nat.beq k k'))) (RV P 0)) ∧ plainT t = true := by
  unfold chkIs at h
  split at h
  case h_2 => cases h
  rename_i fn fp x y pos q
  have := asCall_eq q
  subst this
  simp only [Bool.and_eq_true, decide_eq_true_eq] at h
  obtain ⟨rfl, h1, h2, h3⟩ := h
  obtain ⟨np, rfl⟩ := isName_eq h2
  split at h3
  case h_2 => cases h3
  rename_i z zp q2
  have := asName_eq q2
  simp only at this
  subst this
  simp only [Bool.and_eq_true] at h3
  obtain ⟨h4, h5, h6⟩ := h3
  split at h6
  case h_2 => cases h6
  rename_i k2 fo2 hlk
  cases of_decide_eq_true h6
  have hm := lookup_mem0 hlk
  obtain ⟨D0, hD, hmg, ep, _⟩ := g.er _ _ _ he
  obtain ⟨D1, hD1, hmg1, _, _⟩ := g.er _ _ _ hm
  have hk := g.two _ _ _ _ _ _ he hm
  rw [hD, hD1] at hk
  rw [hD] at hz
  have gl : Gl (X.suite a ((a, oe) :: pn)) (Str.ofString "isinstance") := gl_of (g.suite a ((a, oe) :: pn)) h1
  have glz : Gl (X.suite a ((a, oe) :: pn)) z := gl_of (g.suite a ((a, oe) :: pn)) h4
  have hb : X.mg (Str.ofString "isinstance") = none := g.blt _ (by decide +kernel)
  obtain ⟨d1, d2⟩ := dbg_of hd
  have pv : PE (X.suite a ((a, oe) :: pn)) (.Name n np) (tVar j) := pe_var (by show X.N[j]? = _; rw [g.N]; exact hj) (by show Vis X.env.scope n; rw [g.sc]; exact .inl hl) d1 d2
  have pg : PE (X.suite a ((a, oe) :: pn)) (.Name z zp) (tC (.ref D1)) := pe_glob glz hmg1 rfl (dbg_of h5).1
  refine ⟨(pe_callB (call_isA ep.ec hz.zc hf) gl hb PyProof.Rows.boot_isinstance (pa_cons pv (pa_cons pg pa_nil)) (by decide +kernel) (by decide +kernel) rfl rfl).imp fun σ H Q z => ?_, rfl⟩
  obtain ⟨os, Z, w, env, ad, B, k0, sl, jj, out⟩ := z
  refine ⟨.ref a, jj.1, .ref D1, _, Nat.beq k k', rfl, fun u hu => hu, hk, fun d2 e2 => ?_, out.ret k0 _ (by show Rep P os Z _ _; unfold Rep; rfl)⟩
  have j2 := jj.2
  cases f with
  | none => rw [e2] at j2; cases j2
  | some d =>
    obtain ⟨ad, v, e3, e4, _⟩ := j2
    rw [e2] at e3
    cases e3
    exact ⟨_, e4⟩
/-- a call within a suite -/
theorem snd_big {W : WX} {X : Cx} {c : Ck} (hc : L2H.HotC X) (g : Gd P G c sc X) (tk : L2N.Takes X W) (e : E) {t : Expr} (h : chkBig c sc e t = true) : PE X t (tX P W (ev G e .v) (RV P 0)) := by
  unfold chkBig at h
  split at h
  case h_2 => cases h
  rename_i f es k
  split at h
  case h_2 => cases h
  rename_i l op r pos q
  have := asCmp1_eq q
  subst this
  simp only [Bool.and_eq_true, decide_eq_true_eq] at h
  obtain ⟨rfl, hr, h⟩ := h
  split at h
  case h_2 => cases h
  rename_i x px y pos2 q2
  have := asCall_eq q2
  subst this
  simp only [Bool.and_eq_true, decide_eq_true_eq] at h
  obtain ⟨rfl, h1, h⟩ := h
  split at h
  case h_2 => cases h
  rename_i z pz a as pos3 q3
  have := asCall_eq q3
  subst this
  simp only [Bool.and_eq_true, decide_eq_true_eq] at h
  obtain ⟨rfl, h2, h3, h4⟩ := h
  split at h4
  case h_2 => cases h4
  rename_i bw hl
  obtain ⟨kf, fA, fd, ps, co⟩ := g.hcall _ _ hl
  have pa := snd_B es g tk h4
  have hst := chkb_star h4
  rw [List.all_cons, Bool.and_eq_true] at hst
  have pc : PE X (.Call (.Name z pz) (a :: as) [] pos3) (tX P W (ev G (.call (codeOf z) es) .v) (RV P 0)) :=
    (L2H.pe_callH co.ok co.room hc (gl_of g h2) co.mg co.keep co.bind (fun σ => L2N.passAt tk σ) pa (dbg_of h3).1 (star_of hst.1) (back_any hst.2)).imp fun σ H Q z => by
      have z2 := r_call (bw := bw) z
      unfold tCallSD at z2
      unfold tCallS
      simpa only [List.append_nil] using z2
  have hm : X.mg (Str.ofString (blId .len)) = none := g.blt _ (by decide +kernel)
  have gl : Gl X (Str.ofString (blId .len)) := gl_of g h1
  have hcl : CallR X (blV .len) (rB1 P.K P.wo .len) := by
    have := (call_len : CallR X _ _)
    rw [← g.K, ← g.W]
    exact this
  have pl : PE X (.Call (.Name (Str.ofString (blId .len)) px) [.Call (.Name z pz) (a :: as) [] pos3] [] pos2) (tX P W (ev G (.blt .len (.call (codeOf z) es)) .v) (RV P 0)) := by
    refine PE.imp (t := tCB (rB1 P.K P.wo .len) (tCons (tX P W (ev G (.call (codeOf z) es) .v) (RV P (lev (.call (codeOf z) es)))) tNil)) ?_ fun _ _ _ z => r_blt (.inr rfl) rfl (tX_frz z)
    exact pe_callB hcl gl hm PySem.boot_len (pa_cons pc pa_nil (star_of rfl)) (blId_ne _) (blId_dbg _) (star_of rfl) rfl
  have ir := snd_E (.int k) g tk hr
  have hmk := (good_of (chk_good hr)).2.2.1
  have hrc : OpR X (compareOp (opC .gt)) (rCmp P.K P.wo .gt) := by have := rCmp_ok (units_of g) .gt; rw [g.K, g.W] at this; exact this
  exact (pe_cmpR hrc pl ir.pv (marks_of hmk)).imp fun _ _ _ q => r_cmp (a := .blt .len (.call (codeOf z) es)) (b := .int k) (Nat.zero_le _) (Nat.zero_le _) q
theorem Out.frz {σ : Stt} {os : List Addr} {Z H : Hp} {R : Res VI.D} {W : WX} {Q : VK} {n : Nat} (h : Out P W σ os Z H R fun d _ os' Z' H' => ∀ v, LR P os' Z' H' n d v → Q v H') : Out P W σ os Z H R fun d _ os' Z' H' => ∀ v, New P os' Z' H H' d v → Q v H' := by
  revert h
  cases R with
  | no => exact fun h => h
  | exn c f w1 => exact fun h => h
  | ok d w1 =>
    intro h os' Z' H' st k' v r
    cases d with
    | lst ds =>
      obtain ⟨a, vs, rfl, h0, na, hz, hh, rr⟩ := r
      obtain ⟨k2, lz⟩ := k'.freeze hh na hz
      refine h os' (upd Z' a (.lst vs)) H' (st.freeze (fun z => z h0) hz) k2 (.ref a) (.of ?_)
      unfold Rep
      exact ⟨a, vs, rfl, upd_same, rr.mono lz Ext.refl⟩
    | dct kvs =>
      obtain ⟨a, rfl, h0, na, hz, es, ep, qs, hh, rw0, t⟩ := r
      obtain ⟨k2, lz⟩ := k'.freeze hh na hz nt_raw
      refine h os' (upd Z' a (dRaw a es ep)) H' (st.freeze (fun z => z h0) hz) k2 (.ref a) (.of ?_)
      exact DctR.rep ⟨es, ep, qs, upd_same, rw0.mono lz, paired_imp (fun _ _ => RepK.mono lz Ext.refl) t⟩
    | _ => exact h os' Z' H' st k' v (.of r)
theorem r_isl {ks : List Nat} {J : Jst} {σ : Stt} {H : Hp} {Q : VK} (hk : ks.length ≤ 20) (h : tJ J P WN (fun _ => ret (.lst (ks.map fun k' => .bl (Nat.beq k k')))) (RV P 0) σ H Q) : tLst (tJ J P WN (fun _ => ret (ks.map fun k' => VI.D.bl (Nat.beq k k'))) (RA P)) σ H Q := by
  obtain ⟨os, Z, w, env, ad, B, k0, sl, jj, out⟩ := h
  refine ⟨os, Z, w, env, ad, B, k0, sl, jj, fun os1 Z1 H1 st k1 vs r => ?_⟩
  have r : Reps P os1 Z1 _ vs := r
  refine ⟨?_, fun p hp => ?_⟩
  · rw [← r.length, List.length_map, ← lim_eq]
    unfold lim
    omega
  · obtain ⟨k3, s3⟩ := k1.alloc hp (.lst vs)
    refine out _ _ _ (st.then s3) k3 _ ?_
    show Rep P os1 _ _ _
    unfold Rep
    exact ⟨p, _, rfl, upd_same, r.mono s3.zle Ext.refl⟩
theorem snd_isl (g : Gd P G c sc X) (hj : c.N[j]? = some n) (hl : sc.names.lookup n = some .local) (hd : (!dbg n) = true) {x0 : Str} {fo : Option Str} (he : (x0, (k, fo)) ∈ c.ers) (hz : L2N.Zn (P.cls k) dd oe) (hf : ∃ vs, oe.data = .fields vs) :
    ∀ {ks : List Nat} {xs : List Expr}, chkIsL c sc n ks xs = true → PA (X.suite a ((a, oe) :: pn)) xs (tJ (JE P j a dd k f) P WN (fun _ => ret (ks.map fun k' => VI.D.bl (Nat.beq k k'))) (RA P)) ∧ xs.all notStar = true
  | [], [], _ => ⟨pa_nil.imp fun σ H Q z => by
      obtain ⟨os, Z, w, env, ad, B, k0, sl, jj, out⟩ := z
      exact out.ret k0 _ reps_nil, rfl⟩
  | [], _ :: _, h => by simp [chkIsL] at h
  | _ :: _, [], h => by simp [chkIsL] at h
  | k' :: ks, x :: xs, h => by
    simp only [chkIsL, Bool.and_eq_true] at h
    obtain ⟨i1, hp⟩ := snd_is (f := f) (a := a) (pn := pn) g hj hl hd he hz hf h.1
    obtain ⟨i2, hs⟩ := snd_isl g hj hl hd he hz hf h.2
    have hst : notStar x = true := by
      unfold chkIs at h
      have h := h.1
      split at h
      case h_2 => cases h
      rename_i q
      have := asCall_eq q
      subst this
      rfl
    refine ⟨(pa_cons i1 i2 (star_of hst)).imp fun σ H Q z => ?_, by rw [List.all_cons, hst, hs]; rfl⟩
    obtain ⟨os, Z, w, env, ad, B, k0, sl, jj, out⟩ := z
    refine ⟨os, Z, w, env, ad, B, k0, sl, jj, fun os1 Z1 H1 st1 k1 v r1 => ⟨os1, Z1, w, env, ad, B, k1, sl.step st1, je_ok k0 st1 jj, fun os2 Z2 H2 st2 k2 vs r2 => ?_⟩⟩
    have r1 : Rep P os1 Z1 _ v := r1
    exact out os2 Z2 H2 (st1.then st2) k2 _ (reps_cons (r1.mono st2.zle st2.ex) r2)
theorem r_jvadd {i : Nat} {J : Jst} {mb : Env → M VI.D} {σ : Stt} {H : Hp} {Q : VK} (hJ : Jok P J) (h : tJ J P WN (fun env => bnd (lft (look env i)) fun x => bnd (mb env) fun y => lft (VI.D.bin .add x y)) (RV P 0) σ H Q) :
    tOp (rBin P.K .add) (tVar i) (tJ J P WN mb (RV P 0)) σ H Q := by
  obtain ⟨os, Z, w, env, ad, B, k, sl, j, h⟩ := h
  obtain ⟨x, e1, h1⟩ := h.bnd.lft
  have e4 : env[i]? = some (.fz x) := by
    unfold look at e1
    split at e1
    · rename_i q
      rw [q]
      cases e1
      rfl
    · cases e1
  obtain ⟨v, es, rv⟩ := sl.at_ i _ e4
  refine ⟨v, es, ?_⟩
  refine tJ_intro hJ k sl j (h1.ret k).bnd fun y w2 os2 Z2 H2 u s2 k2 sl2 j2 r' h2 => ?_
  obtain ⟨d, e, h3⟩ := h2.lft
  exact bin_ok k2 (LR.of (Rep.mono s2.zle s2.ex rv)) (LR.le (Nat.zero_le _) r') e fun v os3 Z3 H3 st3 k3 n3 => (Out.frz (n := 0) h3) os3 Z3 H3 st3 k3 v n3
theorem r_jitl {e : E} {J : Jst} {ma mb : Env → M VI.D} {σ : Stt} {H : Hp} {Q : VK} (hJ : Jok P J) (h : tJ J P WN (fun env => iteM (ev G e .t env) (ma env) (mb env)) (RV P 0) σ H Q) :
    tIf (tX P WN (ev G e .t) RB) (tJ J P WN ma (RV P 0)) (tJ J P WN mb (RV P 0)) σ H Q := by
  obtain ⟨os, Z, w, env, ad, B, k, sl, j, h⟩ := h
  refine (tJ_intro (J := J) hJ k sl j h.bnd fun x w1 os1 Z1 H1 v s1 k1 sl1 j1 r h1 => ?_).tX
  have r : x = .bl v := r
  subst r
  cases v with
  | true => exact tJ_intro hJ k1 sl1 j1 h1 fun d w2 os2 Z2 H2 u s2 k2 sl2 j2 r2 h2 => h2 u r2
  | false => exact tJ_intro hJ k1 sl1 j1 h1 fun d w2 os2 Z2 H2 u s2 k2 sl2 j2 r2 h2 => h2 u r2
theorem r_jtup2 {J : Jst} {ma mb : Env → M VI.D} {σ : Stt} {H : Hp} {Q : VK} (hJ : Jok P J) (h : tJ J P WN (fun env => bnd (ma env) fun x => bnd (mb env) fun y => ret (.tup [x, y])) (RV P 0) σ H Q) :
    tTup (tCons (tJ J P WN ma (RV P 0)) (tCons (tJ J P WN mb (RV P 0)) tNil)) σ H Q := by
  obtain ⟨os, Z, w, env, ad, B, k, sl, j, h⟩ := h
  refine tJ_intro hJ k sl j h.bnd fun x w1 os1 Z1 H1 v s1 k1 sl1 j1 r h1 => ?_
  refine tJ_intro hJ k1 sl1 j1 h1.bnd fun y w2 os2 Z2 H2 u s2 k2 sl2 j2 r' h2 => ?_
  refine ⟨by rw [← lim_eq]; show 2 ≤ lim; unfold lim; omega, fun p hp => ?_⟩
  obtain ⟨k3, s3⟩ := k2.alloc hp (.tup [v, u])
  refine h2 _ _ _ s3 k3 _ ?_
  show Rep P os2 _ _ _
  unfold Rep
  have r : Rep P os1 Z1 x v := r
  have r' : Rep P os2 Z2 y u := r'
  exact ⟨p, _, rfl, upd_same, reps_cons (Rep.mono (s2.zle.trans s3.zle) s2.ex r) (reps_cons (Rep.mono s3.zle Ext.refl r') reps_nil)⟩
/-- an except suite's expression -/
theorem snd_X (g : Gd P G c sc X) (hj : c.N[j]? = some n) (hl : sc.names.lookup n = some .local) (hd : (!dbg n) = true) {x0 : Str} {fo : Option Str} (he : (x0, (k, fo)) ∈ c.ers) (hz : L2N.Zn (P.cls k) dd oe) (hf : ∃ vs, oe.data = .fields vs) :
    ∀ (x : Xe) {t : Expr}, chkX c sc n x t = true → PE (X.suite a ((a, oe) :: pn)) t (tJ (JE P j a dd k f) P WN (xv G k f x) (RV P 0))
  | .isx k', t, h => (snd_is g hj hl hd he hz hf h).1
  | .fld ks f0, t, h => by
    simp only [chkX] at h
    split at h
    case h_2 => cases h
    rename_i x y pos q
    have := asAttr_eq q
    subst this
    simp only [Bool.and_eq_true, decide_eq_true_eq] at h
    obtain ⟨rfl, h2, h3⟩ := h
    obtain ⟨np, rfl⟩ := isName_eq h2
    obtain ⟨d1, d2⟩ := dbg_of hd
    have pv : PE (X.suite a ((a, oe) :: pn)) (.Name n np) (tVar j) := pe_var (by show X.N[j]? = _; rw [g.N]; exact hj) (by show Vis X.env.scope n; rw [g.sc]; exact .inl hl) d1 d2
    by_cases hk : ks.contains k = true
    · have h4 := List.all_eq_true.mp h3 k (by simpa using hk)
      obtain ⟨p, hp, e1⟩ := List.any_eq_true.mp h4
      have e1 := of_decide_eq_true e1
      obtain ⟨x1, p2⟩ := p
      simp only at e1
      subst e1
      obtain ⟨D0, hD, hmg, ep, hfl⟩ := g.er _ _ _ hp
      obtain ⟨S, T⟩ := ep.mkx
      rw [hD] at hz
      refine (pe_xf T S.noat hz.zc hf pv rfl).imp fun σ H Q z => ?_
      obtain ⟨os, Z, w, env, ad, B, k0, sl, jj, out⟩ := z
      have out : Out P WN σ os Z H ((if ks.contains k then lft f else stuck) w) _ := out
      rw [if_pos hk] at out
      obtain ⟨d, e2, out⟩ := out.lft
      subst e2
      obtain ⟨ad2, v, e3, e4, e5⟩ := jj.2
      refine ⟨.ref a, jj.1, rfl, rfl, ad2, _, v, e3, e4, ?_, out.ret k0 v e5⟩
      rw [hfl _ rfl]
      simp [List.lookup]
    · refine ⟨fun pins s σ H Q I z => ?_⟩
      obtain ⟨os, Z, w, env, ad, B, k0, sl, jj, out⟩ := z
      have out : Out P WN σ os Z H ((if ks.contains k then lft f else stuck) w) _ := out
      rw [if_neg hk] at out
      exact out.elim
  | .lit e, t, h => by
    simp only [chkX] at h
    simp only [Bool.or_eq_true, Bool.and_eq_true, decide_eq_true_eq] at h
    rcases h with h | h
    · exact (lev0 h.2 (snd_E e (g.suite a _) takes_suite h.1).pv).imp fun _ _ _ z => z.tX
    · have hot : L2H.HotC (X.suite a ((a, oe) :: pn)) := by
        obtain ⟨vs, hvs⟩ := hf
        exact ⟨(a, oe), ⟨rfl, vs, hvs, hz.2.2 vs hvs⟩, .head _⟩
      exact (snd_big hot (g.suite a _) takes_suite e h).imp fun _ _ _ z => z.tX
  | .and u v, t, h => by
    simp only [chkX] at h
    split at h
    case h_2 => cases h
    rename_i x y rest pos q
    have := asBool_eq q
    subst this
    simp only [Bool.and_eq_true] at h
    obtain ⟨h1, h2⟩ := h
    have ia := snd_X g hj hl hd he hz hf u h1
    have hv : PE (X.suite a ((a, oe) :: pn)) (.BoolOp .And (y :: rest) pos) (tJ (JE P j a dd k f) P WN (xv G k f v) (RV P 0)) := by
      cases rest with
      | nil => exact pe_one (snd_X g hj hl hd he hz hf v h2)
      | cons z zs => exact snd_X g hj hl hd he hz hf v h2
    refine (pe_andT ia hv).imp fun σ H Q z => ?_
    show tAndT X.K _ _ _ _ _
    rw [g.K]
    exact r_jand je_ok z
  | .eq u v, t, h => by
    simp only [chkX] at h
    split at h
    case h_2 => cases h
    rename_i x op y pos q
    have := asCmp1_eq q
    subst this
    simp only [Bool.and_eq_true, decide_eq_true_eq] at h
    obtain ⟨rfl, h1, h2, h3⟩ := h
    have ia := snd_X g hj hl hd he hz hf u h1
    have ib := snd_X g hj hl hd he hz hf v h2
    have hr : OpR (X.suite a ((a, oe) :: pn)) (compareOp (opC .eq)) (rCmp P.K P.wo .eq) := by have := rCmp_ok (units_of (g.suite a ((a, oe) :: pn))) .eq; rw [(g.suite a ((a, oe) :: pn)).K, (g.suite a ((a, oe) :: pn)).W] at this; exact this
    exact (pe_cmpR hr ia ib (marks_of h3)).imp fun _ _ _ z => r_jeq je_ok z
  | .ite k' u v, t, h => by
    simp only [chkX] at h
    split at h
    case h_2 => cases h
    rename_i zt x y pos q
    have := asIf_eq q
    subst this
    simp only [Bool.and_eq_true] at h
    obtain ⟨h1, h2, h3⟩ := h
    have ia := snd_X g hj hl hd he hz hf u h2
    have ib := snd_X g hj hl hd he hz hf v h3
    obtain ⟨ic, hp⟩ := snd_is (f := f) (a := a) (pn := pn) g hj hl hd he hz hf h1
    refine (pe_ifExp (pt_truth ic (isTrue_of hp)) ia ib).imp fun σ H Q z => ?_
    show tIf (fun σ H Q => tJ _ P WN _ _ σ H fun x H' => ∃ k, TruV X.K x H' k ∧ Q k H') _ _ _ _ _
    rw [g.K]
    exact r_jite je_ok z
  | .stk, t, _ => by
    refine ⟨fun pins s σ H Q I z => ?_⟩
    obtain ⟨os, Z, w, env, ad, B, k0, sl, jj, out⟩ := z
    have out : Out P WN σ os Z H ((stuck : M VI.D) w) _ := out
    exact out.elim
  | .isl ks, t, h => by
    simp only [chkX] at h
    split at h
    case h_2 => cases h
    rename_i xs pos q
    have := asLst_eq q
    subst this
    rw [Bool.and_eq_true, decide_eq_true_eq] at h
    exact (pe_lst (snd_isl g hj hl hd he hz hf h.1).1).imp fun _ _ _ z => r_isl h.2 z
  | .vadd i x, t, h => by
    simp only [chkX] at h
    split at h
    case h_2 => cases h
    rename_i u op v pos q
    have := asBin_eq q
    subst this
    simp only [Bool.and_eq_true, decide_eq_true_eq] at h
    obtain ⟨rfl, h2, h3⟩ := h
    have gs := g.suite a ((a, oe) :: pn)
    obtain ⟨pu, _, _⟩ := nm_of gs h2
    have ib := snd_X g hj hl hd he hz hf x h3
    have ho : OpR (X.suite a ((a, oe) :: pn)) (binaryOp (opB .add)) (rBin P.K .add) := by have := rBin_ok (X := X.suite a ((a, oe) :: pn)) .add; rw [gs.K] at this; exact this
    exact (pe_op ho pu ib).imp fun _ _ _ z => r_jvadd je_ok z
  | .itl e u v, t, h => by
    simp only [chkX] at h
    split at h
    case h_2 => cases h
    rename_i zt x y pos q
    have := asIf_eq q
    subst this
    simp only [Bool.and_eq_true] at h
    obtain ⟨h1, h2, h3⟩ := h
    have ia := snd_X g hj hl hd he hz hf u h2
    have ib := snd_X g hj hl hd he hz hf v h3
    exact (pe_ifExp (snd_E e (g.suite a _) takes_suite h1).pt ia ib).imp fun _ _ _ z => r_jitl je_ok z
  | .tup2 u v, t, h => by
    simp only [chkX] at h
    split at h
    case h_2 => cases h
    rename_i x y tk pos q
    have := asTup_eq q
    subst this
    simp only [Bool.and_eq_true] at h
    obtain ⟨h1, h2, h3, h4⟩ := h
    have ia := snd_X g hj hl hd he hz hf u h1
    have ib := snd_X g hj hl hd he hz hf v h2
    exact (pe_tup (pa_cons ia (pa_cons ib pa_nil (star_of h4)) (star_of h3))).imp fun _ _ _ z => r_jtup2 je_ok z
end
/-! ### an except suite's statement -/
def tJS (J : Jst) (P : Pm) (W : WX) (m : Env → M Flow) : TS := fun D σ H => ∃ os Z w env ad B, Ok P os w Z H ∧ Slots P B env σ ad os Z H ∧ (∀ a, B a → H a ≠ none) ∧ J σ os Z H ∧ OutS P W B os Z H (m env w) D
section
variable {P : Pm} {W : WX} {G : Glo} {c : Ck} {sc : Scope} {X : Cx} {n : Str} {j : Nat} {J : Jst} {k : Nat} {f : Option VI.D} {D : Ends} {σ : Stt} {H : Hp}
theorem r_xset {i : Nat} {x : Xe} (hJ : Jok P J) (h : tJS J P WN (xs G k f (.set i x)) D σ H) : tAsg (tJ J P WN (xv G k f x) (RV P 0)) (gName i) D σ H := by
  obtain ⟨os, Z, w, env, ad, B, k0, sl, hB, jj, h⟩ := h
  have h : OutS P WN B os Z H (bnd (xv G k f x env) (fun d => ret (.nx (env.set i (.fz d)))) w) D := h
  exact tJ_intro hJ k0 sl jj (OutS.expr hB h) fun d w1 os1 Z1 H1 v s1 k1 sl1 j1 r h1 => h1 _ _ _ _ _ Step.refl k1 (sl1.setFz i r)
theorem r_xret {x : Xe} (hJ : Jok P J) (h : tJS J P WN (xs G k f (.ret x)) D σ H) : tRet (tJ J P WN (xv G k f x) (RV P 0)) D σ H := by
  obtain ⟨os, Z, w, env, ad, B, k0, sl, hB, jj, h⟩ := h
  have h : OutS P WN B os Z H (bnd (xv G k f x env) (fun d => ret (.rt d)) w) D := h
  exact tJ_intro hJ k0 sl jj (OutS.expr hB h) fun d w1 os1 Z1 H1 v s1 k1 sl1 j1 r h1 => h1 v _ _ _ Step.refl k1 r
variable {a : Addr} {oe : PySem.Obj} {dd : Option Addr} {pn : List (Addr × PySem.Obj)}
theorem snd_Xs (g : Gs P G c sc X) (hj : c.N[j]? = some n) (hl : sc.names.lookup n = some .local) (hd : (!dbg n) = true) {x0 : Str} {fo : Option Str} (he : (x0, (k, fo)) ∈ c.ers) (hz : L2N.Zn (P.cls k) dd oe) (hf : ∃ vs, oe.data = .fields vs) :
    ∀ (s : Xs) {t : Stmt}, chkXs c sc n j s t = true → PS (X.suite a ((a, oe) :: pn)) t (tJS (JE P j a dd k f) P WN (xs G k f s))
  | .set i x, t, h => by
    simp only [chkXs] at h
    split at h
    case h_2 => cases h
    rename_i y yp v pos q
    have := asgN_eq q
    subst this
    simp only [Bool.and_eq_true, decide_eq_true_eq] at h
    obtain ⟨h1, h2, h3, h4, h5⟩ := h
    have iv := snd_X (f := f) (a := a) (pn := pn) g.toGd hj hl hd he hz hf x h3
    exact (ps_set (X := X.suite a ((a, oe) :: pn)) (by show X.N.Nodup; rw [g.N]; exact g.nd) (by show X.N[i]? = _; rw [g.N]; exact h1) (g.sto.loc y h2) iv (swaps_none h4) (g.sto.fn y h2)).imp fun _ _ _ z => r_xset je_ok z
  | .ret x, t, h => by
    simp only [chkXs] at h
    split at h
    case h_2 => cases h
    rename_i v pos q
    have := asRet_eq q
    subst this
    exact (ps_ret (snd_X (f := f) (a := a) (pn := pn) g.toGd hj hl hd he hz hf x h)).imp fun _ _ _ z => r_xret je_ok z
/-! ### the whole try -/
theorem Slots.setAny {B : Addr → Prop} {env : Env} {ad : Nat → List Addr} {os : List Addr} {Z : Hp} (k : Slots P B env σ ad os Z H) (i : Nat) (q : Option V) : Slots P B (env.set i .no) (σ.set i q) ad os Z H := by
  refine k.env_of (by simp [k.len]) fun j s e => ?_
  by_cases hj : i = j
  · subst hj
    by_cases hi : i < env.length
    · rw [List.getElem?_set_self hi] at e
      cases e
      trivial
    · rw [List.getElem?_eq_none (by simpa using hi)] at e; cases e
  · rw [List.getElem?_set_ne hj] at e ⊢
    exact k.at_ j s e
theorem Slots.offAny {B : Addr → Prop} {env : Env} {ad : Nat → List Addr} {os : List Addr} {Z : Hp} (k : Slots P B env σ ad os Z H) {i : Nat} (h : env[i]? = some .no) (q : Option V) : Slots P B env (σ.set i q) ad os Z H := by
  have := k.setAny i q
  have e : env.set i .no = env := by
    refine List.ext_getElem? fun j => ?_
    rw [List.getElem?_set]
    by_cases hj : i = j
    · subst hj
      rw [if_pos rfl, h]
      have := (List.getElem?_eq_some_iff.mp h).1
      rw [if_pos this]
    · rw [if_neg hj]
  rw [e] at this
  exact this
/-- a suite's end: on, or a value; the error's slot stays empty -/
theorem xs_end {s : Xs} {env : Env} {w w' : Wd} {fl : Flow} (h : xs G k f s env w = .ok fl w') (hj : env[j]? = some .no) (hs : ∀ i x, s = .set i x → i ≠ j) : (∃ env', fl = .nx env' ∧ env'[j]? = some .no) ∨ ∃ d, fl = .rt d := by
  cases s with
  | set i x =>
    have h : bnd (xv G k f x env) (fun d => ret (.nx (env.set i (.fz d)))) w = .ok fl w' := h
    unfold VI.bnd at h
    split at h
    · cases h
      refine .inl ⟨_, rfl, ?_⟩
      rw [List.getElem?_set_ne (hs i x rfl)]
      exact hj
    · cases h
    · cases h
  | ret x =>
    have h : bnd (xv G k f x env) (fun d => ret (.rt d)) w = .ok fl w' := h
    unfold VI.bnd at h
    split at h
    · cases h
      exact .inr ⟨_, rfl⟩
    · cases h
    · cases h
theorem r_try {i : Nat} {e : E} {ks : List Nat} {s : Xs} {heV : Value} {K : PySem.W.Frag} (he : lev e = 0) (hex : ∀ k, ks.contains k = true → PySem.W.exmOne K (P.cls k) heV = some true) (hs : ∀ i x, s = .set i x → i ≠ j)
    (h : tS P W (exec G (.try_ i e j ks s)) D σ H) :
    tAsg (tX P (wAs K heV j (fun a cls dd => fun D σ H => ∃ k : Nat, ∃ f : Option VI.D, ks.contains k = true ∧ cls = P.cls k ∧ tJS (JE P j a dd k f) P WN (xs G k f s) D σ H) W D) (ev G e .v) (RV P (lev e))) (gName i) D σ H := by
  obtain ⟨os, Z, w, env, ad, B, k0, sl, hB, h⟩ := h
  have h : OutS P W B os Z H (match ev G e .v env w with
    | .ok d w => .ok (.nx (env.set i (.fz d))) w
    | .exn c f w => if ks.contains c && decide (j < env.length) then (match xs G c f s (env.set j .no) w with
      | .exn _ _ _ => .no
      | r => r) else .no
    | .no => .no) D := h
  refine ⟨os, Z, w, env, ad, B, k0, sl, ?_⟩
  cases q : ev G e .v env w with
  | no => rw [q] at h; exact h
  | ok d w1 =>
    rw [q] at h
    intro os1 Z1 H1 st k1 v r
    rw [he] at r
    exact h _ os1 Z1 H1 _ (st.sub hB) k1 ((sl.step st).setFz i r)
  | exn c f1 w1 =>
    rw [q] at h
    intro os1 Z1 H1 cls dd st k1 x
    have st2 : Step B os Z H os1 Z1 H1 := st.sub hB
    by_cases hk : (ks.contains c && decide (j < env.length)) = true
    · simp only [hk, if_true] at h
      obtain ⟨hk1, hk2⟩ := Bool.and_eq_true_iff.mp hk
      have hk2 := of_decide_eq_true hk2
      have hjn : (env.set j .no)[j]? = some .no := List.getElem?_set_self hk2
      refine ⟨true, by rw [x.1]; exact hex c hk1, fun _ a ha => ⟨c, f1, hk1, x.1, os1, Z1, w1, env.set j .no, ad, B, k1, (sl.step st).setAny j _, fun b hb => st.there b (hB b hb), ?_, ?_⟩, fun z => nomatch z⟩
      · refine ⟨List.getElem?_set_self (by rw [sl.len]; exact hk2), ?_⟩
        have x2 := x.2
        cases f1 with
        | none => exact x2
        | some d => exact x2
      · cases q2 : xs G c f1 s (env.set j .no) w1 with
        | no => rw [q2] at h; exact h.elim
        | exn c2 f2 w2 => rw [q2] at h; exact h.elim
        | ok fl w2 =>
          rw [q2] at h
          rcases xs_end q2 hjn hs with ⟨env', rfl, hn⟩ | ⟨d, rfl⟩
          · intro σ' os' Z' H' ad' st3 k3 sl3
            exact h _ os' Z' H' ad' (st2.trans st3) k3 (sl3.offAny hn none)
          · intro v os' Z' H' st3 k3 r3
            exact h v os' Z' H' (st2.trans st3) k3 r3
    · simp only [hk] at h
      exact absurd h (by intro z; first | exact z.elim | (simp at z))
theorem pss_ex {ι κ : Type} {X : Cx} {ss : List Stmt} {t : ι → κ → TS} {p : ι → κ → Prop} (h : ∀ i j, p i j → PSs X ss (t i j)) : PSs X ss (fun D σ H => ∃ i j, p i j ∧ t i j D σ H) :=
  ⟨fun pins s σ H D I ⟨i, j, hp, q⟩ => (h i j hp).run pins s σ H D I q⟩
theorem Gs.tr (g : Gs P G c sc X) (pn : List (Addr × PySem.Obj)) (xe : Value → Shared → Prop) (hp : PassesOwn (model X.prog X.w) X.A X.env xe) : Gs P G c.inB sc (X.tr pn xe) := by
  refine { K := g.K, W := g.W, N := g.N, nd := g.nd, sc := g.sc, calm := g.calm, room := g.room, un := g.un, blt := g.blt, glob := g.glob, call := fun hh x n hx => ?_, fld := g.fld, meth := fun hh q r hq => ?_, make := fun hh x r hx => ?_, er := g.er, he := g.he, two := g.two, hcall := fun x bw hx => let ⟨kf, fA, fd, ps, h⟩ := g.hcall x bw hx; ⟨kf, fA, fd, ps, h.ok, ⟨h.room.dp, h.room.un⟩, h.mg, h.keep, h.bind⟩, lam := fun e => let ⟨cd, Pt, h⟩ := g.lam e; ⟨cd, Pt, h.code, h.tab, h.mem, h.uni⟩, err := fun _ z => (by cases z), ht := g.ht, stk := g.stk, blk := g.blk, sto := ⟨g.sto.loc, g.sto.fn⟩, pass := hp }
  · obtain ⟨kf, fA, fd, ps, h⟩ := g.call hh x n hx
    exact ⟨kf, fA, fd, ps, h.ok, h.room, h.mg, h.keep, h.bind⟩
  · obtain ⟨C, kf, fA, fd, ps, h⟩ := g.meth hh q r hq
    exact ⟨C, kf, fA, fd, ps, h.cls, h.cl, h.mt, h.ok, h.room, h.bind⟩
  · obtain ⟨C, kf, fA, fd, ps, h⟩ := g.make hh x r hx
    exact ⟨C, kf, fA, fd, ps, h.cls, h.mkr, h.ok, h.room, h.mg, h.bind⟩
theorem snd_try {i : Nat} {e : E} {ks : List Nat} {s : Xs} {t : Stmt} (g : Gs P G c sc X) (tk : L2N.Takes X W) (h : chkS c sc (.try_ i e j ks s) t = true) : PS X t (tS P W (exec G (.try_ i e j ks s))) := by
  simp only [chkS] at h
  split at h
  case h_2 => cases h
  rename_i b x xp n su q1 q2 q
  have := asTry_eq q
  subst this
  simp only [Bool.and_eq_true, decide_eq_true_eq] at h
  obtain ⟨rfl, h1, h2, h3, h4, h5, h6, h7, h0, h8⟩ := h
  split at h6
  case h_2 => cases h6
  rename_i y yp v vp qb
  have := asgN_eq qb
  subst this
  simp only [Bool.and_eq_true, decide_eq_true_eq] at h6
  obtain ⟨g1, g2, g3, g4, g5⟩ := h6
  have hmem : ∀ k, ks.contains k = true → ∃ x fo, (x, (k, fo)) ∈ c.ers := fun k hk => by
    have h9 := List.all_eq_true.mp h8 k (by simpa using hk)
    obtain ⟨p, hp, e1⟩ := List.any_eq_true.mp h9
    have e1 := of_decide_eq_true e1
    obtain ⟨x1, k1, fo⟩ := p
    simp only at e1
    subst e1
    exact ⟨x1, fo, hp⟩
  have hne : c.ers ≠ [] := by
    cases ks with
    | nil => cases h0
    | cons k r =>
      obtain ⟨x1, fo, hp⟩ := hmem k (by simp)
      exact List.ne_nil_of_mem hp
  have hs : ∀ i x, s = .set i x → i ≠ j := fun i x e1 => by
    subst e1
    simp only [chkXs] at h7
    split at h7
    · simp only [Bool.and_eq_true, decide_eq_true_eq] at h7
      exact h7.2.2.2.2
    · cases h7
  have hex : ∀ k, ks.contains k = true → PySem.W.exmOne X.K (P.cls k) (.ref (He.ga X.K heN)) = some true := fun k hk => by
    obtain ⟨x1, fo, hp⟩ := hmem k hk
    obtain ⟨C, hC, _, ep, _⟩ := g.er _ _ _ hp
    rw [hC]
    exact ep.ex
  have hln : X.env.kindOf n = some .local := by show X.env.scope.names.lookup n = _; rw [g.sc]; exact h4
  have hnm : Names X heN (.ref (He.ga X.K heN)) := ⟨gl_of g.toGd h1, (dbg_of h2).1, .inl (g.he hne)⟩
  refine (L2N.ps_try_as (i := j) (c := .ref (He.ga X.K heN)) (Wout := W) (tb := fun W' => tAsg (tX P W' (ev G e .v) (RV P (lev e))) (gName i)) (ts := fun a cls dd => fun D σ H => ∃ k : Nat, ∃ f : Option VI.D, ks.contains k = true ∧ cls = P.cls k ∧ tJS (JE P j a dd k f) P WN (xs G k f s) D σ H)
    g.stk.1 g.stk.2 (by rw [g.N]; exact g.nd) (by rw [g.N]; exact h3) hln hnm tk (fun W' pn xe tk' hp => ?_) (fun a oe cls dd pn hz hf => ?_)).imp fun D σ H z => r_try g4 hex hs z
  · have g' := g.tr pn xe hp
    exact (pss_cons (ps_setX g' g1 g2 (snd_E e g'.toGd tk' g3).pv (swaps_none g5)) pss_nil).imp fun _ _ _ z => z
  · refine (pss_ex (t := fun k f => tJS (JE P j a dd k f) P WN (xs G k f s)) (p := fun k (_ : Option VI.D) => ks.contains k = true ∧ cls = P.cls k) (fun k f hp => ?_)).imp fun D σ H z => ?_
    · obtain ⟨hk, rfl⟩ := hp
      obtain ⟨x1, fo, hpm⟩ := hmem k hk
      exact (pss_cons (snd_Xs g h3 h4 h5 hpm hz hf s h7) pss_nil).imp fun _ _ _ z => z
    · obtain ⟨k, f, e1, e2, e3⟩ := z
      exact ⟨k, f, ⟨e1, e2⟩, e3⟩
end
end VI

set_option Elab.async false
set_option linter.all false
set_option maxRecDepth 100000
set_option maxHeartbeats 4000000
/-! VI, part 18: every statement keeps what the small language says of it; every def its promise. -/
namespace VI
open PySem L2
section
variable {P : Pm} {G : Glo} {c : Ck}
theorem assign_sub {o u : Expr} {pos : Pos} {env : PySem.Env} (h : notSlice u = true) (v : Value) : assign (.Subscript o u pos) env v = (do
      let ov ← holding [v] (eval o env)
      let iv ← holding [v, ov] (eval u env)
      standAt pos
      holding [v, ov, iv] (setItem ov iv v)
      release [v, ov, iv] []) := by
  cases u <;> first | rfl | (cases h; done)
mutual
theorem snd_S : ∀ (s : S) {X : Cx} {W : WX} {sc : Scope} {t : Stmt}, Gs P G c sc X → L2N.Takes X W → chkS c sc s t = true → PS X t (tS P W (exec G s))
  | .set i e, X, W, sc, t, g, tk, h => by
    simp only [chkS] at h
    split at h
    · rename_i x p v pos q
      have := asgN_eq q
      subst this
      simp only [Bool.and_eq_true, Bool.or_eq_true, decide_eq_true_eq] at h
      obtain ⟨h1, h2, h3, h4, h5⟩ := h
      rcases h5 with h5 | h5
      · exact (ps_setX g h1 h2 (snd_E e g.toGd tk h3).pv (swaps_none h5)).imp fun _ _ _ z => r_set h4 z
      · refine (ps_setC (W := W) g tk h1 h2 h3 h5).imp fun _ _ _ z => frz_asg ?_
        have := r_set h4 z
        rw [h4] at this
        exact this
    · cases h
  | .own i e, X, W, sc, t, g, tk, h => by
    simp only [chkS] at h
    split at h
    · rename_i x p v pos q
      have := asgN_eq q
      subst this
      simp only [Bool.and_eq_true, Bool.or_eq_true, decide_eq_true_eq] at h
      obtain ⟨h1, h2, h3, h4, h5⟩ := h
      rcases h5 with h5 | h5
      · exact (ps_setX g h1 h2 ((snd_E e g.toGd tk h3).pf h4) (swaps_none h5)).imp fun _ _ _ z => r_own z
      · exact (ps_setC (W := W) g tk h1 h2 h3 h5).imp fun _ _ _ z => r_own z
    · cases h
  | .own2 i, X, W, sc, t, g, tk, h => by
    simp only [chkS] at h
    split at h
    · rename_i x p v pos q
      have := asgN_eq q
      subst this
      simp only [Bool.and_eq_true, decide_eq_true_eq] at h
      obtain ⟨h1, h2, h3⟩ := h
      split at h3
      · rename_i q2
        have := asLst_eq q2
        subst this
        exact (ps_setX g h1 h2 (pe_lst pa_nil) (swaps_none rfl)).imp fun _ _ _ z => r_own2 z
      · cases h3
    · cases h
  | .own2n i k a, X, W, sc, t, g, tk, h => by
    simp only [chkS] at h
    split at h
    · rename_i x p v pos q
      have := asgN_eq q
      subst this
      simp only [Bool.and_eq_true, decide_eq_true_eq] at h
      obtain ⟨h1, h2, h3⟩ := h
      split at h3
      · rename_i elt tg iter scope cpos q2
        have := asComp_eq q2
        subst this
        simp only [Bool.and_eq_true, decide_eq_true_eq] at h3
        obtain ⟨_, h4, h5, h6, h7, h8⟩ := h3
        split at h8
        · rename_i q3
          have := asLst_eq q3
          subst this
          refine (ps_ownN g tk h1 h2 h4 h5 h6 h7).imp fun _ _ _ z => r_own2n z
        · cases h8
      · cases h3
    · cases h
  | .newo i es, X, W, sc, t, g, tk, h => by
    simp only [chkS] at h
    split at h
    · rename_i x p v pos q
      have := asgN_eq q
      subst this
      simp only [Bool.and_eq_true, decide_eq_true_eq] at h
      obtain ⟨h1, h2, h3⟩ := h
      split at h3
      · rename_i q2
        have := asLst_eq q2
        subst this
        exact (ps_setX g h1 h2 (pe_lst (snd_Es es g.toGd tk h3)) (swaps_none rfl)).imp fun _ _ _ z => r_newo z
      · cases h3
    · cases h
  | .unp is e, X, W, sc, t, g, tk, h => by
    simp only [chkS] at h
    split at h
    · rename_i ts k p v pos q
      have := asgT_eq q
      subst this
      simp only [Bool.and_eq_true, decide_eq_true_eq] at h
      obtain ⟨h1, h2, h3, h4⟩ := h
      obtain ⟨pg, hl, hf⟩ := pgs_all (X := X) g.N g.nd g.sto h1
      exact (ps_asg (snd_E e g.toGd tk h2).pv (pg_tup (g.calm g.ht) pg hl hf) swaps_other (stores_none h4)).imp fun _ _ _ z => by rw [g.K]; exact r_unp h3 z
    · cases h
  | .par is es, X, W, sc, t, g, tk, h => by
    simp only [chkS] at h
    split at h
    · rename_i ts k p v pos q
      have := asgT_eq q
      subst this
      split at h
      · rename_i vs k2 p2 q2
        have := asTup_eq q2
        subst this
        rw [Bool.and_eq_true] at h
        exact ps_parX g tk h.1 h.2
      · cases h
    · cases h
  | .putset i k a j b, X, W, sc, t, g, tk, h => by
    simp only [chkS] at h
    split at h
    case h_2 => cases h
    rename_i o2 y tk2 tp v pos q
    have := asgT_eq q
    subst this
    split at h
    case h_2 => cases h
    rename_i o u sp q2
    have := asSub_eq q2
    subst this
    split at h
    case h_2 => cases h
    rename_i x1 x2 vk vp q3
    have := asTup_eq q3
    subst this
    rw [Bool.and_eq_true] at h
    obtain ⟨h1, h⟩ := h
    simp only [Bool.and_eq_true, decide_eq_true_eq] at h
    obtain ⟨h2, h3, h4, h5, h6, h7, h8, h9⟩ := h
    obtain ⟨po, _, _⟩ := nm_of g.toGd h1
    have pa : PA X [x1, x2] _ := pa_cons (snd_E a g.toGd tk h4).pv (pa_cons (snd_E b g.toGd tk h6).pv pa_nil (star_of (good_of (chk_good h6)).1)) (star_of (good_of (chk_good h4)).1)
    have hset := rPutA_ok (X := X) (by have := units_of g.toGd; omega)
    rw [g.W] at hset
    have gy := pg_one (X := X) g.N g.nd g.sto h8
    obtain ⟨yx, yp, rfl, _, _⟩ := patB1_eq h8
    refine (ps_asg (pe_tup pa) (pg_tup (g.calm g.ht) (pgs_cons (pg_sub po (snd_E k g.toGd tk h2).pv hset (assign_sub (good_of (chk_good h2)).2.1)) (pgs_cons gy pgs_nil rfl) rfl) rfl rfl) swaps_other (sw_eq g.sc g.blk h9)).imp fun D σ H z => ?_
    rw [g.K]
    exact r_putset h3 h5 h7 z
  | .app i e, X, W, sc, t, g, tk, h => by
    simp only [chkS] at h
    split at h
    · rename_i v pos q
      have := asExp_eq q
      subst this
      split at h
      · rename_i o m apos y cpos q2
        have := asMeth_eq q2
        subst this
        rw [Bool.and_eq_true, Bool.and_eq_true, Bool.and_eq_true] at h
        obtain ⟨h1, h2, h3, h4⟩ := h
        have h4 := of_decide_eq_true h4
        obtain ⟨po, _, _⟩ := nm_of g.toGd h2
        have hs := (good_of (chk_good h3)).1
        exact (ps_expr (pe_app g.K po (pa_cons (snd_E e g.toGd tk h3).pv pa_nil (star_of hs)) h1 hs) (swaps_none rfl)).imp fun _ _ _ z => r_app h4 z
      · cases h
    · cases h
  | .app2 i, X, W, sc, t, g, tk, h => by
    simp only [chkS] at h
    split at h
    · rename_i v pos q
      have := asExp_eq q
      subst this
      split at h
      · rename_i o m apos y cpos q2
        have := asMeth_eq q2
        subst this
        rw [Bool.and_eq_true, Bool.and_eq_true] at h
        obtain ⟨h1, h2, h3⟩ := h
        obtain ⟨po, _, _⟩ := nm_of g.toGd h2
        split at h3
        · rename_i q3
          have := asLst_eq q3
          subst this
          exact (ps_expr (pe_app g.K po (pa_cons (pe_lst pa_nil) pa_nil rfl) h1 rfl) (swaps_none rfl)).imp fun _ _ _ z => r_app2 z
        · cases h3
      · cases h
    · cases h
  | .appi i j e, X, W, sc, t, g, tk, h => by
    simp only [chkS] at h
    split at h
    · rename_i v pos q
      have := asExp_eq q
      subst this
      split at h
      · rename_i o m apos y cpos q2
        have := asMeth_eq q2
        subst this
        rw [Bool.and_eq_true, Bool.and_eq_true, Bool.and_eq_true] at h
        obtain ⟨h1, h2, h3, h4⟩ := h
        have h4 := of_decide_eq_true h4
        split at h2
        · rename_i z u spos q3
          have := asSub_eq q3
          subst this
          rw [Bool.and_eq_true, Bool.and_eq_true] at h2
          obtain ⟨h5, h6, h7⟩ := h2
          have h7 := of_decide_eq_true h7
          obtain ⟨po, _, _⟩ := nm_of g.toGd h5
          have hs := (good_of (chk_good h3)).1
          have hr := ix_seq (X := X)
          rw [g.K] at hr
          exact (ps_expr (pe_app g.K (pe_ix hr po (snd_E j g.toGd tk h6).pv (plainIx_of (good_of (chk_good h6)).2.1)) (pa_cons (snd_E e g.toGd tk h3).pv pa_nil (star_of hs)) h1 hs) (swaps_none rfl)).imp fun _ _ _ z => r_appi h7 h4 z
        · cases h2
      · cases h
    · cases h
  | .put i k e, X, W, sc, t, g, tk, h => by
    simp only [chkS] at h
    split at h
    · rename_i o u p v pos q
      have := asgS_eq q
      subst this
      rw [Bool.and_eq_true, Bool.and_eq_true, Bool.and_eq_true, Bool.and_eq_true] at h
      obtain ⟨h1, h2, h3, h4, h5⟩ := h
      have h3 := of_decide_eq_true h3
      have h5 := of_decide_eq_true h5
      obtain ⟨po, _, _⟩ := nm_of g.toGd h1
      have hset := rPutA_ok (X := X) (by have := units_of g.toGd; omega)
      rw [g.W] at hset
      exact (ps_asg (snd_E e g.toGd tk h4).pv (pg_sub po (snd_E k g.toGd tk h2).pv hset (assign_sub (good_of (chk_good h2)).2.1)) swaps_sub stores_sub).imp fun _ _ _ z => r_put h3 h5 z
    · cases h
  | .aug i o e, X, W, sc, t, g, tk, h => by
    simp only [chkS] at h
    split at h
    · rename_i x p op v pos q
      have := asAug_eq q
      subst this
      simp only [Bool.and_eq_true, Bool.or_eq_true, decide_eq_true_eq] at h
      obtain ⟨h1, h2, h3, h4, h5⟩ := h
      rcases h5 with ⟨rfl, rfl⟩ | ⟨rfl, rfl⟩
      · exact (ps_aug (by rw [g.N]; exact g.nd) (by rw [g.N]; exact h1) (g.sto.loc x h2) (snd_E e g.toGd tk h3).pv ip_add (g.sto.fn x h2)).imp fun _ _ _ z => r_aug h4 (fun i j => i + j) (fun _ _ => rfl) z
      · exact (ps_aug (by rw [g.N]; exact g.nd) (by rw [g.N]; exact h1) (g.sto.loc x h2) (snd_E e g.toGd tk h3).pv ip_sub (g.sto.fn x h2)).imp fun _ _ _ z => r_aug h4 (fun i j => i - j) (fun _ _ => rfl) z
    · cases h
  | .ex e, X, W, sc, t, g, tk, h => by
    simp only [chkS] at h
    split at h
    · rename_i v pos q
      have := asExp_eq q
      subst this
      rw [Bool.and_eq_true] at h
      exact (ps_expr (snd_E e g.toGd tk h.1).pv (swaps_none h.2)).imp fun _ _ _ z => r_ex z
    · cases h
  | .setf k o f e, X, W, sc, t, g, tk, h => by
    simp only [chkS] at h
    split at h
    · rename_i x y p v pos q
      have := asgF_eq q
      subst this
      simp only [Bool.and_eq_true, decide_eq_true_eq] at h
      obtain ⟨rfl, h2, h3, h4, h5, h6, h7⟩ := h
      obtain ⟨C, hC, cl, na⟩ := g.fld _ h2
      rw [g.K] at cl na
      exact (ps_fld (snd_E o g.toGd tk h3).pv (snd_E e g.toGd tk h5).pv (swaps_none h7)).imp fun _ _ _ z => by rw [g.K]; exact r_setf h4 h6 hC cl na z
    · cases h
  | .augf k o f op e, X, W, sc, t, g, tk, h => by
    simp only [chkS] at h
    split at h
    · rename_i x y p op' v pos q
      have := asAugF_eq q
      subst this
      simp only [Bool.and_eq_true, Bool.or_eq_true, decide_eq_true_eq] at h
      obtain ⟨rfl, h2, h3, h4, h5, h6, h7⟩ := h
      obtain ⟨C, hC, cl, na⟩ := g.fld _ h2
      rw [g.K] at cl na
      rcases h7 with ⟨rfl, rfl⟩ | ⟨rfl, rfl⟩
      · exact (ps_fldaug (snd_E o g.toGd tk h3).pv (snd_E e g.toGd tk h5).pv in_add).imp fun _ _ _ z => by rw [g.K]; exact r_augf h4 h6 hC cl na z
      · exact (ps_fldaug (snd_E o g.toGd tk h3).pv (snd_E e g.toGd tk h5).pv in_sub).imp fun _ _ _ z => by rw [g.K]; exact r_augf h4 h6 hC cl na z
    · cases h
  | .ite d a b, X, W, sc, t, g, tk, h => by
    simp only [chkS] at h
    split at h
    · rename_i q
      have := asIfS_eq q
      subst this
      rw [Bool.and_eq_true, Bool.and_eq_true] at h
      exact (ps_if (snd_E d g.toGd tk h.1).pt (snd_Ss a g tk h.2.1) (snd_Ss b g tk h.2.2)).imp fun _ _ _ z => r_if z
    · cases h
  | .for_ p it b, X, W, sc, t, g, tk, h => by
    simp only [chkS] at h
    split at h
    · rename_i q
      have := asFor_eq q
      subst this
      simp only [Bool.and_eq_true] at h
      obtain ⟨h1, h2, h3, h4⟩ := h
      exact (ps_for g.pass (g.calm g.ht) (snd_I it g.toGd tk h1) (pg_pat (P := P) (c := c) (sc := sc) g.K (g.calm g.ht) g.N g.nd g.sto h2) (snd_Ss b g tk h3) (folded_of h4)).imp fun _ _ _ z => r_for z
    · cases h
  | .forb p i b, X, W, sc, t, g, tk, h => by
    simp only [chkS] at h
    split at h
    · rename_i q
      have := asFor_eq q
      subst this
      simp only [Bool.and_eq_true] at h
      obtain ⟨h1, h2, h3, h4⟩ := h
      split at h1
      · rename_i q2
        have e2 := asName_eq q2
        simp only at e2
        subst e2
        exact (ps_for (wi := iSeqA X.K (tVar i)) g.pass (g.calm g.ht) (pi_seqA (pe_name g.toGd h1)) (pg_pat (P := P) (c := c) (sc := sc) g.K (g.calm g.ht) g.N g.nd g.sto h2) (snd_Ss b g tk h3) (folded_of h4)).imp fun _ _ _ z => by rw [g.K]; exact r_forb z
      · cases h1
    · cases h
  | .while_ d b, X, W, sc, t, g, tk, h => by
    simp only [chkS] at h
    split at h
    · rename_i q
      have := asWhile_eq q
      subst this
      rw [Bool.and_eq_true] at h
      exact (ps_while g.pass (snd_E d g.toGd tk h.1).pt (snd_Ss b g tk h.2)).imp fun _ _ _ z => r_while z
    · cases h
  | .ret e, X, W, sc, t, g, tk, h => by
    simp only [chkS] at h
    split at h
    · rename_i v pos q
      have := asRet_eq q
      subst this
      simp only [Bool.and_eq_true, decide_eq_true_eq] at h
      exact (ps_ret (snd_E e g.toGd tk h.1).pv).imp fun _ _ _ z => r_retS h.2 z
    · cases h
  | .retN, X, W, sc, t, g, tk, h => by
    simp only [chkS] at h
    split at h
    · rename_i q
      have := asRet_eq q
      subst this
      exact ps_retN.imp fun _ _ _ z => r_retN z
    · cases h
  | .brk, X, W, sc, t, g, tk, h => by
    simp only [chkS] at h
    cases t <;> first | (cases h; done) | skip
    exact ps_break.imp fun _ _ _ z => r_brk z
  | .pass, X, W, sc, t, g, tk, h => by
    simp only [chkS] at h
    unfold isPass at h
    split at h
    · exact ps_pass.imp fun _ _ _ z => r_pass z
    · exact ps_doc.imp fun _ _ _ z => r_pass z
    · cases h
  | .stk, X, W, sc, t, g, tk, h => ps_never.imp fun _ _ _ z => r_stk z
  | .raise_ k e, X, W, sc, t, g, tk, h => by
    simp only [chkS] at h
    split at h
    case h_2 => cases h
    rename_i x p args pos rp q
    have := asRai_eq q
    subst this
    simp only [Bool.and_eq_true] at h
    obtain ⟨h1, h2, h3⟩ := h
    split at h3
    case h_2 => cases h3
    rename_i k' fo hlk
    simp only [Bool.and_eq_true, decide_eq_true_eq] at h3
    obtain ⟨rfl, h4⟩ := h3
    have hm := lookup_mem0 hlk
    obtain ⟨C, hC, hmg, ep, hfl⟩ := g.er _ _ _ hm
    split at h4
    · exact (L2N.ps_raise (g.calm g.ht) tk (pmk_own0 PySem.F.excBase_ValueError ep.mkx hmg ep.kp (raises_own ep.ec.hs ep.ty) (gl_of g.toGd h1) (dbg_of h2).1)).imp fun _ _ _ z => r_raise0 hC z
    · rename_i f e y
      simp only [Bool.and_eq_true, decide_eq_true_eq] at h4
      obtain ⟨h5, h6, h7⟩ := h4
      obtain ⟨S, T⟩ := ep.mkx
      refine (L2N.ps_raise (g.calm g.ht) tk (pmk_sup S (g.room g.ht) (gl_of g.toGd h1) hmg (snd_E e g.toGd tk h5).pv (dbg_of h2).1 (star_of h7))).imp fun _ _ _ z => ?_
      have := r_raise1 h6 hC z
      rw [hfl f rfl] at this
      exact this
    · cases h4
  | .try_ i e j ks s, X, W, sc, t, g, tk, h => snd_try g tk h
theorem snd_Ss : ∀ (ss : Ss) {X : Cx} {W : WX} {sc : Scope} {ts : List Stmt}, Gs P G c sc X → L2N.Takes X W → chkSs c sc ss ts = true → PSs X ts (tS P W (execs G ss))
  | .nil, X, W, sc, ts, g, tk, h => by
    cases ts with
    | nil => exact pss_nil.imp fun _ _ _ z => r_nilS z
    | cons _ _ => simp [chkSs] at h
  | .cons s ss, X, W, sc, ts, g, tk, h => by
    cases ts with
    | nil => simp [chkSs] at h
    | cons t ts =>
      simp only [chkSs, Bool.and_eq_true] at h
      exact (pss_cons (snd_S s g tk h.1) (snd_Ss ss g tk h.2)).imp fun _ _ _ z => r_seqS z
  | .frz is ss, X, W, sc, ts, g, tk, h => by
    simp only [chkSs] at h
    exact (snd_Ss ss g tk h).imp fun _ _ _ z => r_frz z
  | .frz1 i ss, X, W, sc, ts, g, tk, h => by
    simp only [chkSs] at h
    exact (snd_Ss ss g tk h).imp fun _ _ _ z => r_frz1 z
end
end
/-! ### defs -/
section
variable {P : Pm} {G : Glo} {os : List Addr} {Z H : Hp} {w : Wd}
theorem bindA_at {os : List Addr} (k : Ok P os w Z H) : ∀ {bw : List Bool} {ds : List VI.D} {vs : List V}, LRs P os Z H bw ds vs → (bindA bw ds).length = ds.length ∧ ∀ (i : Nat) (s : Sl), (bindA bw ds)[i]? = some s → SlotR P (Ex H) os Z H [] s ((vs.map some)[i]?)
  | [], [], [], _ => ⟨rfl, fun i s e => by simp [bindA] at e⟩
  | b :: bs, d :: ds, v :: vs, h => by
    obtain ⟨l, ih⟩ := bindA_at k h.2
    have plain : ∀ (d : VI.D), Rep P os Z d v → ∀ (i : Nat) (s : Sl), (Sl.fz d :: bindA bs ds)[i]? = some s → SlotR P (Ex H) os Z H [] s (((v :: vs).map some)[i]?) := fun d r i s e => by
      cases i with
      | zero => cases e; exact ⟨v, rfl, r⟩
      | succ i => exact ih i s e
    cases b with
    | false => exact ⟨by simp [bindA, l], plain d h.1⟩
    | true =>
      have h1 : LR P os Z H 1 d v := h.1
      cases d with
      | lst xs =>
        refine ⟨by simp [bindA, l], fun i s e => ?_⟩
        cases i with
        | succ i => exact ih i s e
        | zero =>
          cases e
          rcases h1 with r | ⟨a, us, xs', e1, e2, na, hh, r⟩ | ⟨_, _, e1, _⟩
          · unfold Rep at r
            obtain ⟨a, us, rfl, hz, r⟩ := r
            have hh := k.zh a _ hz
            exact ⟨a, us, rfl, fun z => by rw [k.nz a z] at hz; (cases hz), by (show H a ≠ none); rw [hh]; exact fun z => (nomatch z), hh, r⟩
          · cases e1
            subst e2
            exact ⟨a, us, rfl, na, by (show H a ≠ none); rw [hh]; exact fun z => (nomatch z), hh, reps_paired.mpr r⟩
          · cases e1
      | dct kvs =>
        refine ⟨by simp [bindA, l], fun i s e => ?_⟩
        cases i with
        | succ i => exact ih i s e
        | zero => cases e; trivial
      | _ =>
        refine ⟨by simp [bindA, l], plain _ ?_⟩
        rcases h1 with r | ⟨a, us, xs', e1, e2, na, hh, r⟩ | ⟨_, _, e1, _⟩
        · exact r
        · cases e1
        · cases e1
  | [], [], _ :: _, h => h.elim
  | [], _ :: _, _, h => h.elim
  | _ :: _, [], _, h => h.elim
  | _ :: _, _ :: _, [], h => h.elim
theorem slots_start {os : List Addr} (k : Ok P os w Z H) {fi : FnI} {ds : List VI.D} {vs : List V} {N : List Str} (r : LRs P os Z H fi.bw ds vs) (hN : N.length = fi.ns) (hl : ds.length ≤ fi.ns) : Slots P (Ex H) (startE fi ds) (L2.start N vs) (fun _ => []) os Z H := by
  obtain ⟨l, h⟩ := bindA_at k r
  have hlen : ds.length = vs.length := by rw [r.len.1, r.len.2]
  refine ⟨?_, fun i s e => ?_, fun i a ha => (by cases ha), fun i j a ha => (by cases ha), fun i => List.nodup_nil⟩
  · unfold startE L2.start
    simp [l]
    omega
  · unfold startE at e
    by_cases hi : i < ds.length
    · rw [List.getElem?_append_left (by rw [l]; exact hi)] at e
      unfold L2.start
      rw [List.getElem?_append_left (by simp; omega)]
      exact h i s e
    · rw [List.getElem?_append_right (by rw [l]; omega)] at e
      have : s = .no := by
        have := List.mem_of_getElem? e
        exact (List.mem_replicate.mp this).2
      subst this
      trivial
theorem sto_def {X : Cx} (hf : ∀ x, X.fn x = true) : Sto X X.env.scope := ⟨fun x h => loc_of h, fun x h => .inl (hf x)⟩
end
end VI

set_option Elab.async false
set_option linter.all false
set_option maxRecDepth 100000
set_option maxHeartbeats 4000000
/-! VI, part 18e: the def that is told of errors by a lambda. -/
namespace VI
open PySem PySem.Spec PyProof.Rows L2
/-! ### x.count(True) != 1 or not isinstance(e, ValueError) -/
def isTrueC (t : Expr) : Bool := match asConst t with
  | some (.bool b, _, _) => b
  | _ => false
theorem isTrueC_eq {t : Expr} (h : isTrueC t = true) : ∃ k p, t = .Constant (.bool true) k p := by
  unfold isTrueC at h
  split at h
  · rename_i b _ _ q
    have := asConst_eq q
    subst h
    exact ⟨_, _, this⟩
  · cases h
def isOneC (t : Expr) : Bool := match asConst t with
  | some (.int i, _, _) => decide (i = 1)
  | _ => false
theorem isOneC_eq {t : Expr} (h : isOneC t = true) : ∃ k p, t = .Constant (.int 1) k p := by
  unfold isOneC at h
  split at h
  · rename_i b _ _ q
    have := asConst_eq q
    cases of_decide_eq_true h
    exact ⟨_, _, this⟩
  · cases h
def chkCnt (c : Ck) (sc : Scope) (i : Nat) (t : Expr) : Bool := match asMeth t with
  | some (o, m, apos, z, [], pos) => methB o m "count" apos pos 1 && ((match asName o with
    | some (v, _) => nameB c sc i v
    | none => false) && isTrueC z)
  | _ => false
def chkVE (sc : Scope) (n : Str) (t : Expr) : Bool := match asCall t with
  | some (f, _, u, [v], _) => decide (f = Str.ofString "isinstance") && (glB sc f && (isName n u && (match asName v with
    | some (z, _) => decide (z = Str.ofString "ValueError") && glB sc z
    | none => false)))
  | _ => false
def chkOne (c : Ck) (sc : Scope) (n : Str) (i : Nat) (t : Expr) : Bool := match asBool t with
  | some (.Or, x, y, [], _) => (match asCmp1 x with
    | some (l, op, r, _) => decide (op = .NotEq) && (chkCnt c sc i l && isOneC r)
    | none => false) && (match asUn y with
    | some (.Not, z, _) => chkVE sc n z
    | _ => false)
  | _ => false
def tOneK (K : PySem.W.Frag) (i j : Nat) (a : Addr) (dd : Option Addr) : TT := fun σ H Q => (∃ p ds, σ[i]? = some (some (.ref p)) ∧ tyV K "list" (.ref p) H ∧ Dp K H (.ref p) (.list ds) ∧ Dp K H (.bl true) (.bool true) ∧ SeqAt.shaped (.list ds) = true ∧ ds.countP (fun z => PyData.eqv z (.bool true)) = 1) ∧
  (σ[j]? = some (some (.ref a)) ∧ ∀ d, dd = some d → ∃ fs, H d = some (.xd fs)) ∧ Q false H
section
variable {P : Pm} {W : WX} {G : Glo} {c : Ck} {sc : Scope} {X : Cx} {n : Str} {j k : Nat} {a : Addr} {oe : PySem.Obj} {dd : Option Addr} {pn : List (Addr × PySem.Obj)}
theorem pt_one {i : Nat} {t : Expr} {x0 : Str} {fo : Option Str} (g : Gd P G c sc X) (hj : c.N[j]? = some n) (hl : sc.names.lookup n = some .local) (hd : (!dbg n) = true) (he : (x0, (k, fo)) ∈ c.ers) (hz : L2N.Zn (P.cls k) dd oe) (hf : ∃ vs, oe.data = .fields vs) (h : chkOne c sc n i t = true) :
    PT (X.suite a ((a, oe) :: pn)) t (tOneK P.K i j a dd) := by
  have gs := g.suite a ((a, oe) :: pn)
  unfold chkOne at h
  split at h
  case h_2 => cases h
  rename_i x y bpos q
  have := asBool_eq q
  subst this
  rw [Bool.and_eq_true] at h
  obtain ⟨hx, hy⟩ := h
  split at hx
  case h_2 => cases hx
  rename_i l op r cpos q2
  have := asCmp1_eq q2
  simp only at this
  subst this
  simp only [Bool.and_eq_true, decide_eq_true_eq] at hx
  obtain ⟨rfl, h1, h2⟩ := hx
  obtain ⟨rk, rp, rfl⟩ := isOneC_eq h2
  unfold chkCnt at h1
  split at h1
  case h_2 => cases h1
  rename_i o m apos z mpos q3
  have := asMeth_eq q3
  simp only at this
  subst this
  unfold methB at h1
  simp only [Bool.and_eq_true, decide_eq_true_eq] at h1
  obtain ⟨⟨rfl, hln, hc0, _⟩, h3, h4⟩ := h1
  obtain ⟨zk, zp, rfl⟩ := isTrueC_eq h4
  obtain ⟨po, _, _⟩ := nm_of gs h3
  split at hy
  case h_2 => cases hy
  rename_i u upos q4
  have := asUn_eq q4
  simp only at this
  subst this
  unfold chkVE at hy
  split at hy
  case h_2 => cases hy
  rename_i fn fp e v ipos q5
  have := asCall_eq q5
  simp only at this
  subst this
  simp only [Bool.and_eq_true, decide_eq_true_eq] at hy
  obtain ⟨rfl, g1, g2, g3⟩ := hy
  obtain ⟨np, rfl⟩ := isName_eq g2
  split at g3
  case h_2 => cases g3
  rename_i vz vp q6
  have := asName_eq q6
  simp only at this
  subst this
  simp only [Bool.and_eq_true, decide_eq_true_eq] at g3
  obtain ⟨rfl, g4⟩ := g3
  have hu : (X.suite a ((a, oe) :: pn)).A.units + 65 < cLine := gs.un
  have pc := pe_bm (X := X.suite a ((a, oe) :: pn)) PySem.F.plainAttrs_list PySem.F.slot_list_count PySem.F.type_list_count (VL.mt_countD hu) po (pa_cons (pe_bl (b := true) (j := zk) (pos := zp)) pa_nil (by rfl)) (base_of hc0 _) (by rfl) hln (by rfl) rfl
  have hc : OpR (X.suite a ((a, oe) :: pn)) (compareOp (opC .ne)) (rCmp P.K P.wo .ne) := by have := rCmp_ok hu .ne; rw [gs.K, gs.W] at this; exact this
  have px := pt_cmpR (pos := cpos) hc pc (pe_int (i := 1) (j := rk) (pos := rp)) (marks_of rfl)
  obtain ⟨D0, hD, hmg, ep, _⟩ := g.er _ _ _ he
  rw [hD] at hz
  obtain ⟨d1, d2⟩ := dbg_of hd
  have pv : PE (X.suite a ((a, oe) :: pn)) (.Name n np) (tVar j) := pe_var (by show X.N[j]? = _; rw [g.N]; exact hj) (by show Vis X.env.scope n; rw [g.sc]; exact .inl hl) d1 d2
  have pg : PE (X.suite a ((a, oe) :: pn)) (.Name (Str.ofString "ValueError") vp) (tC (.ty "ValueError")) := pe_bltn (u := .type "ValueError") (gl_of gs g4) (gs.blt _ (by decide +kernel)) (by first | rfl | decide +kernel | boot_by_name) rfl
  have pi := pe_callB (pos := ipos) (p := fp) (call_isA ep.ec hz.zc hf) (gl_of gs g1) (gs.blt _ (by decide +kernel)) PyProof.Rows.boot_isinstance (pa_cons pv (pa_cons pg pa_nil)) (by decide +kernel) (by decide +kernel) rfl rfl
  have pz : PT (X.suite a ((a, oe) :: pn)) _ _ := pt_truth pi (isTrue_of rfl)
  refine ((pw_or (pos := bpos) px (pw_or1 (pt_not (pos := upos) pz))).pt).imp fun σ H Q hh => ?_
  obtain ⟨⟨p, ds, e1, e2, e3, e4, e5, e6⟩, ⟨e7, e8⟩, hq⟩ := hh
  have hK : (X.suite a ((a, oe) :: pn)).K = P.K := gs.K
  rw [hK]
  refine ⟨.ref p, e1, e2, ⟨p, .bl true, .bool true, ds, rfl, rfl, e3, e4, e5, rfl, ?_⟩⟩
  rw [e6]
  refine .inl ⟨.int 1, .int 1, .int 1, .int 1, rfl, rfl, _, rfl, ?_⟩
  show if (!PyData.eqv (.int 1) (.int 1)) = true then _ else _
  rw [if_neg (by decide)]
  refine ⟨.ref a, e7, .ty "ValueError", _, true, rfl, fun u hu => hu, (by rw [← g.K]; exact ep.ve), e8, ⟨true, rfl, hq⟩⟩
end
/-! ### the suite -/
def chkXq (c : Ck) (sc : Scope) (n : Str) (j : Nat) : Xq → Stmt → Bool
  | .set i x, t => (match asgN t with
    | some (y, _, v, _) => decide (c.N[i]? = some y) && (locB sc y && (chkX c sc n x v && (noComp v && decide (i ≠ j))))
    | none => false)
  | .one i, t => (match asIfS t with
    | some (u, _, [], _) => chkOne c sc n i u
    | _ => false)
def chkXqs (c : Ck) (sc : Scope) (n : Str) (j : Nat) : List Xq → List Stmt → Bool
  | [], [] => true
  | q :: qs, t :: ts => chkXq c sc n j q t && chkXqs c sc n j qs ts
  | _, _ => false
def tQ (P : Pm) (G : Glo) (j : Nat) (a : Addr) (dd : Option Addr) (k : Nat) (f : Option VI.D) (qs : List Xq) : TS := fun D σ H => ∃ os Z w env ad B, Ok P os w Z H ∧ Slots P B env σ ad os Z H ∧ (∀ a, B a → H a ≠ none) ∧ JE P j a dd k f σ os Z H ∧ env[j]? = some .no ∧
  match xqs G k f qs env w with
  | .ok env' w' => ∀ σ' os' Z' H' ad', Step B os Z H os' Z' H' → Ok P os' w' Z' H' → Slots P B env' σ' ad' os' Z' H' → env'[j]? = some .no → D.nx σ' H'
  | _ => False
theorem bols_py : ∀ {xs : List VI.D} {bs : List Bool}, bolsL xs = some bs → toPys xs = bs.map PyData.bool ∧ ∀ m, allOk m xs
  | [], bs, h => by
    cases h
    exact ⟨rfl, fun m x hx => (by cases hx)⟩
  | x :: xs, bs, h => by
    cases x <;> first | (cases h; done) | skip
    obtain ⟨cs, e, rfl⟩ := Option.map_eq_some_iff.mp h
    obtain ⟨h1, h2⟩ := bols_py e
    refine ⟨by simp [toPys, toPy, h1], fun m y hy => ?_⟩
    rcases List.mem_cons.mp hy with rfl | hy
    · cases m <;> rfl
    · exact h2 m y hy
section
variable {P : Pm} {W : WX} {G : Glo} {c : Ck} {sc : Scope} {X : Cx} {n : Str} {j k : Nat} {a : Addr} {oe : PySem.Obj} {dd : Option Addr} {pn : List (Addr × PySem.Obj)} {f : Option VI.D}
theorem JE.setI {i : Nat} {σ : Stt} {os : List Addr} {Z H : Hp} {v : V} (h : JE P j a dd k f σ os Z H) (hi : i ≠ j) : JE P j a dd k f (σ.set i (some v)) os Z H := ⟨by rw [List.getElem?_set_ne hi]; exact h.1, h.2⟩
theorem JE.dd_at {σ : Stt} {os : List Addr} {Z H : Hp} (h : JE P j a dd k f σ os Z H) : ∀ d, dd = some d → ∃ fs, H d = some (.xd fs) := fun d e => by
  have h2 := h.2
  cases f with
  | none => rw [e] at h2; cases h2
  | some x =>
    obtain ⟨ad, v, e3, e4, _⟩ := h2
    rw [e] at e3
    cases e3
    exact ⟨_, e4⟩
theorem snd_Xqs (g : Gs P G c sc X) (hj : c.N[j]? = some n) (hl : sc.names.lookup n = some .local) (hd : (!dbg n) = true) {x0 : Str} {fo : Option Str} (he : (x0, (k, fo)) ∈ c.ers) (hz : L2N.Zn (P.cls k) dd oe) (hf : ∃ vs, oe.data = .fields vs) :
    ∀ (qs : List Xq) {ts : List Stmt}, chkXqs c sc n j qs ts = true → PSs (X.suite a ((a, oe) :: pn)) ts (tQ P G j a dd k f qs)
  | [], ts, h => by
    cases ts with
    | cons _ _ => simp [chkXqs] at h
    | nil =>
      refine pss_nil.imp fun D σ H z => ?_
      obtain ⟨os, Z, w, env, ad, B, k0, sl, hB, jj, hn, out⟩ := z
      exact out σ os Z H ad Step.refl k0 sl hn
  | .set i x :: qs, ts, h => by
    cases ts with
    | nil => simp [chkXqs] at h
    | cons t ts =>
      simp only [chkXqs, Bool.and_eq_true] at h
      obtain ⟨h0, h6⟩ := h
      simp only [chkXq] at h0
      split at h0
      case h_2 => cases h0
      rename_i y yp v pos q
      have := asgN_eq q
      subst this
      simp only [Bool.and_eq_true, decide_eq_true_eq] at h0
      obtain ⟨h1, h2, h3, h4, h5⟩ := h0
      have iv := snd_X (f := f) (a := a) (pn := pn) g.toGd hj hl hd he hz hf x h3
      refine (pss_cons (ps_set (X := X.suite a ((a, oe) :: pn)) (by show X.N.Nodup; rw [g.N]; exact g.nd) (by show X.N[i]? = _; rw [g.N]; exact h1) (g.sto.loc y h2) iv (swaps_none h4) (g.sto.fn y h2)) (snd_Xqs g hj hl hd he hz hf qs h6)).imp fun D σ H z => ?_
      obtain ⟨os, Z, w, env, ad, B, k0, sl, hB, jj, hn, out⟩ := z
      refine ⟨os, Z, w, env, ad, B, k0, sl, jj, ?_⟩
      have out : match VI.bnd (xv G k f x env) (fun d => xqs G k f qs (env.set i (.fz d))) w with
        | .ok env' w' => ∀ σ' os' Z' H' ad', Step B os Z H os' Z' H' → Ok P os' w' Z' H' → Slots P B env' σ' ad' os' Z' H' → env'[j]? = some .no → D.nx σ' H'
        | _ => False := out
      cases q2 : xv G k f x env w with
      | no => simp only [VI.bnd, q2] at out
      | exn c2 f2 w2 => simp only [VI.bnd, q2] at out
      | ok d w1 =>
        simp only [VI.bnd, q2] at out
        intro os1 Z1 H1 st k1 v r
        have r : Rep P os1 Z1 d v := r
        have sl1 := (sl.step st).setFz i r
        refine ⟨os1, Z1, w1, env.set i (.fz d), _, B, k1, sl1, fun b hb => st.there b (hB b hb), (je_ok k0 st jj).setI h5, by rw [List.getElem?_set_ne h5]; exact hn, ?_⟩
        cases q3 : xqs G k f qs (env.set i (.fz d)) w1 with
        | no => simp only [q3] at out
        | exn c2 f2 w2 => simp only [q3] at out
        | ok env' w' =>
          simp only [q3] at out
          exact fun σ' os' Z' H' ad' st2 => out σ' os' Z' H' ad' ((st.sub hB).trans st2)
  | .one i :: qs, ts, h => by
    cases ts with
    | nil => simp [chkXqs] at h
    | cons t ts =>
      simp only [chkXqs, Bool.and_eq_true] at h
      obtain ⟨h0, h6⟩ := h
      simp only [chkXq] at h0
      split at h0
      case h_2 => cases h0
      rename_i u ss pos q
      have := asIfS_eq q
      subst this
      have pt := pt_one (a := a) (pn := pn) g.toGd hj hl hd he hz hf h0
      refine (pss_cons (ps_if (X := X.suite a ((a, oe) :: pn)) (pos := pos) pt (pss_never (sts := ss)) pss_nil) (snd_Xqs g hj hl hd he hz hf qs h6)).imp fun D σ H z => ?_
      obtain ⟨os, Z, w, env, ad, B, k0, sl, hB, jj, hn, out⟩ := z
      have out : match VI.bnd (lft (look env i)) (fun d => bnd (lft (oneT d)) fun _ => xqs G k f qs env) w with
        | .ok env' w' => ∀ σ' os' Z' H' ad', Step B os Z H os' Z' H' → Ok P os' w' Z' H' → Slots P B env' σ' ad' os' Z' H' → env'[j]? = some .no → D.nx σ' H'
        | _ => False := out
      cases e1 : look env i with
      | none => rw [e1] at out; exact out.elim
      | some d =>
        rw [e1] at out
        have out : match VI.bnd (lft (oneT d)) (fun _ => xqs G k f qs env) w with
          | .ok env' w' => ∀ σ' os' Z' H' ad', Step B os Z H os' Z' H' → Ok P os' w' Z' H' → Slots P B env' σ' ad' os' Z' H' → env'[j]? = some .no → D.nx σ' H'
          | _ => False := out
        have e4 : env[i]? = some (.fz d) := by
          unfold look at e1
          split at e1
          · rename_i q3
            rw [q3]
            cases e1
            rfl
          · cases e1
        cases e2 : oneT d with
        | none => rw [e2] at out; exact out.elim
        | some u2 =>
          rw [e2] at out
          have out : match xqs G k f qs env w with
            | .ok env' w' => ∀ σ' os' Z' H' ad', Step B os Z H os' Z' H' → Ok P os' w' Z' H' → Slots P B env' σ' ad' os' Z' H' → env'[j]? = some .no → D.nx σ' H'
            | _ => False := out
          have out2 := out
          clear out
          unfold oneT at e2
          split at e2
          case h_2 => cases e2
          rename_i xs
          obtain ⟨bs, b1, b2⟩ := Option.bind_eq_some_iff.mp e2
          obtain ⟨b3, b4⟩ := bols_py b1
          obtain ⟨v, es, rv⟩ := sl.at_ i _ e4
          have hok : VI.D.ok dpt (.lst xs) = true := List.all_eq_true.mpr fun x hx => b4 11 x hx
          have dp := (LR.of (n := 1) (H := H) rv).dp k0.zh hok
          have hsh := shaped_of hok
          obtain ⟨p, vs, rfl, hp, rr⟩ := Rep.lst rv
          have hcount : bs.count true = 1 := by
            by_cases hc : bs.count true = 1
            · exact hc
            · rw [if_neg hc] at b2; cases b2
          refine ⟨⟨p, toPys xs, es, .inl ⟨rfl, vs, .of (k0.zh _ _ hp)⟩, dp, .bl true, hsh, ?_⟩, ⟨jj.1, jj.dd_at⟩, ?_⟩
          · rw [b3, List.countP_map, ← hcount]
            unfold List.count
            congr 1
          · exact ⟨os, Z, w, env, ad, B, k0, sl, hB, jj, hn, out2⟩
end
/-! ### the whole def -/
def gs (x : String) : Str := Str.ofString x
/-- known, words, word, field, found: the slots 3, 4, 5, 6, 1 -/
def errSuite : List Xq := [(.set 3 (.isl [313472750447771142742381, 313472752403742450085479, 18684431819892077])),
  (.set 3 (.vadd 3 (.isl [1224502934743496418419]))),
  (.set 3 (.vadd 3 (.isl [1224502934696352440684, 72986062710114, 4783214558459031667]))),
  (.set 3 (.vadd 3 (.isl [1224502930358552326771]))),
  (.set 3 (.vadd 3 (.isl [4783214571628553586, 94822542445409321706023028]))),
  (.set 3 (.vadd 3 (.isl [1446157180335893144691, 22077593589212773]))),
  (.set 3 (.vadd 3 (.isl [4783214520039730804, 22077593606256756, 23766421873979001]))),
  (.one 3),
  (.set 4 (.lit (.lst (.cons (.str ⟨#[112, 114, 111, 103, 114, 97, 109]⟩) (.cons (.str ⟨#[119, 101, 97, 118, 105, 110, 103]⟩) (.cons (.str ⟨#[105, 116, 101, 109]⟩) (.cons (.str ⟨#[115, 116, 97, 110, 100, 115]⟩) (.cons (.str ⟨#[115, 105, 103, 110, 97, 108]⟩) (.cons (.str ⟨#[119, 101, 98]⟩) (.cons (.str ⟨#[108, 97, 109, 112, 115]⟩) (.cons (.str ⟨#[111, 119, 110, 101, 114, 115]⟩) (.cons (.str ⟨#[111, 114, 100, 101, 114]⟩) .nil)))))))))))),
  (.set 4 (.lit (.bin .add (.var 4) (.lst (.cons (.str ⟨#[115, 116, 114, 97, 105, 103, 104, 116]⟩) (.cons (.str ⟨#[110, 101, 118, 101, 114]⟩) (.cons (.str ⟨#[115, 97, 102, 101]⟩) (.cons (.str ⟨#[99, 111, 117, 110, 116]⟩) (.cons (.str ⟨#[116, 101, 120, 116]⟩) (.cons (.str ⟨#[109, 97, 110, 121]⟩) .nil)))))))))),
  (.set 5 (.lit (.ix (.var 4) (.idx (.var 3) (.bl true))))),
  (.set 6 (.itl (.cmp .eq (.var 5) (.str ⟨#[112, 114, 111, 103, 114, 97, 109]⟩)) (.fld [313472750447771142742381] ⟨#[112, 108, 97, 99, 101]⟩) (.itl (.cmp .eq (.var 5) (.str ⟨#[109, 97, 110, 121]⟩)) (.fld [23766421873979001] ⟨#[109, 111, 115, 116]⟩) (.lit .non)))),
  (.set 1 (.tup2 (.lit (.var 5)) (.itl (.cmp .isin (.var 5) (.lst (.cons (.str ⟨#[119, 101, 97, 118, 105, 110, 103]⟩) (.cons (.str ⟨#[119, 101, 98]⟩) (.cons (.str ⟨#[108, 97, 109, 112, 115]⟩) .nil))))) (.fld [313472752403742450085479, 72986062710114, 4783214558459031667] ⟨#[105, 110, 100, 101, 120]⟩) (.lit (.var 6)))))]
def errOk0 : VI.D := .tup [.str ⟨#[]⟩, .non]
def errEnv : Env := [.no, .fz errOk0, .no, .no, .no, .no, .no]
def wordsD : VI.D := .lst [.str ⟨#[112, 114, 111, 103, 114, 97, 109]⟩, .str ⟨#[119, 101, 97, 118, 105, 110, 103]⟩, .str ⟨#[105, 116, 101, 109]⟩, .str ⟨#[115, 116, 97, 110, 100, 115]⟩, .str ⟨#[115, 105, 103, 110, 97, 108]⟩, .str ⟨#[119, 101, 98]⟩, .str ⟨#[108, 97, 109, 112, 115]⟩, .str ⟨#[111, 119, 110, 101, 114, 115]⟩, .str ⟨#[111, 114, 100, 101, 114]⟩, .str ⟨#[115, 116, 114, 97, 105, 103, 104, 116]⟩, .str ⟨#[110, 101, 118, 101, 114]⟩, .str ⟨#[115, 97, 102, 101]⟩, .str ⟨#[99, 111, 117, 110, 116]⟩, .str ⟨#[116, 101, 120, 116]⟩, .str ⟨#[109, 97, 110, 121]⟩]
theorem errS0 {G : Glo} {w : Wd} {v : VI.D} : xqs G 313472750447771142742381 (some v) errSuite errEnv w = .ok [.no, .fz (.tup [.str ⟨#[112, 114, 111, 103, 114, 97, 109]⟩, v]), .no, .fz (.lst [.bl true, .bl false, .bl false, .bl false, .bl false, .bl false, .bl false, .bl false, .bl false, .bl false, .bl false, .bl false, .bl false, .bl false, .bl false]), .fz wordsD, .fz (.str ⟨#[112, 114, 111, 103, 114, 97, 109]⟩), .fz v] w := by kernel_rfl
theorem errS1 {G : Glo} {w : Wd} {v : VI.D} : xqs G 313472752403742450085479 (some v) errSuite errEnv w = .ok [.no, .fz (.tup [.str ⟨#[119, 101, 97, 118, 105, 110, 103]⟩, v]), .no, .fz (.lst [.bl false, .bl true, .bl false, .bl false, .bl false, .bl false, .bl false, .bl false, .bl false, .bl false, .bl false, .bl false, .bl false, .bl false, .bl false]), .fz wordsD, .fz (.str ⟨#[119, 101, 97, 118, 105, 110, 103]⟩), .fz .non] w := by kernel_rfl
theorem errS2 {G : Glo} {w : Wd} : xqs G 18684431819892077 none errSuite errEnv w = .ok [.no, .fz (.tup [.str ⟨#[105, 116, 101, 109]⟩, .non]), .no, .fz (.lst [.bl false, .bl false, .bl true, .bl false, .bl false, .bl false, .bl false, .bl false, .bl false, .bl false, .bl false, .bl false, .bl false, .bl false, .bl false]), .fz wordsD, .fz (.str ⟨#[105, 116, 101, 109]⟩), .fz .non] w := by kernel_rfl
theorem errS3 {G : Glo} {w : Wd} : xqs G 1224502934743496418419 none errSuite errEnv w = .ok [.no, .fz (.tup [.str ⟨#[115, 116, 97, 110, 100, 115]⟩, .non]), .no, .fz (.lst [.bl false, .bl false, .bl false, .bl true, .bl false, .bl false, .bl false, .bl false, .bl false, .bl false, .bl false, .bl false, .bl false, .bl false, .bl false]), .fz wordsD, .fz (.str ⟨#[115, 116, 97, 110, 100, 115]⟩), .fz .non] w := by kernel_rfl
theorem errS4 {G : Glo} {w : Wd} : xqs G 1224502934696352440684 none errSuite errEnv w = .ok [.no, .fz (.tup [.str ⟨#[115, 105, 103, 110, 97, 108]⟩, .non]), .no, .fz (.lst [.bl false, .bl false, .bl false, .bl false, .bl true, .bl false, .bl false, .bl false, .bl false, .bl false, .bl false, .bl false, .bl false, .bl false, .bl false]), .fz wordsD, .fz (.str ⟨#[115, 105, 103, 110, 97, 108]⟩), .fz .non] w := by kernel_rfl
theorem errS5 {G : Glo} {w : Wd} {v : VI.D} : xqs G 72986062710114 (some v) errSuite errEnv w = .ok [.no, .fz (.tup [.str ⟨#[119, 101, 98]⟩, v]), .no, .fz (.lst [.bl false, .bl false, .bl false, .bl false, .bl false, .bl true, .bl false, .bl false, .bl false, .bl false, .bl false, .bl false, .bl false, .bl false, .bl false]), .fz wordsD, .fz (.str ⟨#[119, 101, 98]⟩), .fz .non] w := by kernel_rfl
theorem errS6 {G : Glo} {w : Wd} {v : VI.D} : xqs G 4783214558459031667 (some v) errSuite errEnv w = .ok [.no, .fz (.tup [.str ⟨#[108, 97, 109, 112, 115]⟩, v]), .no, .fz (.lst [.bl false, .bl false, .bl false, .bl false, .bl false, .bl false, .bl true, .bl false, .bl false, .bl false, .bl false, .bl false, .bl false, .bl false, .bl false]), .fz wordsD, .fz (.str ⟨#[108, 97, 109, 112, 115]⟩), .fz .non] w := by kernel_rfl
theorem errS7 {G : Glo} {w : Wd} : xqs G 1224502930358552326771 none errSuite errEnv w = .ok [.no, .fz (.tup [.str ⟨#[111, 119, 110, 101, 114, 115]⟩, .non]), .no, .fz (.lst [.bl false, .bl false, .bl false, .bl false, .bl false, .bl false, .bl false, .bl true, .bl false, .bl false, .bl false, .bl false, .bl false, .bl false, .bl false]), .fz wordsD, .fz (.str ⟨#[111, 119, 110, 101, 114, 115]⟩), .fz .non] w := by kernel_rfl
theorem errS8 {G : Glo} {w : Wd} : xqs G 4783214571628553586 none errSuite errEnv w = .ok [.no, .fz (.tup [.str ⟨#[111, 114, 100, 101, 114]⟩, .non]), .no, .fz (.lst [.bl false, .bl false, .bl false, .bl false, .bl false, .bl false, .bl false, .bl false, .bl true, .bl false, .bl false, .bl false, .bl false, .bl false, .bl false]), .fz wordsD, .fz (.str ⟨#[111, 114, 100, 101, 114]⟩), .fz .non] w := by kernel_rfl
theorem errS9 {G : Glo} {w : Wd} : xqs G 94822542445409321706023028 none errSuite errEnv w = .ok [.no, .fz (.tup [.str ⟨#[115, 116, 114, 97, 105, 103, 104, 116]⟩, .non]), .no, .fz (.lst [.bl false, .bl false, .bl false, .bl false, .bl false, .bl false, .bl false, .bl false, .bl false, .bl true, .bl false, .bl false, .bl false, .bl false, .bl false]), .fz wordsD, .fz (.str ⟨#[115, 116, 114, 97, 105, 103, 104, 116]⟩), .fz .non] w := by kernel_rfl
theorem errS10 {G : Glo} {w : Wd} : xqs G 1446157180335893144691 none errSuite errEnv w = .ok [.no, .fz (.tup [.str ⟨#[110, 101, 118, 101, 114]⟩, .non]), .no, .fz (.lst [.bl false, .bl false, .bl false, .bl false, .bl false, .bl false, .bl false, .bl false, .bl false, .bl false, .bl true, .bl false, .bl false, .bl false, .bl false]), .fz wordsD, .fz (.str ⟨#[110, 101, 118, 101, 114]⟩), .fz .non] w := by kernel_rfl
theorem errS11 {G : Glo} {w : Wd} : xqs G 22077593589212773 none errSuite errEnv w = .ok [.no, .fz (.tup [.str ⟨#[115, 97, 102, 101]⟩, .non]), .no, .fz (.lst [.bl false, .bl false, .bl false, .bl false, .bl false, .bl false, .bl false, .bl false, .bl false, .bl false, .bl false, .bl true, .bl false, .bl false, .bl false]), .fz wordsD, .fz (.str ⟨#[115, 97, 102, 101]⟩), .fz .non] w := by kernel_rfl
theorem errS12 {G : Glo} {w : Wd} : xqs G 4783214520039730804 none errSuite errEnv w = .ok [.no, .fz (.tup [.str ⟨#[99, 111, 117, 110, 116]⟩, .non]), .no, .fz (.lst [.bl false, .bl false, .bl false, .bl false, .bl false, .bl false, .bl false, .bl false, .bl false, .bl false, .bl false, .bl false, .bl true, .bl false, .bl false]), .fz wordsD, .fz (.str ⟨#[99, 111, 117, 110, 116]⟩), .fz .non] w := by kernel_rfl
theorem errS13 {G : Glo} {w : Wd} : xqs G 22077593606256756 none errSuite errEnv w = .ok [.no, .fz (.tup [.str ⟨#[116, 101, 120, 116]⟩, .non]), .no, .fz (.lst [.bl false, .bl false, .bl false, .bl false, .bl false, .bl false, .bl false, .bl false, .bl false, .bl false, .bl false, .bl false, .bl false, .bl true, .bl false]), .fz wordsD, .fz (.str ⟨#[116, 101, 120, 116]⟩), .fz .non] w := by kernel_rfl
theorem errS14 {G : Glo} {w : Wd} {v : VI.D} : xqs G 23766421873979001 (some v) errSuite errEnv w = .ok [.no, .fz (.tup [.str ⟨#[109, 97, 110, 121]⟩, v]), .no, .fz (.lst [.bl false, .bl false, .bl false, .bl false, .bl false, .bl false, .bl false, .bl false, .bl false, .bl false, .bl false, .bl false, .bl false, .bl false, .bl true]), .fz wordsD, .fz (.str ⟨#[109, 97, 110, 121]⟩), .fz v] w := by kernel_rfl
theorem errSuite_ok {G : Glo} {k : Nat} {f : Option VI.D} {d : VI.D} {w : Wd} (h : errRes k f = some d) : ∃ env', xqs G k f errSuite errEnv w = .ok env' w ∧ env'[1]? = some (.fz d) ∧ env'[2]? = some .no := by
  have key : ∀ p ∈ errTab, (p.2.2 = true → ∀ v, ∃ env', xqs G p.1 (some v) errSuite errEnv w = .ok env' w ∧ env'[1]? = some (.fz (.tup [.str p.2.1, v])) ∧ env'[2]? = some .no) ∧
      (p.2.2 = false → ∃ env', xqs G p.1 none errSuite errEnv w = .ok env' w ∧ env'[1]? = some (.fz (.tup [.str p.2.1, .non])) ∧ env'[2]? = some .no) := by
    intro p hp
    unfold errTab at hp
    simp only [List.mem_cons, List.not_mem_nil, or_false] at hp
    rcases hp with rfl | rfl | rfl | rfl | rfl | rfl | rfl | rfl | rfl | rfl | rfl | rfl | rfl | rfl | rfl
    · exact ⟨fun _ v => ⟨_, errS0, rfl, rfl⟩, fun z => (by cases z)⟩
    · exact ⟨fun _ v => ⟨_, errS1, rfl, rfl⟩, fun z => (by cases z)⟩
    · exact ⟨fun z => (by cases z), fun _ => ⟨_, errS2, rfl, rfl⟩⟩
    · exact ⟨fun z => (by cases z), fun _ => ⟨_, errS3, rfl, rfl⟩⟩
    · exact ⟨fun z => (by cases z), fun _ => ⟨_, errS4, rfl, rfl⟩⟩
    · exact ⟨fun _ v => ⟨_, errS5, rfl, rfl⟩, fun z => (by cases z)⟩
    · exact ⟨fun _ v => ⟨_, errS6, rfl, rfl⟩, fun z => (by cases z)⟩
    · exact ⟨fun z => (by cases z), fun _ => ⟨_, errS7, rfl, rfl⟩⟩
    · exact ⟨fun z => (by cases z), fun _ => ⟨_, errS8, rfl, rfl⟩⟩
    · exact ⟨fun z => (by cases z), fun _ => ⟨_, errS9, rfl, rfl⟩⟩
    · exact ⟨fun z => (by cases z), fun _ => ⟨_, errS10, rfl, rfl⟩⟩
    · exact ⟨fun z => (by cases z), fun _ => ⟨_, errS11, rfl, rfl⟩⟩
    · exact ⟨fun z => (by cases z), fun _ => ⟨_, errS12, rfl, rfl⟩⟩
    · exact ⟨fun z => (by cases z), fun _ => ⟨_, errS13, rfl, rfl⟩⟩
    · exact ⟨fun _ v => ⟨_, errS14, rfl, rfl⟩, fun z => (by cases z)⟩
  unfold errRes at h
  split at h
  · rename_i x v q
    cases h
    exact (key _ (lookup_mem0 q)).1 rfl v
  · rename_i x q
    cases h
    exact (key _ (lookup_mem0 q)).2 rfl
  · cases h
end VI
namespace VI
open PySem PySem.Spec PyProof.Rows L2
def errTup : E := .tup (.cons (.str ⟨#[]⟩) (.cons .non .nil))
def chkErrD (c : Ck) (sc : Scope) (body : List Stmt) : Bool := match body with
  | [s1, .Try [.Expr (.Call (.Name a _) [] [] _) _] [.ExceptHandler (some (.Name x _)) (some n) (b0 :: suite) _] [] [] _, .Return (some v) _] =>
    (match asgN s1 with
    | some (y, _, u, _) => decide (c.N[1]? = some y) && (locB sc y && (chkE c sc errTup u && noComp u))
    | none => false) && (decide (c.N[0]? = some a) && (visB sc a && (!dbg a && (decide (x = heN) && (glB sc x && (!dbg x && (decide (c.N[2]? = some n) && (decide (sc.names.lookup n = some .local) && (!dbg n &&
    (chkXqs c sc n 2 errSuite (b0 :: suite) && (chkE c sc (.var 1) v && (decide (c.N.length = 7) && ((!c.hot) && (errTab.all fun p => c.ers.any fun q => decide (q.2.1 = p.1)))))))))))))))
  | _ => false
theorem Ok.noOs {P : Pm} {os : List Addr} {w : Wd} {Z H : Hp} (k : Ok P os w Z H) {a : Addr} {o : HO} (h : H a = some o) (h1 : ∀ vs, o ≠ .lst vs) (h2 : ∀ C dx vs, o ≠ .ins C dx vs) : a ∉ os := fun ha => by
  obtain ⟨n, hn, e⟩ := List.mem_iff_getElem.mp ha
  have e1 : os[n]? = some a := by rw [List.getElem?_eq_getElem hn, e]
  have e2 : n < w.length := by rw [← k.len]; exact hn
  have h3 := k.obj n a w[n] e1 (List.getElem?_eq_getElem e2)
  cases q2 : w[n] with
  | cells ds =>
    rw [q2] at h3
    obtain ⟨vs, e1, _⟩ := h3
    rw [h] at e1
    exact h1 _ (Option.some.inj e1)
  | inst c fs =>
    rw [q2] at h3
    obtain ⟨C, dx, vs, _, e1, _⟩ := h3
    rw [h] at e1
    exact h2 _ _ _ (Option.some.inj e1)
/-- a lambda stays there -/
theorem lamK_step {P : Pm} {os os' : List Addr} {w : Wd} {Z H Z' H' : Hp} {X : Cx} {params : Arguments} {body : Expr} {scope : Scope} {f c' : Addr} (k : Ok P os w Z H) (s : Step (Ex H) os Z H os' Z' H') (h : VL.LamK X H params body scope f c') : VL.LamK X H' params body scope f c' := by
  have kp : ∀ a o, H a = some o → (∀ vs, o ≠ .lst vs) → (∀ C dx vs, o ≠ .ins C dx vs) → NT o → H' a = some o := fun a o e h1 h2 nt => s.keep a o (by show H a ≠ none; rw [e]; exact fun z => nomatch z) e (k.noOs e h1 h2) nt
  obtain ⟨⟨dV, h1, h2⟩, h3⟩ := h
  refine ⟨⟨dV, kp _ _ h1 (fun vs z => by unfold VL.LamO at z; cases z) (fun C dx vs z => by unfold VL.LamO at z; cases z) VL.lamO_nt, ?_⟩, kp _ _ h3 (fun vs z => by unfold LamX.CodeO at z; cases z) (fun C dx vs z => by unfold LamX.CodeO at z; cases z) LamX.codeO_ne⟩
  unfold VL.DfT at h2 ⊢
  split at h2
  · obtain ⟨t0, e1, e2⟩ := h2
    exact ⟨t0, e1, kp _ _ e2 (fun vs z => by cases z) (fun C dx vs z => by cases z) (fun _ z => by cases z)⟩
  · exact h2
section
variable {P : Pm} {G : Glo} {c : Ck} {X : Cx}
theorem takes_no {X : Cx} : L2N.Takes X WN := fun u s1 x => by
  obtain ⟨_, _, _, _, _, _, _, _, _, _, _, _, _, _, _, _, z⟩ := x
  exact z.elim
theorem err_ok {n : Nat} {g : Addr} {params : Arguments} {body : List Stmt} {sc : Scope} {dV kV doc pm cdv ct oc : Value} {an od : Option Addr} {osl : Array (Option Value)} {a : Str} {nm ql : Str}
    (hm : X.mg errN = some (.ref g)) (hk : PySem.W.keepIn X.K (.ref g) = true) (lk : X.K.lookup g = some ⟨oc, od, .func (PySem.W.fnOf nm ql params body sc dV kV doc pm an cdv ct), osl⟩) (hcd : PySem.W.codeIn X.K cdv ql = true) (S : FnScope c.N [a] sc)
    (hb : Binds X.K (PySem.W.fnOf nm ql params body sc dV kV doc pm an cdv ct) [a] []) (hr : Room (n + 2) X.A) (hchk : chkErrD c sc body = true)
    (gs : ∀ (s : Shared) (H : Hp), Room (n + 1) (X.A.deeper (envOfC ql sc s.heap.objs.size g cdv)) → Gs P G c sc (cxOf (L2N.CX X.prog X.w) X.prog X.w X.K X.mg X.base c.N ql sc g cdv X.A X.stack s H fun _ _ _ => False)) : ErrOk P X n := by
  refine ⟨g, hm, hk, fun W pins s σ H Q m params' body' scope' f c' I L hp ha hpl hk' hbody hX => ?_⟩
  refine LamX.run_ofS (CX := L2N.CX X.prog X.w) (N := c.N) (ps := [a]) (us := [.ref f]) (vs := [.ref f]) lk hcd S hr I.env0 (hb s [.ref f] I.kIn rfl) (.cons rfl .nil) rfl fun hr' => ?_
  have g' := gs s H hr'
  unfold chkErrD at hchk
  split at hchk
  case h_2 => cases hchk
  rename_i s1 a' ap cp ep x xp nn b0 suite hp2 tp v rp
  simp only [Bool.and_eq_true, decide_eq_true_eq] at hchk
  obtain ⟨c0, c1, c2, c3, c4, c5, c6, c7, c8, c9, c10, c11, c12, c13, c14⟩ := hchk
  subst c4
  split at c0
  case h_2 => cases c0
  rename_i y yp u pos q
  have := asgN_eq q
  subst this
  simp only [Bool.and_eq_true, decide_eq_true_eq] at c0
  obtain ⟨d1, d2, d3, d4⟩ := c0
  have hmem : ∀ {k : Nat} {f : Option VI.D} {d : VI.D}, errRes k f = some d → ∃ x fo, (x, (k, fo)) ∈ c.ers := fun {k f d} h => by
    have : ∃ z, errTab.lookup k = some z := by
      unfold errRes at h
      split at h
      · exact ⟨_, ‹_›⟩
      · exact ⟨_, ‹_›⟩
      · cases h
    obtain ⟨z, hz⟩ := this
    obtain ⟨p, hp, e1⟩ := List.any_eq_true.mp (List.all_eq_true.mp c14 _ (lookup_mem0 hz))
    have e1 := of_decide_eq_true e1
    obtain ⟨x1, k1, fo⟩ := p
    simp only at e1
    subst e1
    exact ⟨x1, fo, hp⟩
  have hne : c.ers ≠ [] := by
    obtain ⟨p, hp, _⟩ := List.any_eq_true.mp (List.all_eq_true.mp c14 _ (List.mem_cons_self))
    exact List.ne_nil_of_mem hp
  have hex : ∀ {k : Nat}, (∃ x fo, (x, (k, fo)) ∈ c.ers) → PySem.W.exmOne X.K (P.cls k) (.ref (He.ga X.K heN)) = some true := fun {k} ⟨x1, fo, hp⟩ => by
    obtain ⟨C, hC, _, ep, _⟩ := g'.er _ _ _ hp
    rw [hC]
    exact ep.ex
  have hln : (cxOf (L2N.CX X.prog X.w) X.prog X.w X.K X.mg X.base c.N ql sc g cdv X.A X.stack s H fun _ _ _ => False).env.kindOf nn = some .local := by
    show (cxOf (L2N.CX X.prog X.w) X.prog X.w X.K X.mg X.base c.N ql sc g cdv X.A X.stack s H fun _ _ _ => False).env.scope.names.lookup nn = _
    rw [g'.sc]; exact c8
  have hnm : Names (cxOf (L2N.CX X.prog X.w) X.prog X.w X.K X.mg X.base c.N ql sc g cdv X.A X.stack s H fun _ _ _ => False) heN (.ref (He.ga X.K heN)) := ⟨gl_of g'.toGd c5, (dbg_of c6).1, .inl (g'.he hne)⟩
  have p1 := ps_setX (pos := pos) (pos' := yp) g' d1 d2 (snd_E (W := WN) errTup g'.toGd takes_no d3).pv (swaps_none d4)
  have p2 := L2N.ps_try_as (X := cxOf (L2N.CX X.prog X.w) X.prog X.w X.K X.mg X.base c.N ql sc g cdv X.A X.stack s H fun _ _ _ => False) (i := 2) (c := .ref (He.ga X.K heN)) (Wout := WN) (np := xp) (pos' := hp2) (pos := tp) (b₀ := b0) (suite := suite) (body := [.Expr (.Call (.Name a' ap) [] [] cp) ep])
    (tb := fun W' D σZ HZ => σZ[0]? = some (some (.ref f)) ∧ VL.LamK X HZ params' body' scope' f c' ∧ tX P (fun cls d _ H1 => W' cls d σZ H1) m (RV P 0) σ HZ fun _ H' => D.nx σZ H')
    (ts := fun a cls dd => fun D σ H => ∃ k : Nat, ∃ f : Option VI.D, (∃ x fo, (x, (k, fo)) ∈ c.ers) ∧ cls = P.cls k ∧ tQ P G 2 a dd k f errSuite D σ H)
    g'.stk.1 g'.stk.2 (by rw [g'.N]; exact g'.nd) (by rw [g'.N]; exact c7) hln hnm takes_no (fun W' pn xe tk' _ => ?_) (fun a oe cls dd pn hz hf => ?_)
  rotate_left
  · obtain ⟨e1, e2⟩ := dbg_of c3
    have pa := VL.act_L (p1 := ap) (p2 := cp) (i := 0) (a := a') (tb := fun (E : XK) => tX P (fun cls d _ H1 => E cls d H1) m (RV P 0)) I L hp ha hpl tk' hr' (fun E A out s2 H2 hr2 => hbody E A out s2 H2 hr2) c1 (kind_vis c2) e1 e2
    exact (pss_cons (ps_expr (pos := ep) pa (by rfl)) pss_nil).imp fun D σ H z => z
  · refine (pss_ex (t := fun k f => tQ P G 2 a dd k f errSuite) (p := fun k (_ : Option VI.D) => (∃ x fo, (x, (k, fo)) ∈ c.ers) ∧ cls = P.cls k) (fun k f hp => ?_)).imp fun D σ H z => ?_
    · obtain ⟨⟨x1, fo, hpm⟩, rfl⟩ := hp
      exact snd_Xqs g' c7 c8 c9 hpm hz hf errSuite c10
    · obtain ⟨k, f, e1, e2, e3⟩ := z
      exact ⟨k, f, ⟨e1, e2⟩, e3⟩
  have p3 := ps_ret (pos := rp) (snd_E (W := WN) (.var 1) g'.toGd takes_no c11).pv
  refine ⟨_, pss_cons p1 (pss_cons p2 (pss_cons p3 pss_nil)), ?_⟩
  obtain ⟨os, Z, w, env, ad, B, k, sl, out⟩ := hX
  have hB0 : ∀ b, Ex H b → H b ≠ none := fun _ h => h
  have sl0 : Slots P (Ex H) [.no, .no, .no, .no, .no, .no, .no] (L2.start c.N [.ref f]) (fun _ => []) os Z H := by
    refine ⟨?_, fun i s e => ?_, fun i a ha => (by cases ha), fun i j a ha => (by cases ha), fun i => List.nodup_nil⟩
    · unfold L2.start
      simp [c12]
    · have : s = .no := by
        have := List.mem_of_getElem? e
        simp at this
        exact this
      subst this
      trivial
  have hs0 : (L2.start c.N [.ref f])[0]? = some (some (.ref f)) := rfl
  refine ⟨os, Z, w, _, _, _, k, sl0, ?_⟩
  show Out P WN _ os Z H (.ok errOk0 w) _
  intro os1 Z1 H1 st1 k1 v1 r1
  have r1 : Rep P os1 Z1 errOk0 v1 := r1
  have sl1 := (sl0.step st1).setFz 1 r1
  have slo := sl.step st1
  have hc1 := lamK_step k st1 hk'
  refine ⟨by rw [List.getElem?_set_ne (by decide)]; exact hs0, hc1, os1, Z1, w, env, ad, B, k1, slo, ?_⟩
  have out : Out P W σ os Z H (errM (m env) w) _ := out
  unfold errM at out
  cases qm : m env w with
  | no => rw [qm] at out; exact out.elim
  | ok d0 w1 =>
    rw [qm] at out
    intro os2 Z2 H2 st2 k2 v2 r2
    have sl2 := sl1.step st2
    refine ⟨os2, Z2, w1, _, _, _, k2, sl2, ?_⟩
    show Out P WN _ os2 Z2 H2 (.ok errOk0 w1) _
    intro os3 Z3 H3 st3 k3 v3 r3
    exact out os3 Z3 H3 ((st1.then st2).then st3) k3 v3 r3
  | exn kk fo w1 =>
    rw [qm] at out
    simp only at out
    cases qr : errRes kk fo with
    | none => rw [qr] at out; exact out.elim
    | some d =>
      rw [qr] at out
      have out : Out P W σ os Z H (.ok d w1) _ := out
      intro os2 Z2 H2 cls dd st2 k2 xx
      have hm2 := hmem qr
      refine ⟨true, by rw [xx.1]; exact hex hm2, fun _ a0 ha0 => ⟨kk, fo, hm2, xx.1, os2, Z2, w1, errEnv, _, _, k2, (sl1.step st2).setAny 2 _, fun b hb => st2.there b (st1.there b hb), ?_, rfl, ?_⟩, fun z => nomatch z⟩
      · refine ⟨List.getElem?_set_self (by rw [(sl1.step st2).len]; decide), ?_⟩
        have x2 := xx.2
        cases fo with
        | none => exact x2
        | some d => exact x2
      · obtain ⟨env', q1, q2, q3⟩ := errSuite_ok (G := G) (w := w1) qr
        rw [q1]
        intro σ3 os3 Z3 H3 ad3 st3 k3 sl3 hn
        have st3 : Step (Ex H) os2 Z2 H2 os3 Z3 H3 := st3
        refine ⟨os3, Z3, w1, env', ad3, _, k3, sl3.offAny hn none, ?_⟩
        have e5 : ev G (.var 1) .v env' = ret d := by
          show lft (look env' 1) = _
          unfold look
          rw [q2]
          rfl
        rw [e5]
        intro os4 Z4 H4 st4 k4 v4 r4
        exact out os4 Z4 H4 (((st1.then st2).trans st3).then st4) k4 v4 r4
end
end VI

set_option Elab.async false
set_option linter.all false
set_option maxRecDepth 100000
set_option maxHeartbeats 2000000
/-! VI: defs that may be called within an except suite: range walks, lists from comprehensions, len. -/
namespace VI
open PySem L2 L2H
/-- len of something that is looked at, or a plain expression -/
def chkLH (c : Ck) (sc : Scope) : E → Expr → Bool
  | .blt .len a, t => (match asCall t with
    | some (x, _, y, [], _) => decide (x = Str.ofString (blId .len)) && (glB sc x && chkE c sc a y)
    | _ => false)
  | e, t => chkE c sc e t
def chkRH (c : Ck) (sc : Scope) (a : E) (t : Expr) : Bool := match asCall t with
  | some (x, _, y, [], _) => decide (x = Str.ofString "range") && (glB sc x && (chkLH c sc a y && (decide (lev a = 0) && notStar y)))
  | _ => false
/-- a list from a comprehension over a range, too -/
def chkCH (c : Ck) (sc : Scope) : E → Expr → Bool
  | .comp (.one k) (.rng1 a) .none e, t => (match asComp t with
    | some (elt, tg, iter, [], scope, _) => chkRH c sc a iter && (patB c scope (.one k) tg && (blkC c.N sc scope (ownOf c (.one k)) && (chkE c.inB (relS scope sc) e elt && (decide (lev e = 0) && notSet iter))))
    | _ => false)
  | e, t => chkLH c sc e t
def chkEH (c : Ck) (sc : Scope) : E → Expr → Bool
  | .bin o a b, t => (match asBin t with
    | some (x, op, y, _) => decide (op = opB o) && (chkLH c sc a x && (chkCH c sc b y && (decide (lev a ≤ 1) && decide (lev b ≤ 1))))
    | none => false)
  | e, t => chkCH c sc e t
section
variable {P : Pm} {W : WX} {G : Glo} {X : Cx} {c : Ck} {sc : Scope}
theorem Gd.blkH (g : Gd P G c sc X) (s : Shared) (H : Hp) (scope : Scope) (C : Addr) (cl : List (Str × Addr)) (fp : List Addr) : Gd P G c.inB (relS scope sc) (VI.blkH X s H scope (compEnvC scope cl C X.env) fp) := by
  have z := g.blk s H scope C cl fp
  refine ⟨z.K, z.W, z.N, z.nd, z.sc, z.calm, z.room, z.un, z.blt, z.glob, fun hh x n hx => ?_, z.fld, fun hh q r hq => ?_, fun hh x r hx => ?_, z.er, z.he, z.two, fun x bw hx => let ⟨kf, fA, fd, ps, h⟩ := z.hcall x bw hx; ⟨kf, fA, fd, ps, h.ok, h.room, h.mg, h.keep, h.bind⟩, fun e => let ⟨cd, Pt, h⟩ := z.lam e; ⟨cd, Pt, h.code, h.tab, h.mem, h.uni⟩, fun _ z => (by cases z)⟩
  · obtain ⟨kf, fA, fd, ps, h⟩ := z.call hh x n hx
    exact ⟨kf, fA, fd, ps, h.ok, h.room, h.mg, h.keep, h.bind⟩
  · obtain ⟨C, kf, fA, fd, ps, h⟩ := z.meth hh q r hq
    exact ⟨C, kf, fA, fd, ps, h.cls, h.cl, h.mt, h.ok, h.room, h.bind⟩
  · obtain ⟨C, kf, fA, fd, ps, h⟩ := z.make hh x r hx
    exact ⟨C, kf, fA, fd, ps, h.cls, h.mkr, h.ok, h.room, h.mg, h.bind⟩
theorem Sto.blkH (g : Gd P G c sc X) (s : Shared) (H : Hp) (scope : Scope) (C : Addr) (cl : List (Str × Addr)) (fp : List Addr) : Sto (VI.blkH X s H scope (compEnvC scope cl C X.env) fp) scope :=
  ⟨(Sto.blk g s H scope C cl fp).loc, (Sto.blk g s H scope C cl fp).fn⟩
theorem takes_blkH (s : Shared) (H : Hp) (scope : Scope) (ce : PySem.Env) (fp : List Addr) : L2N.Takes (VI.blkH X s H scope ce fp) W0 := fun u s' x => by
  obtain ⟨_, _, _, _, _, _, _, _, _, _, _, _, _, _, _, _, w⟩ := x
  exact w.elim
theorem snd_LH (g : Gd P G c sc X) (tk : L2N.Takes X W) : ∀ (e : E) {t : Expr}, chkLH c sc e t = true → PE X t (tX P W (ev G e .v) (RV P (lev e))) ∧ notStar t = true := by
  intro e t h
  have plain : chkE c sc e t = true → PE X t (tX P W (ev G e .v) (RV P (lev e))) ∧ notStar t = true := fun h => ⟨(snd_E e g tk h).pv, (good_of (chk_good h)).1⟩
  unfold chkLH at h
  split at h
  · rename_i a
    split at h
    · rename_i x _ y pos q
      have := asCall_eq q
      subst this
      simp only [Bool.and_eq_true, decide_eq_true_eq] at h
      obtain ⟨rfl, h1, h2⟩ := h
      have ia := snd_E a g tk h2
      have hs := (good_of (chk_good h2)).1
      have pa : PA X [y] _ := pa_cons ia.pv pa_nil (star_of hs)
      have hc : CallR X (blV .len) (rB1 P.K P.wo .len) := by
        have := (call_len : CallR X _ _)
        rw [← g.K, ← g.W]
        exact this
      refine ⟨?_, rfl⟩
      refine (lev0 (e := .blt .len a) rfl ?_)
      refine PE.imp (t := tCB (rB1 P.K P.wo .len) (tCons (tX P W (ev G a .v) (RV P (lev a))) tNil)) ?_ fun _ _ _ z => r_blt (.inr rfl) rfl (tX_frz z)
      have hm : X.mg (Str.ofString (blId .len)) = none := g.blt _ (by decide +kernel)
      have gl : Gl X (Str.ofString (blId .len)) := gl_of g h1
      exact pe_callB hc gl hm PySem.boot_len pa (blId_ne _) (blId_dbg _) (star_of hs) rfl
    · cases h
  · exact plain h
theorem snd_RH {tg : Expr} (g : Gd P G c sc X) (tk : L2N.Takes X W) {a : E} {t : Expr} (h : chkRH c sc a t = true) : PIH X tg t (tX P W (evI G (.rng1 a)) (RI P)) := by
  unfold chkRH at h
  split at h
  · rename_i x _ y pos q
    have := asCall_eq q
    subst this
    simp only [Bool.and_eq_true, decide_eq_true_eq] at h
    obtain ⟨rfl, h1, h2, h3, h4⟩ := h
    have hm : X.mg (Str.ofString "range") = none := g.blt _ (by decide +kernel)
    have gl : Gl X (Str.ofString "range") := gl_of g h1
    refine ⟨fun pins s σ H R I hh => ?_⟩
    exact (pi_range1H (tg := tg) gl hm (pa_cons (snd_LH g tk a h2).1 pa_nil (star_of h4)) (by rw [star_of h4]; rfl)).run pins s σ H R I (r_rng1 h3 hh)
  · cases h
theorem snd_CH (hc : HotC X) (g : Gd P G c sc X) (tk : L2N.Takes X W) (e : E) {t : Expr} (h : chkCH c sc e t = true) : PE X t (tX P W (ev G e .v) (RV P (lev e))) := by
  unfold chkCH at h
  split at h
  · rename_i k a e
    split at h
    · rename_i elt tg iter scope pos q
      have := asComp_eq q
      subst this
      simp only [Bool.and_eq_true, decide_eq_true_eq] at h
      obtain ⟨h1, h2, h3, h5, h6, h7⟩ := h
      refine (pe_lcH hc (by rw [g.N]; exact g.nd) (snd_RH g tk h1) (blkOk_by (own := ownOf c (.one k)) (by rw [g.N, g.sc]; exact h3))
        (fun s H C cl fp => (pg_one (X := VI.blkH X s H scope (compEnvC scope cl C X.env) fp) g.N g.nd (Sto.blkH g s H scope C cl fp) h2).imp fun v σ H Q q => r_pat1 (P := P) q)
        (fun s H C cl fp => snd_C .none (g.blkH s H scope C cl fp) (takes_blkH s H scope _ fp) rfl)
        (fun s H C cl fp => lev0 h6 (snd_E e (g.blkH s H scope C cl fp) (takes_blkH s H scope _ fp) h5).pv)
        (fun x => folded_of h7 x)).imp fun _ _ _ z => ?_
      rw [own_snd]
      exact r_comp (tX_frz z)
    · cases h
  · exact (snd_LH g tk _ h).1
theorem snd_EH (hc : HotC X) (g : Gd P G c sc X) (tk : L2N.Takes X W) (e : E) {t : Expr} (h : chkEH c sc e t = true) : PE X t (tX P W (ev G e .v) (RV P (lev e))) := by
  unfold chkEH at h
  split at h
  · rename_i o a b
    split at h
    · rename_i q
      have := asBin_eq q
      subst this
      simp only [Bool.and_eq_true, decide_eq_true_eq] at h
      obtain ⟨h1, h2, h3, h4, h5⟩ := h
      subst h1
      have ia := (snd_LH g tk a h2).1
      have ib := snd_CH hc g tk b h3
      refine (pe_op (rBin_ok o) ia ib).imp fun _ _ _ z => ?_
      rw [g.K]
      exact r_bin h4 h5 (tX_frz z)
    · cases h
  · exact snd_CH hc g tk _ h
/-! ### statements -/
def chkSH (c : Ck) (sc : Scope) : S → Stmt → Bool
  | .set i e, t => (match asgN t with
    | some (x, _, v, _) => decide (c.N[i]? = some x) && (locB sc x && (chkEH c sc e v && (decide (lev e = 0) && noComp v)))
    | none => false)
  | .ret e, t => (match asRet t with
    | some (some v, _) => chkE c sc e v && decide (lev e = 0)
    | _ => false)
  | .for_ (.one k) (.rng1 a) (.cons (.set i e) .nil), t => (match asFor t with
    | some (tg, iter, [b], _) => chkRH c sc a iter && (patB c sc (.one k) tg && (notSet iter && (match asgN b with
      | some (x, _, v, _) => decide (c.N[i]? = some x) && (locB sc x && (chkEH c sc e v && (decide (lev e = 0) && noComp v)))
      | none => false)))
    | _ => false)
  | _, _ => false
def chkSsH (c : Ck) (sc : Scope) : Ss → List Stmt → Bool
  | .nil, [] => true
  | .cons s ss, t :: ts => chkSH c sc s t && chkSsH c sc ss ts
  | _, _ => false
/-- what a hot def's context gives -/
structure Gh (P : Pm) (G : Glo) (c : Ck) (scp : Scope) (X : Cx) : Prop extends Gd P G c scp X where
  hc : HotC X
  sto : Sto X scp
  pass : PassesOwn (model X.prog X.w) X.A X.env X.xe
theorem set_H (g : Gh P G c sc X) (tk : L2N.Takes X W) {i : Nat} {e : E} {x : Str} {p : Pos} {v : Expr} {pos : Pos} (h1 : c.N[i]? = some x) (h2 : locB sc x = true) (h3 : chkEH c sc e v = true) (h4 : lev e = 0) (h5 : noComp v = true) :
    PS X (.Assign [.Name x p] v pos) (tS P W (exec G (.set i e))) :=
  (ps_set (by rw [g.N]; exact g.nd) (by rw [g.N]; exact h1) (g.sto.loc x h2) (snd_EH g.hc g.toGd tk e h3) (swaps_none h5) (g.sto.fn x h2)).imp fun _ _ _ z => r_set h4 z
theorem snd_SH (g : Gh P G c sc X) (tk : L2N.Takes X W) (s : S) {t : Stmt} (h : chkSH c sc s t = true) : PS X t (tS P W (exec G s)) := by
  unfold chkSH at h
  split at h
  · split at h
    · rename_i x p v pos q
      have := asgN_eq q
      subst this
      simp only [Bool.and_eq_true, decide_eq_true_eq] at h
      obtain ⟨h1, h2, h3, h4, h5⟩ := h
      exact set_H g tk h1 h2 h3 h4 h5
    · cases h
  · split at h
    · rename_i v pos q
      have := asRet_eq q
      subst this
      simp only [Bool.and_eq_true, decide_eq_true_eq] at h
      exact (ps_ret (snd_E _ g.toGd tk h.1).pv).imp fun _ _ _ z => r_retS h.2 z
    · cases h
  · rename_i k a i e
    split at h
    · rename_i tg iter b pos q
      have := asFor_eq q
      subst this
      simp only [Bool.and_eq_true, decide_eq_true_eq] at h
      obtain ⟨h1, h2, h4, h3⟩ := h
      split at h3
      · rename_i x p v pos q
        have := asgN_eq q
        subst this
        simp only [Bool.and_eq_true, decide_eq_true_eq] at h3
        obtain ⟨k1, k2, k3, k4, k5⟩ := h3
        refine (ps_forH g.pass g.hc (snd_RH g.toGd tk h1) ((pg_one g.N g.nd g.sto h2).imp fun v σ H Q q => r_pat1 (P := P) q) ((pss_cons (set_H g tk k1 k2 k3 k4 k5) (pss_nil.imp fun _ _ _ z => r_nilS z)).imp fun _ _ _ z => r_seqS z) (fun x => folded_of h4 x)).imp fun _ _ _ z => r_for z
      · cases h3
    · cases h
  · cases h
theorem snd_SsH : ∀ (ss : Ss) {ts : List Stmt}, Gh P G c sc X → L2N.Takes X W → chkSsH c sc ss ts = true → PSs X ts (tS P W (execs G ss))
  | .nil, ts, g, tk, h => by
    cases ts with
    | nil => exact pss_nil.imp fun _ _ _ z => r_nilS z
    | cons _ _ => simp [chkSsH] at h
  | .cons s ss, ts, g, tk, h => by
    cases ts with
    | nil => simp [chkSsH] at h
    | cons t ts =>
      simp only [chkSsH, Bool.and_eq_true] at h
      exact (pss_cons (snd_SH g tk s h.1) (snd_SsH ss g tk h.2)).imp fun _ _ _ z => r_seqS z
  | .frz is ss, ts, g, tk, h => by simp [chkSsH] at h
  | .frz1 i ss, ts, g, tk, h => by simp [chkSsH] at h
end
end VI

set_option Elab.async false
set_option linter.all false
set_option maxRecDepth 100000
set_option maxHeartbeats 4000000
/-! VI, part 19: all defs of a text at once; the law. -/
namespace VI
open PySem L2
/-- with the error classes -/
def clsA (cl : Cls0) (ers : Ers) : Cls0 := cl ++ ers.map fun p => (p.1, [])
def fldOf (ers : Ers) (n : Nat) : Str := match ers.find? fun p => Nat.beq (codeOf p.1) n with
  | some (_, some f) => f
  | _ => ""
/-- defs that may be called within a suite -/
def ckH (N : List Str) : Ck := ⟨N, [], [], [], [], [], true, [], [], false, false⟩
def hotB (e : En) : Bool := e.cl.isNone && chkSsH (ckH e.N) (defScope e.st) e.fi.body (defBody e.st)
def hotL (tab : Tab) : List (Str × List Bool) := tab.filterMap fun e => if hotB e = true then some (e.name, e.fi.bw) else none
/-- the defs that make lambdas -/
def lamE (lms : List Str) (e : En) : Bool := e.cl.isNone && lms.contains e.name
def ckOf (tab : Tab) (cs : List (Str × VI.D)) (cl : Cls0) (ers : Ers) (lam err : Bool) (N : List Str) : Ck := ⟨N, tab.filterMap fun e => match e.cl with
  | none => some (e.name, e.fi.bw)
  | some _ => none, cs.map (·.1), cl.flatMap fun p => p.2.map fun f => (codeOf p.1, f), tab.filterMap fun e => match e.cl with
  | none => none
  | some p => some ((codeOf p.1, p.2), (codeOf e.name, e.fi.bw)), tab.filterMap fun e => match e.cl with
  | none => none
  | some p => if p.2 = Str.ofString "__init__" then some (p.1, (codeOf p.1, (codeOf e.name, e.fi.bw))) else none, false, ers.map fun p => (p.1, (codeOf p.1, p.2)), hotL tab, lam, err⟩
/-- is there the def that is told of errors -/
def errIn (tab : Tab) : Bool := tab.any fun e => decide (e.name = errN)
def plainA (a : Arguments) : Bool := match a with
  | ⟨[], _, none, [], [], none, []⟩ => true
  | _ => false
def noFree (sc : Scope) : Bool := sc.names.all fun y => match y.2 with
  | .free => false
  | _ => true
def okE (tab : Tab) (cs : List (Str × VI.D)) (cl : Cls0) (ers : Ers) (lms : List Str) (e : En) : Bool :=
  plainA (defArgs e.st) && (decide (e.ps.length ≤ 5) && (decide ((defScope e.st).kind = .function) && (!(defScope e.st).isCoroutine && (!(defScope e.st).isGenerator && (decide e.N.Nodup && (decide (e.N.take e.ps.length = e.ps) && (e.ps.all (locB (defScope e.st)) && (noFree (defScope e.st) && (decide (e.N.length = e.fi.ns) && (decide (e.ps.length = e.fi.ps) && (decide (e.fi.ps ≤ e.fi.ns) && (decide (e.fi.bw.length = e.fi.ps) && (chkSs (ckOf tab cs cl ers (lamE lms e) (lamE lms e && errIn tab) e.N) (defScope e.st) e.fi.body (defBody e.st))))))))))))))
def isConst : VI.D → Bool
  | .int _ => true
  | .str _ => true
  | _ => false
def inCls (cl : Cls0) (e : En) : Bool := match e.cl with
  | none => true
  | some p => cl.any fun q => decide (q.1 = p.1)
def errB (tab : Tab) (cs : List (Str × VI.D)) (cl : Cls0) (ers : Ers) (e : En) : Bool := e.cl.isNone && (decide (e.ps.length = 1) && chkErrD (ckOf tab cs cl ers false false e.N) (defScope e.st) (defBody e.st))
def okT (tab : Tab) (cs : List (Str × VI.D)) (cl : Cls0) (ers : Ers) (lms : List Str) : Bool :=
  tab.all (okE tab cs cl ers lms) && (decide (tab.map fun e => codeOf e.name).Nodup && ((cs.all fun p => isConst p.2) && (tab.all (inCls cl) && (decide ((clsA cl ers).map fun p => codeOf p.1).Nodup && tab.all fun e => (!decide (e.name = errN)) || errB tab cs cl ers e))))
theorem plainA_eq {a : Arguments} (h : plainA a = true) : a = ⟨[], a.args, none, [], [], none, []⟩ := by
  unfold plainA at h
  split at h
  · rfl
  · cases h
theorem fm_congr {α β : Type} {f g : α → Option β} : ∀ {l : List α}, (∀ x ∈ l, f x = g x) → l.filterMap f = l.filterMap g
  | [], _ => rfl
  | x :: l, h => by
    rw [List.filterMap_cons, List.filterMap_cons, h x (.head _), fm_congr fun y hy => h y (.tail _ hy)]
theorem lookup_zip : ∀ (xs : List Str) (us : List Value), us.length = xs.length → xs.Nodup → xs.filterMap (fun n => ((xs.zip us).lookup n).map (n, ·)) = xs.zip us ∧ xs.filter (fun n => ((xs.zip us).lookup n).isNone) = []
  | [], _, _, _ => ⟨rfl, rfl⟩
  | x :: xs, [], h, _ => by simp at h
  | x :: xs, u :: us, h, nd => by
    have ih := lookup_zip xs us (by simpa using h) (List.nodup_cons.mp nd).2
    have hne : ∀ n ∈ xs, (n == x) = false := fun n hn => by
      cases e : n == x with
      | false => rfl
      | true => exact absurd (by rw [← eq_of_beq e]; exact hn) (List.nodup_cons.mp nd).1
    have h0 : (x == x) = true := beq_self_eq_true x
    constructor
    · rw [List.filterMap_cons]
      simp only [List.zip_cons_cons, List.lookup_cons, h0, Option.map_some]
      congr 1
      refine Eq.trans ?_ ih.1
      refine fm_congr fun n hn => ?_
      rw [hne n hn]
    · rw [List.filter_cons]
      simp only [List.zip_cons_cons, List.lookup_cons, h0, Option.isNone_some]
      rw [if_neg (by simp)]
      refine Eq.trans ?_ ih.2
      refine List.filter_congr fun n hn => ?_
      rw [hne n hn]
theorem bind_plain {x qual : Str} {body : List Stmt} {scope : Scope} {kV doc pm cdv ct : Value} {an : Option Addr} (as : List Arg) (us : List Value) (hl : us.length = as.length) (nd : (as.map (·.arg)).Nodup) :
    bindArgs (PySem.W.fnOf x qual ⟨[], as, none, [], [], none, []⟩ body scope .none kV doc pm an cdv ct) ⟨us, []⟩ = pure ((as.map (·.arg)).zip us) := by
  obtain ⟨h1, h2⟩ := lookup_zip (as.map (·.arg)) us (by rw [hl, List.length_map]) nd
  have h3 : (as.map (·.arg)).take as.length = as.map (·.arg) := List.take_of_length_le (by simp)
  have h4 : notAStandIn Value.none = (pure () : Sem Unit) := rfl
  unfold bindArgs
  unfold PySem.W.fnOf
  have h5 : (List.map (fun (x : Arg) => x.arg) []) = [] := rfl
  rw [List.filterMap_map] at h1
  simp [seqItems?, hl, h4, h1, h2, h3, h5]
theorem okE_scope {tab : Tab} {cs : List (Str × VI.D)} {cl : Cls0} {ers : Ers} {lms : List Str} {e : En} (h : okE tab cs cl ers lms e = true) : FnScope e.N e.ps (defScope e.st) := by
  unfold okE at h
  simp only [Bool.and_eq_true, decide_eq_true_eq, Bool.not_eq_true'] at h
  obtain ⟨h1, h2, h3, h4, h5, h6, h7, h8, h9, h10⟩ := h
  refine ⟨h3, h4, h5, h6, h7, fun x hx => loc_of (List.all_eq_true.mp h8 x hx), fun y hy z => ?_⟩
  have := List.all_eq_true.mp h9 y hy
  rw [z] at this
  cases this
theorem at_of {tab : Tab} {e : En} (h : e ∈ tab) (nd : (tab.map fun e => codeOf e.name).Nodup) : (tblOf tab).at_ (codeOf e.name) = some e.fi := by
  induction tab with
  | nil => cases h
  | cons f t ih =>
    have nd2 := List.nodup_cons.mp nd
    show (if Nat.beq (codeOf f.name) (codeOf e.name) then some f.fi else Tbl.at_ (tblOf t) (codeOf e.name)) = _
    rcases List.mem_cons.mp h with rfl | h
    · rw [if_pos (Nat.beq_refl _)]
    · have : ¬ Nat.beq (codeOf f.name) (codeOf e.name) = true := fun z => nd2.1 (by
        have := Nat.eq_of_beq_eq_true z
        show codeOf f.name ∈ t.map fun e => codeOf e.name
        rw [this]
        exact List.mem_map.mpr ⟨e, h, rfl⟩)
      rw [if_neg this]
      exact ih h nd2.2
/-- what is let out, in some world -/
def CXA (P : Program) : CXT := fun outer H s E u s' => ∃ w, L2N.CX P w outer H s E u s'
theorem fnOk_any {P : Program} {w : World} {K : PySem.W.Frag} {mg : Str → Option Value} {base : Heap} {k : Nat} {f : Addr} {fd : FuncData} {ps : List Str} {sp : Sp} (h : FnOk P w K mg base (L2N.CX P w) k f fd ps sp) : FnOk P w K mg base (CXA P) k f fd ps sp :=
  ⟨h.len, fun A outer s H args us vs Q E r e b v q => codeAny_mono (h.run A outer s H args us vs Q E r e b v q) fun r s' hq => by
    cases r with
    | error e => exact ⟨w, hq⟩
    | ok fl => cases fl <;> exact hq⟩
theorem cxa_never {P : Program} (H : Hp) (s : Shared) (e : Value) (s' : Shared) (h : CXA P [] H s (fun _ _ _ => False) e s') : False := by
  obtain ⟨w, _, _, _, _, _, _, _, _, _, _, _, _, z⟩ := h
  exact z
theorem lookup_mem {α β : Type} [BEq α] [LawfulBEq α] {x : α} {b : β} : ∀ {l : List (α × β)}, l.lookup x = some b → (x, b) ∈ l
  | [], h => by simp at h
  | (y, c) :: l, h => by
    rw [List.lookup_cons] at h
    split at h
    · rename_i e
      cases h
      rw [eq_of_beq e]
      exact .head _
    · exact .tail _ (lookup_mem h)
theorem cls_of {cl : Cls0} {K : PySem.W.Frag} (nd : (cl.map fun p => codeOf p.1).Nodup) {p : Str × List Str} (hp : p ∈ cl) : clsOf cl K (codeOf p.1) = .ref (He.ga K p.1) := by
  unfold clsOf
  induction cl with
  | nil => cases hp
  | cons q t ih =>
    have nd2 := List.nodup_cons.mp nd
    rw [List.find?_cons]
    rcases List.mem_cons.mp hp with rfl | hp
    · rw [Nat.beq_refl]
    · have : Nat.beq (codeOf q.1) (codeOf p.1) = false := by
        cases e : Nat.beq (codeOf q.1) (codeOf p.1) with
        | false => rfl
        | true => exact absurd (by show codeOf q.1 ∈ _; rw [Nat.eq_of_beq_eq_true e]; exact List.mem_map.mpr ⟨p, hp, rfl⟩) nd2.1
      rw [this]
      exact ih nd2.2 hp
structure Hd (tab : Tab) (cs : List (Str × VI.D)) (cl : Cls0) (ers : Ers) (prog : Program) (K : PySem.W.Frag) (mg : Str → Option Value) : Prop where
  er : ErF prog ers K mg
  defs : ∀ e ∈ tab, ∃ fd, FunD K e.nm e.name (defArgs e.st) (defBody e.st) (defScope e.st) [] [] (e.ad K) fd
  mgs : ∀ e ∈ tab, e.cl = none → mg e.name = some (.ref (He.ga K e.name))
  cls : ∀ p ∈ cl, Cls K (He.ga K p.1) ∧ ∀ f ∈ p.2, NoAttr K (He.ga K p.1) f
  mt : ∀ e ∈ tab, ∀ p, e.cl = some p → Meth K (He.ga K p.1) p.2 (e.ad K)
  mkr : ∀ e ∈ tab, ∀ p, e.cl = some p → p.2 = Str.ofString "__init__" → Mk K (He.ga K p.1) (e.ad K) ∧ mg p.1 = some (.ref (He.ga K p.1))
  blt : ∀ x ∈ bltNames, mg x = none
  cst : ∀ p ∈ cs, ∃ u v, mg p.1 = some u ∧ RelV v u ∧ glOf cs (codeOf p.1) = some p.2 ∧ ∀ P os Z, Rep P os Z p.2 v
section
variable {P : Program} {Pm : VI.Pm} {mg : Str → Option Value} {base : Heap} {tab : Tab} {cs : List (Str × VI.D)} {cl : Cls0} {ers : Ers} {lms : List Str}
/-- what the defs that make lambdas lean on: their code objects and tables -/
def LamT (tab : Tab) (lms : List Str) (K : PySem.W.Frag) (base : Heap) (mg : Str → Option Value) (tb : List (Addr × Str)) : Prop := ∀ e ∈ tab, lamE lms e = true → ∃ o fd cd Pt, K.lookup (e.ad K) = some o ∧ o.data = .func fd ∧ fd.code = .ref cd ∧ LamX.TabB base mg cd Pt ∧
  (Pt, (e.name ++ ".<locals>.") ++ "<lambda>") ∈ tb ∧ ∀ p ∈ tb, p.1 = Pt → p.2 = (e.name ++ ".<locals>.") ++ "<lambda>"
theorem bind_en {K : PySem.W.Frag} {f : En} {fd : FuncData} (h : okE tab cs cl ers lms f = true) (F : FunD K f.nm f.name (defArgs f.st) (defBody f.st) (defScope f.st) [] [] (f.ad K) fd) : Binds K fd f.ps [] := by
  unfold okE at h
  simp only [Bool.and_eq_true, decide_eq_true_eq] at h
  refine F.bindsN fun kV doc pm an cdv ct us hl => ?_
  have hl2 : us.length = (defArgs f.st).args.length := by rw [hl]; unfold En.ps; rw [List.length_map]
  rw [plainA_eq h.1]
  refine bind_plain _ us hl2 ?_
  obtain ⟨_, _, _, _, _, n6, n7, _⟩ := h
  have : f.ps.Nodup := by rw [← n7]; exact n6.sublist (List.take_sublist _ _)
  exact this
theorem fld_of {p : Str × Option Str} (nd : (ers.map fun p => codeOf p.1).Nodup) (hp : p ∈ ers) {f : Str} (hf : p.2 = some f) : fldOf ers (codeOf p.1) = f := by
  unfold fldOf
  induction ers with
  | nil => cases hp
  | cons q t ih =>
    have nd2 := List.nodup_cons.mp nd
    rw [List.find?_cons]
    rcases List.mem_cons.mp hp with rfl | hp
    · rw [Nat.beq_refl]
      obtain ⟨x, fo⟩ := p
      simp only at hf
      subst hf
      rfl
    · have : Nat.beq (codeOf q.1) (codeOf p.1) = false := by
        cases e : Nat.beq (codeOf q.1) (codeOf p.1) with
        | false => rfl
        | true => exact absurd (by show codeOf q.1 ∈ _; rw [Nat.eq_of_beq_eq_true e]; exact List.mem_map.mpr ⟨p, hp, rfl⟩) nd2.1
      rw [this]
      exact ih nd2.2 hp
theorem code_inj {p q : Str × Option Str} (nd : (ers.map fun p => codeOf p.1).Nodup) (hp : p ∈ ers) (hq : q ∈ ers) : decide (p.1 = q.1) = Nat.beq (codeOf p.1) (codeOf q.1) := by
  rw [Bool.eq_iff_iff, decide_eq_true_eq]
  refine ⟨fun e => by rw [e]; exact Nat.beq_refl _, fun e => ?_⟩
  have e := Nat.eq_of_beq_eq_true e
  induction ers with
  | nil => cases hp
  | cons r t ih =>
    have nd2 := List.nodup_cons.mp nd
    rcases List.mem_cons.mp hp with e1 | hp2
    · rcases List.mem_cons.mp hq with e2 | hq2
      · rw [e1, e2]
      · exact absurd (by show codeOf r.1 ∈ _; rw [← e1, e]; exact List.mem_map.mpr ⟨q, hq2, rfl⟩) nd2.1
    · rcases List.mem_cons.mp hq with e2 | hq2
      · exact absurd (by show codeOf r.1 ∈ _; rw [← e2, ← e]; exact List.mem_map.mpr ⟨p, hp2, rfl⟩) nd2.1
      · exact ih nd2.2 hp2 hq2
/-- what a def that is called within a suite promises -/
theorem hot_ok (n : Nat) (hok : okT tab cs cl ers lms = true) (hd : Hd tab cs cl ers P Pm.K mg) : ∀ k, ∀ e ∈ tab, hotB e = true → ∃ fd, FunD Pm.K e.nm e.name (defArgs e.st) (defBody e.st) (defScope e.st) [] [] (e.ad Pm.K) fd ∧
    L2H.FnH P Pm.wo Pm.K mg base (L2N.CX P Pm.wo) (3 * k + 2) (e.ad Pm.K) fd e.ps (spOf Pm ⟨run (tblOf tab) (glOf cs) n k, glOf cs, n⟩ (codeOf e.name) e.fi.bw) := by
  unfold okT at hok
  simp only [Bool.and_eq_true, decide_eq_true_eq] at hok
  obtain ⟨hE, hnd, hcs, hin, hcn, her⟩ := hok
  have spLen : ∀ {G : Glo} {f : Nat} {m : List Bool} vs H Q E, spOf Pm G f m vs H Q E → vs.length = m.length := fun vs H Q E ⟨os, Z, w, ds, _, r, _⟩ => r.len.2
  intro k e he hot
  obtain ⟨fd, F⟩ := hd.defs e he
  have hokE := List.all_eq_true.mp hE e he
  have S := okE_scope hokE
  unfold okE at hokE
  simp only [Bool.and_eq_true, decide_eq_true_eq, Bool.not_eq_true'] at hokE
  obtain ⟨h1, h2, h3, h4, h5, h6, h7, h8, h9, h10, h11, h12, h13, h14⟩ := hokE
  unfold hotB at hot
  simp only [Bool.and_eq_true] at hot
  cases k with
  | zero =>
    refine ⟨fd, F, ⟨fun vs H Q E h => (spLen vs H Q E h).trans (h13.trans h11.symm), fun A outer s H args us vs Q E p hr _ _ e0 hb r hsp => ?_⟩⟩
    obtain ⟨os, Z, w, ds, _, _, h⟩ := hsp
    exact h.elim
  | succ k =>
    refine ⟨fd, F, ?_⟩
    obtain ⟨oc, od, dV, kV, doc, pm, an, cdv, ct, osl, rfl, lk, hcd, _, _⟩ := F.ex
    refine L2H.fn_ofH lk hcd S (fun vs H Q E h => (spLen vs H Q E h).trans (h13.trans h11.symm)) fun A outer s H vs Q E p hp1 hr hsp => ?_
    let G : Glo := ⟨run (tblOf tab) (glOf cs) n k, glOf cs, n⟩
    have gs : Gh Pm G (ckH e.N) (defScope e.st) (L2H.cxH (L2N.CX P Pm.wo) P Pm.wo Pm.K mg base e.N e.name (defScope e.st) (e.ad Pm.K) cdv A outer s H E p) := by
      refine { K := rfl, W := rfl, N := rfl, nd := S.nd, sc := rfl, calm := fun z => (by cases z), room := fun z => (by cases z), un := Nat.lt_of_le_of_lt (Nat.add_le_add (Nat.le_add_right _ _) (by decide : 65 ≤ 200)) hr.un, blt := hd.blt, glob := fun x hx => (by cases hx), call := fun z => (by cases z), fld := fun q hq => (by cases hq), meth := fun z => (by cases z), make := fun z => (by cases z), er := fun x k fo hx => (by cases hx), he := fun z => absurd rfl z, two := fun x k fo y k' fo' hx hy => (by cases hx), hcall := fun x bw hx => (by cases hx), lam := fun hx => (by cases hx), err := fun _ hx => (by cases hx), hc := ⟨p, hp1, .head _⟩, sto := ?_, pass := ?_ }
      · exact sto_def fun _ => rfl
      · exact passes_of rfl
    refine ⟨tS Pm (fun cls d _ H => E cls d H) (execs G e.fi.body), snd_SsH e.fi.body gs (L2N.takes_of rfl rfl rfl rfl) hot.2, ?_⟩
    obtain ⟨os, Z, w1, ds, k1, r, out⟩ := hsp
    have hl : ds.length = e.fi.ps := r.len.1.trans h13
    have hat := at_of he hnd
    have out : Out Pm (fun cls dd _ H' => E cls dd H') [] os Z H (run (tblOf tab) (glOf cs) n (k + 1) (codeOf e.name) ds w1) (fun d _ os' Z' H' => ∀ v, Rep Pm os' Z' d v → Q v H') := out
    have er : run (tblOf tab) (glOf cs) n (k + 1) (codeOf e.name) ds = bnd (execs G e.fi.body (startE e.fi ds)) endF := by
      have hb : Nat.beq ds.length e.fi.ps = true := by rw [hl]; exact Nat.beq_refl _
      show (match (tblOf tab).at_ (codeOf e.name) with
        | none => stuck
        | some fi => if Nat.beq ds.length fi.ps then bnd (execs G fi.body (startE fi ds)) endF else stuck) = _
      rw [hat]
      show (if Nat.beq ds.length e.fi.ps then bnd (execs G e.fi.body (startE e.fi ds)) endF else stuck) = _
      rw [if_pos hb]
    rw [er] at out
    refine ⟨os, Z, w1, startE e.fi ds, fun _ => [], Ex H, k1, slots_start k1 r h10 (by rw [hl]; exact h12), fun a h => h, ?_⟩
    have ob := out.bnd
    revert ob
    cases execs G e.fi.body (startE e.fi ds) w1 with
    | no => exact fun h => h
    | exn c f w2 => exact fun h σ' os' Z' H' cls dd st k' x => h os' Z' H' cls dd st k' x
    | ok fl w2 =>
      intro ob
      cases fl with
      | nx env' => exact fun σ' os' Z' H' ad' st k' _ => (ob os' Z' H' st k').ret k' .non (by unfold Rep; rfl)
      | bk env' => exact fun σ' os' Z' H' ad' st k' _ => (ob os' Z' H' st k').elim
      | rt d => exact fun v os' Z' H' st k' rv => (ob os' Z' H' st k').ret k' v rv
theorem gs_of {n k : Nat} (hok : okT tab cs cl ers lms = true) (hP : Pm.cls = clsOf (clsA cl ers) Pm.K) (hF : Pm.fld = fldOf ers) (hd : Hd tab cs cl ers P Pm.K mg)
    (ih : ∀ e ∈ tab, ∃ fd, FunD Pm.K e.nm e.name (defArgs e.st) (defBody e.st) (defScope e.st) [] [] (e.ad Pm.K) fd ∧ FnOk P Pm.wo Pm.K mg base (L2N.CX P Pm.wo) (3 * k + 2) (e.ad Pm.K) fd e.ps (spOf Pm ⟨run (tblOf tab) (glOf cs) n k, glOf cs, n⟩ (codeOf e.name) e.fi.bw))
    (hotk : ∀ e ∈ tab, hotB e = true → ∃ fd, FunD Pm.K e.nm e.name (defArgs e.st) (defBody e.st) (defScope e.st) [] [] (e.ad Pm.K) fd ∧ L2H.FnH P Pm.wo Pm.K mg base (L2N.CX P Pm.wo) (3 * k + 2) (e.ad Pm.K) fd e.ps (spOf Pm ⟨run (tblOf tab) (glOf cs) n k, glOf cs, n⟩ (codeOf e.name) e.fi.bw))
    {e : En} (he : e ∈ tab) {cdv : Value} {A : Around} {outer : List PySem.Env} {s : Shared} {H : Hp} {E : XK} (hr : Room (3 * k + 3) (A.deeper (PyProof.Rows.envOfC e.name (defScope e.st) s.heap.objs.size (e.ad Pm.K) cdv))) {lam err : Bool}
    (hlam : lam = true → ∃ cd Pt, LamF Pm (cxOf (L2N.CX P Pm.wo) P Pm.wo Pm.K mg base e.N e.name (defScope e.st) (e.ad Pm.K) cdv A outer s H E) cd Pt) (herr : err = true → ErrOk Pm (cxOf (L2N.CX P Pm.wo) P Pm.wo Pm.K mg base e.N e.name (defScope e.st) (e.ad Pm.K) cdv A outer s H E) (3 * k + 2)) :
    Gs Pm ⟨run (tblOf tab) (glOf cs) n k, glOf cs, n⟩ (ckOf tab cs cl ers lam err e.N) (defScope e.st) (cxOf (L2N.CX P Pm.wo) P Pm.wo Pm.K mg base e.N e.name (defScope e.st) (e.ad Pm.K) cdv A outer s H E) := by
  unfold okT at hok
  simp only [Bool.and_eq_true, decide_eq_true_eq] at hok
  obtain ⟨hE, hnd, hcs, hin, hcn, her⟩ := hok
  have S := okE_scope (List.all_eq_true.mp hE e he)
  have hce : (ers.map fun p => codeOf p.1).Nodup := by
    have := (List.nodup_append.mp (by rw [clsA, List.map_append] at hcn; exact hcn)).2.1
    rw [List.map_map] at this
    exact this
  refine { K := rfl, W := rfl, N := rfl, nd := S.nd, sc := rfl, calm := fun _ => rfl, room := fun _ => hr.mono (by omega), un := Nat.lt_of_le_of_lt (Nat.add_le_add (Nat.le_add_right _ _) (by decide : 65 ≤ 200)) hr.un, blt := hd.blt, glob := fun x hx => ?_, call := fun _ x m hx => ?_, fld := fun q hq => ?_, meth := fun _ q r hq => ?_, make := fun _ x r hx => ?_, er := fun x k fo hx => ?_, he := fun z => hd.er.he fun y => z (by show ers.map _ = []; rw [y]; rfl), two := fun x k fo y k' fo' hx hy => ?_, hcall := fun x bw hx => ?_, lam := hlam, err := fun _ hx => ⟨3 * k + 2, herr hx, by omega, fun x bw hx => ?_⟩, ht := rfl, stk := ⟨rfl, rfl⟩, blk := ?_, sto := ?_, pass := passes_of rfl }
  · obtain ⟨p, hp, rfl⟩ := List.mem_map.mp hx
    obtain ⟨u, v, g1, g2, g3, g4⟩ := hd.cst p hp
    exact ⟨u, p.2, v, g1, g2, g3, fun os Z => g4 Pm os Z⟩
  · obtain ⟨f, hf, hfe⟩ := List.mem_filterMap.mp (lookup_mem hx)
    split at hfe
    case h_2 => cases hfe
    rename_i hcl
    cases hfe
    obtain ⟨fd2, F2, ok2⟩ := ih f hf
    have had : f.ad Pm.K = He.ga Pm.K f.name := by unfold En.ad En.at_; rw [hcl]; rfl
    have hE2 := List.all_eq_true.mp hE f hf
    refine ⟨3 * k + 2, f.ad Pm.K, fd2, f.ps, ok2, hr.mono (by omega), by rw [had]; exact hd.mgs f hf hcl, F2.kp, ?_⟩
    exact bind_en hE2 F2
  · obtain ⟨p, hp, hq2⟩ := List.mem_flatMap.mp hq
    obtain ⟨f, hf, rfl⟩ := List.mem_map.mp hq2
    obtain ⟨c1, c2⟩ := hd.cls p hp
    exact ⟨_, by rw [hP]; exact cls_of hcn (List.mem_append_left _ hp), c1, c2 f hf⟩
  · obtain ⟨f, hf, hfe⟩ := List.mem_filterMap.mp (lookup_mem hq)
    split at hfe
    case h_1 => cases hfe
    rename_i p hcl
    cases hfe
    obtain ⟨fd2, F2, ok2⟩ := ih f hf
    have hE2 := List.all_eq_true.mp hE f hf
    have h1 := List.all_eq_true.mp hin f hf
    unfold inCls at h1
    rw [hcl] at h1
    obtain ⟨q0, hq0, e0⟩ := List.any_eq_true.mp h1
    have e0 := of_decide_eq_true e0
    have m1 := hd.mt f hf p hcl
    rw [← e0] at m1
    exact ⟨_, 3 * k + 2, f.ad Pm.K, fd2, f.ps, by rw [hP]; show clsOf (clsA cl ers) Pm.K (codeOf p.1) = _; rw [← e0]; exact cls_of hcn (List.mem_append_left _ hq0), (hd.cls q0 hq0).1, m1, ok2, hr.mono (by omega), bind_en hE2 F2⟩
  · obtain ⟨f, hf, hfe⟩ := List.mem_filterMap.mp (lookup_mem hx)
    split at hfe
    case h_1 => cases hfe
    rename_i p hcl
    split at hfe
    case isFalse => cases hfe
    rename_i hi
    cases hfe
    obtain ⟨fd2, F2, ok2⟩ := ih f hf
    have hE2 := List.all_eq_true.mp hE f hf
    have h1 := List.all_eq_true.mp hin f hf
    unfold inCls at h1
    rw [hcl] at h1
    obtain ⟨q0, hq0, e0⟩ := List.any_eq_true.mp h1
    have e0 := of_decide_eq_true e0
    obtain ⟨m1, m2⟩ := hd.mkr f hf p hcl hi
    exact ⟨He.ga Pm.K p.1, 3 * k + 2, f.ad Pm.K, fd2, f.ps, by rw [hP]; show clsOf (clsA cl ers) Pm.K (codeOf p.1) = _; rw [← e0]; exact cls_of hcn (List.mem_append_left _ hq0), m1, ok2, hr.mono (by omega), m2, bind_en hE2 F2⟩
  · obtain ⟨p, hp, e1⟩ := List.mem_map.mp hx
    cases e1
    obtain ⟨m1, m2⟩ := hd.er.one p hp
    exact ⟨_, by rw [hP]; exact cls_of (p := (p.1, [])) hcn (List.mem_append_right _ (List.mem_map.mpr ⟨p, hp, rfl⟩)), m1, m2, fun f hf => by rw [hF]; exact fld_of hce hp hf⟩
  · obtain ⟨p, hp, e1⟩ := List.mem_map.mp hx
    obtain ⟨q, hq, e2⟩ := List.mem_map.mp hy
    cases e1
    cases e2
    have c1 := cls_of (K := Pm.K) (p := (p.1, [])) hcn (List.mem_append_right _ (List.mem_map.mpr ⟨p, hp, rfl⟩))
    have c2 := cls_of (K := Pm.K) (p := (q.1, [])) hcn (List.mem_append_right _ (List.mem_map.mpr ⟨q, hq, rfl⟩))
    rw [hP, c1, c2, ← code_inj hce hp hq]
    exact hd.er.two p hp q hq
  · obtain ⟨f, hf, hfe⟩ := List.mem_filterMap.mp (lookup_mem hx)
    split at hfe
    case isFalse => cases hfe
    rename_i hhot
    cases hfe
    obtain ⟨fd2, F2, ok2⟩ := hotk f hf hhot
    have hcl : f.cl = none := by
      unfold hotB at hhot
      simp only [Bool.and_eq_true] at hhot
      exact Option.isNone_iff_eq_none.mp hhot.1
    have had : f.ad Pm.K = He.ga Pm.K f.name := by unfold En.ad En.at_; rw [hcl]; rfl
    have hE2 := List.all_eq_true.mp hE f hf
    exact ⟨3 * k + 2, f.ad Pm.K, fd2, f.ps, ok2, L2H.roomH_of (hr.mono (by omega)), by rw [had]; exact hd.mgs f hf hcl, F2.kp, bind_en hE2 F2⟩
  · obtain ⟨f, hf, hfe⟩ := List.mem_filterMap.mp (lookup_mem hx)
    split at hfe
    case h_2 => cases hfe
    rename_i hcl
    cases hfe
    obtain ⟨fd2, F2, ok2⟩ := ih f hf
    have had : f.ad Pm.K = He.ga Pm.K f.name := by unfold En.ad En.at_; rw [hcl]; rfl
    have hE2 := List.all_eq_true.mp hE f hf
    refine ⟨3 * k + 2, f.ad Pm.K, fd2, f.ps, Nat.le_refl _, ok2, hr.mono (by omega), by rw [had]; exact hd.mgs f hf hcl, F2.kp, ?_⟩
    exact bind_en hE2 F2
  · show (if (defScope e.st).kind.isAnnotationScope then ScopeKind.function else (defScope e.st).kind) = .function
    rw [S.kind]; rfl
  · exact sto_def fun _ => rfl
theorem all_ok (n : Nat) (hlm : LamT tab lms Pm.K base mg Pm.tb) (hok : okT tab cs cl ers lms = true) (hP : Pm.cls = clsOf (clsA cl ers) Pm.K) (hF : Pm.fld = fldOf ers) (hd : Hd tab cs cl ers P Pm.K mg) : ∀ k, ∀ e ∈ tab, ∃ fd, FunD Pm.K e.nm e.name (defArgs e.st) (defBody e.st) (defScope e.st) [] [] (e.ad Pm.K) fd ∧
    FnOk P Pm.wo Pm.K mg base (L2N.CX P Pm.wo) (3 * k + 2) (e.ad Pm.K) fd e.ps (spOf Pm ⟨run (tblOf tab) (glOf cs) n k, glOf cs, n⟩ (codeOf e.name) e.fi.bw) := by
  have hok0 := hok
  unfold okT at hok
  simp only [Bool.and_eq_true, decide_eq_true_eq] at hok
  obtain ⟨hE, hnd, hcs, hin, hcn, her⟩ := hok
  have spLen : ∀ {G : Glo} {f : Nat} {m : List Bool} vs H Q E, spOf Pm G f m vs H Q E → vs.length = m.length := fun vs H Q E ⟨os, Z, w, ds, _, r, _⟩ => r.len.2
  have hotk := hot_ok (P := P) (base := base) (Pm := Pm) n (hok0) hd
  intro k
  induction k with
  | zero =>
    intro e he
    obtain ⟨fd, F⟩ := hd.defs e he
    have hokE := List.all_eq_true.mp hE e he
    unfold okE at hokE
    simp only [Bool.and_eq_true, decide_eq_true_eq, Bool.not_eq_true'] at hokE
    obtain ⟨h1, h2, h3, h4, h5, h6, h7, h8, h9, h10, h11, h12, h13, h14⟩ := hokE
    refine ⟨fd, F, ⟨fun vs H Q E h => (spLen vs H Q E h).trans (h13.trans h11.symm), fun A outer s H args us vs Q E hr e0 hb r hsp => ?_⟩⟩
    obtain ⟨os, Z, w, ds, _, _, h⟩ := hsp
    exact h.elim
  | succ k ih =>
    intro e he
    obtain ⟨fd, F⟩ := hd.defs e he
    have hokE := List.all_eq_true.mp hE e he
    have S := okE_scope hokE
    unfold okE at hokE
    simp only [Bool.and_eq_true, decide_eq_true_eq, Bool.not_eq_true'] at hokE
    obtain ⟨h1, h2, h3, h4, h5, h6, h7, h8, h9, h10, h11, h12, h13, h14⟩ := hokE
    refine ⟨fd, F, ?_⟩
    obtain ⟨oc, od, dV, kV, doc, pm, an, cdv, ct, osl, rfl, lk, hcd, _, _⟩ := F.ex
    refine fn_of lk hcd S (fun vs H Q E h => (spLen vs H Q E h).trans (h13.trans h11.symm)) fun A outer s H vs Q E hr hsp => ?_
    let G : Glo := ⟨run (tblOf tab) (glOf cs) n k, glOf cs, n⟩
    have gsI : ∀ (e : En) (he : e ∈ tab) (cdv : Value) (A : Around) (outer : List PySem.Env) (s : Shared) (H : Hp) (E : XK) (lam err : Bool), Room (3 * k + 3) (A.deeper (PyProof.Rows.envOfC e.name (defScope e.st) s.heap.objs.size (e.ad Pm.K) cdv)) →
        (lam = true → ∃ cd Pt, LamF Pm (cxOf (L2N.CX P Pm.wo) P Pm.wo Pm.K mg base e.N e.name (defScope e.st) (e.ad Pm.K) cdv A outer s H E) cd Pt) → (err = true → ErrOk Pm (cxOf (L2N.CX P Pm.wo) P Pm.wo Pm.K mg base e.N e.name (defScope e.st) (e.ad Pm.K) cdv A outer s H E) (3 * k + 2)) →
        Gs Pm G (ckOf tab cs cl ers lam err e.N) (defScope e.st) (cxOf (L2N.CX P Pm.wo) P Pm.wo Pm.K mg base e.N e.name (defScope e.st) (e.ad Pm.K) cdv A outer s H E) := fun e he cdv A outer s H E lam err hr hlam herr => gs_of hok0 hP hF hd ih (hotk k) he hr hlam herr
    have gs := gsI e he cdv A outer s H E (lamE lms e) (lamE lms e && errIn tab) (hr.mono (by omega)) (fun hx => by
        obtain ⟨o, fd1, cd, Pt, t1, t2, t3, t4, t5, t6⟩ := hlm e he hx
        rw [lk] at t1
        cases t1
        cases t2
        have t3 : cdv = .ref cd := t3
        exact ⟨cd, Pt, t3, t4, t5, t6⟩) (fun hx => by
        have hx := (Bool.and_eq_true_iff.mp hx).2
        obtain ⟨ee, hee, hne⟩ := List.any_eq_true.mp hx
        have hne := of_decide_eq_true hne
        have h15 := List.all_eq_true.mp her ee hee
        rw [hne, decide_eq_true rfl] at h15
        have h15 : errB tab cs cl ers ee = true := h15
        unfold errB at h15
        simp only [Bool.and_eq_true, decide_eq_true_eq] at h15
        obtain ⟨g1, g2, g3⟩ := h15
        have g1 := Option.isNone_iff_eq_none.mp g1
        obtain ⟨fd2, F2, _⟩ := ih ee hee
        have hEe := List.all_eq_true.mp hE ee hee
        have had : ee.ad Pm.K = He.ga Pm.K ee.name := by unfold En.ad En.at_; rw [g1]; rfl
        obtain ⟨oc2, od2, dV2, kV2, doc2, pm2, an2, cdv2, ct2, osl2, rfl, lk2, hcd2, _, _⟩ := F2.ex
        obtain ⟨pa, hpa⟩ : ∃ a, ee.ps = [a] := List.length_eq_one_iff.mp g2
        have Se := okE_scope hEe
        have be := bind_en hEe F2
        rw [hpa] at Se be
        refine err_ok (G := G) (by show mg errN = _; rw [← hne, had]; exact hd.mgs ee hee g1) F2.kp lk2 hcd2 Se be (hr.mono (by omega)) g3 fun s2 H2 hr2 => ?_
        exact gsI ee hee cdv2 _ _ s2 H2 (fun _ _ _ => False) false false hr2 (fun z => nomatch z) (fun z => nomatch z))
    refine ⟨tS Pm (fun cls d _ H => E cls d H) (execs G e.fi.body), snd_Ss e.fi.body gs (L2N.takes_of rfl rfl rfl rfl) h14, ?_⟩
    obtain ⟨os, Z, w1, ds, k1, r, out⟩ := hsp
    have hl : ds.length = e.fi.ps := r.len.1.trans h13
    have hat := at_of he hnd
    have out : Out Pm (fun cls dd _ H' => E cls dd H') [] os Z H (run (tblOf tab) (glOf cs) n (k + 1) (codeOf e.name) ds w1) (fun d _ os' Z' H' => ∀ v, Rep Pm os' Z' d v → Q v H') := out
    have er : run (tblOf tab) (glOf cs) n (k + 1) (codeOf e.name) ds = bnd (execs G e.fi.body (startE e.fi ds)) endF := by
      have hb : Nat.beq ds.length e.fi.ps = true := by rw [hl]; exact Nat.beq_refl _
      show (match (tblOf tab).at_ (codeOf e.name) with
        | none => stuck
        | some fi => if Nat.beq ds.length fi.ps then bnd (execs G fi.body (startE fi ds)) endF else stuck) = _
      rw [hat]
      show (if Nat.beq ds.length e.fi.ps then bnd (execs G e.fi.body (startE e.fi ds)) endF else stuck) = _
      rw [if_pos hb]
    rw [er] at out
    refine ⟨os, Z, w1, startE e.fi ds, fun _ => [], Ex H, k1, slots_start k1 r h10 (by rw [hl]; exact h12), fun a h => h, ?_⟩
    have ob := out.bnd
    revert ob
    cases execs G e.fi.body (startE e.fi ds) w1 with
    | no => exact fun h => h
    | exn c f w2 => exact fun h σ' os' Z' H' cls dd st k' x => h os' Z' H' cls dd st k' x
    | ok fl w2 =>
      intro ob
      cases fl with
      | nx env' => exact fun σ' os' Z' H' ad' st k' _ => (ob os' Z' H' st k').ret k' .non (by unfold Rep; rfl)
      | bk env' => exact fun σ' os' Z' H' ad' st k' _ => (ob os' Z' H' st k').elim
      | rt d => exact fun v os' Z' H' st k' rv => (ob os' Z' H' st k').ret k' v rv
end
/-- the law's own promise -/
theorem law_ok {P : Program} {Pm : VI.Pm} {mg : Str → Option Value} {base : Heap} {tab : Tab} {cs : List (Str × VI.D)} {cl : Cls0} {ers : Ers} {lms : List Str} (n k : Nat) (hlm : LamT tab lms Pm.K base mg Pm.tb) (hok : okT tab cs cl ers lms = true) (hP : Pm.cls = clsOf (clsA cl ers) Pm.K) (hF : Pm.fld = fldOf ers) (hd : Hd tab cs cl ers P Pm.K mg) {e : En} (he : e ∈ tab) :
    ∃ fd, FunD Pm.K e.nm e.name (defArgs e.st) (defBody e.st) (defScope e.st) [] [] (e.ad Pm.K) fd ∧
      FnOk P Pm.wo Pm.K mg base (CXA P) (3 * k + 2) (e.ad Pm.K) fd e.ps (spOf Pm ⟨run (tblOf tab) (glOf cs) n k, glOf cs, n⟩ (codeOf e.name) e.fi.bw) :=
  let ⟨fd, F, ok⟩ := all_ok (P := P) (base := base) n hlm hok hP hF hd k e he
  ⟨fd, F, fnOk_any ok⟩
theorem funD_same {K : PySem.W.Frag} {x qual : Str} {params : Arguments} {body : List Stmt} {scope : Scope} {f : Addr} {fd fd2 : FuncData} (F : FunD K x qual params body scope [] [] f fd) (F2 : FunD K x qual params body scope [] [] f fd2) : fd2 = fd := by
  obtain ⟨oc, od, dV, kV, doc, pm, an, cdv, ct, osl, _, lk, _⟩ := F.ex
  obtain ⟨oc2, od2, dV2, kV2, doc2, pm2, an2, cdv2, ct2, osl2, _, lk2, _⟩ := F2.ex
  rw [lk] at lk2
  cases lk2
  rfl
/-- what is asked of the small language -/
def Says (tab : Tab) (cs : List (Str × VI.D)) (n k : Nat) : Prop := ∀ ns : List Int, ns.length ≤ 63 → ∃ w, run (tblOf tab) (glOf cs) n k (codeOf "law") [.scr ns] [] = .ok (.bl true) w
/-- all but the tables -/
def noTbl (H : Hp) : Hp := fun a => match H a with
  | some (.tbl _) => none
  | o => o
theorem noTbl_some {H : Hp} {a : Addr} {o : HO} (h : H a = some o) (nt : NT o) : noTbl H a = some o := by
  unfold noTbl
  rw [h]
  cases o <;> first | rfl | exact absurd rfl (nt _)
theorem noTbl_le {H : Hp} : Le (noTbl H) H := fun a o h => by
  unfold noTbl at h
  split at h
  · cases h
  · exact h
theorem noTbl_nt {H : Hp} : ∀ a ps, noTbl H a ≠ some (.tbl ps) := fun a ps h => by
  unfold noTbl at h
  split at h
  · cases h
  · rename_i q
    exact q ps h
theorem noTbl_sq {K : PySem.W.Frag} {H : Hp} {a : Addr} {vs : List V} (s : SqL K H a vs) : SqL K (noTbl H) a vs := by
  rcases s with (s | ⟨o, s⟩) | s
  · exact .inl (.inl (noTbl_some s nt_lst))
  · exact .inl (.inr ⟨o, noTbl_some s fun _ z => nomatch z⟩)
  · exact .inr s
theorem law_sp {Pm : VI.Pm} {tab : Tab} {cs : List (Str × VI.D)} {n k : Nat} {bw : List Bool} (hb : bw.length = 1) (h : Says tab cs n k) {H : Hp} {a : Addr} {ns : List Int} (hl : ns.length ≤ 63) (hS : SqL Pm.K H a (ns.map V.int)) (hT : LamX.Tabs Pm.tb H) :
    spOf Pm ⟨run (tblOf tab) (glOf cs) n k, glOf cs, n⟩ (codeOf "law") bw [.ref a] H (fun v _ => v = .bl true) (fun _ _ _ => False) := by
  obtain ⟨w, e⟩ := h ns hl
  have lz : Le (noTbl H) H := noTbl_le
  refine ⟨[], noTbl H, [], [.scr ns], ⟨lz, by simp, .nil, rfl, by simp, hT, noTbl_nt⟩, ?_, ?_⟩
  · match bw, hb with
    | [b], _ => exact ⟨.of (by unfold Rep; exact ⟨a, rfl, noTbl_sq hS⟩), trivial⟩
  show Out Pm _ [] [] (noTbl H) H (run (tblOf tab) (glOf cs) n k (codeOf "law") [.scr ns] []) _
  rw [e]
  intro os' Z' H' _ _ v r
  unfold Rep at r
  exact r
/-! ### the head's facts -/
theorem mtOf_mem {tab : Tab} {e : En} {p : Str × Str} (he : e ∈ tab) (hp : e.cl = some p) : (e, p) ∈ mtOf tab := List.mem_filterMap.mpr ⟨e, he, by rw [hp]; rfl⟩
theorem ad_of {K : PySem.W.Frag} {e : En} {p : Str × Str} (hp : e.cl = some p) : e.ad K = He.ma K (He.ga K p.1) p.2 := by
  unfold En.ad En.at_
  rw [hp]
  rfl
theorem hd_of {tab : Tab} {cs : List (Str × VI.D)} {cl : Cls0} {ers : Ers} {prog : Program} {K : PySem.W.Frag} {h : Heap} {mg : Str → Option Value} (hcd : cs.all (fun p => match glOf cs (codeOf p.1), p.2 with
    | some (.int i), .int j => decide (i = j)
    | some (.str i), .str j => decide (i = j)
    | _, _ => false) = true) (X : K.In h) (G : h.Ns mainGlobals mg) (c : He.SaysD (faOf tab cs cl) (tab.map En.dd) K) (ce : ersB prog ers K = true) : Hd tab cs cl ers prog K mg := by
  have fact : ∀ f ∈ faOf tab cs cl, f.ok K = true := fun f hf => by
    obtain ⟨i, hi, e⟩ := List.mem_iff_getElem.mp hf
    exact c.fact i (by rw [List.getElem?_eq_getElem hi, e])
  have fact2 : ∀ f ∈ faC tab cl, f.ok K = true := fun f hf => fact f (List.mem_append_right _ (List.mem_append_right _ hf))
  refine ⟨ersB_ok X G ce, fun e he => ?_, fun e he hn => ?_, fun p hp => ⟨?_, fun f hf => ?_⟩, fun e he p hp => ?_, fun e he p hp hi => ⟨?_, ?_⟩, fun x hx => ?_, fun p hp => ?_⟩
  · obtain ⟨i, hi, ee⟩ := List.mem_iff_getElem.mp (List.mem_map.mpr ⟨e, he, rfl⟩ : e.dd ∈ tab.map En.dd)
    exact c.def_ i (d := e.dd) (by rw [List.getElem?_eq_getElem hi, ee])
  · exact He.glo_ok X G (fact _ (List.mem_append_left _ (List.mem_filterMap.mpr ⟨e, he, by rw [hn]⟩)))
  · exact He.cls_ok (fact2 _ (List.mem_append_left _ (List.mem_map.mpr ⟨p, hp, rfl⟩)))
  · exact He.noat_ok (fact2 _ (List.mem_append_right _ (List.mem_append_left _ (List.mem_flatMap.mpr ⟨p, hp, List.mem_map.mpr ⟨f, hf, rfl⟩⟩))))
  · rw [ad_of hp]
    exact He.meth_ok (fact2 _ (List.mem_append_right _ (List.mem_append_right _ (List.mem_append_left _ (List.mem_map.mpr ⟨(e, p), mtOf_mem he hp, rfl⟩)))))
  · rw [ad_of hp, hi]
    exact He.mkr_ok (fact2 _ (List.mem_append_right _ (List.mem_append_right _ (List.mem_append_right _ (List.mem_flatMap.mpr ⟨(e, p), mtOf_mem he hp, by rw [if_pos hi]; exact .head _⟩)))))
  · exact He.glo_ok X G (fact2 _ (List.mem_append_right _ (List.mem_append_right _ (List.mem_append_right _ (List.mem_flatMap.mpr ⟨(e, p), mtOf_mem he hp, by rw [if_pos hi]; exact .tail _ (.head _)⟩)))))
  · exact He.free_ok X G (fact _ (List.mem_append_right _ (List.mem_append_left _ (List.mem_append_left _ (List.mem_map.mpr ⟨x, hx, rfl⟩)))))
  · have hf := fact _ (List.mem_append_right _ (List.mem_append_left _ (List.mem_append_right _ (List.mem_map.mpr ⟨p, hp, rfl⟩))))
    have hg := List.all_eq_true.mp hcd p hp
    obtain ⟨x, d⟩ := p
    cases q : glOf cs (codeOf x) with
    | none => rw [q] at hg; exact nomatch hg
    | some dd =>
      rw [q] at hg
      cases d with
      | int i => cases dd with
        | int j =>
          cases of_decide_eq_true hg
          obtain ⟨t, e⟩ := He.int_ok X G hf
          exact ⟨_, .int i, e, ⟨t, rfl⟩, rfl, fun P os Z => by unfold Rep; rfl⟩
        | _ => exact nomatch hg
      | str i => cases dd with
        | str j =>
          cases of_decide_eq_true hg
          obtain ⟨t, e⟩ := He.str_ok X G hf
          exact ⟨_, .str i, e, ⟨t, rfl⟩, rfl, fun P os Z => by unfold Rep; rfl⟩
        | _ => exact nomatch hg
      | _ => cases dd <;> exact nomatch hg
end VI

set_option Elab.async false
set_option linter.all false
set_option maxRecDepth 100000
set_option maxHeartbeats 4000000
/-! VI, part 20: the head with tables of code objects (of the defs that make lambdas). -/
namespace VI
open PySem L2
/-- the tables that the small language knows -/
def tbL (lms : List Str) (K : PySem.W.Frag) : List (Addr × Str) := lms.map fun x => ((tbN K x).2, (x ++ ".<locals>.") ++ "<lambda>")
theorem lamQ_at {lms : List Str} {K : PySem.W.Frag} (h : lamQ lms K = true) {x : Str} (hx : x ∈ lms) : PySem.W.tabIn K x = some (tbN K x) ∧ PySem.W.codeHdIn K (tbN K x).1 (tbN K x).2 = true ∧ K.lookup (tbN K x).2 = none := by
  unfold lamQ at h
  rw [Bool.and_eq_true] at h
  have h1 := List.all_eq_true.mp h.1 x hx
  unfold tbN
  split at h1
  · rename_i c P q
    rw [Bool.and_eq_true] at h1
    rw [q]
    exact ⟨rfl, h1.1, Option.isNone_iff_eq_none.mp h1.2⟩
  · cases h1
theorem nodup_inj {α β : Type} {f : α → β} : ∀ {l : List α} {x y : α}, (l.map f).Nodup → x ∈ l → y ∈ l → f x = f y → x = y
  | a :: l, x, y, nd, hx, hy, e => by
    have nd2 := List.nodup_cons.mp nd
    rcases List.mem_cons.mp hx with e1 | hx2
    · rcases List.mem_cons.mp hy with e2 | hy2
      · rw [e1, e2]
      · exact absurd (show f a ∈ l.map f by rw [← e1, e]; exact List.mem_map.mpr ⟨y, hy2, rfl⟩) nd2.1
    · rcases List.mem_cons.mp hy with e2 | hy2
      · exact absurd (show f a ∈ l.map f by rw [← e2, ← e]; exact List.mem_map.mpr ⟨x, hx2, rfl⟩) nd2.1
      · exact nodup_inj nd2.2 hx2 hy2 e
theorem lamT_of {tab : Tab} {lms : List Str} {K : PySem.W.Frag} {base : Heap} {mg : Str → Option Value} (h : lamQ lms K = true) (hT : ∀ p ∈ lms.map (tbN K), LamX.TabB base mg p.1 p.2) : LamT tab lms K base mg (tbL lms K) := by
  intro e he hl
  unfold lamE at hl
  rw [Bool.and_eq_true] at hl
  have hcl := Option.isNone_iff_eq_none.mp hl.1
  have hx : e.name ∈ lms := List.contains_iff_mem.mp hl.2
  have had : e.ad K = He.ga K e.name := by unfold En.ad En.at_; rw [hcl]; rfl
  obtain ⟨h1, h2, h3⟩ := lamQ_at h hx
  have h1' := h1
  unfold PySem.W.tabIn at h1
  split at h1
  case h_2 => cases h1
  rename_i f hf
  split at h1
  case h_2 => cases h1
  rename_i c0 d0 fd sl hfo
  split at h1
  case h_2 => cases h1
  rename_i c hc
  split at h1
  case h_2 => cases h1
  split at h1
  case h_2 => cases h1
  rename_i P hP
  have e1 := Option.some.inj h1
  have hga : He.ga K e.name = f := by unfold He.ga; rw [hf]
  refine ⟨_, fd, (tbN K e.name).1, (tbN K e.name).2, by rw [had, hga]; exact hfo, rfl, by rw [← e1]; exact hc, hT _ (List.mem_map.mpr ⟨_, hx, rfl⟩), List.mem_map.mpr ⟨_, hx, rfl⟩, fun p hp e2 => ?_⟩
  obtain ⟨y, hy, rfl⟩ := List.mem_map.mp hp
  unfold lamQ at h
  rw [Bool.and_eq_true, decide_eq_true_eq] at h
  have := nodup_inj (f := fun x => (tbN K x).2) h.2 hy hx e2
  rw [this]
theorem tabs_of {lms : List Str} {K : PySem.W.Frag} {H : Hp} (h : ∀ p ∈ lms.map (tbN K), H p.2 = some (.tbl #[])) : LamX.Tabs (tbL lms K) H := fun p hp => by
  obtain ⟨x, hx, rfl⟩ := List.mem_map.mp hp
  exact LamX.TabS.nil (h _ (List.mem_map.mpr ⟨x, hx, rfl⟩))
/-- the law at the head's end -/
theorem law_at {P : Program} {K : PySem.W.Frag} {h : Heap} {mg : Str → Option Value} {w : World} {tab : Tab} {cs : List (Str × VI.D)} {cl : Cls0} {ers : Ers} {lms : List Str} {l : PySem.W.OpenLaw} {fa : Addr} {n k : Nat} {lawE : En} {x : Str} (hP : l.prog = P) (X : K.In h) (hq : lamQ lms K = true) (ht : ∀ x ∈ lms, h.get? (tbN K x).2 = some { cls := .none, data := .fields #[] })
    (hok : okT tab cs cl ers lms = true) (hd : Hd tab cs cl ers P K mg) (he : lawE ∈ tab) (hn : lawE.name = ("law" : Str)) (hcl : lawE.cl = none) (hps : lawE.ps = [x]) (hbw : lawE.fi.bw.length = 1) (hpl : plainA (defArgs lawE.st) = true) (hfa : mg ("law" : Str) = some (.ref fa)) (hs : Says tab cs n k) :
    LamX.LawAtS l w K (CXA P) (3 * k + 2) 63 x mg fa h := by
  subst hP
  have hmg := hd.mgs lawE he hcl
  rw [hn, hfa] at hmg
  have had : lawE.ad K = He.ga K lawE.name := by unfold En.ad En.at_; rw [hcl]; rfl
  have hfad : fa = lawE.ad K := by rw [had, hn]; exact Value.ref.inj (Option.some.inj hmg)
  obtain ⟨fd, F⟩ := hd.defs lawE he
  have b : Binds K fd lawE.ps [] := bind_en (List.all_eq_true.mp (by unfold okT at hok; exact (Bool.and_eq_true_iff.mp hok).1) lawE he) F
  refine ⟨fd, lms.map (tbN K), spOf ⟨K, w, clsOf (clsA cl ers) K, fldOf ers, tbL lms K⟩ ⟨run (tblOf tab) (glOf cs) n k, glOf cs, n⟩ (codeOf lawE.name) lawE.fi.bw, fun p hp => ?_, fun p hp => ?_, fun p hp => ?_, fun s u => ?_, fun H a ns hl _ hH hS => ?_, fun base hK hM hT => ?_⟩
  · obtain ⟨x, hx, rfl⟩ := List.mem_map.mp hp
    exact ht x hx
  · obtain ⟨x, hx, rfl⟩ := List.mem_map.mp hp
    exact (lamQ_at hq hx).2.2
  · obtain ⟨x, hx, rfl⟩ := List.mem_map.mp hp
    exact PySem.W.codeHd_of_K X (lamQ_at hq hx).2.1
  · have b2 := FunD.bindsA (ps := lawE.ps) F fun kV doc pm an cdv ct us hl => by
      rw [plainA_eq hpl]
      refine bind_plain (x := lawE.nm) (qual := lawE.name) (body := defBody lawE.st) (scope := defScope lawE.st) (kV := kV) (doc := doc) (pm := pm) (cdv := cdv) (ct := ct) (an := an) (defArgs lawE.st).args us ?_ ?_
      · rw [hl]; unfold En.ps; rw [List.length_map]
      · have e : (defArgs lawE.st).args.map (·.arg) = [x] := hps
        rw [e]; simp
    have := b2 s [u] (by rw [hps]; rfl)
    rw [hps] at this
    exact this
  · rw [hn]
    exact law_sp hbw hs hl hS (tabs_of hH)
  · obtain ⟨fd2, F2, ok⟩ := law_ok (P := l.prog) (Pm := VI.Pm.mk K w (clsOf (clsA cl ers) K) (fldOf ers) (tbL lms K)) (base := base) n k (lamT_of hq hT) hok rfl rfl hd he
    have e2 : fd2 = fd := funD_same F2 F |>.symm ▸ rfl
    subst e2
    rw [hfad, ← hps]
    exact ok
end VI

set_option Elab.async false
set_option linter.all false
set_option maxRecDepth 100000
set_option maxHeartbeats 4000000
/-! law k35: the check of its table -/
namespace VI
open PySem L2
theorem tab_ok : okT tab cons clss ers lms = true := by decide +kernel
theorem cs_ok : cons.all (fun p => match glOf cons (codeOf p.1), p.2 with
    | some (.int i), .int j => decide (i = j)
    | some (.str i), .str j => decide (i = j)
    | _, _ => false) = true := by decide +kernel
theorem tbl_eq : tblOf tab = tabI := by rfl
end VI

set_option Elab.async false
set_option linter.all false
set_option maxRecDepth 1000000
set_option maxHeartbeats 4000000
namespace VI
open PySem L2
def nn : Nat := 400
def kk : Nat := 20
abbrev lawE : En := tab.getLast (by exact fun z => nomatch z)
def okR : Res D → Bool
  | .ok (.bl true) _ => true
  | _ => false
theorem okR_ok {r : Res D} (h : okR r = true) : ∃ w, r = .ok (.bl true) w := by
  unfold okR at h
  split at h
  · exact ⟨_, rfl⟩
  · cases h
theorem law_run (ns : List Int) : okR (run tabI (glOf cons) nn kk (codeOf "law") [.scr ns] []) = true := by
  kernel_rfl
theorem says_law : Says tab cons nn kk := by
  intro ns _
  rw [tbl_eq]
  exact okR_ok (law_run ns)
end VI

set_option Elab.async false
set_option linter.all false
set_option maxRecDepth 100000
set_option maxHeartbeats 4000000
namespace VI
open PySem PySem.Spec PyProof.Rows L2
theorem factsH : (lawE : En) ∈ tab := List.getLast_mem (l := tab) (by exact fun z => nomatch z)
end VI
open PySem PySem.W PySem.Calls PyProof.Rows
theorem PySem.Challenge.cw_handguards_k35_order_of_errors_holds : PySem.Challenge.rw_handguards_k35_order_of_errors.Holds := by
  w_on; o_law
  refine HandSHeadRun.head_any (r := OpenLaw.row PySem.Challenge.rw_handguards_k35_order_of_errors) (q := view (OpenLaw.row PySem.Challenge.rw_handguards_k35_order_of_errors).prog [125]) (H := VI.hk) (ob := VI.ob) (M := 8000) (loose := [("HandError" : PySem.Str), ("BadProgram" : PySem.Str), ("BadWeaving" : PySem.Str), ("BadItem" : PySem.Str), ("BadStands" : PySem.Str), ("BadSignal" : PySem.Str), ("BadWeb" : PySem.Str), ("BadLamps" : PySem.Str), ("BadOwners" : PySem.Str), ("BadOrder" : PySem.Str), ("NotStraight" : PySem.Str), ("NeverEnds" : PySem.Str), ("NotSafe" : PySem.Str), ("BadCount" : PySem.Str), ("NotText" : PySem.Str), ("InvalidText" : PySem.Str), ("TooMany" : PySem.Str), ("is_in" : PySem.Str), ("gcd" : PySem.Str), ("reduced" : PySem.Str), ("plus" : PySem.Str), ("times" : PySem.Str), ("MOST_SWITCHES" : PySem.Str), ("MOST_HANDS" : PySem.Str), ("MOST_ITEMS" : PySem.Str), ("MOST_SIGNAL" : PySem.Str), ("is_guard" : PySem.Str), ("is_item" : PySem.Str), ("need_program" : PySem.Str), ("all_items" : PySem.Str), ("item_at" : PySem.Str), ("need_item" : PySem.Str), ("deeds_on" : PySem.Str), ("signals_of" : PySem.Str), ("first_state" : PySem.Str), ("can_go" : PySem.Str), ("gone" : PySem.Str), ("going_in" : PySem.Str), ("is_end" : PySem.Str), ("is_hands" : PySem.Str), ("line_in" : PySem.Str), ("state_after" : PySem.Str), ("going" : PySem.Str), ("walked" : PySem.Str), ("last_in" : PySem.Str), ("stuck_chance" : PySem.Str), ("is_bent" : PySem.Str), ("bent" : PySem.Str), ("is_straight" : PySem.Str), ("need_straight" : PySem.Str), ("change" : PySem.Str), ("guard_befores" : PySem.Str), ("befores_in" : PySem.Str), ("befores" : PySem.Str), ("hopeless_in" : PySem.Str), ("ring_in" : PySem.Str), ("ends_in" : PySem.Str), ("can_end" : PySem.Str), ("need_ending" : PySem.Str), ("least_ending" : PySem.Str), ("ending" : PySem.Str), ("closed" : PySem.Str), ("is_before" : PySem.Str), ("steps_in" : PySem.Str), ("loose_in" : PySem.Str), ("need_safe" : PySem.Str), ("order_of" : PySem.Str), ("stuck_in" : PySem.Str), ("stuck_way" : PySem.Str), ("put_in" : PySem.Str), ("with_signals" : PySem.Str), ("without" : PySem.Str), ("without_signal" : PySem.Str), ("deed_order" : PySem.Str), ("needless" : PySem.Str), ("deeds_of" : PySem.Str), ("alike" : PySem.Str), ("levels" : PySem.Str), ("in_rows" : PySem.Str), ("beats" : PySem.Str), ("nexts" : PySem.Str), ("moved" : PySem.Str), ("ways_from" : PySem.Str), ("ending_at" : PySem.Str), ("ending_number" : PySem.Str), ("ahead_share" : PySem.Str), ("turned_item" : PySem.Str), ("turned" : PySem.Str), ("with_hands" : PySem.Str), ("moved_item" : PySem.Str), ("beside" : PySem.Str), ("need_web" : PySem.Str), ("need_lamps" : PySem.Str), ("need_three" : PySem.Str), ("ahead_of" : PySem.Str), ("behind" : PySem.Str), ("spare_in" : PySem.Str), ("spare" : PySem.Str), ("need_owners" : PySem.Str), ("plain_in" : PySem.Str), ("need_made" : PySem.Str), ("plain_program" : PySem.Str), ("made" : PySem.Str), ("need_wish" : PySem.Str), ("choices" : PySem.Str), ("moment_in" : PySem.Str), ("may_be" : PySem.Str), ("shows_moment" : PySem.Str), ("DIGITS" : PySem.Str), ("Reader" : PySem.Str), ("read_program" : PySem.Str), ("_law_error1" : PySem.Str)]) (d := HandSHeadRun.topDef (OpenLaw.row PySem.Challenge.rw_handguards_k35_order_of_errors).prog 125) (kwd := []) VI.ob_eq
    (by kernel_rfl) (fun s => by kernel_rfl) VI.runH (by kernel_rfl) (by kernel_rfl) (by kernel_rfl) (by rfl) (by first | assumption | decide +kernel) (by decide +kernel) ⟨rfl, rfl, rfl, rfl, rfl, by decide +kernel⟩ ?hw ?hc
  case hw => w_witness2
  case hc =>
    refine LamX.walk_ofTsE (l := PySem.Challenge.rw_handguards_k35_order_of_errors) (n := 63) (k := 3 * VI.kk + 2) (x := "_law_script") (CX := fun _ => VI.CXA (PySem.Challenge.rw_handguards_k35_order_of_errors).prog) rfl (by decide) (by kernel_rfl) ⟨rfl, by decide, by decide⟩ ?F (fun _ => VI.cxa_never)
    intro w mg fa h Y G hmg0
    obtain ⟨K, KX, ⟨c, hq⟩, ht⟩ := Y
    have hmg : mg ("law" : PySem.Str) = some (.ref fa) := by
      have e : (HandSHeadRun.topDef (OpenLaw.row PySem.Challenge.rw_handguards_k35_order_of_errors).prog 125).name = ("law" : PySem.Str) := by kernel_rfl
      rw [← e]
      exact hmg0
    exact ⟨K, KX, VI.law_at (tab := VI.tab) (cs := VI.cons) (cl := VI.clss) (ers := VI.ers) (lms := VI.lms) (lawE := VI.lawE) rfl KX hq ht VI.tab_ok (VI.hd_of VI.cs_ok KX G c.1 c.2) VI.factsH rfl rfl rfl rfl rfl hmg VI.says_law⟩
