import PyProof.Rows.All
import Wide.All
import OpenK.AllK
import Wide.FinOn
import HandS.ForMost
import HandS.Walk
import KE.KDictKeyed
import KE.KDictWalk
import KE.KEqDict
import PyProof.DictRoadsH
import KE.KDictDisplayH
import KE.KDictList
import HandS.IsInst
import KE.KDictPairs
import KE.SortData
import KE.KDictSum
import KE.KDictCopyH
import HandS.TupSets
import HandS.SetFor
import HandS.ExcValue
import HandS.Strs
import HandS.Style
import HandS.TupAny
import KE.KRevSl
import HandS.Exc
import HandS.ExcOwn
import HandS.CallSlots
import HandS.Deep
import HandS.TupMul
import HandS.Wide
import HandS.Conv
import HandS.Flow
import HandS.SortInts
import HandS.SortRule
import HandS.Zip
import KE.GoesMore
import HandS.Defaults
import HandS.Head0
import HandS.Head1
import HandS.Head2
import HandS.HeadEnd
import HandS.HeadHook1
import HandS.HeadHook2
import PySem.Challenge.RW_handguards_k08_whole_rings_judged
set_option Elab.async false
set_option linter.all false
set_option maxRecDepth 100000
set_option maxHeartbeats 1000000
/-! VD, part 1: dicts whose keys are tuples, by what the heap holds: reading, storing -/
namespace VI
open PySem PySem.Spec PyProof.Rows L2
/-- a dict told by its rows -/
def dRaw (d : Addr) (es : Array DictEntry) (ep : Nat) : HO := .ext fun h => (d == sysModules) = false ∧ h.DictRaw d es ep
theorem raw_stable {d : Addr} {es : Array DictEntry} {ep : Nat} {h h' : Heap} (r : h.DictRaw d es ep) (k : ∀ o, h.get? d = some o → h'.get? d = some o) : h'.DictRaw d es ep := by
  obtain ⟨o, h1, h2, h3⟩ := r
  exact ⟨o, k o h1, h2, h3⟩
theorem dRaw_ok {P : Program} {w : World} {H : Hp} {h : Heap} {d : Addr} {es : Array DictEntry} {ep : Nat} (hs : (d == sysModules) = false) (r : h.DictRaw d es ep) : ObjOk P w H h d (dRaw d es ep) := by
  obtain ⟨o, h1, _, _⟩ := r
  exact ⟨⟨hs, o, h1, ‹_›, ‹_›⟩, ⟨o, h1⟩, fun h1 h2 a b => ⟨a.1, raw_stable a.2 b⟩⟩
section
variable {X : Cx} {pins : List (Addr × Obj)} {σ : L2.St} {H : Hp} {s : Shared} {d : Addr} {es : Array DictEntry} {ep : Nat}
theorem raw_of (I : Inv X pins σ H s) (h : H d = some (dRaw d es ep)) : (d == sysModules) = false ∧ s.heap.DictRaw d es ep := (I.hok d _ h).1
end
mutual
/-- a key of tuples, as it lies -/
def NkV (H : Hp) : NestedKey → V → Prop
  | .none, v => v = .non
  | .num i, v => v = .int i
  | .text x, v => v = .str x
  | .tup ks, v => ∃ a vs, v = .ref a ∧ H a = some (.tup vs) ∧ NksV H ks vs
def NksV (H : Hp) : List NestedKey → List V → Prop
  | [], vs => vs = []
  | k :: ks, vs => ∃ v r, vs = v :: r ∧ NkV H k v ∧ NksV H ks r
end
section
variable {X : Cx} {pins : List (Addr × Obj)} {σ : L2.St} {H H' : Hp} {s : Shared} {d : Addr} {es : Array DictEntry} {ep : Nat}
mutual
theorem nk_is (I : Inv X pins σ H s) : ∀ {k : NestedKey} {v : V} {u : Value}, NkV H k v → RelV v u → NestedIs s.heap k u
  | .none, v, u, h, r => by
    unfold NkV at h; subst h
    cases r; exact .none
  | .num i, v, u, h, r => by
    unfold NkV at h; subst h
    obtain ⟨t, rfl⟩ := r; exact .int i t
  | .text x, v, u, h, r => by
    unfold NkV at h; subst h
    obtain ⟨t, rfl⟩ := r; exact .text x t
  | .tup ks, v, u, h, r => by
    unfold NkV at h
    obtain ⟨a, vs, rfl, ha, hk⟩ := h
    cases r
    obtain ⟨its, rv, p, _⟩ := I.tuple (SqT.of ha)
    have p : s.heap.IsTuple a its.toArray := p
    obtain ⟨o, h1, h2, n, h3⟩ := p
    refine .tup h1 h2 h3 ?_
    have := nks_is I hk rv
    simpa using this
theorem nks_is (I : Inv X pins σ H s) : ∀ {ks : List NestedKey} {vs : List V} {us : List Value}, NksV H ks vs → Vals vs us → NestedAll s.heap ks us
  | [], vs, us, h, r => by
    unfold NksV at h; subst h
    cases r; exact .nil
  | k :: ks, vs, us, h, r => by
    unfold NksV at h
    obtain ⟨v, t, rfl, h1, h2⟩ := h
    cases r with
    | cons r1 r2 => exact .cons (nk_is I h1 r1) (nks_is I h2 r2)
end
mutual
theorem NkV.mono (h : ∀ a xs, H a = some (.tup xs) → H' a = some (.tup xs)) : ∀ {k : NestedKey} {v : V}, NkV H k v → NkV H' k v
  | .none, v, e => by unfold NkV at *; exact e
  | .num i, v, e => by unfold NkV at *; exact e
  | .text x, v, e => by unfold NkV at *; exact e
  | .tup ks, v, e => by
    unfold NkV at *
    obtain ⟨a, vs, rfl, ha, hk⟩ := e
    exact ⟨a, vs, rfl, h _ _ ha, NksV.mono h hk⟩
theorem NksV.mono (h : ∀ a xs, H a = some (.tup xs) → H' a = some (.tup xs)) : ∀ {ks : List NestedKey} {vs : List V}, NksV H ks vs → NksV H' ks vs
  | [], vs, e => by unfold NksV at *; exact e
  | k :: ks, vs, e => by
    unfold NksV at *
    obtain ⟨v, t, rfl, h1, h2⟩ := e
    exact ⟨v, t, rfl, NkV.mono h h1, NksV.mono h h2⟩
end
end
/-- one row: its key, where the key lies, its value -/
abbrev Row := NestedKey × Addr × V
def EntV (w : World) (q : Row) (e : DictEntry) : Prop := e.key = .ref q.2.1 ∧ e.hash = NestedKey.hash w q.1 ∧ RelV q.2.2 e.val
def KeyOk (H : Hp) (k : NestedKey) (b : Addr) : Prop := NkV H k (.ref b) ∧ k.depth ≤ 8
/-- a dict's rows -/
structure Rws (w : World) (H : Hp) (qs : List Row) (es : Array DictEntry) : Prop where
  row : Paired (EntV w) qs es.toList
  key : ∀ q ∈ qs, KeyOk H q.1 q.2.1
  nd : (qs.map (·.1)).Nodup
  few : qs.length ≤ sizeLine
def QX : Row → NestedKey × Addr × Value → Prop := fun q x => q.1 = x.1 ∧ q.2.1 = x.2.1 ∧ RelV q.2.2 x.2.2
section
variable {X : Cx} {pins : List (Addr × Obj)} {σ : L2.St} {H H' : Hp} {s : Shared} {d : Addr} {es : Array DictEntry} {ep : Nat} {qs : List Row}
theorem Rws.size {w : World} (r : Rws w H qs es) : es.size = qs.length := by
  have := Paired.length r.row
  rw [← Array.length_toList]; exact this.symm
theorem is_of (I : Inv X pins σ H s) {k : NestedKey} {b : Addr} (h : KeyOk H k b) : (nestedKind X.prog X.w).is s.heap k b := ⟨nk_is I h.1 rfl, h.2⟩
theorem qx_of {w : World} : ∀ {qs : List Row} {l : List DictEntry}, Paired (EntV w) qs l → ∃ xs, Paired QX qs xs ∧ ∀ (P : Program), l = xs.map (entryOfKey (nestedKind P w))
  | _, _, .nil => ⟨[], .nil, fun _ => rfl⟩
  | q :: qs, e :: l, .cons h t => by
    obtain ⟨xs, h1, h2⟩ := qx_of t
    obtain ⟨e1, e2, e3⟩ := h
    refine ⟨(q.1, q.2.1, e.val) :: xs, .cons ⟨rfl, rfl, e3⟩ h1, fun P => ?_⟩
    rw [List.map_cons, ← h2 P]
    congr 1
    cases e
    simp only at e1 e2
    subst e1 e2
    rfl
theorem qx_keys : ∀ {qs : List Row} {xs : List (NestedKey × Addr × Value)}, Paired QX qs xs → qs.map (·.1) = xs.map (·.1)
  | _, _, .nil => rfl
  | _, _, .cons h t => by rw [List.map_cons, List.map_cons, h.1, qx_keys t]
theorem qx_mem : ∀ {qs : List Row} {xs : List (NestedKey × Addr × Value)} {x : NestedKey × Addr × Value}, Paired QX qs xs → x ∈ xs → ∃ q ∈ qs, QX q x
  | _, _, _, .nil, h => nomatch h
  | _, _, x, .cons h t, m => by
    rcases List.mem_cons.mp m with rfl | m
    · exact ⟨_, .head _, h⟩
    · obtain ⟨q, h1, h2⟩ := qx_mem t m
      exact ⟨q, .tail _ h1, h2⟩
/-- the library's own words for such a dict -/
theorem dict_of (I : Inv X pins σ H s) (hd : H d = some (dRaw d es ep)) (r : Rws X.w H qs es) : ∃ xs, Heap.DictOfH (nestedKind X.prog X.w) s.heap d xs ∧ Paired QX qs xs := by
  obtain ⟨xs, h1, h2⟩ := qx_of r.row
  obtain ⟨_, o, h3, h4, h5⟩ := raw_of I hd
  refine ⟨xs, ⟨o, es, ep, h3, h4, h5, h2 X.prog, fun x hx => ?_, by rw [← qx_keys h1]; exact r.nd⟩, h1⟩
  obtain ⟨q, hq, e1, e2, _⟩ := qx_mem h1 hx
  rw [← e1, ← e2]
  exact is_of I (r.key q hq)
/-- found by a key -/
def findQ (qs : List Row) (k : NestedKey) : Option Row := qs.find? fun q => decide (q.1 = k)
theorem find_of {k : NestedKey} : ∀ {qs : List Row} {xs : List (NestedKey × Addr × Value)}, Paired QX qs xs → match findQ qs k with
    | some q => ∃ u, atKey xs k = some (q.2.1, u) ∧ RelV q.2.2 u
    | none => atKey xs k = none
  | _, _, .nil => rfl
  | q :: qs, x :: xs, .cons h t => by
    have ih := find_of (k := k) t
    unfold findQ atKey at *
    by_cases c : q.1 = k
    · have c2 : x.1 = k := h.1 ▸ c
      rw [List.find?_cons_of_pos (by simpa using c), List.find?_cons_of_pos (by simpa using c2)]
      exact ⟨x.2.2, by rw [h.2.1]; rfl, h.2.2⟩
    · have c2 : ¬ x.1 = k := fun z => c (h.1.trans z)
      rw [List.find?_cons_of_neg (by simpa using c), List.find?_cons_of_neg (by simpa using c2)]
      exact ih
theorem find_of_some {k : NestedKey} {qs : List Row} {xs : List (NestedKey × Addr × Value)} {q : Row} (h : Paired QX qs xs) (e : findQ qs k = some q) : ∃ u, atKey xs k = some (q.2.1, u) ∧ RelV q.2.2 u := by
  have := find_of (k := k) h; rw [e] at this; exact this
theorem find_of_none {k : NestedKey} {qs : List Row} {xs : List (NestedKey × Addr × Value)} (h : Paired QX qs xs) (e : findQ qs k = none) : atKey xs k = none := by
  have := find_of (k := k) h; rw [e] at this; exact this
theorem at_some {k : NestedKey} {qs : List Row} {xs : List (NestedKey × Addr × Value)} (h : Paired QX qs xs) : (atKey xs k).isSome = (findQ qs k).isSome := by
  cases e : findQ qs k with
  | none => rw [find_of_none h e]; rfl
  | some q => obtain ⟨u, e1, _⟩ := find_of_some h e; rw [e1]; rfl
/-! ### reading -/
/-- a dict and a key -/
structure DK (w : World) (H : Hp) (x y : V) (d : Addr) (es : Array DictEntry) (ep : Nat) (qs : List Row) (b : Addr) (k : NestedKey) : Prop where
  x : x = .ref d
  y : y = .ref b
  d : H d = some (dRaw d es ep)
  r : Rws w H qs es
  k : KeyOk H k b
def rIxN (w : World) : R2 := fun x y H Q => ∃ d es ep qs b k q, DK w H x y d es ep qs b k ∧ findQ qs k = some q ∧ Q q.2.2 H
theorem ix_dictN {X : Cx} (hu : X.A.units + 10 < cLine) : IxR X (rIxN X.w) := by
  intro value slice pins s σ H x y v u Q I rx ry h hs
  obtain ⟨d, es, ep, qs, b, k, q, ⟨rfl, rfl, hd, hr, hk⟩, hf, hq⟩ := h
  cases rx
  cases ry
  obtain ⟨xs, hD, hP⟩ := dict_of I hd hr
  obtain ⟨u, h1, h2⟩ := find_of_some hP hf
  unfold subscriptTail
  refine wpAny_bind ?_
  rw [getitemInPython_of_ne (show Value.ref d ≠ .builtin "sys.modules#opaque" from fun z => nomatch z)]
  refine wpAny_bind (wpAny_specialOf hD.typeIs F.slot_dict_getitem.lookup ?_)
  refine wpAny_pure ?_
  refine wpAny_bind ?_
  rw [hs]
  refine wpAny_operating (wpAny_getItem_heap (knd := nestedKind X.prog X.w) (by show X.A.units + 1 + 8 < cLine; omega) (is_of I hk) hD h1 ?_)
  refine wpAny_bind (wpAny_letTemporaryGo (wpAny_pure ?_))
  exact ⟨q.2.2, H, I.kept (fun _ _ h => h), h2, hq⟩
def rInN (w : World) (neg : Bool) : R2 := fun y x H Q => ∃ d es ep qs b k, DK w H x y d es ep qs b k ∧ Q (.bl (if neg then !(findQ qs k).isSome else (findQ qs k).isSome)) H
theorem op_inN {X : Cx} (hu : X.A.units + 10 < cLine) : OpR X (compareOp .In) (rInN X.w false) := by
  intro pins s σ H x y v u Q I rx ry h
  obtain ⟨d, es, ep, qs, b, k, ⟨rfl, rfl, hd, hr, hk⟩, hq⟩ := h
  cases rx
  cases ry
  obtain ⟨xs, hD, hP⟩ := dict_of I hd hr
  refine wpAny_in_heap (knd := nestedKind X.prog X.w) (by show X.A.units + 1 + 8 < cLine; omega) (is_of I hk) (raw_of I hd).1 hD ?_
  rw [at_some hP]
  exact ⟨.bl _, H, I.kept (fun _ _ h => h), rfl, hq⟩
theorem op_notInN {X : Cx} (hu : X.A.units + 10 < cLine) : OpR X (compareOp .NotIn) (rInN X.w true) := by
  intro pins s σ H x y v u Q I rx ry h
  obtain ⟨d, es, ep, qs, b, k, ⟨rfl, rfl, hd, hr, hk⟩, hq⟩ := h
  cases rx
  cases ry
  obtain ⟨xs, hD, hP⟩ := dict_of I hd hr
  refine wpAny_notIn_heap (knd := nestedKind X.prog X.w) (by show X.A.units + 1 + 8 < cLine; omega) (is_of I hk) (raw_of I hd).1 hD ?_
  rw [at_some hP]
  exact ⟨.bl _, H, I.kept (fun _ _ h => h), rfl, hq⟩
/-! ### storing -/
def storeQ (qs : List Row) (k : NestedKey) (b : Addr) (v : V) : List Row := if (findQ qs k).isSome = true then qs.map (fun q => if q.1 = k then (q.1, q.2.1, v) else q) else qs ++ [(k, b, v)]
theorem app_of {α β : Type} {F : α → β → Prop} : ∀ {xs us : List α} {ys ws : List β}, Paired F xs ys → Paired F us ws → Paired F (xs ++ us) (ys ++ ws)
  | _, _, _, _, .nil, s => s
  | _, _, _, _, .cons r t, s => .cons r (app_of t s)
theorem put_of {k : NestedKey} {v : V} {u : Value} {qs : List Row} {xs : List (NestedKey × Addr × Value)} (h : Paired QX qs xs) (r : RelV v u) : Paired QX (qs.map fun q => if q.1 = k then (q.1, q.2.1, v) else q) (xs.map (putAt k u)) := by
  induction h with
  | nil => exact .nil
  | cons h t ih =>
    refine .cons ?_ ih
    rename_i q x _ _
    unfold putAt
    by_cases c : q.1 = k
    · have c2 : x.1 = k := h.1 ▸ c
      simp only [if_pos c, if_pos c2]
      exact ⟨h.1, h.2.1, r⟩
    · have c2 : ¬ x.1 = k := fun z => c (h.1.trans z)
      simp only [if_neg c, if_neg c2]
      exact h
theorem store_of {k : NestedKey} {b : Addr} {v : V} {u : Value} {qs : List Row} {xs : List (NestedKey × Addr × Value)} (h : Paired QX qs xs) (r : RelV v u) : Paired QX (storeQ qs k b v) (storedH xs k b u) := by
  unfold storeQ storedH
  rw [at_some h]
  split
  · exact put_of h r
  · exact app_of h (.cons ⟨rfl, rfl, r⟩ .nil)
theorem storeQ_keys {k : NestedKey} {b : Addr} {v : V} {qs : List Row} : (storeQ qs k b v).map (·.1) = if (findQ qs k).isSome = true then qs.map (·.1) else qs.map (·.1) ++ [k] := by
  unfold storeQ
  split
  · rw [List.map_map]
    apply List.map_congr_left
    intro q _
    show (if q.1 = k then _ else q).1 = q.1
    split <;> rfl
  · rw [List.map_append]; rfl
theorem Rws.row_of {w : World} {qs : List Row} {xs : List (NestedKey × Addr × Value)} (P : Program) (h : Paired QX qs xs) : Paired (EntV w) qs (xs.map (entryOfKey (nestedKind P w))) := by
  induction h with
  | nil => exact .nil
  | cons h t ih =>
    refine .cons ⟨?_, ?_, h.2.2⟩ ih
    · rw [h.2.1]; rfl
    · rw [h.1]; rfl
def rSetN (w : World) : TSet := fun o i v H Q => ∃ d es ep qs b k, DK w H o i d es ep qs b k ∧ qs.length < sizeLine ∧ ∀ es' ep', Paired (EntV w) (storeQ qs k b v) es'.toList → Q (upd H d (dRaw d es' ep'))
theorem set_dictN {X : Cx} (hu : X.A.units + 10 < cLine) : PSet X (rSetN X.w) := by
  intro pins s σ H o i v ov iv u Q I ro ri rv h
  obtain ⟨d, es, ep, qs, b, k, ⟨rfl, rfl, hd, hr, hk⟩, hl, hq⟩ := h
  cases ro
  cases ri
  obtain ⟨xs, hD, hP⟩ := dict_of I hd hr
  have hxl : xs.length ≤ sizeLine := by rw [← Paired.length hP]; omega
  refine wpAny_setItem_heap (knd := nestedKind X.prog X.w) (by show X.A.units + 1 + 8 < cLine; omega) (is_of I hk) hD (fun h' hD' hS => ?_) hxl
  obtain ⟨o', es', ep', g1, g2, g3, g4, g5, g6⟩ := hD'
  have hP' := store_of (k := k) (b := b) hP rv
  refine ⟨upd H d (dRaw d es' ep'), d_write I (by rw [hd]; trivial) hS ⟨o', g1⟩ (dRaw_ok (raw_of I hd).1 ⟨o', g1, g2, g3⟩), hq es' ep' ?_⟩
  rw [g4]
  exact Rws.row_of X.prog hP'
end
end VI

set_option Elab.async false
set_option linter.all false
set_option maxRecDepth 100000
set_option maxHeartbeats 1000000
/-! VD, part 2: new dicts, == {}, the walks -/
namespace VI
open PySem PySem.Spec PyProof.Rows L2
theorem ne_meets (a b : Addr) (oa ob : Obj) (es : Array DictEntry) (ep ep2 : Nat) (hne : (a == sysModules) = false) (hnb : (b == sysModules) = false) :
    Meets (Builtin.«dict.__ne__» ⟨[.ref a, .ref b], []⟩) (fun _ R s => (s.heap.get? a = some oa ∧ oa.cls = .type "dict" ∧ oa.data = .dict es ep) ∧ (s.heap.get? b = some ob ∧ ob.cls = .type "dict" ∧ ob.data = .dict #[] ep2) ∧ R (.ok (.ret (.bool (!es.isEmpty)))) s) :=
  .of_wp fun prog w A R s h => by
    obtain ⟨⟨h1, h2, h3⟩, ⟨g1, g2, g3⟩, r⟩ := h
    wp_walk
    rw [g2, sub_dict_dict]
    wp_walk
    rw [h3]
    wp_walk
    rw [g3]
    wp_walk
    by_cases he : es.size = 0
    · have he2 : es = #[] := Array.eq_empty_of_size_eq_zero he
      subst he2
      refine wpAny_ite_false rfl ?_
      simp only [Std.Legacy.Range.forIn_eq_forIn_range', Std.Legacy.Range.size, List.size_toArray, List.length_nil, Nat.sub_self, Nat.zero_add, Nat.sub_zero, Nat.div_one, List.range'_zero, List.forIn_nil]
      wp_walk
      rw [h3]
      wp_walk
      exact ⟨_, rfl, r⟩
    · refine wpAny_ite_true (by simpa using he) ?_
      wp_walk
      refine ⟨_, rfl, ?_⟩
      have : es.isEmpty = false := by simpa [Array.isEmpty] using he
      rw [this] at r
      exact r
theorem eq_meets (a b : Addr) (oa ob : Obj) (es : Array DictEntry) (ep ep2 : Nat) (hne : (a == sysModules) = false) (hnb : (b == sysModules) = false) :
    Meets (Builtin.«dict.__eq__» ⟨[.ref a, .ref b], []⟩) (fun _ R s => (s.heap.get? a = some oa ∧ oa.cls = .type "dict" ∧ oa.data = .dict es ep) ∧ (s.heap.get? b = some ob ∧ ob.cls = .type "dict" ∧ ob.data = .dict #[] ep2) ∧ R (.ok (.ret (.bool es.isEmpty))) s) :=
  .of_wp fun prog w A R s h => by
    obtain ⟨⟨h1, h2, h3⟩, ⟨g1, g2, g3⟩, r⟩ := h
    wp_walk
    rw [g2, sub_dict_dict]
    wp_walk
    rw [h3]
    wp_walk
    rw [g3]
    wp_walk
    by_cases he : es.size = 0
    · have he2 : es = #[] := Array.eq_empty_of_size_eq_zero he
      subst he2
      refine wpAny_ite_false rfl ?_
      simp only [Std.Legacy.Range.forIn_eq_forIn_range', Std.Legacy.Range.size, List.size_toArray, List.length_nil, Nat.sub_self, Nat.zero_add, Nat.sub_zero, Nat.div_one, List.range'_zero, List.forIn_nil]
      wp_walk
      rw [h3]
      wp_walk
      exact ⟨_, rfl, r⟩
    · refine wpAny_ite_true (by simpa using he) ?_
      wp_walk
      refine ⟨_, rfl, ?_⟩
      have : es.isEmpty = false := by simpa [Array.isEmpty] using he
      rw [this] at r
      exact r
section
variable {X : Cx}
/-! ### {} -/
def tDNewN : TE := fun _ H Q => ∀ p ep, H p = none → Q (.ref p) (upd H p (dRaw p #[] ep))
theorem not_mods {prog : Program} {w : World} {h : Heap} {p : Addr} (e : (p == sysModules) = false) : True := trivial
theorem pe_dnewN {pos : Pos} : PE X (.Dict [] [] pos) tDNewN := by
  refine ⟨fun pins s σ H Q I h => ?_⟩
  refine thn ((pe_dnewT (X := X) (pos := pos)).run pins s σ H (fun v H' => ∃ p, v = .ref p ∧ H p = none ∧ H' = upd H p (.dT [])) I fun p hp => ⟨p, rfl, hp, rfl⟩) fun u s1 ⟨v, H1, I1, r1, p, e1, hp, e2⟩ => ?_
  subst e1 e2
  have ho := I1.hok p _ upd_same
  obtain ⟨_, hs, xs, hx, o, es, ep, h1, h2, h3, h4, _⟩ := ho
  cases hx
  have he : es = #[] := by
    apply Array.ext'
    rw [h4]; rfl
  subst he
  refine ⟨.ref p, upd H p (dRaw p #[] ep), ?_, r1, h p ep hp⟩
  have := d_write (t' := s1.toks) (ob := dRaw p #[] ep) I1 (by rw [upd_same]; trivial) (⟨rfl, fun _ _ => rfl⟩ : Heap.SameBut p s1.heap s1.heap) ⟨o, h1⟩ (dRaw_ok hs ⟨o, h1, h2, h3⟩)
  have e3 : upd (upd H p (.dT [])) p (dRaw p #[] ep) = upd H p (dRaw p #[] ep) := by
    funext a
    by_cases e : a = p
    · subst e; rw [upd_same, upd_same]
    · rw [upd_ne e, upd_ne e, upd_ne e]
  rw [e3] at this
  exact this
/-! ### d == {} -/
def rEqN : R2 := fun x y H Q => ∃ a b es ep ep2, x = .ref a ∧ y = .ref b ∧ H a = some (dRaw a es ep) ∧ H b = some (dRaw b #[] ep2) ∧ Q (.bl es.isEmpty) H
def rNeN : R2 := fun x y H Q => ∃ a b es ep ep2, x = .ref a ∧ y = .ref b ∧ H a = some (dRaw a es ep) ∧ H b = some (dRaw b #[] ep2) ∧ Q (.bl (!es.isEmpty)) H
theorem op_neN (hu : X.A.units < cLine) : OpR X (compareOp .NotEq) rNeN := by
  intro pins s σ H x y v u Q I rx ry h
  obtain ⟨a, b, es, ep, ep2, rfl, rfl, ha, hb, q⟩ := h
  cases rx
  cases ry
  obtain ⟨na, ra⟩ := raw_of I ha
  obtain ⟨nb, rb⟩ := raw_of I hb
  have ta : s.TypeIs (.ref a) "dict" := let ⟨o, h1, h2, _⟩ := ra; ⟨o, h1, h2.1⟩
  have tb : s.TypeIs (.ref b) "dict" := let ⟨o, h1, h2, _⟩ := rb; ⟨o, h1, h2.1⟩
  show wpAny (model X.prog X.w) X.A (richCompare .NotEq (.ref a) (.ref b)) _ _ _
  refine wpAny_richCompare_same_room ta tb F.slot_dict_ne ?_ hu
  obtain ⟨oa, h1, h2, h3⟩ := ra
  obtain ⟨ob, g1, g2, g3⟩ := rb
  refine call_meets F.slot_dict_ne ta F.entry_dict_ne (F.args_dict_ne_2 _ _) (ne_meets a b oa ob es ep ep2 na nb) ⟨⟨h1, h2.1, h3⟩, ⟨g1, g2.1, g3⟩, ?_⟩
  show Value.bool (!es.isEmpty) ≠ Value.notImplemented ∧ EP X pins σ Q (.bool (!es.isEmpty)) s
  exact ⟨(fun z => nomatch z), V.bl (!es.isEmpty), H, I.kept (fun _ _ h => h), rfl, q⟩
theorem op_eqN (hu : X.A.units < cLine) : OpR X (compareOp .Eq) rEqN := by
  intro pins s σ H x y v u Q I rx ry h
  obtain ⟨a, b, es, ep, ep2, rfl, rfl, ha, hb, q⟩ := h
  cases rx
  cases ry
  obtain ⟨na, ra⟩ := raw_of I ha
  obtain ⟨nb, rb⟩ := raw_of I hb
  have ta : s.TypeIs (.ref a) "dict" := let ⟨o, h1, h2, _⟩ := ra; ⟨o, h1, h2.1⟩
  have tb : s.TypeIs (.ref b) "dict" := let ⟨o, h1, h2, _⟩ := rb; ⟨o, h1, h2.1⟩
  show wpAny (model X.prog X.w) X.A (richCompare .Eq (.ref a) (.ref b)) _ _ _
  refine wpAny_richCompare_same_room ta tb F.slot_dict_eq ?_ hu
  obtain ⟨oa, h1, h2, h3⟩ := ra
  obtain ⟨ob, g1, g2, g3⟩ := rb
  refine call_meets F.slot_dict_eq ta F.entry_dict_eq (F.args_dict_eq_2 _ _) (eq_meets a b oa ob es ep ep2 na nb) ⟨⟨h1, h2.1, h3⟩, ⟨g1, g2.1, g3⟩, ?_⟩
  show Value.bool es.isEmpty ≠ Value.notImplemented ∧ EP X pins σ Q (.bool es.isEmpty) s
  exact ⟨(fun z => nomatch z), V.bl es.isEmpty, H, I.kept (fun _ _ h => h), rfl, q⟩
end
end VI

set_option Elab.async false
set_option linter.all false
set_option maxRecDepth 100000
set_option maxHeartbeats 1000000
/-! VD, part 3: walks of keys and values, get, a display of one pair -/
namespace VI
open PySem PySem.Spec PyProof.Rows L2 PySem.Calls
/-! ### walks -/
def ItD (d : Addr) (es : Array DictEntry) (ep : Nat) (vs : List V) : L2.It :=
  ⟨fun i H => H d = some (dRaw d es ep) ∧ i < vs.length, fun i H x H' => H' = H ∧ vs[i]? = some x, fun i H => H d = some (dRaw d es ep) ∧ i = vs.length⟩
theorem let_other {P : Program} {w : World} {A : Around} {E : Value → Shared → Prop} {s : Shared} {tg : Expr} {it : Addr} {u : Value} {o : Obj} {n : String} {fs : Array Value} {Q : Unit → Shared → Prop} (h : s.heap.get? it = some o) (hc : o.cls = .type n) (hd : o.data = .fields fs)
    (hn : (["enumerate", "zip", "dict_itemiterator", "dict_reverseitemiterator", "odict_iterator", "itertools.zip_longest", "itertools.pairwise"].contains n) = false) (q : Q () s) :
    wpAny (model P w) A (letOwnedTupleGo tg (.ref it) u) Q E s := by
  obtain ⟨cls, dict, data, sl⟩ := o
  simp only at hc hd
  subst hc hd
  unfold letOwnedTupleGo
  split
  · split
    · rename_i he
      cases he
      wp_walk using wpAny_loadPart' h
      refine wpAny_ite_false (by rw [hn]; simp) ?_
      wp_walk
      exact q
    · wp_walk
      exact q
  · split
    · rename_i he
      cases he
      wp_walk using wpAny_loadPart' h
      refine wpAny_ite_false (by rw [hn]; simp) ?_
      wp_walk
      exact q
    · wp_walk
      exact q
  · wp_walk
    exact q
section
variable {P : Program} {w : World} {K : PySem.W.Frag} {tg : Expr} {d it : Addr} {es : Array DictEntry} {ep : Nat} {vs : List V}
theorem turn_rawK (hl : vs.length = es.size) (hv : ∀ i (h : i < es.size), ∃ x, vs[i]? = some x ∧ RelV x es[i].key) : Turn P w K tg (ItD d es ep vs) [it] it (fun i h => h.IsKeyIter it d i es.size ep ∧ d ≠ it) where
  mem := by simp
  obj := fun i h st b hb => by
    obtain ⟨⟨o, ho, hc, hd⟩, _⟩ := st
    have e : b = it := by simpa using hb
    subst e
    exact ⟨o, ho, fun v q => by rw [hd] at q; cases q⟩
  keep := fun i h h' st k => by
    obtain ⟨⟨o, ho, hc, hd⟩, hne⟩ := st
    exact ⟨⟨o, k it (by simp) o ho, hc, hd⟩, hne⟩
  item := by
    intro X hP hw hK hc i pins s σ H E I hf st hg
    subst hP hw hK
    obtain ⟨hit, hne⟩ := st
    obtain ⟨hH, hi⟩ := hg
    have hi' : i < es.size := by omega
    obtain ⟨_, hr⟩ := raw_of I hH
    obtain ⟨f0, f1, f2, f3, f4, f5⟩ := hf it (by simp)
    refine (Walks.rawKeys (I.ok.hd hc) it d hne es ep).item i s _ _ hi' ⟨hit, hr⟩ fun v h' tk hPv hSt hk => ?_
    obtain ⟨_, e⟩ := hPv
    obtain ⟨x, hx, rx⟩ := hv i hi'
    refine ⟨v, rfl, ?_⟩
    have I1 : Inv X pins σ H { s with heap := h', toks := tk } := I.turned (t' := tk) (fun b o hb q => hk b o (by simpa using hb) q) f0 f1 f3 f4 f5
    obtain ⟨⟨o, ho, hcls, hdat⟩, hD⟩ := hSt
    refine let_other (n := "dict_keyiterator") ho hcls hdat (by decide) ?_
    exact ⟨x, H, I1, by rw [e]; exact rx, ⟨rfl, hx⟩, ⟨⟨o, ho, hcls, hdat⟩, hne⟩, fun b hb => by
      have eb : b = it := by simpa using hb
      rw [eb]; exact f0⟩
  done := by
    intro X hP hw hK hc i pins s σ H E I hf st hg
    subst hP hw hK
    obtain ⟨hit, hne⟩ := st
    obtain ⟨hH, hi⟩ := hg
    obtain ⟨_, hr⟩ := raw_of I hH
    obtain ⟨f0, f1, f2, f3, f4, f5⟩ := hf it (by simp)
    have hi' : i = es.size := by rw [hi, hl]
    subst hi'
    refine (Walks.rawKeys (I.ok.hd hc) it d hne es ep).done s _ _ ⟨hit, hr⟩ fun h' tk hk => ?_
    exact ⟨rfl, I.turned (t' := tk) (fun b o hb q => hk b o (by simpa using hb) q) f0 f1 f3 f4 f5⟩
  self := fun A i s Q E st h => wpAny_pyIter_keyiter st.1 h
theorem turn_rawV (hl : vs.length = es.size) (hv : ∀ i (h : i < es.size), ∃ x, vs[i]? = some x ∧ RelV x es[i].val) : Turn P w K tg (ItD d es ep vs) [it] it (fun i h => h.IsValIter it d i es.size ep ∧ d ≠ it) where
  mem := by simp
  obj := fun i h st b hb => by
    obtain ⟨⟨o, ho, hc, hd⟩, _⟩ := st
    have e : b = it := by simpa using hb
    subst e
    exact ⟨o, ho, fun v q => by rw [hd] at q; cases q⟩
  keep := fun i h h' st k => by
    obtain ⟨⟨o, ho, hc, hd⟩, hne⟩ := st
    exact ⟨⟨o, k it (by simp) o ho, hc, hd⟩, hne⟩
  item := by
    intro X hP hw hK hc i pins s σ H E I hf st hg
    subst hP hw hK
    obtain ⟨hit, hne⟩ := st
    obtain ⟨hH, hi⟩ := hg
    have hi' : i < es.size := by omega
    obtain ⟨_, hr⟩ := raw_of I hH
    obtain ⟨f0, f1, f2, f3, f4, f5⟩ := hf it (by simp)
    refine (Walks.rawValues (I.ok.hd hc) it d hne es ep).item i s _ _ hi' ⟨hit, hr⟩ fun v h' tk hPv hSt hk => ?_
    obtain ⟨_, e⟩ := hPv
    obtain ⟨x, hx, rx⟩ := hv i hi'
    refine ⟨v, rfl, ?_⟩
    have I1 : Inv X pins σ H { s with heap := h', toks := tk } := I.turned (t' := tk) (fun b o hb q => hk b o (by simpa using hb) q) f0 f1 f3 f4 f5
    obtain ⟨⟨o, ho, hcls, hdat⟩, hD⟩ := hSt
    refine let_other (n := "dict_valueiterator") ho hcls hdat (by decide) ?_
    exact ⟨x, H, I1, by rw [e]; exact rx, ⟨rfl, hx⟩, ⟨⟨o, ho, hcls, hdat⟩, hne⟩, fun b hb => by
      have eb : b = it := by simpa using hb
      rw [eb]; exact f0⟩
  done := by
    intro X hP hw hK hc i pins s σ H E I hf st hg
    subst hP hw hK
    obtain ⟨hit, hne⟩ := st
    obtain ⟨hH, hi⟩ := hg
    obtain ⟨_, hr⟩ := raw_of I hH
    obtain ⟨f0, f1, f2, f3, f4, f5⟩ := hf it (by simp)
    have hi' : i = es.size := by rw [hi, hl]
    subst hi'
    refine (Walks.rawValues (I.ok.hd hc) it d hne es ep).done s _ _ ⟨hit, hr⟩ fun h' tk hk => ?_
    exact ⟨rfl, I.turned (t' := tk) (fun b o hb q => hk b o (by simpa using hb) q) f0 f1 f3 f4 f5⟩
  self := fun A i s Q E st h => wpAny_pyIter_valiter st.1 h
end
theorem walk_raw {d : Addr} {es : Array DictEntry} {ep : Nat} {vs : List V} : Walk (ItD d es ep vs) vs.length (fun H => H d = some (dRaw d es ep)) (YAt vs) :=
  ⟨fun i H hi g => ⟨g, hi⟩, fun H g => ⟨g, rfl⟩, fun i H x H' _ _ y => y⟩
section
variable {X : Cx}
/-- d.keys(), d.values() walked -/
def iDictN (f : DictEntry → Value) (td : TE) : TI := fun σ H R => td σ H fun x H1 => ∃ d es ep vs, x = .ref d ∧ H1 d = some (dRaw d es ep) ∧ Paired (fun v e => RelV v (f e)) vs es.toList ∧ R (ItD d es ep vs) H1
theorem paired_at {f : DictEntry → Value} {vs : List V} {es : Array DictEntry} (h : Paired (fun v e => RelV v (f e)) vs es.toList) : vs.length = es.size ∧ ∀ i (hi : i < es.size), ∃ x, vs[i]? = some x ∧ RelV x (f es[i]) := by
  refine ⟨by rw [Paired.length h, Array.length_toList], fun i hi => ?_⟩
  have key : ∀ {vs : List V} {l : List DictEntry}, Paired (fun v e => RelV v (f e)) vs l → ∀ (i : Nat) (hi : i < l.length), ∃ x, vs[i]? = some x ∧ RelV x (f l[i]) := by
    intro vs l h
    induction h with
    | nil => intro i hi; simp at hi
    | cons r t ih =>
      intro i hi
      cases i with
      | zero => exact ⟨_, rfl, r⟩
      | succ i =>
        obtain ⟨x, h1, h2⟩ := ih i (by simpa using hi)
        exact ⟨x, by simpa using h1, h2⟩
  obtain ⟨x, h1, h2⟩ := key h i (by simpa using hi)
  exact ⟨x, h1, by simpa using h2⟩
theorem raw_type {s : Shared} {d : Addr} {es : Array DictEntry} {ep : Nat} (r : s.heap.DictRaw d es ep) : s.TypeIs (.ref d) "dict" := let ⟨o, h1, h2, _⟩ := r; ⟨o, h1, h2.1⟩
theorem raw_nodict {s : Shared} {d : Addr} {es : Array DictEntry} {ep : Nat} (r : s.heap.DictRaw d es ep) : ∀ a, Value.ref d = .ref a → ∃ ob, s.heap.get? a = some ob ∧ ob.dict = none := fun a e => by
  cases e
  obtain ⟨o, h1, h2, _⟩ := r
  exact ⟨o, h1, h2.2.1⟩
theorem new_mods {X : Cx} {pins : List (Addr × Obj)} {σ : L2.St} {H : Hp} {s : Shared} (I : Inv X pins σ H s) : (s.heap.objs.size == sysModules) = false := by
  obtain ⟨o, es, ep, h1, _⟩ := I.ok.mod.glob
  obtain ⟨h2, _⟩ := I.ok.bs _ _ h1
  obtain ⟨o', h3⟩ := I.base.there _ _ h2 (I.ok.noex _ _ h1)
  have := Heap.lt_size h3
  have e : mainGlobals = 3 := rfl
  have e2 : sysModules = 1 := rfl
  rw [e] at this
  rw [e2]
  have hne : s.heap.objs.size ≠ 1 := fun z => by rw [z] at this; exact absurd this (by decide)
  exact beq_eq_false_iff_ne.mpr hne
theorem evalArgs_none {P : Program} {w : World} {A : Around} {E : Value → Shared → Prop} {s : Shared} {f : Value} {Q : Args → Shared → Prop} (q : Q ⟨[], []⟩ s) : wpAny (model P w) A (evalArgs f true [] []) Q E s := by
  wp_walk
  exact q
theorem pi_keysN {tg e : Expr} {td : TE} {apos cpos : Pos} (he : PE X e td) (hb : attributeBase e "keys" X.env (eval e X.env) = eval e X.env) (hl : (apos.endLine == cpos.line) = true) :
    PI X tg (.Call (.Attribute e "keys" apos) [] [] cpos) (iDictN (·.key) td) := by
  refine ⟨fun pins s σ H R I h => ?_⟩
  refine wpAny_Call_method hb rfl hl F.plainAttrs_dict F.slot_dict_keys F.type_dict_keys (thn (he.run pins s σ H _ I h) fun u s1 ⟨x, H1, I1, r1, d, es, ep, vs, e1, hd, hp, q⟩ => ?_)
  subst e1
  cases r1
  obtain ⟨hs, hr⟩ := raw_of I1 hd
  obtain ⟨hlen, hat⟩ := paired_at hp
  refine ⟨raw_type hr, raw_nodict hr, callWith_builtin rfl (evalArgs_none ?_)⟩
  refine call_meetsIn F.slot_dict_keys (raw_type hr) F.entry_dict_keys (F.args_dict_keys_1 _) (meets_dict_keys_raw d hs) ⟨⟨es, ep, hr⟩, ?_⟩
  obtain ⟨o, h1, h2, h3⟩ := hr
  have hdl : d < s1.heap.objs.size := Heap.lt_size h1
  have hz : (s1.heap.push { cls := .type "dict_keys", data := .fields #[.ref d] }).objs.size = s1.heap.objs.size + 1 := Heap.size_push ..
  refine wpAny_pyIter_keys_raw (v := s1.heap.objs.size) (d := d) (es := es) (ep := ep) ⟨_, Heap.get?_push_size _ rfl, rfl, rfl⟩ ⟨o, Heap.get?_push_of_some _ h1, h2, h3⟩ ?_
  have I2 : Inv X pins σ H1 { s1 with heap := (s1.heap.push { cls := .type "dict_keys", data := .fields #[.ref d] }).push { cls := .type "dict_keyiterator", data := .fields #[.ref d, .int 0 0, .int es.size 0, .int ep 0] } } :=
    I1.kept (t' := s1.toks) fun b o e => Heap.get?_push_of_some _ (Heap.get?_push_of_some _ e)
  refine ⟨_, [_], _, _, H1, rfl, I2, turn_rawK hlen hat, ⟨⟨_, Heap.get?_push_size _ rfl, rfl, rfl⟩, ?_⟩, fun b hb => ?_, q⟩
  · rw [hz]; exact Nat.ne_of_lt (Nat.lt_succ_of_lt hdl)
  · have e : b = (s1.heap.push { cls := .type "dict_keys", data := .fields #[.ref d] }).objs.size := by simpa using hb
    rw [hz] at e
    have hle : s1.heap.objs.size ≤ b := by rw [e]; exact Nat.le_succ _
    exact I1.fpOk hle (I1.hok.fresh hle)
theorem pi_valsN {tg e : Expr} {td : TE} {apos cpos : Pos} (he : PE X e td) (hb : attributeBase e "values" X.env (eval e X.env) = eval e X.env) (hl : (apos.endLine == cpos.line) = true) :
    PI X tg (.Call (.Attribute e "values" apos) [] [] cpos) (iDictN (·.val) td) := by
  refine ⟨fun pins s σ H R I h => ?_⟩
  refine wpAny_Call_method hb rfl hl F.plainAttrs_dict F.slot_dict_values F.type_dict_values (thn (he.run pins s σ H _ I h) fun u s1 ⟨x, H1, I1, r1, d, es, ep, vs, e1, hd, hp, q⟩ => ?_)
  subst e1
  cases r1
  obtain ⟨hs, hr⟩ := raw_of I1 hd
  obtain ⟨hlen, hat⟩ := paired_at hp
  refine ⟨raw_type hr, raw_nodict hr, callWith_builtin rfl (evalArgs_none ?_)⟩
  refine call_meetsIn F.slot_dict_values (raw_type hr) F.entry_dict_values (F.args_dict_values_1 _) (meets_dict_values_raw d hs) ⟨⟨es, ep, hr⟩, ?_⟩
  obtain ⟨o, h1, h2, h3⟩ := hr
  have hdl : d < s1.heap.objs.size := Heap.lt_size h1
  have hz : (s1.heap.push { cls := .type "dict_values", data := .fields #[.ref d] }).objs.size = s1.heap.objs.size + 1 := Heap.size_push ..
  refine wpAny_pyIter_values_raw (v := s1.heap.objs.size) (d := d) (es := es) (ep := ep) ⟨_, Heap.get?_push_size _ rfl, rfl, rfl⟩ ⟨o, Heap.get?_push_of_some _ h1, h2, h3⟩ ?_
  have I2 : Inv X pins σ H1 { s1 with heap := (s1.heap.push { cls := .type "dict_values", data := .fields #[.ref d] }).push { cls := .type "dict_valueiterator", data := .fields #[.ref d, .int 0 0, .int es.size 0, .int ep 0] } } :=
    I1.kept (t' := s1.toks) fun b o e => Heap.get?_push_of_some _ (Heap.get?_push_of_some _ e)
  refine ⟨_, [_], _, _, H1, rfl, I2, turn_rawV hlen hat, ⟨⟨_, Heap.get?_push_size _ rfl, rfl, rfl⟩, ?_⟩, fun b hb => ?_, q⟩
  · rw [hz]; exact Nat.ne_of_lt (Nat.lt_succ_of_lt hdl)
  · have e : b = (s1.heap.push { cls := .type "dict_values", data := .fields #[.ref d] }).objs.size := by simpa using hb
    rw [hz] at e
    have hle : s1.heap.objs.size ≤ b := by rw [e]; exact Nat.le_succ _
    exact I1.fpOk hle (I1.hok.fresh hle)
/-! ### d.get(k, x) -/
def tGetN (w : World) (td tk tx : TE) : TE := fun σ H Q => td σ H fun x H1 => (∃ d es ep, x = .ref d ∧ H1 d = some (dRaw d es ep)) ∧ tk σ H1 fun y H2 => tx σ H2 fun z H3 =>
  ∃ d es ep qs b k, DK w H3 x y d es ep qs b k ∧ Q (((findQ qs k).map (·.2.2)).getD z) H3
theorem pe_getN {o e f : Expr} {td tk tx : TE} {apos cpos : Pos} (hu : X.A.units + 10 < cLine) (ho : PE X o td) (he : PE X e tk) (hf : PE X f tx) (m : M2 X o "get" apos e f cpos) :
    PE X (.Call (.Attribute o "get" apos) [e, f] [] cpos) (tGetN X.w td tk tx) := by
  refine ⟨fun pins s σ H Q I h => ?_⟩
  refine wpAny_Call_method m.base m.few m.line F.plainAttrs_dict F.slot_dict_get F.type_dict_get (thn (ho.run pins s σ H _ I h) fun u s1 ⟨x, H1, I1, r1, ⟨d, es, ep, e1, hd⟩, q⟩ => ?_)
  subst e1
  cases r1
  obtain ⟨hs, hr⟩ := raw_of I1 hd
  refine ⟨raw_type hr, raw_nodict hr, ?_⟩
  rw [m.trees]
  refine callWith_builtin rfl (evalArgs_plain (spliced_cons ?_))
  refine thn (he.run pins s1 σ H1 _ I1 q) fun u2 s2 ⟨y, H2, I2, r2, q2⟩ => ?_
  refine spliced_cons ?_
  refine thn (hf.run pins s2 σ H2 _ I2 q2) fun u3 s3 ⟨z, H3, I3, r3, q3⟩ => ?_
  refine spliced_nil ?_
  obtain ⟨d', es', ep', qs, b, k, ⟨e2, rfl, hd', hr', hk⟩, hq⟩ := q3
  cases e2
  cases r2
  obtain ⟨xs, hD, hP⟩ := dict_of I3 hd' hr'
  refine call_meetsIn F.slot_dict_get hD.typeIs F.entry_dict_get (F.args_dict_get_3 _ _ _) (meetsH_dict_get_default (nestedKind X.prog X.w) d b hs u3) ⟨by show X.A.units + 1 + 8 < cLine; omega, k, xs, is_of I3 hk, hD, ?_⟩
  show EP X pins σ Q _ _
  refine ⟨_, H3, I3.kept (fun _ _ h => h), ?_, hq⟩
  cases ef : findQ qs k with
  | none =>
    rw [find_of_none hP ef]
    exact r3
  | some q =>
    obtain ⟨u4, g1, g2⟩ := find_of_some hP ef
    rw [g1]
    exact g2
/-! ### {k: v} -/
def tDispN (w : World) (tk tv : TE) : TE := fun σ H Q => ∀ p ep, H p = none → tk σ (upd H p (dRaw p #[] ep)) fun y H1 => tv σ H1 fun z H2 =>
  H2 p = some (dRaw p #[] ep) ∧ ∃ b k, y = .ref b ∧ KeyOk H2 k b ∧ ∀ es' ep', Paired (EntV w) [(k, b, z)] es'.toList → Q (.ref p) (upd H2 p (dRaw p es' ep'))
theorem pe_dispN {e f : Expr} {tk tv : TE} {pos : Pos} (hu : X.A.units + 10 < cLine) (he : PE X e tk) (hf : PE X f tv) : PE X (.Dict [some e] [f] pos) (tDispN X.w tk tv) := by
  refine ⟨fun pins s σ H Q I h => ?_⟩
  rw [arm_eval_Dict]
  refine wpAny_bind (wpAny_standAt ?_)
  have hd : dictDisplay ((evalEachOpt [some e] X.env).zip (List.map (fun v => do let x ← v; standAt pos; pure x) (evalEach [f] X.env))) = (do
      let d ← subDict [(eval e X.env, do let x ← eval f X.env; standAt pos; pure x)]
      pure (Value.ref d)) := by
    show dictDisplay [(some (eval e X.env), do let x ← eval f X.env; standAt pos; pure x)] = _
    unfold dictDisplay
    simp
  rw [hd]
  refine wpAny_bind ?_
  refine wpAny_subDictH (knd := nestedKind X.prog X.w) (by show X.A.units + 8 < cLine; omega) (by simp) ?_
  unfold evalPairs
  have hp : H s.heap.objs.size = none := I.hok.fresh (Nat.le_refl _)
  have hs : (s.heap.objs.size == sysModules) = false := new_mods I
  have hr0 : (s.heap.push { cls := .type "dict", data := .dict #[] }).DictRaw s.heap.objs.size #[] 0 := ⟨_, Heap.get?_push_size _ rfl, ⟨rfl, rfl, rfl⟩, rfl⟩
  have I0 : Inv X pins σ (upd H s.heap.objs.size (dRaw s.heap.objs.size #[] 0)) { s with heap := s.heap.push { cls := .type "dict", data := .dict #[] } } :=
    I.laid (t' := s.toks) (fun b u e => Heap.get?_push_of_some _ e) (Nat.le_refl _) (dRaw_ok hs hr0)
  refine wpAny_bind (thn (he.run pins _ σ _ _ I0 (h _ 0 hp)) fun u1 s1 ⟨y, H1, I1, r1, q1⟩ => ?_)
  refine wpAny_bind (wpAny_holding (wpAny_bind (thn (hf.run pins _ σ _ _ I1 q1) fun u2 s2 ⟨z, H2, I2, r2, hd2, b, k, e1, hk, q2⟩ => ?_)))
  subst e1
  cases r1
  refine wpAny_bind (wpAny_standAt (wpAny_pure ?_))
  refine wpAny_bind (wpAny_holding ?_)
  unfold evalPairs
  refine wpAny_pure (wpAny_pure ?_)
  obtain ⟨_, hr2⟩ := raw_of I2 hd2
  refine ⟨[(k, b, u2)], ⟨rfl, rfl, is_of I2 hk, trivial⟩, ?_, fun h' tk hD hS => ?_⟩
  · obtain ⟨o, g1, g2, g3⟩ := hr2
    exact ⟨o, #[], 0, g1, g2, g3, rfl, (fun _ h => nomatch h), List.nodup_nil⟩
  · obtain ⟨o', es', ep', g1, g2, g3, g4, g5, g6⟩ := hD
    refine wpAny_pure ?_
    refine ⟨.ref _, upd H2 s.heap.objs.size (dRaw s.heap.objs.size es' ep'), d_write I2 (by rw [hd2]; trivial) hS ⟨o', g1⟩ (dRaw_ok hs ⟨o', g1, g2, g3⟩), rfl, q2 es' ep' ?_⟩
    rw [g4]
    exact .cons ⟨rfl, rfl, r2⟩ .nil
end
end VI

set_option Elab.async false
set_option linter.all false
set_option maxRecDepth 100000
set_option maxHeartbeats 1000000
/-! VD, part 4: isinstance of dicts, dict(list of pairs) -/
namespace VI
open PySem PySem.Spec PyProof.Rows L2 PySem.Calls
/-! ### isinstance -/
inductive TyY (K : PySem.W.Frag) (H : Hp) : V → Value → Prop where
  | base {x : V} {t : Value} (h : TyX K H x t) : TyY K H x t
  | raw {a : Addr} {es : Array DictEntry} {ep : Nat} (e : H a = some (dRaw a es ep)) : TyY K H (.ref a) (.type "dict")
section
variable {X : Cx} {pins : List (Addr × Obj)} {σ : L2.St} {H : Hp} {s : Shared}
theorem kit_ofY {x : V} {u t : Value} (I : Inv X pins σ H s) (rx : RelV x u) (ty : TyY X.K H x t) : ∃ P : Heap → Prop, PySem.W.KitX X.K u t P ∧ P s.heap ∧ u ≠ .builtin "__main__.__loader__#opaque" := by
  cases ty with
  | base h => exact kit_of I rx h
  | @raw a es ep e =>
    cases (show u = Value.ref a from rx)
    obtain ⟨_, o, h1, h2, _⟩ := raw_of I e
    exact ⟨_, PySem.W.kitx_dict, ⟨o, h1, h2.1⟩, fun z => nomatch z⟩
end
def rIsiY (K : PySem.W.Frag) : List V → Hp → VK → Prop := fun xs H Q => ∃ (x c : V) (t u : Value) (b : Bool), xs = [x, c] ∧ ClsV c u ∧ TyY K H x t ∧ PySem.W.kitOne K t u = some b ∧ Q (.bl b) H
def rIsiTY (K : PySem.W.Frag) : List V → Hp → VK → Prop := fun xs H Q => ∃ (x : V) (tp : Addr) (cs : List V) (t : Value) (us : List Value) (b : Bool), xs = [x, .ref tp] ∧ H tp = some (.tup cs) ∧ Paired ClsV cs us ∧ TyY K H x t ∧ PySem.W.kitAny K t us = some b ∧ Q (.bl b) H
section
variable {X : Cx}
theorem call_isiY : CallR X (.builtin "isinstance") (rIsiY X.K) := by
  intro pins s σ H xs us Q I r h
  obtain ⟨x, c, t, u, b, rfl, k, ty, e, q⟩ := h
  obtain ⟨u1, u2, rfl, r1, r2⟩ := vals2 r
  have e2 := k.eq r2
  subst e2
  obtain ⟨P, Z, p, hx⟩ := kit_ofY I r1 ty
  exact PySem.W.kia_one Z I.kIn p e hx fun tk => ⟨.bl b, H, I.tok tk, rfl, q⟩
theorem call_isiTY : CallR X (.builtin "isinstance") (rIsiTY X.K) := by
  intro pins s σ H xs us Q I r h
  obtain ⟨x, tp, cs, t, ws, b, rfl, hT, k, ty, e, q⟩ := h
  obtain ⟨u1, u2, rfl, r1, r2⟩ := vals2 r
  cases (show u2 = Value.ref tp from r2)
  obtain ⟨P, Z, p, hx⟩ := kit_ofY I r1 ty
  obtain ⟨_, its, rv, o, h1, h2, n, h3⟩ := (show ObjOk X.prog X.w H s.heap tp (.tup cs) from I.hok tp _ hT)
  have e3 := ClsV.all k rv
  subst e3
  obtain ⟨oc, od, dt, sl⟩ := o
  simp only at h2 h3
  subst h2 h3
  exact PySem.W.kia_tup Z I.kIn p h1 e hx fun tk => ⟨.bl b, H, I.tok tk, rfl, q⟩
/-! ### dict([(k, v), ..]) -/
def storeAllQ (acc qs : List Row) : List Row := qs.foldl (fun acc q => storeQ acc q.1 q.2.1 q.2.2) acc
theorem storeAll_of : ∀ {qs : List Row} {ps : List (NestedKey × Addr × Value)} {acc : List Row} {xs : List (NestedKey × Addr × Value)}, Paired QX acc xs → Paired QX qs ps → Paired QX (storeAllQ acc qs) (storedAllH xs ps)
  | _, _, acc, xs, h, .nil => h
  | q :: qs, p :: ps, acc, xs, h, .cons g t => by
    show Paired QX (storeAllQ (storeQ acc q.1 q.2.1 q.2.2) qs) (storedAllH (storedH xs p.1 p.2.1 p.2.2) ps)
    refine storeAll_of ?_ t
    have := store_of (k := q.1) (b := q.2.1) h g.2.2
    rw [← g.1, ← g.2.1]
    exact this
/-- an item of the list: a pair of the row's key and value -/
def PrR (H : Hp) (x : V) (q : Row) : Prop := ∃ T, x = .ref T ∧ H T = some (.tup [.ref q.2.1, q.2.2])
def rDictL (w : World) : List V → Hp → VK → Prop := fun vs H Q => ∃ a xs qs, vs = [.ref a] ∧ H a = some (.lst xs) ∧ Paired (PrR H) xs qs ∧ (∀ q ∈ qs, KeyOk H q.1 q.2.1) ∧
  (xs.length ≤ sizeLine → ∀ p es ep, H p = none → Paired (EntV w) (storeAllQ [] qs) es.toList → Q (.ref p) (upd H p (dRaw p es ep)))
theorem pairs_at {pins : List (Addr × Obj)} {σ : L2.St} {H : Hp} {s : Shared} (I : Inv X pins σ H s) : ∀ {xs : List V} {qs : List Row} {its : List Value}, Paired (PrR H) xs qs → Vals xs its →
    ∃ (Ts : List Addr) (ps : List (Value × Value)) (rs : List (NestedKey × Addr × Value)), Ts.length = ps.length ∧ its = Ts.map Value.ref ∧ rs.length = ps.length ∧ Paired QX qs rs ∧
      ∀ (j : Nat) (k v : Value), ps[j]? = some (k, v) → ∃ T kk b, Ts[j]? = some T ∧ PairAt s.heap T k v ∧ rs[j]? = some (kk, b, v) ∧ k = .ref b
  | _, _, _, .nil, .nil => ⟨[], [], [], rfl, rfl, rfl, .nil, fun j k v e => by simp at e⟩
  | x :: xs, q :: qs, u :: its, .cons h t, .cons r rr => by
    obtain ⟨T, rfl, hT⟩ := h
    cases r
    obtain ⟨Ts, ps, rs, h1, h2, h3, h4, h5⟩ := pairs_at I t rr
    obtain ⟨its2, rv, p, _⟩ := I.tuple (SqT.of hT)
    obtain ⟨u1, u2, e2, r1, r2⟩ := vals2 rv
    subst e2
    cases r1
    refine ⟨T :: Ts, (.ref q.2.1, u2) :: ps, (q.1, q.2.1, u2) :: rs, by simp [h1], by rw [List.map_cons, h2], by simp [h3], .cons ⟨rfl, rfl, r2⟩ h4, fun j k v e => ?_⟩
    cases j with
    | zero =>
      simp at e
      obtain ⟨rfl, rfl⟩ := e
      exact ⟨T, q.1, q.2.1, rfl, .inl p, rfl, rfl⟩
    | succ j =>
      obtain ⟨T', kk, b, g1, g2, g3, g4⟩ := h5 j k v (by simpa using e)
      exact ⟨T', kk, b, by simpa using g1, g2, by simpa using g3, g4⟩
theorem call_dictL (hc : X.calm = true) (hu : X.A.units + 10 < cLine) : CallR X (.type "dict") (rDictL X.w) := by
  intro pins s σ H vs us Q I r h
  obtain ⟨a, xs, qs, rfl, ha, hp, hk, q⟩ := h
  obtain ⟨u, rfl, ru⟩ := vals1 r
  cases ru
  obtain ⟨hz, its, n, rv, h1⟩ := (show ObjOk X.prog X.w H s.heap a (.lst xs) from I.hok a _ ha)
  obtain ⟨Ts, ps, rs, e1, e2, e3, hP, hj⟩ := pairs_at I hp rv
  have hlen : xs.length = ps.length := by
    have := rv.length
    rw [e2, List.length_map] at this
    omega
  refine call_dict_pairsH (knd := nestedKind X.prog X.w) (ps := rs) (PairArg.list a its.toArray (fun j => Ts.getD j 0) ps) (I.ok.hd hc) (by show X.A.in1.in1.units + 8 < cLine; show X.A.units + 1 + 1 + 8 < cLine; omega) ⟨⟨_, n, h1, rfl, rfl, rfl⟩, by rw [e2]; simp [e1], fun j k v e => ?_⟩ ⟨e3, fun i key v e => ?_⟩ (fun h' hk' x hx => ?_) (by rw [← hlen]; exact hz) fun h' tk hD hk' => ?_
  · obtain ⟨T, kk, b, g1, g2, g3, g4⟩ := hj j k v e
    have eT : Ts.getD j 0 = T := by rw [List.getD_eq_getElem?_getD, g1]; rfl
    show its.toArray[j]? = some (Value.ref (Ts.getD j 0)) ∧ PairAt s.heap (Ts.getD j 0) k v
    rw [eT]
    refine ⟨?_, g2⟩
    rw [e2]
    simp [g1]
  · obtain ⟨T, kk, b, g1, g2, g3, g4⟩ := hj i key v e
    exact ⟨kk, b, g3, g4⟩
  · obtain ⟨q', hq', f1, f2, _⟩ := qx_mem hP hx
    rw [← f1, ← f2]
    have := is_of I (hk q' hq')
    exact ⟨NestedIs.at (fun b o vs n e _ => hk' b o (Nat.ne_of_lt (Heap.lt_size e)) (by simp) e) _ _ this.1, this.2⟩
  · obtain ⟨o', es', ep', g1, g2, g3, g4, g5, g6⟩ := hD
    have hs : (s.heap.objs.size == sysModules) = false := new_mods I
    refine ⟨.ref _, upd H s.heap.objs.size (dRaw s.heap.objs.size es' ep'), I.laid (t' := tk) (fun b o e => hk' b o (by simp) e) (Nat.le_refl _) (dRaw_ok hs ⟨o', g1, g2, g3⟩), rfl, q hz _ es' ep' (I.hok.fresh (Nat.le_refl _)) ?_⟩
    rw [g4]
    exact Rws.row_of X.prog (storeAll_of .nil hP)
end
end VI

set_option Elab.async false
set_option linter.all false
set_option maxRecDepth 100000
set_option maxHeartbeats 1000000
/-! VD, part 5: sorted of whatever is gathered into a list of alike data -/
namespace VI
open PySem PySem.Spec PyProof.Rows L2 PySem.Calls
/-- later: what stood still stands -/
structure Aft (s s' : Shared) : Prop where
  keep : ∀ b o, s.heap.get? b = some o → s'.heap.get? b = some o
  gens : s'.gens = s.gens
  os : s'.os = s.os
theorem each_zipV {h : Heap} : ∀ {xs : List V} {its : List Value} {ds : List PyData} {as : List Addr}, Vals xs its → xs.length = ds.length → ReadsAll h its ds as →
    PySem.W.EachIs (fun v (b : V × PyData) => RelV b.1 v) its (xs.zip ds) ∧ PySem.W.EachIs (fun v (b : V × PyData) => ∃ as, Reads h v b.2 as) its (xs.zip ds)
  | [], [], [], _, _, _, _ => ⟨.nil, .nil⟩
  | x :: xs, u :: us, d :: ds, as, .cons r t, hl, h => by
    cases h with
    | cons h1 h2 =>
    obtain ⟨e1, e2⟩ := each_zipV t (by simpa using hl) h2
    exact ⟨.cons r e1, .cons ⟨_, h1⟩ e2⟩
  | _ :: _, _ :: _, [], _, _, hl, _ => by simp at hl
theorem vals_eachV : ∀ {out : List Value} {bs : List (V × PyData)}, PySem.W.EachIs (fun v (b : V × PyData) => RelV b.1 v) out bs → Vals (bs.map (·.1)) out
  | _, _, .nil => .nil
  | _, _, .cons r t => .cons r (vals_eachV t)
theorem zip_sndV {xs : List V} {ds : List PyData} (h : xs.length = ds.length) : (xs.zip ds).map (fun b => b.2) = ds := by
  rw [show (fun (b : V × PyData) => b.2) = Prod.snd from rfl, List.map_snd_zip]
  omega
/-- what sorts: values that read as alike data -/
structure SrtArg (K : PySem.W.Frag) (H : Hp) (xs : List V) (ds : List PyData) : Prop where
  dp : DpAll K H xs ds
  len : xs.length = ds.length
  al : PySem.W.AllAlike ds
  so : PySem.W.Sortable ds
  dep : ∀ d ∈ ds, d.depth ≤ 60
  few : xs.length ≤ sizeLine
def srtV (xs : List V) (ds : List PyData) : List V := ((xs.zip ds).mergeSort (PySem.W.dataLe false fun b => b.2)).map (·.1)
section
variable {X : Cx} {pins : List (Addr × Obj)} {σ : L2.St} {H : Hp} {s : Shared}
/-- sorted(a): what its walk gathers is vs, in whatever order -/
theorem sorted_col {a : Addr} {Q : VK} {E : Value → Shared → Prop} (I : Inv X pins σ H s) (hu : X.A.units + 65 < cLine)
    (hcol : ∀ (Qc : List Value → Shared → Prop) (E' : Value → Shared → Prop), (∀ s1 vs xs ds, Aft s s1 → Vals xs vs → SrtArg X.K H xs ds → (∀ p, H p = none → Q (.ref p) (upd H p (.lst (srtV xs ds)))) → Qc vs s1) → wpAny (model X.prog X.w) X.A.in1 (collect (.ref a)) Qc E' s) :
    wpAny (model X.prog X.w) X.A (call (.builtin "sorted") [.ref a]) (EP X pins σ Q) E s := by
  refine call_function_entry kind_sorted plain_sorted entry_sorted (args_sorted1 _) ?_
  unfold Builtin.«sorted»
  refine wpAny_bind (m := checkCount "sorted" 1 1 _) (wpAny_pure ?_)
  refine wpAny_bind (hcol _ _ fun s1 vs xs ds T rv S q => ?_)
  have hlen : xs.length = vs.length := rv.length
  refine wpAny_bind (wpAny_newList ?_ (by rw [← hlen]; exact S.few))
  have hoL : (s1.heap.push (seqObj "list" vs.toArray 0)).get? s1.heap.objs.size = some (seqObj "list" vs.toArray 0) := Heap.get?_push_size _ rfl
  obtain ⟨as, h4⟩ := Dp.readsAll I ds xs vs S.dp rv
  obtain ⟨e, er⟩ := each_zipV rv S.len h4
  have hk : ∀ b u, s.heap.get? b = some u → (PySem.W.sortingHeap (s1.heap.push (seqObj "list" vs.toArray 0)) s1.heap.objs.size vs).get? b = some u := fun b u q => by
    have q1 := T.keep b u q
    exact PySem.W.sortingHeap_old (Nat.ne_of_lt (Heap.lt_size q1)) (Heap.get?_push_of_some _ q1)
  have er' : PySem.W.EachIs (fun v (b : V × PyData) => ∃ as, Reads (PySem.W.sortingHeap (s1.heap.push (seqObj "list" vs.toArray 0)) s1.heap.objs.size vs) v b.2 as) vs (xs.zip ds) := er.mono fun _ _ ⟨as, r⟩ => ⟨as, PyProof.Rows.Reads.keeps hk r⟩
  have hz2 := zip_sndV S.len
  have hal : PySem.W.AllAlike ((xs.zip ds).map fun b => b.2) := by rw [hz2]; exact S.al
  have hso : PySem.W.Sortable ((xs.zip ds).map fun b => b.2) := by rw [hz2]; exact S.so
  have hdep : ∀ b, b ∈ xs.zip ds → X.A.units + 2 + b.2.depth < cLine := fun b hb => by
    have : b.2 ∈ ds := by
      have z : b.2 ∈ (xs.zip ds).map (fun b => b.2) := List.mem_map.mpr ⟨b, hb, rfl⟩
      rwa [hz2] at z
    have := S.dep _ this
    omega
  refine wpAny_bind (wpAny_holding (wpAny_call_entry slot_list_sort ⟨_, hoL, rfl⟩ entry_list_sort ?body (args_list_sort _)))
  case body =>
    refine PySem.W.list_sort_vals (s := { s1 with heap := s1.heap.push (seqObj "list" vs.toArray 0) }) (κ := PySem.W.dataKind (PySem.W.sortingHeap (s1.heap.push (seqObj "list" vs.toArray 0)) s1.heap.objs.size vs) ((xs.zip ds).map fun b => b.2)) hoL
      (PySem.W.SortsAt.data (s := { s1 with heap := PySem.W.sortingHeap (s1.heap.push (seqObj "list" vs.toArray 0)) s1.heap.objs.size vs }) (PySem.W.each_map (R := fun v d => ∃ as, Reads (PySem.W.sortingHeap (s1.heap.push (seqObj "list" vs.toArray 0)) s1.heap.objs.size vs) v d as) (fun b : V × PyData => b.2) er') hal hso
        (PySem.W.bound_map fun b hb => by have := hdep b hb; show X.A.in1.in1.units + b.2.depth < cLine; show X.A.units + 1 + 1 + b.2.depth < cLine; omega)) (by rw [← hlen]; exact S.few) ?_
    have eo := PySem.W.sortVals_data (R := fun v (b : V × PyData) => RelV b.1 v) false e er' hal
    have el := PySem.W.sortVals_length (κ := PySem.W.dataKind (PySem.W.sortingHeap (s1.heap.push (seqObj "list" vs.toArray 0)) s1.heap.objs.size vs) ((xs.zip ds).map fun b => b.2)) false (ks := vs) (vs := vs) rfl
    generalize PySem.W.sortVals (PySem.W.dataKind (PySem.W.sortingHeap (s1.heap.push (seqObj "list" vs.toArray 0)) s1.heap.objs.size vs) ((xs.zip ds).map fun b => b.2)) false vs vs = out at eo el ⊢
    refine ⟨_, rfl, wpAny_pure ⟨_, rfl, ?_⟩⟩
    obtain ⟨c, hc⟩ := sortedHeap_at (vs := vs) (out := out.toArray) hoL
    have hv : Vals (srtV xs ds) out := vals_eachV eo
    have hp : H s1.heap.objs.size = none := (I.hok.kept T.keep).fresh (Nat.le_refl _)
    have hg : s.heap.get? s1.heap.objs.size = none := by
      cases q : s.heap.get? s1.heap.objs.size with
      | none => rfl
      | some u => exact absurd (Heap.lt_size (T.keep _ _ q)) (Nat.lt_irrefl _)
    have keep2 : ∀ b u, s.heap.get? b = some u → (sortedHeap (s1.heap.push (seqObj "list" vs.toArray 0)) s1.heap.objs.size vs out.toArray).get? b = some u := fun b u q => by
      have q1 := T.keep b u q
      have hlt := Heap.lt_size q1
      rw [sortedHeap_old (Nat.ne_of_lt hlt) (by rw [size_push']; exact Nat.lt_succ_of_lt hlt)]
      exact Heap.get?_push_of_some _ q1
    have hfew : (srtV xs ds).length ≤ sizeLine := by
      rw [hv.length, el, ← hlen]; exact S.few
    have J : Inv X pins σ (upd H s1.heap.objs.size (.lst (srtV xs ds))) { s1 with heap := sortedHeap (s1.heap.push (seqObj "list" vs.toArray 0)) s1.heap.objs.size vs out.toArray } :=
      I.call' (ch := []) T.os (Un.laidN keep2 hg hp) (I.hok.laidN keep2 hp ⟨hfew, out, c, hv, hc⟩) (by show AllBare s1.gens; rw [T.gens]; exact I.bare) (fun _ z => nomatch z)
    exact ⟨.ref s1.heap.objs.size, _, J, rfl, q _ hp⟩
end
end VI

set_option Elab.async false
set_option linter.all false
set_option maxRecDepth 100000
set_option maxHeartbeats 1000000
/-! VD, part 6: sorted(tuple), d.keys() and d.values() as values, sorted(d.keys()), list(d.values()) -/
namespace VI
open PySem PySem.Spec PyProof.Rows L2 PySem.Calls
section
variable {prog : Program} {w : World} {A : Around} {E : Value → Shared → Prop} {s : Shared}
theorem collect_tup {l : Addr} {vs : List Value} {Q : List Value → Shared → Prop} (hl : s.heap.IsTuple l vs.toArray) (hsz : vs.length ≤ sizeLine)
    (h : ∀ s1, Aft s s1 → Q vs s1) : wpAny (model prog w) A (collect (.ref l)) Q E s := by
  obtain ⟨o, ho, hc, n, hd⟩ := id hl
  unfold collect
  refine wpAny_bind (wpAny_runValue (codeAny_builtin entry_proto_collect' ?_))
  show wpAny _ _ (do again (.builtin "list.__iadd__" ⟨[← newList [], .ref l], []⟩)) _ _ s
  refine wpAny_bind (wpAny_newList (wpAny_pure ⟨Code.quiet_builtin _ (by decide +kernel), codeAny_builtin entry_list_iadd' ?_⟩))
  show wpAny _ _ (Builtin.List.listExtendWith (.ref s.heap.objs.size) (.ref l) (.ref s.heap.objs.size)) _ _ { s with heap := s.heap.push (seqObj "list" #[] 0) }
  unfold Builtin.List.listExtendWith
  have ho' : (s.heap.push (seqObj "list" #[] 0)).get? l = some o := Heap.get?_push_of_some _ ho
  have hne : s.heap.objs.size ≠ l := Nat.ne_of_gt (Heap.lt_size ho)
  have hnew : (s.heap.push (seqObj "list" #[] 0)).get? s.heap.objs.size = some (seqObj "list" #[] 0) := Heap.get?_push_size _ rfl
  refine wpAny_bind (wpAny_typeOf (T := "tuple") ⟨o, ho', hc⟩ ?_)
  have ht : (Value.type "tuple" == Value.type "tuple") = true := by rfl
  rw [if_pos (by rw [ht]; simp)]
  refine wpAny_bind (listItems_at ho' hd ?_)
  refine wpAny_bind (listItems_at (xs := #[]) (n := 0) hnew rfl ?_)
  rw [if_neg (by simp)]
  refine wpAny_bind (listUpdate_at (xs := #[]) (n := 0) hnew rfl ?_ (Nat.zero_le _) (by show (#[] ++ vs.toArray).size ≤ sizeLine + 1; simp only [Array.size_append, List.size_toArray, List.length_nil]; omega))
  refine wpAny_pure ?_
  show wpAny (model prog w) A (do
      let o ← load s.heap.objs.size
      match o.data with
      | .seq xs _ => pure xs.toList
      | _ => unsupported "internal:collect") Q E { s with heap := (s.heap.push (seqObj "list" #[] 0)).update s.heap.objs.size (Obj.mapSeq (· ++ vs.toArray)) }
  refine wpAny_bind (wpAny_load (get?_update_seq hnew _) ?_)
  show wpAny _ _ (pure ((#[] : Array Value) ++ vs.toArray).toList) Q E _
  rw [show ((#[] : Array Value) ++ vs.toArray).toList = vs by simp]
  refine wpAny_pure (h _ ⟨fun b u e => ?_, rfl, rfl⟩)
  rw [Heap.get?_update_ne _ _ _ _ (Nat.ne_of_lt (Heap.lt_size e))]
  exact Heap.get?_push_of_some _ e
end
section
variable {X : Cx}
/-- sorted(tuple) -/
def rSortedTu (K : PySem.W.Frag) : List V → Hp → VK → Prop := fun vs H Q => ∃ (a : Addr) (xs : List V) (ds : List PyData), vs = [V.ref a] ∧ SqT K H a xs ∧ (xs.length ≤ sizeLine → SrtArg K H xs ds) ∧ ∀ p, H p = none → Q (.ref p) (upd H p (.lst (srtV xs ds)))
theorem cr_sortedTu (hu : X.A.units + 65 < cLine) : CallR X (.builtin "sorted") (rSortedTu X.K) := by
  intro pins s σ H vs us Q I r h
  obtain ⟨a, xs, ds, rfl, hq, S, q⟩ := h
  obtain ⟨u, rfl, ru⟩ := vals1 r
  cases ru
  obtain ⟨its, rv, p, hz⟩ := I.tuple hq
  refine sorted_col I hu fun Qc E' hc => ?_
  exact collect_tup p (by rw [← rv.length]; exact hz) fun s1 T => hc s1 its xs ds T rv (S hz) q
/-! ### views -/
def kView (v d : Addr) : HO := .ext fun h => PySem.W.KdlKeysView h v d
def vView (v d : Addr) : HO := .ext fun h => h.IsValuesView v d
theorem kView_ok {P : Program} {w : World} {H : Hp} {h : Heap} {v d : Addr} (r : PySem.W.KdlKeysView h v d) : ObjOk P w H h v (kView v d) := by
  have ⟨o, h1, _⟩ := r
  exact ⟨r, ⟨o, h1⟩, fun h1 h2 a b => let ⟨o, x, y⟩ := a; ⟨o, b o x, y⟩⟩
theorem vView_ok {P : Program} {w : World} {H : Hp} {h : Heap} {v d : Addr} (r : h.IsValuesView v d) : ObjOk P w H h v (vView v d) := by
  have ⟨o, h1, _⟩ := r
  exact ⟨r, ⟨o, h1⟩, fun h1 h2 a b => let ⟨o, x, y⟩ := a; ⟨o, b o x, y⟩⟩
def tView (f : Addr → Addr → HO) (td : TE) : TE := fun σ H Q => td σ H fun x H1 => ∃ d es ep, x = .ref d ∧ H1 d = some (dRaw d es ep) ∧ ∀ p, H1 p = none → Q (.ref p) (upd H1 p (f p d))
theorem pe_keysV {e : Expr} {td : TE} {apos cpos : Pos} (he : PE X e td) (hb : attributeBase e "keys" X.env (eval e X.env) = eval e X.env) (hl : (apos.endLine == cpos.line) = true) :
    PE X (.Call (.Attribute e "keys" apos) [] [] cpos) (tView kView td) := by
  refine ⟨fun pins s σ H Q I h => ?_⟩
  refine wpAny_Call_method hb rfl hl F.plainAttrs_dict F.slot_dict_keys F.type_dict_keys (thn (he.run pins s σ H _ I h) fun u s1 ⟨x, H1, I1, r1, d, es, ep, e1, hd, q⟩ => ?_)
  subst e1
  cases r1
  obtain ⟨hs, hr⟩ := raw_of I1 hd
  refine ⟨raw_type hr, raw_nodict hr, callWith_builtin rfl (evalArgs_none ?_)⟩
  refine call_meetsIn F.slot_dict_keys (raw_type hr) F.entry_dict_keys (F.args_dict_keys_1 _) (meets_dict_keys_raw d hs) ⟨⟨es, ep, hr⟩, ?_⟩
  exact ⟨.ref _, _, I1.laid (t' := s1.toks) (fun b o e => Heap.get?_push_of_some _ e) (Nat.le_refl _) (kView_ok ⟨_, Heap.get?_push_size _ rfl, rfl, rfl⟩), rfl, q _ (I1.hok.fresh (Nat.le_refl _))⟩
theorem pe_valsV {e : Expr} {td : TE} {apos cpos : Pos} (he : PE X e td) (hb : attributeBase e "values" X.env (eval e X.env) = eval e X.env) (hl : (apos.endLine == cpos.line) = true) :
    PE X (.Call (.Attribute e "values" apos) [] [] cpos) (tView vView td) := by
  refine ⟨fun pins s σ H Q I h => ?_⟩
  refine wpAny_Call_method hb rfl hl F.plainAttrs_dict F.slot_dict_values F.type_dict_values (thn (he.run pins s σ H _ I h) fun u s1 ⟨x, H1, I1, r1, d, es, ep, e1, hd, q⟩ => ?_)
  subst e1
  cases r1
  obtain ⟨hs, hr⟩ := raw_of I1 hd
  refine ⟨raw_type hr, raw_nodict hr, callWith_builtin rfl (evalArgs_none ?_)⟩
  refine call_meetsIn F.slot_dict_values (raw_type hr) F.entry_dict_values (F.args_dict_values_1 _) (meets_dict_values_raw d hs) ⟨⟨es, ep, hr⟩, ?_⟩
  exact ⟨.ref _, _, I1.laid (t' := s1.toks) (fun b o e => Heap.get?_push_of_some _ e) (Nat.le_refl _) (vView_ok ⟨_, Heap.get?_push_size _ rfl, rfl, rfl⟩), rfl, q _ (I1.hok.fresh (Nat.le_refl _))⟩
theorem items_vals {f : DictEntry → Value} {es : Array DictEntry} {acc : Array Value} {vs : List V} (hp : Paired (fun v e => RelV v (f e)) vs es.toList) (h : PySem.ItemsOf (fun i v => ∃ hi : i < es.size, v = f es[i]) acc es.size) : Vals vs acc.toList := by
  have key : ∀ {vs : List V} {l : List DictEntry} {m : List Value}, Paired (fun v e => RelV v (f e)) vs l → m.length = l.length → (∀ (j : Nat) (v : Value), m[j]? = some v → ∃ hj : j < l.length, v = f l[j]) → Vals vs m := by
    intro vs l m hp
    induction hp generalizing m with
    | nil =>
      intro hl _
      cases m with
      | nil => exact .nil
      | cons _ _ => simp at hl
    | cons r t ih =>
      intro hl hj
      cases m with
      | nil => simp at hl
      | cons u m =>
        obtain ⟨_, e⟩ := hj 0 u rfl
        refine .cons (by rw [e]; exact r) (ih (by simpa using hl) fun j v hv => ?_)
        obtain ⟨h1, h2⟩ := hj (j + 1) v (by simpa using hv)
        exact ⟨by simpa using h1, by simpa using h2⟩
  refine key hp (by rw [Array.length_toList, Array.length_toList]; exact h.1) fun j v hv => ?_
  obtain ⟨h1, h2⟩ := h.2 j v (by rw [← Array.getElem?_toList]; exact hv)
  exact ⟨by simpa using h1, by simpa using h2⟩
/-- sorted(d.keys()) -/
def rSortedKV (K : PySem.W.Frag) : List V → Hp → VK → Prop := fun vs H Q => ∃ (a d : Addr) (es : Array DictEntry) (ep : Nat) (xs : List V) (ds : List PyData), vs = [V.ref a] ∧ H a = some (kView a d) ∧ H d = some (dRaw d es ep) ∧
  Paired (fun v e => RelV v e.key) xs es.toList ∧ SrtArg K H xs ds ∧ ∀ p, H p = none → Q (.ref p) (upd H p (.lst (srtV xs ds)))
theorem cr_sortedKV (hc : X.calm = true) (hu : X.A.units + 65 < cLine) : CallR X (.builtin "sorted") (rSortedKV X.K) := by
  intro pins s σ H vs us Q I r h
  obtain ⟨a, d, es, ep, xs, ds, rfl, ha, hd, hp, S, q⟩ := h
  obtain ⟨u, rfl, ru⟩ := vals1 r
  cases ru
  have v := (I.hok a _ ha).1
  obtain ⟨_, hr⟩ := raw_of I hd
  have hl := (paired_at hp).1
  refine sorted_col I hu fun Qc E' hcc => ?_
  refine PySem.W.kdu_collect (PySem.KdlSrc.rawKeys (ep := ep) (es := es)) (I.ok.hd hc) ⟨v, hr⟩ (by rw [← hl]; exact S.few) fun h' tk acc hk hacc => ?_
  exact hcc _ _ xs ds ⟨hk, rfl, rfl⟩ (items_vals hp hacc) S q
/-- list(d.values()) -/
def rListVV : List V → Hp → VK → Prop := fun vs H Q => ∃ (a d : Addr) (es : Array DictEntry) (ep : Nat) (xs : List V), vs = [V.ref a] ∧ H a = some (vView a d) ∧ H d = some (dRaw d es ep) ∧
  Paired (fun v e => RelV v e.val) xs es.toList ∧ xs.length ≤ sizeLine ∧ ∀ p, H p = none → Q (.ref p) (upd H p (.lst xs))
theorem cr_listVV (hc : X.calm = true) : CallR X (.type "list") rListVV := by
  intro pins s σ H vs us Q I r h
  obtain ⟨a, d, es, ep, xs, rfl, ha, hd, hp, hf, q⟩ := h
  obtain ⟨u, rfl, ru⟩ := vals1 r
  cases ru
  have v := (I.hok a _ ha).1
  obtain ⟨_, hr⟩ := raw_of I hd
  have hl := (paired_at hp).1
  refine PySem.W.kdl_call (PySem.KdlSrc.rawValues (ep := ep) (es := es)) (I.ok.hd hc) ⟨v, hr⟩ (by rw [← hl]; exact hf) fun h' tk acc c hk hS hacc => ?_
  have hv := items_vals hp hacc
  exact ⟨.ref _, upd H s.heap.objs.size (.lst xs), I.laid (t' := tk) hk (Nat.le_refl _) ⟨hf, acc.toList, c, hv, by simpa using hS⟩, rfl, q _ (I.hok.fresh (Nat.le_refl _))⟩
end
end VI

set_option Elab.async false
set_option linter.all false
set_option maxRecDepth 100000
set_option maxHeartbeats 3200000
/-! VD, part 7: set(list of ints), set(list of tuples of ints), set(tuple of ints); sorted of these -/
namespace VI
open PySem PySem.Spec PyProof.Rows L2 PySem.Calls
section
variable {P : Program} {w : World} {A : Around} {E : Value → Shared → Prop} {s : Shared}
abbrev set0 (w : World) : Obj := { cls := .type "set", dict := none, data := .set #[] 0 (.fresh 0 0 (!w.params.followText "set-order")) }
/-- set(xs), the loop's doing told apart -/
theorem call_set_src {l : Addr} {items : Array Value} {Fi : Heap → Prop} {Q : Value → Shared → Prop} (hh : A.handled = none) (hl : s.heap.IsList l items)
    (loop : ∀ (I : Addr) (fp wr : List Addr) (G : Array GenState → Array GenState → Prop) (St : Nat → Shared → Prop) (R : Result → Shared → Prop) (s1 : Shared),
      WalksS P w A.in1.in1.in1 I fp wr G items.size (fun i v => items[i]? = some v) St → s.heap.objs.size ∉ fp → (∀ b ∈ wr, s.heap.get? b = none) → St 0 s1 → (∀ b o, s.heap.get? b = some o → s1.heap.get? b = some o) →
      s1.heap.get? s.heap.objs.size = some (set0 w) → (∀ s', Moved (s.heap.objs.size :: wr) G s1 s' → Fi s'.heap → (∀ b o, s.heap.get? b = some o → s'.heap.get? b = some o) → R (.ok (.ret .none)) s') →
      codeAny (model P w) A.in1.in1 (.builtin "set.update.loop" ⟨[.ref s.heap.objs.size, .ref I], []⟩) R s1)
    (h : ∀ (h' : Heap) (tk : Nat), Fi h' → (∀ b o, s.heap.get? b = some o → h'.get? b = some o) → Q (.ref s.heap.objs.size) { s with heap := h', toks := tk }) :
    wpAny (model P w) A (call (.type "set") [.ref l]) Q E s := by
  obtain ⟨c, tl, hmro⟩ := F.called_set.mro
  have hmade := F.called_set.made
  have hsub := F.called_set.sub
  refine wpAny_call (codeAny_of_tree ?_)
  show wpAny _ _ (callAny (.type "set") _) _ _ _
  refine wpAny_pure ⟨Code.quiet_builtin _ (by decide +kernel), codeAny_builtin F.entry_type_call ?_⟩
  rw [Around.under_plain (weight_type_call_type "set" [.ref l] []) rfl]
  have h1 := F.called_set.notType
  have h2 := F.called_set.canCreate
  have hct := F.typeCall_set_1 (.ref l)
  repeat (any_goals (first | assumption | wp_step))
  refine codeAny_mono (code_set_led1 (.ref l) (E := E) (Q₁ := fun obj s₁ => obj = .ref s.heap.objs.size ∧ s₁ = { s with heap := s.heap.push (set0 w) }) ⟨rfl, rfl⟩) fun r s₁ hr => ?_
  cases r with
  | error e => exact hr
  | ok fl =>
    cases fl with
    | ret obj =>
      obtain ⟨rfl, rfl⟩ := hr
      have hS : (s.heap.push (set0 w)).get? s.heap.objs.size = some (set0 w) := Heap.get?_push_size _ rfl
      have hT : Shared.TypeIs { s with heap := s.heap.push (set0 w) } (.ref s.heap.objs.size) "set" := ⟨_, hS, rfl⟩
      have hli := F.called_set.init.lookup
      have hbi := F.called_set.init.bind (.ref s.heap.objs.size)
      repeat (any_goals (first | assumption | wp_step))
      refine codeAny_mono (codeAny_call_builtin (R := wants (fun r s₂ => r = .none ∧ ∃ h' tk, s₂ = { s with heap := h', toks := tk } ∧ Fi h' ∧ (∀ b o, s.heap.get? b = some o → h'.get? b = some o)) E) F.called_set.init.plain F.entry_set_init (check_set_init_1 hT ?_)) fun r₂ s₂ hr₂ => ?_
      · obtain ⟨⟨ocls, odict, odata, oslots⟩, hol, hcl, nl, hdl⟩ := hl
        simp only at hcl hdl
        subst hcl; subst hdl
        have hol' : (s.heap.push (set0 w)).get? l = some { cls := .type "list", dict := odict, data := .seq items nl, slots := oslots } := Heap.get?_push_of_some _ hol
        have hsls := F.sub_list_set
        have hslf := F.sub_list_frozenset
        have hne : (Value.type "list" == Value.type "dict") = false := by decide
        have hl1 : (s.heap.push (set0 w)).IsList l items := ⟨_, hol', rfl, nl, rfl⟩
        unfold Builtin.«set.__init__» noKeywords Builtin.Frozenset.updateFrom
        generalize hPI : pyIter = PI
        wp_walk
        subst hPI
        refine wpAny_pyIter_list hl1 ?_
        refine wpAny_bind (wpAny_runValue ?_)
        have hlS : l < s.heap.objs.size := Heap.lt_size hol
        have hh3 : A.in1.in1.in1.handled = none := by simp [hh]
        have hneI : l ≠ (s.heap.push (set0 w)).objs.size := by
          rw [Heap.size_push]; exact Nat.ne_of_lt (Nat.lt_succ_of_lt hlS)
        have hSf : s.heap.objs.size ∉ [(s.heap.push (set0 w)).objs.size, l] := by
          rw [Heap.size_push]; simp only [List.mem_cons, List.mem_singleton, List.not_mem_nil, or_false, not_or]
          exact ⟨Nat.ne_of_lt (Nat.lt_succ_self _), Nat.ne_of_gt hlS⟩
        have none_of : ∀ b, s.heap.objs.size ≤ b → s.heap.get? b = none := fun b hb => by
          cases q : s.heap.get? b with
          | none => rfl
          | some o => exact absurd (Nat.lt_of_lt_of_le (Heap.lt_size q) hb) (Nat.lt_irrefl _)
        refine loop _ _ _ _ _ _ _ (Walks.list hh3 _ l hneI items).toS hSf (fun b hb => none_of b (by
            rw [List.mem_singleton.mp hb, Heap.size_push]
            exact Nat.le_succ _)) ⟨⟨_, Heap.get?_push_size _ rfl, rfl, rfl⟩, hl1.push _⟩ (fun b o e => Heap.get?_push_of_some _ (Heap.get?_push_of_some _ e)) (Heap.get?_push_of_some _ hS) ?hR
        case hR =>
          intro s' hm hF hkp
          obtain ⟨h', g2, d', tk', os'⟩ := s'
          have eg : g2 = s.gens := hm.gens
          have ed : d' = s.drawn := hm.drawn
          have eo : os' = s.os := hm.os
          subst eg; subst ed; subst eo
          refine wpAny_pure ?_
          show wpAny _ _ (ret Value.none) _ _ _
          exact wpAny_pure ⟨rfl, h', tk', rfl, hF, hkp⟩
      · cases r₂ with
        | error e => exact hr₂
        | ok fl₂ =>
          cases fl₂ with
          | ret r =>
            obtain ⟨rfl, h', tk, rfl, hF, hk'⟩ := hr₂
            repeat (any_goals (first | assumption | wp_step))
            exact h _ _ hF hk'
          | _ => exact hr₂.elim
    | _ => exact hr.elim
end
end VI

set_option Elab.async false
set_option linter.all false
set_option maxRecDepth 100000
set_option maxHeartbeats 1600000
/-! VD, part 8: the loops of set(..), the calls by abstract heap -/
namespace VI
open PySem PySem.Spec PyProof.Rows L2 PySem.Calls
section
variable {P : Program} {w : World} {A : Around} {E : Value → Shared → Prop} {s : Shared}
/-- the loop over tuples of ints, the distinct ones fewer than 63 -/
theorem upd_tups {I : Addr} {fp wr : List Addr} {G : Array GenState → Array GenState → Prop} {n : Nat} {Pv : Nat → Value → Prop} {St : Nat → Shared → Prop} {R : Result → Shared → Prop}
    (W : WalksS P w A.in1 I fp wr G n Pv St) (S : Addr) (hSf : S ∉ fp) (ks : List (Addr × List Int)) (hn : n = ks.length) (hD : ∀ L : List (Addr × List Int), (∀ p ∈ L, p ∈ ks) → (L.map (·.2)).Nodup → L.length + 1 < 64)
    (hval : ∀ i v, Pv i v → ∃ p, ks[i]? = some p ∧ v = .ref p.1) (h0 : Heap) (hk : ∀ p ∈ ks, IsT P w h0 p.2 p.1) (hS0 : h0.get? S = none) (hw0 : ∀ b ∈ wr, h0.get? b = none) (hu : A.in1.units < cLine) :
    ∀ (k i : Nat) (s : Shared), n - i = k → i ≤ n → St i s → (∀ b o, h0.get? b = some o → s.heap.get? b = some o) → (∃ L es ep t, SetTR P w s.heap S L es ep t ∧ Got ks i L) →
      (∀ s' L es ep t, Moved (S :: wr) G s s' → SetTR P w s'.heap S L es ep t → Got ks n L → (∀ b o, h0.get? b = some o → s'.heap.get? b = some o) → R (.ok (.ret .none)) s') →
      codeAny (model P w) A (.builtin "set.update.loop" ⟨[.ref S, .ref I], []⟩) R s := by
  have hSw : S ∉ wr := fun h => hSf (W.sub _ h)
  have hsub : ∀ b ∈ wr, b ∈ S :: wr := fun b hb => List.mem_cons_of_mem _ hb
  have keepM : ∀ {s s' : Shared}, Moved wr G s s' → (∀ b o, h0.get? b = some o → s.heap.get? b = some o) → ∀ b o, h0.get? b = some o → s'.heap.get? b = some o := fun hm hkp b o e =>
    hm.heap b o (fun hb => by rw [hw0 b hb] at e; cases e) (hkp b o e)
  intro k
  induction k with
  | zero =>
    intro i s hk' hi hst hkp ⟨L, es, ep, t, hS, g⟩ hR
    obtain rfl : i = n := by omega
    refine codeAny_builtin F.entry_set_update_loop ?_
    rw [Around.under_plainId F.plain_set_update_loop _]
    show wpAny _ A.in1 (pyNext (.ref I) >>= _) _ _ s
    refine wpAny_bind (W.done s _ _ hst fun s' hm => ?_)
    show wpAny _ A.in1 (ret Value.none) _ _ s'
    have hkp' := keepM hm hkp
    exact wpAny_pure (hR s' L es ep t (hm.mono hsub) (hS.keep (fun o e => hm.heap S o hSw e) fun p hp => isT_keep (hk p (List.mem_of_mem_take (g.sub p hp))) hkp') g hkp')
  | succ k ih =>
    intro i s hk' hi hst hkp ⟨L, es, ep, t, hS, g⟩ hR
    have hlt : i < n := by omega
    refine codeAny_builtin F.entry_set_update_loop ?_
    rw [Around.under_plainId F.plain_set_update_loop _]
    show wpAny _ A.in1 (pyNext (.ref I) >>= _) _ _ s
    refine wpAny_bind (W.item i s _ _ hlt hst fun v s' hP hst' hm => ?_)
    obtain ⟨p, hp, rfl⟩ := hval i v hP
    have hkp' := keepM hm hkp
    have sub : ∀ p ∈ L, p ∈ ks := fun p hp => List.mem_of_mem_take (g.sub p hp)
    have hS' : SetTR P w s'.heap S L es ep t := hS.keep (fun o e => hm.heap S o hSw e) fun q hq => isT_keep (hk q (sub q hq)) hkp'
    have hx : IsT P w s'.heap p.2 p.1 := isT_keep (hk p (List.mem_of_getElem? hp)) hkp'
    show wpAny _ A.in1 (holding [Value.ref p.1] (setAdd S (.ref p.1)) >>= _) _ _ s'
    refine wpAny_bind (wpAny_holding ?_)
    unfold setAdd
    refine wpAny_holding (wpAny_bind (wpAny_pyHash_tuple hu hx ?_))
    refine add_at (s := { s' with toks := s'.toks + (p.2.length + 1) }) hS' hx hu (hD L sub hS.nd) fun b h' L' es' ep' t' hsb hS2 c1 c2 => ?_
    have g' : Got ks (i + 1) L' := by
      rcases Classical.em (p.2 ∈ L.map (·.2)) with c | c
      · rw [c1 c]; exact g.same hp c
      · exact g.more hp (c2 c)
    have hkp2 : ∀ b o, h0.get? b = some o → h'.get? b = some o := fun b o e => (hsb.2 b (fun z => by rw [z, hS0] at e; cases e)).trans (hkp' b o e)
    refine wpAny_pure ⟨plainId_quiet F.plain_set_update_loop _, ih (i + 1) _ (by omega) hlt (W.frame _ s' _ _ hst' (Nat.le_add_right _ _) fun b hb o e => ?_) hkp2 ⟨L', es', ep', t', hS2, g'⟩ fun s'' L2 es2 ep2 t2 hm'' hS'' g'' hkp'' => ?_⟩
    · rw [hsb.2 b (fun h : b = S => hSf (by rw [← h]; exact hb))]; exact e
    · refine hR s'' L2 es2 ep2 t2 (Moved.trans W.gtrans ((hm.mono hsub).then_heap (Nat.le_add_right _ _) fun b o hb e => ?_) hm'') hS'' g'' hkp''
      rw [hsb.2 b (fun h : b = S => hb (by rw [h]; exact List.mem_cons_self))]; exact e
theorem set_tups {l : Addr} {items : Array Value} (ks : List (Addr × List Int)) {Q : Value → Shared → Prop} (hh : A.handled = none) (hl : s.heap.IsList l items) (hit : items.toList = ks.map fun p => Value.ref p.1)
    (hk : ∀ p ∈ ks, IsT P w s.heap p.2 p.1) (hD : ∀ L : List (Addr × List Int), (∀ p ∈ L, p ∈ ks) → (L.map (·.2)).Nodup → L.length + 1 < 64) (hu : A.units + 3 < cLine)
    (h : ∀ (h' : Heap) (tk : Nat) L es ep t, SetTR P w h' s.heap.objs.size L es ep t → Got ks ks.length L → (∀ b o, s.heap.get? b = some o → h'.get? b = some o) → Q (.ref s.heap.objs.size) { s with heap := h', toks := tk }) :
    wpAny (model P w) A (call (.type "set") [.ref l]) Q E s := by
  have hisz : items.size = ks.length := by
    have q := congrArg List.length hit
    rwa [Array.length_toList, List.length_map] at q
  refine call_set_src (Fi := fun h' => ∃ L es ep t, SetTR P w h' s.heap.objs.size L es ep t ∧ Got ks ks.length L) hh hl (fun I fp wr G St R s1 W hSf hw hst hkp hS hR => ?_) fun h' tk ⟨L, es, ep, t, h1, h2⟩ hkp => h h' tk L es ep t h1 h2 hkp
  have hS0 : s.heap.get? s.heap.objs.size = none := by
    cases q : s.heap.get? s.heap.objs.size with
    | none => rfl
    | some o => exact absurd (Heap.lt_size q) (Nat.lt_irrefl _)
  refine upd_tups W s.heap.objs.size hSf ks hisz hD (fun i v hv => ?_) s.heap hk hS0 hw hu (items.size - 0) 0 s1 rfl (Nat.zero_le _) hst hkp ⟨[], #[], 0, _, setTR_fresh hS, Got.zero ks⟩ fun s' L es ep t hm hS' g hkp' => ?_
  · have q : items.toList[i]? = some v := by rw [Array.getElem?_toList]; exact hv
    rw [hit, List.getElem?_map] at q
    obtain ⟨p, hp, e⟩ := Option.map_eq_some_iff.mp q
    exact ⟨p, hp, e.symm⟩
  · rw [hisz] at g
    exact hR s' hm ⟨L, es, ep, t, hS', g⟩ hkp'
theorem set_ints {l : Addr} {items : Array Value} (ns : List Int) {Q : Value → Shared → Prop} (hh : A.handled = none) (hl : s.heap.IsList l items) (hit : IntsAre items.toList ns) (hb : ns.length + 1 < scanBound)
    (h : ∀ (h' : Heap) (tk c : Nat), SetR w h' s.heap.objs.size (fun j => decide (j ∈ ns)) c → c ≤ ns.length → (∀ b o, s.heap.get? b = some o → h'.get? b = some o) → Q (.ref s.heap.objs.size) { s with heap := h', toks := tk }) :
    wpAny (model P w) A (call (.type "set") [.ref l]) Q E s := by
  have hisz : items.size = ns.length := by
    have q := IntsAre.length hit
    rwa [Array.length_toList] at q
  refine call_set_src (Fi := fun h' => ∃ c, c ≤ ns.length ∧ SetR w h' s.heap.objs.size (fun j => decide (j ∈ ns)) c) hh hl (fun I fp wr G St R s1 W hSf hw hst hkp hS hR => ?_) fun h' tk ⟨c, h1, h2⟩ hkp => h h' tk c h2 h1 hkp
  have hS0 : s.heap.get? s.heap.objs.size = none := by
    cases q : s.heap.get? s.heap.objs.size with
    | none => rfl
    | some o => exact absurd (Heap.lt_size q) (Nat.lt_irrefl _)
  have hS1 : (s.heap.push (set0 w)).get? s.heap.objs.size = some (set0 w) := Heap.get?_push_size _ rfl
  have R0 : SetR w s1.heap s.heap.objs.size (fun j => decide (j ∈ ns.take 0)) 0 := SetR.congr (SetR.at (setR_fresh (h := s.heap) w) fun o e => by
    have e2 : (s.heap.push (set0 w)).get? s.heap.objs.size = some o := e
    rw [hS1] at e2
    rw [← e2]; exact hS) fun k => by simp
  refine set_update_ints W s.heap.objs.size hSf ns hisz hb (fun i v hv => ?_) (items.size - 0) 0 s1 rfl (Nat.zero_le _) hst ⟨0, Nat.le_refl _, R0⟩ fun s' c hm hc hS' => ?_
  · have hi : i < ns.length := by rw [← hisz]; exact (Array.getElem?_eq_some_iff.mp hv).1
    have key : ∀ {us : List Value} {ms : List Int}, IntsAre us ms → ∀ (i : Nat) (v : Value), us[i]? = some v → ∃ k t, ms[i]? = some k ∧ v = .int k t := by
      intro us ms hI
      induction hI with
      | nil => intro i v e; simp at e
      | cons k t _ ih =>
        intro i v e
        cases i with
        | zero => simp at e; exact ⟨k, t, rfl, e.symm⟩
        | succ i =>
          obtain ⟨k', t', h1, h2⟩ := ih i v (by simpa using e)
          exact ⟨k', t', by simpa using h1, h2⟩
    exact key hit i v (by rw [Array.getElem?_toList]; exact hv)
  · rw [hisz] at hc
    refine hR s' hm ⟨c, hc, hS'⟩ fun b o e => ?_
    refine hm.heap b o (fun hb' => ?_) (hkp b o e)
    rcases List.mem_cons.mp hb' with z | z
    · rw [z, hS0] at e; cases e
    · rw [hw b z] at e; cases e
end
section
variable {X : Cx}
/-- set(xs) of ints, a list or a tuple -/
def rSetI (K : PySem.W.Frag) (w : World) : List V → Hp → VK → Prop := fun vs H Q => ∃ (a : Addr) (ns : List Int), vs = [V.ref a] ∧ (SqL K H a (ns.map V.int) ∨ SqT K H a (ns.map V.int)) ∧ ns.length + 1 < scanBound ∧
  ∀ p c, H p = none → Q (.ref p) (upd H p (SetO w p (fun j => decide (j ∈ ns)) c))
theorem ints_vals : ∀ {ns : List Int} {us : List Value}, Vals (ns.map V.int) us → IntsAre us ns
  | [], _, .nil => .nil
  | n :: ns, _, .cons r t => by
    obtain ⟨tk, rfl⟩ := r
    exact .cons n tk (ints_vals t)
theorem cr_setI (hc : X.calm = true) : CallR X (.type "set") (rSetI X.K X.w) := by
  intro pins s σ H vs us Q I r h
  obtain ⟨a, ns, rfl, hq, hb, q⟩ := h
  obtain ⟨u, rfl, ru⟩ := vals1 r
  cases ru
  have fin : ∀ (h' : Heap) (tk c : Nat), SetR X.w h' s.heap.objs.size (fun j => decide (j ∈ ns)) c → c ≤ ns.length → (∀ b o, s.heap.get? b = some o → h'.get? b = some o) → EP X pins σ Q (.ref s.heap.objs.size) { s with heap := h', toks := tk } := fun h' tk c R _ k =>
    ⟨.ref _, upd H s.heap.objs.size (SetO X.w s.heap.objs.size (fun j => decide (j ∈ ns)) c), I.laid (t' := tk) k (Nat.le_refl _) (setO_new R), rfl, q _ c (I.hok.fresh (Nat.le_refl _))⟩
  rcases hq with hq | hq
  · obtain ⟨its, rv, p, _⟩ := I.list hq
    exact set_ints ns (I.ok.hd hc) p.isList (by simpa using ints_vals rv) hb fin
  · obtain ⟨its, rv, p, _⟩ := I.tuple hq
    exact call_set_tupI ns (I.ok.hd hc) p (by simpa using ints_vals rv) hb fin
/-- set(xs), a list of tuples of ints -/
def rSetTs (K : PySem.W.Frag) (P : Program) (w : World) : List V → Hp → VK → Prop := fun xs H Q => ∃ (l : Addr) (ks : List (Addr × List Int)), xs = [V.ref l] ∧ SqL K H l (ks.map fun p => V.ref p.1) ∧ (∀ p ∈ ks, SqT K H p.1 (p.2.map V.int)) ∧
  (∀ L : List (Addr × List Int), (∀ p ∈ L, p ∈ ks) → (L.map (·.2)).Nodup → L.length + 1 < 64) ∧
  ∀ a L, H a = none → (∀ p ∈ L, p ∈ ks) → (∀ p ∈ ks, p.2 ∈ L.map (·.2)) → (L.map (·.2)).Nodup → Q (.ref a) (upd H a (SetTO P w a L))
theorem cr_setTs (hc : X.calm = true) (hu : X.A.units + 64 < cLine) : CallR X (.type "set") (rSetTs X.K X.prog X.w) := by
  intro pins s σ H xs us Q I r h
  obtain ⟨l, ks, rfl, hl, hk, hf, q⟩ := h
  rw [Vals.ref1 r]
  obtain ⟨its, rv, pl, hz⟩ := I.list hl
  have hn : H s.heap.objs.size = none := I.hok.fresh (Nat.le_refl _)
  refine set_tups (P := X.prog) (w := X.w) ks (I.ok.hd hc) pl.isList (by simpa using refs_of_vals rv) (fun p hp => I.isT (hk p hp)) hf (by omega) fun h' tk L es ep t R g k => ?_
  refine ⟨.ref s.heap.objs.size, upd H s.heap.objs.size (SetTO X.prog X.w s.heap.objs.size L), I.laid (t' := tk) k (Nat.le_refl _) (setTO_new R.t0), rfl, q _ L hn (fun p hp => ?_) (fun p hp => ?_) R.nd⟩
  · exact List.mem_of_mem_take (g.sub p hp)
  · exact g.all p (by rw [List.take_length]; exact hp)
/-- sorted(set of ints) -/
def rSortedSI (K : PySem.W.Frag) (w : World) : List V → Hp → VK → Prop := fun vs H Q => ∃ (a : Addr) (S : Int → Bool) (n : Nat), vs = [V.ref a] ∧ H a = some (SetO w a S n) ∧
  ∀ ks : List Int, ks.Nodup → (∀ k, k ∈ ks ↔ S k = true) → SrtArg K H (ks.map V.int) (ks.map PyData.int) ∧ ∀ p, H p = none → Q (.ref p) (upd H p (.lst (srtV (ks.map V.int) (ks.map PyData.int))))
theorem cr_sortedSI (hc : X.calm = true) (hu : X.A.units + 65 < cLine) : CallR X (.builtin "sorted") (rSortedSI X.K X.w) := by
  intro pins s σ H vs us Q I r h
  obtain ⟨a, S, n, rfl, ha, q⟩ := h
  rw [Vals.ref1 r]
  obtain ⟨o, es, ep, t, h1, h2, h3, h4, h5, h6, h7, h8, h9, h10, h11⟩ := setO_get I ha
  refine sorted_col I hu fun Qc E' hcc => ?_
  refine collect_set (I.ok.hd hc) ⟨o, h1, h2.1, h3⟩ h8 h7 h10 h11 fun s' out k _ g o' pm => ?_
  -- the values in their order are keys in that order
  have ex : ∃ ks : List Int, ks.Perm (es.toList.map keyOf) ∧ Vals (ks.map V.int) out := by
    have gv : ∀ v ∈ es.toList.map (·.2), ∃ k tk, v = Value.int k tk := fun v hv => by
      obtain ⟨e, he, rfl⟩ := List.mem_map.mp hv
      obtain ⟨k, tk, e1, _⟩ := h4 e he
      exact ⟨k, tk, e1⟩
    have hr : ∀ e ∈ es.toList, keyOf e = Builtin.Re.reRawOf e.2 := fun e he => by
      obtain ⟨k, tk, e1, _⟩ := h4 e he
      unfold keyOf
      rw [e1]; rfl
    refine ⟨out.map Builtin.Re.reRawOf, ?_, ?_⟩
    · refine (pm.map Builtin.Re.reRawOf).trans ?_
      rw [List.map_map]
      exact List.Perm.of_eq (List.map_congr_left fun e he => (hr e he).symm)
    · have : ∀ (l : List Value), (∀ v ∈ l, ∃ k tk, v = Value.int k tk) → Vals ((l.map Builtin.Re.reRawOf).map V.int) l := by
        intro l
        induction l with
        | nil => intro _; exact .nil
        | cons v l ih =>
          intro hl
          obtain ⟨k, tk, rfl⟩ := hl v (.head _)
          exact .cons ⟨tk, rfl⟩ (ih fun u hu => hl u (.tail _ hu))
      exact this out fun v hv => gv v (pm.mem_iff.mp hv)
  obtain ⟨ks, pk, hv⟩ := ex
  obtain ⟨SA, q2⟩ := q ks (pk.nodup_iff.mpr h5) fun k => by rw [pk.mem_iff, h6]
  exact hcc s' out _ _ ⟨k, g, o'⟩ hv SA q2
/-- sorted(set of tuples of ints) -/
def rSortedST (K : PySem.W.Frag) (P : Program) (w : World) : List V → Hp → VK → Prop := fun vs H Q => ∃ (a : Addr) (L : List (Addr × List Int)), vs = [V.ref a] ∧ H a = some (SetTO P w a L) ∧ (∀ p ∈ L, SqT K H p.1 (p.2.map V.int)) ∧
  ∀ L' : List (Addr × List Int), L'.Perm L → SrtArg K H (L'.map fun p => V.ref p.1) (L'.map fun p => PyData.tuple (p.2.map PyData.int)) ∧
    ∀ p, H p = none → Q (.ref p) (upd H p (.lst (srtV (L'.map fun p => V.ref p.1) (L'.map fun p => PyData.tuple (p.2.map PyData.int)))))
theorem cr_sortedST (hc : X.calm = true) (hu : X.A.units + 65 < cLine) : CallR X (.builtin "sorted") (rSortedST X.K X.prog X.w) := by
  intro pins s σ H vs us Q I r h
  obtain ⟨a, L, rfl, ha, hk, q⟩ := h
  rw [Vals.ref1 r]
  have R0 : SetT0 X.prog X.w s.heap a L := (I.hok a _ ha).1
  obtain ⟨es, ep, t, R⟩ := R0.full fun p hp => I.isT (hk p hp)
  obtain ⟨o, ho, hex, hd⟩ := R.ob
  have hsz := R.size
  have hfew := R.few
  refine sorted_col I hu fun Qc E' hcc => ?_
  refine collect_set (I.ok.hd hc) ⟨o, ho, hex.1, hd⟩ R.fits (by unfold scanBound; omega) R.tab.ris R.led fun s' out k _ g o' pm => ?_
  have hes : es.toList.map (·.2) = L.map fun q => Value.ref q.1 := by
    rw [R.rows]
    unfold rowsOf
    rw [List.map_map] <;> rfl
  rw [hes] at pm
  have one : ∀ q ∈ L, ∀ r ∈ L, q.1 = r.1 → q = r := fun q hq r hr e => by
    have a1 := R.tup q hq
    have a2 := R.tup r hr
    rw [e] at a1
    exact Prod.ext e (a1.inj a2)
  have ord : ∀ vs : List Value, (∀ v ∈ vs, ∃ q ∈ L, v = Value.ref q.1) → ∃ L1 : List (Addr × List Int), vs = L1.map (fun q => Value.ref q.1) ∧ ∀ q ∈ L1, q ∈ L := by
    intro vs
    induction vs with
    | nil => intro _; exact ⟨[], rfl, fun q hq => (by cases hq)⟩
    | cons v vs ih =>
      intro hv
      obtain ⟨q, hq, e⟩ := hv v List.mem_cons_self
      obtain ⟨L1, e1, hs⟩ := ih fun u hu => hv u (List.mem_cons_of_mem _ hu)
      refine ⟨q :: L1, by rw [List.map_cons, e, e1], fun r hr => ?_⟩
      rcases List.mem_cons.mp hr with z | z
      · rw [z]; exact hq
      · exact hs r z
  obtain ⟨L', e', hs'⟩ := ord out fun v hv => by
    obtain ⟨q, hq, e⟩ := List.mem_map.mp (pm.mem_iff.mp hv)
    exact ⟨q, hq, e.symm⟩
  have pL : L'.Perm L := by
    rw [e'] at pm
    have nL : L.Nodup := nodup_of_map R.nd
    have nref : (L.map fun q => Value.ref q.1).Nodup := by
      refine List.pairwise_map.mpr (List.Pairwise.imp_of_mem (fun {q r} hq hr hne e => ?_) nL)
      injection e with e
      exact hne (one q hq r hr e)
    have n1 : L'.Nodup := nodup_of_map (pm.nodup_iff.mpr nref)
    refine (List.perm_ext_iff_of_nodup n1 nL).mpr fun q => ⟨hs' q, fun hq => ?_⟩
    have hm : Value.ref q.1 ∈ L'.map (fun q => Value.ref q.1) := pm.mem_iff.mpr (List.mem_map.mpr ⟨q, hq, rfl⟩)
    obtain ⟨r, hr, e⟩ := List.mem_map.mp hm
    injection e with e
    rw [← one r (hs' r hr) q hq e]
    exact hr
  obtain ⟨SA, q2⟩ := q L' pL
  exact hcc s' out _ _ ⟨k, g, o'⟩ (by rw [e']; exact vals_of_refs L') SA q2
end
end VI

set_option Elab.async false
set_option linter.all false
set_option maxRecDepth 100000
set_option maxHeartbeats 1000000
/-! VD, part 9: x[::-1] of a tuple; x is True -/
namespace VI
open PySem PySem.Spec PyProof.Rows L2 PySem.Calls
section
variable {prog : Program} {w : World} {A : Around} {E : Value → Shared → Prop} {s : Shared}
theorem places_rev (n : Nat) : Builtin.Slice.slicePlaces ((n : Int) - 1) (-1) (-1) = n := by
  unfold Builtin.Slice.slicePlaces
  rw [if_neg (by decide)]
  by_cases h : (n : Int) - 1 > -1
  · rw [if_pos h]
    have : ((n : Int) - 1 - -1 - 1) / (- -1) + 1 = (n : Int) := by
      rw [show (- -1 : Int) = 1 by decide, Int.ediv_one]
      omega
    rw [this]; exact Int.toNat_natCast n
  · rw [if_neg h]
    have : n = 0 := by omega
    subst this; rfl
theorem pick_rev (xs : Array Value) : ((List.range xs.size).filterMap fun (k : Nat) => xs[(((xs.size : Int) - 1) + (k : Int) * (-1)).toNat]?).toArray = xs.toList.reverse.toArray := by
  have h : ∀ (l : List Value), (List.range l.length).filterMap (fun (k : Nat) => l[(((l.length : Int) - 1) + (k : Int) * (-1)).toNat]?) = l.reverse := by
    intro l
    have e1 : (List.range l.length).filterMap (fun (k : Nat) => l[(((l.length : Int) - 1) + (k : Int) * (-1)).toNat]?) = (List.range l.length).filterMap (fun (k : Nat) => l.reverse[k]?) := by
      have key : ∀ (r : List Nat), (∀ k ∈ r, k < l.length) → r.filterMap (fun (k : Nat) => l[(((l.length : Int) - 1) + (k : Int) * (-1)).toNat]?) = r.filterMap (fun (k : Nat) => l.reverse[k]?) := by
        intro r
        induction r with
        | nil => intro _; rfl
        | cons k r ih =>
          intro hr
          have hk := hr k (.head _)
          have e : (((l.length : Int) - 1) + (k : Int) * (-1)).toNat = l.length - 1 - k := by omega
          rw [List.filterMap_cons, List.filterMap_cons, ih fun j hj => hr j (.tail _ hj), e, List.getElem?_reverse hk]
      exact key _ fun k hk => List.mem_range.mp hk
    rw [e1]
    have e2 : ∀ (m : List Value), (List.range m.length).filterMap (fun (k : Nat) => m[k]?) = m := by
      intro m
      induction m with
      | nil => rfl
      | cons x m ih =>
        rw [List.length_cons, List.range_succ_eq_map, List.filterMap_cons]
        simp only [List.getElem?_cons_zero]
        rw [List.filterMap_map]
        congr 1
    have := e2 l.reverse
    rwa [List.length_reverse] at this
  have := h xs.toList
  rw [Array.length_toList] at this
  rw [← this]
  congr 2
  funext k
  rw [Array.getElem?_toList]
theorem getItem_tuple_rev {t sl : Addr} {items : Array Value} {vs : Value} {Q : Value → Shared → Prop} (ht : IsTup s.heap t items) (hs : s.heap.IsSliceOf sl .none .none vs) (ps : IsPart vs (some (-1)))
    (h : Q (.ref s.heap.objs.size) { s with heap := s.heap.push { cls := .type "tuple", data := .seq items.toList.reverse.toArray } }) (hsz : items.size ≤ sizeLine) : wpAny (model prog w) A (getItem (.ref t) (.ref sl)) Q E s := by
  obtain ⟨os, hos, hcs, hds⟩ := id hs
  have hTs : s.TypeIs (.ref sl) "slice" := ⟨os, hos, hcs⟩
  have htake : sizeOk (.seq items.toList.reverse.toArray) := by
    show items.toList.reverse.toArray.size ≤ sizeLine
    rw [List.size_toArray, List.length_reverse, Array.length_toList]; exact hsz
  unfold getItem
  try with_reducible refine wpAny_holding ?_
  first | refine wpAny_bind (wpAny_pure ?_) | skip
  refine wpAny_bind (wpAny_sequenceKey ht.typeIs (by decide) ?_)
  refine wpAny_bind (wpAny_callSpecial?_slot (name := Str.ofString "__getitem__") ht.typeIs PyProof.Rows.slot_tuple_getitem
    (wpAny_call_entry PyProof.Rows.slot_tuple_getitem ht.typeIs entry_tuple_getitem ?_ (args_tuple_getitem _ _)))
  show wpAny _ _ (Builtin.Tuple.tupleItemsOf (.ref t) >>= _) _ _ s
  refine wpAny_bind (tupleItemsOf_ ht ?_)
  refine wpAny_bind (wpAny_typeOf hTs ?_)
  rw [if_pos (by decide)]
  refine wpAny_bind ?_
  unfold Builtin.Slice.sliceApplied Builtin.Slice.sliceFields
  refine wpAny_bind (wpAny_bind (wpAny_field hos hds (x := .none) rfl (wpAny_bind (wpAny_field hos hds (x := .none) rfl (wpAny_bind (wpAny_field hos hds (x := vs) rfl (wpAny_pure ?_)))))))
  refine wpAny_bind (HT.slicePart_ ps ?_)
  show wpAny _ _ (if ((-1 : Int) == 0) = true then _ else _) _ _ s
  rw [if_neg (by decide)]
  refine wpAny_bind (slicePart_none (wpAny_bind (slicePart_none (wpAny_bind (wpAny_pure ?_)))))
  show wpAny _ _ (pure ((items.size : Int) - 1, (-1 : Int), Builtin.Slice.slicePlaces ((items.size : Int) - 1) (-1) (-1))) _ _ s
  rw [places_rev]
  refine wpAny_pure ?_
  have hno : ¬ ((((items.size : Int) - 1) == 0 && (-1 : Int) == 1 && items.size == items.size) = true) := by simp
  show wpAny _ _ (if (((items.size : Int) - 1) == 0 && (-1 : Int) == 1 && items.size == items.size) = true then _ else _) _ _ s
  rw [if_neg hno, pick_rev]
  first
    | exact wpAny_bind (m := Builtin.Tuple.tupleExact _) (wpAny_newObj_type (wpAny_pure ⟨_, rfl, wpAny_pure h⟩) htake)
    | exact wpAny_bind (m := Builtin.Tuple.tupleExact _) (wpAny_newObj_type (wpAny_bind (wpAny_pure (wpAny_pure ⟨_, rfl, wpAny_pure h⟩))) htake)
    | exact wpAny_bind (wpAny_bind (m := Builtin.Tuple.tupleExact _) (wpAny_newObj_type (wpAny_pure (wpAny_pure ⟨_, rfl, wpAny_pure h⟩)) htake))
    | exact wpAny_bind (wpAny_bind (m := Builtin.Tuple.tupleExact _) (wpAny_newObj_type (wpAny_pure ⟨_, rfl, wpAny_pure h⟩) htake))
end
section
variable {X : Cx}
/-- xs[::-1], a list or a tuple -/
def rRev (K : PySem.W.Frag) (x : V) (H1 : Hp) (Q : VK) : Prop := ∃ a xs, x = .ref a ∧ ((SqL K H1 a xs ∧ ∀ p, H1 p = none → Q (.ref p) (upd H1 p (.lst xs.reverse))) ∨ (SqT K H1 a xs ∧ ∀ p, H1 p = none → Q (.ref p) (upd H1 p (.tup xs.reverse))))
def tRevA (K : PySem.W.Frag) (te : TE) : TE := fun σ H Q => te σ H fun x H1 => rRev K x H1 Q
theorem pe_revA {e : Expr} {te : TE} {k : Nat} {p1 p2 p3 pos : Pos} (he : PE X e te) : PE X (.Subscript e (.Slice none none (some (.UnaryOp .USub (.Constant (.int 1) k p1) p2)) p3) pos) (tRevA X.K te) := by
  refine ⟨fun pins s σ H Q I h => ?_⟩
  refine Subscript_ (thn (he.run pins s σ H _ I h) fun v s1 ⟨x, H1, I1, r1, q1⟩ => ?_)
  obtain ⟨a, xs, ex, q1⟩ := q1
  subst ex
  cases r1
  have hst : PO X (some (.UnaryOp .USub (.Constant (.int 1) k p1) p2)) (tPart (tUn (rU fun i => .int (-i)) (tC (.int 1)))) := po_some (pe_un un_neg pe_int)
  refine wpAny_Slice (thn (po_none.run pins s1 σ H1 (fun o H2 => o = none ∧ H2 = H1) I1 ⟨rfl, rfl⟩) fun vl s2 ⟨l, H2, I2, pl, el, e2⟩ => ?_)
  subst el e2
  refine thn (po_none.run pins s2 σ H2 (fun o H3 => o = none ∧ H3 = H2) I2 ⟨rfl, rfl⟩) fun vu s3 ⟨u, H3, I3, pu, eu, e3⟩ => ?_
  subst eu e3
  refine thn (hst.run pins s3 σ H3 (fun o H4 => o = some (-1) ∧ H4 = H3) I3 ⟨1, rfl, -1, rfl, rfl, rfl⟩) fun vs s4 ⟨o, H4, I4, ps, eo, e4⟩ => ?_
  subst eo e4
  have I5 : Inv X pins σ H4 { s4 with heap := s4.heap.push { cls := .type "slice", data := .fields #[vl, vu, vs] } } := I4.kept (t' := s4.toks) fun b ob q => Heap.get?_push_of_some _ q
  show wpAny (model X.prog X.w) X.A (subscriptTail e (.Slice none none (some (.UnaryOp .USub (.Constant (.int 1) k p1) p2)) p3) (.ref a) (.ref s4.heap.objs.size)) (EP X pins σ Q) X.xe { s4 with heap := s4.heap.push { cls := .type "slice", data := .fields #[vl, vu, vs] } }
  rcases q1 with ⟨hx, q⟩ | ⟨hx, q⟩
  · obtain ⟨its, r, ht, hz⟩ := I5.list hx
    have hlen := r.length
    refine tail_any (ops := [.ref a, .ref s4.heap.objs.size]) ht.isList.typeIs (PySem.slot_list_getitem.lookup) ?_ (by with_unfolding_all rfl)
    refine wpAny_getItem_list_slice ht.isList (Heap.IsSliceOf.new _ vl vu vs) pl pu ps (by decide) ?_ (by rw [List.size_toArray]; omega)
    rw [PySem.W.krv_pick]
    refine ⟨.ref _, _, I5.laid (t' := s4.toks) (o := .lst xs.reverse) (fun b ob q => Heap.get?_push_of_some _ q) (Nat.le_refl _) ?_, rfl, q _ (I5.hok.fresh (Nat.le_refl _))⟩
    exact ⟨by rw [List.length_reverse]; exact hz, _, 0, r.reverse, Heap.get?_push_size _ rfl⟩
  · obtain ⟨its, r, ht, hz⟩ := I5.tuple hx
    have hlen := r.length
    cases pl
    cases pu
    refine tail_any (ops := [.ref a, .ref s4.heap.objs.size]) ht.typeIs PyProof.Rows.slot_tuple_getitem.lookup ?_ (by with_unfolding_all rfl)
    refine getItem_tuple_rev ht (Heap.IsSliceOf.new _ .none .none vs) ps ?_ (by rw [List.size_toArray]; omega)
    refine ⟨.ref _, _, I5.laid (t' := s4.toks) (o := .tup xs.reverse) (fun b ob q => Heap.get?_push_of_some _ q) (Nat.le_refl _) ?_, rfl, q _ (I5.hok.fresh (Nat.le_refl _))⟩
    exact ⟨by rw [List.length_reverse]; exact hz, _, by simpa using r.reverse, IsTup.new _ _⟩
/-! ### x is True -/
def tIsB (b : Bool) (ta : TE) : TE := fun σ H Q => ta σ H fun x H1 => ∃ c, x = .bl c ∧ Q (.bl (b == c)) H1
theorem pc_isB {a : Expr} {ta : TE} {b : Bool} {j : Nat} {pos' : Pos} (ha : PE X a ta) : PC X .Is a (.Constant (.bool b) j pos') (tIsB b ta) := by
  refine ⟨fun pins s σ H Q I h => ?_⟩
  refine thn (ha.run pins s σ H _ I h) fun v s1 ⟨x, H1, I1, r1, c, e, q1⟩ => ?_
  subst e
  cases r1
  refine Constant_bool ?_
  refine wpAny_is_plain (by rfl) ⟨.bl (b == c), H1, I1, ?_, q1⟩
  show Value.bool (Value.bool c == Value.bool b) = Value.bool (b == c)
  cases b <;> cases c <;> rfl
end
end VI

set_option Elab.async false
set_option linter.all false
set_option maxRecDepth 100000
/-! VI, part 1: the data, the small language, its evaluator. Plain Lean; the program's rows come in later. -/
namespace VI
open PySem

/-! ### data -/
inductive D where
  | non
  | bl (b : Bool)
  | int (i : Int)
  | str (x : Str)
  | tup (xs : List D)
  | lst (xs : List D)
  | dct (kvs : List (D × D))
  | fn (f : Nat)
  | obj (n : Nat)
  | scr (ns : List Int)

def lim : Nat := 16777216

mutual
def D.eqv : D → D → Bool
  | .non, .non => true
  | .bl a, .bl b => a == b
  | .bl a, .int j => (if a then 1 else 0) == j
  | .int i, .bl b => i == (if b then 1 else 0)
  | .int i, .int j => i == j
  | .str x, .str y => x == y
  | .lst xs, .lst ys => D.eqvs xs ys
  | .tup xs, .tup ys => D.eqvs xs ys
  | _, _ => false
def D.eqvs : List D → List D → Bool
  | [], [] => true
  | x :: xs, y :: ys => D.eqv x y && D.eqvs xs ys
  | _, _ => false
end

/-- plain data of a depth -/
def D.ok : Nat → D → Bool
  | _, .non => true
  | _, .bl _ => true
  | _, .int _ => true
  | _, .str x => PyData.strOk x
  | n + 1, .lst xs => xs.all (D.ok n)
  | n + 1, .tup xs => xs.all (D.ok n)
  | _, _ => false
def dpt : Nat := 12
/-- what can be part of a key: None, ints, texts, tuples of these -/
def D.kok : Nat → D → Bool
  | _, .non => true
  | _, .int _ => true
  | _, .str _ => true
  | n + 1, .tup xs => xs.all (D.kok n)
  | _, _ => false

def D.truth : D → Option Bool
  | .non => some false
  | .bl b => some b
  | .int i => some (i != 0)
  | .str x => if x.length ≤ lim then some ((x.length : Int) != 0) else none
  | .tup xs => some (!xs.isEmpty)
  | .lst xs => some (!xs.isEmpty)
  | _ => none

/-! ### operators -/
inductive Bop where | add | sub | mul | fdiv | mod | pow
  deriving DecidableEq
inductive Cop where | lt | le | gt | ge | eq | ne | isin | notin
  deriving DecidableEq
inductive Ty where | int | bool | str | tuple | list
  deriving DecidableEq

def guardO (b : Bool) (x : Option D) : Option D := if b then x else none
def smallI (i : Int) : Bool := decide (-(2 ^ 64) < i) && decide (i < 2 ^ 64)
def okMul (i j : Int) : Bool := smallI i || smallI j || decide (i.natAbs.log2 + j.natAbs.log2 < 900000)
def okDiv (j : Int) : Bool := decide (0 < j) && decide (j.natAbs.log2 < 8000)
def D.bin : Bop → D → D → Option D
  | .add, .int i, .int j => some (.int (i + j))
  | .add, .str x, .str y => guardO (decide (x.length + y.length ≤ lim)) (some (.str (x ++ y)))
  | .add, .tup xs, .tup ys => guardO (decide (xs.length + ys.length ≤ lim)) (some (.tup (xs ++ ys)))
  | .add, .lst xs, .lst ys => guardO (decide (xs.length + ys.length ≤ lim)) (some (.lst (xs ++ ys)))
  | .sub, .int i, .int j => some (.int (i - j))
  | .mul, .int i, .int j => guardO (okMul i j) (some (.int (i * j)))
  | .mul, .lst xs, .int k => guardO (decide (0 ≤ k) && decide (k ≤ 1000) && decide (xs.length ≤ 1000)) (some (.lst (List.replicate k.toNat xs).flatten))
  | .mul, .tup xs, .int k => guardO (decide (1 ≤ k) && decide (k ≤ 1000) && decide (xs.length ≤ 1000) && !xs.isEmpty) (some (.tup (List.replicate k.toNat xs).flatten))
  | .fdiv, .int i, .int j => guardO (okDiv j) (some (.int (i / j)))
  | .mod, .int i, .int j => guardO (decide (0 < j)) (some (.int (i % j)))
  | .pow, .int i, .int j => guardO (decide (0 ≤ j) && decide (j ≤ 1000000) && decide (i.natAbs < 2 ^ 64)) (some (.int (i ^ j.toNat)))
  | _, _, _ => none

def D.cmpI (o : Cop) (i j : Int) : Option Bool := match o with
  | .lt => some (decide (i < j))
  | .le => some (decide (i ≤ j))
  | .gt => some (decide (j < i))
  | .ge => some (decide (j ≤ i))
  | _ => none
def D.cmpEq (a b : D) : Option Bool := if D.ok dpt a && D.ok dpt b then some (D.eqv a b) else match a, b with
  | .dct kvs, .dct [] => some kvs.isEmpty
  | _, _ => none
/-- is a sign in a text -/
def signIn (c z : Str) : Option Bool := match c.cps.toList with
  | [n] => some (decide (n ∈ z.cps.toList))
  | _ => none
def D.inSeq (x : D) (ys : List D) : Option Bool := if D.ok dpt x && D.ok dpt (.lst ys) then some (ys.any fun y => D.eqv y x) else none
def dget (kvs : List (D × D)) (k : D) : Option D := (kvs.find? fun p => D.eqv p.1 k).map (·.2)
/-- a key that is a tuple of ints, texts, tuples of these -/
def D.key (k : D) : Bool := match k with
  | .tup _ => D.kok 6 k
  | _ => false
def D.isIn (a b : D) : Option Bool := match a, b with
  | x, .lst ys => D.inSeq x ys
  | x, .tup ys => D.inSeq x ys
  | .str c, .str z => signIn c z
  | k, .dct kvs => if D.key k then some (dget kvs k).isSome else none
  | _, _ => none
def D.cmp (o : Cop) (a b : D) : Option Bool := match o with
  | .eq => D.cmpEq a b
  | .ne => (D.cmpEq a b).map not
  | .isin => D.isIn a b
  | .notin => (D.isIn a b).map not
  | o => match a, b with
    | .int i, .int j => D.cmpI o i j
    | _, _ => none

/-- items by place, negative ones from behind -/
def D.ix : D → D → Option D
  | .tup xs, .int i => L2.atI xs i
  | .lst xs, .int i => L2.atI xs i
  | .dct kvs, k => if D.key k then dget kvs k else none
  | .scr ns, .int i => (L2.atI ns i).map .int
  | _, _ => none
def cut {α : Type} (xs : List α) (lo hi : Option Int) : List α := (xs.drop (HT.sIx xs.length 0 lo)).take (HT.sIx xs.length xs.length hi - HT.sIx xs.length 0 lo)
def D.sl : D → Option Int → Option Int → Option D
  | .tup xs, lo, hi => some (.tup (cut xs lo hi))
  | .lst xs, lo, hi => some (.lst (cut xs lo hi))
  | .str x, lo, hi => if x.length ≤ lim then some (.str (L2.cutS x lo hi)) else none
  | _, _, _ => none
def D.rev : D → Option D
  | .lst xs => some (.lst xs.reverse)
  | .tup xs => some (.tup xs.reverse)
  | _ => none

def D.isTy : Ty → D → Option Bool
  | _, .dct _ => some false
  | _, .fn _ => none
  | _, .obj _ => none
  | _, .scr _ => none
  | .int, .int _ => some true
  | .int, .bl _ => some true
  | .bool, .bl _ => some true
  | .str, .str _ => some true
  | .tuple, .tup _ => some true
  | .list, .lst _ => some true
  | _, _ => some false

/-! ### sorting -/
def intsL : List D → Option (List Int)
  | [] => some []
  | .int i :: r => (intsL r).map (i :: ·)
  | _ => none
def strsL : List D → Option (List Str)
  | [] => some []
  | .str x :: r => (strsL r).map (x :: ·)
  | _ => none
/-- put in at its place, behind its equals' left ones -/
def insB {α : Type} (lt : α → α → Bool) (x : α) : List α → List α
  | [] => [x]
  | y :: ys => if lt y x then y :: insB lt x ys else x :: y :: ys
def isortB {α : Type} (lt : α → α → Bool) : List α → List α
  | [] => []
  | x :: xs => insB lt x (isortB lt xs)
mutual
def toPy : D → PyData
  | .non => .none
  | .bl b => .bool b
  | .int i => .int i
  | .str x => .str x
  | .tup ds => .tuple (toPys ds)
  | .lst ds => .list (toPys ds)
  | .dct _ => .none
  | .fn _ => .none
  | .obj _ => .none
  | .scr _ => .none
def toPys : List D → List PyData
  | [] => []
  | d :: ds => toPy d :: toPys ds
end
/-- data in order -/
def ltD (d e : D) : Bool := PySem.W.dataLt (toPy d) (toPy e)
def okSortB (xs : List D) : Bool := xs.all (D.ok dpt) && ((xs.all fun x => xs.all fun y => PySem.W.alike (toPy x) (toPy y)) && ((xs.all fun x => match x with
  | .tup (_ :: _) => true
  | _ => false) || xs.all fun x => match x with
  | .non => false
  | .tup _ => false
  | _ => true))
def sortD (xs : List D) : Option D := if okSortB xs then some (.lst (isortB ltD xs)) else none
def maxI : List Int → Option Int
  | [] => none
  | [i] => some i
  | i :: j :: r => (maxI (j :: r)).map fun m => if m > i then m else i

/-- each once, the first one of equals -/
def nubD : List D → List D
  | [] => []
  | x :: xs => x :: (nubD xs).filter fun y => !D.eqv x y
/-- what sorted(set(..)) takes: ints alone, or tuples of ints alone, fewer than 63 in all -/
def okSet (xs : List D) : Bool := ((xs.all fun x => match x with
  | .int _ => true
  | _ => false) || xs.all fun x => match x with
  | .tup ys => (intsL ys).isSome && !ys.isEmpty
  | _ => false) && (decide ((nubD xs).length < 63) && decide (xs.length < 4000))
def setD (xs : List D) : Option D := if okSet xs then sortD (nubD xs) else none

/-! ### the small language -/
inductive Bl1 where | len | abs | int | bool | str | sum | max | sorted | sortedSet | tuple | list | dict
  deriving DecidableEq
inductive Pat where
  | one (i : Nat)
  | many (is : List Nat)
def Pat.slots : Pat → List Nat
  | .one i => [i]
  | .many is => is

mutual
inductive E where
  | var (i : Nat)
  | bor (i : Nat)
  | bor2 (i : Nat)
  | glob (x : Nat)
  | int (i : Int)
  | bl (b : Bool)
  | str (x : Str)
  | non
  | tup (es : Es)
  | lst (es : Es)
  | dct (ks vs : Es)
  | bin (o : Bop) (a b : E)
  | neg (a : E)
  | not (a : E)
  | and (a b : E)
  | or (a b : E)
  | ite (c a b : E)
  | cmp (o : Cop) (a b : E)
  | chain (o o' : Cop) (a b c : E)
  | chain3 (o o' o'' : Cop) (a b c d : E)
  | isn (a : E)
  | notn (a : E)
  | ist (a : E) (b : Bool)
  | isi (a : E) (ts : List Ty)
  | call (f : Nat) (es : Es)
  | blt (b : Bl1) (a : E)
  | rng (a : E)
  | cnt (a x : E)
  | idx (a x : E)
  | get (d k x : E)
  | skeys (d : E)
  | lvals (d : E)
  | ix (a i : E)
  | sl (a : E) (lo hi : Eo)
  | rev (a : E)
  | comp (p : Pat) (it : It) (c : Eo) (e : E)
inductive Es where
  | nil
  | cons (e : E) (es : Es)
inductive Eo where
  | none
  | some (e : E)
inductive It where
  | seq (e : E)
  | rng1 (a : E)
  | rng2 (a b : E)
  | enum (e : E)
  | zip (a b : E)
  | keys (e : E)
  | vals (e : E)
end

mutual
inductive S where
  | set (i : Nat) (e : E)
  | own (i : Nat) (e : E)
  | own2 (i : Nat)
  | newo (i : Nat) (es : Es)
  | unp (is : List Nat) (e : E)
  | par (is : List (Nat × Nat)) (es : Es)
  | putset (i : Nat) (k a : E) (j : Nat) (b : E)
  | app (i : Nat) (e : E)
  | app2 (i : Nat)
  | appi (i : Nat) (j : E) (e : E)
  | put (i : Nat) (k v : E)
  | aug (i : Nat) (o : Bop) (e : E)
  | ex (e : E)
  | ite (c : E) (a b : Ss)
  | for_ (p : Pat) (it : It) (b : Ss)
  | while_ (c : E) (b : Ss)
  | ret (e : E)
  | retN
  | brk
  | pass
  | stk
  | raise_ (c : Nat) (e : Eo)
  | tryset (i : Nat) (e : E) (j : Nat) (c : Nat) (c2 : Nat) (a : E)
inductive Ss where
  | nil
  | cons (s : S) (ss : Ss)
  | frz (is : List Nat) (ss : Ss)
  | frz1 (i : Nat) (ss : Ss)
end

/-! ### results -/
inductive Obj where
  | cells (ds : List D)
  | inst (c : Nat) (fs : List (Nat × D))
abbrev Wd := List Obj
inductive Res (α : Type) where
  | ok (a : α) (w : Wd)
  | exn (c : Nat) (f : Option D) (w : Wd)
  | no
abbrev M (α : Type) := Wd → Res α
def ret {α : Type} (a : α) : M α := fun w => .ok a w
def stuck {α : Type} : M α := fun _ => .no
def bnd {α β : Type} (m : M α) (f : α → M β) : M β := fun w => match m w with
  | .ok a w => f a w
  | .exn c v w => .exn c v w
  | .no => .no
def lft {α : Type} (o : Option α) : M α := match o with
  | some a => ret a
  | none => stuck
/-- no exception leaves a comprehension's block -/
def shut {α : Type} (m : M α) : M α := fun w => match m w with
  | .ok a w => .ok a w
  | _ => .no

/-- what a slot holds: nothing, a value for good, a list (a list of lists, a dict) of the slot's own -/
inductive Sl where
  | no
  | fz (d : D)
  | ow (ds : List D)
  | ow2 (dss : List (List D))
  | od (kvs : List (D × D))
  | bo (ds : List D)
abbrev Env := List Sl
def Sl.toD : Sl → Option D
  | .fz d => some d
  | .ow ds => some (.lst ds)
  | .ow2 dss => some (.lst (dss.map .lst))
  | .od kvs => some (.dct kvs)
  | .bo _ => none
  | .no => none
/-- looked at, not handed on -/
def Sl.view : Sl → Option D
  | .fz d => some d
  | .ow ds => some (.lst ds)
  | .od kvs => some (.dct kvs)
  | .bo ds => some (.lst ds)
  | _ => none
def Sl.view2 : Sl → Option D
  | .fz d => some d
  | .ow2 dss => some (.lst (dss.map .lst))
  | _ => none
def Sl.freeze (s : Sl) : Sl := match s.toD with
  | some d => .fz d
  | none => .no
def look (env : Env) (i : Nat) : Option D := match env[i]? with
  | some (.fz d) => some d
  | _ => none
def lookB (env : Env) (i : Nat) : Option D := match env[i]? with
  | some s => s.view
  | none => none
def lookB2 (env : Env) (i : Nat) : Option D := match env[i]? with
  | some s => s.view2
  | none => none
def freeze1 (env : Env) (i : Nat) : Env := match env[i]? with
  | some s => env.set i s.freeze
  | none => env
def freezeAll (env : Env) : List Nat → Env
  | [] => env
  | i :: is => freezeAll (freeze1 env i) is
def wipeE (env : Env) : List Nat → Env
  | [] => env
  | i :: is => (wipeE env is).set i .no

def putAll (env : Env) : List Nat → List D → Option Env
  | [], [] => some env
  | i :: is, d :: ds => putAll (env.set i (.fz d)) is ds
  | _, _ => none
def bindP (p : Pat) (d : D) (env : Env) : Option Env := match p with
  | .one i => some (env.set i (.fz d))
  | .many is => match d with
    | .tup ds => putAll env is ds
    | _ => none

structure Glo where
  call : Nat → List D → M D
  glob : Nat → Option D
  fuel : Nat

/-! ### built-ins -/
def dput (kvs : List (D × D)) (k v : D) : List (D × D) := if kvs.any (fun p => D.eqv p.1 k) then kvs.map (fun p => if D.eqv p.1 k then (p.1, v) else p) else kvs ++ [(k, v)]
def dctD : List D → List D → Option D
  | [], [] => some (.dct [])
  | ks, vs => if ks.length = vs.length ∧ ks.all D.key then some (.dct ((ks.zip vs).foldl (fun acc p => dput acc p.1 p.2) [])) else none
def pairsL : List D → Option (List (D × D))
  | [] => some []
  | .tup [k, v] :: r => if D.key k then (pairsL r).map ((k, v) :: ·) else none
  | _ => none
def bl1 (b : Bl1) (d : D) : Option D := match b, d with
  | .len, .lst xs => some (.int xs.length)
  | .len, .tup xs => some (.int xs.length)
  | .len, .scr ns => some (.int ns.length)
  | .len, .str x => guardO (decide (x.length ≤ lim)) (some (.int x.length))
  | .abs, .int i => some (.int (if i < 0 then -i else i))
  | .int, .int i => some (.int i)
  | .int, .bl k => some (.int (if k then 1 else 0))
  | .bool, .int i => some (.bl (i != 0))
  | .bool, .bl k => some (.bl k)
  | .sum, .lst xs => (intsL xs).map fun ns => .int ns.sum
  | .max, .lst xs => (intsL xs).bind fun ns => (maxI ns).map .int
  | .sorted, .lst xs => sortD xs
  | .sorted, .tup xs => sortD xs
  | .sortedSet, .lst xs => setD xs
  | .sortedSet, .tup xs => if (intsL xs).isSome then setD xs else none
  | .tuple, .lst xs => some (.tup xs)
  | .tuple, .tup xs => some (.tup xs)
  | .list, .lst xs => some (.lst xs)
  | .list, .tup xs => some (.lst xs)
  | .dict, .lst xs => (pairsL xs).map fun ps => .dct (ps.foldl (fun acc p => dput acc p.1 p.2) [])
  | _, _ => none
def cntD (a x : D) : Option D := match a, x with
  | .lst ys, .int k => (intsL ys).map fun ns => .int (ns.count k : Nat)
  | _, _ => none
def firstAt (x : D) : List D → Option Nat
  | [] => none
  | y :: ys => if D.eqv y x then some 0 else (firstAt x ys).map (· + 1)
def idxD (a x : D) : Option D := match a with
  | .lst ys => if D.ok dpt x && D.ok dpt a then (firstAt x ys).map (fun (n : Nat) => D.int (n : Int)) else none
  | _ => none
def getD (d k x : D) : Option D := match d with
  | .dct kvs => if D.key k then some ((dget kvs k).getD x) else none
  | _ => none
def toI : D → Option Int
  | .int i => some i
  | _ => none
def rngL (lo hi : Int) : List D := (List.range (hi - lo).toNat).map fun (k : Nat) => D.int (lo + k)
def okRng (i : Int) : Bool := decide (-(2 ^ 62) ≤ i) && decide (i < 2 ^ 62)
def seqL : D → Option (List D)
  | .lst xs => some xs
  | .tup xs => some xs
  | _ => none
def enumL (n : Nat) : List D → List D
  | [] => []
  | x :: xs => .tup [.int n, x] :: enumL (n + 1) xs
def zipL : List D → List D → List D
  | x :: xs, y :: ys => .tup [x, y] :: zipL xs ys
  | _, _ => []

/-- a place of a tracked object, or of a value -/
def ixM (a i : D) : M D := match a with
  | .obj n => fun w => match w[n]?, i with
    | some (.cells ds), .int k => (match L2.atI ds k with
      | some d => .ok d w
      | none => .no)
    | _, _ => .no
  | a => lft (D.ix a i)

def mapM (f : D → M (Option D)) : List D → M (List D)
  | [] => ret []
  | x :: xs => bnd (f x) fun o => bnd (mapM f xs) fun ys => ret (match o with
    | some y => y :: ys
    | none => ys)

/-! ### evaluation -/
/-- as a value; as a test -/
inductive Md where | v | t
  deriving DecidableEq
def fin (md : Md) (m : M D) : M D := match md with
  | .t => bnd m fun x => lft (x.truth.map .bl)
  | .v => m
def toB : D → Option Bool
  | .bl b => some b
  | _ => none
/-- by a test's answer -/
def iteM {α : Type} (c : M D) (a b : M α) : M α := bnd c fun k => match k with
  | .bl true => a
  | .bl false => b
  | _ => stuck
def isNon : D → Bool
  | .non => true
  | _ => false
/-- x is True, x is False -/
def isB (b : Bool) : D → Option Bool
  | .bl c => some (b == c)
  | _ => none
def isTys (x : D) : List Ty → Option Bool
  | [] => some false
  | t :: ts => match D.isTy t x, isTys x ts with
    | some b, some c => some (b || c)
    | _, _ => none
/-- a list, a dict: whose method is called -/
def needL : D → Option D
  | .lst xs => some (.lst xs)
  | _ => none
def needD : D → Option D
  | .dct xs => some (.dct xs)
  | _ => none
def keysD : D → Option (List D)
  | .dct kvs => some (kvs.map (·.1))
  | _ => none
def valsD : D → Option D
  | .dct kvs => some (.lst (kvs.map (·.2)))
  | _ => none
def negD : D → Option D
  | .int i => some (.int (-i))
  | _ => none
mutual
def ev (G : Glo) : E → Md → Env → M D
  | .var i, md, env => fin md (lft (look env i))
  | .bor i, md, env => fin md (lft (lookB env i))
  | .bor2 i, md, env => fin md (lft (lookB2 env i))
  | .glob x, md, _ => fin md (lft (G.glob x))
  | .int i, md, _ => fin md (ret (.int i))
  | .bl b, md, _ => fin md (ret (.bl b))
  | .str x, md, _ => fin md (ret (.str x))
  | .non, md, _ => fin md (ret .non)
  | .tup es, md, env => fin md (bnd (evs G es env) fun ds => lft (guardO (decide (ds.length ≤ lim)) (some (.tup ds))))
  | .lst es, md, env => fin md (bnd (evs G es env) fun ds => lft (guardO (decide (ds.length ≤ lim)) (some (.lst ds))))
  | .dct ks vs, md, env => fin md (shut (bnd (evs G ks env) fun kd => bnd (evs G vs env) fun vd => lft (dctD kd vd)))
  | .bin o a b, md, env => fin md (bnd (ev G a .v env) fun x => bnd (ev G b .v env) fun y => lft (D.bin o x y))
  | .neg a, md, env => fin md (bnd (ev G a .v env) fun x => lft (negD x))
  | .not a, md, env => (match md with
    | .t => bnd (ev G a .t env) fun x => lft ((toB x).map fun b => .bl (!b))
    | .v => bnd (ev G a .v env) fun x => lft (x.truth.map fun b => .bl (!b)))
  | .and a b, md, env => (match md with
    | .t => iteM (ev G a .t env) (ev G b .t env) (ret (.bl false))
    | .v => bnd (ev G a .v env) fun x => bnd (lft x.truth) fun c => if c then ev G b .v env else ret x)
  | .or a b, md, env => (match md with
    | .t => iteM (ev G a .t env) (ret (.bl true)) (ev G b .t env)
    | .v => bnd (ev G a .v env) fun x => bnd (lft x.truth) fun c => if c then ret x else ev G b .v env)
  | .ite c a b, md, env => iteM (ev G c .t env) (ev G a md env) (ev G b md env)
  | .cmp o a b, md, env => bnd (ev G a .v env) fun x => bnd (ev G b .v env) fun y => lft ((D.cmp o x y).map .bl)
  | .chain o o' a b c, md, env => bnd (ev G a .v env) fun x => bnd (ev G b .v env) fun y => bnd (lft (D.cmp o x y)) fun k =>
      if k then bnd (ev G c .v env) fun z => lft ((D.cmp o' y z).map .bl) else ret (.bl false)
  | .chain3 o o' o'' a b c d, md, env => bnd (ev G a .v env) fun x => bnd (ev G b .v env) fun y => bnd (lft (D.cmp o x y)) fun k =>
      if k then bnd (ev G c .v env) fun z => bnd (lft (D.cmp o' y z)) fun k => if k then bnd (ev G d .v env) fun u => lft ((D.cmp o'' z u).map .bl) else ret (.bl false) else ret (.bl false)
  | .isn a, md, env => bnd (ev G a .v env) fun x => ret (.bl (isNon x))
  | .notn a, md, env => bnd (ev G a .v env) fun x => ret (.bl (!isNon x))
  | .ist a b, md, env => bnd (ev G a .v env) fun x => lft ((isB b x).map .bl)
  | .isi a ts, md, env => bnd (ev G a .v env) fun x => lft ((isTys x ts).map .bl)
  | .call f es, md, env => fin md (bnd (evs G es env) fun ds => G.call f ds)
  | .blt b a, md, env => fin md (bnd (ev G a .v env) fun x => lft (bl1 b x))
  | .rng a, md, env => fin md (bnd (ev G a .v env) fun x => lft ((toI x).bind fun n => guardO (okRng n && decide (n ≤ 1000000)) (some (.lst (rngL 0 n)))))
  | .cnt a x, md, env => fin md (bnd (bnd (ev G a .v env) fun a => lft (needL a)) fun a => bnd (ev G x .v env) fun x => lft (cntD a x))
  | .idx a x, md, env => fin md (bnd (bnd (ev G a .v env) fun a => lft (needL a)) fun a => bnd (ev G x .v env) fun x => lft (idxD a x))
  | .get d k x, md, env => fin md (bnd (bnd (ev G d .v env) fun d => lft (needD d)) fun d => bnd (ev G k .v env) fun k => bnd (ev G x .v env) fun x => lft (getD d k x))
  | .skeys d, md, env => fin md (bnd (ev G d .v env) fun d => lft ((needD d).bind keysD |>.bind sortD))
  | .lvals d, md, env => fin md (bnd (ev G d .v env) fun d => lft ((needD d).bind valsD))
  | .ix a i, md, env => fin md (bnd (ev G a .v env) fun a => bnd (ev G i .v env) fun i => ixM a i)
  | .sl a lo hi, md, env => fin md (bnd (ev G a .v env) fun a => bnd (evO G lo env) fun lo => bnd (evO G hi env) fun hi => lft (D.sl a lo hi))
  | .rev a, md, env => fin md (bnd (ev G a .v env) fun a => lft (D.rev a))
  | .comp p it c e, md, env => fin md (bnd (evI G it env) fun xs => shut (bnd (mapM (fun x => bnd (lft (bindP p x (wipeE env p.slots))) fun env' =>
      iteM (evC G c env') (bnd (ev G e .v env') fun y => ret (some y)) (ret none)) xs) fun ys => lft (guardO (decide (ys.length ≤ lim)) (some (.lst ys)))))
def evs (G : Glo) : Es → Env → M (List D)
  | .nil, _ => ret []
  | .cons e es, env => bnd (ev G e .v env) fun d => bnd (evs G es env) fun ds => ret (d :: ds)
def evO (G : Glo) : Eo → Env → M (Option Int)
  | .none, _ => ret none
  | .some e, env => bnd (ev G e .v env) fun d => lft ((toI d).map some)
def evC (G : Glo) : Eo → Env → M D
  | .none, _ => ret (.bl true)
  | .some e, env => ev G e .t env
def evI (G : Glo) : It → Env → M (List D)
  | .seq e, env => bnd (ev G e .v env) fun d => lft (seqL d)
  | .rng1 a, env => bnd (ev G a .v env) fun x => lft ((toI x).bind fun n => if okRng n then some (rngL 0 n) else none)
  | .rng2 a b, env => bnd (ev G a .v env) fun x => bnd (ev G b .v env) fun y => lft ((toI x).bind fun m => (toI y).bind fun n => if okRng m && okRng n then some (rngL m n) else none)
  | .enum e, env => bnd (ev G e .v env) fun d => lft ((seqL d).map (enumL 0))
  | .zip a b, env => bnd (ev G a .v env) fun x => bnd (ev G b .v env) fun y => lft ((seqL x).bind fun xs => (seqL y).map fun ys => zipL xs ys)
  | .keys e, env => bnd (ev G e .v env) fun d => lft (match d with
    | .dct kvs => some (kvs.map (·.1))
    | _ => none)
  | .vals e, env => bnd (ev G e .v env) fun d => lft (match d with
    | .dct kvs => some (kvs.map (·.2))
    | _ => none)
end

inductive Flow where
  | nx (env : Env)
  | rt (d : D)
  | bk (env : Env)

def forL (p : Pat) (body : Env → M Flow) : List D → Env → M Flow
  | [], env => ret (.nx env)
  | x :: xs, env => bnd (lft (bindP p x env)) fun env' => bnd (body env') fun fl => match fl with
    | .nx e => forL p body xs e
    | .bk e => ret (.nx e)
    | .rt d => ret (.rt d)
def whileL (c : Env → M D) (body : Env → M Flow) : Nat → Env → M Flow
  | 0, _ => stuck
  | n + 1, env => iteM (c env) (bnd (body env) fun fl => match fl with
      | .nx e => whileL c body n e
      | .bk e => ret (.nx e)
      | .rt d => ret (.rt d)) (ret (.nx env))
def parL (env : Env) : List (Nat × Nat) → List D → Option Env
  | [], [] => some env
  | (i, b) :: is, d :: ds => (match b, d with
    | 0, d => parL (env.set i (.fz d)) is ds
    | 1, .lst xs => parL (env.set i (.ow xs)) is ds
    | 1, .dct xs => parL (env.set i (.od xs)) is ds
    | 2, .lst [] => parL (env.set i (.ow2 [])) is ds
    | _, _ => none)
  | _, _ => none
/-- x[k] = v -/
def putM (env : Env) (i : Nat) (k v : D) : M Flow := match env[i]? with
  | some (.ow ds) => (match k with
    | .int j => (match L2.ixN ds.length j with
      | some n => ret (.nx (env.set i (.ow (ds.set n v))))
      | none => stuck)
    | _ => stuck)
  | some (.od kvs) => if D.key k && decide (kvs.length < lim) then ret (.nx (env.set i (.od (dput kvs k v)))) else stuck
  | some (.fz (.obj n)) => fun w => (match w[n]?, k with
    | some (.cells ds), .int j => (match L2.ixN ds.length j with
      | some m => .ok (.nx env) (w.set n (.cells (ds.set m v)))
      | none => .no)
    | _, _ => .no)
  | _ => stuck
/-- what can be stored to -/
def putOk (env : Env) (i : Nat) : Option Unit := match env[i]? with
  | some (.ow _) => some ()
  | some (.od _) => some ()
  | some (.fz (.obj _)) => some ()
  | _ => none
/-- a row and its place -/
def rowAt (dss : List (List D)) (k : D) : Option (Nat × List D) := match k with
  | .int j => (L2.ixN dss.length j).bind fun n => (dss[n]?).map fun ds => (n, ds)
  | _ => none
/-- the whole made the slot's own -/
def ownD : D → Option Sl
  | .lst ds => some (.ow ds)
  | .dct kvs => some (.od kvs)
  | _ => none

mutual
def exec (G : Glo) : S → Env → M Flow
  | .set i e, env => bnd (ev G e .v env) fun d => ret (.nx (env.set i (.fz d)))
  | .own i e, env => bnd (ev G e .v env) fun d => bnd (lft (ownD d)) fun s => ret (.nx (env.set i s))
  | .own2 i, env => ret (.nx (env.set i (.ow2 [])))
  | .newo i es, env => bnd (evs G es env) fun ds => fun w => if ds.length ≤ lim then .ok (.nx (env.set i (.fz (.obj w.length)))) (w ++ [.cells ds]) else .no
  | .unp is e, env => bnd (ev G e .v env) fun d => (match d with
    | .tup ds => bnd (lft (putAll env is ds)) fun env => ret (.nx env)
    | _ => stuck)
  | .par is es, env => bnd (evs G es env) fun ds => bnd (lft (parL env is ds)) fun env => ret (.nx env)
  | .putset i k a j b, env => bnd (ev G a .v env) fun a => bnd (ev G b .v env) fun b => bnd (lft (putOk env i)) fun _ => bnd (ev G k .v env) fun k => bnd (putM env i k a) fun fl => (match fl with
    | .nx env => ret (.nx (env.set j (.fz b)))
    | _ => stuck)
  | .app i e, env => (match env[i]? with
    | some (.ow ds) => bnd (ev G e .v env) fun d => if ds.length < lim then ret (.nx (env.set i (.ow (ds ++ [d])))) else stuck
    | _ => stuck)
  | .app2 i, env => (match env[i]? with
    | some (.ow2 dss) => if dss.length < lim then ret (.nx (env.set i (.ow2 (dss ++ [[]])))) else stuck
    | _ => stuck)
  | .appi i j e, env => (match env[i]? with
    | some (.ow2 dss) => bnd (ev G j .v env) fun k => bnd (lft (rowAt dss k)) fun p => bnd (ev G e .v env) fun d => if p.2.length < lim then ret (.nx (env.set i (.ow2 (dss.set p.1 (p.2 ++ [d]))))) else stuck
    | _ => stuck)
  | .put i k v, env => bnd (ev G v .v env) fun v => bnd (lft (putOk env i)) fun _ => bnd (ev G k .v env) fun k => putM env i k v
  | .aug i o e, env => bnd (lft (look env i)) fun x => bnd (ev G e .v env) fun y => (match x, y, o with
    | .int a, .int b, .add => ret (.nx (env.set i (.fz (.int (a + b)))))
    | .int a, .int b, .sub => ret (.nx (env.set i (.fz (.int (a - b)))))
    | _, _, _ => stuck)
  | .ex e, env => bnd (ev G e .v env) fun _ => ret (.nx env)
  | .ite c a b, env => iteM (ev G c .t env) (execs G a env) (execs G b env)
  | .for_ p it b, env => bnd (evI G it env) fun xs => forL p (execs G b) xs env
  | .while_ c b, env => whileL (ev G c .t) (execs G b) G.fuel env
  | .ret e, env => bnd (ev G e .v env) fun d => ret (.rt d)
  | .retN, _ => ret (.rt .non)
  | .brk, env => ret (.bk env)
  | .pass, env => ret (.nx env)
  | .stk, _ => stuck
  | .raise_ c e, env => (match e with
    | .none => fun w => .exn c none w
    | .some e => bnd (ev G e .v env) fun d => fun w => .exn c (some d) w)
  | .tryset i e j c c2 a, env => fun w => (match ev G e .v env w with
    | .ok d w => .ok (.nx (env.set i (.fz d))) w
    | .exn _ _ _ => .no
    | .no => .no)
def execs (G : Glo) : Ss → Env → M Flow
  | .nil, env => ret (.nx env)
  | .cons s ss, env => bnd (exec G s env) fun fl => match fl with
    | .nx e => execs G ss e
    | .rt d => ret (.rt d)
    | .bk e => ret (.bk e)
  | .frz is ss, env => execs G ss (freezeAll env is)
  | .frz1 i ss, env => (match env[i]? with
    | some (.ow2 dss) => execs G ss (env.set i (.ow (dss.map .lst)))
    | _ => stuck)
end

/-! ### defs -/
structure FnI where
  ps : Nat
  ns : Nat
  bw : List Bool
  body : Ss
abbrev Tbl := List (Nat × FnI)
def Tbl.at_ : Tbl → Nat → Option FnI
  | [], _ => none
  | (g, fi) :: r, f => if Nat.beq g f then some fi else Tbl.at_ r f
def bindA : List Bool → List D → Env
  | true :: bs, .lst xs :: ds => .bo xs :: bindA bs ds
  | true :: bs, .dct _ :: ds => .no :: bindA bs ds
  | _ :: bs, d :: ds => .fz d :: bindA bs ds
  | _, _ => []
def startE (fi : FnI) (args : List D) : Env := bindA fi.bw args ++ List.replicate (fi.ns - args.length) .no
def endF (fl : Flow) : M D := match fl with
  | .rt d => ret d
  | .nx _ => ret .non
  | .bk _ => stuck
def run (T : Tbl) (gl : Nat → Option D) (n : Nat) : Nat → Nat → List D → M D
  | 0, _, _ => stuck
  | k + 1, f, args => match T.at_ f with
    | none => stuck
    | some fi => if Nat.beq args.length fi.ps then bnd (execs ⟨run T gl n k, gl, n⟩ fi.body (startE fi args)) endF else stuck
end VI

set_option Elab.async false
set_option linter.all false
set_option maxRecDepth 100000
/-! VI, part 2: how the data lie in the abstract heap. -/
namespace VI
open PySem L2

/-! ### keys -/
mutual
def nk : D → NestedKey
  | .non => .none
  | .int i => .num i
  | .str x => .text x
  | .tup ds => .tup (nks ds)
  | .bl _ => .none
  | .lst _ => .none
  | .dct _ => .none
  | .fn _ => .none
  | .obj _ => .none
  | .scr _ => .none
def nks : List D → List NestedKey
  | [] => []
  | d :: ds => nk d :: nks ds
end
def allKok (n : Nat) (ds : List D) : Prop := ∀ d ∈ ds, D.kok n d = true
theorem kok_tup {n : Nat} {ds : List D} (h : D.kok n (.tup ds) = true) : ∃ m, n = m + 1 ∧ allKok m ds := by
  cases n with
  | zero => cases h
  | succ n => exact ⟨n, rfl, List.all_eq_true.mp h⟩
theorem kok_not {n : Nat} {d : D} (h : D.kok n d = true) : (d = .non ∨ (∃ i, d = .int i) ∨ (∃ x, d = .str x) ∨ ∃ ds, d = .tup ds) := by
  cases d with
  | non => exact .inl rfl
  | int i => exact .inr (.inl ⟨i, rfl⟩)
  | str x => exact .inr (.inr (.inl ⟨x, rfl⟩))
  | tup ds => exact .inr (.inr (.inr ⟨ds, rfl⟩))
  | _ => cases n <;> cases h
mutual
theorem eqv_nk : ∀ (a b : D) (m n : Nat), D.kok m a = true → D.kok n b = true → D.eqv a b = decide (nk a = nk b)
  | .non, b, m, n, _, h => by
    rcases kok_not h with rfl | ⟨i, rfl⟩ | ⟨x, rfl⟩ | ⟨ds, rfl⟩ <;> (simp only [D.eqv, nk]; rw [Bool.eq_iff_iff]; simp)
  | .int i, b, m, n, _, h => by
    rcases kok_not h with rfl | ⟨i, rfl⟩ | ⟨x, rfl⟩ | ⟨ds, rfl⟩ <;> (simp only [D.eqv, nk]; rw [Bool.eq_iff_iff]; simp)
  | .str x, b, m, n, _, h => by
    rcases kok_not h with rfl | ⟨i, rfl⟩ | ⟨x, rfl⟩ | ⟨ds, rfl⟩ <;> (simp only [D.eqv, nk]; rw [Bool.eq_iff_iff]; simp)
  | .tup ds, b, m, n, g, h => by
    obtain ⟨m, rfl, g2⟩ := kok_tup g
    rcases kok_not h with rfl | ⟨i, rfl⟩ | ⟨x, rfl⟩ | ⟨es, rfl⟩
    · simp [D.eqv, nk]
    · simp [D.eqv, nk]
    · simp [D.eqv, nk]
    · obtain ⟨n, rfl, h2⟩ := kok_tup h
      simp only [D.eqv, nk]
      rw [eqvs_nk ds es m n g2 h2]
      simp
  | .bl _, _, m, _, h, _ => by cases m <;> cases h
  | .lst _, _, m, _, h, _ => by cases m <;> cases h
  | .dct _, _, m, _, h, _ => by cases m <;> cases h
  | .fn _, _, m, _, h, _ => by cases m <;> cases h
  | .obj _, _, m, _, h, _ => by cases m <;> cases h
  | .scr _, _, m, _, h, _ => by cases m <;> cases h
theorem eqvs_nk : ∀ (ds es : List D) (m n : Nat), allKok m ds → allKok n es → D.eqvs ds es = decide (nks ds = nks es)
  | [], [], _, _, _, _ => by simp [D.eqvs, nks]
  | [], _ :: _, _, _, _, _ => by simp [D.eqvs, nks]
  | _ :: _, [], _, _, _, _ => by simp [D.eqvs, nks]
  | d :: ds, e :: es, m, n, g, h => by
    simp only [D.eqvs, nks]
    rw [eqv_nk d e m n (g d (.head _)) (h e (.head _)), eqvs_nk ds es m n (fun x hx => g x (.tail _ hx)) fun x hx => h x (.tail _ hx)]
    rw [Bool.eq_iff_iff]
    simp
end
mutual
theorem nk_depth : ∀ (d : D) (n : Nat), D.kok n d = true → (nk d).depth ≤ n
  | .non, n, _ => by unfold nk NestedKey.depth; exact Nat.zero_le _
  | .int i, n, _ => by unfold nk NestedKey.depth; exact Nat.zero_le _
  | .str i, n, _ => by unfold nk NestedKey.depth; exact Nat.zero_le _
  | .tup ds, n, h => by
    obtain ⟨m, rfl, h2⟩ := kok_tup h
    have := nks_depth ds m h2
    unfold nk NestedKey.depth
    omega
  | .bl _, m, h => by cases m <;> cases h
  | .lst _, m, h => by cases m <;> cases h
  | .dct _, m, h => by cases m <;> cases h
  | .fn _, m, h => by cases m <;> cases h
  | .obj _, m, h => by cases m <;> cases h
  | .scr _, m, h => by cases m <;> cases h
theorem nks_depth : ∀ (ds : List D) (n : Nat), allKok n ds → NestedKey.depthAll (nks ds) ≤ n
  | [], n, _ => by unfold nks NestedKey.depthAll; exact Nat.zero_le _
  | d :: ds, n, h => by
    have h1 := nk_depth d n (h d (.head _))
    have h2 := nks_depth ds n fun x hx => h x (.tail _ hx)
    unfold nks NestedKey.depthAll
    omega
end
theorem key_kok {d : D} (h : D.key d = true) : D.kok 6 d = true ∧ ∃ ds, d = .tup ds := by
  cases d <;> first | (cases h; done) | exact ⟨h, _, rfl⟩

structure Pm where
  K : PySem.W.Frag
  wo : World
  cls : Nat → Value
  fld : Nat → Str

def Ext (os os' : List Addr) : Prop := ∃ m, os' = os ++ m
theorem Ext.refl {os : List Addr} : Ext os os := ⟨[], by simp⟩
theorem Ext.trans {a b c : List Addr} : Ext a b → Ext b c → Ext a c
  | ⟨m, h⟩, ⟨n, g⟩ => ⟨m ++ n, by rw [g, h, List.append_assoc]⟩
theorem Ext.get {os os' : List Addr} {n : Nat} {a : Addr} (e : Ext os os') (h : os[n]? = some a) : os'[n]? = some a := by
  obtain ⟨m, rfl⟩ := e
  obtain ⟨hn, _⟩ := List.getElem?_eq_some_iff.mp h
  rw [List.getElem?_append_left hn]; exact h
abbrev Le (Z Z' : Hp) : Prop := ∀ a o, Z a = some o → Z' a = some o
theorem Le.refl {Z : Hp} : Le Z Z := fun _ _ h => h
theorem Le.trans {A B C : Hp} (h : Le A B) (g : Le B C) : Le A C := fun a o e => g a o (h a o e)
theorem sqL_le {K : PySem.W.Frag} {Z Z' : Hp} {a : Addr} {vs : List V} (h : Le Z Z') (s : SqL K Z a vs) : SqL K Z' a vs := by
  rcases s with (s | ⟨o, s⟩) | s
  · exact .inl (.inl (h _ _ s))
  · exact .inl (.inr ⟨o, h _ _ s⟩)
  · exact .inr s
theorem sqT_le {K : PySem.W.Frag} {Z Z' : Hp} {a : Addr} {vs : List V} (h : Le Z Z') (s : SqT K Z a vs) : SqT K Z' a vs := by
  rcases s with (s | ⟨o, s⟩) | s
  · exact .inl (.inl (h _ _ s))
  · exact .inl (.inr ⟨o, h _ _ s⟩)
  · exact .inr s

mutual
/-- a value for good -/
def Rep (P : Pm) (os : List Addr) (Z : Hp) : D → V → Prop
  | .non, v => v = .non
  | .bl b, v => v = .bl b
  | .int i, v => v = .int i
  | .str x, v => v = .str x
  | .tup ds, v => ∃ a vs, v = .ref a ∧ Z a = some (.tup vs) ∧ Reps P os Z ds vs
  | .lst ds, v => ∃ a vs, v = .ref a ∧ Z a = some (.lst vs) ∧ Reps P os Z ds vs
  | .dct kvs, v => ∃ a es ep qs, v = .ref a ∧ Z a = some (dRaw a es ep) ∧ Rws P.wo Z qs es ∧ RepKs P os Z kvs qs
  | .fn _, _ => False
  | .obj n, v => ∃ a, v = .ref a ∧ os[n]? = some a
  | .scr ns, v => ∃ a, v = .ref a ∧ SqL P.K Z a (ns.map V.int)
def RepK (P : Pm) (os : List Addr) (Z : Hp) : D × D → Row → Prop
  | (k, d), q => D.key k = true ∧ q.1 = nk k ∧ Rep P os Z d q.2.2
def RepKs (P : Pm) (os : List Addr) (Z : Hp) : List (D × D) → List Row → Prop
  | [], qs => qs = []
  | p :: ps, qs => ∃ q r, qs = q :: r ∧ RepK P os Z p q ∧ RepKs P os Z ps r
def Reps (P : Pm) (os : List Addr) (Z : Hp) : List D → List V → Prop
  | [], vs => vs = []
  | d :: ds, vs => ∃ v r, vs = v :: r ∧ Rep P os Z d v ∧ Reps P os Z ds r
end
section
variable {P : Pm} {os os' : List Addr} {Z Z' H H' : Hp}
theorem reps_nil : Reps P os Z [] [] := by unfold Reps; rfl
theorem reps_cons {d : D} {ds : List D} {v : V} {vs : List V} (h : Rep P os Z d v) (t : Reps P os Z ds vs) : Reps P os Z (d :: ds) (v :: vs) := by
  unfold Reps; exact ⟨v, vs, rfl, h, t⟩
theorem reps_paired : ∀ {ds : List D} {vs : List V}, Reps P os Z ds vs ↔ Paired (Rep P os Z) ds vs
  | [], vs => by
    unfold Reps
    constructor
    · rintro rfl; exact .nil
    · intro h; cases h; rfl
  | d :: ds, vs => by
    unfold Reps
    constructor
    · rintro ⟨v, r, rfl, h, t⟩; exact .cons h (reps_paired.mp t)
    · intro h; cases h with | cons h t => exact ⟨_, _, rfl, h, reps_paired.mpr t⟩
theorem repks_paired : ∀ {ds : List (D × D)} {qs : List Row}, RepKs P os Z ds qs ↔ Paired (RepK P os Z) ds qs
  | [], vs => by
    unfold RepKs
    constructor
    · rintro rfl; exact .nil
    · intro h; cases h; rfl
  | d :: ds, vs => by
    unfold RepKs
    constructor
    · rintro ⟨v, r, rfl, h, t⟩; exact .cons h (repks_paired.mp t)
    · intro h; cases h with | cons h t => exact ⟨_, _, rfl, h, repks_paired.mpr t⟩
theorem Rws.mono {w : World} {qs : List Row} {es : Array DictEntry} (hz : Le Z Z') (r : Rws w Z qs es) : Rws w Z' qs es :=
  ⟨r.row, fun q hq => ⟨NkV.mono (fun a xs h => hz a _ h) (r.key q hq).1, (r.key q hq).2⟩, r.nd, r.few⟩
theorem Reps.length {ds : List D} {vs : List V} (h : Reps P os Z ds vs) : ds.length = vs.length := Paired.length (reps_paired.mp h)
mutual
theorem Rep.mono (hz : Le Z Z') (ho : Ext os os') : ∀ {d : D} {v : V}, Rep P os Z d v → Rep P os' Z' d v
  | .non, v, h => by unfold Rep at *; exact h
  | .bl b, v, h => by unfold Rep at *; exact h
  | .int i, v, h => by unfold Rep at *; exact h
  | .str x, v, h => by unfold Rep at *; exact h
  | .tup ds, v, h => by
    unfold Rep at *
    obtain ⟨a, vs, e, s, r⟩ := h
    exact ⟨a, vs, e, hz _ _ s, Reps.mono hz ho r⟩
  | .lst ds, v, h => by
    unfold Rep at *
    obtain ⟨a, vs, e, s, r⟩ := h
    exact ⟨a, vs, e, hz _ _ s, Reps.mono hz ho r⟩
  | .dct kvs, v, h => by
    unfold Rep at *
    obtain ⟨a, es, ep, qs, e, s, r, t⟩ := h
    exact ⟨a, es, ep, qs, e, hz _ _ s, r.mono hz, RepKs.mono hz ho t⟩
  | .fn _, v, h => by unfold Rep at *; exact h
  | .obj n, v, h => by
    unfold Rep at *
    obtain ⟨a, e, s⟩ := h
    exact ⟨a, e, ho.get s⟩
  | .scr ns, v, h => by
    unfold Rep at *
    obtain ⟨a, e, s⟩ := h
    exact ⟨a, e, sqL_le hz s⟩
theorem RepK.mono (hz : Le Z Z') (ho : Ext os os') : ∀ {p : D × D} {q : Row}, RepK P os Z p q → RepK P os' Z' p q
  | (k, d), q, h => by
    unfold RepK at *
    exact ⟨h.1, h.2.1, Rep.mono hz ho h.2.2⟩
theorem RepKs.mono (hz : Le Z Z') (ho : Ext os os') : ∀ {ps : List (D × D)} {qs : List Row}, RepKs P os Z ps qs → RepKs P os' Z' ps qs
  | [], vs, h => by unfold RepKs at *; exact h
  | p :: ps, vs, h => by
    unfold RepKs at *
    obtain ⟨v, r, e, h1, h2⟩ := h
    exact ⟨v, r, e, RepK.mono hz ho h1, RepKs.mono hz ho h2⟩
theorem Reps.mono (hz : Le Z Z') (ho : Ext os os') : ∀ {ds : List D} {vs : List V}, Reps P os Z ds vs → Reps P os' Z' ds vs
  | [], vs, h => by unfold Reps at *; exact h
  | d :: ds, vs, h => by
    unfold Reps at *
    obtain ⟨v, r, e, h1, h2⟩ := h
    exact ⟨v, r, e, Rep.mono hz ho h1, Reps.mono hz ho h2⟩
end
theorem Reps.append {ds es : List D} {vs us : List V} (h : Reps P os Z ds vs) (g : Reps P os Z es us) : Reps P os Z (ds ++ es) (vs ++ us) := by
  induction ds generalizing vs with
  | nil => unfold Reps at h; subst h; exact g
  | cons d ds ih =>
    unfold Reps at h
    obtain ⟨v, r, rfl, h1, h2⟩ := h
    exact reps_cons h1 (ih h2)
theorem Paired.get {α β : Type} {F : α → β → Prop} : ∀ {xs : List α} {ys : List β} {i : Nat} {x : α}, Paired F xs ys → xs[i]? = some x → ∃ y, ys[i]? = some y ∧ F x y
  | _, _, _, _, .nil, e => by simp at e
  | _, _, 0, _, .cons r _, e => by simp at e; subst e; exact ⟨_, rfl, r⟩
  | _, _, i + 1, x, .cons _ t, e => by
    obtain ⟨u, h1, h2⟩ := Paired.get (i := i) (x := x) t (by simpa using e)
    exact ⟨u, by simpa using h1, h2⟩
theorem Paired.set {α β : Type} {F : α → β → Prop} {x : α} {y : β} (r : F x y) : ∀ {xs : List α} {ys : List β} (i : Nat), Paired F xs ys → Paired F (xs.set i x) (ys.set i y)
  | _, _, _, .nil => .nil
  | _, _, 0, .cons _ t => .cons r t
  | _, _, i + 1, .cons q t => .cons q (Paired.set r i t)
theorem Paired.app' {α β : Type} {F : α → β → Prop} : ∀ {xs us : List α} {ys ws : List β}, Paired F xs ys → Paired F us ws → Paired F (xs ++ us) (ys ++ ws)
  | _, _, _, _, .nil, s => s
  | _, _, _, _, .cons r t, s => .cons r (Paired.app' t s)
theorem Paired.rev {α β : Type} {F : α → β → Prop} : ∀ {xs : List α} {ys : List β}, Paired F xs ys → Paired F xs.reverse ys.reverse
  | _, _, .nil => .nil
  | _, _, .cons r t => by
    rw [List.reverse_cons, List.reverse_cons]
    exact Paired.app' (Paired.rev t) (.cons r .nil)
theorem Paired.drop {α β : Type} {F : α → β → Prop} : ∀ {xs : List α} {ys : List β} (n : Nat), Paired F xs ys → Paired F (xs.drop n) (ys.drop n)
  | _, _, 0, r => r
  | _, _, _ + 1, .nil => .nil
  | _, _, n + 1, .cons _ t => Paired.drop n t
theorem Paired.take {α β : Type} {F : α → β → Prop} : ∀ {xs : List α} {ys : List β} (n : Nat), Paired F xs ys → Paired F (xs.take n) (ys.take n)
  | _, _, 0, _ => .nil
  | _, _, _ + 1, .nil => .nil
  | _, _, n + 1, .cons r t => .cons r (Paired.take n t)
theorem Paired.app {α β : Type} {F : α → β → Prop} : ∀ {xs us : List α} {ys ws : List β}, Paired F xs ys → Paired F us ws → Paired F (xs ++ us) (ys ++ ws)
  | _, _, _, _, .nil, s => s
  | _, _, _, _, .cons r t, s => .cons r (Paired.app t s)
theorem Reps.get {ds : List D} {vs : List V} {i : Nat} {d : D} (h : Reps P os Z ds vs) (e : ds[i]? = some d) : ∃ v, vs[i]? = some v ∧ Rep P os Z d v := Paired.get (reps_paired.mp h) e
theorem Reps.set {ds : List D} {vs : List V} {d : D} {v : V} (r : Rep P os Z d v) (i : Nat) (h : Reps P os Z ds vs) : Reps P os Z (ds.set i d) (vs.set i v) := reps_paired.mpr (Paired.set r i (reps_paired.mp h))
theorem Reps.reverse {ds : List D} {vs : List V} (h : Reps P os Z ds vs) : Reps P os Z ds.reverse vs.reverse := reps_paired.mpr (Paired.rev (reps_paired.mp h))

/-- a dict, as it lies now -/
def DctR (P : Pm) (os : List Addr) (Z H : Hp) (kvs : List (D × D)) (a : Addr) : Prop := ∃ es ep qs, H a = some (dRaw a es ep) ∧ Rws P.wo Z qs es ∧ Paired (RepK P os Z) kvs qs
theorem paired_imp {α β : Type} {F G : α → β → Prop} (h : ∀ a b, F a b → G a b) : ∀ {xs : List α} {ys : List β}, Paired F xs ys → Paired G xs ys
  | _, _, .nil => .nil
  | _, _, .cons r t => .cons (h _ _ r) (paired_imp h t)
theorem Rep.dct {kvs : List (D × D)} {v : V} (h : Rep P os Z (.dct kvs) v) : ∃ a, v = .ref a ∧ DctR P os Z Z kvs a := by
  unfold Rep at h
  obtain ⟨a, es, ep, qs, e, s, r, t⟩ := h
  exact ⟨a, e, es, ep, qs, s, r, repks_paired.mp t⟩
theorem DctR.rep {kvs : List (D × D)} {a : Addr} (h : DctR P os Z Z kvs a) : Rep P os Z (.dct kvs) (.ref a) := by
  obtain ⟨es, ep, qs, s, r, t⟩ := h
  unfold Rep
  exact ⟨a, es, ep, qs, rfl, s, r, repks_paired.mpr t⟩
theorem DctR.step {kvs : List (D × D)} {a : Addr} (h : DctR P os Z H kvs a) (hz : Le Z Z') (ho : Ext os os') (hh : ∀ o, H a = some o → H' a = some o) : DctR P os' Z' H' kvs a := by
  obtain ⟨es, ep, qs, s, r, t⟩ := h
  exact ⟨es, ep, qs, hh _ s, r.mono hz, paired_imp (fun _ _ => RepK.mono hz ho) t⟩
theorem DctR.there {kvs : List (D × D)} {a : Addr} (h : DctR P os Z H kvs a) : H a ≠ none := by
  obtain ⟨es, ep, qs, s, r, t⟩ := h
  rw [s]; exact fun z => nomatch z
/-! ### looked at -/
def LR (P : Pm) (os : List Addr) (Z H : Hp) : Nat → D → V → Prop
  | 0, d, v => Rep P os Z d v
  | n + 1, d, v => Rep P os Z d v ∨ (∃ a vs ds, d = .lst ds ∧ v = .ref a ∧ a ∉ os ∧ H a = some (.lst vs) ∧ Paired (LR P os Z H n) ds vs) ∨ ∃ a kvs, d = .dct kvs ∧ v = .ref a ∧ a ∉ os ∧ DctR P os Z H kvs a
theorem LR.of {n : Nat} {d : D} {v : V} (h : Rep P os Z d v) : LR P os Z H n d v := by
  cases n with
  | zero => exact h
  | succ n => exact .inl h
theorem LR.up {n : Nat} : ∀ {d : D} {v : V}, LR P os Z H n d v → LR P os Z H (n + 1) d v := by
  induction n with
  | zero => intro d v h; exact .inl h
  | succ n ih =>
    intro d v h
    rcases h with h | ⟨a, vs, ds, e1, e2, na, hh, r⟩ | h
    · exact .inl h
    · exact .inr (.inl ⟨a, vs, ds, e1, e2, na, hh, paired_imp (fun _ _ => ih) r⟩)
    · exact .inr (.inr h)
theorem LR.le {m n : Nat} (h : m ≤ n) {d : D} {v : V} (r : LR P os Z H m d v) : LR P os Z H n d v := by
  induction h with
  | refl => exact r
  | step _ ih => exact ih.up
end

/-! ### a state and its steps -/
/-- what stood there -/
abbrev Ex (H : Hp) : Addr → Prop := fun a => H a ≠ none
def ObjR (P : Pm) (os : List Addr) (Z H : Hp) (a : Addr) : Obj → Prop
  | .cells ds => ∃ vs, H a = some (.lst vs) ∧ Reps P os Z ds vs
  | .inst _ _ => False
structure Ok (P : Pm) (os : List Addr) (w : Wd) (Z H : Hp) : Prop where
  zh : Le Z H
  nz : ∀ a ∈ os, Z a = none
  nd : os.Nodup
  len : os.length = w.length
  obj : ∀ (n : Nat) (a : Addr) (o : Obj), os[n]? = some a → w[n]? = some o → ObjR P os Z H a o
structure Step (B : Addr → Prop) (os : List Addr) (Z H : Hp) (os' : List Addr) (Z' H' : Hp) : Prop where
  keep : ∀ a o, B a → H a = some o → a ∉ os → H' a = some o
  there : ∀ a, H a ≠ none → H' a ≠ none
  zle : Le Z Z'
  zkeep : ∀ a, B a → Z a = none → Z' a = none
  ext : ∃ m, os' = os ++ m ∧ ∀ a ∈ m, H a = none
section
variable {P : Pm} {os os' os1 os2 : List Addr} {Z Z' Z1 Z2 H H' H1 H2 : Hp} {w w' : Wd} {B B' : Addr → Prop} {a p : Addr} {o : HO}
theorem Ok.there (k : Ok P os w Z H) (ha : a ∈ os) : H a ≠ none := by
  obtain ⟨n, hn, e⟩ := List.mem_iff_getElem.mp ha
  have h1 : os[n]? = some a := by rw [List.getElem?_eq_getElem hn, e]
  have h2 : n < w.length := by rw [← k.len]; exact hn
  have h3 := k.obj n a w[n] h1 (List.getElem?_eq_getElem h2)
  cases q : w[n] with
  | cells ds =>
    rw [q] at h3
    obtain ⟨vs, hv, _⟩ := h3
    rw [hv]; intro z; cases z
  | inst c fs =>
    rw [q] at h3
    exact h3.elim
theorem Step.refl : Step B os Z H os Z H := ⟨fun _ _ _ h _ => h, fun _ h => h, Le.refl, fun _ _ h => h, [], by simp, by simp⟩
theorem Step.sub (s : Step B os Z H os' Z' H') (h : ∀ a, B' a → B a) : Step B' os Z H os' Z' H' :=
  ⟨fun a o b => s.keep a o (h a b), s.there, s.zle, fun a b => s.zkeep a (h a b), s.ext⟩
theorem Step.ex (s : Step B os Z H os' Z' H') : Ext os os' := let ⟨m, e, _⟩ := s.ext; ⟨m, e⟩
theorem Step.nin (s : Step B os Z H os' Z' H') (h : H a ≠ none) (n : a ∉ os) : a ∉ os' := by
  obtain ⟨m, rfl, hm⟩ := s.ext
  intro z
  rcases List.mem_append.mp z with z | z
  · exact n z
  · exact h (hm a z)
theorem Step.trans (s : Step B os Z H os1 Z1 H1) (t : Step B os1 Z1 H1 os2 Z2 H2) : Step B os Z H os2 Z2 H2 where
  keep := fun a o b h n => t.keep a o b (s.keep a o b h n) (s.nin (by rw [h]; exact fun z => nomatch z) n)
  there := fun a h => t.there a (s.there a h)
  zle := s.zle.trans t.zle
  zkeep := fun a b h => t.zkeep a b (s.zkeep a b h)
  ext := by
    obtain ⟨m, rfl, hm⟩ := s.ext
    obtain ⟨n, rfl, hn⟩ := t.ext
    refine ⟨m ++ n, by rw [List.append_assoc], fun a ha => ?_⟩
    rcases List.mem_append.mp ha with z | z
    · exact hm a z
    · cases q : H a with
      | none => rfl
      | some o => exact absurd (hn a z) (s.there a (by rw [q]; exact fun z => nomatch z))
/-- first what stood at the start, then what stood later on -/
theorem Step.then (s : Step (Ex H) os Z H os1 Z1 H1) (t : Step (Ex H1) os1 Z1 H1 os2 Z2 H2) : Step (Ex H) os Z H os2 Z2 H2 :=
  s.trans (t.sub fun a h => s.there a h)
/-- a new object, for good -/
theorem Ok.alloc (k : Ok P os w Z H) (hp : H p = none) (o : HO) : Ok P os w (upd Z p o) (upd H p o) ∧ Step (Ex H) os Z H os (upd Z p o) (upd H p o) := by
  have hz : Z p = none := by
    cases q : Z p with
    | none => rfl
    | some u => rw [k.zh p u q] at hp; cases hp
  have np : p ∉ os := fun z => k.there z hp
  have lz : Le Z (upd Z p o) := fun a u h => by
    rw [upd_ne (show a ≠ p from fun e => by rw [e, hz] at h; cases h)]; exact h
  refine ⟨⟨fun a u h => ?_, fun a ha => ?_, k.nd, k.len, fun n a u h1 h2 => ?_⟩, ⟨fun a u b h _ => ?_, fun a h => ?_, lz, fun a b h => ?_, [], by simp, by simp⟩⟩
  · by_cases e : a = p
    · subst e; rw [upd_same] at h ⊢; exact h
    · rw [upd_ne e] at h ⊢; exact k.zh a u h
  · rw [upd_ne (show a ≠ p from fun e => np (e ▸ ha))]; exact k.nz a ha
  · have hne : a ≠ p := fun e => np (e ▸ List.mem_of_getElem? h1)
    have := k.obj n a u h1 h2
    cases u with
    | cells ds =>
      obtain ⟨vs, hv, r⟩ := this
      exact ⟨vs, by rw [upd_ne hne]; exact hv, r.mono lz Ext.refl⟩
    | inst c fs => exact this.elim
  · rw [upd_ne (show a ≠ p from fun e => b (e ▸ hp))]; exact h
  · by_cases e : a = p
    · subst e; rw [upd_same]; exact fun z => nomatch z
    · rw [upd_ne e]; exact h
  · rw [upd_ne (show a ≠ p from fun e => b (e ▸ hp))]; exact h
/-- a new object, still one's own -/
theorem Ok.allocOwn (k : Ok P os w Z H) (hp : H p = none) (o : HO) : Ok P os w Z (upd H p o) ∧ Step (Ex H) os Z H os Z (upd H p o) ∧ Z p = none ∧ p ∉ os := by
  have hz : Z p = none := by
    cases q : Z p with
    | none => rfl
    | some u => rw [k.zh p u q] at hp; cases hp
  have np : p ∉ os := fun z => k.there z hp
  refine ⟨⟨fun a u h => ?_, k.nz, k.nd, k.len, fun n a u h1 h2 => ?_⟩, ⟨fun a u b h _ => ?_, fun a h => ?_, Le.refl, fun a b h => h, [], by simp, by simp⟩, hz, np⟩
  · rw [upd_ne (show a ≠ p from fun e => by rw [e, hz] at h; cases h)]; exact k.zh a u h
  · have hne : a ≠ p := fun e => np (e ▸ List.mem_of_getElem? h1)
    have := k.obj n a u h1 h2
    cases u with
    | cells ds =>
      obtain ⟨vs, hv, r⟩ := this
      exact ⟨vs, by rw [upd_ne hne]; exact hv, r⟩
    | inst c fs => exact this.elim
  · rw [upd_ne (show a ≠ p from fun e => b (e ▸ hp))]; exact h
  · by_cases e : a = p
    · subst e; rw [upd_same]; exact fun z => nomatch z
    · rw [upd_ne e]; exact h
/-- what was one's own, for good -/
theorem Ok.freeze (k : Ok P os w Z H) (ha : H a = some o) (n : a ∉ os) (hz : Z a = none) : Ok P os w (upd Z a o) H ∧ Le Z (upd Z a o) := by
  have lz : Le Z (upd Z a o) := fun b u h => by
    rw [upd_ne (show b ≠ a from fun e => by rw [e, hz] at h; cases h)]; exact h
  refine ⟨⟨fun b u h => ?_, fun b hb => ?_, k.nd, k.len, fun i b u h1 h2 => ?_⟩, lz⟩
  · by_cases e : b = a
    · subst e; rw [upd_same] at h; rw [← h]; exact ha
    · rw [upd_ne e] at h; exact k.zh b u h
  · rw [upd_ne (show b ≠ a from fun e => n (e ▸ hb))]; exact k.nz b hb
  · have := k.obj i b u h1 h2
    cases u with
    | cells ds =>
      obtain ⟨vs, hv, r⟩ := this
      exact ⟨vs, hv, r.mono lz Ext.refl⟩
    | inst c fs => exact this.elim
theorem Step.freeze (s : Step B os Z H os' Z' H') (nb : ¬ B a) (hz : Z' a = none) : Step B os Z H os' (upd Z' a o) H' where
  keep := s.keep
  there := s.there
  zle := fun b u h => by
    have h' := s.zle b u h
    rw [upd_ne (show b ≠ a from fun e => by rw [e, hz] at h'; cases h')]; exact h'
  zkeep := fun b hb h => by
    rw [upd_ne (show b ≠ a from fun e => nb (e ▸ hb))]; exact s.zkeep b hb h
  ext := s.ext
theorem LR.step {n : Nat} (s : Step (Ex H) os Z H os' Z' H') : ∀ {d : D} {v : V}, LR P os Z H n d v → LR P os' Z' H' n d v := by
  induction n with
  | zero => intro d v h; exact Rep.mono s.zle s.ex h
  | succ n ih =>
    intro d v h
    rcases h with h | ⟨a, vs, ds, e1, e2, na, hh, r⟩ | ⟨a, kvs, e1, e2, na, r⟩
    · exact .inl (Rep.mono s.zle s.ex h)
    · have he : H a ≠ none := by rw [hh]; exact fun z => nomatch z
      exact .inr (.inl ⟨a, vs, ds, e1, e2, s.nin he na, s.keep a _ he hh na, paired_imp (fun _ _ => ih) r⟩)
    · exact .inr (.inr ⟨a, kvs, e1, e2, s.nin r.there na, r.step s.zle s.ex fun o e => s.keep a o r.there e na⟩)
end

/-! ### slots -/
def Rows (P : Pm) (os : List Addr) (Z H : Hp) : List (List D) → List Addr → Prop := Paired fun ds b => ∃ vs, H b = some (.lst vs) ∧ Reps P os Z ds vs
def SlotR (P : Pm) (B : Addr → Prop) (os : List Addr) (Z H : Hp) (as : List Addr) : Sl → Option (Option V) → Prop
  | .no, _ => True
  | .fz d, o => ∃ v, o = some (some v) ∧ Rep P os Z d v
  | .ow ds, o => ∃ a vs, o = some (some (.ref a)) ∧ as = [a] ∧ H a = some (.lst vs) ∧ Reps P os Z ds vs
  | .ow2 dss, o => ∃ a bs, o = some (some (.ref a)) ∧ as = a :: bs ∧ H a = some (.lst (bs.map V.ref)) ∧ Rows P os Z H dss bs
  | .od kvs, o => ∃ a, o = some (some (.ref a)) ∧ as = [a] ∧ DctR P os Z H kvs a
  | .bo ds, o => ∃ a vs, o = some (some (.ref a)) ∧ a ∉ os ∧ B a ∧ H a = some (.lst vs) ∧ Reps P os Z ds vs
structure Slots (P : Pm) (B : Addr → Prop) (env : Env) (σ : St) (ad : Nat → List Addr) (os : List Addr) (Z H : Hp) : Prop where
  len : σ.length = env.length
  at_ : ∀ i s, env[i]? = some s → SlotR P B os Z H (ad i) s σ[i]?
  own : ∀ i a, a ∈ ad i → a ∉ os ∧ Z a = none ∧ H a ≠ none ∧ ¬ B a
  dis : ∀ i j a, a ∈ ad i → a ∈ ad j → i = j
  nd : ∀ i, (ad i).Nodup
section
variable {P : Pm} {os os' os1 os2 : List Addr} {Z Z' Z1 Z2 H H' H1 H2 : Hp} {w w' : Wd} {B B' : Addr → Prop} {a p : Addr} {o : HO} {env : Env} {σ : St} {ad : Nat → List Addr}
theorem SlotR.step {B : Addr → Prop} (s : Step (Ex H) os Z H os' Z' H') {as : List Addr} (n : ∀ a ∈ as, a ∉ os) {x : Sl} {q : Option (Option V)} (h : SlotR P B os Z H as x q) : SlotR P B os' Z' H' as x q := by
  have kp : ∀ a ∈ as, ∀ u, H a = some u → H' a = some u := fun a ha u e => s.keep a u (by show H a ≠ none; rw [e]; exact fun z => nomatch z) e (n a ha)
  cases x with
  | no => trivial
  | fz d => obtain ⟨v, e, r⟩ := h; exact ⟨v, e, Rep.mono s.zle s.ex r⟩
  | ow ds => obtain ⟨a, vs, e, e2, hh, r⟩ := h; exact ⟨a, vs, e, e2, kp a (by simp [e2]) _ hh, r.mono s.zle s.ex⟩
  | ow2 dss =>
    obtain ⟨a, bs, e, e2, hh, r⟩ := h
    refine ⟨a, bs, e, e2, kp a (by simp [e2]) _ hh, ?_⟩
    have all : ∀ b ∈ bs, b ∈ as := fun b hb => by rw [e2]; exact List.mem_cons_of_mem _ hb
    clear hh e2
    unfold Rows at *
    induction r with
    | nil => exact .nil
    | cons q _ ih =>
      obtain ⟨vs, h1, h2⟩ := q
      exact .cons ⟨vs, kp _ (all _ List.mem_cons_self) _ h1, h2.mono s.zle s.ex⟩ (ih fun b hb => all b (List.mem_cons_of_mem _ hb))
  | od kvs => obtain ⟨a, e, e2, r⟩ := h; exact ⟨a, e, e2, r.step s.zle s.ex (kp a (by simp [e2]))⟩
  | bo ds => obtain ⟨a, vs, e, na, b, hh, r⟩ := h; exact ⟨a, vs, e, s.nin (by rw [hh]; exact fun z => nomatch z) na, b, s.keep a _ (by show H a ≠ none; rw [hh]; exact fun z => nomatch z) hh na, r.mono s.zle s.ex⟩
theorem Slots.step (k : Slots P B env σ ad os Z H) (s : Step (Ex H) os Z H os' Z' H') : Slots P B env σ ad os' Z' H' :=
  ⟨k.len, fun i x e => (k.at_ i x e).step s fun a ha => (k.own i a ha).1, fun i a ha => by
    obtain ⟨h1, h2, h3, h4⟩ := k.own i a ha
    exact ⟨s.nin h3 h1, s.zkeep a h3 h2, s.there a h3, h4⟩, k.dis, k.nd⟩
/-- fewer addresses of one's own known, a part of a slot's value forgotten -/
theorem Slots.env_of (k : Slots P B env σ ad os Z H) {env' : Env} {σ' : St} (hl : σ'.length = env'.length) (h : ∀ i s, env'[i]? = some s → SlotR P B os Z H (ad i) s σ'[i]?) : Slots P B env' σ' ad os Z H :=
  ⟨hl, h, k.own, k.dis, k.nd⟩
/-- a slot is given a value for good -/
theorem Slots.setFz (k : Slots P B env σ ad os Z H) (i : Nat) {d : D} {v : V} (r : Rep P os Z d v) : Slots P B (env.set i (.fz d)) (σ.set i (some v)) ad os Z H := by
  refine k.env_of (by simp [k.len]) fun j s e => ?_
  by_cases hj : i = j
  · subst hj
    by_cases hi : i < env.length
    · rw [List.getElem?_set_self hi] at e
      cases e
      exact ⟨v, by rw [List.getElem?_set_self (by rw [k.len]; exact hi)], r⟩
    · rw [List.getElem?_eq_none (by simpa using hi)] at e; cases e
  · rw [List.getElem?_set_ne hj] at e ⊢
    exact k.at_ j s e
/-- a slot is given a list of its own -/
theorem Slots.setOw (k : Slots P B env σ ad os Z H) (i : Nat) {ds : List D} {vs : List V} (n : p ∉ os) (hz : Z p = none) (hh : H p = some (.lst vs)) (nb : ¬ B p) (r : Reps P os Z ds vs) (nw : ∀ j, p ∉ ad j) :
    Slots P B (env.set i (.ow ds)) (σ.set i (some (.ref p))) (fun j => if j = i then [p] else ad j) os Z H := by
  refine ⟨by simp [k.len], fun j s e => ?_, fun j a ha => ?_, fun j l a h1 h2 => ?_, fun j => ?_⟩
  · by_cases hj : i = j
    · subst hj
      by_cases hi : i < env.length
      · rw [List.getElem?_set_self hi] at e
        cases e
        exact ⟨p, vs, by rw [List.getElem?_set_self (by rw [k.len]; exact hi)], by simp, hh, r⟩
      · rw [List.getElem?_eq_none (by simpa using hi)] at e; cases e
    · rw [List.getElem?_set_ne hj] at e ⊢
      simp only [if_neg (Ne.symm hj)]
      exact k.at_ j s e
  · by_cases hj : j = i
    · rw [if_pos hj] at ha
      rcases List.mem_singleton.mp ha with rfl
      exact ⟨n, hz, (by rw [hh]; intro z; cases z), nb⟩
    · rw [if_neg hj] at ha; exact k.own j a ha
  · by_cases hj : j = i
    · rw [if_pos hj] at h1
      by_cases hl : l = i
      · exact hj.trans hl.symm
      · rw [if_neg hl] at h2
        rcases List.mem_singleton.mp h1 with rfl
        exact absurd h2 (nw l)
    · rw [if_neg hj] at h1
      by_cases hl : l = i
      · rw [if_pos hl] at h2
        rcases List.mem_singleton.mp h2 with rfl
        exact absurd h1 (nw j)
      · rw [if_neg hl] at h2; exact k.dis j l a h1 h2
  · by_cases hj : j = i
    · simp [hj]
    · simp only [if_neg hj]; exact k.nd j
end

/-! ### outcomes -/
def ExR (P : Pm) (os : List Addr) (Z H : Hp) (c : Nat) (f : Option D) (cls : Value) (dd : Option Addr) : Prop :=
  cls = P.cls c ∧ match f with
    | none => True
    | some d => ∃ ad v, dd = some ad ∧ H ad = some (.xd [(P.fld c, v)]) ∧ Rep P os Z d v
def Out {α : Type} (P : Pm) (W : WX) (σ : St) (os : List Addr) (Z H : Hp) (R : Res α) (Kt : α → Wd → List Addr → Hp → Hp → Prop) : Prop := match R with
  | .ok a w => ∀ os' Z' H', Step (Ex H) os Z H os' Z' H' → Ok P os' w Z' H' → Kt a w os' Z' H'
  | .exn c f w => ∀ os' Z' H' cls dd, Step (Ex H) os Z H os' Z' H' → Ok P os' w Z' H' → ExR P os' Z' H' c f cls dd → W cls dd σ H'
  | .no => False
section
variable {P : Pm} {os os' os1 os2 : List Addr} {Z Z' Z1 Z2 H H' H1 H2 : Hp} {w w' : Wd} {W : WX} {σ : St} {α β : Type}
theorem Out.base {R : Res α} {Kt : α → Wd → List Addr → Hp → Hp → Prop} (s : Step (Ex H) os Z H os1 Z1 H1) (h : Out P W σ os Z H R Kt) : Out P W σ os1 Z1 H1 R Kt := by
  cases R with
  | ok a w => exact fun os' Z' H' t k => h os' Z' H' (s.then t) k
  | exn c f w => exact fun os' Z' H' cls dd t k x => h os' Z' H' cls dd (s.then t) k x
  | no => exact h
theorem Out.mono {R : Res α} {Kt Kt' : α → Wd → List Addr → Hp → Hp → Prop} (h : Out P W σ os Z H R Kt) (g : ∀ a w os' Z' H', Step (Ex H) os Z H os' Z' H' → Ok P os' w Z' H' → Kt a w os' Z' H' → Kt' a w os' Z' H') : Out P W σ os Z H R Kt' := by
  cases R with
  | ok a w => exact fun os' Z' H' t k => g _ _ _ _ _ t k (h os' Z' H' t k)
  | exn c f w => exact h
  | no => exact h
theorem Out.bnd {m : M α} {f : α → M β} {Kt : β → Wd → List Addr → Hp → Hp → Prop} (h : Out P W σ os Z H (bnd m f w) Kt) :
    Out P W σ os Z H (m w) fun a w1 os1 Z1 H1 => Out P W σ os1 Z1 H1 (f a w1) Kt := by
  unfold VI.bnd at h
  cases q : m w with
  | ok a w1 =>
    rw [q] at h
    exact fun os1 Z1 H1 s _ => Out.base s h
  | exn c f w1 => rw [q] at h; exact h
  | no => rw [q] at h; exact h
theorem Out.ret {a : α} {Kt : α → Wd → List Addr → Hp → Hp → Prop} (k : Ok P os w Z H) (h : Out P W σ os Z H (VI.ret a w) Kt) : Kt a w os Z H := h os Z H Step.refl k
theorem Out.lft {x : Option α} {Kt : α → Wd → List Addr → Hp → Hp → Prop} (h : Out P W σ os Z H (VI.lft x w) Kt) : ∃ a, x = some a ∧ Out P W σ os Z H (VI.ret a w) Kt := by
  cases x with
  | none => exact h.elim
  | some a => exact ⟨a, rfl, h⟩
end
end VI

set_option Elab.async false
set_option linter.all false
set_option maxRecDepth 100000
/-! VI, part 3: the operators, by data. -/
namespace VI
open PySem L2
section
variable {P : Pm} {os os' : List Addr} {Z Z' H H' : Hp} {w : Wd} {X : Cx} {Q : VK}
/-- a result that is not yet anybody's -/
def New (P : Pm) (os' : List Addr) (Z' H0 H' : Hp) (d : D) (v : V) : Prop := match d with
  | .lst ds => ∃ a vs, v = .ref a ∧ H0 a = none ∧ a ∉ os' ∧ Z' a = none ∧ H' a = some (.lst vs) ∧ Reps P os' Z' ds vs
  | .dct kvs => ∃ a, v = .ref a ∧ H0 a = none ∧ a ∉ os' ∧ Z' a = none ∧ DctR P os' Z' H' kvs a
  | d => Rep P os' Z' d v
/-- what is wanted of a result -/
def Wn (P : Pm) (os : List Addr) (Z H : Hp) (w : Wd) (d : D) (Q : VK) : Prop := ∀ v os' Z' H', Step (Ex H) os Z H os' Z' H' → Ok P os' w Z' H' → New P os' Z' H H' d v → Q v H'
def isLst : D → Bool
  | .lst _ => true
  | _ => false
/-- what can be a slot's own -/
def isOwn : D → Bool
  | .lst _ => true
  | .dct _ => true
  | _ => false
theorem new_rep {d : D} {v : V} {H0 : Hp} (hd : isOwn d = false) (r : Rep P os' Z' d v) : New P os' Z' H0 H' d v := by
  cases d <;> first | exact r | cases hd
theorem Wn.val {d : D} {v : V} (h : Wn P os Z H w d Q) (k : Ok P os w Z H) (hd : isOwn d = false) (r : Rep P os Z d v) : Q v H := h v os Z H Step.refl k (new_rep hd r)
theorem Wn.int {i : Int} (h : Wn P os Z H w (.int i) Q) (k : Ok P os w Z H) : Q (.int i) H := h.val k rfl (by unfold Rep; rfl)
theorem Wn.bl {b : Bool} (h : Wn P os Z H w (.bl b) Q) (k : Ok P os w Z H) : Q (.bl b) H := h.val k rfl (by unfold Rep; rfl)
theorem Wn.str {x : Str} (h : Wn P os Z H w (.str x) Q) (k : Ok P os w Z H) : Q (.str x) H := h.val k rfl (by unfold Rep; rfl)
theorem Wn.lst {ds : List D} {vs : List V} {p : Addr} (h : Wn P os Z H w (.lst ds) Q) (k : Ok P os w Z H) (hp : H p = none) (r : Reps P os Z ds vs) : Q (.ref p) (upd H p (.lst vs)) := by
  obtain ⟨k2, s, hz, np⟩ := k.allocOwn hp (.lst vs)
  exact h _ _ _ _ s k2 ⟨p, vs, rfl, hp, np, hz, upd_same, r⟩
theorem Wn.dct {kvs : List (D × D)} {p : Addr} {es : Array DictEntry} {ep : Nat} {qs : List Row} (h : Wn P os Z H w (.dct kvs) Q) (k : Ok P os w Z H) (hp : H p = none) (hr : Rws P.wo Z qs es) (hk : Paired (RepK P os Z) kvs qs) : Q (.ref p) (upd H p (dRaw p es ep)) := by
  obtain ⟨k2, s, hz, np⟩ := k.allocOwn hp (dRaw p es ep)
  exact h _ _ _ _ s k2 ⟨p, rfl, hp, np, hz, es, ep, qs, upd_same, hr, hk⟩
theorem Wn.tup {ds : List D} {vs : List V} {p : Addr} (h : Wn P os Z H w (.tup ds) Q) (k : Ok P os w Z H) (hp : H p = none) (r : Reps P os Z ds vs) : Q (.ref p) (upd H p (.tup vs)) := by
  obtain ⟨k2, s⟩ := k.alloc hp (.tup vs)
  refine h _ _ _ _ s k2 ?_
  show Rep P os (upd Z p (.tup vs)) (.tup ds) (.ref p)
  unfold Rep
  exact ⟨p, vs, rfl, upd_same, r.mono s.zle Ext.refl⟩

/-! what a value's shape is -/
theorem LR.non {n : Nat} {v : V} (h : LR P os Z H n .non v) : v = .non := by
  cases n with
  | zero => have h : Rep P os Z .non v := h; unfold Rep at h; exact h
  | succ n => rcases h with h | ⟨_, _, _, e, _⟩ | ⟨_, _, e, _⟩
              · unfold Rep at h; exact h
              · cases e
              · cases e
theorem LR.bl {n : Nat} {b : Bool} {v : V} (h : LR P os Z H n (.bl b) v) : v = .bl b := by
  cases n with
  | zero => have h : Rep P os Z (.bl b) v := h; unfold Rep at h; exact h
  | succ n => rcases h with h | ⟨_, _, _, e, _⟩ | ⟨_, _, e, _⟩
              · unfold Rep at h; exact h
              · cases e
              · cases e
theorem LR.int {n : Nat} {i : Int} {v : V} (h : LR P os Z H n (.int i) v) : v = .int i := by
  cases n with
  | zero => have h : Rep P os Z (.int i) v := h; unfold Rep at h; exact h
  | succ n => rcases h with h | ⟨_, _, _, e, _⟩ | ⟨_, _, e, _⟩
              · unfold Rep at h; exact h
              · cases e
              · cases e
theorem LR.str {n : Nat} {x : Str} {v : V} (h : LR P os Z H n (.str x) v) : v = .str x := by
  cases n with
  | zero => have h : Rep P os Z (.str x) v := h; unfold Rep at h; exact h
  | succ n => rcases h with h | ⟨_, _, _, e, _⟩ | ⟨_, _, e, _⟩
              · unfold Rep at h; exact h
              · cases e
              · cases e
theorem LR.notLst {n : Nat} {d : D} {v : V} (h : LR P os Z H n d v) (hd : isOwn d = false) : Rep P os Z d v := by
  cases n with
  | zero => exact h
  | succ n => rcases h with h | ⟨_, _, _, e, _⟩ | ⟨_, _, e, _⟩
              · exact h
              · subst e; cases hd
              · subst e; cases hd
theorem LR.dref {n : Nat} {kvs : List (D × D)} {v : V} (h : LR P os Z H n (.dct kvs) v) : ∃ a, v = .ref a := by
  cases n with
  | zero => obtain ⟨a, e, _⟩ := Rep.dct h; exact ⟨a, e⟩
  | succ n =>
    rcases h with h | ⟨_, _, _, e, _⟩ | ⟨a, kvs', e, e2, _, r⟩
    · obtain ⟨a, e, _⟩ := h.dct; exact ⟨a, e⟩
    · cases e
    · exact ⟨a, e2⟩
theorem LR.dct {n : Nat} {kvs : List (D × D)} {v : V} (k : Le Z H) (h : LR P os Z H n (.dct kvs) v) : ∃ a, v = .ref a ∧ DctR P os Z H kvs a := by
  have key : Rep P os Z (.dct kvs) v → ∃ a, v = .ref a ∧ DctR P os Z H kvs a := fun h => by
    obtain ⟨a, e, r⟩ := h.dct
    exact ⟨a, e, r.step Le.refl Ext.refl fun o => k a o⟩
  cases n with
  | zero => exact key h
  | succ n =>
    rcases h with h | ⟨_, _, _, e, _⟩ | ⟨a, kvs', e, e2, _, r⟩
    · exact key h
    · cases e
    · cases e; exact ⟨a, e2, r⟩
theorem Rep.tup {ds : List D} {v : V} (h : Rep P os Z (.tup ds) v) : ∃ a vs, v = .ref a ∧ Z a = some (.tup vs) ∧ Reps P os Z ds vs := by unfold Rep at h; exact h
theorem Rep.lst {ds : List D} {v : V} (h : Rep P os Z (.lst ds) v) : ∃ a vs, v = .ref a ∧ Z a = some (.lst vs) ∧ Reps P os Z ds vs := by unfold Rep at h; exact h
theorem Rep.scr {ns : List Int} {v : V} (h : Rep P os Z (.scr ns) v) : ∃ a, v = .ref a ∧ SqL P.K Z a (ns.map V.int) := by unfold Rep at h; exact h
theorem LR.tup {n : Nat} {ds : List D} {v : V} (k : Le Z H) (h : LR P os Z H n (.tup ds) v) : ∃ a vs, v = .ref a ∧ H a = some (.tup vs) ∧ Reps P os Z ds vs := by
  obtain ⟨a, vs, e, s, r⟩ := (h.notLst rfl).tup
  exact ⟨a, vs, e, k _ _ s, r⟩
theorem paired_rep {n : Nat} {ds : List D} {vs : List V} (r : Reps P os Z ds vs) : Paired (LR P os Z H n) ds vs := paired_imp (fun _ _ h => LR.of h) (reps_paired.mp r)
/-- a list that is looked at, its items -/
theorem LR.lstN {n : Nat} {ds : List D} {v : V} (k : Le Z H) (h : LR P os Z H (n + 1) (.lst ds) v) : ∃ a vs, v = .ref a ∧ H a = some (.lst vs) ∧ Paired (LR P os Z H n) ds vs := by
  rcases h with h | ⟨a, vs, ds', e1, e2, na, hh, r⟩ | ⟨_, _, e, _⟩
  · obtain ⟨a, vs, e, s, r⟩ := h.lst
    exact ⟨a, vs, e, k _ _ s, paired_rep r⟩
  · cases e1
    exact ⟨a, vs, e2, hh, r⟩
  · cases e
theorem LR.lst {ds : List D} {v : V} (k : Le Z H) (h : LR P os Z H 1 (.lst ds) v) : ∃ a vs, v = .ref a ∧ H a = some (.lst vs) ∧ Reps P os Z ds vs := by
  obtain ⟨a, vs, e, s, r⟩ := h.lstN k
  exact ⟨a, vs, e, s, reps_paired.mpr r⟩
theorem LR.len {n : Nat} {ds : List D} {v : V} (k : Le Z H) (h : LR P os Z H n (.lst ds) v) : ∃ a vs, v = .ref a ∧ H a = some (.lst vs) ∧ ds.length = vs.length := by
  obtain ⟨a, vs, e, s, r⟩ := (h.up).lstN k
  exact ⟨a, vs, e, s, Paired.length r⟩

theorem lim_eq : lim = sizeLine := by rw [sizeLine_eq]; rfl
theorem Paired.flatten {α β : Type} {F : α → β → Prop} {xs : List α} {ys : List β} (h : Paired F xs ys) : ∀ n : Nat, Paired F (List.replicate n xs).flatten (List.replicate n ys).flatten
  | 0 => .nil
  | n + 1 => by
    rw [List.replicate_succ, List.replicate_succ, List.flatten_cons, List.flatten_cons]
    exact Paired.app h (Paired.flatten h n)

/-! ### binary operators -/
def opB : Bop → Operator
  | .add => .Add
  | .sub => .Sub
  | .mul => .Mult
  | .fdiv => .FloorDiv
  | .mod => .Mod
  | .pow => .Pow
/-- t * k, k = 1 gives t itself -/
def rRepT1 (K : PySem.W.Frag) : R2 := fun x y H Q => rRepT K x y H Q ∨ ∃ a xs, x = .ref a ∧ y = .int 1 ∧ SqT K H a xs ∧ xs ≠ [] ∧ Q (.ref a) H
def rBin (K : PySem.W.Frag) : Bop → R2
  | .add => fun x y H Q => rI0 (fun i j => .int (i + j)) x y H Q ∨ ((∃ i j, x = .str i ∧ y = .str j ∧ i.length + j.length ≤ sizeLine ∧ Q (.str (i ++ j)) H) ∨ (rCatA K x y H Q ∨ rCat x y H Q))
  | .sub => rI0 fun i j => .int (i - j)
  | .mul => fun x y H Q => rI CMul (fun i j => .int (i * j)) x y H Q ∨ (rI CMulW (fun i j => .int (i * j)) x y H Q ∨ (rRep x y H Q ∨ rRepT1 K x y H Q))
  | .fdiv => rI CDivW fun i j => .int (i / j)
  | .mod => rI (fun _ j => 0 < j) fun i j => .int (i % j)
  | .pow => rI CPow fun i j => .int (i ^ j.toNat)
end
section
open PySem.Spec PyProof.Rows
theorem tuple_mul1 (l : Addr) (items : Array Value) (n : Nat) (dd : Option Addr) (sl : Array (Option Value)) (u : Tok) :
    Meets (Builtin.«tuple.__mul__» ⟨[.ref l, .int 1 u], []⟩) (fun _ R s => s.heap.get? l = some { cls := .type "tuple", dict := dd, data := .seq items n, slots := sl } ∧
      R (.ok (.ret (Value.ref l))) s) :=
  .of_wp fun prog w A R s h => by
    obtain ⟨hp, g, d, tk, os⟩ := s
    obtain ⟨hl, h⟩ := h
    have f1 := AutoSeq1.idx_int
    have c0 : (decide ((1 : Int) < -(2 ^ 63)) || decide ((1 : Int) ≥ 2 ^ 63)) = false := by decide
    have c1 : (items.isEmpty || (1 : Int) == 1) = true := by simp
    wp_walk using wpAny_loadPart' hl
    repeat (first
      | (refine wpAny_ite_false (decide_eq_false (by rw [c0]; exact Bool.false_ne_true)) ?_; wp_walk using wpAny_loadPart' hl)
      | (refine wpAny_ite_true (decide_eq_true c1) ?_; wp_walk using wpAny_loadPart' hl))
    exact ⟨_, rfl, h⟩
theorem op_repT1 {X : Cx} : OpR X (binaryOp .Mult) (fun x y H Q => ∃ a xs, x = .ref a ∧ y = .int 1 ∧ SqT X.K H a xs ∧ xs ≠ [] ∧ Q (.ref a) H) := by
  intro pins s σ H x y v u Q I rx ry h
  obtain ⟨l, xs, rfl, rfl, hT, hne, q⟩ := h
  cases rx
  obtain ⟨t, rfl⟩ := ry
  obtain ⟨its, r, ⟨⟨cls, dd, data, sl⟩, ho, hc, n, hd⟩, hs⟩ := I.tuple hT
  simp only at hc hd
  subst hc hd
  exact wpAny_binaryOp_repeat_ref (T := "tuple") (U := "int") (by decide) ⟨_, ho, rfl⟩ (fun s' => typeIs_int s' 1 t) noFill_tuple_mul F.fills_int_mul F.slot_int_rmul repeat_tuple F.slot_int_index.lookup
    (call_meets F.slot_int_rmul (typeIs_int s 1 t) F.entry_int_rmul (F.args_int_rmul_2 _ _) (int_rmul_tuple 1 t l its.toArray n dd sl)
      ⟨ho, rfl, ⟨_, ho, rfl⟩, call_meets F.slot_tuple_mul ⟨_, ho, rfl⟩ F.entry_tuple_mul (F.args_tuple_mul_2 _ _) (tuple_mul1 l its.toArray n dd sl t) ⟨ho, ⟨.ref l, H, I, rfl, q⟩⟩⟩)
theorem rBin_ok {X : Cx} : ∀ o : Bop, OpR X (binaryOp (opB o)) (rBin X.K o)
  | .add => op_add.or (op_add_str.or (op_catA.or op_cat))
  | .sub => op_sub
  | .mul => op_mul.or (op_mulW.or (op_rep.or (op_repT.or op_repT1)))
  | .fdiv => op_fdivW
  | .mod => op_mod
  | .pow => op_pow
end
section
variable {P : Pm} {os os' : List Addr} {Z Z' H H' : Hp} {w : Wd} {X : Cx} {Q : VK}
theorem guardO_some {b : Bool} {x d : D} (h : guardO b (some x) = some d) : b = true ∧ d = x := by
  unfold guardO at h
  cases b with
  | true => simp only [if_true] at h; cases h; exact ⟨rfl, rfl⟩
  | false => simp at h
theorem bin_ok {o : Bop} {dx dy d : D} {x y : V} (k : Ok P os w Z H) (rx : LR P os Z H 1 dx x) (ry : LR P os Z H 1 dy y) (e : D.bin o dx dy = some d) (q : Wn P os Z H w d Q) : rBin P.K o x y H Q := by
  have h := lim_eq
  cases o with
  | add =>
    cases dx <;> cases dy <;> first | (cases e; done) | skip
    case int.int i j => cases e; exact .inl ⟨i, j, rx.int, ry.int, q.int k⟩
    case str.str i j =>
      obtain ⟨e1, rfl⟩ := guardO_some e
      exact .inr (.inl ⟨i, j, rx.str, ry.str, by rw [← h]; exact of_decide_eq_true e1, q.str k⟩)
    case tup.tup xs ys =>
      obtain ⟨e1, rfl⟩ := guardO_some e
      obtain ⟨a, vs, rfl, ha, ra⟩ := rx.tup k.zh
      obtain ⟨b, us, rfl, hb, rb⟩ := ry.tup k.zh
      have hl : vs.length + us.length ≤ sizeLine := by rw [← ra.length, ← rb.length, ← h]; exact of_decide_eq_true e1
      refine .inr (.inr (.inl ⟨a, b, vs, us, rfl, rfl, .of ha, .of hb, hl, fun e => ?_, fun _ e => ?_, fun _ _ p hp => q.tup k hp (ra.append rb)⟩))
      · have e2 : xs = [] := List.eq_nil_of_length_eq_zero (by rw [ra.length, e]; rfl)
        subst e2
        exact q.val k rfl (ry.notLst rfl)
      · have e2 : ys = [] := List.eq_nil_of_length_eq_zero (by rw [rb.length, e]; rfl)
        subst e2
        refine q.val k rfl ?_
        rw [List.append_nil]
        exact rx.notLst rfl
    case lst.lst xs ys =>
      obtain ⟨e1, rfl⟩ := guardO_some e
      obtain ⟨a, vs, rfl, ha, ra⟩ := rx.lst k.zh
      obtain ⟨b, us, rfl, hb, rb⟩ := ry.lst k.zh
      have hl : vs.length + us.length ≤ sizeLine := by rw [← ra.length, ← rb.length, ← h]; exact of_decide_eq_true e1
      exact .inr (.inr (.inr ⟨a, b, vs, us, rfl, rfl, ha, hb, hl, fun p hp => q.lst k hp (ra.append rb)⟩))
  | sub =>
    cases dx <;> cases dy <;> first | (cases e; done) | skip
    case int.int i j => cases e; exact ⟨i, j, rx.int, ry.int, q.int k⟩
  | mul =>
    cases dx <;> cases dy <;> first | (cases e; done) | skip
    case int.int i j =>
      obtain ⟨e1, rfl⟩ := guardO_some e
      unfold okMul smallI at e1
      simp only [Bool.or_eq_true, Bool.and_eq_true, decide_eq_true_eq] at e1
      rcases e1 with (e1 | e1) | e1
      · exact .inl ⟨i, j, rx.int, ry.int, .inl e1, q.int k⟩
      · exact .inl ⟨i, j, rx.int, ry.int, .inr e1, q.int k⟩
      · exact .inr (.inl ⟨i, j, rx.int, ry.int, by unfold CMulW; omega, q.int k⟩)
    case lst.int xs i =>
      obtain ⟨e1, rfl⟩ := guardO_some e
      simp only [Bool.and_eq_true, decide_eq_true_eq] at e1
      obtain ⟨a, vs, rfl, ha, ra⟩ := rx.lst k.zh
      refine .inr (.inr (.inl ⟨a, i, vs, rfl, ry.int, ha, by omega, by omega, ?_, fun p hp => q.lst k hp (reps_paired.mpr (Paired.flatten (reps_paired.mp ra) _))⟩))
      have hl := ra.length
      rw [sizeLine_eq]
      have : vs.length * i.toNat ≤ 1000 * 1000 := Nat.mul_le_mul (by omega) (by omega)
      omega
    case tup.int xs i =>
      obtain ⟨e1, rfl⟩ := guardO_some e
      simp only [Bool.and_eq_true, decide_eq_true_eq] at e1
      obtain ⟨a, vs, rfl, ha, ra⟩ := rx.tup k.zh
      have hne : vs ≠ [] := by
        intro z; subst z
        have := ra.length
        cases xs with
        | nil => simp at e1
        | cons _ _ => simp at this
      by_cases h1 : i = 1
      · subst h1
        refine .inr (.inr (.inr (.inr ⟨a, vs, rfl, ry.int, .of ha, hne, q.val k rfl ?_⟩)))
        simp only [Int.toNat_one, List.replicate_one, List.flatten_singleton]
        exact rx.notLst rfl
      · refine .inr (.inr (.inr (.inl ⟨a, i, vs, rfl, ry.int, .of ha, hne, by omega, by omega, ?_, fun p hp => q.tup k hp (reps_paired.mpr (Paired.flatten (reps_paired.mp ra) _))⟩)))
        rw [← ra.length]; omega
  | fdiv =>
    cases dx <;> cases dy <;> first | (cases e; done) | skip
    case int.int i j =>
      obtain ⟨e1, rfl⟩ := guardO_some e
      unfold okDiv at e1
      simp only [Bool.and_eq_true, decide_eq_true_eq] at e1
      exact ⟨i, j, rx.int, ry.int, ⟨e1.1, by omega⟩, q.int k⟩
  | mod =>
    cases dx <;> cases dy <;> first | (cases e; done) | skip
    case int.int i j =>
      obtain ⟨e1, rfl⟩ := guardO_some e
      exact ⟨i, j, rx.int, ry.int, of_decide_eq_true e1, q.int k⟩
  | pow =>
    cases dx <;> cases dy <;> first | (cases e; done) | skip
    case int.int i j =>
      obtain ⟨e1, rfl⟩ := guardO_some e
      simp only [Bool.and_eq_true, decide_eq_true_eq] at e1
      exact ⟨i, j, rx.int, ry.int, ⟨e1.1.1, e1.1.2, e1.2⟩, q.int k⟩
end
end VI

set_option Elab.async false
set_option linter.all false
set_option maxRecDepth 100000
/-! VI, part 3d: dicts, by data. -/
namespace VI
open PySem L2
section
variable {P : Pm} {os os' : List Addr} {Z Z' H H' : Hp} {w : Wd} {X : Cx} {Q : VK}
mutual
theorem rep_nk : ∀ (d : D) (n : Nat) (v : V), D.kok n d = true → Rep P os Z d v → NkV Z (nk d) v
  | .non, n, v, _, r => by unfold Rep at r; subst r; unfold nk NkV; rfl
  | .int i, n, v, _, r => by unfold Rep at r; subst r; unfold nk NkV; rfl
  | .str x, n, v, _, r => by unfold Rep at r; subst r; unfold nk NkV; rfl
  | .tup ds, n, v, h, r => by
    obtain ⟨m, rfl, h2⟩ := kok_tup h
    obtain ⟨a, vs, rfl, s, rr⟩ := r.tup
    unfold nk NkV
    exact ⟨a, vs, rfl, s, reps_nks ds m vs h2 rr⟩
  | .bl _, m, _, h, _ => by cases m <;> cases h
  | .lst _, m, _, h, _ => by cases m <;> cases h
  | .dct _, m, _, h, _ => by cases m <;> cases h
  | .fn _, m, _, h, _ => by cases m <;> cases h
  | .obj _, m, _, h, _ => by cases m <;> cases h
  | .scr _, m, _, h, _ => by cases m <;> cases h
theorem reps_nks : ∀ (ds : List D) (n : Nat) (vs : List V), allKok n ds → Reps P os Z ds vs → NksV Z (nks ds) vs
  | [], n, vs, _, r => by unfold Reps at r; subst r; unfold nks NksV; rfl
  | d :: ds, n, vs, h, r => by
    unfold Reps at r
    obtain ⟨v, t, rfl, r1, r2⟩ := r
    unfold nks NksV
    exact ⟨v, t, rfl, rep_nk d n v (h d (.head _)) r1, reps_nks ds n t (fun x hx => h x (.tail _ hx)) r2⟩
end
mutual
theorem nk_rep : ∀ (d : D) (n : Nat) (v : V), D.kok n d = true → NkV Z (nk d) v → Rep P os Z d v
  | .non, n, v, _, r => by unfold nk NkV at r; subst r; unfold Rep; rfl
  | .int i, n, v, _, r => by unfold nk NkV at r; subst r; unfold Rep; rfl
  | .str x, n, v, _, r => by unfold nk NkV at r; subst r; unfold Rep; rfl
  | .tup ds, n, v, h, r => by
    obtain ⟨m, rfl, h2⟩ := kok_tup h
    unfold nk NkV at r
    obtain ⟨a, vs, rfl, s, rr⟩ := r
    unfold Rep
    exact ⟨a, vs, rfl, s, nks_reps ds m vs h2 rr⟩
  | .bl _, m, _, h, _ => by cases m <;> cases h
  | .lst _, m, _, h, _ => by cases m <;> cases h
  | .dct _, m, _, h, _ => by cases m <;> cases h
  | .fn _, m, _, h, _ => by cases m <;> cases h
  | .obj _, m, _, h, _ => by cases m <;> cases h
  | .scr _, m, _, h, _ => by cases m <;> cases h
theorem nks_reps : ∀ (ds : List D) (n : Nat) (vs : List V), allKok n ds → NksV Z (nks ds) vs → Reps P os Z ds vs
  | [], n, vs, _, r => by unfold nks NksV at r; subst r; unfold Reps; rfl
  | d :: ds, n, vs, h, r => by
    unfold nks NksV at r
    obtain ⟨v, t, rfl, r1, r2⟩ := r
    unfold Reps
    exact ⟨v, t, rfl, nk_rep d n v (h d (.head _)) r1, nks_reps ds n t (fun x hx => h x (.tail _ hx)) r2⟩
end
/-- a key's value is where it lies -/
theorem key_ok {d : D} {v : V} (h : D.key d = true) (r : Rep P os Z d v) : ∃ b, v = .ref b ∧ KeyOk Z (nk d) b := by
  obtain ⟨h1, ds, rfl⟩ := key_kok h
  have r1 := rep_nk _ 6 v h1 r
  obtain ⟨a, vs, rfl, _⟩ := r.tup
  exact ⟨a, rfl, r1, Nat.le_trans (nk_depth _ 6 h1) (by decide)⟩
theorem KeyOk.mono {Z Z' : Hp} (hz : Le Z Z') {k : NestedKey} {b : Addr} (h : KeyOk Z k b) : KeyOk Z' k b := ⟨NkV.mono (fun a xs e => hz a _ e) h.1, h.2⟩
theorem eqv_keys {a b : D} (h : D.key a = true) (g : D.key b = true) : D.eqv a b = decide (nk a = nk b) := eqv_nk a b 6 6 (key_kok h).1 (key_kok g).1
theorem dget_find {k : D} (hk : D.key k = true) : ∀ {kvs : List (D × D)} {qs : List Row}, Paired (RepK P os Z) kvs qs → match dget kvs k with
    | some d => ∃ q, findQ qs (nk k) = some q ∧ Rep P os Z d q.2.2
    | none => findQ qs (nk k) = none
  | _, _, .nil => rfl
  | p :: kvs, q :: qs, .cons h t => by
    have ih := dget_find hk t
    obtain ⟨kk, d⟩ := p
    unfold RepK at h
    obtain ⟨h1, h2, h3⟩ := h
    unfold dget findQ at *
    by_cases c : nk kk = nk k
    · have c1 : D.eqv kk k = true := by rw [eqv_keys h1 hk, c]; simp
      rw [List.find?_cons_of_pos (by simpa using c1), List.find?_cons_of_pos (by simpa [h2] using c)]
      exact ⟨q, rfl, h3⟩
    · have c1 : ¬ D.eqv kk k = true := by rw [eqv_keys h1 hk]; simpa using c
      rw [List.find?_cons_of_neg (by simpa using c1), List.find?_cons_of_neg (by simpa [h2] using c)]
      exact ih
theorem dget_some {k d : D} {kvs : List (D × D)} {qs : List Row} (hk : D.key k = true) (h : Paired (RepK P os Z) kvs qs) (e : dget kvs k = some d) : ∃ q, findQ qs (nk k) = some q ∧ Rep P os Z d q.2.2 := by
  have := dget_find hk h; rw [e] at this; exact this
theorem dget_none {k : D} {kvs : List (D × D)} {qs : List Row} (hk : D.key k = true) (h : Paired (RepK P os Z) kvs qs) (e : dget kvs k = none) : findQ qs (nk k) = none := by
  have := dget_find hk h; rw [e] at this; exact this
theorem dget_is {k : D} {kvs : List (D × D)} {qs : List Row} (hk : D.key k = true) (h : Paired (RepK P os Z) kvs qs) : (findQ qs (nk k)).isSome = (dget kvs k).isSome := by
  cases e : dget kvs k with
  | none => rw [dget_none hk h e]; rfl
  | some d => obtain ⟨q, e1, _⟩ := dget_some hk h e; rw [e1]; rfl
theorem any_is {k : D} {kvs : List (D × D)} : (kvs.any fun p => D.eqv p.1 k) = (dget kvs k).isSome := by
  unfold dget
  induction kvs with
  | nil => rfl
  | cons p kvs ih =>
    rw [List.any_cons]
    by_cases c : D.eqv p.1 k = true
    · rw [List.find?_cons_of_pos (by simpa using c), c]; rfl
    · rw [List.find?_cons_of_neg (by simpa using c), ih]
      simp [c]
theorem dput_map {k d : D} {v : V} (hk : D.key k = true) (rd : Rep P os Z d v) : ∀ {kvs : List (D × D)} {qs : List Row}, Paired (RepK P os Z) kvs qs →
    Paired (RepK P os Z) (kvs.map fun p => if D.eqv p.1 k then (p.1, d) else p) (qs.map fun q => if q.1 = nk k then (q.1, q.2.1, v) else q)
  | _, _, .nil => .nil
  | (kk, d') :: kvs, q :: qs, .cons h t => by
    have ih := dput_map hk rd t
    unfold RepK at h
    obtain ⟨h1, h2, h3⟩ := h
    refine .cons ?_ ih
    by_cases c : nk kk = nk k
    · have c1 : D.eqv kk k = true := by rw [eqv_keys h1 hk, c]; simp
      simp only [c1, if_true, h2, c]
      unfold RepK
      exact ⟨h1, c.symm, rd⟩
    · have c1 : ¬ D.eqv kk k = true := by rw [eqv_keys h1 hk]; simpa using c
      simp only [if_neg c1, h2, if_neg c]
      unfold RepK
      exact ⟨h1, h2, h3⟩
/-- the rows when a key is given a value -/
theorem dput_rows {k d : D} {b : Addr} {v : V} {kvs : List (D × D)} {qs : List Row} (hk : D.key k = true) (rd : Rep P os Z d v) (h : Paired (RepK P os Z) kvs qs) : Paired (RepK P os Z) (dput kvs k d) (storeQ qs (nk k) b v) := by
  unfold dput storeQ
  rw [any_is, dget_is hk h]
  split
  · exact dput_map hk rd h
  · refine Paired.app h (.cons ?_ .nil)
    unfold RepK
    exact ⟨hk, rfl, rd⟩
theorem store_rws {w : World} {k : NestedKey} {b : Addr} {v : V} {qs : List Row} {es es' : Array DictEntry} (hk : KeyOk Z k b) (h : Rws w Z qs es) (hl : qs.length < sizeLine) (he : Paired (EntV w) (storeQ qs k b v) es'.toList) : Rws w Z (storeQ qs k b v) es' := by
  refine ⟨he, fun q hq => ?_, ?_, ?_⟩
  · unfold storeQ at hq
    split at hq
    · obtain ⟨q0, h0, rfl⟩ := List.mem_map.mp hq
      have := h.key q0 h0
      by_cases c : q0.1 = k
      · rw [if_pos c]; exact this
      · rw [if_neg c]; exact this
    · rcases List.mem_append.mp hq with hq | hq
      · exact h.key q hq
      · rcases List.mem_singleton.mp hq with rfl
        exact hk
  · rw [storeQ_keys]
    split
    · exact h.nd
    · rename_i c
      refine List.nodup_append.mpr ⟨h.nd, by simp, fun a ha c' hc e => ?_⟩
      rcases List.mem_singleton.mp hc with rfl
      subst e
      obtain ⟨q, hq, e⟩ := List.mem_map.mp ha
      refine c ?_
      unfold findQ
      rw [List.find?_isSome]
      exact ⟨q, hq, by simpa using e⟩
  · unfold storeQ
    split
    · rw [List.length_map]; omega
    · rw [List.length_append]; simp; omega
theorem rws_nil {w : World} : Rws w Z [] #[] := ⟨.nil, fun q h => (nomatch h), List.nodup_nil, Nat.zero_le _⟩
theorem storeQ_le {k : NestedKey} {b : Addr} {v : V} {qs : List Row} : (storeQ qs k b v).length ≤ qs.length + 1 := by
  unfold storeQ
  split
  · rw [List.length_map]; omega
  · rw [List.length_append]; simp
end
end VI

set_option Elab.async false
set_option linter.all false
set_option maxRecDepth 100000
/-! VI, part 4: comparisons, by data. -/
namespace VI
open PySem L2
theorem toPys_map : ∀ ds : List D, toPys ds = ds.map toPy
  | [] => rfl
  | d :: ds => by unfold toPys; rw [toPys_map ds, List.map_cons]
/-- what D.ok says, by places -/
def allOk (n : Nat) (ds : List D) : Prop := ∀ d ∈ ds, D.ok n d = true
theorem ok_lst {n : Nat} {ds : List D} (h : D.ok n (.lst ds) = true) : ∃ m, n = m + 1 ∧ allOk m ds := by
  cases n with
  | zero => cases h
  | succ n => exact ⟨n, rfl, List.all_eq_true.mp h⟩
theorem ok_tup {n : Nat} {ds : List D} (h : D.ok n (.tup ds) = true) : ∃ m, n = m + 1 ∧ allOk m ds := by
  cases n with
  | zero => cases h
  | succ n => exact ⟨n, rfl, List.all_eq_true.mp h⟩
theorem ok_str {n : Nat} {x : Str} (h : D.ok n (.str x) = true) : PyData.strOk x = true := by
  cases n <;> exact h
mutual
theorem lay_of : ∀ (d : D) (n : Nat), D.ok n d = true → (toPy d).canLay0 = true ∧ (toPy d).depth ≤ n
  | .non, n, _ => by unfold toPy PyData.canLay0 PyData.depth; exact ⟨rfl, Nat.zero_le _⟩
  | .bl b, n, _ => by unfold toPy PyData.canLay0 PyData.depth; exact ⟨rfl, Nat.zero_le _⟩
  | .int i, n, _ => by unfold toPy PyData.canLay0 PyData.depth; exact ⟨rfl, Nat.zero_le _⟩
  | .str x, n, h => by unfold toPy PyData.canLay0 PyData.depth; exact ⟨ok_str h, Nat.zero_le _⟩
  | .tup ds, n, h => by
    obtain ⟨m, rfl, h2⟩ := ok_tup h
    obtain ⟨a, b⟩ := lays_of ds m h2
    unfold toPy PyData.canLay0 PyData.depth
    exact ⟨a, by omega⟩
  | .lst ds, n, h => by
    obtain ⟨m, rfl, h2⟩ := ok_lst h
    obtain ⟨a, b⟩ := lays_of ds m h2
    unfold toPy PyData.canLay0 PyData.depth
    exact ⟨a, by omega⟩
  | .dct _, n, h => by cases n <;> cases h
  | .fn _, n, h => by cases n <;> cases h
  | .obj _, n, h => by cases n <;> cases h
  | .scr _, n, h => by cases n <;> cases h
theorem lays_of : ∀ (ds : List D) (n : Nat), allOk n ds → PyData.canLayAll0 (toPys ds) = true ∧ PyData.depthAll (toPys ds) ≤ n
  | [], n, _ => by unfold toPys PyData.canLayAll0 PyData.depthAll; exact ⟨rfl, Nat.zero_le _⟩
  | d :: ds, n, h => by
    obtain ⟨a, b⟩ := lay_of d n (h d List.mem_cons_self)
    obtain ⟨a2, b2⟩ := lays_of ds n fun e he => h e (List.mem_cons_of_mem _ he)
    unfold toPys PyData.canLayAll0 PyData.depthAll
    exact ⟨by rw [a, a2]; rfl, by omega⟩
end
theorem shaped_of {d : D} (h : D.ok dpt d = true) : SeqAt.shaped (toPy d) = true := by
  obtain ⟨a, b⟩ := lay_of d dpt h
  unfold SeqAt.shaped
  rw [a, Bool.true_and]
  exact decide_eq_true (Nat.le_trans b (by decide))
mutual
theorem eqv_py : ∀ (d e : D) (m n : Nat), D.ok m d = true → D.ok n e = true → PyData.eqv (toPy d) (toPy e) = D.eqv d e
  | .non, e, m, n, _, h => by cases e <;> first | (simp only [toPy, PyData.eqv, D.eqv]; done) | (exfalso; cases n <;> cases h; done)
  | .bl b, e, m, n, _, h => by cases e <;> first | (simp only [toPy, PyData.eqv, D.eqv]; done) | (exfalso; cases n <;> cases h; done)
  | .int i, e, m, n, _, h => by cases e <;> first | (simp only [toPy, PyData.eqv, D.eqv]; done) | (exfalso; cases n <;> cases h; done)
  | .str x, e, m, n, _, h => by cases e <;> first | (simp only [toPy, PyData.eqv, D.eqv]; done) | (exfalso; cases n <;> cases h; done)
  | .tup ds, e, m, n, g, h => by
    obtain ⟨m, rfl, g2⟩ := ok_tup g
    cases e <;> first | (simp only [toPy, PyData.eqv, D.eqv]; done) | (exfalso; cases n <;> cases h; done) | skip
    rename_i es
    obtain ⟨n, rfl, h2⟩ := ok_tup h
    simp only [toPy, PyData.eqv, D.eqv]
    exact eqvs_py ds es m n g2 h2
  | .lst ds, e, m, n, g, h => by
    obtain ⟨m, rfl, g2⟩ := ok_lst g
    cases e <;> first | (simp only [toPy, PyData.eqv, D.eqv]; done) | (exfalso; cases n <;> cases h; done) | skip
    rename_i es
    obtain ⟨n, rfl, h2⟩ := ok_lst h
    simp only [toPy, PyData.eqv, D.eqv]
    exact eqvs_py ds es m n g2 h2
  | .dct _, _, m, _, h, _ => by cases m <;> cases h
  | .fn _, _, m, _, h, _ => by cases m <;> cases h
  | .obj _, _, m, _, h, _ => by cases m <;> cases h
  | .scr _, _, m, _, h, _ => by cases m <;> cases h
theorem eqvs_py : ∀ (ds es : List D) (m n : Nat), allOk m ds → allOk n es → PyData.eqvAll (toPys ds) (toPys es) = D.eqvs ds es
  | [], [], _, _, _, _ => by simp only [toPys, PyData.eqvAll, D.eqvs]
  | [], _ :: _, _, _, _, _ => by simp only [toPys, PyData.eqvAll, D.eqvs]
  | _ :: _, [], _, _, _, _ => by simp only [toPys, PyData.eqvAll, D.eqvs]
  | d :: ds, e :: es, m, n, g, h => by
    simp only [toPys, PyData.eqvAll, D.eqvs]
    rw [eqv_py d e m n (g d List.mem_cons_self) (h e List.mem_cons_self), eqvs_py ds es m n (fun x hx => g x (List.mem_cons_of_mem _ hx)) fun x hx => h x (List.mem_cons_of_mem _ hx)]
end
section
variable {P : Pm} {os os' : List Addr} {Z Z' H H' : Hp} {w : Wd} {X : Cx} {Q : VK}
mutual
theorem Rep.dp (k : Le Z H) : ∀ (d : D) (n : Nat) (v : V), D.ok n d = true → Rep P os Z d v → Dp P.K H v (toPy d)
  | .non, n, v, _, r => by unfold Rep at r; subst r; unfold toPy; exact .non
  | .bl b, n, v, _, r => by unfold Rep at r; subst r; unfold toPy; exact .bl b
  | .int i, n, v, _, r => by unfold Rep at r; subst r; unfold toPy; exact .int i
  | .str x, n, v, _, r => by unfold Rep at r; subst r; unfold toPy; exact .str x
  | .tup ds, n, v, h, r => by
    obtain ⟨m, rfl, h2⟩ := ok_tup h
    obtain ⟨a, vs, rfl, s, rr⟩ := r.tup
    unfold toPy
    exact .tup (.of (k _ _ s)) (Reps.dp k ds m vs h2 rr)
  | .lst ds, n, v, h, r => by
    obtain ⟨m, rfl, h2⟩ := ok_lst h
    obtain ⟨a, vs, rfl, s, rr⟩ := r.lst
    unfold toPy
    exact .lst (.of (k _ _ s)) (Reps.dp k ds m vs h2 rr)
  | .dct _, n, _, h, _ => by cases n <;> cases h
  | .fn _, n, _, h, _ => by cases n <;> cases h
  | .obj _, n, _, h, _ => by cases n <;> cases h
  | .scr _, n, _, h, _ => by cases n <;> cases h
theorem Reps.dp (k : Le Z H) : ∀ (ds : List D) (n : Nat) (vs : List V), allOk n ds → Reps P os Z ds vs → DpAll P.K H vs (toPys ds)
  | [], n, vs, _, r => by unfold Reps at r; subst r; unfold toPys; exact .nil
  | d :: ds, n, vs, h, r => by
    unfold Reps at r
    obtain ⟨v, t, rfl, r1, r2⟩ := r
    unfold toPys
    exact .cons (Rep.dp k d n v (h d List.mem_cons_self) r1) (Reps.dp k ds n t (fun x hx => h x (List.mem_cons_of_mem _ hx)) r2)
end
theorem LR.dp (k : Le Z H) {d : D} {n : Nat} {v : V} (h : D.ok n d = true) (r : LR P os Z H 1 d v) : Dp P.K H v (toPy d) := by
  rcases r with r | ⟨a, vs, ds, rfl, rfl, na, hh, r⟩ | ⟨_, _, rfl, _⟩
  · exact r.dp k d n v h
  · obtain ⟨m, rfl, h2⟩ := ok_lst h
    unfold toPy
    exact .lst (.of hh) (Reps.dp k ds m vs h2 (reps_paired.mpr r))
  · cases n <;> cases h
/-- x in a tuple, at any depth -/
def rInT (K : PySem.W.Frag) (neg : Bool) : R2 := fun x y H Q => ∃ d ds, Dp K H x d ∧ Dp K H y (.tuple ds) ∧ SeqAt.shaped d = true ∧ SeqAt.shaped (.tuple ds) = true ∧ Q (.bl (if neg then !ds.any fun z => PyData.eqv z d else ds.any fun z => PyData.eqv z d)) H
theorem op_inT (hu : X.A.units + 65 < cLine) : OpR X (compareOp .In) (rInT X.K false) := by
  intro pins s σ H x y v u Q I rx ry h
  obtain ⟨d, ds, hd, he, sd, se, q⟩ := h
  obtain ⟨as, r1⟩ := Dp.reads I d x v hd rx
  obtain ⟨bs, r2⟩ := Dp.reads I (.tuple ds) y u he ry
  exact SeqAt.in_tuple_reads r2 r1 (SeqAt.canLay_of_shaped se) (SeqAt.canLay_of_shaped sd) (PyProof.Rows.room_in_shaped sd hu) ⟨.bl _, H, I, rfl, q⟩
theorem op_notInT (hu : X.A.units + 65 < cLine) : OpR X (compareOp .NotIn) (rInT X.K true) := by
  intro pins s σ H x y v u Q I rx ry h
  obtain ⟨d, ds, hd, he, sd, se, q⟩ := h
  obtain ⟨as, r1⟩ := Dp.reads I d x v hd rx
  obtain ⟨bs, r2⟩ := Dp.reads I (.tuple ds) y u he ry
  exact SeqAt.notIn_tuple_reads r2 r1 (SeqAt.canLay_of_shaped se) (SeqAt.canLay_of_shaped sd) (PyProof.Rows.room_in_shaped sd hu) ⟨.bl _, H, I, rfl, q⟩
def opC : Cop → CmpOp
  | .lt => .Lt
  | .le => .LtE
  | .gt => .Gt
  | .ge => .GtE
  | .eq => .Eq
  | .ne => .NotEq
  | .isin => .In
  | .notin => .NotIn
def rCmp (K : PySem.W.Frag) (w : World) : Cop → R2
  | .lt => rI0 fun i j => .bl (decide (i < j))
  | .le => rI0 fun i j => .bl (decide (i ≤ j))
  | .gt => rI0 fun i j => .bl (decide (j < i))
  | .ge => rI0 fun i j => .bl (decide (j ≤ i))
  | .eq => fun x y H Q => rEqD K x y H Q ∨ rEqN x y H Q
  | .ne => fun x y H Q => rNeD K x y H Q ∨ rNeN x y H Q
  | .isin => fun x y H Q => rInN w false x y H Q ∨ (rInD K x y H Q ∨ (rInT K false x y H Q ∨ ∃ (c : Nat) (z : Str), x = .str ⟨#[c]⟩ ∧ y = .str z ∧ Q (.bl (decide (c ∈ z.cps.toList))) H))
  | .notin => fun x y H Q => rInN w true x y H Q ∨ (rNotInD K x y H Q ∨ (rInT K true x y H Q ∨ ∃ (c : Nat) (z : Str), x = .str ⟨#[c]⟩ ∧ y = .str z ∧ Q (.bl (!decide (c ∈ z.cps.toList))) H))
theorem rCmp_ok (hu : X.A.units + 65 < cLine) : ∀ o : Cop, OpR X (compareOp (opC o)) (rCmp X.K X.w o)
  | .lt => op_lt
  | .le => op_le
  | .gt => op_gt
  | .ge => op_ge
  | .eq => (op_eqD (by omega)).or (op_eqN (by omega))
  | .ne => (op_neD (by omega)).or (op_neN (by omega))
  | .isin => (op_inN (by omega)).or ((op_inD hu).or ((op_inT hu).or op_in_sign))
  | .notin => (op_notInN (by omega)).or ((op_notInD hu).or ((op_notInT hu).or op_notIn_sign))
theorem any_py {x : D} {ys : List D} {m n : Nat} (h : D.ok m x = true) (g : allOk n ys) : ((toPys ys).any fun z => PyData.eqv z (toPy x)) = ys.any fun y => D.eqv y x := by
  induction ys with
  | nil => unfold toPys; rfl
  | cons y ys ih =>
    unfold toPys
    rw [List.any_cons, List.any_cons, eqv_py y x n m (g y List.mem_cons_self) h, ih fun z hz => g z (List.mem_cons_of_mem _ hz)]
theorem cmpEq_ok {a b : D} {c : Bool} {x y : V} (k : Le Z H) (rx : LR P os Z H 1 a x) (ry : LR P os Z H 1 b y) (e : D.cmpEq a b = some c) :
    (∃ d e, Dp P.K H x d ∧ Dp P.K H y e ∧ SeqAt.shaped d = true ∧ SeqAt.shaped e = true ∧ PyData.eqv d e = c) ∨
    ∃ a b es ep ep2, x = .ref a ∧ y = .ref b ∧ H a = some (dRaw a es ep) ∧ H b = some (dRaw b #[] ep2) ∧ es.isEmpty = c := by
  unfold D.cmpEq at e
  by_cases h : (D.ok dpt a && D.ok dpt b) = true
  · rw [if_pos h] at e
    cases e
    rw [Bool.and_eq_true] at h
    exact .inl ⟨_, _, rx.dp k h.1, ry.dp k h.2, shaped_of h.1, shaped_of h.2, eqv_py a b _ _ h.1 h.2⟩
  · rw [if_neg h] at e
    cases a <;> first | (cases e; done) | skip
    rename_i kvs
    cases b <;> first | (cases e; done) | skip
    rename_i ks2
    cases ks2 <;> first | (cases e; done) | skip
    cases e
    obtain ⟨a, rfl, es, ep, qs, s1, r1, t1⟩ := rx.dct k
    obtain ⟨b, rfl, es2, ep2, qs2, s2, r2, t2⟩ := ry.dct k
    have e2 : es2 = #[] := by
      cases t2
      have := r2.size
      exact Array.eq_empty_of_size_eq_zero this
    subst e2
    refine .inr ⟨a, b, es, ep, ep2, rfl, rfl, s1, s2, ?_⟩
    have h1 := r1.size
    have h2 := Paired.length t1
    rw [Bool.eq_iff_iff]
    simp only [Array.isEmpty_iff_size_eq_zero, List.isEmpty_iff_length_eq_zero]
    omega
theorem isIn_ok {a b : D} {c : Bool} {x y : V} (k : Le Z H) (rx : LR P os Z H 1 a x) (ry : LR P os Z H 1 b y) (e : D.isIn a b = some c) :
    (∃ d es ep qs b kk, DK P.wo H y x d es ep qs b kk ∧ (findQ qs kk).isSome = c) ∨ (∃ d ds, Dp P.K H x d ∧ Dp P.K H y (.list ds) ∧ SeqAt.shaped d = true ∧ SeqAt.shaped (.list ds) = true ∧ (ds.any fun z => PyData.eqv z d) = c) ∨
    (∃ d ds, Dp P.K H x d ∧ Dp P.K H y (.tuple ds) ∧ SeqAt.shaped d = true ∧ SeqAt.shaped (.tuple ds) = true ∧ (ds.any fun z => PyData.eqv z d) = c) ∨
    ∃ (n : Nat) (z : Str), x = .str ⟨#[n]⟩ ∧ y = .str z ∧ decide (n ∈ z.cps.toList) = c := by
  have seq : ∀ {ys : List D}, D.inSeq a ys = some c → D.ok dpt a = true ∧ D.ok dpt (.lst ys) = true ∧ (ys.any fun y => D.eqv y a) = c := by
    intro ys h
    unfold D.inSeq at h
    by_cases g : (D.ok dpt a && D.ok dpt (.lst ys)) = true
    · rw [if_pos g] at h
      cases h
      rw [Bool.and_eq_true] at g
      exact ⟨g.1, g.2, rfl⟩
    · rw [if_neg g] at h; cases h
  cases b with
  | lst ys =>
    have e' : D.inSeq a ys = some c := by cases a <;> exact e
    obtain ⟨h1, h2, h3⟩ := seq e'
    refine .inr (.inl ⟨toPy a, toPys ys, rx.dp k h1, ?_, shaped_of h1, ?_, ?_⟩)
    · have := ry.dp k h2; unfold toPy at this; exact this
    · have := shaped_of h2; unfold toPy at this; exact this
    · obtain ⟨m, hm, h4⟩ := ok_lst h2
      rw [any_py h1 h4, h3]
  | tup ys =>
    have e' : D.inSeq a ys = some c := by cases a <;> exact e
    obtain ⟨h1, h2, h3⟩ := seq e'
    have h2' : D.ok dpt (.tup ys) = true := h2
    refine .inr (.inr (.inl ⟨toPy a, toPys ys, rx.dp k h1, ?_, shaped_of h1, ?_, ?_⟩))
    · have := ry.dp k h2'; unfold toPy at this; exact this
    · have := shaped_of h2'; unfold toPy at this; exact this
    · obtain ⟨m, hm, h4⟩ := ok_lst h2
      rw [any_py h1 h4, h3]
  | str z =>
    cases a with
    | str t =>
      have e' : signIn t z = some c := e
      unfold signIn at e'
      split at e'
      · rename_i n hn
        cases e'
        refine .inr (.inr (.inr ⟨n, z, ?_, ry.str, rfl⟩))
        rw [rx.str]
        obtain ⟨arr⟩ := t
        have : arr = #[n] := by
          apply Array.ext'
          exact hn
        rw [this]
      · cases e'
    | _ => cases e
  | dct kvs =>
    have e' : (if D.key a then some (dget kvs a).isSome else none) = some c := by cases a <;> exact e
    by_cases hk : D.key a = true
    · rw [if_pos hk] at e'
      cases e'
      obtain ⟨d, rfl, es, ep, qs, s1, r1, t1⟩ := ry.dct k
      obtain ⟨_, ds, hd⟩ := key_kok hk
      obtain ⟨b, rfl, hb⟩ := key_ok hk (rx.notLst (by rw [hd]; rfl))
      exact .inl ⟨d, es, ep, qs, b, nk a, ⟨rfl, rfl, s1, r1.mono k, hb.mono k⟩, dget_is hk t1⟩
    · rw [if_neg hk] at e'; cases e'
  | _ => cases a <;> cases e
theorem cmp_ok {o : Cop} {a b : D} {c : Bool} {x y : V} (k : Ok P os w Z H) (rx : LR P os Z H 1 a x) (ry : LR P os Z H 1 b y) (e : D.cmp o a b = some c) (q : Q (.bl c) H) : rCmp P.K P.wo o x y H Q := by
  cases o with
  | eq =>
    rcases cmpEq_ok k.zh rx ry e with ⟨d, u, h1, h2, h3, h4, rfl⟩ | ⟨a, b, es, ep, ep2, h1, h2, h3, h4, rfl⟩
    · exact .inl ⟨d, u, h1, h2, h3, h4, q⟩
    · exact .inr ⟨a, b, es, ep, ep2, h1, h2, h3, h4, q⟩
  | ne =>
    obtain ⟨c', e1, rfl⟩ := Option.map_eq_some_iff.mp e
    rcases cmpEq_ok k.zh rx ry e1 with ⟨d, u, h1, h2, h3, h4, rfl⟩ | ⟨a, b, es, ep, ep2, h1, h2, h3, h4, rfl⟩
    · exact .inl ⟨d, u, h1, h2, h3, h4, q⟩
    · exact .inr ⟨a, b, es, ep, ep2, h1, h2, h3, h4, q⟩
  | isin =>
    rcases isIn_ok k.zh rx ry e with ⟨d, es, ep, qs, b, kk, h1, rfl⟩ | ⟨d, ds, h1, h2, h3, h4, rfl⟩ | ⟨d, ds, h1, h2, h3, h4, rfl⟩ | ⟨n, z, h1, h2, rfl⟩
    · exact .inl ⟨d, es, ep, qs, b, kk, h1, q⟩
    · exact .inr (.inl ⟨d, ds, h1, h2, h3, h4, q⟩)
    · exact .inr (.inr (.inl ⟨d, ds, h1, h2, h3, h4, q⟩))
    · exact .inr (.inr (.inr ⟨n, z, h1, h2, q⟩))
  | notin =>
    obtain ⟨c', e1, rfl⟩ := Option.map_eq_some_iff.mp e
    rcases isIn_ok k.zh rx ry e1 with ⟨d, es, ep, qs, b, kk, h1, rfl⟩ | ⟨d, ds, h1, h2, h3, h4, rfl⟩ | ⟨d, ds, h1, h2, h3, h4, rfl⟩ | ⟨n, z, h1, h2, rfl⟩
    · exact .inl ⟨d, es, ep, qs, b, kk, h1, q⟩
    · exact .inr (.inl ⟨d, ds, h1, h2, h3, h4, q⟩)
    · exact .inr (.inr (.inl ⟨d, ds, h1, h2, h3, h4, q⟩))
    · exact .inr (.inr (.inr ⟨n, z, h1, h2, q⟩))
  | lt =>
    cases a <;> cases b <;> first | (cases e; done) | skip
    cases e; exact ⟨_, _, rx.int, ry.int, q⟩
  | le =>
    cases a <;> cases b <;> first | (cases e; done) | skip
    cases e; exact ⟨_, _, rx.int, ry.int, q⟩
  | gt =>
    cases a <;> cases b <;> first | (cases e; done) | skip
    cases e; exact ⟨_, _, rx.int, ry.int, q⟩
  | ge =>
    cases a <;> cases b <;> first | (cases e; done) | skip
    cases e; exact ⟨_, _, rx.int, ry.int, q⟩
end
end VI

set_option Elab.async false
set_option linter.all false
set_option maxRecDepth 100000
set_option maxHeartbeats 1000000
/-! VI, part 4s: sorted of alike data of any depth. -/
namespace VI
open PySem L2 PyProof.Rows
theorem insB_perm {α : Type} {lt : α → α → Bool} {x : α} : ∀ {l : List α}, (insB lt x l).Perm (x :: l)
  | [] => .refl _
  | y :: l => by
    unfold insB
    split
    · exact (List.Perm.cons y insB_perm).trans (List.Perm.swap x y l)
    · exact .refl _
theorem isortB_perm {α : Type} {lt : α → α → Bool} : ∀ {l : List α}, (isortB lt l).Perm l
  | [] => .refl _
  | x :: l => insB_perm.trans (List.Perm.cons x isortB_perm)
theorem insB_srtd {α : Type} {lt : α → α → Bool} (O : SrtO.Swo lt) {x : α} : ∀ {l : List α}, SrtO.Srtd lt l → SrtO.Srtd lt (insB lt x l)
  | [], _ => SrtO.srtd_one x
  | y :: l, h => by
    have h2 := List.pairwise_cons.mp h
    unfold insB
    split
    · rename_i q
      refine List.pairwise_cons.mpr ⟨fun z hz => ?_, insB_srtd O h2.2⟩
      rcases List.mem_cons.mp (insB_perm.mem_iff.mp hz) with rfl | hz
      · exact O.asym y z q
      · exact h2.1 z hz
    · rename_i q
      have q : lt y x = false := by simpa using q
      refine List.pairwise_cons.mpr ⟨fun z hz => ?_, h⟩
      rcases List.mem_cons.mp hz with rfl | hz
      · exact q
      · exact O.tr x y z q (h2.1 z hz)
theorem isortB_srtd {α : Type} {lt : α → α → Bool} (O : SrtO.Swo lt) : ∀ {l : List α}, SrtO.Srtd lt (isortB lt l)
  | [] => List.Pairwise.nil
  | x :: l => insB_srtd O (isortB_srtd O)
theorem srtd_uniq {α : Type} {lt : α → α → Bool} (ae : ∀ x y, lt x y = false → lt y x = false → x = y) : ∀ {l m : List α}, SrtO.Srtd lt l → SrtO.Srtd lt m → l.Perm m → l = m
  | [], m, _, _, h => (List.Perm.eq_nil h.symm).symm
  | x :: l, [], _, _, h => absurd h.length_eq (by simp)
  | x :: l, y :: m, hl, hm, h => by
    have e : x = y := by
      rcases List.mem_cons.mp (h.mem_iff.mp (List.mem_cons_self (a := x) (l := l))) with e | hx
      · exact e
      · rcases List.mem_cons.mp (h.mem_iff.mpr (List.mem_cons_self (a := y) (l := m))) with e | hy
        · exact e.symm
        · exact ae x y (SrtO.srtd_head hm x hx) (SrtO.srtd_head hl y hy)
    subst e
    rw [srtd_uniq ae (List.pairwise_cons.mp hl).2 (List.pairwise_cons.mp hm).2 h.cons_inv]


def rSortedD (K : PySem.W.Frag) : List V → Hp → VK → Prop := fun vs H Q => ∃ (a : Addr) (xs : List V) (ds : List PyData), vs = [V.ref a] ∧ SqL K H a xs ∧ DpAll K H xs ds ∧ xs.length = ds.length ∧ PySem.W.AllAlike ds ∧ PySem.W.Sortable ds ∧ (∀ d ∈ ds, d.depth ≤ 60) ∧
  ∀ p, H p = none → Q (.ref p) (upd H p (.lst (((xs.zip ds).mergeSort (PySem.W.dataLe false fun b => b.2)).map (·.1))))
section
variable {X : Cx} {s : Shared}
theorem each_zip {h : Heap} : ∀ {xs : List V} {its : List Value} {ds : List PyData} {as : List Addr}, Vals xs its → xs.length = ds.length → ReadsAll h its ds as →
    PySem.W.EachIs (fun v (b : V × PyData) => RelV b.1 v) its (xs.zip ds) ∧ PySem.W.EachIs (fun v (b : V × PyData) => ∃ as, Reads h v b.2 as) its (xs.zip ds)
  | [], [], [], _, _, _, _ => ⟨.nil, .nil⟩
  | x :: xs, u :: us, d :: ds, as, .cons r t, hl, h => by
    cases h with
    | cons h1 h2 =>
    obtain ⟨e1, e2⟩ := each_zip t (by simpa using hl) h2
    exact ⟨.cons r e1, .cons ⟨_, h1⟩ e2⟩
  | _ :: _, _ :: _, [], _, _, hl, _ => by simp at hl
theorem vals_each : ∀ {out : List Value} {bs : List (V × PyData)}, PySem.W.EachIs (fun v (b : V × PyData) => RelV b.1 v) out bs → Vals (bs.map (·.1)) out
  | _, _, .nil => .nil
  | _, _, .cons r t => .cons r (vals_each t)
theorem zip_snd {xs : List V} {ds : List PyData} (h : xs.length = ds.length) : (xs.zip ds).map (fun b => b.2) = ds := by
  rw [show (fun (b : V × PyData) => b.2) = Prod.snd from rfl, List.map_snd_zip]
  omega
theorem cr_sortedD (hu : X.A.units + 65 < cLine) : CallR X (.builtin "sorted") (rSortedD X.K) := by
  intro pins s σ H vs us Q I r h
  obtain ⟨a, xs, ds, rfl, hs, hd, hlx, hal, hk, hdep, q⟩ := h
  obtain ⟨its, rv, hl, hz⟩ := I.list hs
  obtain ⟨u, rfl, ru⟩ := vals1 r
  obtain rfl : u = Value.ref a := ru
  obtain ⟨as, h4⟩ := Dp.readsAll I ds xs its hd rv
  obtain ⟨e, er⟩ := each_zip rv hlx h4
  have hzl : (xs.zip ds).length = xs.length := by rw [List.length_zip, hlx, Nat.min_self]
  refine PySem.W.sorted_data (R := fun v (b : V × PyData) => RelV b.1 v) (enc := fun b => b.2) hl.isList e er (by rw [zip_snd hlx]; exact hal) (by rw [zip_snd hlx]; exact hk) (by rw [hzl]; exact hz) (fun b hb => ?_) fun out hlen he => ?_
  · have : b.2 ∈ ds := by
      have z : b.2 ∈ (xs.zip ds).map (fun b => b.2) := List.mem_map.mpr ⟨b, hb, rfl⟩
      rwa [zip_snd hlx] at z
    have := hdep _ this
    omega
  · obtain ⟨ep, he'⟩ := PyProof.Rows.sortedAll_at s.heap its out.toArray
    have hll : (((xs.zip ds).mergeSort (PySem.W.dataLe false fun b => b.2)).map (·.1)).length ≤ sizeLine := by
      rw [List.length_map, List.length_mergeSort, hzl]
      exact hz
    exact ⟨.ref _, upd H (s.heap.objs.size + 1) (.lst (((xs.zip ds).mergeSort (PySem.W.dataLe false fun b => b.2)).map (·.1))), I.laid (t' := s.toks) (fun _ _ => PyProof.Rows.sortedAll_old) (Nat.le_succ _) ⟨hll, out, ep, vals_each he, he'⟩, rfl, q _ (I.hok.fresh (Nat.le_succ _))⟩
end


def ltk (d e : PyData) : Bool := PySem.W.dataLt d e
theorem ltk_swo : SrtO.Swo ltk := by
  refine ⟨fun x y h => ?_, fun x y z h1 h2 => ?_⟩
  · cases q : ltk y x with
    | false => rfl
    | true =>
      have := lex_trans _ _ _ h q
      rw [lex_irrefl] at this
      cases this
  · cases q : ltk z x with
    | false => rfl
    | true =>
      rcases lex_negTrans _ (PySem.W.keyToks y) _ q with z1 | z1
      · rw [show ltk z y = true from z1] at h2; cases h2
      · rw [show ltk y x = true from z1] at h1; cases h1
theorem ltk_eqv {x y : PyData} (ha : PySem.W.alike x y = true) (h1 : ltk x y = false) (h2 : ltk y x = false) : PyData.eqv x y = true := by
  have e := lex_total _ _ h1 h2
  cases q : PyData.eqv x y with
  | true => rfl
  | false =>
    have z := (PySem.W.toks_eqv x y ha).2 q [] [.inl 0]
    rw [e, List.append_nil, lex_irrefl] at z
    have w := PySem.W.lex_pre (PySem.W.keyToks y) [] [.inl 0]
    rw [List.append_nil, z] at w
    exact absurd w (by decide)


mutual
theorem alike_eq : ∀ (d e : D) (m n : Nat), D.ok m d = true → D.ok n e = true → PySem.W.alike (toPy d) (toPy e) = true → D.eqv d e = true → d = e
  | .non, e, m, n, _, h, a, q => by cases e <;> first | rfl | (simp [D.eqv] at q; done)
  | .bl b, e, m, n, _, h, a, q => by
    cases e <;> first | (simp [D.eqv] at q; subst q; rfl) | (simp [toPy, PySem.W.alike] at a; done) | (simp [D.eqv] at q; done)
  | .int i, e, m, n, _, h, a, q => by
    cases e <;> first | (simp [D.eqv] at q; subst q; rfl) | (simp [toPy, PySem.W.alike] at a; done) | (simp [D.eqv] at q; done)
  | .str x, e, m, n, _, h, a, q => by
    cases e <;> first | (simp [D.eqv] at q; subst q; rfl) | (simp [D.eqv] at q; done)
  | .tup ds, e, m, n, hm, hn, a, q => by
    cases e <;> first | (simp [D.eqv] at q; done) | skip
    rename_i es
    obtain ⟨m', rfl, h1⟩ := ok_tup hm
    obtain ⟨n', rfl, h2⟩ := ok_tup hn
    simp only [toPy, PySem.W.alike] at a
    simp only [D.eqv] at q
    rw [alikes_eq ds es m' n' h1 h2 a q]
  | .lst ds, e, m, n, hm, hn, a, q => by
    cases e <;> first | (simp [D.eqv] at q; done) | skip
    rename_i es
    obtain ⟨m', rfl, h1⟩ := ok_lst hm
    obtain ⟨n', rfl, h2⟩ := ok_lst hn
    simp only [toPy, PySem.W.alike] at a
    simp only [D.eqv] at q
    rw [alikes_eq ds es m' n' h1 h2 a q]
  | .dct _, _, m, _, h, _, _, _ => by cases m <;> cases h
  | .fn _, _, m, _, h, _, _, _ => by cases m <;> cases h
  | .obj _, _, m, _, h, _, _, _ => by cases m <;> cases h
  | .scr _, _, m, _, h, _, _, _ => by cases m <;> cases h
theorem alikes_eq : ∀ (ds es : List D) (m n : Nat), allOk m ds → allOk n es → PySem.W.alikeAll (toPys ds) (toPys es) = true → D.eqvs ds es = true → ds = es
  | [], [], _, _, _, _, _, _ => rfl
  | [], _ :: _, _, _, _, _, _, q => by simp [D.eqvs] at q
  | _ :: _, [], _, _, _, _, _, q => by simp [D.eqvs] at q
  | d :: ds, e :: es, m, n, h1, h2, a, q => by
    simp only [toPys, PySem.W.alikeAll, Bool.and_eq_true] at a
    simp only [D.eqvs, Bool.and_eq_true] at q
    rw [alike_eq d e m n (h1 d (.head _)) (h2 e (.head _)) a.1 q.1, alikes_eq ds es m n (fun x hx => h1 x (.tail _ hx)) (fun x hx => h2 x (.tail _ hx)) a.2 q.2]
end


theorem ltD_swo : SrtO.Swo ltD := ⟨fun x y h => ltk_swo.asym _ _ h, fun x y z h1 h2 => ltk_swo.tr _ _ _ h1 h2⟩
theorem srtd_uniqM {α : Type} {lt : α → α → Bool} : ∀ {l m : List α}, (∀ x ∈ l, ∀ y ∈ l, lt x y = false → lt y x = false → x = y) → SrtO.Srtd lt l → SrtO.Srtd lt m → l.Perm m → l = m
  | [], m, _, _, _, h => (List.Perm.eq_nil h.symm).symm
  | x :: l, [], _, _, _, h => absurd h.length_eq (by simp)
  | x :: l, y :: m, ae, hl, hm, h => by
    have hy0 : y ∈ x :: l := h.mem_iff.mpr (List.mem_cons_self (a := y) (l := m))
    have e : x = y := by
      rcases List.mem_cons.mp (h.mem_iff.mp (List.mem_cons_self (a := x) (l := l))) with e | hx
      · exact e
      · rcases List.mem_cons.mp hy0 with e | hy
        · exact e.symm
        · exact ae x (.head _) y hy0 (SrtO.srtd_head hm x hx) (SrtO.srtd_head hl y hy)
    subst e
    rw [srtd_uniqM (fun a ha b hb => ae a (.tail _ ha) b (.tail _ hb)) (List.pairwise_cons.mp hl).2 (List.pairwise_cons.mp hm).2 h.cons_inv]
section
variable {P : Pm} {os : List Addr} {Z : Hp}
theorem zip_pairs : ∀ {ds : List D} {vs : List V}, Reps P os Z ds vs → (ds.zip vs).map (fun p => (p.2, toPy p.1)) = vs.zip (toPys ds) ∧ (ds.zip vs).map (·.1) = ds ∧ ∀ p ∈ ds.zip vs, Rep P os Z p.1 p.2
  | [], vs, r => by
    unfold Reps at r
    subst r
    exact ⟨rfl, rfl, fun _ h => (nomatch h)⟩
  | d :: ds, vs, r => by
    unfold Reps at r
    obtain ⟨v, t, rfl, h1, h2⟩ := r
    obtain ⟨e1, e2, e3⟩ := zip_pairs h2
    refine ⟨by simp only [List.zip_cons_cons, List.map_cons, toPys, e1], by simp only [List.zip_cons_cons, List.map_cons, e2], fun p hp => ?_⟩
    rw [List.zip_cons_cons] at hp
    rcases List.mem_cons.mp hp with rfl | hp
    · exact h1
    · exact e3 p hp
theorem reps_of_pairs : ∀ {l : List (D × V)}, (∀ p ∈ l, Rep P os Z p.1 p.2) → Reps P os Z (l.map (·.1)) (l.map (·.2))
  | [], _ => reps_nil
  | p :: l, h => reps_cons (h p (.head _)) (reps_of_pairs fun q hq => h q (.tail _ hq))
theorem sorted_reps {ds : List D} {vs : List V} {n : Nat} (r : Reps P os Z ds vs) (ok : allOk n ds) (al : PySem.W.AllAlike (toPys ds)) :
    Reps P os Z (isortB ltD ds) (((vs.zip (toPys ds)).mergeSort (PySem.W.dataLe false fun b => b.2)).map (·.1)) := by
  obtain ⟨e1, e2, e3⟩ := zip_pairs r
  have em := List.map_mergeSort (r := fun (p q : D × V) => !ltD q.1 p.1) (s := PySem.W.dataLe false fun (b : V × PyData) => b.2) (f := fun p => (p.2, toPy p.1)) (l := ds.zip vs) (fun a _ b _ => rfl)
  rw [e1] at em
  rw [← em, List.map_map]
  have hp := List.mergeSort_perm (ds.zip vs) (fun (p q : D × V) => !ltD q.1 p.1)
  have hr := reps_of_pairs (l := (ds.zip vs).mergeSort fun (p q : D × V) => !ltD q.1 p.1) fun p h => e3 p (hp.mem_iff.mp h)
  have hperm : (((ds.zip vs).mergeSort fun (p q : D × V) => !ltD q.1 p.1).map (·.1)).Perm ds := by
    have := hp.map (·.1)
    rwa [e2] at this
  have hs : SrtO.Srtd ltD (((ds.zip vs).mergeSort fun (p q : D × V) => !ltD q.1 p.1).map (·.1)) := by
    refine List.pairwise_map.mpr ((List.pairwise_mergeSort (fun a b c h1 h2 => ?_) (fun a b => ?_) (ds.zip vs)).imp fun {a b} h => by simpa using h)
    · have h1 : ltD b.1 a.1 = false := by simpa using h1
      have h2 : ltD c.1 b.1 = false := by simpa using h2
      rw [ltD_swo.tr a.1 b.1 c.1 h1 h2]; rfl
    · cases q : ltD b.1 a.1 with
      | false => rfl
      | true => rw [ltD_swo.asym _ _ q]; rfl
  have he := srtd_uniqM (fun x hx y hy h1 h2 => ?_) hs (isortB_srtd ltD_swo) (hperm.trans (isortB_perm (lt := ltD)).symm)
  · rw [← he]; exact hr
  · have mx := hperm.mem_iff.mp hx
    have my := hperm.mem_iff.mp hy
    have a1 := al (toPy x) (by rw [toPys_map]; exact List.mem_map.mpr ⟨x, mx, rfl⟩) (toPy y) (by rw [toPys_map]; exact List.mem_map.mpr ⟨y, my, rfl⟩)
    exact alike_eq x y n n (ok x mx) (ok y my) a1 (by rw [← eqv_py x y n n (ok x mx) (ok y my)]; exact ltk_eqv a1 h1 h2)
end
end VI

set_option Elab.async false
set_option linter.all false
set_option maxRecDepth 100000
/-! VI, part 5: built-ins, subscripts, slices, methods, by data. -/
namespace VI
open PySem L2
theorem CallR.or {X : Cx} {f : Value} {r r' : List V → Hp → VK → Prop} (h : CallR X f r) (h' : CallR X f r') : CallR X f (fun xs H Q => r xs H Q ∨ r' xs H Q) := by
  intro pins s σ H xs us Q I rr q
  rcases q with q | q
  · exact h pins s σ H xs us Q I rr q
  · exact h' pins s σ H xs us Q I rr q
section
variable {P : Pm} {os os' : List Addr} {Z Z' H H' : Hp} {w : Wd} {X : Cx} {Q : VK}
theorem reps_ints : ∀ {ds : List D} {ns : List Int} {vs : List V}, intsL ds = some ns → Reps P os Z ds vs → vs = ns.map V.int
  | [], ns, vs, e, r => by
    cases e
    unfold Reps at r
    exact r
  | d :: ds, ns, vs, e, r => by
    unfold Reps at r
    obtain ⟨v, t, rfl, h1, h2⟩ := r
    cases d with
    | int i =>
      obtain ⟨m, e1, rfl⟩ := Option.map_eq_some_iff.mp (show (intsL ds).map (i :: ·) = some ns from e)
      unfold Rep at h1
      rw [h1, reps_ints e1 h2]; rfl
    | _ => cases e
theorem maxI_ok : ∀ {ns : List Int} {m : Int}, maxI ns = some m → m ∈ ns ∧ (∀ y ∈ ns, y ≤ m) ∧ 0 < ns.length
  | [], m, e => by cases e
  | [i], m, e => by
    cases e
    exact ⟨by simp, fun y hy => by simp at hy; omega, by simp⟩
  | i :: j :: r, m, e => by
    unfold maxI at e
    obtain ⟨k, e1, rfl⟩ := Option.map_eq_some_iff.mp e
    obtain ⟨h1, h2, _⟩ := maxI_ok e1
    refine ⟨?_, fun y hy => ?_, by simp⟩
    · split
      · exact List.mem_cons_of_mem _ h1
      · exact List.mem_cons_self
    · rcases List.mem_cons.mp hy with rfl | hy
      · split <;> omega
      · have := h2 y hy
        split <;> omega

/-! ### built-ins of one argument -/
def rB1 (K : PySem.W.Frag) (w : World) : Bl1 → List V → Hp → VK → Prop
  | .len => fun xs H Q => ∃ x n, xs = [x] ∧ LenV K x H n ∧ Q (.int n) H
  | .abs => fun xs H Q => ∃ i, xs = [.int i] ∧ Q (.int (if i < 0 then -i else i)) H
  | .int => fun xs H Q => (∃ i, xs = [.int i] ∧ Q (.int i) H) ∨ ∃ k, xs = [.bl k] ∧ Q (.int (if k then 1 else 0)) H
  | .bool => fun xs H Q => (∃ i, xs = [.int i] ∧ Q (.bl (i != 0)) H) ∨ ∃ k, xs = [.bl k] ∧ Q (.bl k) H
  | .sum => rSum K
  | .max => rMax K
  | .tuple => fun xs H Q => ∃ p ys, xs = [.ref p] ∧ ((SqL K H p ys ∧ ∀ l, H l = none → Q (.ref l) (upd H l (.tup ys))) ∨ (SqT K H p ys ∧ Q (.ref p) H))
  | .list => fun xs H Q => ∃ p ys, xs = [.ref p] ∧ (SqL K H p ys ∨ SqT K H p ys) ∧ ∀ l, H l = none → Q (.ref l) (upd H l (.lst ys))
  | .sorted => fun vs H Q => rSortedD K vs H Q ∨ rSortedTu K vs H Q
  | .dict => rDictL w
  | _ => fun _ _ _ => False
def blId : Bl1 → String
  | .len => "len"
  | .abs => "abs"
  | .int => "int"
  | .bool => "bool"
  | .str => "str"
  | .sum => "sum"
  | .max => "max"
  | .sorted => "sorted"
  | .sortedSet => "sorted"
  | .tuple => "tuple"
  | .list => "list"
  | .dict => "dict"
def blTy : Bl1 → Bool
  | .int => true
  | .bool => true
  | .str => true
  | .tuple => true
  | .list => true
  | .dict => true
  | _ => false
def blV (b : Bl1) : Value := if blTy b then .type (blId b) else .builtin (blId b)
theorem callR_no {f : Value} : CallR X f (fun _ _ _ => False) := fun _ _ _ _ _ _ _ _ _ h => h.elim
theorem rB1_ok (hc : X.calm = true) (hu : X.A.units + 65 < cLine) : ∀ b : Bl1, CallR X (blV b) (rB1 X.K X.w b)
  | .len => call_len
  | .abs => call_abs
  | .int => call_int1
  | .bool => call_bool1
  | .str => callR_no
  | .sum => cr_sum hc
  | .max => cr_max hc
  | .sorted => (cr_sortedD hu).or (cr_sortedTu hu)
  | .sortedSet => callR_no
  | .tuple => call_tuple_of
  | .list => call_list_of
  | .dict => call_dictL hc (by omega)
/-- what okSortB says, of the values -/
theorem srt_of {xs : List D} {vs : List V} (k : Le Z H) (c : okSortB xs = true) (r : Reps P os Z xs vs) : allOk dpt xs ∧ PySem.W.AllAlike (toPys xs) ∧ PySem.W.Sortable (toPys xs) ∧ (∀ d ∈ toPys xs, d.depth ≤ 60) ∧ DpAll P.K H vs (toPys xs) ∧ vs.length = (toPys xs).length := by
  unfold okSortB at c
  simp only [Bool.and_eq_true, Bool.or_eq_true] at c
  obtain ⟨c1, c2, c3⟩ := c
  have ok : allOk dpt xs := List.all_eq_true.mp c1
  refine ⟨ok, fun x hx y hy => ?_, ?_, fun d hd => ?_, Reps.dp k xs dpt vs ok r, by rw [← r.length, toPys_map, List.length_map]⟩
  · rw [toPys_map] at hx hy
    obtain ⟨d, hd, rfl⟩ := List.mem_map.mp hx
    obtain ⟨e, he, rfl⟩ := List.mem_map.mp hy
    exact List.all_eq_true.mp (List.all_eq_true.mp c2 d hd) e he
  · rw [toPys_map]
    rcases c3 with c3 | c3
    · refine .inl fun x hx => ?_
      obtain ⟨d, hd, rfl⟩ := List.mem_map.mp hx
      have := List.all_eq_true.mp c3 d hd
      split at this
      · exact ⟨_, _, by unfold toPy toPys; rfl⟩
      · cases this
    · refine .inr fun x hx => ?_
      obtain ⟨d, hd, rfl⟩ := List.mem_map.mp hx
      have := List.all_eq_true.mp c3 d hd
      have okd := ok d hd
      cases d <;> first | (cases this; done) | (cases okd; done) | exact ⟨by unfold toPy; exact fun z => (nomatch z), fun ys => by unfold toPy; exact fun z => (nomatch z)⟩
  · rw [toPys_map] at hd
    obtain ⟨e, he, rfl⟩ := List.mem_map.mp hd
    exact Nat.le_trans (lay_of e dpt (ok e he)).2 (by decide)
theorem srt_arg {xs : List D} {vs : List V} (k : Le Z H) (c : okSortB xs = true) (r : Reps P os Z xs vs) (hl : vs.length ≤ sizeLine) : SrtArg P.K H vs (toPys xs) :=
  let ⟨_, h2, h3, h4, h5, h6⟩ := srt_of k c r
  ⟨h5, h6, h2, h3, h4, hl⟩
theorem sorted_srt {xs : List D} {vs : List V} (k : Le Z H) (c : okSortB xs = true) (r : Reps P os Z xs vs) : Reps P os Z (isortB ltD xs) (srtV vs (toPys xs)) :=
  let ⟨h1, h2, _⟩ := srt_of k c r
  sorted_reps r h1 h2
theorem sortD_some {xs : List D} {d : D} (e : sortD xs = some d) : okSortB xs = true ∧ d = .lst (isortB ltD xs) := by
  unfold sortD at e
  by_cases c : okSortB xs = true
  · rw [if_pos c] at e; cases e; exact ⟨c, rfl⟩
  · rw [if_neg c] at e; cases e
/-- a list of pairs, as the rows of a dict -/
theorem pairs_rows : ∀ {xs : List D} {ps : List (D × D)} {vs : List V}, pairsL xs = some ps → Reps P os Z xs vs → ∃ qs : List Row, Paired (PrR Z) vs qs ∧ Paired (RepK P os Z) ps qs ∧ ∀ q ∈ qs, KeyOk Z q.1 q.2.1
  | [], ps, vs, e, r => by
    cases e
    unfold Reps at r
    subst r
    exact ⟨[], .nil, .nil, fun q h => (nomatch h)⟩
  | x :: xs, ps, vs, e, r => by
    unfold Reps at r
    obtain ⟨v, t, rfl, r1, r2⟩ := r
    unfold pairsL at e
    split at e
    · rename_i h; cases h
    · rename_i kk dd r0 heq
      cases heq
      split at e
      · rename_i hk
        obtain ⟨ps', e1, rfl⟩ := Option.map_eq_some_iff.mp e
        obtain ⟨qs, h1, h2, h3⟩ := pairs_rows e1 r2
        obtain ⟨T, us, rfl, hT, ru⟩ := r1.tup
        unfold Reps at ru
        obtain ⟨u1, t1, rfl, ru1, ru2⟩ := ru
        unfold Reps at ru2
        obtain ⟨u2, t2, rfl, ru3, ru4⟩ := ru2
        unfold Reps at ru4
        subst ru4
        obtain ⟨b, rfl, hb⟩ := key_ok hk ru1
        refine ⟨(nk kk, b, u2) :: qs, .cons ⟨T, rfl, hT⟩ h1, .cons ?_ h2, fun q hq => ?_⟩
        · unfold RepK
          exact ⟨hk, rfl, ru3⟩
        · rcases List.mem_cons.mp hq with rfl | hq
          · exact hb
          · exact h3 q hq
      · cases e
    · cases e
theorem storeAll_rows : ∀ {ps : List (D × D)} {qs : List Row} {acc : List (D × D)} {rows : List Row}, Paired (RepK P os Z) acc rows → Paired (RepK P os Z) ps qs → (∀ p ∈ ps, D.key p.1 = true) →
    Paired (RepK P os Z) (ps.foldl (fun acc p => dput acc p.1 p.2) acc) (storeAllQ rows qs)
  | _, _, acc, rows, h, .nil, _ => h
  | p :: ps, q :: qs, acc, rows, h, .cons g t, hk => by
    obtain ⟨kk, dd⟩ := p
    unfold RepK at g
    obtain ⟨g1, g2, g3⟩ := g
    show Paired (RepK P os Z) (ps.foldl (fun acc p => dput acc p.1 p.2) (dput acc kk dd)) (storeAllQ (storeQ rows q.1 q.2.1 q.2.2) qs)
    refine storeAll_rows ?_ t fun p hp => hk p (.tail _ hp)
    rw [g2]
    exact dput_rows g1 g3 h
theorem rows_keys : ∀ {ps : List (D × D)} {qs : List Row}, Paired (RepK P os Z) ps qs → ∀ p ∈ ps, D.key p.1 = true
  | _, _, .nil, p, h => nomatch h
  | (kk, dd) :: ps, q :: qs, .cons g t, p, h => by
    rcases List.mem_cons.mp h with rfl | h
    · unfold RepK at g; exact g.1
    · exact rows_keys t p h
theorem storeAll_props : ∀ {qs rows : List Row}, (∀ q ∈ rows, KeyOk Z q.1 q.2.1) → (rows.map (·.1)).Nodup → (∀ q ∈ qs, KeyOk Z q.1 q.2.1) →
    (∀ q ∈ storeAllQ rows qs, KeyOk Z q.1 q.2.1) ∧ ((storeAllQ rows qs).map (·.1)).Nodup ∧ (storeAllQ rows qs).length ≤ rows.length + qs.length
  | [], rows, h1, h2, _ => ⟨h1, h2, by simp [storeAllQ]⟩
  | q :: qs, rows, h1, h2, h3 => by
    have a1 : ∀ q' ∈ storeQ rows q.1 q.2.1 q.2.2, KeyOk Z q'.1 q'.2.1 := fun q' hq => by
      unfold storeQ at hq
      split at hq
      · obtain ⟨q0, h0, rfl⟩ := List.mem_map.mp hq
        have := h1 q0 h0
        by_cases c : q0.1 = q.1
        · rw [if_pos c]; exact this
        · rw [if_neg c]; exact this
      · rcases List.mem_append.mp hq with hq | hq
        · exact h1 q' hq
        · rcases List.mem_singleton.mp hq with rfl
          exact h3 q (.head _)
    have a2 : ((storeQ rows q.1 q.2.1 q.2.2).map (·.1)).Nodup := by
      rw [storeQ_keys]
      split
      · exact h2
      · rename_i c
        refine List.nodup_append.mpr ⟨h2, by simp, fun a ha c' hc e => ?_⟩
        rcases List.mem_singleton.mp hc with rfl
        subst e
        obtain ⟨q', hq, e⟩ := List.mem_map.mp ha
        refine c ?_
        unfold findQ
        rw [List.find?_isSome]
        exact ⟨q', hq, by simpa using e⟩
    obtain ⟨b1, b2, b3⟩ := storeAll_props a1 a2 fun q' hq => h3 q' (.tail _ hq)
    refine ⟨b1, b2, Nat.le_trans b3 ?_⟩
    have := storeQ_le (k := q.1) (b := q.2.1) (v := q.2.2) (qs := rows)
    rw [List.length_cons]
    omega
theorem bl1_ok {b : Bl1} {dx d : D} {n : Nat} {x : V} (k : Ok P os w Z H) (rx : LR P os Z H n dx x) (hn : n ≤ 1 ∨ b = .len) (hb : b ≠ .sortedSet) (e : bl1 b dx = some d) (q : Wn P os Z H w d Q) : rB1 P.K P.wo b [x] H Q := by
  have hl := lim_eq
  have r1 : b ≠ .len → LR P os Z H 1 dx x := fun h => by
    rcases hn with z | z
    · exact rx.le z
    · exact absurd z h
  cases b with
  | len =>
    cases dx <;> first | (cases e; done) | skip
    case lst xs =>
      cases e
      obtain ⟨a, vs, rfl, ha, e⟩ := rx.len k.zh
      exact ⟨_, xs.length, rfl, .inl ⟨vs, .of ha, e⟩, q.int k⟩
    case tup xs =>
      cases e
      obtain ⟨a, vs, rfl, ha, r⟩ := rx.tup k.zh
      exact ⟨_, xs.length, rfl, .inr ⟨vs, .of ha, r.length⟩, q.int k⟩
    case scr ns =>
      cases e
      obtain ⟨a, rfl, s⟩ := (rx.notLst rfl).scr
      exact ⟨_, ns.length, rfl, .inl ⟨_, sqL_le k.zh s, by simp⟩, q.int k⟩
    case str y =>
      obtain ⟨e1, rfl⟩ := guardO_some e
      cases rx.str
      exact ⟨_, y.length, rfl, ⟨by rw [← hl]; exact of_decide_eq_true e1, rfl⟩, q.int k⟩
  | abs =>
    cases dx <;> first | (cases e; done) | skip
    case int i => cases e; cases rx.int; exact ⟨i, rfl, q.int k⟩
  | int =>
    cases dx <;> first | (cases e; done) | skip
    case int i => cases e; cases rx.int; exact .inl ⟨i, rfl, q.int k⟩
    case bl i => cases e; cases rx.bl; exact .inr ⟨i, rfl, q.int k⟩
  | bool =>
    cases dx <;> first | (cases e; done) | skip
    case int i => cases e; cases rx.int; exact .inl ⟨i, rfl, q.bl k⟩
    case bl i => cases e; cases rx.bl; exact .inr ⟨i, rfl, q.bl k⟩
  | str => cases dx <;> cases e
  | sum =>
    cases dx <;> first | (cases e; done) | skip
    case lst xs =>
      obtain ⟨ns, e1, rfl⟩ := Option.map_eq_some_iff.mp e
      obtain ⟨a, vs, rfl, ha, r⟩ := (r1 (by decide)).lst k.zh
      rw [reps_ints e1 r] at ha
      exact ⟨a, ns, rfl, .of ha, q.int k⟩
  | max =>
    cases dx <;> first | (cases e; done) | skip
    case lst xs =>
      obtain ⟨ns, e1, e2⟩ := Option.bind_eq_some_iff.mp e
      obtain ⟨m, e3, rfl⟩ := Option.map_eq_some_iff.mp e2
      obtain ⟨h1, h2, h3⟩ := maxI_ok e3
      obtain ⟨a, vs, rfl, ha, r⟩ := (r1 (by decide)).lst k.zh
      rw [reps_ints e1 r] at ha
      refine ⟨a, ns, rfl, .of ha, h3, fun m' g1 g2 => ?_⟩
      have : m' = m := Int.le_antisymm (h2 m' g1) (g2 m h1)
      rw [this]
      exact q.int k
  | sorted =>
    cases dx <;> first | (cases e; done) | skip
    case lst xs =>
      obtain ⟨a, vs, rfl, ha, r⟩ := (r1 (by decide)).lst k.zh
      obtain ⟨c, rfl⟩ := sortD_some (show sortD xs = some d from e)
      obtain ⟨h1, h2, h3, h4, h5, h6⟩ := srt_of k.zh c r
      exact .inl ⟨a, vs, toPys xs, rfl, .of ha, h5, h6, h2, h3, h4, fun p hp => q.lst k hp (sorted_srt k.zh c r)⟩
    case tup xs =>
      obtain ⟨a, vs, rfl, ha, r⟩ := rx.tup k.zh
      obtain ⟨c, rfl⟩ := sortD_some (show sortD xs = some d from e)
      exact .inr ⟨a, vs, toPys xs, rfl, .of ha, fun hl => srt_arg k.zh c r hl, fun p hp => q.lst k hp (sorted_srt k.zh c r)⟩
  | sortedSet => exact absurd rfl hb
  | tuple =>
    cases dx <;> first | (cases e; done) | skip
    case lst xs =>
      cases e
      obtain ⟨a, vs, rfl, ha, r⟩ := (r1 (by decide)).lst k.zh
      exact ⟨a, vs, rfl, .inl ⟨.of ha, fun p hp => q.tup k hp r⟩⟩
    case tup xs =>
      cases e
      have rr := (r1 (by decide)).notLst rfl
      obtain ⟨a, vs, rfl, ha, r⟩ := rx.tup k.zh
      exact ⟨a, vs, rfl, .inr ⟨.of ha, q.val k rfl rr⟩⟩
  | list =>
    cases dx <;> first | (cases e; done) | skip
    case lst xs =>
      cases e
      obtain ⟨a, vs, rfl, ha, r⟩ := (r1 (by decide)).lst k.zh
      exact ⟨a, vs, rfl, .inl (.of ha), fun p hp => q.lst k hp r⟩
    case tup xs =>
      cases e
      obtain ⟨a, vs, rfl, ha, r⟩ := rx.tup k.zh
      exact ⟨a, vs, rfl, .inr (.of ha), fun p hp => q.lst k hp r⟩
  | dict =>
    cases dx <;> first | (cases e; done) | skip
    case lst xs =>
      obtain ⟨ps, e1, rfl⟩ := Option.map_eq_some_iff.mp (show (pairsL xs).map (fun ps => D.dct (ps.foldl (fun acc p => dput acc p.1 p.2) [])) = some d from e)
      obtain ⟨a, vs, rfl, ha, r⟩ := (r1 (by decide)).lst k.zh
      obtain ⟨qs, h1, h2, h3⟩ := pairs_rows e1 r
      have h9 := storeAll_props (Z := Z) (qs := qs) (rows := ([] : List Row)) (fun q h => by cases h) List.nodup_nil h3
      have hp : Paired (PrR H) vs qs := paired_imp (fun x q ⟨T, e, hT⟩ => ⟨T, e, k.zh _ _ hT⟩) h1
      refine ⟨a, vs, qs, rfl, ha, hp, fun q hq => (h3 q hq).mono k.zh, fun hl p es ep hn hes => q.dct k hn ⟨hes, ?_, ?_, ?_⟩ (storeAll_rows .nil h2 (rows_keys h2))⟩
      · exact h9.1
      · exact h9.2.1
      · have h5 := h9.2.2
        have h6 := Paired.length h1
        simp only [List.length_nil] at h5
        omega

/-! ### truth -/
theorem tru_of {d : D} {n : Nat} {x : V} {c : Bool} (k : Le Z H) (rx : LR P os Z H n d x) (e : D.truth d = some c) : TruV P.K x H c := by
  cases d with
  | non => cases e; cases rx.non; rfl
  | bl b => cases e; cases rx.bl; rfl
  | int i => cases e; cases rx.int; rfl
  | str y =>
    cases rx.str
    simp only [D.truth] at e
    by_cases h : y.length ≤ lim
    · rw [if_pos h] at e; cases e; exact ⟨by rw [← lim_eq]; exact h, rfl⟩
    · rw [if_neg h] at e; cases e
  | tup xs =>
    cases e
    obtain ⟨a, vs, rfl, ha, r⟩ := rx.tup k
    refine .inr (.inl ⟨vs, .of ha, ?_⟩)
    have := r.length
    cases xs <;> cases vs <;> simp at this ⊢
  | lst xs =>
    cases e
    obtain ⟨a, vs, rfl, ha, r⟩ := rx.len k
    refine .inl ⟨vs, .of ha, ?_⟩
    cases xs <;> cases vs <;> simp at r ⊢
  | dct kvs => cases e
  | fn _ => cases e
  | obj _ => cases e
  | scr _ => cases e

/-! ### subscripts -/
theorem atI_paired {α β : Type} {F : α → β → Prop} {xs : List α} {ys : List β} {i : Int} {x : α} (h : Paired F xs ys) (e : atI xs i = some x) : ∃ y, atI ys i = some y ∧ F x y := by
  unfold atI at *
  obtain ⟨j, e1, e2⟩ := Option.bind_eq_some_iff.mp e
  obtain ⟨y, h1, h2⟩ := Paired.get h e2
  refine ⟨y, ?_, h2⟩
  rw [← Paired.length h, e1]
  exact h1
def rIxA (K : PySem.W.Frag) (w : World) : R2 := fun x y H Q => rIx K x y H Q ∨ rIxN w x y H Q
theorem rIxA_ok {X : Cx} (hu : X.A.units + 10 < cLine) : IxR X (rIxA X.K X.w) := by
  intro value slice pins s σ H x y v u Q I rx ry h hs
  rcases h with h | h
  · exact ix_seq value slice pins s σ H x y v u Q I rx ry h hs
  · exact ix_dictN hu value slice pins s σ H x y v u Q I rx ry h hs
theorem ix_ok {dx dy d : D} {n : Nat} {x y : V} (k : Le Z H) (rx : LR P os Z H (n + 1) dx x) (ry : Rep P os Z dy y) (e : D.ix dx dy = some d) (q : ∀ v, LR P os Z H n d v → Q v H) : rIxA P.K P.wo x y H Q := by
  by_cases hdct : ∃ kvs, dx = .dct kvs
  · obtain ⟨kvs, rfl⟩ := hdct
    have e : (if D.key dy then dget kvs dy else none) = some d := by cases dy <;> exact e
    by_cases hk : D.key dy = true
    · rw [if_pos hk] at e
      obtain ⟨a, rfl, es, ep, qs, s1, r1, t1⟩ := rx.dct k
      obtain ⟨b, rfl, hb⟩ := key_ok hk ry
      obtain ⟨q0, g1, g2⟩ := dget_some hk t1 e
      exact .inr ⟨a, es, ep, qs, b, nk dy, q0, ⟨rfl, rfl, s1, r1.mono k, hb.mono k⟩, g1, q _ (.of g2)⟩
    · rw [if_neg hk] at e; cases e
  refine .inl ?_
  cases dx <;> cases dy <;> first | (cases e; done) | (exact absurd ⟨_, rfl⟩ hdct) | skip
  case tup.int xs i =>
    obtain ⟨a, vs, rfl, ha, r⟩ := rx.tup k
    unfold Rep at ry
    obtain ⟨v, h1, h2⟩ := atI_paired (reps_paired.mp r) e
    exact .inr (.inl ⟨a, vs, i, v, rfl, ry, .of ha, h1, q v (.of h2)⟩)
  case lst.int xs i =>
    obtain ⟨a, vs, rfl, ha, r⟩ := rx.lstN k
    unfold Rep at ry
    obtain ⟨v, h1, h2⟩ := atI_paired r e
    exact .inl ⟨a, vs, i, v, rfl, ry, .of ha, h1, q v h2⟩
  case scr.int ns i =>
    obtain ⟨a, rfl, s⟩ := (rx.notLst rfl).scr
    obtain ⟨z, e1, rfl⟩ := Option.map_eq_some_iff.mp (show (atI ns i).map D.int = some d from e)
    unfold Rep at ry
    have h1 : Paired (fun (j : Int) (v : V) => v = .int j) ns (ns.map V.int) := by
      clear s e e1 rx hdct
      induction ns with
      | nil => exact .nil
      | cons m ns ih => exact .cons rfl ih
    obtain ⟨v, h2, rfl⟩ := atI_paired h1 e1
    exact .inl ⟨a, _, i, _, rfl, ry, sqL_le k s, h2, q _ (.of (by unfold Rep; rfl))⟩

/-! ### slices -/
def rSlc (K : PySem.W.Frag) : V → Option Int → Option Int → Hp → VK → Prop := fun x lo hi H Q => rSlA K x lo hi H Q ∨ (rSlL K x lo hi H Q ∨ (∃ z, x = .str z ∧ z.length ≤ sizeLine ∧ Q (.str (cutS z lo hi)) H))
theorem rSlc_ok : SlR X (rSlc X.K) := sl_tupA.or (sl_list.or sl_str)
theorem cut_paired {α β : Type} {F : α → β → Prop} {xs : List α} {ys : List β} (h : Paired F xs ys) (lo hi : Option Int) : Paired F (cut xs lo hi) (cut ys lo hi) := by
  unfold cut
  rw [Paired.length h]
  exact Paired.take _ (Paired.drop _ h)
theorem sl_ok {dx d : D} {lo hi : Option Int} {x : V} (k : Ok P os w Z H) (rx : LR P os Z H 1 dx x) (e : D.sl dx lo hi = some d) (q : Wn P os Z H w d Q) : rSlc P.K x lo hi H Q := by
  cases dx <;> first | (cases e; done) | skip
  case tup xs =>
    cases e
    have rr := rx.notLst rfl
    obtain ⟨a, vs, rfl, ha, r⟩ := rx.tup k.zh
    refine .inl ⟨a, vs, rfl, .of ha, fun hw => ?_, fun _ p hp => q.tup k hp (reps_paired.mpr (cut_paired (reps_paired.mp r) lo hi))⟩
    have : cut xs lo hi = xs := by
      unfold cut
      rw [r.length, hw.1, hw.2, ← r.length]
      simp
    rw [this] at q
    exact q.val k rfl rr
  case lst xs =>
    cases e
    obtain ⟨a, vs, rfl, ha, r⟩ := rx.lst k.zh
    exact .inr (.inl ⟨a, vs, rfl, .of ha, fun p hp => q.lst k hp (reps_paired.mpr (cut_paired (reps_paired.mp r) lo hi))⟩)
  case str z =>
    simp only [D.sl] at e
    by_cases h : z.length ≤ lim
    · rw [if_pos h] at e
      cases e
      exact .inr (.inr ⟨z, rx.str, by rw [← lim_eq]; exact h, q.str k⟩)
    · rw [if_neg h] at e; cases e
theorem rev_ok {dx d : D} {x : V} (k : Ok P os w Z H) (rx : LR P os Z H 1 dx x) (e : D.rev dx = some d) (q : Wn P os Z H w d Q) : rRev P.K x H Q := by
  cases dx <;> first | (cases e; done) | skip
  case lst xs =>
    cases e
    obtain ⟨a, vs, rfl, ha, r⟩ := rx.lst k.zh
    exact ⟨a, vs, rfl, .inl ⟨.of ha, fun p hp => q.lst k hp r.reverse⟩⟩
  case tup xs =>
    cases e
    obtain ⟨a, vs, rfl, ha, r⟩ := rx.tup k.zh
    exact ⟨a, vs, rfl, .inr ⟨.of ha, fun p hp => q.tup k hp r.reverse⟩⟩

/-! ### count, index -/
theorem cnt_ok {da dx d : D} {a x : V} (k : Ok P os w Z H) (ra : LR P os Z H 1 da a) (rx : Rep P os Z dx x) (e : cntD da dx = some d) (q : Wn P os Z H w d Q) : rCntI P.K a [x] H Q := by
  cases da <;> cases dx <;> first | (cases e; done) | skip
  case lst.int ys i =>
    obtain ⟨ns, e1, rfl⟩ := Option.map_eq_some_iff.mp e
    obtain ⟨a, vs, rfl, ha, r⟩ := ra.lst k.zh
    rw [reps_ints e1 r] at ha
    unfold Rep at rx
    subst rx
    exact ⟨a, ns, i, rfl, rfl, .of ha, q.int k⟩
theorem firstAt_ok {x : D} : ∀ {ys : List D} {n : Nat}, firstAt x ys = some n → (∃ y, ys[n]? = some y ∧ D.eqv y x = true) ∧ ∀ m y, m < n → ys[m]? = some y → D.eqv y x = false
  | [], n, e => by cases e
  | y :: ys, n, e => by
    unfold firstAt at e
    by_cases h : D.eqv y x = true
    · rw [if_pos h] at e
      cases e
      exact ⟨⟨y, rfl, h⟩, fun m z hm => by omega⟩
    · rw [if_neg h] at e
      obtain ⟨m, e1, rfl⟩ := Option.map_eq_some_iff.mp e
      obtain ⟨⟨z, h1, h2⟩, h3⟩ := firstAt_ok e1
      refine ⟨⟨z, by simpa using h1, h2⟩, fun j u hj e => ?_⟩
      cases j with
      | zero => cases e; simpa using h
      | succ j => exact h3 j u (by omega) (by simpa using e)
theorem idx_ok {da dx d : D} {a x : V} (k : Ok P os w Z H) (ra : LR P os Z H 1 da a) (rx : Rep P os Z dx x) (e : idxD da dx = some d) (q : Wn P os Z H w d Q) : rIndexD P.K a [x] H Q := by
  cases da <;> first | (cases e; done) | skip
  case lst ys =>
    unfold idxD at e
    by_cases h : (D.ok dpt dx && D.ok dpt (.lst ys)) = true
    · simp only [if_pos h] at e
      rw [Bool.and_eq_true] at h
      obtain ⟨n, e1, rfl⟩ := Option.map_eq_some_iff.mp e
      obtain ⟨⟨y, h1, h2⟩, h3⟩ := firstAt_ok e1
      have hd := ra.dp k.zh h.2
      have hs := shaped_of h.2
      obtain ⟨m, hm, h4⟩ := ok_lst h.2
      obtain ⟨a, vs, rfl, ha, r⟩ := ra.lst k.zh
      unfold toPy at hd hs
      have gt : ∀ {j : Nat} {z : PyData}, (toPys ys)[j]? = some z → ∃ u, ys[j]? = some u ∧ z = toPy u := by
        intro j z hz
        rw [toPys_map, List.getElem?_map] at hz
        obtain ⟨u, h5, h6⟩ := Option.map_eq_some_iff.mp hz
        exact ⟨u, h5, h6.symm⟩
      refine ⟨a, x, toPy dx, toPys ys, n, toPy y, rfl, rfl, hd, rx.dp k.zh dx dpt x h.1, hs, shaped_of h.1, ?_, ?_, fun j z hj hz => ?_, q.int k⟩
      · rw [toPys_map, List.getElem?_map, h1]; rfl
      · rw [eqv_py y dx m dpt (h4 y (List.mem_of_getElem? h1)) h.1]; exact h2
      · obtain ⟨u, h5, rfl⟩ := gt hz
        rw [eqv_py u dx m dpt (h4 u (List.mem_of_getElem? h5)) h.1]
        exact h3 j u hj h5
    · simp only [if_neg h] at e
      cases e

/-! ### isinstance -/
def tyN : Ty → String
  | .int => "int"
  | .bool => "bool"
  | .str => "str"
  | .tuple => "tuple"
  | .list => "list"
def dTy : D → Option String
  | .non => some "NoneType"
  | .bl _ => some "bool"
  | .int _ => some "int"
  | .str _ => some "str"
  | .tup _ => some "tuple"
  | .lst _ => some "list"
  | .dct _ => some "dict"
  | _ => none
theorem ty_of {d : D} {n : Nat} {x : V} {t : String} (k : Le Z H) (rx : LR P os Z H n d x) (e : dTy d = some t) : TyY P.K H x (.type t) := by
  cases d <;> cases e
  case non => cases rx.non; exact .base (.base .non)
  case bl b => cases rx.bl; exact .base (.base (.bl b))
  case int i => cases rx.int; exact .base (.base (.int i))
  case str y => cases rx.str; exact .base (.base (.str y))
  case tup ds => obtain ⟨a, vs, rfl, ha, _⟩ := rx.tup k; exact .base (.base (.tup ha))
  case lst ds => obtain ⟨a, vs, rfl, ha, _⟩ := rx.len k; exact .base (.base (.lst ha))
  case dct kvs => obtain ⟨a, rfl, es, ep, qs, s1, _⟩ := rx.dct k; exact .raw s1
theorem isTy_ok {d : D} {t : Ty} {b : Bool} (e : D.isTy t d = some b) : ∃ n, dTy d = some n ∧ kitB n (tyN t) = some b := by
  cases d with
  | dct b => refine ⟨_, rfl, ?_⟩; cases t <;> cases e <;> decide +kernel
  | fn f => cases t <;> cases e
  | obj f => cases t <;> cases e
  | scr f => cases t <;> cases e
  | non => refine ⟨_, rfl, ?_⟩; cases t <;> cases e <;> decide +kernel
  | bl b => refine ⟨_, rfl, ?_⟩; cases t <;> cases e <;> decide +kernel
  | int b => refine ⟨_, rfl, ?_⟩; cases t <;> cases e <;> decide +kernel
  | str b => refine ⟨_, rfl, ?_⟩; cases t <;> cases e <;> decide +kernel
  | tup b => refine ⟨_, rfl, ?_⟩; cases t <;> cases e <;> decide +kernel
  | lst b => refine ⟨_, rfl, ?_⟩; cases t <;> cases e <;> decide +kernel
theorem isTys_ok {K : PySem.W.Frag} {d : D} {n : String} (hn : dTy d = some n) : ∀ {ts : List Ty} {b : Bool}, isTys d ts = some b → PySem.W.kitAny K (.type n) (ts.map fun t => .type (tyN t)) = some b
  | [], b, e => by cases e; exact kitAny_nil
  | t :: ts, b, e => by
    unfold isTys at e
    cases h1 : D.isTy t d with
    | none => rw [h1] at e; cases e
    | some c1 =>
      cases h2 : isTys d ts with
      | none => rw [h1, h2] at e; cases e
      | some c2 =>
        rw [h1, h2] at e
        cases e
        obtain ⟨m, e1, e2⟩ := isTy_ok h1
        rw [hn] at e1
        cases e1
        rw [List.map_cons]
        refine kitAny_cons (b := c1) (kit_ty e2) (fun z => ?_) fun z => by rw [z]; rfl
        rw [z, Bool.false_or]
        exact isTys_ok hn h2
theorem isTy_single {K : PySem.W.Frag} {d : D} {t : Ty} {b : Bool} {n : String} (hn : dTy d = some n) (e : isTys d [t] = some b) : PySem.W.kitOne K (.type n) (.type (tyN t)) = some b := by
  unfold isTys at e
  cases h1 : D.isTy t d with
  | none => rw [h1] at e; cases e
  | some c1 =>
    rw [h1] at e
    simp only [isTys] at e
    obtain ⟨m, e1, e2⟩ := isTy_ok h1
    rw [hn] at e1
    cases e1
    have : c1 = b := by simpa using e
    subst this
    exact kit_ty e2
end
end VI

set_option Elab.async false
set_option linter.all false
set_option maxRecDepth 100000
set_option maxHeartbeats 1000000
/-! VI, part 5s: sorted(set(xs)), by data. -/
namespace VI
open PySem L2
def rSetA (K : PySem.W.Frag) (P : Program) (w : World) : List V → Hp → VK → Prop := fun vs H Q => rSetI K w vs H Q ∨ rSetTs K P w vs H Q
def rSortedSA (K : PySem.W.Frag) (P : Program) (w : World) : List V → Hp → VK → Prop := fun vs H Q => rSortedSI K w vs H Q ∨ rSortedST K P w vs H Q
theorem cr_setA {X : Cx} (hc : X.calm = true) (hu : X.A.units + 65 < cLine) : CallR X (.type "set") (rSetA X.K X.prog X.w) := (cr_setI hc).or (cr_setTs hc (by omega))
theorem cr_sortedSA {X : Cx} (hc : X.calm = true) (hu : X.A.units + 65 < cLine) : CallR X (.builtin "sorted") (rSortedSA X.K X.prog X.w) := (cr_sortedSI hc hu).or (cr_sortedST hc hu)
theorem nub_mem {xs : List D} (h : ∀ x ∈ xs, ∀ y ∈ xs, D.eqv x y = true ↔ x = y) : (∀ x, x ∈ nubD xs ↔ x ∈ xs) ∧ (nubD xs).Nodup := by
  induction xs with
  | nil => exact ⟨fun x => Iff.rfl, List.nodup_nil⟩
  | cons x xs ih =>
    obtain ⟨h1, h2⟩ := ih fun a ha b hb => h a (.tail _ ha) b (.tail _ hb)
    have hf : ∀ y, y ∈ (nubD xs).filter (fun y => !D.eqv x y) ↔ y ∈ xs ∧ y ≠ x := fun y => by
      rw [List.mem_filter, h1]
      refine and_congr_right fun hy => ?_
      have := h x (.head _) y (.tail _ hy)
      cases q : D.eqv x y with
      | true => simp; exact (this.mp q).symm
      | false =>
        simp
        intro e
        rw [this.mpr e.symm] at q; cases q
    unfold nubD
    refine ⟨fun y => ?_, List.nodup_cons.mpr ⟨fun hx => ((hf x).mp hx).2 rfl, List.Nodup.sublist (List.filter_sublist) h2⟩⟩
    rw [List.mem_cons, hf, List.mem_cons]
    constructor
    · rintro (e | ⟨e, _⟩)
      · exact .inl e
      · exact .inr e
    · rintro (e | e)
      · exact .inl e
      · by_cases c : y = x
        · exact .inl c
        · exact .inr ⟨e, c⟩
theorem ok_sub {xs ys : List D} (h : okSortB xs = true) (s : ∀ y ∈ ys, y ∈ xs) : okSortB ys = true := by
  unfold okSortB at *
  simp only [Bool.and_eq_true, Bool.or_eq_true, List.all_eq_true] at *
  obtain ⟨h1, h2, h3⟩ := h
  refine ⟨fun x hx => h1 x (s x hx), fun x hx y hy => h2 x (s x hx) y (s y hy), ?_⟩
  rcases h3 with h3 | h3
  · exact .inl fun x hx => h3 x (s x hx)
  · exact .inr fun x hx => h3 x (s x hx)
theorem isortB_uniq {xs ys : List D} (h : okSortB xs = true) (p : ys.Perm xs) : isortB ltD ys = isortB ltD xs := by
  have hx := isortB_srtd (lt := ltD) ltD_swo (l := xs)
  have hy := isortB_srtd (lt := ltD) ltD_swo (l := ys)
  refine srtd_uniqM (fun a ha b hb h1 h2 => ?_) hy hx ((isortB_perm.trans p).trans isortB_perm.symm)
  have ma := p.mem_iff.mp (isortB_perm.mem_iff.mp ha)
  have mb := p.mem_iff.mp (isortB_perm.mem_iff.mp hb)
  unfold okSortB at h
  simp only [Bool.and_eq_true, List.all_eq_true] at h
  have oa := h.1 a ma
  have ob := h.1 b mb
  have al := h.2.1 a ma b mb
  exact alike_eq a b dpt dpt oa ob al (by rw [← eqv_py a b dpt dpt oa ob]; exact ltk_eqv al h1 h2)
theorem eqv_ints : ∀ (a b : List Int), D.eqvs (a.map D.int) (b.map D.int) = true ↔ a = b
  | [], [] => by simp [D.eqvs]
  | [], _ :: _ => by simp [D.eqvs]
  | _ :: _, [] => by simp [D.eqvs]
  | i :: a, j :: b => by simp [D.eqvs, D.eqv, eqv_ints a b]
theorem intsL_map : ∀ {xs : List D} {ns : List Int}, intsL xs = some ns → xs = ns.map D.int
  | [], ns, e => by cases e; rfl
  | x :: xs, ns, e => by
    cases x <;> first | (cases e; done) | skip
    rename_i i
    obtain ⟨m, e1, rfl⟩ := Option.map_eq_some_iff.mp (show (intsL xs).map (i :: ·) = some ns from e)
    rw [intsL_map e1]; rfl
section
variable {P : Pm} {os : List Addr} {Z H : Hp} {w : Wd} {Q : VK}
theorem reps_intsV : ∀ (ns : List Int), Reps P os Z (ns.map D.int) (ns.map V.int)
  | [] => reps_nil
  | n :: ns => reps_cons (by unfold Rep; rfl) (reps_intsV ns)
theorem toPys_ints : ∀ ns : List Int, toPys (ns.map D.int) = ns.map PyData.int
  | [] => rfl
  | n :: ns => by simp only [List.map_cons, toPys, toPy, toPys_ints ns]
theorem reps_tups : ∀ {xs : List D} {vs : List V}, (∀ x ∈ xs, ∃ ns : List Int, x = .tup (ns.map .int)) → Reps P os Z xs vs → ∃ ks : List (Addr × List Int), vs = ks.map (fun p => V.ref p.1) ∧ xs = ks.map (fun p => D.tup (p.2.map D.int)) ∧
    ∀ p ∈ ks, Z p.1 = some (.tup (p.2.map V.int))
  | [], vs, _, r => by unfold Reps at r; subst r; exact ⟨[], rfl, rfl, fun p h => (nomatch h)⟩
  | x :: xs, vs, h, r => by
    unfold Reps at r
    obtain ⟨v, t, rfl, r1, r2⟩ := r
    obtain ⟨ns, rfl⟩ := h x (.head _)
    obtain ⟨ks, rfl, rfl, h3⟩ := reps_tups (fun y hy => h y (.tail _ hy)) r2
    obtain ⟨a, us, rfl, ha, ru⟩ := r1.tup
    have : us = ns.map V.int := reps_ints (by
      have : ∀ ns : List Int, intsL (ns.map D.int) = some ns := by
        intro ns
        induction ns with
        | nil => rfl
        | cons n ns ih => simp only [List.map_cons, intsL, ih]; rfl
      exact this ns) ru
    subst this
    refine ⟨(a, ns) :: ks, rfl, rfl, fun p hp => ?_⟩
    rcases List.mem_cons.mp hp with rfl | hp
    · exact ha
    · exact h3 p hp
theorem toPys_tups (L : List (Addr × List Int)) : toPys (L.map fun p => D.tup (p.2.map D.int)) = L.map fun p => PyData.tuple (p.2.map PyData.int) := by
  induction L with
  | nil => rfl
  | cons p L ih => simp only [List.map_cons, toPys, toPy, ih, toPys_ints]
theorem reps_of_tups : ∀ {L : List (Addr × List Int)}, (∀ p ∈ L, Z p.1 = some (.tup (p.2.map V.int))) → Reps P os Z (L.map fun p => D.tup (p.2.map D.int)) (L.map fun p => V.ref p.1)
  | [], _ => reps_nil
  | p :: L, h => reps_cons (by unfold Rep; exact ⟨p.1, _, rfl, h p (.head _), reps_intsV p.2⟩) (reps_of_tups fun q hq => h q (.tail _ hq))
theorem tup_inj {a b : List Int} (h : D.tup (a.map D.int) = D.tup (b.map D.int)) : a = b := by
  injection h with h
  have := (eqv_ints a b).mp (by rw [h]; exact (eqv_ints b b).mpr rfl)
  exact this
theorem sset_ok {prog : Program} {dx d : D} {xs : List D} {x : V} (k : Ok P os w Z H) (rx : (∃ a vs, x = .ref a ∧ SqL P.K H a vs ∧ Reps P os Z xs vs) ∨ ((∃ ns, intsL xs = some ns) ∧ ∃ a vs, x = .ref a ∧ SqT P.K H a vs ∧ Reps P os Z xs vs)) (e : setD xs = some d) (q : Wn P os Z H w d Q) :
    rSetA P.K prog P.wo [x] H fun y H2 => rSortedSA P.K prog P.wo [y] H2 Q := by
  unfold setD at e
  by_cases c : okSet xs = true
  case neg => rw [if_neg c] at e; cases e
  rw [if_pos c] at e
  obtain ⟨oks, rfl⟩ := sortD_some e
  unfold okSet at c
  simp only [Bool.and_eq_true, decide_eq_true_eq] at c
  obtain ⟨c1, c2, c3⟩ := c
  by_cases hi : ∃ ns, intsL xs = some ns
  · obtain ⟨ns, hns⟩ := hi
    have hx := intsL_map hns
    have eqI : ∀ a ∈ xs, ∀ b ∈ xs, D.eqv a b = true ↔ a = b := fun a ha b hb => by
      rw [hx] at ha hb
      obtain ⟨i, _, rfl⟩ := List.mem_map.mp ha
      obtain ⟨j, _, rfl⟩ := List.mem_map.mp hb
      simp [D.eqv]
    obtain ⟨n1, n2⟩ := nub_mem eqI
    have fin : ∀ (p0 : Addr) (c0 : Nat), H p0 = none → rSortedSA P.K prog P.wo [V.ref p0] (upd H p0 (SetO P.wo p0 (fun j => decide (j ∈ ns)) c0)) Q := fun p0 c0 hp0 => by
      obtain ⟨k2, s2⟩ := k.alloc hp0 (SetO P.wo p0 (fun j => decide (j ∈ ns)) c0)
      refine .inl ⟨p0, _, c0, rfl, upd_same, fun ks nd hk => ?_⟩
      have hperm : (ks.map D.int).Perm (nubD xs) := by
        refine (List.perm_ext_iff_of_nodup (List.Pairwise.map D.int (fun a b hab z => by injection z with z; exact hab z) nd) n2).mpr fun y => ?_
        rw [n1, hx]
        constructor
        · intro hy
          obtain ⟨i, h1, rfl⟩ := List.mem_map.mp hy
          exact List.mem_map.mpr ⟨i, of_decide_eq_true ((hk i).mp h1), rfl⟩
        · intro hy
          obtain ⟨i, h1, rfl⟩ := List.mem_map.mp hy
          exact List.mem_map.mpr ⟨i, (hk i).mpr (decide_eq_true h1), rfl⟩
      have ok2 : okSortB (ks.map D.int) = true := ok_sub oks fun y hy => hperm.mem_iff.mp hy
      have hl : (ks.map V.int).length ≤ sizeLine := by
        have := hperm.length_eq
        rw [List.length_map] at this ⊢
        rw [sizeLine_eq]; omega
      have r2 : Reps P os (upd Z p0 (SetO P.wo p0 (fun j => decide (j ∈ ns)) c0)) (ks.map D.int) (ks.map V.int) := reps_intsV ks
      have sa := srt_arg k2.zh ok2 r2 hl
      have sr := sorted_srt k2.zh ok2 r2
      rw [toPys_ints] at sa sr
      refine ⟨sa, fun p hp => ?_⟩
      rw [isortB_uniq oks hperm] at sr
      obtain ⟨k3, s3, hz3, np3⟩ := k2.allocOwn hp (.lst (srtV (ks.map V.int) (ks.map PyData.int)))
      refine q _ _ _ _ (s2.then s3) k3 ⟨p, _, rfl, ?_, np3, hz3, upd_same, sr⟩
      cases q0 : H p with
      | none => rfl
      | some o => exact absurd hp (s2.there p (by rw [q0]; intro z; cases z))
    have hb : ns.length + 1 < scanBound := by
      have : xs.length = ns.length := by rw [hx, List.length_map]
      unfold scanBound; omega
    rcases rx with ⟨a, vs, rfl, ha, r⟩ | ⟨_, a, vs, rfl, ha, r⟩
    · rw [reps_ints hns r] at ha
      exact .inl ⟨a, ns, rfl, .inl ha, hb, fun p c0 hp => fin p c0 hp⟩
    · rw [reps_ints hns r] at ha
      exact .inl ⟨a, ns, rfl, .inr ha, hb, fun p c0 hp => fin p c0 hp⟩
  · have ht : ∀ x ∈ xs, ∃ ns : List Int, x = .tup (ns.map .int) := by
      rw [Bool.or_eq_true] at c1
      rcases c1 with c1 | c1
      · refine absurd ?_ hi
        have : ∀ xs : List D, (xs.all fun x => match x with
          | .int _ => true
          | _ => false) = true → ∃ ns, intsL xs = some ns := by
          intro xs
          induction xs with
          | nil => intro _; exact ⟨[], rfl⟩
          | cons x xs ih =>
            intro h
            rw [List.all_cons, Bool.and_eq_true] at h
            obtain ⟨ha, hb⟩ := h
            obtain ⟨ns, e⟩ := ih hb
            cases x <;> first | (exact absurd ha Bool.false_ne_true) | skip
            rename_i i
            exact ⟨i :: ns, by simp only [intsL, e]; rfl⟩
        exact this xs c1
      · intro x hx
        have h1 := List.all_eq_true.mp c1 x hx
        cases x <;> first | (exact absurd h1 Bool.false_ne_true) | skip
        rename_i ys
        simp only [Bool.and_eq_true] at h1
        obtain ⟨ns, e⟩ := Option.isSome_iff_exists.mp h1.1
        exact ⟨ns, by rw [intsL_map e]⟩
    rcases rx with ⟨a, vs, rfl, ha, r⟩ | ⟨h, _⟩
    case inr => exact absurd h hi
    obtain ⟨ks, rfl, hx, hks⟩ := reps_tups ht r
    have eqT : ∀ a ∈ xs, ∀ b ∈ xs, D.eqv a b = true ↔ a = b := fun a ha b hb => by
      obtain ⟨i, rfl⟩ := ht a ha
      obtain ⟨j, rfl⟩ := ht b hb
      show D.eqvs _ _ = true ↔ _
      rw [eqv_ints]
      exact ⟨fun e => by rw [e], tup_inj⟩
    obtain ⟨n1, n2⟩ := nub_mem eqT
    have toN : ∀ L : List (Addr × List Int), (L.map (·.2)).Nodup → (L.map fun p => D.tup (p.2.map D.int)).Nodup := fun L hL => by
      have : (L.map fun p => D.tup (p.2.map D.int)) = (L.map (·.2)).map fun l => D.tup (l.map D.int) := by rw [List.map_map]; rfl
      rw [this]
      exact List.Pairwise.map _ (fun a b hab z => hab (tup_inj z)) hL
    refine .inr ⟨a, ks, rfl, ha, fun p hp => .of (k.zh _ _ (hks p hp)), fun L hL nd => ?_, fun p0 L hp0 hL hall nd => ?_⟩
    · have h1 : (L.map fun p => D.tup (p.2.map D.int)).length ≤ (nubD xs).length := (toN L nd).length_le_of_subset fun y hy => by
        obtain ⟨p, hp, rfl⟩ := List.mem_map.mp hy
        rw [n1, hx]
        exact List.mem_map.mpr ⟨p, hL p hp, rfl⟩
      rw [List.length_map] at h1
      omega
    · obtain ⟨k2, s2⟩ := k.alloc hp0 (SetTO prog P.wo p0 L)
      have zL : ∀ p ∈ L, upd Z p0 (SetTO prog P.wo p0 L) p.1 = some (.tup (p.2.map V.int)) := fun p hp => s2.zle _ _ (hks p (hL p hp))
      refine .inr ⟨p0, L, rfl, upd_same, fun p hp => .of (k2.zh _ _ (zL p hp)), fun L' pm => ?_⟩
      have nd' : (L'.map (·.2)).Nodup := (pm.map (·.2)).nodup_iff.mpr nd
      have hperm : (L'.map fun p => D.tup (p.2.map D.int)).Perm (nubD xs) := by
        refine (List.perm_ext_iff_of_nodup (toN L' nd') n2).mpr fun y => ?_
        rw [n1, hx]
        constructor
        · intro hy
          obtain ⟨p, h1, rfl⟩ := List.mem_map.mp hy
          exact List.mem_map.mpr ⟨p, hL p (pm.mem_iff.mp h1), rfl⟩
        · intro hy
          obtain ⟨p, h1, rfl⟩ := List.mem_map.mp hy
          obtain ⟨p', h2, e⟩ := List.mem_map.mp (hall p h1)
          exact List.mem_map.mpr ⟨p', pm.mem_iff.mpr h2, by rw [e]⟩
      have ok2 := ok_sub oks fun y hy => hperm.mem_iff.mp hy
      have hl : (L'.map fun p => V.ref p.1).length ≤ sizeLine := by
        have := hperm.length_eq
        rw [List.length_map] at this ⊢
        rw [sizeLine_eq]; omega
      have r2 : Reps P os (upd Z p0 (SetTO prog P.wo p0 L)) (L'.map fun p => D.tup (p.2.map D.int)) (L'.map fun p => V.ref p.1) := reps_of_tups fun p hp => zL p (pm.mem_iff.mp hp)
      have sa := srt_arg k2.zh ok2 r2 hl
      have sr := sorted_srt k2.zh ok2 r2
      rw [toPys_tups] at sa sr
      refine ⟨sa, fun p hp => ?_⟩
      rw [isortB_uniq oks hperm] at sr
      obtain ⟨k3, s3, hz3, np3⟩ := k2.allocOwn hp (.lst (srtV (L'.map fun p => V.ref p.1) (L'.map fun p => PyData.tuple (p.2.map PyData.int))))
      refine q _ _ _ _ (s2.then s3) k3 ⟨p, _, rfl, ?_, np3, hz3, upd_same, sr⟩
      cases q0 : H p with
      | none => rfl
      | some o => exact absurd hp (s2.there p (by rw [q0]; intro z; cases z))
end
end VI

set_option Elab.async false
set_option linter.all false
set_option maxRecDepth 100000
/-! VI, part 6: what is walked: lists, tuples, ranges, enumerate, zip. -/
namespace VI
open PySem PySem.Spec PyProof.Rows L2
abbrev SlS := L2.St

/-! ### a list or a tuple -/
def iSeqA (K : PySem.W.Frag) (tl : TE) : TI := fun σ H R => tl σ H fun x H1 => (∃ a xs, x = .ref a ∧ SqL K H1 a xs ∧ R (Itl K a) H1) ∨ (∃ a xs, x = .ref a ∧ SqT K H1 a xs ∧ R (Itt K a) H1)
theorem pi_seqA {X : Cx} {tg l : Expr} {tl : TE} (hl : PE X l tl) : PI X tg l (iSeqA X.K tl) := by
  refine ⟨fun pins s σ H R I h => ?_⟩
  refine thn (hl.run pins s σ H _ I h) fun v s1 ⟨x, H1, I1, r1, q1⟩ => ?_
  rcases q1 with ⟨a, xs, e, hq, q⟩ | ⟨a, xs, e, hq, q⟩
  · subst e
    cases r1
    obtain ⟨its, rv, p, hz⟩ := I1.list hq
    refine wpAny_pyIter_list p.isList ?_
    refine ⟨s1.heap.objs.size, [s1.heap.objs.size], _, _, H1, rfl, I1.kept (t' := s1.toks) fun b o e => Heap.get?_push_of_some _ e, turn_list a _, ⟨_, Heap.get?_push_size _ rfl, rfl, rfl⟩, fun b hb => ?_, q⟩
    have e : b = s1.heap.objs.size := by simpa using hb
    subst e
    exact I1.fpOk (Nat.le_refl _) (I1.hok.fresh (Nat.le_refl _))
  · subst e
    cases r1
    obtain ⟨its, rv, p, hz⟩ := I1.tuple hq
    refine wpAny_pyIter_tuple (show s1.heap.IsTuple a its.toArray from p) ?_
    refine ⟨s1.heap.objs.size, [s1.heap.objs.size], _, _, H1, rfl, I1.kept (t' := s1.toks) fun b o e => Heap.get?_push_of_some _ e, turn_tuple a _, ⟨_, Heap.get?_push_size _ rfl, rfl, rfl⟩, fun b hb => ?_, q⟩
    have e : b = s1.heap.objs.size := by simpa using hb
    subst e
    exact I1.fpOk (Nat.le_refl _) (I1.hok.fresh (Nat.le_refl _))

/-! ### enumerate of a tuple -/
theorem meets_enumerate_newT (l : Addr) (items : Array Value) (n : Nat) (dct : Option Addr) (sl : Array (Option Value)) :
    Meets (Builtin.«enumerate.__new__» ⟨[.type "enumerate", .ref l], []⟩) (fun _ R s => s.heap.get? l = some { cls := .type "tuple", dict := dct, data := .seq items n, slots := sl } ∧
      R (.ok (.ret (.ref (s.heap.push { cls := .type "tuple_iterator", data := .fields #[.ref l, .int 0 0] }).objs.size)))
        { s with heap := (s.heap.push { cls := .type "tuple_iterator", data := .fields #[.ref l, .int 0 0] }).push { cls := .type "enumerate", data := .fields #[.none, .bool false, .ref s.heap.objs.size, rawInt 0, .none, .none] } }) :=
  .of_wp fun prog w A R s h => by
    obtain ⟨hp, g, d, tk, os⟩ := s; obtain ⟨hl, h⟩ := h
    have hsub := sub_enumerate
    have hL : Heap.IsTuple (Shared.heap ⟨hp, g, d, tk, os⟩) l items := ⟨_, hl, rfl, n, rfl⟩
    wp_walk using wpAny_loadPart' hl
    refine wpAny_stack_any fun st => wpAny_pure ?_
    split
    · rename_i c _ _ _ _ _
      cases (c == Value.type "enumerate")
      · wp_walk using wpAny_loadPart' hl, wpAny_pyIter_tuple hL
        exact ⟨_, rfl, h⟩
      · wp_walk using wpAny_loadPart' hl, wpAny_pyIter_tuple hL
        exact ⟨_, rfl, h⟩
    · wp_walk using wpAny_loadPart' hl, wpAny_pyIter_tuple hL
      exact ⟨_, rfl, h⟩
theorem call_enumerate_tuple {prog : Program} {w : World} {A : Around} {E : Value → Shared → Prop} {s : Shared} {l : Addr} {items : Array Value} {Q : Value → Shared → Prop} (hL : s.heap.IsTuple l items)
    (h : ∀ h', IsEnum h' (s.heap.objs.size + 1) s.heap.objs.size 0 .none → h'.IsTupleIter s.heap.objs.size l 0 → h'.objs.size = s.heap.objs.size + 2 →
      (∀ b o, s.heap.get? b = some o → h'.get? b = some o) → Q (.ref (s.heap.objs.size + 1)) { s with heap := h' }) :
    wpAny (model prog w) A (call (.type "enumerate") [.ref l]) Q E s := by
  obtain ⟨⟨c, dct, dt, sl⟩, hl, hc, n, hd⟩ := hL
  replace hc : c = .type "tuple" := hc
  replace hd : dt = .seq items n := hd
  subst hc hd
  refine callType_new F.called_enumerate (by decide) (F.typeCall_enumerate_1 _) (F.newCall_enumerate_1 _) (fun obj => F.args_object_init_2 obj _) F.entry_enumerate_new
    (meets_enumerate_newT l items n dct sl) ⟨hl, ?_⟩
  have hz : (s.heap.push { cls := .type "tuple_iterator", data := .fields #[.ref l, .int 0 0] }).objs.size = s.heap.objs.size + 1 := Heap.size_push ..
  show _ ∧ _
  rw [hz]
  have he : IsEnum ((s.heap.push { cls := .type "tuple_iterator", data := .fields #[.ref l, .int 0 0] }).push
      { cls := .type "enumerate", data := .fields #[.none, .bool false, .ref s.heap.objs.size, rawInt 0, .none, .none] }) (s.heap.objs.size + 1) s.heap.objs.size 0 .none := by
    have := Heap.get?_push_size (s.heap.push { cls := .type "tuple_iterator", data := .fields #[.ref l, .int 0 0] })
      (o := { cls := .type "enumerate", data := .fields #[.none, .bool false, .ref s.heap.objs.size, rawInt 0, .none, .none] }) rfl
    rw [hz] at this; exact this
  refine ⟨⟨_, he, rfl⟩, h _ he ⟨_, Heap.get?_push_of_some _ (Heap.get?_push_size _ rfl), rfl, rfl⟩ (by rw [Heap.size_push, hz]) fun b o x => Heap.get?_push_of_some _ (Heap.get?_push_of_some _ x)⟩
def IteT (K : PySem.W.Frag) (a : Addr) : L2.It :=
  ⟨fun i H => ∃ (xs : List V) (x : V), SqT K H a xs ∧ xs[i]? = some x, fun i H v H' => ∃ T x, v = .ref T ∧ H T = none ∧ H' = upd H T (.tup [.int (i : Nat), x]) ∧ ∀ xs, SqT K H a xs → xs[i]? = some x, fun i H => ∃ xs : List V, SqT K H a xs ∧ xs.length ≤ i⟩
theorem tup_apart {h : Heap} {a e it : Addr} {its : Array Value} {i : Int} {j : Nat} {old : Value} (p : h.IsTuple a its) (he : IsEnum h e it i old) (hit : h.IsTupleIter it a j) : a ≠ it ∧ e ≠ a := by
  obtain ⟨o, ho, hc, _⟩ := p
  obtain ⟨o2, ho2, hc2, _⟩ := hit
  constructor
  · intro q; rw [q, ho2] at ho; cases ho; rw [hc2] at hc; injection hc with z; exact absurd z (by decide)
  · intro q; rw [q] at he; rw [he] at ho; cases ho; injection hc with z; exact absurd z (by decide)
theorem turn_enumT {P : Program} {w : World} {K : PySem.W.Frag} {elts : List Expr} {kk : Nat} {tpos : Pos} (a e it : Addr) :
    Turn P w K (.Tuple elts kk tpos) (IteT K a) [e, it] e (fun i h => (∃ old, IsEnum h e it ((i : Nat) : Int) old) ∧ h.IsTupleIter it a i ∧ e ≠ it) where
  mem := by simp
  obj := fun i h st b hb => by
    obtain ⟨⟨old, he⟩, ⟨o, ho, hc, hd⟩, _⟩ := st
    have e' : b = e ∨ b = it := by simpa using hb
    rcases e' with z | z
    · rw [z]; exact ⟨_, he, fun v q => nomatch q⟩
    · rw [z]; exact ⟨o, ho, fun v q => by rw [hd] at q; cases q⟩
  keep := fun i h h' st k => let ⟨⟨old, he⟩, hi, hne⟩ := st; ⟨⟨old, k e (by simp) _ he⟩, hi.at fun o q => k it (by simp) o q, hne⟩
  item := by
    intro X hP hw hK hc i pins s σ H E I hf st hg
    subst hP hw hK
    obtain ⟨⟨old, he⟩, hit, hne⟩ := st
    obtain ⟨xs, x, hq, hx⟩ := hg
    obtain ⟨its, rv, p, hz⟩ := I.tuple hq
    obtain ⟨u, hu, ru⟩ := rv.get hx
    have hel : e < s.heap.objs.size := Heap.lt_size he
    have hil : it < s.heap.objs.size := by obtain ⟨_, q, _⟩ := hit; exact Heap.lt_size q
    obtain ⟨ha1, ha2⟩ := tup_apart (show s.heap.IsTuple a its.toArray from p) he hit
    have hlt : i < its.toArray.size := by
      obtain ⟨z, _⟩ := List.getElem?_eq_some_iff.mp hu
      simpa using z
    refine wpAny_pyNext_enum_itemD (Draws.tuple (A := X.A.in1) (I.ok.hd hc) it a ha1 its.toArray) he ⟨hit, p⟩ hlt hne (by simp [hne, ha2]) fun x' h' tk hx' ho hst' hT hsz hk => ?_
    have ex : x' = u := by
      have : its.toArray[i]? = some u := by simpa using hu
      rw [this] at hx'
      exact (Option.some.inj hx').symm
    subst ex
    refine ⟨_, rfl, wpAny_letOwnedTupleGo_enum (s := { s with heap := h', toks := tk + 1 }) ho fun h'' he' sb => ?_⟩
    have hT2 : h''.get? s.heap.objs.size = some { cls := .type "tuple", data := .seq #[.int i tk, x'] } := (sb.2 _ (Nat.ne_of_gt hel)).trans hT
    have new : ObjOk X.prog X.w (upd H s.heap.objs.size (.tup [.int (i : Nat), x])) h'' s.heap.objs.size (.tup [.int (i : Nat), x]) :=
      ⟨by show 2 ≤ sizeLine; decide, [.int i tk, x'], .cons ⟨_, rfl⟩ (.cons ru .nil), ⟨_, hT2, rfl, _, rfl⟩⟩
    have I1 : Inv X pins σ (upd H s.heap.objs.size (.tup [.int (i : Nat), x])) { s with heap := h'', toks := tk + 1 } :=
      I.turnedNew (ch := [e, it]) (fun b ob hb q => (sb.2 b (fun z => hb (by simp [z]))).trans (hk b ob (fun z => hb (by simp [z])) (fun z => hb (by simp [z])) q)) hf (Nat.le_refl _) new
    refine ⟨.ref s.heap.objs.size, _, I1, rfl, ⟨_, x, rfl, I.hok.fresh (Nat.le_refl _), rfl, fun ys hy => by rw [I.tuple_inj hy hq]; exact hx⟩, ⟨⟨x', ?_⟩, hst'.1.at fun o q => (sb.2 it (Ne.symm hne)).trans q, hne⟩, fun b hb => ?_⟩
    · have e1 : ((i + 1 : Nat) : Int) = (i : Int) + 1 := by omega
      rw [e1]; exact he'
    · have hb' : b < s.heap.objs.size := by
        have e' : b = e ∨ b = it := by simpa using hb
        rcases e' with z | z
        · rw [z]; exact hel
        · rw [z]; exact hil
      rw [upd_ne (Nat.ne_of_lt hb')]
      exact (hf b hb).1
  done := by
    intro X hP hw hK hc i pins s σ H E I hf st hg
    subst hP hw hK
    obtain ⟨⟨old, he⟩, hit, hne⟩ := st
    obtain ⟨xs, hq, hx⟩ := hg
    obtain ⟨its, rv, p, hz⟩ := I.tuple hq
    obtain ⟨f0, f1, f2, f3, f4, f5⟩ := hf it (by simp)
    have hl := rv.length
    obtain ⟨ha1, ha2⟩ := tup_apart (show s.heap.IsTuple a its.toArray from p) he hit
    by_cases hi : i = its.toArray.size
    · subst hi
      exact wpAny_pyNext_enum_endD (Draws.tuple (A := X.A.in1) (I.ok.hd hc) it a ha1 its.toArray) he ⟨hit, p⟩ fun h' eb => ⟨rfl, I.turned (t' := s.toks) (fun b o hb q => eb b o hb q) f0 f1 f3 f4 f5⟩
    · have D : Draws X.prog X.w X.A.in1 it [it, a] i (fun _ _ => False) (fun j h => j = i ∧ h.IsTupleIter it a i ∧ h.IsTuple a its.toArray) := {
        live := fun _ _ st => let ⟨_, ⟨o, ho, _⟩, _⟩ := st; ⟨o, ho⟩
        frame := fun _ _ _ st hk => ⟨st.1, st.2.1.at fun o q => hk it (by simp) o q, st.2.2.at fun o q => hk a (by simp) o q⟩
        item := fun j s Q E hj st _ => absurd st.1 (Nat.ne_of_lt hj)
        done := fun s Q E st hE => wpAny_nextOf_tuple_end (I.ok.hd hc) st.2.1 st.2.2 (by simp; omega) hE }
      exact wpAny_pyNext_enum_endD D he ⟨rfl, hit, p⟩ fun h' eb => ⟨rfl, I.turned (t' := s.toks) (fun b o hb q => eb b o hb q) f0 f1 f3 f4 f5⟩
  self := fun A i s Q E st h => let ⟨⟨_, he⟩, _⟩ := st; wpAny_pyIter_enum he h
def iEnumA (K : PySem.W.Frag) (ta : TA) : TI := fun σ H R => ta σ H fun vs H1 => (∃ a xs, vs = [.ref a] ∧ SqL K H1 a xs ∧ R (Ite K a) H1) ∨ (∃ a xs, vs = [.ref a] ∧ SqT K H1 a xs ∧ R (IteT K a) H1)
theorem pi_enumA {X : Cx} {e : Expr} {ta : TA} {p pos tpos : Pos} {elts : List Expr} {kk : Nat} (hg : Gl X "enumerate") (hm : X.mg "enumerate" = none) (ha : PA X [e] ta) (hs : starEach [e] X.env = [(false, eval e X.env)]) :
    PI X (.Tuple elts kk tpos) (.Call (.Name "enumerate" p) [e] [] pos) (iEnumA X.K ta) := by
  refine ⟨fun pins s σ H R I h => ?_⟩
  refine Call_ (ld_blt I hg hm boot_enumerate (PyProof.Rows.callWith_type1 (thn (ha.run pos pins s σ H _ I h) fun us s1 ⟨vs, H1, I1, r1, q1⟩ => ?_) hs rfl))
  rcases q1 with ⟨a, xs, ex, hq, q⟩ | ⟨a, xs, ex, hq, q⟩
  · subst ex
    cases r1 with
    | cons r rr =>
      cases rr
      cases r
      obtain ⟨its, rv, p', hz⟩ := I1.list hq
      refine call_enumerate_list p'.isList fun h' he hit hsz hk => wpAny_pyIter_enum he ?_
      have I2 : Inv X pins σ H1 { s1 with heap := h' } := I1.kept (t' := s1.toks) hk
      refine ⟨s1.heap.objs.size + 1, [s1.heap.objs.size + 1, s1.heap.objs.size], _, _, H1, rfl, I2, turn_enum a (s1.heap.objs.size + 1) s1.heap.objs.size, ⟨⟨.none, he⟩, hit, Nat.succ_ne_self _⟩, fun b hb => ?_, q⟩
      have e' : b = s1.heap.objs.size + 1 ∨ b = s1.heap.objs.size := by simpa using hb
      have hle : s1.heap.objs.size ≤ b := by
        rcases e' with z | z
        · rw [z]; exact Nat.le_add_right _ _
        · rw [z]; exact Nat.le_refl _
      exact I1.fpOk hle (I1.hok.fresh hle)
  · subst ex
    cases r1 with
    | cons r rr =>
      cases rr
      cases r
      obtain ⟨its, rv, p', hz⟩ := I1.tuple hq
      refine call_enumerate_tuple (show s1.heap.IsTuple a its.toArray from p') fun h' he hit hsz hk => wpAny_pyIter_enum he ?_
      have I2 : Inv X pins σ H1 { s1 with heap := h' } := I1.kept (t' := s1.toks) hk
      refine ⟨s1.heap.objs.size + 1, [s1.heap.objs.size + 1, s1.heap.objs.size], _, _, H1, rfl, I2, turn_enumT a (s1.heap.objs.size + 1) s1.heap.objs.size, ⟨⟨.none, he⟩, hit, Nat.succ_ne_self _⟩, fun b hb => ?_, q⟩
      have e' : b = s1.heap.objs.size + 1 ∨ b = s1.heap.objs.size := by simpa using hb
      have hle : s1.heap.objs.size ≤ b := by
        rcases e' with z | z
        · rw [z]; exact Nat.le_add_right _ _
        · rw [z]; exact Nat.le_refl _
      exact I1.fpOk hle (I1.hok.fresh hle)

/-! ### walks by data -/
section
variable {P : Pm} {os os' : List Addr} {Z Z' H H' : Hp} {w : Wd} {X : Cx}
def WalkD (P : Pm) (J : L2.It) (xs : List D) (os : List Addr) (Z : Hp) : Prop := ∃ G Y, Walk J xs.length G Y ∧ (∀ os' w' Z' H', Le Z Z' → Ext os os' → Ok P os' w' Z' H' → G H') ∧
  ∀ i x H H' os' w' Z', Le Z Z' → Ext os os' → Ok P os' w' Z' H → Y i H x H' → ∀ d, xs[i]? = some d → ∃ Z'', Step (Ex H) os' Z' H os' Z'' H' ∧ Ok P os' w' Z'' H' ∧ Rep P os' Z'' d x
theorem walkD_list {a : Addr} {ds : List D} {vs : List V} (h : Z a = some (.lst vs)) (r : Reps P os Z ds vs) : WalkD P (Itl P.K a) ds os Z := by
  refine ⟨fun H => SqL P.K H a vs, YAt vs, ?_, fun os' w' Z' H' hz ho k => .of (k.zh _ _ (hz _ _ h)), fun i x H H' os' w' Z' hz ho k y d e => ?_⟩
  · rw [r.length]; exact walk_list
  · obtain ⟨rfl, hx⟩ := y
    obtain ⟨v, h1, h2⟩ := (r.mono hz ho).get e
    have hx : vs[i]? = some x := hx
    rw [hx] at h1
    cases h1
    exact ⟨Z', Step.refl, k, h2⟩
theorem walkD_tup {a : Addr} {ds : List D} {vs : List V} (h : Z a = some (.tup vs)) (r : Reps P os Z ds vs) : WalkD P (Itt P.K a) ds os Z := by
  refine ⟨fun H => SqT P.K H a vs, YAt vs, ?_, fun os' w' Z' H' hz ho k => .of (k.zh _ _ (hz _ _ h)), fun i x H H' os' w' Z' hz ho k y d e => ?_⟩
  · rw [r.length]; exact walk_tup
  · obtain ⟨rfl, hx⟩ := y
    obtain ⟨v, h1, h2⟩ := (r.mono hz ho).get e
    have hx : vs[i]? = some x := hx
    rw [hx] at h1
    cases h1
    exact ⟨Z', Step.refl, k, h2⟩
theorem rngL_length (lo hi : Int) : (rngL lo hi).length = (hi - lo).toNat := by unfold rngL; simp
theorem walkD_range {lo hi : Int} : WalkD P (Itr lo (hi - lo).toNat) (rngL lo hi) os Z := by
  refine ⟨fun _ => True, YFn fun i => .int (lo + i), ?_, fun _ _ _ _ _ _ _ => trivial, fun i x H H' os' w' Z' hz ho k y d e => ?_⟩
  · rw [rngL_length]; exact walk_range
  · obtain ⟨rfl, hx⟩ := y
    subst hx
    unfold rngL at e
    rw [List.getElem?_map] at e
    obtain ⟨j, h1, rfl⟩ := Option.map_eq_some_iff.mp e
    have : j = i := by
      obtain ⟨h2, h3⟩ := List.getElem?_eq_some_iff.mp h1
      simp at h3
      exact h3.symm
    subst this
    exact ⟨Z', Step.refl, k, by unfold Rep; rfl⟩
theorem enumL_get : ∀ (n : Nat) (xs : List D) (i : Nat), (enumL n xs)[i]? = (xs[i]?).map fun x => .tup [.int ((n + i : Nat) : Int), x]
  | n, [], i => by unfold enumL; simp
  | n, x :: xs, 0 => by unfold enumL; simp
  | n, x :: xs, i + 1 => by
    unfold enumL
    rw [List.getElem?_cons_succ, List.getElem?_cons_succ, enumL_get (n + 1) xs i]
    have : n + 1 + i = n + (i + 1) := by omega
    rw [this]
theorem enumL_length : ∀ (n : Nat) (xs : List D), (enumL n xs).length = xs.length
  | n, [] => rfl
  | n, x :: xs => by unfold enumL; rw [List.length_cons, List.length_cons, enumL_length (n + 1) xs]
/-- a new pair of two values -/
theorem pair_ok {T : Addr} {x y : V} {dx dy : D} {w : Wd} (k : Ok P os w Z H) (hT : H T = none) (rx : Rep P os Z dx x) (ry : Rep P os Z dy y) :
    ∃ Z'', Step (Ex H) os Z H os Z'' (upd H T (.tup [x, y])) ∧ Ok P os w Z'' (upd H T (.tup [x, y])) ∧ Rep P os Z'' (.tup [dx, dy]) (.ref T) := by
  obtain ⟨k2, s⟩ := k.alloc hT (.tup [x, y])
  refine ⟨_, s, k2, ?_⟩
  unfold Rep
  exact ⟨T, _, rfl, upd_same, reps_cons (rx.mono s.zle Ext.refl) (reps_cons (ry.mono s.zle Ext.refl) reps_nil)⟩
theorem walk_enumT {K : PySem.W.Frag} {a : Addr} {xs : List V} : Walk (IteT K a) xs.length (fun H => SqT K H a xs) (YPair (fun i => some (.int (i : Nat))) (fun i => xs[i]?)) where
  goes := fun i H hi h => ⟨xs, xs[i], h, by simp [hi]⟩
  stops := fun H h => ⟨xs, h, Nat.le_refl _⟩
  yields := fun i H x H' hi h ⟨T, y, e1, e2, e3, e4⟩ => ⟨T, .int (i : Nat), y, e1, e2, e3, rfl, e4 xs h⟩
theorem walkD_enumL {a : Addr} {ds : List D} {vs : List V} (h : Z a = some (.lst vs)) (r : Reps P os Z ds vs) : WalkD P (Ite P.K a) (enumL 0 ds) os Z := by
  refine ⟨fun H => SqL P.K H a vs, YPair (fun i => some (.int (i : Nat))) (fun i => vs[i]?), ?_, fun os' w' Z' H' hz ho k => .of (k.zh _ _ (hz _ _ h)), fun i x H H' os' w' Z' hz ho k y d e => ?_⟩
  · rw [enumL_length, r.length]; exact walk_enum
  · obtain ⟨T, u, v, rfl, hT, rfl, h1, h2⟩ := y
    replace h1 : some (V.int (i : Nat)) = some u := h1
    replace h2 : vs[i]? = some v := h2
    rw [enumL_get] at e
    obtain ⟨z, h3, rfl⟩ := Option.map_eq_some_iff.mp e
    obtain ⟨v', h4, h5⟩ := (r.mono hz ho).get h3
    rw [h2] at h4
    cases h4
    cases h1
    have e0 : (0 + i : Nat) = i := by omega
    rw [e0]
    exact pair_ok k hT (by unfold Rep; rfl) h5
theorem walkD_enumT {a : Addr} {ds : List D} {vs : List V} (h : Z a = some (.tup vs)) (r : Reps P os Z ds vs) : WalkD P (IteT P.K a) (enumL 0 ds) os Z := by
  refine ⟨fun H => SqT P.K H a vs, YPair (fun i => some (.int (i : Nat))) (fun i => vs[i]?), ?_, fun os' w' Z' H' hz ho k => .of (k.zh _ _ (hz _ _ h)), fun i x H H' os' w' Z' hz ho k y d e => ?_⟩
  · rw [enumL_length, r.length]; exact walk_enumT
  · obtain ⟨T, u, v, rfl, hT, rfl, h1, h2⟩ := y
    replace h1 : some (V.int (i : Nat)) = some u := h1
    replace h2 : vs[i]? = some v := h2
    rw [enumL_get] at e
    obtain ⟨z, h3, rfl⟩ := Option.map_eq_some_iff.mp e
    obtain ⟨v', h4, h5⟩ := (r.mono hz ho).get h3
    rw [h2] at h4
    cases h4
    cases h1
    have e0 : (0 + i : Nat) = i := by omega
    rw [e0]
    exact pair_ok k hT (by unfold Rep; rfl) h5
/-! dicts -/
theorem walkD_at {J : L2.It} {vs : List V} {G : Hp → Prop} {ds : List D} (hw : Walk J vs.length G (YAt vs)) (hG : ∀ os' w' Z' H', Le Z Z' → Ext os os' → Ok P os' w' Z' H' → G H') (r : Reps P os Z ds vs) : WalkD P J ds os Z := by
  refine ⟨G, YAt vs, by rw [r.length]; exact hw, hG, fun i x H H' os' w' Z' hz ho k y d e => ?_⟩
  obtain ⟨rfl, hx⟩ := y
  obtain ⟨v, h1, h2⟩ := (r.mono hz ho).get e
  have hx : vs[i]? = some x := hx
  rw [hx] at h1
  cases h1
  exact ⟨Z', Step.refl, k, h2⟩
theorem keys_reps {w : World} : ∀ {kvs : List (D × D)} {qs : List Row} {l : List DictEntry}, Paired (RepK P os Z) kvs qs → Paired (EntV w) qs l → (∀ q ∈ qs, KeyOk Z q.1 q.2.1) → Reps P os Z (kvs.map (·.1)) (qs.map fun q => V.ref q.2.1) ∧ Paired (fun v (e : DictEntry) => RelV v e.key) (qs.map fun q => V.ref q.2.1) l
  | _, _, _, .nil, .nil, _ => ⟨reps_nil, .nil⟩
  | (kk, dd) :: kvs, q :: qs, e :: l, .cons h t, .cons g u, hk => by
    obtain ⟨h1, h2⟩ := keys_reps t u fun q hq => hk q (.tail _ hq)
    unfold RepK at h
    obtain ⟨a1, a2, a3⟩ := h
    obtain ⟨b1, b2, b3⟩ := g
    have hq := hk q (.head _)
    refine ⟨reps_cons (nk_rep kk 6 _ (key_kok a1).1 (by rw [← a2]; exact hq.1)) h1, .cons ?_ h2⟩
    rw [b1]; rfl
theorem vals_reps {w : World} : ∀ {kvs : List (D × D)} {qs : List Row} {l : List DictEntry}, Paired (RepK P os Z) kvs qs → Paired (EntV w) qs l → Reps P os Z (kvs.map (·.2)) (qs.map fun q => q.2.2) ∧ Paired (fun v (e : DictEntry) => RelV v e.val) (qs.map fun q => q.2.2) l
  | _, _, _, .nil, .nil => ⟨reps_nil, .nil⟩
  | (kk, dd) :: kvs, q :: qs, e :: l, .cons h t, .cons g u => by
    obtain ⟨h1, h2⟩ := vals_reps t u
    unfold RepK at h
    exact ⟨reps_cons h.2.2 h1, .cons g.2.2 h2⟩
end
end VI

set_option Elab.async false
set_option linter.all false
set_option maxRecDepth 100000
/-! VI, part 7: readings by data; the forms of the text's trees. -/
namespace VI
open PySem L2
abbrev Stt := L2.St
/-! ### readings -/
def tX {α β : Type} (P : Pm) (W : WX) (m : Env → M α) (R : α → List Addr → Hp → Hp → Hp → β → Prop) : Stt → Hp → (β → Hp → Prop) → Prop := fun σ H Q =>
  ∃ os Z w env ad B, Ok P os w Z H ∧ Slots P B env σ ad os Z H ∧ Out P W σ os Z H (m env w) fun a _ os' Z' H' => ∀ v, R a os' Z' H H' v → Q v H'
section
variable {P : Pm} {W : WX} {os os' : List Addr} {Z Z' H H' H0 : Hp} {w w' : Wd} {env : Env} {ad : Nat → List Addr} {B : Addr → Prop} {σ : Stt} {α β : Type}
theorem tX_intro {m : Env → M α} {R : α → List Addr → Hp → Hp → Hp → β → Prop} {Q : β → Hp → Prop} {Kt : α → Wd → List Addr → Hp → Hp → Prop} (k : Ok P os w Z H) (sl : Slots P B env σ ad os Z H) (h : Out P W σ os Z H (m env w) Kt)
    (hq : ∀ a w' os' Z' H' v, Step (Ex H) os Z H os' Z' H' → Ok P os' w' Z' H' → Slots P B env σ ad os' Z' H' → R a os' Z' H H' v → Kt a w' os' Z' H' → Q v H') : tX P W m R σ H Q :=
  ⟨os, Z, w, env, ad, B, k, sl, h.mono fun a w' os' Z' H' st k' kt v r => hq a w' os' Z' H' v st k' (sl.step st) r kt⟩
/-- the outcome's relations -/
def RV (P : Pm) (n : Nat) : D → List Addr → Hp → Hp → Hp → V → Prop := fun d os' Z' _ H' v => LR P os' Z' H' n d v
def RN (P : Pm) : D → List Addr → Hp → Hp → Hp → V → Prop := fun d os' Z' H0 H' v => New P os' Z' H0 H' d v
def RB : D → List Addr → Hp → Hp → Hp → Bool → Prop := fun d _ _ _ _ b => d = .bl b
def RA (P : Pm) : List D → List Addr → Hp → Hp → Hp → List V → Prop := fun ds os' Z' _ _ vs => Reps P os' Z' ds vs
def RO : Option Int → List Addr → Hp → Hp → Hp → Option Int → Prop := fun o _ _ _ _ x => o = x
def RI (P : Pm) : List D → List Addr → Hp → Hp → Hp → L2.It → Prop := fun ds os' Z' _ _ J => WalkD P J ds os' Z'
theorem Out.wn {d : D} {Q : VK} (s : Step (Ex H0) os Z H0 os' Z' H') (h : Out P W σ os' Z' H' (VI.ret d w) fun a _ os2 Z2 H2 => ∀ v, New P os2 Z2 H0 H2 a v → Q v H2) : Wn P os' Z' H' w d Q := fun v os2 Z2 H2 st k n => by
  refine h os2 Z2 H2 st k v ?_
  cases d with
  | lst ds =>
    obtain ⟨a, vs, e, h0, r⟩ := n
    refine ⟨a, vs, e, ?_, r⟩
    cases q : H0 a with
    | none => rfl
    | some o => exact absurd h0 (s.there a (by rw [q]; intro z; cases z))
  | dct kvs =>
    obtain ⟨a, e, h0, r⟩ := n
    refine ⟨a, e, ?_, r⟩
    cases q : H0 a with
    | none => rfl
    | some o => exact absurd h0 (s.there a (by rw [q]; intro z; cases z))
  | _ => exact n
theorem tX_mono {m : Env → M α} {R : α → List Addr → Hp → Hp → Hp → β → Prop} {Q Q' : β → Hp → Prop} (h : tX P W m R σ H Q) (g : ∀ v H', Q v H' → Q' v H') : tX P W m R σ H Q' := by
  obtain ⟨os, Z, w, env, ad, B, k, sl, h⟩ := h
  exact ⟨os, Z, w, env, ad, B, k, sl, h.mono fun a w' os' Z' H' st k' q v r => g v H' (q v r)⟩
/-- from nobody's to a value for good -/
theorem tX_frz {m : Env → M D} {Q : VK} {n : Nat} (h : tX P W m (RV P n) σ H Q) : tX P W m (RN P) σ H Q := by
  obtain ⟨os, Z, w, env, ad, B, k, sl, h⟩ := h
  refine ⟨os, Z, w, env, ad, B, k, sl, ?_⟩
  revert h
  cases m env w with
  | no => exact fun h => h
  | exn c f w1 => exact fun h => h
  | ok d w1 =>
    intro h os' Z' H' st k' v r
    cases d with
    | lst ds =>
      obtain ⟨a, vs, rfl, h0, na, hz, hh, rr⟩ := r
      obtain ⟨k2, lz⟩ := k'.freeze hh na hz
      refine h os' (upd Z' a (.lst vs)) H' (st.freeze (fun z => z h0) hz) k2 (.ref a) (.of ?_)
      unfold Rep
      exact ⟨a, vs, rfl, upd_same, rr.mono lz Ext.refl⟩
    | dct kvs =>
      obtain ⟨a, rfl, h0, na, hz, es, ep, qs, hh, rw0, t⟩ := r
      obtain ⟨k2, lz⟩ := k'.freeze hh na hz
      refine h os' (upd Z' a (dRaw a es ep)) H' (st.freeze (fun z => z h0) hz) k2 (.ref a) (.of ?_)
      exact DctR.rep ⟨es, ep, qs, upd_same, rw0.mono lz, paired_imp (fun _ _ => RepK.mono lz Ext.refl) t⟩
    | _ => exact h os' Z' H' st k' v (.of r)
end
theorem _root_.L2.PE.imp {X : Cx} {e : Expr} {t t' : TE} (h : PE X e t) (g : ∀ σ H Q, t' σ H Q → t σ H Q) : PE X e t' := ⟨fun pins s σ H Q I q => h.run pins s σ H Q I (g σ H Q q)⟩
theorem _root_.L2.PT.imp {X : Cx} {e : Expr} {t t' : TT} (h : PT X e t) (g : ∀ σ H Q, t' σ H Q → t σ H Q) : PT X e t' := ⟨fun pins s σ H Q I q => h.run pins s σ H Q I (g σ H Q q)⟩
theorem _root_.L2.PW.imp {X : Cx} {e : Expr} {t t' : TT} (h : PW X e t) (g : ∀ σ H Q, t' σ H Q → t σ H Q) : PW X e t' := ⟨fun wh pins s σ H Q I q => h.run wh pins s σ H Q I (g σ H Q q)⟩
theorem _root_.L2.PA.imp {X : Cx} {e : List Expr} {t t' : TA} (h : PA X e t) (g : ∀ σ H Q, t' σ H Q → t σ H Q) : PA X e t' := ⟨fun pos pins s σ H Q I q => h.run pos pins s σ H Q I (g σ H Q q)⟩
theorem _root_.L2.PI.imp {X : Cx} {tg e : Expr} {t t' : TI} (h : PI X tg e t) (g : ∀ σ H Q, t' σ H Q → t σ H Q) : PI X tg e t' := ⟨fun pins s σ H Q I q => h.run pins s σ H Q I (g σ H Q q)⟩
theorem _root_.L2.PO.imp {X : Cx} {e : Option Expr} {t t' : TO} (h : PO X e t) (g : ∀ σ H Q, t' σ H Q → t σ H Q) : PO X e t' := ⟨fun pins s σ H Q I q => h.run pins s σ H Q I (g σ H Q q)⟩
theorem _root_.L2.PTs.imp {X : Cx} {e : List Expr} {t t' : TT} (h : PTs X e t) (g : ∀ σ H Q, t' σ H Q → t σ H Q) : PTs X e t' := ⟨fun pins s σ H Q I q => h.run pins s σ H Q I (g σ H Q q)⟩
theorem _root_.L2.PG.imp {X : Cx} {e : Expr} {t t' : TG} (h : PG X e t) (g : ∀ v σ H Q, t' v σ H Q → t v σ H Q) : PG X e t' := ⟨fun pins s σ H v u Q r I q => h.run pins s σ H v u Q r I (g v σ H Q q)⟩

/-! ### the forms of trees -/
def asName : Expr → Option (Str × Pos)
  | .Name x p => some (x, p)
  | _ => none
theorem asName_eq {t : Expr} {r} (h : asName t = some r) : t = .Name r.1 r.2 := by unfold asName at h; split at h <;> cases h; rfl
def asConst : Expr → Option (Const × Nat × Pos)
  | .Constant c k p => some (c, k, p)
  | _ => none
theorem asConst_eq {t : Expr} {r} (h : asConst t = some r) : t = .Constant r.1 r.2.1 r.2.2 := by unfold asConst at h; split at h <;> cases h; rfl
def asTup : Expr → Option (List Expr × Nat × Pos)
  | .Tuple c k p => some (c, k, p)
  | _ => none
theorem asTup_eq {t : Expr} {r} (h : asTup t = some r) : t = .Tuple r.1 r.2.1 r.2.2 := by unfold asTup at h; split at h <;> cases h; rfl
def asLst : Expr → Option (List Expr × Pos)
  | .List c p => some (c, p)
  | _ => none
theorem asLst_eq {t : Expr} {r} (h : asLst t = some r) : t = .List r.1 r.2 := by unfold asLst at h; split at h <;> cases h; rfl
def asBin : Expr → Option (Expr × Operator × Expr × Pos)
  | .BinOp a o b p => some (a, o, b, p)
  | _ => none
theorem asBin_eq {t : Expr} {r} (h : asBin t = some r) : t = .BinOp r.1 r.2.1 r.2.2.1 r.2.2.2 := by unfold asBin at h; split at h <;> cases h; rfl
def asUn : Expr → Option (UnaryOp × Expr × Pos)
  | .UnaryOp o a p => some (o, a, p)
  | _ => none
theorem asUn_eq {t : Expr} {r} (h : asUn t = some r) : t = .UnaryOp r.1 r.2.1 r.2.2 := by unfold asUn at h; split at h <;> cases h; rfl
def asBool : Expr → Option (BoolOp × Expr × Expr × List Expr × Pos)
  | .BoolOp o (a :: b :: r) p => some (o, a, b, r, p)
  | _ => none
theorem asBool_eq {t : Expr} {r} (h : asBool t = some r) : t = .BoolOp r.1 (r.2.1 :: r.2.2.1 :: r.2.2.2.1) r.2.2.2.2 := by unfold asBool at h; split at h <;> cases h; rfl
def asIf : Expr → Option (Expr × Expr × Expr × Pos)
  | .IfExp a b c p => some (a, b, c, p)
  | _ => none
theorem asIf_eq {t : Expr} {r} (h : asIf t = some r) : t = .IfExp r.1 r.2.1 r.2.2.1 r.2.2.2 := by unfold asIf at h; split at h <;> cases h; rfl
def asCmp1 : Expr → Option (Expr × CmpOp × Expr × Pos)
  | .Compare a [o] [b] p => some (a, o, b, p)
  | _ => none
theorem asCmp1_eq {t : Expr} {r} (h : asCmp1 t = some r) : t = .Compare r.1 [r.2.1] [r.2.2.1] r.2.2.2 := by unfold asCmp1 at h; split at h <;> cases h; rfl
def asCmp2 : Expr → Option (Expr × CmpOp × CmpOp × Expr × Expr × Pos)
  | .Compare a [o, o'] [b, c] p => some (a, o, o', b, c, p)
  | _ => none
theorem asCmp2_eq {t : Expr} {r} (h : asCmp2 t = some r) : t = .Compare r.1 [r.2.1, r.2.2.1] [r.2.2.2.1, r.2.2.2.2.1] r.2.2.2.2.2 := by unfold asCmp2 at h; split at h <;> cases h; rfl
/-- f(e, ..) -/
def asCall : Expr → Option (Str × Pos × Expr × List Expr × Pos)
  | .Call (.Name x p) (e :: es) [] q => some (x, p, e, es, q)
  | _ => none
theorem asCall_eq {t : Expr} {r} (h : asCall t = some r) : t = .Call (.Name r.1 r.2.1) (r.2.2.1 :: r.2.2.2.1) [] r.2.2.2.2 := by unfold asCall at h; split at h <;> cases h; rfl
/-- o.m(e, ..) -/
def asMeth : Expr → Option (Expr × Str × Pos × Expr × List Expr × Pos)
  | .Call (.Attribute o m p) (e :: es) [] q => some (o, m, p, e, es, q)
  | _ => none
theorem asMeth_eq {t : Expr} {r} (h : asMeth t = some r) : t = .Call (.Attribute r.1 r.2.1 r.2.2.1) (r.2.2.2.1 :: r.2.2.2.2.1) [] r.2.2.2.2.2 := by unfold asMeth at h; split at h <;> cases h; rfl
def asSub : Expr → Option (Expr × Expr × Pos)
  | .Subscript a i p => some (a, i, p)
  | _ => none
theorem asSub_eq {t : Expr} {r} (h : asSub t = some r) : t = .Subscript r.1 r.2.1 r.2.2 := by unfold asSub at h; split at h <;> cases h; rfl
def asSlice : Expr → Option (Expr × Option Expr × Option Expr × Pos × Pos)
  | .Subscript a (.Slice lo hi none p) q => some (a, lo, hi, p, q)
  | _ => none
theorem asSlice_eq {t : Expr} {r} (h : asSlice t = some r) : t = .Subscript r.1 (.Slice r.2.1 r.2.2.1 none r.2.2.2.1) r.2.2.2.2 := by unfold asSlice at h; split at h <;> cases h; rfl
def asRev : Expr → Option (Expr × Nat × Pos × Pos × Pos × Pos)
  | .Subscript a (.Slice none none (some (.UnaryOp .USub (.Constant (.int 1) k p1) p2)) p3) q => some (a, k, p1, p2, p3, q)
  | _ => none
theorem asRev_eq {t : Expr} {r} (h : asRev t = some r) : t = .Subscript r.1 (.Slice none none (some (.UnaryOp .USub (.Constant (.int 1) r.2.1 r.2.2.1) r.2.2.2.1)) r.2.2.2.2.1) r.2.2.2.2.2 := by
  unfold asRev at h; split at h <;> cases h; rfl
/-- o.m() -/
def asMeth0 : Expr → Option (Expr × Str × Pos × Pos)
  | .Call (.Attribute o m p) [] [] q => some (o, m, p, q)
  | _ => none
theorem asMeth0_eq {t : Expr} {r} (h : asMeth0 t = some r) : t = .Call (.Attribute r.1 r.2.1 r.2.2.1) [] [] r.2.2.2 := by unfold asMeth0 at h; split at h <;> cases h; rfl
def asCmp3 : Expr → Option (Expr × CmpOp × CmpOp × CmpOp × Expr × Expr × Expr × Pos)
  | .Compare a [o, o', o''] [b, c, d] p => some (a, o, o', o'', b, c, d, p)
  | _ => none
theorem asCmp3_eq {t : Expr} {r} (h : asCmp3 t = some r) : t = .Compare r.1 [r.2.1, r.2.2.1, r.2.2.2.1] [r.2.2.2.2.1, r.2.2.2.2.2.1, r.2.2.2.2.2.2.1] r.2.2.2.2.2.2.2 := by unfold asCmp3 at h; split at h <;> cases h; rfl
def asDct0 : Expr → Option Pos
  | .Dict [] [] p => some p
  | _ => none
theorem asDct0_eq {t : Expr} {r} (h : asDct0 t = some r) : t = .Dict [] [] r := by unfold asDct0 at h; split at h <;> cases h; rfl
def asDct1 : Expr → Option (Expr × Expr × Pos)
  | .Dict [some k] [v] p => some (k, v, p)
  | _ => none
theorem asDct1_eq {t : Expr} {r} (h : asDct1 t = some r) : t = .Dict [some r.1] [r.2.1] r.2.2 := by unfold asDct1 at h; split at h <;> cases h; rfl
def asComp : Expr → Option (Expr × Expr × Expr × List Expr × Scope × Pos)
  | .ListComp e [⟨tg, it, ifs, 0⟩] sc p => some (e, tg, it, ifs, sc, p)
  | _ => none
theorem asComp_eq {t : Expr} {r} (h : asComp t = some r) : t = .ListComp r.1 [⟨r.2.1, r.2.2.1, r.2.2.2.1, 0⟩] r.2.2.2.2.1 r.2.2.2.2.2 := by unfold asComp at h; split at h <;> cases h; rfl

/-! ### conditions on trees -/
def notStar : Expr → Bool
  | .Starred _ _ => false
  | _ => true
theorem star_of {e : Expr} {es : List Expr} {env : PySem.Env} (h : notStar e = true) : starEach (e :: es) env = (false, eval e env) :: starEach es env := by
  cases e <;> first | rfl | (cases h; done)
theorem star_all {es : List Expr} {env : PySem.Env} (h : es.all notStar = true) : (starEach es env).map (·.1) = es.map fun _ => false := by
  induction es with
  | nil => rfl
  | cons e es ih =>
    rw [List.all_cons, Bool.and_eq_true] at h
    rw [star_of h.1, List.map_cons, List.map_cons, ih h.2]
theorem back_any {es : List Expr} {env : PySem.Env} {pos : Pos} (h : es.all notStar = true) : (backTo pos (starEach es env)).any (·.1) = false := by
  induction es with
  | nil => rfl
  | cons e es ih =>
    rw [List.all_cons, Bool.and_eq_true] at h
    rw [star_of h.1]
    show (false || (backTo pos (starEach es env)).any (·.1)) = false
    rw [ih h.2]; rfl
theorem back_all {es : List Expr} {env : PySem.Env} {pos : Pos} (h : es.all notStar = true) : (backTo pos (starEach es env)).all (fun x => !x.1) = true := by
  induction es with
  | nil => rfl
  | cons e es ih =>
    rw [List.all_cons, Bool.and_eq_true] at h
    rw [star_of h.1]
    show (true && (backTo pos (starEach es env)).all (fun x => !x.1)) = true
    rw [ih h.2]; rfl
def notSlice : Expr → Bool
  | .Slice _ _ _ _ => false
  | _ => true
theorem plainIx_of {e : Expr} (h : notSlice e = true) : PlainIx e := by
  intro o i
  cases e <;> first | rfl | (cases h; done)
def notSet : Expr → Bool
  | .Set _ _ _ => false
  | _ => true
theorem marks_of {op : CmpOp} {e : Expr} (h : notSet e = true) : behindInMarks op e = false := by
  cases e <;> first | rfl | (cases h; done)
theorem folded_of {e : Expr} {env : PySem.Env} (h : notSet e = true) (x : Value) : foldedSetIterable e env x = pure x := by
  cases e <;> first | rfl | (cases h; done)
def notCall0 : Expr → Bool
  | .Call _ [] _ _ => false
  | _ => true
theorem base_of {e : Expr} {n : Str} {env : PySem.Env} (h : notCall0 e = true) (w : Sem Value) : attributeBase e n env w = w := by
  cases e with
  | Call f args kws pos =>
    cases args with
    | nil => cases h
    | cons a as => cases f <;> rfl
  | _ => rfl
/-- a test by the value's truth -/
def plainT : Expr → Bool
  | .UnaryOp .Not _ _ => false
  | .BoolOp _ _ _ => false
  | .IfExp _ _ _ _ => false
  | .Compare _ _ _ _ => false
  | _ => true
theorem isTrue_of {e : Expr} {env : PySem.Env} (h : plainT e = true) (whole : Sem Value) : isTrue e env whole = (do let v ← whole; standAt e.pos; holding [v] (truthy v)) := by
  cases e with
  | UnaryOp op a p => cases op <;> first | rfl | (cases h; done)
  | BoolOp op a p => cases h
  | IfExp a b c p => cases h
  | Compare a b c p => cases h
  | _ => rfl
/-- what serves at every place -/
def good (e : Expr) : Bool := notStar e && notSlice e && notSet e && notCall0 e
theorem good_of {e : Expr} (h : good e = true) : notStar e = true ∧ notSlice e = true ∧ notSet e = true ∧ notCall0 e = true := by
  unfold good at h
  simp only [Bool.and_eq_true] at h
  exact ⟨h.1.1.1, h.1.1.2, h.1.2, h.2⟩
end VI

set_option Elab.async false
set_option linter.all false
set_option maxRecDepth 100000
set_option maxHeartbeats 1000000
/-! VI, part 8: an expression's tree keeps what the small language says of it. -/
namespace VI
open PySem L2
/-! ### the check -/
structure Ck where
  N : List Str
  defs : List (Str × List Bool)
  consts : List Str
def codeOf (x : Str) : Nat := x.cps.toList.foldl (fun a c => a * 256 + c) 0
def visB (sc : Scope) (x : Str) : Bool := match sc.names.lookup x with
  | some .local => true
  | some .cell => true
  | some .free => true
  | _ => false
def locB (sc : Scope) (x : Str) : Bool := match sc.names.lookup x with
  | some .local => true
  | some .cell => true
  | _ => false
def glB (sc : Scope) (x : Str) : Bool := decide (sc.names.lookup x = some .globalImplicit)
def dbg (x : Str) : Bool := (x == ("__debug__" : Str)) || (x == ("__classdict__" : Str))
def nameB (c : Ck) (sc : Scope) (i : Nat) (x : Str) : Bool := decide (c.N[i]? = some x) && (visB sc x && !dbg x)
def bltNames : List Str := ["len", "abs", "int", "bool", "str", "sum", "max", "sorted", "tuple", "list", "dict", "range", "enumerate", "zip", "isinstance", "set"]
def lev : E → Nat
  | .bor _ => 1
  | .bor2 _ => 2
  | .ix a _ => lev a - 1
  | _ => 0
def fresh : E → Bool
  | .lst _ => true
  | .dct _ _ => true
  | .skeys _ => true
  | .lvals _ => true
  | .bin _ _ _ => true
  | .blt _ _ => true
  | .rng _ => true
  | .sl _ _ _ => true
  | .rev _ => true
  | .comp _ _ _ _ => true
  | _ => false
def blOk (b : Bl1) : Bool := match b with
  | .sortedSet => false
  | .str => false
  | _ => true
def chkTy (sc : Scope) (t : Ty) (e : Expr) : Bool := match asName e with
  | some (x, _) => decide (x = Str.ofString (tyN t)) && glB sc x
  | none => false
def chkTyL (sc : Scope) : List Ty → List Expr → Bool
  | [], [] => true
  | t :: ts, e :: es => chkTy sc t e && chkTyL sc ts es
  | _, _ => false
def chkTys (sc : Scope) (ts : List Ty) (e : Expr) : Bool := match asTup e with
  | some (es, _, _) => chkTyL sc ts es && (!ts.isEmpty && decide (ts.length ≤ 10))
  | none => (match ts with
    | [t] => chkTy sc t e
    | _ => false)
def patB1 (c : Ck) (sc : Scope) (i : Nat) (e : Expr) : Bool := match asName e with
  | some (x, _) => decide (c.N[i]? = some x) && (locB sc x)
  | none => false
def patBL (c : Ck) (sc : Scope) : List Nat → List Expr → Bool
  | [], [] => true
  | i :: is, e :: es => patB1 c sc i e && patBL c sc is es
  | _, _ => false
def patB (c : Ck) (sc : Scope) (p : Pat) (e : Expr) : Bool := match p with
  | .one i => patB1 c sc i e
  | .many is => (match asTup e with
    | some (es, _, _) => patBL c sc is es
    | none => false)
def isTupE (e : Expr) : Bool := (asTup e).isSome
def ownOf (c : Ck) (p : Pat) : List (Str × Nat) := p.slots.map fun i => ((c.N[i]?).getD (Str.ofString ""), i)
def meth0B (o : Expr) (m : Str) (name : String) (apos pos : Pos) : Bool := decide (m = Str.ofString name) && ((apos.endLine == pos.line) && notCall0 o)
def methB (o : Expr) (m : Str) (name : String) (apos pos : Pos) (n : Nat) : Bool := decide (m = Str.ofString name) && ((apos.endLine == pos.line) && (notCall0 o && decide (n < 20)))
mutual
def chkE (c : Ck) : Scope → E → Expr → Bool
  | sc, .var i, t => (match asName t with
    | some (x, _) => nameB c sc i x
    | none => false)
  | sc, .bor i, t => (match asName t with
    | some (x, _) => nameB c sc i x
    | none => false)
  | sc, .bor2 i, t => (match asName t with
    | some (x, _) => nameB c sc i x
    | none => false)
  | sc, .glob n, t => (match asName t with
    | some (x, _) => glB sc x && (decide (x ∈ c.consts) && (decide (codeOf x = n) && !dbg x))
    | none => false)
  | _, .int i, t => (match asConst t with
    | some (.int j, _, _) => decide (i = j)
    | _ => false)
  | _, .bl i, t => (match asConst t with
    | some (.bool j, _, _) => decide (i = j)
    | _ => false)
  | _, .str i, t => (match asConst t with
    | some (.str j, _, _) => decide (i = j)
    | _ => false)
  | _, .non, t => (match asConst t with
    | some (.none, _, _) => true
    | _ => false)
  | sc, .tup es, t => (match asTup t with
    | some (xs, _, _) => chkEs c sc es xs
    | none => false)
  | sc, .lst es, t => (match asLst t with
    | some (xs, _) => chkEs c sc es xs
    | none => false)
  | _, .dct .nil .nil, t => (asDct0 t).isSome
  | sc, .dct (.cons k .nil) (.cons v .nil), t => (match asDct1 t with
    | some (x, y, _) => chkE c sc k x && (chkE c sc v y && (decide (lev k = 0) && decide (lev v = 0)))
    | none => false)
  | _, .dct _ _, _ => false
  | sc, .bin o a b, t => (match asBin t with
    | some (x, op, y, _) => decide (op = opB o) && (chkE c sc a x && (chkE c sc b y && (decide (lev a ≤ 1) && decide (lev b ≤ 1))))
    | none => false)
  | sc, .neg a, t => (match asUn t with
    | some (.USub, x, _) => chkE c sc a x && decide (lev a = 0)
    | _ => false)
  | sc, .not a, t => (match asUn t with
    | some (.Not, x, _) => chkE c sc a x
    | _ => false)
  | sc, .and a b, t => (match asBool t with
    | some (.And, x, y, rest, pos) => chkE c sc a x && (decide (lev a = 0) && (decide (lev b = 0) && (match rest with
      | [] => chkE c sc b y
      | _ :: _ => chkE c sc b (.BoolOp .And (y :: rest) pos))))
    | _ => false)
  | sc, .or a b, t => (match asBool t with
    | some (.Or, x, y, rest, pos) => chkE c sc a x && (decide (lev a = 0) && (decide (lev b = 0) && (match rest with
      | [] => chkE c sc b y
      | _ :: _ => chkE c sc b (.BoolOp .Or (y :: rest) pos))))
    | _ => false)
  | sc, .ite d a b, t => (match asIf t with
    | some (z, x, y, _) => chkE c sc d z && (chkE c sc a x && (chkE c sc b y && (decide (lev a = 0) && decide (lev b = 0))))
    | none => false)
  | sc, .cmp o a b, t => (match asCmp1 t with
    | some (x, op, y, _) => decide (op = opC o) && (chkE c sc a x && (chkE c sc b y && (decide (lev a ≤ 1) && decide (lev b ≤ 1))))
    | none => false)
  | sc, .chain o o' a b d, t => (match asCmp2 t with
    | some (x, op, op', y, z, _) => decide (op = opC o) && (decide (op' = opC o') && (chkE c sc a x && (chkE c sc b y && (chkE c sc d z && (decide (lev a ≤ 1) && (decide (lev b ≤ 1) && decide (lev d ≤ 1)))))))
    | none => false)
  | _, .chain3 _ _ _ _ _ _ _, _ => false
  | sc, .ist a b, t => (match asCmp1 t with
    | some (x, .Is, y, _) => chkE c sc a x && (match asConst y with
      | some (.bool d, _, _) => decide (d = b)
      | _ => false)
    | _ => false)
  | sc, .isn a, t => (match asCmp1 t with
    | some (x, .Is, y, _) => chkE c sc a x && (match asConst y with
      | some (.none, _, _) => true
      | _ => false)
    | _ => false)
  | sc, .notn a, t => (match asCmp1 t with
    | some (x, .IsNot, y, _) => chkE c sc a x && (match asConst y with
      | some (.none, _, _) => true
      | _ => false)
    | _ => false)
  | sc, .isi a ts, t => (match asCall t with
    | some (f, _, x, [y], _) => decide (f = Str.ofString "isinstance") && (glB sc f && (chkE c sc a x && chkTys sc ts y))
    | _ => false)
  | sc, .call f es, t => (match asCall t with
    | some (x, _, e, as, _) => decide (codeOf x = f) && (glB sc x && (!dbg x && (match c.defs.lookup x with
      | some bw => chkB c sc bw es (e :: as)
      | none => false)))
    | none => false)
  | sc, .blt .sortedSet a, t => (match asCall t with
    | some (x, _, y, [], _) => decide (x = Str.ofString "sorted") && (glB sc x && (match asCall y with
      | some (z, _, u, [], _) => decide (z = Str.ofString "set") && (glB sc z && (chkE c sc a u && decide (lev a ≤ 1)))
      | _ => false))
    | _ => false)
  | sc, .skeys a, t => (match asCall t with
    | some (x, _, y, [], _) => decide (x = Str.ofString "sorted") && (glB sc x && (match asMeth0 y with
      | some (o, m, apos, pos) => meth0B o m "keys" apos pos && (chkE c sc a o && decide (lev a ≤ 1))
      | _ => false))
    | _ => false)
  | sc, .lvals a, t => (match asCall t with
    | some (x, _, y, [], _) => decide (x = Str.ofString "list") && (glB sc x && (match asMeth0 y with
      | some (o, m, apos, pos) => meth0B o m "values" apos pos && (chkE c sc a o && decide (lev a ≤ 1))
      | _ => false))
    | _ => false)
  | sc, .blt b a, t => (match asCall t with
    | some (x, _, y, [], _) => decide (x = Str.ofString (blId b)) && (glB sc x && (chkE c sc a y && ((decide (lev a ≤ 1) || decide (b = .len)) && blOk b)))
    | _ => false)
  | sc, .rng a, t => (match asCall t with
    | some (x, _, y, [], _) => decide (x = Str.ofString "list") && (glB sc x && (match asCall y with
      | some (z, _, u, [], _) => decide (z = Str.ofString "range") && (glB sc z && (chkE c sc a u && decide (lev a = 0)))
      | _ => false))
    | _ => false)
  | sc, .cnt a x, t => (match asMeth t with
    | some (o, m, apos, y, [], pos) => methB o m "count" apos pos 1 && (chkE c sc a o && (decide (lev a ≤ 1) && (chkE c sc x y && decide (lev x = 0))))
    | _ => false)
  | sc, .idx a x, t => (match asMeth t with
    | some (o, m, apos, y, [], pos) => methB o m "index" apos pos 1 && (chkE c sc a o && (decide (lev a ≤ 1) && (chkE c sc x y && decide (lev x = 0))))
    | _ => false)
  | sc, .get d k x, t => (match asMeth t with
    | some (o, m, apos, y, [z], pos) => methB o m "get" apos pos 2 && (chkE c sc d o && (decide (lev d ≤ 1) && (chkE c sc k y && (decide (lev k = 0) && (chkE c sc x z && decide (lev x = 0))))))
    | _ => false)
  | sc, .ix a i, t => (match asSub t with
    | some (x, y, _) => chkE c sc a x && (chkE c sc i y && decide (lev i = 0))
    | none => false)
  | sc, .sl a lo hi, t => (match asSlice t with
    | some (x, l, h, _, _) => chkE c sc a x && (decide (lev a ≤ 1) && (chkO c sc lo l && chkO c sc hi h))
    | none => false)
  | sc, .rev a, t => (match asRev t with
    | some (x, _, _, _, _, _) => chkE c sc a x && decide (lev a ≤ 1)
    | none => false)
  | sc, .comp p it d e, t => (match asComp t with
    | some (elt, tg, iter, ifs, scope, _) => chkI c sc it iter tg && (patB c scope p tg && (blkC c.N sc scope (ownOf c p) && (chkC c (relS scope sc) d ifs && (chkE c (relS scope sc) e elt && (decide (lev e = 0) && notSet iter)))))
    | none => false)
def chkEs (c : Ck) : Scope → Es → List Expr → Bool
  | _, .nil, [] => true
  | sc, .cons e es, x :: xs => chkE c sc e x && (decide (lev e = 0) && chkEs c sc es xs)
  | _, _, _ => false
def chkB (c : Ck) : Scope → List Bool → Es → List Expr → Bool
  | _, [], .nil, [] => true
  | sc, b :: bs, .cons e es, x :: xs => chkE c sc e x && (decide (lev e ≤ if b then 1 else 0) && chkB c sc bs es xs)
  | _, _, _, _ => false
def chkO (c : Ck) : Scope → Eo → Option Expr → Bool
  | _, .none, none => true
  | sc, .some e, some x => chkE c sc e x && decide (lev e = 0)
  | _, _, _ => false
def chkC (c : Ck) : Scope → Eo → List Expr → Bool
  | _, .none, [] => true
  | sc, .some e, [x] => chkE c sc e x
  | _, _, _ => false
def chkI (c : Ck) : Scope → It → Expr → Expr → Bool
  | sc, .seq e, t, _ => chkE c sc e t && decide (lev e = 0)
  | sc, .rng1 a, t, _ => (match asCall t with
    | some (x, _, y, [], _) => decide (x = Str.ofString "range") && (glB sc x && (chkE c sc a y && decide (lev a = 0)))
    | _ => false)
  | sc, .rng2 a b, t, _ => (match asCall t with
    | some (x, _, y, [z], _) => decide (x = Str.ofString "range") && (glB sc x && (chkE c sc a y && (decide (lev a = 0) && (chkE c sc b z && decide (lev b = 0)))))
    | _ => false)
  | sc, .enum e, t, tg => (match asCall t with
    | some (x, _, y, [], _) => decide (x = Str.ofString "enumerate") && (glB sc x && (chkE c sc e y && (decide (lev e = 0) && isTupE tg)))
    | _ => false)
  | _, .zip _ _, _, _ => false
  | sc, .keys e, t, _ => (match asMeth0 t with
    | some (o, m, apos, pos) => meth0B o m "keys" apos pos && (chkE c sc e o && decide (lev e = 0))
    | none => false)
  | sc, .vals e, t, _ => (match asMeth0 t with
    | some (o, m, apos, pos) => meth0B o m "values" apos pos && (chkE c sc e o && decide (lev e = 0))
    | none => false)
end
end VI

set_option Elab.async false
set_option linter.all false
set_option maxRecDepth 100000
set_option maxHeartbeats 1000000
/-! VI, part 9: the rules for each form of expression. -/
namespace VI
open PySem L2
/-- a def's promise: what the small language says of it -/
def LRs (P : Pm) (os : List Addr) (Z H : Hp) : List Bool → List VI.D → List V → Prop
  | [], [], [] => True
  | b :: bs, d :: ds, v :: vs => LR P os Z H (if b then 1 else 0) d v ∧ LRs P os Z H bs ds vs
  | _, _, _ => False
theorem LRs.len {P : Pm} {os : List Addr} {Z H : Hp} : ∀ {bs : List Bool} {ds : List VI.D} {vs : List V}, LRs P os Z H bs ds vs → ds.length = bs.length ∧ vs.length = bs.length
  | [], [], [], _ => ⟨rfl, rfl⟩
  | b :: bs, d :: ds, v :: vs, h => by
    obtain ⟨e1, e2⟩ := h.2.len
    exact ⟨by rw [List.length_cons, List.length_cons, e1], by rw [List.length_cons, List.length_cons, e2]⟩
  | [], [], _ :: _, h => h.elim
  | [], _ :: _, _, h => h.elim
  | _ :: _, [], _, h => h.elim
  | _ :: _, _ :: _, [], h => h.elim
def spOf (P : Pm) (G : Glo) (f : Nat) (bw : List Bool) : Sp := fun vs H Q E => ∃ os Z w ds, Ok P os w Z H ∧ LRs P os Z H bw ds vs ∧
  Out P (fun cls dd _ H' => E cls dd H') [] os Z H (G.call f ds w) fun d _ os' Z' H' => ∀ v, Rep P os' Z' d v → Q v H'
structure CallOk (P : Pm) (G : Glo) (X : Cx) (x : Str) (kf : Nat) (fA : Addr) (fd : FuncData) (ps : List Str) (bw : List Bool) : Prop where
  ok : FnOk X.prog X.w X.K X.mg X.base (L2.CX X.prog X.w) kf fA fd ps (spOf P G (codeOf x) bw)
  room : Room kf X.A
  mg : X.mg x = some (.ref fA)
  keep : PySem.W.keepIn X.K (.ref fA) = true
  bind : Binds X.K fd ps []
structure Gd (P : Pm) (G : Glo) (c : Ck) (sc : Scope) (X : Cx) : Prop where
  K : X.K = P.K
  W : X.w = P.wo
  N : X.N = c.N
  nd : c.N.Nodup
  sc : X.env.scope = sc
  calm : X.calm = true
  room : Room 1 X.A
  blt : ∀ x ∈ bltNames, X.mg x = none
  glob : ∀ x ∈ c.consts, ∃ u d v, X.mg x = some u ∧ RelV v u ∧ G.glob (codeOf x) = some d ∧ (∀ os Z, Rep P os Z d v)
  call : ∀ x bw, c.defs.lookup x = some bw → ∃ kf fA fd ps, CallOk P G X x kf fA fd ps bw
structure SE (P : Pm) (W : WX) (G : Glo) (X : Cx) (e : E) (t : Expr) : Prop where
  pv : PE X t (tX P W (ev G e .v) (RV P (lev e)))
  pt : PT X t (tX P W (ev G e .t) RB)
  pf : fresh e = true → PE X t (tX P W (ev G e .v) (RN P))
  pw : ∀ op vs pos, t = .BoolOp op vs pos → PW X t (tX P W (ev G e .t) RB)
section
variable {P : Pm} {W : WX} {G : Glo} {X : Cx} {c : Ck} {sc : Scope}
theorem pt_plain {e : E} {t : Expr} {n : Nat} (K : X.K = P.K) (hv : PE X t (tX P W (ev G e .v) (RV P n))) (ht : ∀ env, ev G e .t env = bnd (ev G e .v env) fun x => lft (x.truth.map .bl)) (hp : plainT t = true) :
    PT X t (tX P W (ev G e .t) RB) := by
  refine (pt_truth hv (isTrue_of hp)).imp fun σ H Q h => ?_
  obtain ⟨os, Z, w, env, ad, B, k, sl, h⟩ := h
  rw [ht] at h
  refine tX_intro k sl h.bnd fun a w1 os1 Z1 H1 v s1 k1 sl1 r h1 => ?_
  obtain ⟨b, e1, h2⟩ := h1.lft
  obtain ⟨d, e2, rfl⟩ := Option.map_eq_some_iff.mp e1
  refine ⟨d, ?_, h2 os1 Z1 H1 Step.refl k1 d rfl⟩
  rw [K]
  exact tru_of k1.zh r e2
/-- a form whose value's truth is its test, no BoolOp -/
theorem SE.of {e : E} {t : Expr} (K : X.K = P.K) (hv : PE X t (tX P W (ev G e .v) (RV P (lev e)))) (hf : fresh e = true → PE X t (tX P W (ev G e .v) (RN P)))
    (ht : ∀ env, ev G e .t env = bnd (ev G e .v env) fun x => lft (x.truth.map .bl)) (hp : plainT t = true) : SE P W G X e t :=
  ⟨hv, pt_plain K hv ht hp, hf, fun op vs pos z => by subst z; cases hp⟩
theorem SE.ofN {e : E} {t : Expr} (K : X.K = P.K) (hf : PE X t (tX P W (ev G e .v) (RN P))) (ht : ∀ env, ev G e .t env = bnd (ev G e .v env) fun x => lft (x.truth.map .bl)) (hp : plainT t = true) : SE P W G X e t :=
  SE.of K (hf.imp fun _ _ _ => tX_frz) (fun _ => hf) ht hp
theorem kind_vis {sc : Scope} {x : Str} (h : visB sc x = true) : Vis sc x := by
  unfold visB at h
  split at h
  · exact .inl (by assumption)
  · exact .inr (.inl (by assumption))
  · exact .inr (.inr (by assumption))
  · cases h
theorem loc_of {sc : Scope} {x : Str} (h : locB sc x = true) : Loc sc x := by
  unfold locB at h
  split at h
  · exact .inl (by assumption)
  · exact .inr (by assumption)
  · cases h
theorem dbg_of {x : Str} (h : (!dbg x) = true) : (x == ("__debug__" : Str)) = false ∧ (x == ("__classdict__" : Str)) = false := by
  unfold dbg at h
  rw [Bool.not_eq_true', Bool.or_eq_false_iff] at h
  exact h
/-! names -/
theorem pe_name {i : Nat} {x : Str} {pos : Pos} (g : Gd P G c sc X) (h : nameB c sc i x = true) : PE X (.Name x pos) (tVar i) := by
  unfold nameB at h
  simp only [Bool.and_eq_true, decide_eq_true_eq] at h
  obtain ⟨h1, h2, h3⟩ := h
  obtain ⟨d1, d2⟩ := dbg_of h3
  exact pe_var (by rw [g.N]; exact h1) (by rw [g.sc]; exact kind_vis h2) d1 d2
theorem slot_at {os : List Addr} {Z H : Hp} {env : Env} {σ : Stt} {ad : Nat → List Addr} {B : Addr → Prop} {i : Nat} {s : Sl} (sl : Slots P B env σ ad os Z H) (h : env[i]? = some s) : SlotR P B os Z H (ad i) s σ[i]? := sl.at_ i s h
theorem r_var {i : Nat} {σ : Stt} {H : Hp} {Q : VK} (h : tX P W (ev G (.var i) .v) (RV P 0) σ H Q) : tVar i σ H Q := by
  obtain ⟨os, Z, w, env, ad, B, k, sl, h⟩ := h
  have h : Out P W σ os Z H (lft (look env i) w) _ := h
  obtain ⟨d, e, h2⟩ := h.lft
  unfold look at e
  cases q : env[i]? with
  | none => rw [q] at e; cases e
  | some s =>
    rw [q] at e
    cases s <;> first | (cases e; done) | skip
    cases e
    obtain ⟨v, h3, r⟩ := slot_at sl q
    exact ⟨v, h3, h2.ret k v r⟩
theorem r_bor {i : Nat} {σ : Stt} {H : Hp} {Q : VK} (h : tX P W (ev G (.bor i) .v) (RV P 1) σ H Q) : tVar i σ H Q := by
  obtain ⟨os, Z, w, env, ad, B, k, sl, h⟩ := h
  have h : Out P W σ os Z H (lft (lookB env i) w) _ := h
  obtain ⟨d, e, h2⟩ := h.lft
  unfold lookB at e
  cases q : env[i]? with
  | none => rw [q] at e; cases e
  | some s =>
    rw [q] at e
    have q2 := slot_at sl q
    cases s <;> first | (cases e; done) | skip
    case fz =>
      cases e
      obtain ⟨v, h3, r⟩ := q2
      exact ⟨v, h3, h2.ret k v (.inl r)⟩
    case ow =>
      cases e
      obtain ⟨a, vs, h3, h4, h5, r⟩ := q2
      refine ⟨.ref a, h3, h2.ret k _ (.inr (.inl ⟨a, vs, _, rfl, rfl, (sl.own i a (by simp [h4])).1, h5, reps_paired.mp r⟩))⟩
    case od =>
      cases e
      obtain ⟨a, h3, h4, r⟩ := q2
      refine ⟨.ref a, h3, h2.ret k _ (.inr (.inr ⟨a, _, rfl, rfl, (sl.own i a (by simp [h4])).1, r⟩))⟩
    case bo =>
      cases e
      obtain ⟨a, vs, h3, na, _, h5, r⟩ := q2
      refine ⟨.ref a, h3, h2.ret k _ (.inr (.inl ⟨a, vs, _, rfl, rfl, na, h5, reps_paired.mp r⟩))⟩
theorem rows_paired {os : List Addr} {Z H : Hp} {dss : List (List D)} {bs : List Addr} (n : ∀ b ∈ bs, b ∉ os) (h : Rows P os Z H dss bs) : Paired (LR P os Z H 1) (dss.map .lst) (bs.map V.ref) := by
  unfold Rows at h
  induction h with
  | nil => exact .nil
  | cons q _ ih =>
    obtain ⟨vs, h1, h2⟩ := q
    exact .cons (.inr (.inl ⟨_, vs, _, rfl, rfl, n _ List.mem_cons_self, h1, reps_paired.mp h2⟩)) (ih fun b hb => n b (List.mem_cons_of_mem _ hb))
theorem r_bor2 {i : Nat} {σ : Stt} {H : Hp} {Q : VK} (h : tX P W (ev G (.bor2 i) .v) (RV P 2) σ H Q) : tVar i σ H Q := by
  obtain ⟨os, Z, w, env, ad, B, k, sl, h⟩ := h
  have h : Out P W σ os Z H (lft (lookB2 env i) w) _ := h
  obtain ⟨d, e, h2⟩ := h.lft
  unfold lookB2 at e
  cases q : env[i]? with
  | none => rw [q] at e; cases e
  | some s =>
    rw [q] at e
    have q2 := slot_at sl q
    cases s <;> first | (cases e; done) | skip
    case fz =>
      cases e
      obtain ⟨v, h3, r⟩ := q2
      exact ⟨v, h3, h2.ret k v (.inl r)⟩
    case ow2 =>
      cases e
      obtain ⟨a, bs, h3, h4, h5, r⟩ := q2
      refine ⟨.ref a, h3, h2.ret k _ (.inr (.inl ⟨a, _, _, rfl, rfl, (sl.own i a (by simp [h4])).1, h5, rows_paired (fun b hb => (sl.own i b (by simp [h4, hb])).1) r⟩))⟩
/-! constants -/
theorem r_const {d : D} {v : V} {n : Nat} {σ : Stt} {H : Hp} {Q : VK} (hr : ∀ os Z, Rep P os Z d v) (h : tX P W (fun _ => ret d) (RV P n) σ H Q) : tC v σ H Q := by
  obtain ⟨os, Z, w, env, ad, B, k, sl, h⟩ := h
  exact h.ret k v (.of (hr os Z))
/-! arguments -/
theorem pa_nilX : PA X [] (tX P W (evs G .nil) (RA P)) := pa_nil.imp fun σ H Q h => by
  obtain ⟨os, Z, w, env, ad, B, k, sl, h⟩ := h
  exact h.ret k [] reps_nil
theorem pa_consX {e : E} {es : Es} {t : Expr} {ts : List Expr} (he : PE X t (tX P W (ev G e .v) (RV P 0))) (hr : PA X ts (tX P W (evs G es) (RA P))) (hs : notStar t = true) : PA X (t :: ts) (tX P W (evs G (.cons e es)) (RA P)) :=
  (pa_cons he hr (star_of hs)).imp fun σ H Q h => by
    obtain ⟨os, Z, w, env, ad, B, k, sl, h⟩ := h
    have h : Out P W σ os Z H (bnd (ev G e .v env) (fun d => bnd (evs G es env) fun ds => ret (d :: ds)) w) _ := h
    refine tX_intro k sl h.bnd fun d w1 os1 Z1 H1 v s1 k1 sl1 r h1 => ?_
    refine tX_intro k1 sl1 h1.bnd fun ds w2 os2 Z2 H2 vs s2 k2 sl2 rs h2 => ?_
    exact h2.ret k2 _ (reps_cons (Rep.mono s2.zle s2.ex r) rs)
/-- arguments, some of them looked at -/
def RL (P : Pm) (bw : List Bool) : List VI.D → List Addr → Hp → Hp → Hp → List V → Prop := fun ds os' Z' _ H' vs => LRs P os' Z' H' bw ds vs
theorem pb_nilX : PA X [] (tX P W (evs G .nil) (RL P [])) := pa_nil.imp fun σ H Q h => by
  obtain ⟨os, Z, w, env, ad, B, k, sl, h⟩ := h
  exact h.ret k [] trivial
theorem pb_consX {b : Bool} {bs : List Bool} {e : E} {es : Es} {t : Expr} {ts : List Expr} (he : PE X t (tX P W (ev G e .v) (RV P (lev e)))) (hl : lev e ≤ if b then 1 else 0) (hr : PA X ts (tX P W (evs G es) (RL P bs))) (hs : notStar t = true) :
    PA X (t :: ts) (tX P W (evs G (.cons e es)) (RL P (b :: bs))) :=
  (pa_cons he hr (star_of hs)).imp fun σ H Q h => by
    obtain ⟨os, Z, w, env, ad, B, k, sl, h⟩ := h
    have h : Out P W σ os Z H (bnd (ev G e .v env) (fun d => bnd (evs G es env) fun ds => ret (d :: ds)) w) _ := h
    refine tX_intro k sl h.bnd fun d w1 os1 Z1 H1 v s1 k1 sl1 r h1 => ?_
    refine tX_intro k1 sl1 h1.bnd fun ds w2 os2 Z2 H2 vs s2 k2 sl2 rs h2 => ?_
    exact h2.ret k2 _ ⟨LR.le hl (LR.step s2 r), rs⟩
/-- as one argument -/
theorem pa_oneX {e : E} {t : Expr} {n : Nat} (he : PE X t (tX P W (ev G e .v) (RV P n))) (hs : notStar t = true) : PA X [t] (tCons (tX P W (ev G e .v) (RV P n)) tNil) := pa_cons he pa_nil (star_of hs)
/-! displays -/
theorem r_tup {es : Es} {σ : Stt} {H : Hp} {Q : VK} (h : tX P W (ev G (.tup es) .v) (RV P 0) σ H Q) : tTup (tX P W (evs G es) (RA P)) σ H Q := by
  obtain ⟨os, Z, w, env, ad, B, k, sl, h⟩ := h
  have h : Out P W σ os Z H (bnd (evs G es env) (fun ds => lft (guardO (decide (ds.length ≤ lim)) (some (D.tup ds)))) w) _ := h
  refine tX_intro k sl h.bnd fun ds w1 os1 Z1 H1 vs s1 k1 sl1 r h1 => ?_
  obtain ⟨d, e, h2⟩ := h1.lft
  obtain ⟨e1, rfl⟩ := guardO_some e
  refine ⟨by rw [← r.length, ← lim_eq]; exact of_decide_eq_true e1, fun p hp => ?_⟩
  obtain ⟨k2, st⟩ := k1.alloc hp (.tup vs)
  refine h2 _ _ _ st k2 (.ref p) (.of ?_)
  unfold Rep
  exact ⟨p, vs, rfl, upd_same, r.mono st.zle Ext.refl⟩
theorem r_lst {es : Es} {σ : Stt} {H : Hp} {Q : VK} (h : tX P W (ev G (.lst es) .v) (RN P) σ H Q) : tLst (tX P W (evs G es) (RA P)) σ H Q := by
  obtain ⟨os, Z, w, env, ad, B, k, sl, h⟩ := h
  have h : Out P W σ os Z H (bnd (evs G es env) (fun ds => lft (guardO (decide (ds.length ≤ lim)) (some (D.lst ds)))) w) _ := h
  refine tX_intro k sl h.bnd fun ds w1 os1 Z1 H1 vs s1 k1 sl1 r h1 => ?_
  obtain ⟨d, e, h2⟩ := h1.lft
  obtain ⟨e1, rfl⟩ := guardO_some e
  exact ⟨by rw [← r.length, ← lim_eq]; exact of_decide_eq_true e1, fun p hp => (h2.wn s1).lst k1 hp r⟩
/-! operators -/
theorem r_bin {o : Bop} {a b : E} {σ : Stt} {H : Hp} {Q : VK} (ha : lev a ≤ 1) (hb : lev b ≤ 1) (h : tX P W (ev G (.bin o a b) .v) (RN P) σ H Q) :
    tOp (rBin P.K o) (tX P W (ev G a .v) (RV P (lev a))) (tX P W (ev G b .v) (RV P (lev b))) σ H Q := by
  obtain ⟨os, Z, w, env, ad, B, k, sl, h⟩ := h
  have h : Out P W σ os Z H (bnd (ev G a .v env) (fun x => bnd (ev G b .v env) fun y => lft (D.bin o x y)) w) _ := h
  refine tX_intro k sl h.bnd fun x w1 os1 Z1 H1 v s1 k1 sl1 r h1 => ?_
  refine tX_intro k1 sl1 h1.bnd fun y w2 os2 Z2 H2 u s2 k2 sl2 r' h2 => ?_
  obtain ⟨d, e, h3⟩ := h2.lft
  exact bin_ok k2 ((LR.step s2 r).le ha) (LR.le hb r') e (h3.wn (s1.then s2))
theorem r_neg {a : E} {σ : Stt} {H : Hp} {Q : VK} (ha : lev a = 0) (h : tX P W (ev G (.neg a) .v) (RV P 0) σ H Q) :
    tUn (rU fun i => .int (-i)) (tX P W (ev G a .v) (RV P (lev a))) σ H Q := by
  obtain ⟨os, Z, w, env, ad, B, k, sl, h⟩ := h
  have h : Out P W σ os Z H (bnd (ev G a .v env) (fun x => lft (negD x)) w) _ := h
  refine tX_intro k sl h.bnd fun x w1 os1 Z1 H1 v s1 k1 sl1 r h1 => ?_
  obtain ⟨d, e, h2⟩ := h1.lft
  cases x <;> first | (cases e; done) | skip
  cases e
  exact ⟨_, LR.int r, h2.ret k1 _ (by show Rep P os1 Z1 _ _; unfold Rep; rfl)⟩
theorem r_cmp {o : Cop} {a b : E} {md : Md} {σ : Stt} {H : Hp} {Q : VK} (ha : lev a ≤ 1) (hb : lev b ≤ 1) (h : tX P W (ev G (.cmp o a b) md) (RV P 0) σ H Q) :
    tOp (rCmp P.K P.wo o) (tX P W (ev G a .v) (RV P (lev a))) (tX P W (ev G b .v) (RV P (lev b))) σ H Q := by
  obtain ⟨os, Z, w, env, ad, B, k, sl, h⟩ := h
  have h : Out P W σ os Z H (bnd (ev G a .v env) (fun x => bnd (ev G b .v env) fun y => lft ((D.cmp o x y).map D.bl)) w) _ := h
  refine tX_intro k sl h.bnd fun x w1 os1 Z1 H1 v s1 k1 sl1 r h1 => ?_
  refine tX_intro k1 sl1 h1.bnd fun y w2 os2 Z2 H2 u s2 k2 sl2 r' h2 => ?_
  obtain ⟨d, e, h3⟩ := h2.lft
  obtain ⟨b', e2, rfl⟩ := Option.map_eq_some_iff.mp e
  exact cmp_ok k2 ((LR.step s2 r).le ha) (LR.le hb r') e2 (h3.ret k2 _ (by show Rep P os2 Z2 _ _; unfold Rep; rfl))
theorem t_bl {m : Env → M D} {σ : Stt} {H : Hp} {Q : Bool → Hp → Prop} (hb : ∀ env w d w', m env w = .ok d w' → ∃ b, d = .bl b) (h : tX P W m RB σ H Q) : tX P W m (RV P 0) σ H fun x H' => ∃ k, x = .bl k ∧ Q k H' := by
  obtain ⟨os, Z, w, env, ad, B, k, sl, h⟩ := h
  refine ⟨os, Z, w, env, ad, B, k, sl, ?_⟩
  cases q : m env w with
  | no => rw [q] at h; exact h
  | exn c f w1 => rw [q] at h; exact h
  | ok d w1 =>
    rw [q] at h
    intro os' Z' H' st k' v r
    obtain ⟨b, rfl⟩ := hb _ _ _ _ q
    have r : Rep P os' Z' (.bl b) v := r
    unfold Rep at r
    exact ⟨b, r, h os' Z' H' st k' b rfl⟩
theorem bnd_ok {α β : Type} {m : M α} {f : α → M β} {w w' : Wd} {b : β} (h : bnd m f w = .ok b w') : ∃ a w1, m w = .ok a w1 ∧ f a w1 = .ok b w' := by
  unfold bnd at h
  cases q : m w with
  | ok a w1 => rw [q] at h; exact ⟨a, w1, rfl, h⟩
  | exn c f w1 => rw [q] at h; cases h
  | no => rw [q] at h; cases h
theorem lft_ok {α : Type} {x : Option α} {w w' : Wd} {a : α} (h : lft x w = .ok a w') : x = some a ∧ w' = w := by
  cases x with
  | none => cases h
  | some b => cases h; exact ⟨rfl, rfl⟩
theorem cmp_bl {o : Cop} {a b : E} {md : Md} (env : Env) (w : Wd) (d : D) (w' : Wd) (h : ev G (.cmp o a b) md env w = .ok d w') : ∃ k, d = .bl k := by
  obtain ⟨x, w1, _, h⟩ := bnd_ok h
  obtain ⟨y, w2, _, h⟩ := bnd_ok h
  obtain ⟨e, _⟩ := lft_ok h
  obtain ⟨k, _, rfl⟩ := Option.map_eq_some_iff.mp e
  exact ⟨k, rfl⟩
theorem r_chain {o o' : Cop} {a b d : E} {md : Md} {σ : Stt} {H : Hp} {Q : VK} (ha : lev a ≤ 1) (hb : lev b ≤ 1) (hd : lev d ≤ 1) (h : tX P W (ev G (.chain o o' a b d) md) (RV P 0) σ H Q) :
    tChain (rCmp P.K P.wo o) (rCmp P.K P.wo o') (tX P W (ev G a .v) (RV P (lev a))) (tX P W (ev G b .v) (RV P (lev b))) (tX P W (ev G d .v) (RV P (lev d))) σ H Q := by
  obtain ⟨os, Z, w, env, ad, B, k, sl, h⟩ := h
  have h : Out P W σ os Z H (bnd (ev G a .v env) (fun x => bnd (ev G b .v env) fun y => bnd (lft (D.cmp o x y)) fun k =>
      if k then bnd (ev G d .v env) fun z => lft ((D.cmp o' y z).map D.bl) else ret (D.bl false)) w) _ := h
  refine tX_intro k sl h.bnd fun x w1 os1 Z1 H1 v s1 k1 sl1 r h1 => ?_
  refine tX_intro k1 sl1 h1.bnd fun y w2 os2 Z2 H2 u s2 k2 sl2 r' h2 => ?_
  obtain ⟨c1, e, h3⟩ := h2.bnd.lft
  refine cmp_ok k2 ((LR.step s2 r).le ha) (LR.le hb r') e ⟨c1, rfl, ?_⟩
  have h4 := h3.ret k2
  cases c1 with
  | false => exact h4.ret k2 _ (by show Rep P os2 Z2 _ _; unfold Rep; rfl)
  | true =>
    refine tX_intro k2 sl2 h4.bnd fun z w3 os3 Z3 H3 t s3 k3 sl3 r'' h5 => ?_
    obtain ⟨d', e2, h6⟩ := h5.lft
    obtain ⟨b', e3, rfl⟩ := Option.map_eq_some_iff.mp e2
    exact cmp_ok k3 ((LR.step s3 r').le hb) (LR.le hd r'') e3 (h6.ret k3 _ (by show Rep P os3 Z3 _ _; unfold Rep; rfl))
theorem chain_bl {o o' : Cop} {a b d : E} {md : Md} (env : Env) (w : Wd) (x : D) (w' : Wd) (h : ev G (.chain o o' a b d) md env w = .ok x w') : ∃ k, x = .bl k := by
  obtain ⟨x, w1, _, h⟩ := bnd_ok h
  obtain ⟨y, w2, _, h⟩ := bnd_ok h
  obtain ⟨k, w3, _, h⟩ := bnd_ok h
  cases k with
  | false => cases h; exact ⟨_, rfl⟩
  | true =>
    obtain ⟨z, w4, _, h⟩ := bnd_ok h
    obtain ⟨e, _⟩ := lft_ok h
    obtain ⟨k, _, rfl⟩ := Option.map_eq_some_iff.mp e
    exact ⟨k, rfl⟩
theorem isNon_eq {d : D} {v : V} {n : Nat} {os : List Addr} {Z H : Hp} (r : LR P os Z H n d v) (hf : ∀ f, d ≠ .fn f) : isNon d = decide (v = .non) := by
  cases d with
  | non => rw [r.non]; rfl
  | bl b => rw [r.bl]; rfl
  | int i => rw [r.int]; rfl
  | str x => rw [r.str]; rfl
  | tup ds => obtain ⟨a, vs, rfl, _⟩ := (r.notLst rfl).tup; rfl
  | lst ds =>
    cases n with
    | zero => obtain ⟨a, vs, rfl, _⟩ := Rep.lst r; rfl
    | succ n =>
      rcases r with r | ⟨a, vs, _, _, rfl, _⟩ | ⟨_, _, _, rfl, _⟩
      · obtain ⟨a, vs, rfl, _⟩ := Rep.lst r; rfl
      · rfl
      · rfl
  | dct kvs => obtain ⟨a, rfl⟩ := r.dref; rfl
  | fn f => exact absurd rfl (hf f)
  | obj m =>
    have := r.notLst rfl
    unfold Rep at this
    obtain ⟨a, rfl, _⟩ := this
    rfl
  | scr ns => obtain ⟨a, rfl, _⟩ := (r.notLst rfl).scr; rfl
theorem fn_none {n f : Nat} {v : V} {os : List Addr} {Z H : Hp} (h : LR P os Z H n (.fn f) v) : False := by
  have := h.notLst rfl
  unfold Rep at this
  exact this
theorem isNon_lr {d : D} {v : V} {n : Nat} {os : List Addr} {Z H : Hp} (r : LR P os Z H n d v) : isNon d = decide (v = .non) :=
  isNon_eq r fun f e => by subst e; exact fn_none r
theorem r_isn {a : E} {md : Md} {σ : Stt} {H : Hp} {Q : VK} (h : tX P W (ev G (.isn a) md) (RV P 0) σ H Q) : tIsN (tX P W (ev G a .v) (RV P (lev a))) σ H Q := by
  obtain ⟨os, Z, w, env, ad, B, k, sl, h⟩ := h
  have h : Out P W σ os Z H (bnd (ev G a .v env) (fun x => ret (D.bl (isNon x))) w) _ := h
  refine tX_intro k sl h.bnd fun x w1 os1 Z1 H1 v s1 k1 sl1 r h1 => ?_
  rw [← isNon_lr r]
  exact h1.ret k1 _ (by show Rep P os1 Z1 _ _; unfold Rep; rfl)
theorem r_notn {a : E} {md : Md} {σ : Stt} {H : Hp} {Q : VK} (h : tX P W (ev G (.notn a) md) (RV P 0) σ H Q) : tNotN (tX P W (ev G a .v) (RV P (lev a))) σ H Q := by
  obtain ⟨os, Z, w, env, ad, B, k, sl, h⟩ := h
  have h : Out P W σ os Z H (bnd (ev G a .v env) (fun x => ret (D.bl (!isNon x))) w) _ := h
  refine tX_intro k sl h.bnd fun x w1 os1 Z1 H1 v s1 k1 sl1 r h1 => ?_
  rw [← isNon_lr r]
  exact h1.ret k1 _ (by show Rep P os1 Z1 _ _; unfold Rep; rfl)
theorem isn_bl {a : E} {md : Md} (env : Env) (w : Wd) (x : D) (w' : Wd) (h : ev G (.isn a) md env w = .ok x w') : ∃ k, x = .bl k := by
  obtain ⟨x, w1, _, h⟩ := bnd_ok h
  cases h; exact ⟨_, rfl⟩
theorem notn_bl {a : E} {md : Md} (env : Env) (w : Wd) (x : D) (w' : Wd) (h : ev G (.notn a) md env w = .ok x w') : ∃ k, x = .bl k := by
  obtain ⟨x, w1, _, h⟩ := bnd_ok h
  cases h; exact ⟨_, rfl⟩
theorem r_ist {a : E} {b : Bool} {md : Md} {σ : Stt} {H : Hp} {Q : VK} (h : tX P W (ev G (.ist a b) md) (RV P 0) σ H Q) : tIsB b (tX P W (ev G a .v) (RV P (lev a))) σ H Q := by
  obtain ⟨os, Z, w, env, ad, B, k, sl, h⟩ := h
  have h : Out P W σ os Z H (bnd (ev G a .v env) (fun x => lft ((isB b x).map D.bl)) w) _ := h
  refine tX_intro k sl h.bnd fun x w1 os1 Z1 H1 v s1 k1 sl1 r h1 => ?_
  obtain ⟨d, e, h2⟩ := h1.lft
  obtain ⟨c, e2, rfl⟩ := Option.map_eq_some_iff.mp e
  cases x <;> first | (cases e2; done) | skip
  cases e2
  exact ⟨_, LR.bl r, h2.ret k1 _ (by show Rep P os1 Z1 _ _; unfold Rep; rfl)⟩
theorem ist_bl {a : E} {b : Bool} {md : Md} (env : Env) (w : Wd) (x : D) (w' : Wd) (h : ev G (.ist a b) md env w = .ok x w') : ∃ k, x = .bl k := by
  obtain ⟨x, w1, _, h⟩ := bnd_ok h
  obtain ⟨e, _⟩ := lft_ok h
  obtain ⟨k, _, rfl⟩ := Option.map_eq_some_iff.mp e
  exact ⟨k, rfl⟩
/-! not, and, or, if -/
theorem r_notV {a : E} {σ : Stt} {H : Hp} {Q : VK} (K : X.K = P.K) (h : tX P W (ev G (.not a) .v) (RV P 0) σ H Q) : tNotT X.K (tX P W (ev G a .v) (RV P (lev a))) σ H Q := by
  obtain ⟨os, Z, w, env, ad, B, k, sl, h⟩ := h
  have h : Out P W σ os Z H (bnd (ev G a .v env) (fun x => lft (x.truth.map fun b => D.bl (!b))) w) _ := h
  refine tX_intro k sl h.bnd fun x w1 os1 Z1 H1 v s1 k1 sl1 r h1 => ?_
  obtain ⟨d, e, h2⟩ := h1.lft
  obtain ⟨b, e2, rfl⟩ := Option.map_eq_some_iff.mp e
  exact ⟨b, by rw [K]; exact tru_of k1.zh r e2, h2.ret k1 _ (by show Rep P os1 Z1 _ _; unfold Rep; rfl)⟩
theorem r_notT {a : E} {σ : Stt} {H : Hp} {Q : Bool → Hp → Prop} (h : tX P W (ev G (.not a) .t) RB σ H Q) : tNot (tX P W (ev G a .t) RB) σ H Q := by
  obtain ⟨os, Z, w, env, ad, B, k, sl, h⟩ := h
  have h : Out P W σ os Z H (bnd (ev G a .t env) (fun x => lft ((toB x).map fun b => D.bl (!b))) w) _ := h
  refine tX_intro k sl h.bnd fun x w1 os1 Z1 H1 v s1 k1 sl1 r h1 => ?_
  obtain ⟨d, e, h2⟩ := h1.lft
  have r : x = .bl v := r
  subst r
  cases e
  exact h2.ret k1 _ rfl
theorem r_ite {α : Type} {c a b : Env → M D} {R : D → List Addr → Hp → Hp → Hp → α → Prop} (hR : ∀ d os Z H0 H1 H v, R d os Z H1 H v → R d os Z H0 H v) {σ : Stt} {H : Hp} {Q : α → Hp → Prop} (h : tX P W (fun env => iteM (c env) (a env) (b env)) R σ H Q) :
    tX P W c RB σ H fun k H1 => if k = true then tX P W a R σ H1 Q else tX P W b R σ H1 Q := by
  obtain ⟨os, Z, w, env, ad, B, k, sl, h⟩ := h
  refine tX_intro k sl h.bnd fun x w1 os1 Z1 H1 v s1 k1 sl1 r h1 => ?_
  have r : x = .bl v := r
  subst r
  cases v with
  | true => exact tX_intro k1 sl1 h1 fun d w2 os2 Z2 H2 v s2 k2 sl2 r h2 => h2 v (hR _ _ _ _ _ _ _ r)
  | false => exact tX_intro k1 sl1 h1 fun d w2 os2 Z2 H2 v s2 k2 sl2 r h2 => h2 v (hR _ _ _ _ _ _ _ r)
theorem r_andV {a b : E} {σ : Stt} {H : Hp} {Q : VK} (K : X.K = P.K) (ha : lev a = 0) (hb : lev b = 0) (h : tX P W (ev G (.and a b) .v) (RV P 0) σ H Q) :
    tAndT X.K (tX P W (ev G a .v) (RV P (lev a))) (tX P W (ev G b .v) (RV P (lev b))) σ H Q := by
  obtain ⟨os, Z, w, env, ad, B, k, sl, h⟩ := h
  have h : Out P W σ os Z H (bnd (ev G a .v env) (fun x => bnd (lft x.truth) fun c => if c then ev G b .v env else ret x) w) _ := h
  refine tX_intro k sl h.bnd fun x w1 os1 Z1 H1 v s1 k1 sl1 r h1 => ?_
  obtain ⟨c1, e, h2⟩ := h1.bnd.lft
  refine ⟨c1, by rw [K]; exact tru_of k1.zh r e, ?_⟩
  have h4 := h2.ret k1
  cases c1 with
  | true => exact tX_intro k1 sl1 h4 fun d w2 os2 Z2 H2 v s2 k2 sl2 r h2 => h2 v (by rw [hb] at r; exact r)
  | false => exact h4.ret k1 _ (by rw [ha] at r; exact r)
theorem r_orV {a b : E} {σ : Stt} {H : Hp} {Q : VK} (K : X.K = P.K) (ha : lev a = 0) (hb : lev b = 0) (h : tX P W (ev G (.or a b) .v) (RV P 0) σ H Q) :
    tOrT X.K (tX P W (ev G a .v) (RV P (lev a))) (tX P W (ev G b .v) (RV P (lev b))) σ H Q := by
  obtain ⟨os, Z, w, env, ad, B, k, sl, h⟩ := h
  have h : Out P W σ os Z H (bnd (ev G a .v env) (fun x => bnd (lft x.truth) fun c => if c then ret x else ev G b .v env) w) _ := h
  refine tX_intro k sl h.bnd fun x w1 os1 Z1 H1 v s1 k1 sl1 r h1 => ?_
  obtain ⟨c1, e, h2⟩ := h1.bnd.lft
  refine ⟨c1, by rw [K]; exact tru_of k1.zh r e, ?_⟩
  have h4 := h2.ret k1
  cases c1 with
  | true => exact h4.ret k1 _ (by rw [ha] at r; exact r)
  | false => exact tX_intro k1 sl1 h4 fun d w2 os2 Z2 H2 v s2 k2 sl2 r h2 => h2 v (by rw [hb] at r; exact r)
theorem rb_true {σ : Stt} {H : Hp} {Q : Bool → Hp → Prop} {b : Bool} (h : tX P W (fun _ => ret (.bl b)) RB σ H Q) : Q b H := by
  obtain ⟨os, Z, w, env, ad, B, k, sl, h⟩ := h
  exact h.ret k b rfl
theorem pt_ifExpT {c a b : Expr} {pos : Pos} {tc ta tb : TT} (hc : PT X c tc) (ha : PT X a ta) (hb : PT X b tb) : PT X (.IfExp c a b pos) (fun σ H Q => tc σ H fun k H1 => if k = true then ta σ H1 Q else tb σ H1 Q) := by
  refine ⟨fun pins s σ H Q I h => ?_⟩
  show wpAny _ _ (do if ← isTrue c X.env (eval c X.env) then isTrue a X.env (eval a X.env) else isTrue b X.env (eval b X.env)) _ _ s
  refine wpAny_bind (thn (hc.run pins s σ H _ I h) fun d s1 ⟨H1, I1, q1⟩ => ?_)
  cases d with
  | true => exact ha.run pins s1 σ H1 Q I1 q1
  | false => exact hb.run pins s1 σ H1 Q I1 q1
/-! calls -/
theorem r_call {f : Nat} {es : Es} {bw : List Bool} {σ : Stt} {H : Hp} {Q : VK} (h : tX P W (ev G (.call f es) .v) (RV P 0) σ H Q) :
    tCallSD (spOf P G f bw) [] (WE W) (tX P W (evs G es) (RL P bw)) σ H Q := by
  obtain ⟨os, Z, w, env, ad, B, k, sl, h⟩ := h
  have h : Out P W σ os Z H (bnd (evs G es env) (fun ds => G.call f ds) w) _ := h
  have h' := h.bnd
  revert h'
  intro h'
  refine ⟨os, Z, w, env, ad, B, k, sl, ?_⟩
  cases q : evs G es env w with
  | no => rw [q] at h'; exact h'
  | exn c g w1 => rw [q] at h'; exact h'
  | ok ds w1 =>
    rw [q] at h'
    intro os1 Z1 H1 s1 k1 vs r
    refine ⟨os1, Z1, w1, ds, k1, by rw [List.append_nil]; exact r, ?_⟩
    have h2 : Out P W σ os1 Z1 H1 (G.call f ds w1) (fun a _ os' Z' H' => ∀ v, RV P 0 a os' Z' H H' v → Q v H') := h' os1 Z1 H1 s1 k1
    revert h2
    cases G.call f ds w1 with
    | no => exact fun h => h
    | exn c g w2 => exact fun h => h
    | ok d w2 => exact fun h => h
theorem r_blt {b : Bl1} {a : E} {σ : Stt} {H : Hp} {Q : VK} (ha : lev a ≤ 1 ∨ b = .len) (hb : blOk b = true) (h : tX P W (ev G (.blt b a) .v) (RN P) σ H Q) :
    tCB (rB1 P.K P.wo b) (tCons (tX P W (ev G a .v) (RV P (lev a))) tNil) σ H Q := by
  obtain ⟨os, Z, w, env, ad, B, k, sl, h⟩ := h
  have h : Out P W σ os Z H (bnd (ev G a .v env) (fun x => lft (bl1 b x)) w) _ := h
  refine tX_intro k sl h.bnd fun x w1 os1 Z1 H1 v s1 k1 sl1 r h1 => ?_
  obtain ⟨d, e, h2⟩ := h1.lft
  exact bl1_ok k1 r ha (by cases b <;> first | (cases hb; done) | decide) e (h2.wn s1)
theorem r_rng {a : E} {σ : Stt} {H : Hp} {Q : VK} (ha : lev a = 0) (h : tX P W (ev G (.rng a) .v) (RN P) σ H Q) :
    tLstRg (tRg1 (tX P W (ev G a .v) (RV P (lev a)))) σ H Q := by
  obtain ⟨os, Z, w, env, ad, B, k, sl, h⟩ := h
  have h : Out P W σ os Z H (bnd (ev G a .v env) (fun x => lft ((toI x).bind fun n => guardO (okRng n && decide (n ≤ 1000000)) (some (D.lst (rngL 0 n))))) w) _ := h
  refine tX_intro k sl h.bnd fun x w1 os1 Z1 H1 v s1 k1 sl1 r h1 => ?_
  obtain ⟨d, e, h2⟩ := h1.lft
  obtain ⟨n, e1, e2⟩ := Option.bind_eq_some_iff.mp e
  obtain ⟨e3, rfl⟩ := guardO_some e2
  cases x <;> first | (cases e1; done) | skip
  cases e1
  unfold okRng at e3
  simp only [Bool.and_eq_true, decide_eq_true_eq] at e3
  refine ⟨n, LR.int r, ⟨by decide, by decide, e3.1.1, e3.1.2, by omega⟩, fun p hp => (h2.wn s1).lst k1 hp ?_⟩
  unfold rngL rgV
  rw [reps_paired]
  generalize List.range (n - 0).toNat = l
  induction l with
  | nil => exact .nil
  | cons j l ih => exact .cons (by show Rep P os1 Z1 _ _; unfold Rep; rfl) ih
theorem tyV_list {da : D} {a : V} {os : List Addr} {w : Wd} {Z H : Hp} (k : Ok P os w Z H) (r : LR P os Z H 1 da a) (h : isLst da = true) : tyV P.K "list" a H := by
  cases da <;> first | (cases h; done) | skip
  obtain ⟨p, vs, rfl, hp, _⟩ := r.lst k.zh
  exact .inl ⟨rfl, vs, .of hp⟩
theorem needL_some {d e : D} (h : needL d = some e) : e = d ∧ isLst d = true := by
  cases d <;> first | (cases h; done) | skip
  cases h; exact ⟨rfl, rfl⟩
theorem r_cnt {a x : E} {σ : Stt} {H : Hp} {Q : VK} (ha : lev a ≤ 1) (hx : lev x = 0) (h : tX P W (ev G (.cnt a x) .v) (RV P 0) σ H Q) :
    tBM P.K "list" (rCntI P.K) (tX P W (ev G a .v) (RV P (lev a))) (tCons (tX P W (ev G x .v) (RV P (lev x))) tNil) σ H Q := by
  obtain ⟨os, Z, w, env, ad, B, k, sl, h⟩ := h
  have h : Out P W σ os Z H (bnd (bnd (ev G a .v env) fun a => lft (needL a)) (fun a => bnd (ev G x .v env) fun x => lft (cntD a x)) w) _ := h
  refine tX_intro k sl h.bnd.bnd fun da w1 os1 Z1 H1 v s1 k1 sl1 r h1 => ?_
  obtain ⟨d0, e, h2⟩ := h1.lft
  obtain ⟨hd, hl⟩ := needL_some e
  subst hd
  refine ⟨tyV_list k1 (r.le ha) hl, ?_⟩
  refine tX_intro k1 sl1 (h2.ret k1).bnd fun dx w2 os2 Z2 H2 u s2 k2 sl2 r' h3 => ?_
  obtain ⟨d, e, h4⟩ := h3.lft
  rw [hx] at r'
  exact cnt_ok k2 ((LR.step s2 r).le ha) r' e fun v os3 Z3 H3 st kk n => h4 os3 Z3 H3 st kk v (.of (by cases d0 <;> cases dx <;> first | (cases e; done) | (obtain ⟨_, _, rfl⟩ := Option.map_eq_some_iff.mp e; exact n)))
theorem r_idx {a x : E} {σ : Stt} {H : Hp} {Q : VK} (ha : lev a ≤ 1) (hx : lev x = 0) (h : tX P W (ev G (.idx a x) .v) (RV P 0) σ H Q) :
    tBM P.K "list" (rIndexD P.K) (tX P W (ev G a .v) (RV P (lev a))) (tCons (tX P W (ev G x .v) (RV P (lev x))) tNil) σ H Q := by
  obtain ⟨os, Z, w, env, ad, B, k, sl, h⟩ := h
  have h : Out P W σ os Z H (bnd (bnd (ev G a .v env) fun a => lft (needL a)) (fun a => bnd (ev G x .v env) fun x => lft (idxD a x)) w) _ := h
  refine tX_intro k sl h.bnd.bnd fun da w1 os1 Z1 H1 v s1 k1 sl1 r h1 => ?_
  obtain ⟨d0, e, h2⟩ := h1.lft
  obtain ⟨hd, hl⟩ := needL_some e
  subst hd
  refine ⟨tyV_list k1 (r.le ha) hl, ?_⟩
  refine tX_intro k1 sl1 (h2.ret k1).bnd fun dx w2 os2 Z2 H2 u s2 k2 sl2 r' h3 => ?_
  obtain ⟨d, e, h4⟩ := h3.lft
  rw [hx] at r'
  refine idx_ok k2 ((LR.step s2 r).le ha) r' e fun v os3 Z3 H3 st kk n => h4 os3 Z3 H3 st kk v (.of ?_)
  cases d0 <;> first | (cases hl; done) | skip
  simp only [idxD] at e
  split at e
  · obtain ⟨_, _, rfl⟩ := Option.map_eq_some_iff.mp e; exact n
  · cases e
/-! subscripts, slices -/
theorem obj_get {os : List Addr} {Z H : Hp} {w : Wd} {n : Nat} {ds : List D} (k : Ok P os w Z H) {v : V} (r : Rep P os Z (.obj n) v) (hw : w[n]? = some (.cells ds)) : ∃ a vs, v = .ref a ∧ os[n]? = some a ∧ H a = some (.lst vs) ∧ Reps P os Z ds vs := by
  unfold Rep at r
  obtain ⟨a, rfl, h1⟩ := r
  obtain ⟨vs, h2, h3⟩ := k.obj n a _ h1 hw
  exact ⟨a, vs, rfl, h1, h2, h3⟩
theorem r_ix {a i : E} {σ : Stt} {H : Hp} {Q : VK} (hi : lev i = 0) (h : tX P W (ev G (.ix a i) .v) (RV P (lev a - 1)) σ H Q) :
    tOp (rIxA P.K P.wo) (tX P W (ev G a .v) (RV P (lev a))) (tX P W (ev G i .v) (RV P (lev i))) σ H Q := by
  obtain ⟨os, Z, w, env, ad, B, k, sl, h⟩ := h
  have h : Out P W σ os Z H (bnd (ev G a .v env) (fun a => bnd (ev G i .v env) fun i => ixM a i) w) _ := h
  refine tX_intro k sl h.bnd fun da w1 os1 Z1 H1 v s1 k1 sl1 r h1 => ?_
  refine tX_intro k1 sl1 h1.bnd fun di w2 os2 Z2 H2 u s2 k2 sl2 r' h2 => ?_
  rw [hi] at r'
  have r2 : LR P os2 Z2 H2 (lev a) da v := LR.step s2 r
  have plain : ∀ {d : D}, Out P W σ os2 Z2 H2 (ret d w2) (fun d w' os' Z' H' => ∀ v, RV P (lev a - 1) d os' Z' H H' v → Q v H') → D.ix da di = some d → rIxA P.K P.wo v u H2 Q := by
    intro d h4 e
    refine ix_ok k2.zh (n := lev a - 1) (LR.le (by omega) r2) r' e fun v rv => h4.ret k2 v rv
  cases da with
  | obj n =>
    have h2 : Out P W σ os2 Z2 H2 (match w2[n]?, di with
      | some (.cells ds), .int k => (match L2.atI ds k with
        | some d => .ok d w2
        | none => .no)
      | _, _ => .no) _ := h2
    split at h2
    · rename_i ds kk hw _
      split at h2
      · rename_i d hd
        obtain ⟨ad2, vs, rfl, h5, h6, h7⟩ := obj_get k2 (r2.notLst rfl) hw
        obtain ⟨z, h8, h9⟩ := atI_paired (reps_paired.mp h7) hd
        have r' : Rep P os2 Z2 (.int kk) u := r'
        unfold Rep at r'
        exact .inl <| .inl ⟨ad2, vs, kk, z, rfl, r', .of h6, h8, h2 os2 Z2 H2 Step.refl k2 z (.of h9)⟩
      · exact h2.elim
    · exact h2.elim
  | non => obtain ⟨d, e, h4⟩ := Out.lft (x := D.ix .non di) h2; exact plain h4 e
  | bl b => obtain ⟨d, e, h4⟩ := Out.lft (x := D.ix (.bl b) di) h2; exact plain h4 e
  | int b => obtain ⟨d, e, h4⟩ := Out.lft (x := D.ix (.int b) di) h2; exact plain h4 e
  | str b => obtain ⟨d, e, h4⟩ := Out.lft (x := D.ix (.str b) di) h2; exact plain h4 e
  | tup b => obtain ⟨d, e, h4⟩ := Out.lft (x := D.ix (.tup b) di) h2; exact plain h4 e
  | lst b => obtain ⟨d, e, h4⟩ := Out.lft (x := D.ix (.lst b) di) h2; exact plain h4 e
  | dct b => obtain ⟨d, e, h4⟩ := Out.lft (x := D.ix (.dct b) di) h2; exact plain h4 e
  | fn b => obtain ⟨d, e, h4⟩ := Out.lft (x := D.ix (.fn b) di) h2; exact plain h4 e
  | scr b => obtain ⟨d, e, h4⟩ := Out.lft (x := D.ix (.scr b) di) h2; exact plain h4 e
theorem r_part {e : E} {σ : Stt} {H : Hp} {Q : Option Int → Hp → Prop} (he : lev e = 0) (h : tX P W (evO G (.some e)) RO σ H Q) : tPart (tX P W (ev G e .v) (RV P (lev e))) σ H Q := by
  obtain ⟨os, Z, w, env, ad, B, k, sl, h⟩ := h
  have h : Out P W σ os Z H (bnd (ev G e .v env) (fun d => lft ((toI d).map some)) w) _ := h
  refine tX_intro k sl h.bnd fun x w1 os1 Z1 H1 v s1 k1 sl1 r h1 => ?_
  obtain ⟨d, e1, h2⟩ := h1.lft
  cases x <;> first | (cases e1; done) | skip
  cases e1
  exact ⟨_, LR.int r, h2.ret k1 _ rfl⟩
theorem r_nopart {σ : Stt} {H : Hp} {Q : Option Int → Hp → Prop} (h : tX P W (evO G .none) RO σ H Q) : tNoPart σ H Q := by
  obtain ⟨os, Z, w, env, ad, B, k, sl, h⟩ := h
  exact h.ret k none rfl
theorem r_sl {a : E} {lo hi : Eo} {σ : Stt} {H : Hp} {Q : VK} (ha : lev a ≤ 1) (h : tX P W (ev G (.sl a lo hi) .v) (RN P) σ H Q) :
    tSl (rSlc P.K) (tX P W (ev G a .v) (RV P (lev a))) (tX P W (evO G lo) RO) (tX P W (evO G hi) RO) σ H Q := by
  obtain ⟨os, Z, w, env, ad, B, k, sl, h⟩ := h
  have h : Out P W σ os Z H (bnd (ev G a .v env) (fun a => bnd (evO G lo env) fun lo => bnd (evO G hi env) fun hi => lft (D.sl a lo hi)) w) _ := h
  refine tX_intro k sl h.bnd fun da w1 os1 Z1 H1 v s1 k1 sl1 r h1 => ?_
  refine tX_intro k1 sl1 h1.bnd fun l w2 os2 Z2 H2 u s2 k2 sl2 r2 h2 => ?_
  refine tX_intro k2 sl2 h2.bnd fun l' w3 os3 Z3 H3 u' s3 k3 sl3 r3 h3 => ?_
  obtain ⟨d, e, h4⟩ := h3.lft
  have r2 : l = u := r2
  have r3 : l' = u' := r3
  subst r2 r3
  exact sl_ok k3 ((LR.step s3 (LR.step s2 r)).le ha) e (h4.wn ((s1.then s2).then s3))
theorem r_rev {a : E} {σ : Stt} {H : Hp} {Q : VK} (ha : lev a ≤ 1) (h : tX P W (ev G (.rev a) .v) (RN P) σ H Q) : tRevA P.K (tX P W (ev G a .v) (RV P (lev a))) σ H Q := by
  obtain ⟨os, Z, w, env, ad, B, k, sl, h⟩ := h
  have h : Out P W σ os Z H (bnd (ev G a .v env) (fun a => lft (D.rev a)) w) _ := h
  refine tX_intro k sl h.bnd fun da w1 os1 Z1 H1 v s1 k1 sl1 r h1 => ?_
  obtain ⟨d, e, h2⟩ := h1.lft
  exact rev_ok k1 (r.le ha) e (h2.wn s1)
section
variable {os os' os1 : List Addr} {Z Z' Z1 H H' H1 H0 : Hp} {w w' : Wd} {env env' : Env} {ad : Nat → List Addr} {B : Addr → Prop} {σ : Stt}
theorem tX_ok {α β : Type} {m : Env → M α} {a : α} {R : α → List Addr → Hp → Hp → Hp → β → Prop} {Q : β → Hp → Prop} (k : Ok P os w Z H) (sl : Slots P B env σ ad os Z H) (e : m env w = .ok a w')
    (h : ∀ os' Z' H' v, Step (Ex H) os Z H os' Z' H' → Ok P os' w' Z' H' → Slots P B env σ ad os' Z' H' → R a os' Z' H H' v → Q v H') : tX P W m R σ H Q :=
  ⟨os, Z, w, env, ad, B, k, sl, by rw [e]; exact fun os' Z' H' st k' v r => h os' Z' H' v st k' (sl.step st) r⟩
theorem Ok.updOwn {D : Addr} {o : HO} (k : Ok P os w Z H) (hz : Z D = none) (n : D ∉ os) : Ok P os w Z (upd H D o) := by
  refine ⟨fun a u h => ?_, k.nz, k.nd, k.len, fun i a u h1 h2 => ?_⟩
  · rw [upd_ne (show a ≠ D from fun e => by rw [e, hz] at h; cases h)]; exact k.zh a u h
  · have hne : a ≠ D := fun e => n (e ▸ List.mem_of_getElem? h1)
    have := k.obj i a u h1 h2
    cases u with
    | cells ds =>
      obtain ⟨vs, hv, r⟩ := this
      exact ⟨vs, by rw [upd_ne hne]; exact hv, r⟩
    | inst c fs => exact this.elim
theorem Step.updOwn {D : Addr} {o : HO} (s : Step B os Z H os' Z' H') (n : ¬ B D) : Step B os Z H os' Z' (upd H' D o) where
  keep := fun a u b h na => by rw [upd_ne (show a ≠ D from fun e => n (e ▸ b))]; exact s.keep a u b h na
  there := fun a h => by
    by_cases e : a = D
    · subst e; rw [upd_same]; intro z; cases z
    · rw [upd_ne e]; exact s.there a h
  zle := s.zle
  zkeep := s.zkeep
  ext := s.ext
end
/-! dicts -/
theorem r_dct0 {σ : Stt} {H : Hp} {Q : VK} (h : tX P W (ev G (.dct .nil .nil) .v) (RN P) σ H Q) : tDNewN σ H Q := by
  obtain ⟨os, Z, w, env, ad, B, k, sl, h⟩ := h
  have h : Out P W σ os Z H (ret (D.dct []) w) _ := h
  intro p ep hp
  exact (h.wn Step.refl).dct k hp rws_nil .nil
theorem r_dct1 {ke ve : E} {σ : Stt} {H : Hp} {Q : VK} (hk : lev ke = 0) (hv : lev ve = 0) (h : tX P W (ev G (.dct (.cons ke .nil) (.cons ve .nil)) .v) (RN P) σ H Q) :
    tDispN P.wo (tX P W (ev G ke .v) (RV P (lev ke))) (tX P W (ev G ve .v) (RV P (lev ve))) σ H Q := by
  obtain ⟨os, Z, w, env, ad, B, k, sl, h⟩ := h
  have h : Out P W σ os Z H (shut (bnd (evs G (.cons ke .nil) env) fun kd => bnd (evs G (.cons ve .nil) env) fun vd => lft (dctD kd vd)) w) _ := h
  have hb : ∃ dk w1 dv w2 d, ev G ke .v env w = .ok dk w1 ∧ ev G ve .v env w1 = .ok dv w2 ∧ dctD [dk] [dv] = some d ∧ Out P W σ os Z H (.ok d w2) (fun a w' os' Z' H' => ∀ v, RN P a os' Z' H H' v → Q v H') := by
    unfold shut at h
    cases q : (bnd (evs G (.cons ke .nil) env) fun kd => bnd (evs G (.cons ve .nil) env) fun vd => lft (dctD kd vd)) w with
    | no => rw [q] at h; exact h.elim
    | exn c f w2 => rw [q] at h; exact h.elim
    | ok d w2 =>
      rw [q] at h
      obtain ⟨kd, w1, h1, h2⟩ := bnd_ok q
      obtain ⟨vd, w3, h3, h4⟩ := bnd_ok h2
      obtain ⟨e, rfl⟩ := lft_ok h4
      obtain ⟨dk, w4, g1, g2⟩ := bnd_ok (show bnd (ev G ke .v env) (fun d => bnd (evs G .nil env) fun ds => ret (d :: ds)) w = .ok kd w1 from h1)
      cases g2
      obtain ⟨dv, w5, g3, g4⟩ := bnd_ok (show bnd (ev G ve .v env) (fun d => bnd (evs G .nil env) fun ds => ret (d :: ds)) _ = .ok vd w2 from h3)
      cases g4
      exact ⟨dk, _, dv, _, d, g1, g3, e, h⟩
  obtain ⟨dk, w1, dv, w2, d, e1, e2, e3, hK⟩ := hb
  have hkey : D.key dk = true ∧ d = .dct [(dk, dv)] := by
    unfold dctD at e3
    by_cases c : D.key dk = true
    · simp [c, dput] at e3
      exact ⟨c, e3.symm⟩
    · simp [c] at e3
  obtain ⟨ck, rfl⟩ := hkey
  intro p ep hp
  obtain ⟨k0, s0, hz0, n0⟩ := k.allocOwn hp (dRaw p #[] ep)
  refine tX_ok k0 (sl.step s0) e1 fun os1 Z1 H1 y s1 k1 sl1 r => ?_
  refine tX_ok k1 sl1 e2 fun os2 Z2 H2 z s2 k2 sl2 r' => ?_
  rw [hk] at r
  rw [hv] at r'
  have hp0 : upd H p (dRaw p #[] ep) p ≠ none := by rw [upd_same]; exact fun z => nomatch z
  have d1 : H1 p = some (dRaw p #[] ep) := s1.keep p _ hp0 upd_same n0
  have np1 : p ∉ os1 := s1.nin hp0 n0
  have d1n : H1 p ≠ none := by rw [d1]; exact fun z => nomatch z
  have d2 : H2 p = some (dRaw p #[] ep) := s2.keep p _ d1n d1 np1
  have np2 : p ∉ os2 := s2.nin d1n np1
  have z2 : Z2 p = none := s2.zkeep p d1n (s1.zkeep p hp0 hz0)
  obtain ⟨b, rfl, hb⟩ := key_ok ck (Rep.mono s2.zle s2.ex r)
  refine ⟨d2, b, nk dk, rfl, hb.mono k2.zh, fun es' ep' hes => ?_⟩
  refine hK os2 Z2 _ (((s0.then s1).then s2).updOwn (fun z => z hp)) (k2.updOwn z2 np2) (.ref p) ⟨p, rfl, hp, np2, z2, es', ep', [(nk dk, b, z)], upd_same, ⟨hes, ?_, ?_, ?_⟩, .cons ?_ .nil⟩
  · intro q hq
    rcases List.mem_singleton.mp hq with rfl
    exact hb
  · simp
  · rw [sizeLine_eq]; simp
  · unfold RepK
    exact ⟨ck, rfl, r'⟩
theorem needD_some {d e : D} (h : needD d = some e) : e = d ∧ ∃ kvs, d = .dct kvs := by
  cases d <;> first | (cases h; done) | skip
  cases h; exact ⟨rfl, _, rfl⟩
theorem r_get {d kx x : E} {σ : Stt} {H : Hp} {Q : VK} (hd : lev d ≤ 1) (hk : lev kx = 0) (hx : lev x = 0) (h : tX P W (ev G (.get d kx x) .v) (RV P 0) σ H Q) :
    tGetN P.wo (tX P W (ev G d .v) (RV P (lev d))) (tX P W (ev G kx .v) (RV P (lev kx))) (tX P W (ev G x .v) (RV P (lev x))) σ H Q := by
  obtain ⟨os, Z, w, env, ad, B, k, sl, h⟩ := h
  have h : Out P W σ os Z H (bnd (bnd (ev G d .v env) fun d => lft (needD d)) (fun d => bnd (ev G kx .v env) fun k => bnd (ev G x .v env) fun x => lft (getD d k x)) w) _ := h
  refine tX_intro k sl h.bnd.bnd fun dd w1 os1 Z1 H1 v s1 k1 sl1 r h1 => ?_
  obtain ⟨d0, e, h2⟩ := h1.lft
  obtain ⟨rfl, kvs, rfl⟩ := needD_some e
  obtain ⟨a, rfl, es, ep, qs, g1, _⟩ := LR.dct k1.zh r
  refine ⟨⟨a, es, ep, rfl, g1⟩, ?_⟩
  refine tX_intro k1 sl1 (h2.ret k1).bnd fun dk w2 os2 Z2 H2 u s2 k2 sl2 r2 h3 => ?_
  refine tX_intro k2 sl2 h3.bnd fun dx w3 os3 Z3 H3 t s3 k3 sl3 r3 h4 => ?_
  obtain ⟨d, e2, h5⟩ := h4.lft
  rw [hk] at r2
  rw [hx] at r3
  have e2 : (if D.key dk then some ((dget kvs dk).getD dx) else none) = some d := e2
  by_cases ck : D.key dk = true
  · rw [if_pos ck] at e2
    cases e2
    obtain ⟨a', ea, es', ep', qs', g1', g2', g3'⟩ := LR.dct k3.zh (LR.step (s2.then s3) r)
    cases ea
    obtain ⟨b, rfl, hb⟩ := key_ok ck (Rep.mono s3.zle s3.ex r2)
    refine ⟨a, es', ep', qs', b, nk dk, ⟨rfl, rfl, g1', g2'.mono k3.zh, hb.mono k3.zh⟩, h5.ret k3 _ ?_⟩
    cases q : dget kvs dk with
    | none =>
      rw [dget_none ck g3' q]
      exact r3
    | some dq =>
      obtain ⟨qq, f1, f2⟩ := dget_some ck g3' q
      rw [f1]
      exact f2
  · rw [if_neg ck] at e2; cases e2
theorem r_skeys {a : E} {σ : Stt} {H : Hp} {Q : VK} (h : tX P W (ev G (.skeys a) .v) (RN P) σ H Q) :
    tCB (rSortedKV P.K) (tCons (tView kView (tX P W (ev G a .v) (RV P (lev a)))) tNil) σ H Q := by
  obtain ⟨os, Z, w, env, ad, B, k, sl, h⟩ := h
  have h : Out P W σ os Z H (bnd (ev G a .v env) (fun d => lft ((needD d).bind keysD |>.bind sortD)) w) _ := h
  refine tX_intro k sl h.bnd fun x w1 os1 Z1 H1 v s1 k1 sl1 r h1 => ?_
  obtain ⟨d, e, h2⟩ := h1.lft
  obtain ⟨ks, e1, e2⟩ := Option.bind_eq_some_iff.mp e
  obtain ⟨d0, e3, e4⟩ := Option.bind_eq_some_iff.mp e1
  obtain ⟨rfl, kvs, rfl⟩ := needD_some e3
  cases e4
  obtain ⟨c, rfl⟩ := sortD_some e2
  obtain ⟨a, rfl, es, ep, qs, g1, g2, g3⟩ := LR.dct k1.zh r
  refine ⟨a, es, ep, rfl, g1, fun p hp => ?_⟩
  obtain ⟨f1, f2⟩ := keys_reps g3 g2.row g2.key
  obtain ⟨k2, s2⟩ := k1.alloc hp (kView p a)
  have f3 := f1.mono s2.zle s2.ex
  have hap : a ≠ p := fun e => by rw [e, hp] at g1; cases g1
  have hl : (qs.map fun q => V.ref q.2.1).length ≤ sizeLine := by rw [List.length_map]; exact g2.few
  have sa := srt_arg k2.zh c f3 hl
  have sr := sorted_srt k2.zh c f3
  refine ⟨p, a, es, ep, _, _, rfl, upd_same, by rw [upd_ne hap]; exact g1, f2, sa, fun p2 hp2 => ?_⟩
  obtain ⟨k3, s3, hz3, np3⟩ := k2.allocOwn hp2 (.lst (srtV (qs.map fun q => V.ref q.2.1) (toPys (kvs.map (·.1)))))
  refine h2 _ _ _ (s2.then s3) k3 (.ref p2) ⟨p2, _, rfl, ?_, np3, hz3, upd_same, sr⟩
  cases q0 : H p2 with
  | none => rfl
  | some o => exact absurd hp2 ((s1.then s2).there p2 (by rw [q0]; intro z; cases z))
theorem r_lvals {a : E} {σ : Stt} {H : Hp} {Q : VK} (h : tX P W (ev G (.lvals a) .v) (RN P) σ H Q) :
    tCB rListVV (tCons (tView vView (tX P W (ev G a .v) (RV P (lev a)))) tNil) σ H Q := by
  obtain ⟨os, Z, w, env, ad, B, k, sl, h⟩ := h
  have h : Out P W σ os Z H (bnd (ev G a .v env) (fun d => lft ((needD d).bind valsD)) w) _ := h
  refine tX_intro k sl h.bnd fun x w1 os1 Z1 H1 v s1 k1 sl1 r h1 => ?_
  obtain ⟨d, e, h2⟩ := h1.lft
  obtain ⟨d0, e3, e4⟩ := Option.bind_eq_some_iff.mp e
  obtain ⟨rfl, kvs, rfl⟩ := needD_some e3
  cases e4
  obtain ⟨a, rfl, es, ep, qs, g1, g2, g3⟩ := LR.dct k1.zh r
  refine ⟨a, es, ep, rfl, g1, fun p hp => ?_⟩
  obtain ⟨f1, f2⟩ := vals_reps g3 g2.row
  obtain ⟨k2, s2⟩ := k1.alloc hp (vView p a)
  have f3 := f1.mono s2.zle s2.ex
  have hap : a ≠ p := fun e => by rw [e, hp] at g1; cases g1
  have hl : (qs.map fun q => q.2.2).length ≤ sizeLine := by rw [List.length_map]; exact g2.few
  refine ⟨p, a, es, ep, _, rfl, upd_same, by rw [upd_ne hap]; exact g1, f2, hl, fun p2 hp2 => ?_⟩
  obtain ⟨k3, s3, hz3, np3⟩ := k2.allocOwn hp2 (.lst (qs.map fun q => q.2.2))
  refine h2 _ _ _ (s2.then s3) k3 (.ref p2) ⟨p2, _, rfl, ?_, np3, hz3, upd_same, f3⟩
  cases q0 : H p2 with
  | none => rfl
  | some o => exact absurd hp2 ((s1.then s2).there p2 (by rw [q0]; intro z; cases z))
theorem r_sset {a : E} {prog : Program} {σ : Stt} {H : Hp} {Q : VK} (ha : lev a ≤ 1) (h : tX P W (ev G (.blt .sortedSet a) .v) (RN P) σ H Q) :
    tCB (rSortedSA P.K prog P.wo) (tCons (tCB (rSetA P.K prog P.wo) (tCons (tX P W (ev G a .v) (RV P (lev a))) tNil)) tNil) σ H Q := by
  obtain ⟨os, Z, w, env, ad, B, k, sl, h⟩ := h
  have h : Out P W σ os Z H (bnd (ev G a .v env) (fun x => lft (bl1 .sortedSet x)) w) _ := h
  refine tX_intro k sl h.bnd fun x w1 os1 Z1 H1 v s1 k1 sl1 r h1 => ?_
  obtain ⟨d, e, h2⟩ := h1.lft
  replace r := LR.le ha r
  show rSetA P.K prog P.wo [v] H1 fun y H2 => rSortedSA P.K prog P.wo [y] H2 Q
  cases x <;> first | (cases e; done) | skip
  case lst xs =>
    obtain ⟨p, vs, rfl, hp, rr⟩ := r.lst k1.zh
    exact sset_ok k1 (dx := .lst xs) (.inl ⟨p, vs, rfl, .of hp, rr⟩) (show setD xs = some d from e) (h2.wn s1)
  case tup xs =>
    obtain ⟨p, vs, rfl, hp, rr⟩ := r.tup k1.zh
    have e : (if (intsL xs).isSome then setD xs else none) = some d := e
    by_cases c : (intsL xs).isSome = true
    · rw [if_pos c] at e
      exact sset_ok k1 (dx := .tup xs) (.inr ⟨Option.isSome_iff_exists.mp c, p, vs, rfl, .of hp, rr⟩) e (h2.wn s1)
    · rw [if_neg c] at e; cases e
end
end VI

set_option Elab.async false
set_option linter.all false
set_option maxRecDepth 100000
set_option maxHeartbeats 1000000
/-! VI, part 10: patterns, walks, comprehensions; every expression. -/
namespace VI
open PySem L2
/-! ### slots forgotten -/
theorem wipe_comm {σ : Stt} {j : Nat} {x : Option V} : ∀ {is : List Nat}, j ∉ is → wipe (σ.set j x) is = (wipe σ is).set j x
  | [], _ => rfl
  | v :: vs, h => by
    have h1 : j ≠ v := fun e => h (by simp [e])
    have h2 : j ∉ vs := fun e => h (by simp [e])
    show (wipe (σ.set j x) vs).set v none = ((wipe σ vs).set v none).set j x
    rw [wipe_comm h2, List.set_comm _ _ h1]
theorem wipe_set {σ : Stt} {j : Nat} {x : Option V} : ∀ {is : List Nat}, j ∈ is → wipe (σ.set j x) is = wipe σ is
  | [], h => by cases h
  | v :: vs, h => by
    show (wipe (σ.set j x) vs).set v none = (wipe σ vs).set v none
    by_cases h2 : j ∈ vs
    · rw [wipe_set h2]
    · have : j = v := by
        rcases List.mem_cons.mp h with e | e
        · exact e
        · exact absurd e h2
      subst this
      rw [wipe_comm h2, List.set_set]
theorem wipe_wipe {σ : Stt} {is : List Nat} : ∀ {js : List Nat}, (∀ j ∈ js, j ∈ is) → wipe (wipe σ js) is = wipe σ is
  | [], _ => rfl
  | j :: js, h => by
    show wipe ((wipe σ js).set j none) is = wipe σ is
    rw [wipe_set (h j List.mem_cons_self), wipe_wipe fun k hk => h k (List.mem_cons_of_mem _ hk)]
theorem wipeE_length (env : Env) : ∀ is : List Nat, (wipeE env is).length = env.length
  | [] => rfl
  | i :: is => by unfold wipeE; rw [List.length_set, wipeE_length env is]
section
variable {P : Pm} {W : WX} {os os' : List Addr} {Z Z' H H' H0 : Hp} {w w' : Wd} {env env' : Env} {ad : Nat → List Addr} {B : Addr → Prop} {σ : Stt}
theorem Slots.setNo (k : Slots P B env σ ad os Z H) (i : Nat) : Slots P B (env.set i .no) (σ.set i none) ad os Z H := by
  refine k.env_of (by simp [k.len]) fun j s e => ?_
  by_cases hj : i = j
  · subst hj
    by_cases hi : i < env.length
    · rw [List.getElem?_set_self hi] at e
      cases e
      trivial
    · rw [List.getElem?_eq_none (by simpa using hi)] at e; cases e
  · rw [List.getElem?_set_ne hj] at e ⊢
    exact k.at_ j s e
theorem Slots.wipe (k : Slots P B env σ ad os Z H) : ∀ is : List Nat, Slots P B (wipeE env is) (L2.wipe σ is) ad os Z H
  | [] => k
  | i :: is => (Slots.wipe k is).setNo i

/-! ### patterns -/
def tP (P : Pm) (p : Pat) : TG := fun v σ H Q => ∃ os Z w env ad B d env', Ok P os w Z H ∧ Slots P B env σ ad os Z H ∧ Rep P os Z d v ∧ bindP p d env = some env' ∧
  ∀ σ', wipe σ' p.slots = wipe σ p.slots → Slots P B env' σ' ad os Z H → Q σ' H
def gList : List Nat → TGs
  | [] => gNil
  | i :: is => gCons (gName i) (gList is)
theorem r_pats : ∀ {is : List Nat} {ds : List D} {vs : List V} {env env' : Env} {σ : Stt} {Q : Stt → Hp → Prop}, Slots P B env σ ad os Z H → Reps P os Z ds vs → putAll env is ds = some env' →
    (∀ σ', (∀ js, (∀ i ∈ is, i ∈ js) → wipe σ' js = wipe σ js) → Slots P B env' σ' ad os Z H → Q σ' H) → gList is vs σ H Q
  | [], ds, vs, env, env', σ, Q, sl, r, e, h => by
    cases ds with
    | nil =>
      cases e
      unfold Reps at r
      exact ⟨r, h σ (fun _ _ => rfl) sl⟩
    | cons d ds => cases e
  | i :: is, ds, vs, env, env', σ, Q, sl, r, e, h => by
    cases ds with
    | nil => cases e
    | cons d ds =>
      unfold Reps at r
      obtain ⟨v, t, rfl, r1, r2⟩ := r
      refine ⟨v, t, rfl, ?_⟩
      refine r_pats (σ := σ.set i (some v)) (sl.setFz i r1) r2 e fun σ' hw sl' => h σ' (fun js hj => ?_) sl'
      rw [hw js fun k hk => hj k (List.mem_cons_of_mem _ hk), wipe_set (hj i List.mem_cons_self)]
theorem r_pat1 {i : Nat} {v : V} {Q : Stt → Hp → Prop} (h : tP P (.one i) v σ H Q) : gName i v σ H Q := by
  obtain ⟨os, Z, w, env, ad, B, d, env', k, sl, r, e, h⟩ := h
  cases e
  exact h _ (wipe_set (by simp [Pat.slots])) (sl.setFz i r)
theorem r_patn {is : List Nat} {v : V} {Q : Stt → Hp → Prop} (h : tP P (.many is) v σ H Q) : gTup P.K is.length (gList is) v σ H Q := by
  obtain ⟨os, Z, w, env, ad, B, d, env', k, sl, r, e, h⟩ := h
  cases d <;> first | (cases e; done) | skip
  rename_i ds
  obtain ⟨a, vs, rfl, ha, rr⟩ := Rep.tup r
  have e : putAll env is ds = some env' := e
  have hl : ∀ {is : List Nat} {ds : List D} {env env' : Env}, putAll env is ds = some env' → ds.length = is.length := by
    intro is
    induction is with
    | nil => intro ds env env' e; cases ds with
      | nil => rfl
      | cons d ds => cases e
    | cons i is ih => intro ds env env' e; cases ds with
      | nil => cases e
      | cons d ds => simp only [List.length_cons]; rw [ih (show putAll (env.set i (.fz d)) is ds = some env' from e)]
  exact ⟨a, vs, rfl, .of (k.zh _ _ ha), by rw [← rr.length, hl e], r_pats sl rr e fun σ' hw sl' => h σ' (hw _ fun i hi => hi) sl'⟩
end
/-- the names that a pattern may store -/
structure Sto (X : Cx) (sc : Scope) : Prop where
  loc : ∀ x, locB sc x = true → Loc X.env.scope x
  fn : ∀ x, locB sc x = true → X.fn x = true ∨ X.env.scope.names.lookup x = some .local
section
variable {P : Pm} {X : Cx} {c : Ck} {sc : Scope}
theorem patB1_eq {i : Nat} {e : Expr} (h : patB1 c sc i e = true) : ∃ x pos, e = .Name x pos ∧ c.N[i]? = some x ∧ locB sc x = true := by
  unfold patB1 at h
  split at h
  · rename_i x pos hx
    have := asName_eq hx
    simp only [Bool.and_eq_true, decide_eq_true_eq] at h
    exact ⟨x, pos, this, h.1, h.2⟩
  · cases h
theorem pg_one {i : Nat} {e : Expr} (hN : X.N = c.N) (nd : c.N.Nodup) (so : Sto X sc) (h : patB1 c sc i e = true) : PG X e (gName i) := by
  obtain ⟨x, pos, rfl, h1, h2⟩ := patB1_eq h
  exact pg_name (by rw [hN]; exact nd) (by rw [hN]; exact h1) (so.loc x h2) (so.fn x h2)
theorem pgs_all (hN : X.N = c.N) (nd : c.N.Nodup) (so : Sto X sc) : ∀ {is : List Nat} {es : List Expr}, patBL c sc is es = true → PGs X es (gList is) ∧ (assignEach es X.env).length = is.length ∧ (assignEach es X.env).findIdx? (·.1) = none
  | [], [], _ => ⟨pgs_nil, rfl, rfl⟩
  | [], _ :: _, h => by cases h
  | _ :: _, [], h => by cases h
  | i :: is, e :: es, h => by
    unfold patBL at h
    rw [Bool.and_eq_true] at h
    obtain ⟨g, hl, hf⟩ := pgs_all hN nd so h.2
    have g1 := pg_one hN nd so h.1
    obtain ⟨x, pos, rfl, h1, h2⟩ := patB1_eq h.1
    have ea : assignEach (.Name x pos :: es) X.env = (false, assign (.Name x pos) X.env) :: assignEach es X.env := rfl
    refine ⟨pgs_cons g1 g rfl, by rw [ea, List.length_cons, List.length_cons, hl], ?_⟩
    rw [ea, List.findIdx?_cons, hf]
    rfl
theorem pg_pat {p : Pat} {e : Expr} (K : X.K = P.K) (hc : X.calm = true) (hN : X.N = c.N) (nd : c.N.Nodup) (so : Sto X sc) (h : patB c sc p e = true) : PG X e (tP P p) := by
  cases p with
  | one i => exact (pg_one hN nd so h).imp fun v σ H Q q => r_pat1 q
  | many is =>
    simp only [patB] at h
    split at h
    · rename_i es k pos hx
      have := asTup_eq hx
      subst this
      obtain ⟨g, hl, hf⟩ := pgs_all hN nd so h
      exact (pg_tup hc g hl hf).imp fun v σ H Q q => by rw [K]; exact r_patn q
    · cases h
end

/-! ### comprehensions -/
section
variable {P : Pm} {W : WX} {G : Glo} {os os' os1 : List Addr} {Z Z' Z1 H H' H1 H0 : Hp} {w w' : Wd} {env env' : Env} {ad : Nat → List Addr} {B : Addr → Prop} {σ : Stt}
abbrev W0 : WX := fun _ _ _ _ => False
theorem mapM_cons {f : D → M (Option D)} {x : D} {xs ys : List D} {w w' : Wd} (h : mapM f (x :: xs) w = .ok ys w') :
    ∃ o w1 zs, f x w = .ok o w1 ∧ mapM f xs w1 = .ok zs w' ∧ ys = (match o with | some y => y :: zs | none => zs) := by
  obtain ⟨o, w1, h1, h⟩ := bnd_ok h
  obtain ⟨zs, w2, h2, h⟩ := bnd_ok h
  cases h
  exact ⟨o, w1, zs, h1, h2, rfl⟩
def compF (G : Glo) (p : Pat) (c : Eo) (e : E) (env : Env) : D → M (Option D) := fun x => bnd (lft (bindP p x (wipeE env p.slots))) fun env' =>
  iteM (evC G c env') (bnd (ev G e .v env') fun y => ret (some y)) (ret none)
theorem compF_ok {p : Pat} {c : Eo} {e : E} {x : D} {o : Option D} {w w' : Wd} (h : compF G p c e env x w = .ok o w') :
    ∃ env' w1 b, bindP p x (wipeE env p.slots) = some env' ∧ evC G c env' w = .ok (.bl b) w1 ∧ (if b = true then ∃ y, ev G e .v env' w1 = .ok y w' ∧ o = some y else w1 = w' ∧ o = none) := by
  obtain ⟨env', w0, h0, hb⟩ := bnd_ok h
  obtain ⟨h1, e1⟩ := lft_ok h0
  rw [e1] at hb
  clear h h0 e1
  obtain ⟨k, w2, h2, h⟩ := bnd_ok hb
  have hk : ∃ b, k = .bl b := by
    cases k with
    | bl b => exact ⟨b, rfl⟩
    | _ => cases h
  obtain ⟨b, rfl⟩ := hk
  cases b with
  | true =>
    obtain ⟨y, w3, h3, h⟩ := bnd_ok (show bnd (ev G e .v env') (fun y => ret (some y)) w2 = .ok o w' from h)
    cases h
    exact ⟨env', w2, true, h1, h2, by rw [if_pos rfl]; exact ⟨y, h3, rfl⟩⟩
  | false =>
    cases h
    exact ⟨env', _, false, h1, h2, by rw [if_neg Bool.false_ne_true]; exact ⟨rfl, rfl⟩⟩
theorem r_comp {p : Pat} {it : It} {c : Eo} {e : E} {Q : VK} (h : tX P W (ev G (.comp p it c e) .v) (RN P) σ H Q) :
    tLc (tX P W (evI G it) (RI P)) (tP P p) (tX P W0 (evC G c) RB) (tX P W0 (ev G e .v) (RV P 0)) p.slots σ H Q := by
  obtain ⟨os, Z, w, env, ad, B, k, sl, h⟩ := h
  have h : Out P W σ os Z H (bnd (evI G it env) (fun xs => shut (bnd (mapM (compF G p c e env) xs) fun ys => lft (guardO (decide (ys.length ≤ lim)) (some (VI.D.lst ys))))) w) _ := h
  refine tX_intro k sl h.bnd fun xs w1 os1 Z1 H1 J s1 k1 sl1 rJ h1 => ?_
  intro D hD
  -- the block ends well
  have hb : ∃ ys w2, mapM (compF G p c e env) xs w1 = .ok ys w2 ∧ ys.length ≤ lim ∧ Out P W σ os1 Z1 H1 (.ok (.lst ys) w2) (fun a w' os' Z' H' => ∀ v, RN P a os' Z' H H' v → Q v H') := by
    unfold shut VI.bnd at h1
    cases q : mapM (compF G p c e env) xs w1 with
    | no => rw [q] at h1; exact h1.elim
    | exn c f w2 => rw [q] at h1; exact h1.elim
    | ok ys w2 =>
      rw [q] at h1
      simp only at h1
      by_cases hl : ys.length ≤ lim
      · refine ⟨ys, w2, rfl, hl, ?_⟩
        have e1 : guardO (decide (ys.length ≤ lim)) (some (VI.D.lst ys)) = some (VI.D.lst ys) := by unfold guardO; rw [decide_eq_true hl]; rfl
        rw [e1] at h1
        exact h1
      · have e1 : guardO (decide (ys.length ≤ lim)) (some (VI.D.lst ys)) = none := by unfold guardO; rw [decide_eq_false hl]; rfl
        rw [e1] at h1
        exact h1.elim
  obtain ⟨ys, w2, hm, hl, hK⟩ := hb
  obtain ⟨Gp, Y, wk, hG, hY⟩ := rJ
  obtain ⟨k0, s0, hz0, n0⟩ := k1.allocOwn hD (.lst [])
  refine lc_it wk (fun i H' => ∃ osx Zx wx accD accV rest, Ok P osx wx Zx H' ∧ Step (Ex H1) os1 Z1 H1 osx Zx H' ∧ H' D = some (.lst accV) ∧ Reps P osx Zx accD accV ∧ Zx D = none ∧ D ∉ osx ∧ mapM (compF G p c e env) (xs.drop i) wx = .ok rest w2 ∧ ys = accD ++ rest)
    ⟨os1, Z1, w1, [], [], ys, k0, s0, upd_same, reps_nil, hz0, n0, hm, rfl⟩ ?_ ?_ ?_
  · rintro i H' hi ⟨osx, Zx, wx, accD, accV, rest, kx, sx, _⟩
    exact hG osx wx Zx H' sx.zle sx.ex kx
  · rintro i x Hi H' hi ⟨osx, Zx, wx, accD, accV, rest, kx, sx, hDx, ra, hzx, nx, hmx, hys⟩ y
    have hd : xs[i]? = some xs[i] := List.getElem?_eq_getElem hi
    obtain ⟨Z2, st2, k2, r2⟩ := hY i x Hi H' osx wx Zx sx.zle sx.ex kx y _ hd
    have hdrop : xs.drop i = xs[i] :: xs.drop (i + 1) := (List.drop_eq_getElem_cons hi)
    rw [hdrop] at hmx
    obtain ⟨o, w3, zs, h3, h4, h5⟩ := mapM_cons hmx
    obtain ⟨env', w4, b, h6, h7, h8⟩ := compF_ok h3
    have sx2 : Step (Ex H1) os1 Z1 H1 osx Z2 H' := sx.then st2
    have sl2 := sl1.step sx2
    have hD2 : H' D = some (.lst accV) := st2.keep D _ (by show Hi D ≠ none; rw [hDx]; intro z; cases z) hDx nx
    have hz2 : Z2 D = none := st2.zkeep D (by show Hi D ≠ none; rw [hDx]; intro z; cases z) hzx
    refine ⟨osx, Z2, wx, wipeE env p.slots, ad, B, _, env', k2, sl2.wipe p.slots, r2, h6, fun σ2 hw sl3 => ⟨?_, ?_⟩⟩
    · rw [hw]; exact wipe_wipe fun j hj => hj
    refine tX_ok k2 sl3 h7 fun os3 Z3 H3 b' st3 k3 sl4 rb => ?_
    have rb : VI.D.bl b = .bl b' := rb
    cases rb
    have hD3 : H3 D = some (.lst accV) := st3.keep D _ (by show H' D ≠ none; rw [hD2]; intro z; cases z) hD2 nx
    have hz3 : Z3 D = none := st3.zkeep D (by show H' D ≠ none; rw [hD2]; intro z; cases z) hz2
    have n3 : D ∉ os3 := st3.nin (by rw [hD2]; intro z; cases z) nx
    have sx3 := sx2.then st3
    have ra3 : Reps P os3 Z3 accD accV := (ra.mono st2.zle Ext.refl).mono st3.zle st3.ex
    cases b with
    | false =>
      rw [if_neg Bool.false_ne_true] at h8 ⊢
      obtain ⟨rfl, rfl⟩ := h8
      exact ⟨os3, Z3, w4, accD, accV, zs, k3, sx3, hD3, ra3, hz3, n3, h4, by rw [hys, h5]⟩
    | true =>
      rw [if_pos rfl] at h8 ⊢
      obtain ⟨yd, h9, rfl⟩ := h8
      refine tX_ok k3 sl4 h9 fun os4 Z4 H4 v st4 k4 sl5 rv => ?_
      have hD4 : H4 D = some (.lst accV) := st4.keep D _ (by show H3 D ≠ none; rw [hD3]; intro z; cases z) hD3 n3
      have hz4 : Z4 D = none := st4.zkeep D (by show H3 D ≠ none; rw [hD3]; intro z; cases z) hz3
      have n4 : D ∉ os4 := st4.nin (by rw [hD3]; intro z; cases z) n3
      have ra4 : Reps P os4 Z4 accD accV := ra3.mono st4.zle st4.ex
      refine ⟨accV, hD4, ?_, os4, Z4, w3, accD ++ [yd], accV ++ [v], zs, k4.updOwn hz4 n4, (sx3.then st4).updOwn (fun z => z hD), upd_same, ra4.append (reps_cons rv reps_nil), hz4, n4, h4, ?_⟩
      · rw [← ra4.length, ← lim_eq]
        have : ys.length = accD.length + (zs.length + 1) := by rw [hys, h5]; simp
        omega
      · rw [hys, h5]; simp
  · rintro H' ⟨osx, Zx, wx, accD, accV, rest, kx, sx, hDx, ra, hzx, nx, hmx, hys⟩
    rw [List.drop_length] at hmx
    cases hmx
    rw [List.append_nil] at hys
    subst hys
    refine hK osx Zx H' sx kx (.ref D) ⟨D, accV, rfl, ?_, nx, hzx, hDx, ra⟩
    cases q : H D with
    | none => rfl
    | some o => exact absurd hD (s1.there D (by rw [q]; intro z; cases z))
/-! ### walks -/
theorem r_seq {e : E} {Q : L2.It → Hp → Prop} (he : lev e = 0) (h : tX P W (evI G (.seq e)) (RI P) σ H Q) : iSeqA P.K (tX P W (ev G e .v) (RV P (lev e))) σ H Q := by
  obtain ⟨os, Z, w, env, ad, B, k, sl, h⟩ := h
  have h : Out P W σ os Z H (bnd (ev G e .v env) (fun d => lft (seqL d)) w) _ := h
  refine tX_intro k sl h.bnd fun d w1 os1 Z1 H1 v s1 k1 sl1 r h1 => ?_
  obtain ⟨xs, e1, h2⟩ := h1.lft
  rw [he] at r
  cases d <;> first | (cases e1; done) | skip
  case tup ds =>
    cases e1
    obtain ⟨a, vs, rfl, ha, rr⟩ := Rep.tup r
    exact .inr ⟨a, vs, rfl, .of (k1.zh _ _ ha), h2.ret k1 _ (walkD_tup ha rr)⟩
  case lst ds =>
    cases e1
    obtain ⟨a, vs, rfl, ha, rr⟩ := Rep.lst r
    exact .inl ⟨a, vs, rfl, .of (k1.zh _ _ ha), h2.ret k1 _ (walkD_list ha rr)⟩
theorem rng_ok {i : Int} (h : okRng i = true) : -(2 ^ 62) ≤ i ∧ i < 2 ^ 62 := by
  unfold okRng at h
  simp only [Bool.and_eq_true, decide_eq_true_eq] at h
  exact h
theorem r_rng1 {a : E} {Q : L2.It → Hp → Prop} (ha : lev a = 0) (h : tX P W (evI G (.rng1 a)) (RI P) σ H Q) : iRng1 (tCons (tX P W (ev G a .v) (RV P (lev a))) tNil) σ H Q := by
  obtain ⟨os, Z, w, env, ad, B, k, sl, h⟩ := h
  have h : Out P W σ os Z H (bnd (ev G a .v env) (fun x => lft ((toI x).bind fun n => if okRng n then some (rngL 0 n) else none)) w) _ := h
  refine tX_intro k sl h.bnd fun d w1 os1 Z1 H1 v s1 k1 sl1 r h1 => ?_
  obtain ⟨xs, e1, h2⟩ := h1.lft
  obtain ⟨n, e2, e3⟩ := Option.bind_eq_some_iff.mp e1
  cases d <;> first | (cases e2; done) | skip
  cases e2
  split at e3
  · rename_i ho
    cases e3
    obtain ⟨b1, b2⟩ := rng_ok ho
    rw [LR.int r]
    have := h2.ret k1 _ (walkD_range (lo := 0) (hi := n))
    rw [Int.sub_zero] at this
    exact ⟨n, rfl, b1, b2, this⟩
  · cases e3
theorem r_rng2 {a b : E} {Q : L2.It → Hp → Prop} (ha : lev a = 0) (hb : lev b = 0) (h : tX P W (evI G (.rng2 a b)) (RI P) σ H Q) :
    iRng2 (tCons (tX P W (ev G a .v) (RV P (lev a))) (tCons (tX P W (ev G b .v) (RV P (lev b))) tNil)) σ H Q := by
  obtain ⟨os, Z, w, env, ad, B, k, sl, h⟩ := h
  have h : Out P W σ os Z H (bnd (ev G a .v env) (fun x => bnd (ev G b .v env) fun y => lft ((toI x).bind fun m => (toI y).bind fun n => if okRng m && okRng n then some (rngL m n) else none)) w) _ := h
  refine tX_intro k sl h.bnd fun d w1 os1 Z1 H1 v s1 k1 sl1 r h1 => ?_
  refine tX_intro k1 sl1 h1.bnd fun d' w2 os2 Z2 H2 v' s2 k2 sl2 r' h2 => ?_
  obtain ⟨xs, e1, h3⟩ := h2.lft
  obtain ⟨m, e2, e3⟩ := Option.bind_eq_some_iff.mp e1
  obtain ⟨n, e4, e5⟩ := Option.bind_eq_some_iff.mp e3
  cases d <;> first | (cases e2; done) | skip
  cases d' <;> first | (cases e4; done) | skip
  cases e2
  cases e4
  split at e5
  · rename_i ho
    cases e5
    rw [Bool.and_eq_true] at ho
    obtain ⟨b1, b2⟩ := rng_ok ho.1
    obtain ⟨b3, b4⟩ := rng_ok ho.2
    rw [LR.int r, LR.int r']
    exact ⟨_, _, rfl, ⟨b1, b2, b3, b4⟩, h3.ret k2 _ walkD_range⟩
  · cases e5
theorem r_enum {e : E} {Q : L2.It → Hp → Prop} (he : lev e = 0) (h : tX P W (evI G (.enum e)) (RI P) σ H Q) : iEnumA P.K (tCons (tX P W (ev G e .v) (RV P (lev e))) tNil) σ H Q := by
  obtain ⟨os, Z, w, env, ad, B, k, sl, h⟩ := h
  have h : Out P W σ os Z H (bnd (ev G e .v env) (fun d => lft ((seqL d).map (enumL 0))) w) _ := h
  refine tX_intro k sl h.bnd fun d w1 os1 Z1 H1 v s1 k1 sl1 r h1 => ?_
  obtain ⟨xs, e1, h2⟩ := h1.lft
  obtain ⟨zs, e2, rfl⟩ := Option.map_eq_some_iff.mp e1
  rw [he] at r
  cases d <;> first | (cases e2; done) | skip
  case tup ds =>
    cases e2
    obtain ⟨a, vs, rfl, ha, rr⟩ := Rep.tup r
    exact .inr ⟨a, vs, rfl, .of (k1.zh _ _ ha), h2.ret k1 _ (walkD_enumT ha rr)⟩
  case lst ds =>
    cases e2
    obtain ⟨a, vs, rfl, ha, rr⟩ := Rep.lst r
    exact .inl ⟨a, vs, rfl, .of (k1.zh _ _ ha), h2.ret k1 _ (walkD_enumL ha rr)⟩
theorem r_keys {e : E} {Q : L2.It → Hp → Prop} (he : lev e = 0) (h : tX P W (evI G (.keys e)) (RI P) σ H Q) : iDictN (·.key) (tX P W (ev G e .v) (RV P (lev e))) σ H Q := by
  obtain ⟨os, Z, w, env, ad, B, k, sl, h⟩ := h
  have h : Out P W σ os Z H (bnd (ev G e .v env) (fun d => lft (match d with
    | .dct kvs => some (kvs.map (·.1))
    | _ => none)) w) _ := h
  refine tX_intro k sl h.bnd fun d w1 os1 Z1 H1 v s1 k1 sl1 r h1 => ?_
  obtain ⟨xs, e1, h2⟩ := h1.lft
  rw [he] at r
  cases d <;> first | (cases e1; done) | skip
  cases e1
  obtain ⟨a, rfl, es, ep, qs, g1, g2, g3⟩ := Rep.dct r
  obtain ⟨f1, f2⟩ := keys_reps g3 g2.row g2.key
  exact ⟨a, es, ep, _, rfl, k1.zh _ _ g1, f2, h2.ret k1 _ (walkD_at walk_raw (fun os' w' Z' H' hz ho k => k.zh _ _ (hz _ _ g1)) f1)⟩
theorem r_vals {e : E} {Q : L2.It → Hp → Prop} (he : lev e = 0) (h : tX P W (evI G (.vals e)) (RI P) σ H Q) : iDictN (·.val) (tX P W (ev G e .v) (RV P (lev e))) σ H Q := by
  obtain ⟨os, Z, w, env, ad, B, k, sl, h⟩ := h
  have h : Out P W σ os Z H (bnd (ev G e .v env) (fun d => lft (match d with
    | .dct kvs => some (kvs.map (·.2))
    | _ => none)) w) _ := h
  refine tX_intro k sl h.bnd fun d w1 os1 Z1 H1 v s1 k1 sl1 r h1 => ?_
  obtain ⟨xs, e1, h2⟩ := h1.lft
  rw [he] at r
  cases d <;> first | (cases e1; done) | skip
  cases e1
  obtain ⟨a, rfl, es, ep, qs, g1, g2, g3⟩ := Rep.dct r
  obtain ⟨f1, f2⟩ := vals_reps g3 g2.row
  exact ⟨a, es, ep, _, rfl, k1.zh _ _ g1, f2, h2.ret k1 _ (walkD_at walk_raw (fun os' w' Z' H' hz ho k => k.zh _ _ (hz _ _ g1)) f1)⟩
end
end VI

set_option Elab.async false
set_option linter.all false
set_option maxRecDepth 100000
set_option maxHeartbeats 2000000
/-! VI, part 11: every expression. -/
namespace VI
open PySem L2
theorem map_lookup {f : Str × NameKind → NameKind} : ∀ {l : List (Str × NameKind)} {x : Str} {k : NameKind}, l.lookup x = some k → (∀ y, f (y, k) = k) → (l.map fun p => (p.1, f p)).lookup x = some k
  | [], x, k, h, _ => by cases h
  | (n, j) :: l, x, k, h, hf => by
    rw [List.map_cons, List.lookup_cons]
    rw [List.lookup_cons] at h
    cases q : x == n with
    | true =>
      rw [q] at h
      have hj : j = k := Option.some.inj h
      subst hj
      show some (f (n, j)) = some j
      rw [hf]
    | false =>
      rw [q] at h
      exact map_lookup h hf
theorem relS_names {scope sc : Scope} : (relS scope sc).names = scope.names.map fun p => (p.1, if (p.2 == .free && sc.kind == .function && sc.names.lookup p.1 == some .cell) then .cell else p.2) := by
  unfold relS
  show scope.names.map _ = _
  apply List.map_congr_left
  rintro ⟨n, k⟩ _
  show (if _ then _ else _) = _
  split <;> rfl
theorem relS_loc {scope sc : Scope} {x : Str} (h : locB scope x = true) : scope.names.lookup x = some .local ∧ (relS scope sc).names.lookup x = some .local ∨ scope.names.lookup x = some .cell ∧ (relS scope sc).names.lookup x = some .cell := by
  rw [relS_names]
  rcases loc_of h with q | q
  · exact .inl ⟨q, map_lookup q fun y => rfl⟩
  · exact .inr ⟨q, map_lookup q fun y => rfl⟩
section
variable {P : Pm} {W : WX} {G : Glo} {X : Cx} {c : Ck} {sc : Scope}
theorem gl_of {x : Str} (g : Gd P G c sc X) (h : glB sc x = true) : Gl X x := by
  unfold glB at h
  show X.env.scope.names.lookup x = _
  rw [g.sc]
  exact of_decide_eq_true h
/-- a block's context -/
theorem Gd.blk (g : Gd P G c sc X) (s : Shared) (H : Hp) (scope : Scope) (C : Addr) (cl : List (Str × Addr)) (fp : List Addr) : Gd P G c (relS scope sc) (X.blk s H scope (compEnvC scope cl C X.env) fp) := by
  refine ⟨g.K, g.W, g.N, g.nd, ?_, g.calm, g.room, g.blt, g.glob, fun x n hx => ?_⟩
  · show relS scope X.env.scope = _
    rw [g.sc]
  · obtain ⟨kf, fA, fd, ps, h⟩ := g.call x n hx
    exact ⟨kf, fA, fd, ps, h.ok, h.room, h.mg, h.keep, h.bind⟩
theorem Sto.blk (g : Gd P G c sc X) (s : Shared) (H : Hp) (scope : Scope) (C : Addr) (cl : List (Str × Addr)) (fp : List Addr) : Sto (X.blk s H scope (compEnvC scope cl C X.env) fp) scope := by
  refine ⟨fun x h => ?_, fun x h => ?_⟩
  · show Loc (relS scope X.env.scope) x
    rcases relS_loc (sc := X.env.scope) h with q | q
    · exact .inl q.2
    · exact .inr q.2
  · rcases relS_loc (sc := X.env.scope) h with q | q
    · exact .inr q.2
    · refine .inl ?_
      show (scope.names.lookup x == some .cell) = true
      rw [q.1]; rfl
theorem takes_blk (s : Shared) (H : Hp) (scope : Scope) (ce : PySem.Env) (fp : List Addr) : Takes (X.blk s H scope ce fp) W0 := fun u s' x => by
  obtain ⟨_, _, _, _, _, _, _, _, _, _, _, _, _, _, _, _, w⟩ := x
  exact w.elim
theorem units_of (g : Gd P G c sc X) : X.A.units + 65 < cLine := by have := g.room.un; omega
theorem evs_len : ∀ {es : Es} {xs : List Expr}, chkEs c sc es xs = true → ∀ env w ds w', evs G es env w = .ok ds w' → ds.length = xs.length
  | .nil, [], _, env, w, ds, w', h => by cases h; rfl
  | .nil, _ :: _, h, _, _, _, _, _ => by simp [chkEs] at h
  | .cons e es, [], h, _, _, _, _, _ => by simp [chkEs] at h
  | .cons e es, x :: xs, hc, env, w, ds, w', h => by
    simp only [chkEs, Bool.and_eq_true] at hc
    obtain ⟨d, w1, _, h⟩ := bnd_ok h
    obtain ⟨ds', w2, h2, h⟩ := bnd_ok h
    cases h
    rw [List.length_cons, List.length_cons, evs_len hc.2.2 _ _ _ _ h2]
theorem patL_of {p : Pat} {tg : Expr} (h : patB c sc p tg = true) (g : isTupE tg = true) : ∃ es k pos, tg = .Tuple es k pos := by
  unfold isTupE at g
  cases q : asTup tg with
  | none => rw [q] at g; cases g
  | some r => exact ⟨_, _, _, asTup_eq q⟩
theorem own_snd (p : Pat) : (ownOf c p).map (·.2) = p.slots := by
  unfold ownOf
  rw [List.map_map]
  show List.map (fun i => i) p.slots = p.slots
  exact List.map_id' _
/-! each tree serves at every place -/
theorem chk_good : ∀ {e : E} {t : Expr}, chkE c sc e t = true → good t = true := by
  intro e t h
  cases e <;> try simp only [chkE] at h
  case var => split at h <;> first | (cases h; done) | (rename_i q; have := asName_eq q; subst this; rfl)
  case bor => split at h <;> first | (cases h; done) | (rename_i q; have := asName_eq q; subst this; rfl)
  case bor2 => split at h <;> first | (cases h; done) | (rename_i q; have := asName_eq q; subst this; rfl)
  case glob => split at h <;> first | (cases h; done) | (rename_i q; have := asName_eq q; subst this; rfl)
  case int => split at h <;> first | (cases h; done) | (rename_i q; have := asConst_eq q; subst this; rfl)
  case bl => split at h <;> first | (cases h; done) | (rename_i q; have := asConst_eq q; subst this; rfl)
  case str => split at h <;> first | (cases h; done) | (rename_i q; have := asConst_eq q; subst this; rfl)
  case non => split at h <;> first | (cases h; done) | (rename_i q; have := asConst_eq q; subst this; rfl)
  case tup => split at h <;> first | (cases h; done) | (rename_i q; have := asTup_eq q; subst this; rfl)
  case lst => split at h <;> first | (cases h; done) | (rename_i q; have := asLst_eq q; subst this; rfl)
  case dct ks vs =>
    cases ks with
    | nil =>
      cases vs with
      | nil =>
        simp only [chkE] at h
        obtain ⟨r, q⟩ := Option.isSome_iff_exists.mp h
        have := asDct0_eq q; subst this; rfl
      | cons _ _ => simp [chkE] at h
    | cons k ks =>
      cases ks with
      | cons _ _ => simp [chkE] at h
      | nil =>
        cases vs with
        | nil => simp [chkE] at h
        | cons v vs =>
          cases vs with
          | cons _ _ => simp [chkE] at h
          | nil =>
            simp only [chkE] at h
            split at h
            · rename_i q; have := asDct1_eq q; subst this; rfl
            · cases h
  case chain3 => cases h
  case ist => split at h <;> first | (cases h; done) | (rename_i q; have := asCmp1_eq q; subst this; rfl)
  case skeys => split at h <;> first | (cases h; done) | (rename_i q; have := asCall_eq q; subst this; rfl)
  case lvals => split at h <;> first | (cases h; done) | (rename_i q; have := asCall_eq q; subst this; rfl)
  case bin => split at h <;> first | (cases h; done) | (rename_i q; have := asBin_eq q; subst this; rfl)
  case neg => split at h <;> first | (cases h; done) | (rename_i q; have := asUn_eq q; subst this; rfl)
  case not => split at h <;> first | (cases h; done) | (rename_i q; have := asUn_eq q; subst this; rfl)
  case and => split at h <;> first | (cases h; done) | (rename_i q; have := asBool_eq q; subst this; rfl)
  case or => split at h <;> first | (cases h; done) | (rename_i q; have := asBool_eq q; subst this; rfl)
  case ite => split at h <;> first | (cases h; done) | (rename_i q; have := asIf_eq q; subst this; rfl)
  case cmp => split at h <;> first | (cases h; done) | (rename_i q; have := asCmp1_eq q; subst this; rfl)
  case chain => split at h <;> first | (cases h; done) | (rename_i q; have := asCmp2_eq q; subst this; rfl)
  case isn => split at h <;> first | (cases h; done) | (rename_i q; have := asCmp1_eq q; subst this; rfl)
  case notn => split at h <;> first | (cases h; done) | (rename_i q; have := asCmp1_eq q; subst this; rfl)
  case isi => split at h <;> first | (cases h; done) | (rename_i q; have := asCall_eq q; subst this; rfl)
  case call => split at h <;> first | (cases h; done) | (rename_i q; have := asCall_eq q; subst this; rfl)
  case blt b a =>
    cases b <;> simp only [chkE] at h
    all_goals split at h <;> first | (cases h; done) | (rename_i q; have := asCall_eq q; subst this; rfl)
  case rng => split at h <;> first | (cases h; done) | (rename_i q; have := asCall_eq q; subst this; rfl)
  case cnt => split at h <;> first | (cases h; done) | (rename_i q; have := asMeth_eq q; subst this; rfl)
  case idx => split at h <;> first | (cases h; done) | (rename_i q; have := asMeth_eq q; subst this; rfl)
  case get => split at h <;> first | (cases h; done) | (rename_i q; have := asMeth_eq q; subst this; rfl)
  case ix => split at h <;> first | (cases h; done) | (rename_i q; have := asSub_eq q; subst this; rfl)
  case sl => split at h <;> first | (cases h; done) | (rename_i q; have := asSlice_eq q; subst this; rfl)
  case rev => split at h <;> first | (cases h; done) | (rename_i q; have := asRev_eq q; subst this; rfl)
  case comp => split at h <;> first | (cases h; done) | (rename_i q; have := asComp_eq q; subst this; rfl)
theorem chks_star : ∀ {es : Es} {xs : List Expr}, chkEs c sc es xs = true → xs.all notStar = true
  | .nil, [], _ => rfl
  | .nil, _ :: _, h => by simp [chkEs] at h
  | .cons e es, [], h => by simp [chkEs] at h
  | .cons e es, x :: xs, h => by
    simp only [chkEs, Bool.and_eq_true] at h
    rw [List.all_cons, (good_of (chk_good h.1)).1, chks_star h.2.2]
    rfl
theorem chkb_star : ∀ {bw : List Bool} {es : Es} {xs : List Expr}, chkB c sc bw es xs = true → xs.all notStar = true
  | [], .nil, [], _ => rfl
  | _ :: _, .cons e es, x :: xs, h => by
    simp only [chkB, Bool.and_eq_true] at h
    rw [List.all_cons, (good_of (chk_good h.1)).1, chkb_star h.2.2]
    rfl
  | [], .nil, _ :: _, h => by simp [chkB] at h
  | [], .cons _ _, _, h => by simp [chkB] at h
  | _ :: _, .nil, _, h => by simp [chkB] at h
  | _ :: _, .cons _ _, [], h => by simp [chkB] at h
/-! isinstance -/
theorem pe_ty {t : Ty} {y : Expr} (g : Gd P G c sc X) (h : chkTy sc t y = true) : PE X y (tC (.ty (tyN t))) ∧ notStar y = true := by
  unfold chkTy at h
  split at h
  · rename_i x pos q
    have := asName_eq q
    subst this
    simp only [Bool.and_eq_true, decide_eq_true_eq] at h
    obtain ⟨rfl, h2⟩ := h
    have gl := gl_of g h2
    refine ⟨?_, rfl⟩
    show PE X (.Name (Str.ofString (tyN t)) pos) (tC (.ty (tyN t)))
    have gl : Gl X (Str.ofString (tyN t)) := gl
    cases t
    · exact pe_bltn gl (g.blt _ (by decide +kernel)) PyProof.Rows.boot_int rfl (by decide +kernel) (by decide +kernel)
    · exact pe_bltn gl (g.blt _ (by decide +kernel)) PyProof.Rows.boot_bool rfl (by decide +kernel) (by decide +kernel)
    · exact pe_bltn gl (g.blt _ (by decide +kernel)) PyProof.Rows.boot_str rfl (by decide +kernel) (by decide +kernel)
    · exact pe_bltn gl (g.blt _ (by decide +kernel)) PyProof.Rows.boot_tuple rfl (by decide +kernel) (by decide +kernel)
    · exact pe_bltn gl (g.blt _ (by decide +kernel)) PyProof.Rows.boot_list rfl (by decide +kernel) (by decide +kernel)
  · cases h
def tTyL (ts : List Ty) : TA := fun _ H Q => Q (ts.map fun t => V.ty (tyN t)) H
theorem pa_tys (g : Gd P G c sc X) : ∀ {ts : List Ty} {ys : List Expr}, chkTyL sc ts ys = true → PA X ys (tTyL ts)
  | [], [], _ => pa_nil
  | [], _ :: _, h => by cases h
  | _ :: _, [], h => by cases h
  | t :: ts, y :: ys, h => by
    unfold chkTyL at h
    rw [Bool.and_eq_true] at h
    obtain ⟨h1, h2⟩ := pe_ty g h.1
    exact (pa_cons h1 (pa_tys g h.2) (star_of h2)).imp fun σ H Q q => q
theorem isi_bl {a : E} {ts : List Ty} {md : Md} (env : Env) (w : Wd) (x : D) (w' : Wd) (h : ev G (.isi a ts) md env w = .ok x w') : ∃ k, x = .bl k := by
  obtain ⟨x, w1, _, h⟩ := bnd_ok h
  obtain ⟨e, _⟩ := lft_ok h
  obtain ⟨k, _, rfl⟩ := Option.map_eq_some_iff.mp e
  exact ⟨k, rfl⟩
theorem dTy_of {d : D} {t : Ty} {ts : List Ty} {b : Bool} (e : isTys d (t :: ts) = some b) : ∃ n, dTy d = some n := by
  unfold isTys at e
  cases h1 : D.isTy t d with
  | none => rw [h1] at e; cases e
  | some c1 => obtain ⟨m, e1, _⟩ := isTy_ok h1; exact ⟨m, e1⟩
theorem r_isi1 {a : E} {t : Ty} {md : Md} {σ : Stt} {H : Hp} {Q : VK} (h : tX P W (ev G (.isi a [t]) md) (RV P 0) σ H Q) :
    tX P W (ev G a .v) (RV P (lev a)) σ H fun x H1 => tC (.ty (tyN t)) σ H1 fun y H2 => rIsiY P.K [x, y] H2 Q := by
  obtain ⟨os, Z, w, env, ad, B, k, sl, h⟩ := h
  have h : Out P W σ os Z H (bnd (ev G a .v env) (fun x => lft ((isTys x [t]).map D.bl)) w) _ := h
  refine tX_intro k sl h.bnd fun d w1 os1 Z1 H1 v s1 k1 sl1 r h1 => ?_
  obtain ⟨e, e1, h2⟩ := h1.lft
  obtain ⟨b, e2, rfl⟩ := Option.map_eq_some_iff.mp e1
  obtain ⟨n, hn⟩ := dTy_of e2
  exact ⟨v, _, .type n, .type (tyN t), b, rfl, .ty _, ty_of k1.zh r hn, isTy_single hn e2, h2.ret k1 _ (by show Rep P os1 Z1 _ _; unfold Rep; rfl)⟩
theorem paired_cls : ∀ ts : List Ty, Paired ClsV (ts.map fun t => V.ty (tyN t)) (ts.map fun t => Value.type (tyN t))
  | [] => .nil
  | t :: ts => .cons (.ty _) (paired_cls ts)
theorem r_isiL {a : E} {t : Ty} {ts : List Ty} {md : Md} {σ : Stt} {H : Hp} {Q : VK} (hl : (t :: ts).length ≤ 10) (h : tX P W (ev G (.isi a (t :: ts)) md) (RV P 0) σ H Q) :
    tX P W (ev G a .v) (RV P (lev a)) σ H fun x H1 => tTup (tTyL (t :: ts)) σ H1 fun y H2 => rIsiTY P.K [x, y] H2 Q := by
  obtain ⟨os, Z, w, env, ad, B, k, sl, h⟩ := h
  have h : Out P W σ os Z H (bnd (ev G a .v env) (fun x => lft ((isTys x (t :: ts)).map D.bl)) w) _ := h
  refine tX_intro k sl h.bnd fun d w1 os1 Z1 H1 v s1 k1 sl1 r h1 => ?_
  obtain ⟨e, e1, h2⟩ := h1.lft
  obtain ⟨b, e2, rfl⟩ := Option.map_eq_some_iff.mp e1
  obtain ⟨n, hn⟩ := dTy_of e2
  refine ⟨by rw [List.length_map, sizeLine_eq]; omega, fun p hp => ?_⟩
  obtain ⟨k2, st⟩ := k1.alloc hp (.tup ((t :: ts).map fun t => V.ty (tyN t)))
  exact ⟨v, p, _, .type n, _, b, rfl, upd_same, paired_cls (t :: ts), ty_of k2.zh (LR.step st r) hn, isTys_ok hn e2, h2 _ _ _ st k2 _ (by show Rep P os1 _ _ _; unfold Rep; rfl)⟩
end
end VI

set_option Elab.async false
set_option linter.all false
set_option maxRecDepth 100000
set_option maxHeartbeats 4000000
/-! VI, part 12: every expression keeps what the small language says of it. -/
namespace VI
open PySem L2
section
variable {P : Pm} {G : Glo} {c : Ck}
theorem lev0 {e : E} (h : lev e = 0) {X : Cx} {W : WX} {t : Expr} (p : PE X t (tX P W (ev G e .v) (RV P (lev e)))) : PE X t (tX P W (ev G e .v) (RV P 0)) := by rw [h] at p; exact p
theorem rv_base {n : Nat} : ∀ (d : D) os Z H0 H1 H v, RV P n d os Z H1 H v → RV P n d os Z H0 H v := fun _ _ _ _ _ _ _ h => h
theorem rb_base : ∀ (d : D) os Z H0 H1 H (v : Bool), RB d os Z H1 H v → RB d os Z H0 H v := fun _ _ _ _ _ _ _ h => h
theorem marks2 {op op' : CmpOp} {b d : Expr} (h : notSet d = true) : lastMarks [op, op'] [b, d] = false := by
  show lastMarks [op'] [d] = false
  show behindInMarks op' d = false
  exact marks_of h
theorem blId_ne (b : Bl1) : Str.ofString (blId b) ≠ ("__name__" : Str) := by cases b <;> decide +kernel
theorem blId_dbg (b : Bl1) : (Str.ofString (blId b) == ("__debug__" : Str)) = false := by cases b <;> decide +kernel
mutual
theorem snd_E : ∀ (e : E) {X : Cx} {W : WX} {sc : Scope} {t : Expr}, Gd P G c sc X → Takes X W → chkE c sc e t = true → SE P W G X e t
  | .var i, X, W, sc, t, g, tk, h => by
    simp only [chkE] at h
    split at h
    · rename_i q
      have := asName_eq q
      subst this
      exact SE.of g.K ((pe_name g h).imp fun _ _ _ z => r_var z) (fun z => by cases z) (fun _ => rfl) rfl
    · cases h
  | .bor i, X, W, sc, t, g, tk, h => by
    simp only [chkE] at h
    split at h
    · rename_i q
      have := asName_eq q
      subst this
      exact SE.of g.K ((pe_name g h).imp fun _ _ _ z => r_bor z) (fun z => by cases z) (fun _ => rfl) rfl
    · cases h
  | .bor2 i, X, W, sc, t, g, tk, h => by
    simp only [chkE] at h
    split at h
    · rename_i q
      have := asName_eq q
      subst this
      exact SE.of g.K ((pe_name g h).imp fun _ _ _ z => r_bor2 z) (fun z => by cases z) (fun _ => rfl) rfl
    · cases h
  | .glob n, X, W, sc, t, g, tk, h => by
    simp only [chkE] at h
    split at h
    · rename_i q
      have := asName_eq q
      subst this
      simp only [Bool.and_eq_true, decide_eq_true_eq] at h
      obtain ⟨h1, h2, h3, h4⟩ := h
      obtain ⟨u, d, v, g1, g2, g3, g4⟩ := g.glob _ h2
      refine SE.of g.K ((pe_glob (gl_of g h1) g1 g2 (dbg_of h4).1).imp fun σ H Q z => ?_) (fun z => by cases z) (fun _ => rfl) rfl
      obtain ⟨os, Z, w, env, ad, B, k, sl, z⟩ := z
      have z : Out P W σ os Z H (lft (G.glob n) w) _ := z
      obtain ⟨d', e, z2⟩ := z.lft
      rw [← h3, g3] at e
      cases e
      exact z2.ret k v (.of (g4 os Z))
    · cases h
  | .int i, X, W, sc, t, g, tk, h => by
    simp only [chkE] at h
    split at h
    · rename_i q
      have := asConst_eq q
      subst this
      cases of_decide_eq_true h
      exact SE.of g.K (pe_int.imp fun _ _ _ z => r_const (d := .int i) (fun _ _ => by unfold Rep; rfl) z) (fun z => by cases z) (fun _ => rfl) rfl
    · cases h
  | .bl i, X, W, sc, t, g, tk, h => by
    simp only [chkE] at h
    split at h
    · rename_i q
      have := asConst_eq q
      subst this
      cases of_decide_eq_true h
      exact SE.of g.K (pe_bl.imp fun _ _ _ z => r_const (d := .bl i) (fun _ _ => by unfold Rep; rfl) z) (fun z => by cases z) (fun _ => rfl) rfl
    · cases h
  | .str i, X, W, sc, t, g, tk, h => by
    simp only [chkE] at h
    split at h
    · rename_i q
      have := asConst_eq q
      subst this
      cases of_decide_eq_true h
      exact SE.of g.K (pe_str.imp fun _ _ _ z => r_const (d := .str i) (fun _ _ => by unfold Rep; rfl) z) (fun z => by cases z) (fun _ => rfl) rfl
    · cases h
  | .non, X, W, sc, t, g, tk, h => by
    simp only [chkE] at h
    split at h
    · rename_i q
      have := asConst_eq q
      subst this
      exact SE.of g.K (pe_non.imp fun _ _ _ z => r_const (d := .non) (fun _ _ => by unfold Rep; rfl) z) (fun z => by cases z) (fun _ => rfl) rfl
    · cases h
  | .tup es, X, W, sc, t, g, tk, h => by
    simp only [chkE] at h
    split at h
    · rename_i q
      have := asTup_eq q
      subst this
      exact SE.of g.K ((pe_tup (snd_Es es g tk h)).imp fun _ _ _ z => r_tup z) (fun z => by cases z) (fun _ => rfl) rfl
    · cases h
  | .lst es, X, W, sc, t, g, tk, h => by
    simp only [chkE] at h
    split at h
    · rename_i q
      have := asLst_eq q
      subst this
      exact SE.ofN g.K ((pe_lst (snd_Es es g tk h)).imp fun _ _ _ z => r_lst z) (fun _ => rfl) rfl
    · cases h
  | .dct .nil .nil, X, W, sc, t, g, tk, h => by
    simp only [chkE] at h
    obtain ⟨r, q⟩ := Option.isSome_iff_exists.mp h
    have := asDct0_eq q
    subst this
    exact SE.ofN g.K (pe_dnewN.imp fun _ _ _ z => r_dct0 z) (fun _ => rfl) rfl
  | .dct (.cons ke .nil) (.cons ve .nil), X, W, sc, t, g, tk, h => by
    simp only [chkE] at h
    split at h
    · rename_i q
      have := asDct1_eq q
      subst this
      simp only [Bool.and_eq_true, decide_eq_true_eq] at h
      obtain ⟨h1, h2, h3, h4⟩ := h
      have hu := units_of g
      refine SE.ofN g.K ((pe_dispN (by omega) (snd_E ke g tk h1).pv (snd_E ve g tk h2).pv).imp fun _ _ _ z => ?_) (fun _ => rfl) rfl
      rw [g.W]
      exact r_dct1 h3 h4 z
    · cases h
  | .dct .nil (.cons _ _), X, W, sc, t, g, tk, h => by simp [chkE] at h
  | .dct (.cons _ .nil) .nil, X, W, sc, t, g, tk, h => by simp [chkE] at h
  | .dct (.cons _ .nil) (.cons _ (.cons _ _)), X, W, sc, t, g, tk, h => by simp [chkE] at h
  | .dct (.cons _ (.cons _ _)) _, X, W, sc, t, g, tk, h => by simp [chkE] at h
  | .chain3 _ _ _ _ _ _ _, X, W, sc, t, g, tk, h => by simp [chkE] at h
  | .ist a b, X, W, sc, t, g, tk, h => by
    simp only [chkE] at h
    split at h
    · rename_i q
      have := asCmp1_eq q
      subst this
      simp only [Bool.and_eq_true] at h
      obtain ⟨h1, h2⟩ := h
      split at h2
      · rename_i q2
        have e := asConst_eq q2
        simp only at e
        cases of_decide_eq_true h2
        have ia := snd_E a g tk h1
        simp only [e]
        exact ⟨(pe_cmp (pc_isB ia.pv)).imp fun _ _ _ z => r_ist z, (pt_cmp (pc_isB ia.pv)).imp fun _ _ _ z => r_ist (t_bl ist_bl z), fun z => (by cases z), fun _ _ _ z => (by cases z)⟩
      · cases h2
    · cases h
  | .bin o a b, X, W, sc, t, g, tk, h => by
    simp only [chkE] at h
    split at h
    · rename_i q
      have := asBin_eq q
      subst this
      simp only [Bool.and_eq_true, decide_eq_true_eq] at h
      obtain ⟨h1, h2, h3, h4, h5⟩ := h
      subst h1
      have ia := snd_E a g tk h2
      have ib := snd_E b g tk h3
      refine SE.ofN g.K ((pe_op (rBin_ok o) ia.pv ib.pv).imp fun _ _ _ z => ?_) (fun _ => rfl) rfl
      rw [g.K]
      exact r_bin h4 h5 z
    · cases h
  | .neg a, X, W, sc, t, g, tk, h => by
    simp only [chkE] at h
    split at h
    · rename_i q
      have := asUn_eq q
      subst this
      simp only [Bool.and_eq_true, decide_eq_true_eq] at h
      exact SE.of g.K ((pe_un un_neg (snd_E a g tk h.1).pv).imp fun _ _ _ z => r_neg h.2 z) (fun z => by cases z) (fun _ => rfl) rfl
    · cases h
  | .not a, X, W, sc, t, g, tk, h => by
    simp only [chkE] at h
    split at h
    · rename_i q
      have := asUn_eq q
      subst this
      have ia := snd_E a g tk h
      exact ⟨(pe_notT ia.pv).imp fun _ _ _ z => r_notV g.K z, (pt_not ia.pt).imp fun _ _ _ z => r_notT z, fun z => (by cases z), fun _ _ _ z => (by cases z)⟩
    · cases h
  | .and a b, X, W, sc, t, g, tk, h => by
    simp only [chkE] at h
    split at h
    · rename_i x y rest pos q
      have := asBool_eq q
      subst this
      simp only [Bool.and_eq_true, decide_eq_true_eq] at h
      obtain ⟨h1, h2, h3, h4⟩ := h
      have ia := snd_E a g tk h1
      have hv : PE X (.BoolOp .And (y :: rest) pos) (tX P W (ev G b .v) (RV P (lev b))) ∧ PW X (.BoolOp .And (y :: rest) pos) (tX P W (ev G b .t) RB) := by
        cases rest with
        | nil =>
          have ib := snd_E b g tk h4
          exact ⟨pe_one ib.pv, pw_and1 ib.pt⟩
        | cons z zs =>
          have ib := snd_E b g tk h4
          exact ⟨ib.pv, ib.pw _ _ _ rfl⟩
      have hw : PW X (.BoolOp .And (x :: y :: rest) pos) (tX P W (ev G (.and a b) .t) RB) := (pw_and ia.pt hv.2).imp fun σ H Q z => by
        have z2 := r_ite rb_base (show tX P W (fun env => iteM (ev G a .t env) (ev G b .t env) (ret (.bl false))) RB σ H Q from z)
        refine tX_mono z2 fun k H1 z3 => ?_
        cases k with
        | true => exact z3
        | false => exact rb_true z3
      exact ⟨(pe_andT ia.pv hv.1).imp fun _ _ _ z => r_andV g.K h2 h3 z, hw.pt, fun z => (by cases z), fun _ _ _ z => (by cases z; exact hw)⟩
    · cases h
  | .or a b, X, W, sc, t, g, tk, h => by
    simp only [chkE] at h
    split at h
    · rename_i x y rest pos q
      have := asBool_eq q
      subst this
      simp only [Bool.and_eq_true, decide_eq_true_eq] at h
      obtain ⟨h1, h2, h3, h4⟩ := h
      have ia := snd_E a g tk h1
      have hv : PE X (.BoolOp .Or (y :: rest) pos) (tX P W (ev G b .v) (RV P (lev b))) ∧ PW X (.BoolOp .Or (y :: rest) pos) (tX P W (ev G b .t) RB) := by
        cases rest with
        | nil =>
          have ib := snd_E b g tk h4
          exact ⟨pe_one ib.pv, pw_or1 ib.pt⟩
        | cons z zs =>
          have ib := snd_E b g tk h4
          exact ⟨ib.pv, ib.pw _ _ _ rfl⟩
      have hw : PW X (.BoolOp .Or (x :: y :: rest) pos) (tX P W (ev G (.or a b) .t) RB) := (pw_or ia.pt hv.2).imp fun σ H Q z => by
        have z2 := r_ite rb_base (show tX P W (fun env => iteM (ev G a .t env) (ret (.bl true)) (ev G b .t env)) RB σ H Q from z)
        refine tX_mono z2 fun k H1 z3 => ?_
        cases k with
        | true => exact rb_true z3
        | false => exact z3
      exact ⟨(pe_orT ia.pv hv.1).imp fun _ _ _ z => r_orV g.K h2 h3 z, hw.pt, fun z => (by cases z), fun _ _ _ z => (by cases z; exact hw)⟩
    · cases h
  | .ite d a b, X, W, sc, t, g, tk, h => by
    simp only [chkE] at h
    split at h
    · rename_i q
      have := asIf_eq q
      subst this
      simp only [Bool.and_eq_true, decide_eq_true_eq] at h
      obtain ⟨h1, h2, h3, h4, h5⟩ := h
      have id := snd_E d g tk h1
      have ia := snd_E a g tk h2
      have ib := snd_E b g tk h3
      exact ⟨(pe_ifExp id.pt (lev0 h4 ia.pv) (lev0 h5 ib.pv)).imp fun _ _ _ z => r_ite rv_base z, (pt_ifExpT id.pt ia.pt ib.pt).imp fun _ _ _ z => r_ite rb_base z, fun z => (by cases z), fun _ _ _ z => (by cases z)⟩
    · cases h
  | .cmp o a b, X, W, sc, t, g, tk, h => by
    simp only [chkE] at h
    split at h
    · rename_i q
      have := asCmp1_eq q
      subst this
      simp only [Bool.and_eq_true, decide_eq_true_eq] at h
      obtain ⟨h1, h2, h3, h4, h5⟩ := h
      subst h1
      have ia := snd_E a g tk h2
      have ib := snd_E b g tk h3
      have hm := (good_of (chk_good h3)).2.2.1
      have hr : OpR X (compareOp (opC o)) (rCmp P.K P.wo o) := by have := rCmp_ok (units_of g) o; rw [g.K, g.W] at this; exact this
      exact ⟨(pe_cmpR hr ia.pv ib.pv (marks_of hm)).imp fun _ _ _ z => r_cmp h4 h5 z, (pt_cmpR hr ia.pv ib.pv (marks_of hm)).imp fun _ _ _ z => r_cmp h4 h5 (t_bl cmp_bl z), fun z => (by cases z), fun _ _ _ z => (by cases z)⟩
    · cases h
  | .chain o o' a b d, X, W, sc, t, g, tk, h => by
    simp only [chkE] at h
    split at h
    · rename_i q
      have := asCmp2_eq q
      subst this
      simp only [Bool.and_eq_true, decide_eq_true_eq] at h
      obtain ⟨h1, h2, h3, h4, h5, h6, h7, h8⟩ := h
      subst h1
      subst h2
      have ia := snd_E a g tk h3
      have ib := snd_E b g tk h4
      have id := snd_E d g tk h5
      have hm := (good_of (chk_good h5)).2.2.1
      have hr : ∀ o, OpR X (compareOp (opC o)) (rCmp P.K P.wo o) := fun o => by have := rCmp_ok (units_of g) o; rw [g.K, g.W] at this; exact this
      exact ⟨(pe_chain (hr o) (hr o') ia.pv ib.pv id.pv (marks2 hm)).imp fun _ _ _ z => r_chain h6 h7 h8 z, (pt_chain (hr o) (hr o') ia.pv ib.pv id.pv (marks2 hm)).imp fun _ _ _ z => r_chain h6 h7 h8 (t_bl chain_bl z), fun z => (by cases z), fun _ _ _ z => (by cases z)⟩
    · cases h
  | .isn a, X, W, sc, t, g, tk, h => by
    simp only [chkE] at h
    split at h
    · rename_i q
      have := asCmp1_eq q
      subst this
      simp only [Bool.and_eq_true] at h
      obtain ⟨h1, h2⟩ := h
      split at h2
      · rename_i q2
        have e := asConst_eq q2
        simp only at e
        have ia := snd_E a g tk h1
        simp only [e]
        exact ⟨(pe_cmp (pc_isN ia.pv)).imp fun _ _ _ z => r_isn z, (pt_cmp (pc_isN ia.pv)).imp fun _ _ _ z => r_isn (t_bl isn_bl z), fun z => (by cases z), fun _ _ _ z => (by cases z)⟩
      · cases h2
    · cases h
  | .notn a, X, W, sc, t, g, tk, h => by
    simp only [chkE] at h
    split at h
    · rename_i q
      have := asCmp1_eq q
      subst this
      simp only [Bool.and_eq_true] at h
      obtain ⟨h1, h2⟩ := h
      split at h2
      · rename_i q2
        have e := asConst_eq q2
        simp only at e
        have ia := snd_E a g tk h1
        simp only [e]
        exact ⟨(pe_cmp (pc_notN ia.pv)).imp fun _ _ _ z => r_notn z, (pt_cmp (pc_notN ia.pv)).imp fun _ _ _ z => r_notn (t_bl notn_bl z), fun z => (by cases z), fun _ _ _ z => (by cases z)⟩
      · cases h2
    · cases h
  | .isi a ts, X, W, sc, t, g, tk, h => by
    simp only [chkE] at h
    split at h
    · rename_i f fp x y pos q
      have := asCall_eq q
      subst this
      simp only [Bool.and_eq_true, decide_eq_true_eq] at h
      obtain ⟨rfl, h1, h2, h3⟩ := h
      have ia := snd_E a g tk h2
      have gl : Gl X (Str.ofString "isinstance") := gl_of g h1
      have hm : X.mg (Str.ofString "isinstance") = none := g.blt _ (by decide +kernel)
      have hs := (good_of (chk_good h2)).1
      have hp : PE X (.Call (.Name (Str.ofString "isinstance") fp) [x, y] [] pos) (tX P W (ev G (.isi a ts) .v) (RV P 0)) ∧ PT X (.Call (.Name (Str.ofString "isinstance") fp) [x, y] [] pos) (tX P W (ev G (.isi a ts) .t) RB) := by
        unfold chkTys at h3
        split at h3
        · rename_i es kk p2 q2
          have := asTup_eq q2
          subst this
          simp only [Bool.and_eq_true, decide_eq_true_eq] at h3
          obtain ⟨h4, h5, h6⟩ := h3
          cases ts with
          | nil => simp at h5
          | cons t ts =>
            have pa : PA X [x, .Tuple es kk p2] _ := pa_cons ia.pv (pa_cons (pe_tup (x1 := kk) (pos := p2) (pa_tys g h4)) pa_nil) (star_of hs)
            have hc := call_isiTY (X := X)
            rw [g.K] at hc
            have base := pe_callB hc gl hm PyProof.Rows.boot_isinstance pa (by decide +kernel) (by decide +kernel) (star_of hs) rfl (pos := pos) (p := fp)
            exact ⟨base.imp fun _ _ _ z => r_isiL h6 z, (pt_val base).imp fun _ _ _ z => r_isiL h6 (t_bl isi_bl z)⟩
        · split at h3
          · rename_i t
            obtain ⟨py, hys⟩ := pe_ty g h3
            have pa : PA X [x, y] _ := pa_cons ia.pv (pa_cons py pa_nil (star_of hys)) (star_of hs)
            have hc := call_isiY (X := X)
            rw [g.K] at hc
            have base := pe_callB hc gl hm PyProof.Rows.boot_isinstance pa (by decide +kernel) (by decide +kernel) (star_of hs) (back_any (by rw [List.all_cons, hys]; rfl)) (pos := pos) (p := fp)
            exact ⟨base.imp fun _ _ _ z => r_isi1 z, (pt_val base).imp fun _ _ _ z => r_isi1 (t_bl isi_bl z)⟩
          · cases h3
      exact ⟨hp.1, hp.2, fun z => (by cases z), fun _ _ _ z => (by cases z)⟩
    · cases h
  | .call f es, X, W, sc, t, g, tk, h => by
    simp only [chkE] at h
    split at h
    · rename_i x _ e as pos q
      have := asCall_eq q
      subst this
      simp only [Bool.and_eq_true, decide_eq_true_eq] at h
      obtain ⟨rfl, h1, h3, h4⟩ := h
      split at h4
      case h_2 => cases h4
      rename_i bw h2
      obtain ⟨kf, fA, fd, ps, co⟩ := g.call x _ h2
      have pa := snd_B es g tk h4
      have hst := chkb_star h4
      rw [List.all_cons, Bool.and_eq_true] at hst
      refine SE.of g.K ((pe_callSD co.ok co.room (gl_of g h1) co.mg co.keep co.bind .nil (fun σ => passAt tk σ) pa (dbg_of h3).1 (star_of hst.1) (back_any hst.2)).imp fun _ _ _ z => ?_) (fun z => by cases z) (fun _ => rfl) rfl
      exact r_call z
    · cases h
  | .blt b a, X, W, sc, t, g, tk, h => by
    by_cases hss : b = .sortedSet
    · subst hss
      simp only [chkE] at h
      split at h
      · rename_i x _ y pos q
        have := asCall_eq q
        subst this
        simp only [Bool.and_eq_true, decide_eq_true_eq] at h
        obtain ⟨rfl, h1, h2⟩ := h
        split at h2
        · rename_i z _ u pos2 q2
          have := asCall_eq q2
          subst this
          simp only [Bool.and_eq_true, decide_eq_true_eq] at h2
          obtain ⟨rfl, h3, h4, h5⟩ := h2
          have ia := snd_E a g tk h4
          have hs := (good_of (chk_good h4)).1
          have c1 := cr_setA (X := X) g.calm (units_of g)
          have c2 := cr_sortedSA (X := X) g.calm (units_of g)
          rw [g.K, g.W] at c1 c2
          refine SE.ofN g.K ((pe_callB c2 (gl_of g h1) (g.blt _ (by decide +kernel)) PyProof.Rows.boot_sorted (pa_cons (pe_callTy c1 (gl_of g h3) (g.blt _ (by decide +kernel)) PyProof.Rows.boot_set (pa_cons ia.pv pa_nil (star_of hs)) (by decide +kernel) (by decide +kernel) (star_of hs) rfl) pa_nil rfl) (by decide +kernel) (by decide +kernel) rfl rfl).imp fun _ _ _ z => r_sset h5 z) (fun _ => rfl) rfl
        · cases h2
      · cases h
    replace h : (match asCall t with
      | some (x, _, y, [], _) => decide (x = Str.ofString (blId b)) && (glB sc x && (chkE c sc a y && ((decide (lev a ≤ 1) || decide (b = .len)) && blOk b)))
      | _ => false) = true := by
      cases b <;> first | (exact absurd rfl hss) | (simp only [chkE] at h; exact h)
    split at h
    · rename_i x _ y pos q
      have := asCall_eq q
      subst this
      simp only [Bool.and_eq_true, Bool.or_eq_true, decide_eq_true_eq] at h
      obtain ⟨rfl, h1, h2, h3, h4⟩ := h
      have ia := snd_E a g tk h2
      have hs := (good_of (chk_good h2)).1
      have hc := rB1_ok (X := X) g.calm (units_of g) b
      rw [g.K, g.W] at hc
      have pa : PA X [y] _ := pa_cons ia.pv pa_nil (star_of hs)
      have gl : Gl X (Str.ofString (blId b)) := gl_of g h1
      have hm : X.mg (Str.ofString (blId b)) = none := g.blt _ (by cases b <;> decide +kernel)
      refine SE.ofN g.K (PE.imp (t := tCB (rB1 P.K P.wo b) (tCons (tX P W (ev G a .v) (RV P (lev a))) tNil)) ?_ fun _ _ _ z => r_blt h3 h4 z) (fun _ => rfl) rfl
      cases b <;> first | (cases h4; done) | skip
      case len => exact pe_callB hc gl hm PySem.boot_len pa (blId_ne _) (blId_dbg _) (star_of hs) rfl
      case abs => exact pe_callB hc gl hm PyProof.Rows.boot_abs pa (blId_ne _) (blId_dbg _) (star_of hs) rfl
      case int => exact pe_callTy hc gl hm PyProof.Rows.boot_int pa (blId_ne _) (blId_dbg _) (star_of hs) rfl
      case bool => exact pe_callTy hc gl hm PyProof.Rows.boot_bool pa (blId_ne _) (blId_dbg _) (star_of hs) rfl
      case sum => exact pe_callB hc gl hm PyProof.Rows.boot_sum pa (blId_ne _) (blId_dbg _) (star_of hs) rfl
      case sorted => exact pe_callB hc gl hm PyProof.Rows.boot_sorted pa (blId_ne _) (blId_dbg _) (star_of hs) rfl
      case max => exact pe_callB hc gl hm PyProof.Rows.boot_max pa (blId_ne _) (blId_dbg _) (star_of hs) rfl
      case tuple => exact pe_callTy hc gl hm PyProof.Rows.boot_tuple pa (blId_ne _) (blId_dbg _) (star_of hs) rfl
      case dict => exact pe_callTy hc gl hm PyProof.Rows.boot_dict pa (blId_ne _) (blId_dbg _) (star_of hs) rfl
      case list => exact pe_callTy hc gl hm PyProof.Rows.boot_list pa (blId_ne _) (blId_dbg _) (star_of hs) rfl
    · cases h
  | .skeys a, X, W, sc, t, g, tk, h => by
    simp only [chkE] at h
    split at h
    · rename_i x _ y pos q
      have := asCall_eq q
      subst this
      simp only [Bool.and_eq_true, decide_eq_true_eq] at h
      obtain ⟨rfl, h1, h2⟩ := h
      split at h2
      · rename_i o m apos mpos q2
        have := asMeth0_eq q2
        subst this
        unfold meth0B at h2
        simp only [Bool.and_eq_true, decide_eq_true_eq] at h2
        obtain ⟨⟨rfl, hl, hc0⟩, h3, h4⟩ := h2
        have ia := snd_E a g tk h3
        have c2 := cr_sortedKV (X := X) g.calm (units_of g)
        rw [g.K] at c2
        exact SE.ofN g.K ((pe_callB c2 (gl_of g h1) (g.blt _ (by decide +kernel)) PyProof.Rows.boot_sorted (pa_cons (pe_keysV ia.pv (base_of hc0 _) hl) pa_nil rfl) (by decide +kernel) (by decide +kernel) rfl rfl).imp fun _ _ _ z => r_skeys z) (fun _ => rfl) rfl
      · cases h2
    · cases h
  | .lvals a, X, W, sc, t, g, tk, h => by
    simp only [chkE] at h
    split at h
    · rename_i x _ y pos q
      have := asCall_eq q
      subst this
      simp only [Bool.and_eq_true, decide_eq_true_eq] at h
      obtain ⟨rfl, h1, h2⟩ := h
      split at h2
      · rename_i o m apos mpos q2
        have := asMeth0_eq q2
        subst this
        unfold meth0B at h2
        simp only [Bool.and_eq_true, decide_eq_true_eq] at h2
        obtain ⟨⟨rfl, hl, hc0⟩, h3, h4⟩ := h2
        have ia := snd_E a g tk h3
        exact SE.ofN g.K ((pe_callTy (cr_listVV (X := X) g.calm) (gl_of g h1) (g.blt _ (by decide +kernel)) PyProof.Rows.boot_list (pa_cons (pe_valsV ia.pv (base_of hc0 _) hl) pa_nil rfl) (by decide +kernel) (by decide +kernel) rfl rfl).imp fun _ _ _ z => r_lvals z) (fun _ => rfl) rfl
      · cases h2
    · cases h
  | .rng a, X, W, sc, t, g, tk, h => by
    simp only [chkE] at h
    split at h
    · rename_i x _ y pos q
      have := asCall_eq q
      subst this
      simp only [Bool.and_eq_true, decide_eq_true_eq] at h
      obtain ⟨rfl, h1, h2⟩ := h
      split at h2
      · rename_i z _ u pos2 q2
        have := asCall_eq q2
        subst this
        simp only [Bool.and_eq_true, decide_eq_true_eq] at h2
        obtain ⟨rfl, h3, h4, h5⟩ := h2
        have ia := snd_E a g tk h4
        have hs := (good_of (chk_good h4)).1
        exact SE.ofN g.K ((pe_listRg g.calm (gl_of g h1) (g.blt _ (by decide +kernel)) (prg_1 (gl_of g h3) (g.blt _ (by decide +kernel)) ia.pv (star_of hs)) rfl).imp fun _ _ _ z => r_rng h5 z) (fun _ => rfl) rfl
      · cases h2
    · cases h
  | .cnt a x, X, W, sc, t, g, tk, h => by
    simp only [chkE] at h
    split at h
    · rename_i o m apos y pos q
      have := asMeth_eq q
      subst this
      unfold methB at h
      simp only [Bool.and_eq_true, decide_eq_true_eq] at h
      obtain ⟨⟨rfl, hl, hc0, _⟩, h2, h3, h4, h5⟩ := h
      have ia := snd_E a g tk h2
      have ix := snd_E x g tk h4
      have hs := (good_of (chk_good h4)).1
      refine SE.of g.K ((pe_bm PySem.F.plainAttrs_list PySem.F.slot_list_count PySem.F.type_list_count mt_lcount ia.pv (pa_cons ix.pv pa_nil (star_of hs)) (base_of hc0 _) ?_ hl (star_of hs) rfl).imp fun _ _ _ z => by rw [g.K]; exact r_cnt h3 h5 z) (fun z => by cases z) (fun _ => rfl) rfl
      rw [back_all (by rw [List.all_cons, hs]; rfl)]; rfl
    · cases h
  | .idx a x, X, W, sc, t, g, tk, h => by
    simp only [chkE] at h
    split at h
    · rename_i o m apos y pos q
      have := asMeth_eq q
      subst this
      unfold methB at h
      simp only [Bool.and_eq_true, decide_eq_true_eq] at h
      obtain ⟨⟨rfl, hl, hc0, _⟩, h2, h3, h4, h5⟩ := h
      have ia := snd_E a g tk h2
      have ix := snd_E x g tk h4
      have hs := (good_of (chk_good h4)).1
      refine SE.of g.K ((pe_bm PySem.F.plainAttrs_list PySem.F.slot_list_index PySem.F.type_list_index (mt_indexD (units_of g)) ia.pv (pa_cons ix.pv pa_nil (star_of hs)) (base_of hc0 _) ?_ hl (star_of hs) rfl).imp fun _ _ _ z => by rw [g.K]; exact r_idx h3 h5 z) (fun z => by cases z) (fun _ => rfl) rfl
      rw [back_all (by rw [List.all_cons, hs]; rfl)]; rfl
    · cases h
  | .get d kx x, X, W, sc, t, g, tk, h => by
    simp only [chkE] at h
    split at h
    · rename_i o m apos y z pos q
      have := asMeth_eq q
      subst this
      unfold methB at h
      simp only [Bool.and_eq_true, decide_eq_true_eq] at h
      obtain ⟨⟨rfl, hl, hc0, _⟩, h2, h3, h4, h5, h6, h7⟩ := h
      have id_ := snd_E d g tk h2
      have ik := snd_E kx g tk h4
      have ix := snd_E x g tk h6
      have hs1 := (good_of (chk_good h4)).1
      have hs2 := (good_of (chk_good h6)).1
      have hu := units_of g
      have ht : backTo pos (starEach [y, z] X.env) = [(false, eval y X.env), (false, eval z X.env)] := by
        rw [star_of hs1, star_of hs2]; rfl
      refine SE.of g.K ((pe_getN (by omega) id_.pv ik.pv ix.pv ⟨base_of hc0 _, by rw [ht]; rfl, hl, ht⟩).imp fun _ _ _ z => ?_) (fun z => by cases z) (fun _ => rfl) rfl
      rw [g.W]
      exact r_get h3 h5 h7 z
    · cases h
  | .ix a i, X, W, sc, t, g, tk, h => by
    simp only [chkE] at h
    split at h
    · rename_i x y pos q
      have := asSub_eq q
      subst this
      simp only [Bool.and_eq_true, decide_eq_true_eq] at h
      obtain ⟨h1, h2, h3⟩ := h
      have ia := snd_E a g tk h1
      have ii := snd_E i g tk h2
      have hr := rIxA_ok (X := X) (by have := units_of g; omega)
      rw [g.K, g.W] at hr
      exact SE.of g.K ((pe_ix hr ia.pv ii.pv (plainIx_of (good_of (chk_good h2)).2.1)).imp fun _ _ _ z => r_ix h3 z) (fun z => by cases z) (fun _ => rfl) rfl
    · cases h
  | .sl a lo hi, X, W, sc, t, g, tk, h => by
    simp only [chkE] at h
    split at h
    · rename_i x l hh p2 pos q
      have := asSlice_eq q
      subst this
      simp only [Bool.and_eq_true, decide_eq_true_eq] at h
      obtain ⟨h1, h2, h3, h4⟩ := h
      have ia := snd_E a g tk h1
      have hr := rSlc_ok (X := X)
      rw [g.K] at hr
      exact SE.ofN g.K ((pe_slice hr ia.pv (snd_O lo g tk h3) (snd_O hi g tk h4)).imp fun _ _ _ z => r_sl h2 z) (fun _ => rfl) rfl
    · cases h
  | .rev a, X, W, sc, t, g, tk, h => by
    simp only [chkE] at h
    split at h
    · rename_i q
      have := asRev_eq q
      subst this
      simp only [Bool.and_eq_true, decide_eq_true_eq] at h
      exact SE.ofN g.K ((pe_revA (snd_E a g tk h.1).pv).imp fun _ _ _ z => by rw [g.K]; exact r_rev h.2 z) (fun _ => rfl) rfl
    · cases h
  | .comp p it d e, X, W, sc, t, g, tk, h => by
    simp only [chkE] at h
    split at h
    · rename_i elt tg iter ifs scope pos q
      have := asComp_eq q
      subst this
      simp only [Bool.and_eq_true, decide_eq_true_eq] at h
      obtain ⟨h1, h2, h3, h4, h5, h6, h7⟩ := h
      refine SE.ofN g.K ((pe_lc g.calm (by rw [g.N]; exact g.nd) (snd_I it g tk h1) (blkOk_by (own := ownOf c p) (by rw [g.N, g.sc]; exact h3))
        (fun s H C cl fp => pg_pat (P := P) (c := c) (sc := scope) g.K g.calm g.N g.nd (Sto.blk g s H scope C cl fp) h2)
        (fun s H C cl fp => snd_C d (g.blk s H scope C cl fp) (takes_blk s H scope _ fp) h4)
        (fun s H C cl fp => lev0 h6 (snd_E e (g.blk s H scope C cl fp) (takes_blk s H scope _ fp) h5).pv)
        (fun x => folded_of h7 x)).imp fun _ _ _ z => ?_) (fun _ => rfl) rfl
      rw [own_snd]
      exact r_comp z
    · cases h
theorem snd_Es : ∀ (es : Es) {X : Cx} {W : WX} {sc : Scope} {xs : List Expr}, Gd P G c sc X → Takes X W → chkEs c sc es xs = true → PA X xs (tX P W (evs G es) (RA P))
  | .nil, X, W, sc, xs, g, tk, h => by
    cases xs with
    | nil => exact pa_nilX
    | cons _ _ => simp [chkEs] at h
  | .cons e es, X, W, sc, xs, g, tk, h => by
    cases xs with
    | nil => simp [chkEs] at h
    | cons x xs =>
      simp only [chkEs, Bool.and_eq_true, decide_eq_true_eq] at h
      exact pa_consX (lev0 h.2.1 (snd_E e g tk h.1).pv) (snd_Es es g tk h.2.2) (good_of (chk_good h.1)).1
theorem snd_B : ∀ (es : Es) {X : Cx} {W : WX} {sc : Scope} {bw : List Bool} {xs : List Expr}, Gd P G c sc X → Takes X W → chkB c sc bw es xs = true → PA X xs (tX P W (evs G es) (RL P bw))
  | .nil, X, W, sc, bw, xs, g, tk, h => by
    cases bw <;> cases xs <;> first | exact pb_nilX | (simp [chkB] at h; done)
  | .cons e es, X, W, sc, bw, xs, g, tk, h => by
    cases bw with
    | nil => simp [chkB] at h
    | cons b bw =>
      cases xs with
      | nil => simp [chkB] at h
      | cons x xs =>
        simp only [chkB, Bool.and_eq_true, decide_eq_true_eq] at h
        exact pb_consX (snd_E e g tk h.1).pv h.2.1 (snd_B es g tk h.2.2) (good_of (chk_good h.1)).1
theorem snd_O : ∀ (o : Eo) {X : Cx} {W : WX} {sc : Scope} {x : Option Expr}, Gd P G c sc X → Takes X W → chkO c sc o x = true → PO X x (tX P W (evO G o) RO)
  | .none, X, W, sc, x, g, tk, h => by
    cases x with
    | none => exact po_none.imp fun _ _ _ z => r_nopart z
    | some _ => simp [chkO] at h
  | .some e, X, W, sc, x, g, tk, h => by
    cases x with
    | none => simp [chkO] at h
    | some x =>
      simp only [chkO, Bool.and_eq_true, decide_eq_true_eq] at h
      exact (po_some (snd_E e g tk h.1).pv).imp fun _ _ _ z => r_part h.2 z
theorem snd_C : ∀ (o : Eo) {X : Cx} {W : WX} {sc : Scope} {x : List Expr}, Gd P G c sc X → Takes X W → chkC c sc o x = true → PTs X x (tX P W (evC G o) RB)
  | .none, X, W, sc, x, g, tk, h => by
    cases x with
    | nil => exact pts_nil.imp fun σ H Q z => rb_true (show tX P W (fun _ => ret (.bl true)) RB σ H Q from z)
    | cons _ _ => simp [chkC] at h
  | .some e, X, W, sc, x, g, tk, h => by
    cases x with
    | nil => simp [chkC] at h
    | cons x xs =>
      cases xs with
      | nil =>
        simp only [chkC] at h
        exact (pts_one (snd_E e g tk h).pt).imp fun σ H Q z => z
      | cons _ _ => simp [chkC] at h
theorem snd_I : ∀ (o : It) {X : Cx} {W : WX} {sc : Scope} {tg x : Expr}, Gd P G c sc X → Takes X W → chkI c sc o x tg = true → PI X tg x (tX P W (evI G o) (RI P))
  | .seq e, X, W, sc, tg, x, g, tk, h => by
    simp only [chkI, Bool.and_eq_true, decide_eq_true_eq] at h
    exact (pi_seqA (snd_E e g tk h.1).pv).imp fun _ _ _ z => by rw [g.K]; exact r_seq h.2 z
  | .rng1 a, X, W, sc, tg, x, g, tk, h => by
    simp only [chkI] at h
    split at h
    · rename_i n _ y pos q
      have := asCall_eq q
      subst this
      simp only [Bool.and_eq_true, decide_eq_true_eq] at h
      obtain ⟨rfl, h1, h2, h3⟩ := h
      have hs := (good_of (chk_good h2)).1
      exact (pi_range1 (gl_of g h1) (g.blt _ (by decide +kernel)) (pa_cons (snd_E a g tk h2).pv pa_nil (star_of hs)) (by rw [star_of hs]; rfl)).imp fun _ _ _ z => r_rng1 h3 z
    · cases h
  | .rng2 a b, X, W, sc, tg, x, g, tk, h => by
    simp only [chkI] at h
    split at h
    · rename_i n _ y z pos q
      have := asCall_eq q
      subst this
      simp only [Bool.and_eq_true, decide_eq_true_eq] at h
      obtain ⟨rfl, h1, h2, h3, h4, h5⟩ := h
      have hs := (good_of (chk_good h2)).1
      have hs2 := (good_of (chk_good h4)).1
      exact (pi_range2 (gl_of g h1) (g.blt _ (by decide +kernel)) (pa_cons (snd_E a g tk h2).pv (pa_cons (snd_E b g tk h4).pv pa_nil (star_of hs2)) (star_of hs)) (by rw [star_of hs, star_of hs2]; rfl) (by rw [star_of hs2]; rfl)).imp fun _ _ _ z => r_rng2 h3 h5 z
    · cases h
  | .enum e, X, W, sc, tg, x, g, tk, h => by
    simp only [chkI] at h
    split at h
    · rename_i n _ y pos q
      have := asCall_eq q
      subst this
      simp only [Bool.and_eq_true, decide_eq_true_eq] at h
      obtain ⟨rfl, h1, h2, h3, h4⟩ := h
      have hs := (good_of (chk_good h2)).1
      obtain ⟨es, kk, tp, rfl⟩ : ∃ es k pos, tg = .Tuple es k pos := by
        unfold isTupE at h4
        cases q2 : asTup tg with
        | none => rw [q2] at h4; cases h4
        | some r => exact ⟨_, _, _, asTup_eq q2⟩
      exact (pi_enumA (gl_of g h1) (g.blt _ (by decide +kernel)) (pa_cons (snd_E e g tk h2).pv pa_nil (star_of hs)) (by rw [star_of hs]; rfl)).imp fun _ _ _ z => by rw [g.K]; exact r_enum h3 z
    · cases h
  | .zip _ _, X, W, sc, tg, x, g, tk, h => by simp [chkI] at h
  | .keys e, X, W, sc, tg, x, g, tk, h => by
    simp only [chkI] at h
    split at h
    · rename_i o m apos pos q
      have := asMeth0_eq q
      subst this
      unfold meth0B at h
      simp only [Bool.and_eq_true, decide_eq_true_eq] at h
      obtain ⟨⟨rfl, hl, hc0⟩, h3, h4⟩ := h
      exact (pi_keysN (snd_E e g tk h3).pv (base_of hc0 _) hl).imp fun _ _ _ z => r_keys h4 z
    · cases h
  | .vals e, X, W, sc, tg, x, g, tk, h => by
    simp only [chkI] at h
    split at h
    · rename_i o m apos pos q
      have := asMeth0_eq q
      subst this
      unfold meth0B at h
      simp only [Bool.and_eq_true, decide_eq_true_eq] at h
      obtain ⟨⟨rfl, hl, hc0⟩, h3, h4⟩ := h
      exact (pi_valsN (snd_E e g tk h3).pv (base_of hc0 _) hl).imp fun _ _ _ z => r_vals h4 z
    · cases h
end
end
end VI

set_option Elab.async false
set_option linter.all false
set_option maxRecDepth 100000
set_option maxHeartbeats 1000000
/-! VI, part 13: slots changed by statements. -/
namespace VI
open PySem L2
section
variable {P : Pm} {W : WX} {os os' os1 : List Addr} {Z Z' Z1 H H' H1 : Hp} {w w' : Wd} {env env' : Env} {ad ad' : Nat → List Addr} {B : Addr → Prop} {σ σ' : Stt} {a p : Addr} {o : HO}
theorem Rows.congr {dss : List (List D)} {bs : List Addr} (h : ∀ b ∈ bs, H' b = H b) (r : Rows P os Z H dss bs) : Rows P os Z H' dss bs := by
  unfold Rows at *
  induction r with
  | nil => exact .nil
  | cons q _ ih =>
    obtain ⟨vs, h1, h2⟩ := q
    exact .cons ⟨vs, by rw [h _ List.mem_cons_self]; exact h1, h2⟩ (ih fun b hb => h b (List.mem_cons_of_mem _ hb))
theorem Rows.mono {dss : List (List D)} {bs : List Addr} (lz : Le Z Z') (r : Rows P os Z H dss bs) : Rows P os Z' H dss bs := by
  unfold Rows at *
  induction r with
  | nil => exact .nil
  | cons q _ ih =>
    obtain ⟨vs, h1, h2⟩ := q
    exact .cons ⟨vs, h1, h2.mono lz Ext.refl⟩ ih
theorem SlotR.congr {as : List Addr} (hB : ∀ b, B b → b ∉ os → H' b = H b) (h : ∀ b ∈ as, H' b = H b) {s : Sl} {q : Option (Option V)} (r : SlotR P B os Z H as s q) : SlotR P B os Z H' as s q := by
  cases s with
  | no => trivial
  | fz d => exact r
  | ow ds =>
    obtain ⟨a, vs, e, e2, hh, rr⟩ := r
    exact ⟨a, vs, e, e2, by rw [h a (by simp [e2])]; exact hh, rr⟩
  | ow2 dss =>
    obtain ⟨a, bs, e, e2, hh, rr⟩ := r
    exact ⟨a, bs, e, e2, by rw [h a (by simp [e2])]; exact hh, rr.congr fun b hb => h b (by simp [e2, hb])⟩
  | od kvs =>
    obtain ⟨a, e, e2, rr⟩ := r
    exact ⟨a, e, e2, rr.step Le.refl Ext.refl fun o hh => by rw [h a (by simp [e2])]; exact hh⟩
  | bo ds =>
    obtain ⟨a, vs, e, na, b, hh, rr⟩ := r
    exact ⟨a, vs, e, na, b, by rw [hB a b na]; exact hh, rr⟩
theorem SlotR.mono {as : List Addr} (lz : Le Z Z') {s : Sl} {q : Option (Option V)} (r : SlotR P B os Z H as s q) : SlotR P B os Z' H as s q := by
  cases s with
  | no => trivial
  | fz d =>
    obtain ⟨v, e, rr⟩ := r
    exact ⟨v, e, Rep.mono lz Ext.refl rr⟩
  | ow ds =>
    obtain ⟨a, vs, e, e2, hh, rr⟩ := r
    exact ⟨a, vs, e, e2, hh, rr.mono lz Ext.refl⟩
  | ow2 dss =>
    obtain ⟨a, bs, e, e2, hh, rr⟩ := r
    exact ⟨a, bs, e, e2, hh, rr.mono lz⟩
  | od kvs =>
    obtain ⟨a, e, e2, rr⟩ := r
    exact ⟨a, e, e2, rr.step lz Ext.refl fun o hh => hh⟩
  | bo ds =>
    obtain ⟨a, vs, e, na, b, hh, rr⟩ := r
    exact ⟨a, vs, e, na, b, hh, rr.mono lz Ext.refl⟩
/-- one of a slot's own objects is changed -/
theorem Slots.updAt (k : Slots P B env σ ad os Z H) {i : Nat} {s : Sl} (ha : a ∈ ad i) (hs : SlotR P B os Z (upd H a o) (ad i) s σ[i]?) : Slots P B (env.set i s) σ ad os Z (upd H a o) := by
  refine ⟨by simp [k.len], fun j x e => ?_, fun j b hb => ?_, k.dis, k.nd⟩
  · by_cases hj : i = j
    · subst hj
      by_cases hi : i < env.length
      · rw [List.getElem?_set_self hi] at e
        cases e
        exact hs
      · rw [List.getElem?_eq_none (by simpa using hi)] at e; cases e
    · rw [List.getElem?_set_ne hj] at e
      exact (k.at_ j x e).congr (fun b hb _ => upd_ne (show b ≠ a from fun z => (k.own i a ha).2.2.2 (z ▸ hb))) fun b hb => upd_ne (show b ≠ a from fun z => hj (k.dis i j a ha (by rw [← z]; exact hb)))
  · obtain ⟨h1, h2, h3, h4⟩ := k.own j b hb
    refine ⟨h1, h2, ?_, h4⟩
    by_cases e : b = a
    · rw [e, upd_same]; intro z; cases z
    · rw [upd_ne e]; exact h3
/-- a slot is given objects of its own -/
theorem Slots.give (k : Slots P B env σ ad os Z H) (i : Nat) {s : Sl} {v : V} {as : List Addr} (hs : SlotR P B os Z H as s (some (some v))) (own : ∀ a ∈ as, a ∉ os ∧ Z a = none ∧ H a ≠ none ∧ ¬ B a) (nd : as.Nodup) (nw : ∀ a ∈ as, ∀ j, j ≠ i → a ∉ ad j) :
    Slots P B (env.set i s) (σ.set i (some v)) (fun j => if j = i then as else ad j) os Z H := by
  refine ⟨by simp [k.len], fun j x e => ?_, fun j a ha => ?_, fun j l a h1 h2 => ?_, fun j => ?_⟩
  · by_cases hj : i = j
    · subst hj
      by_cases hi : i < env.length
      · rw [List.getElem?_set_self hi] at e
        cases e
        rw [List.getElem?_set_self (by rw [k.len]; exact hi)]
        simp only [if_true]
        exact hs
      · rw [List.getElem?_eq_none (by simpa using hi)] at e; cases e
    · rw [List.getElem?_set_ne hj] at e ⊢
      simp only [if_neg (Ne.symm hj)]
      exact k.at_ j x e
  · by_cases hj : j = i
    · rw [if_pos hj] at ha; exact own a ha
    · rw [if_neg hj] at ha; exact k.own j a ha
  · by_cases hj : j = i
    · rw [if_pos hj] at h1
      by_cases hl : l = i
      · exact hj.trans hl.symm
      · rw [if_neg hl] at h2
        exact absurd h2 (nw a h1 l hl)
    · rw [if_neg hj] at h1
      by_cases hl : l = i
      · rw [if_pos hl] at h2
        exact absurd h1 (nw a h2 j hj)
      · rw [if_neg hl] at h2; exact k.dis j l a h1 h2
  · by_cases hj : j = i
    · simp only [if_pos hj]; exact nd
    · simp only [if_neg hj]; exact k.nd j
/-- a slot's own objects are nobody's from now on -/
theorem Slots.freeze (k : Slots P B env σ ad os Z H) {i : Nat} {s : Sl} (lz : Le Z Z') (hz : ∀ b, b ∉ ad i → Z b = none → Z' b = none) (hs : SlotR P B os Z' H [] s σ[i]?) :
    Slots P B (env.set i s) σ (fun j => if j = i then [] else ad j) os Z' H := by
  refine ⟨by simp [k.len], fun j x e => ?_, fun j a ha => ?_, fun j l a h1 h2 => ?_, fun j => ?_⟩
  · by_cases hj : i = j
    · subst hj
      by_cases hi : i < env.length
      · rw [List.getElem?_set_self hi] at e
        cases e
        simp only [if_true]
        exact hs
      · rw [List.getElem?_eq_none (by simpa using hi)] at e; cases e
    · rw [List.getElem?_set_ne hj] at e
      simp only [if_neg (Ne.symm hj)]
      exact (k.at_ j x e).mono lz
  · by_cases hj : j = i
    · rw [if_pos hj] at ha; cases ha
    · rw [if_neg hj] at ha
      obtain ⟨h1, h2, h3, h4⟩ := k.own j a ha
      exact ⟨h1, hz a (fun z => hj (k.dis j i a ha z)) h2, h3, h4⟩
  · by_cases hj : j = i
    · rw [if_pos hj] at h1; cases h1
    · rw [if_neg hj] at h1
      by_cases hl : l = i
      · rw [if_pos hl] at h2; cases h2
      · rw [if_neg hl] at h2; exact k.dis j l a h1 h2
  · by_cases hj : j = i
    · simp [hj]
    · simp only [if_neg hj]; exact k.nd j
/-- all of some objects for good -/
theorem freeze_rows : ∀ {dss : List (List D)} {bs : List Addr} {Z : Hp}, Ok P os w Z H → (∀ b ∈ bs, b ∉ os ∧ Z b = none) → bs.Nodup → Rows P os Z H dss bs →
    ∃ Z', Ok P os w Z' H ∧ Le Z Z' ∧ (∀ b, b ∉ bs → Z b = none → Z' b = none) ∧ Reps P os Z' (dss.map .lst) (bs.map V.ref)
  | [], bs, Z, k, hb, nd, r => by
    cases r
    exact ⟨Z, k, Le.refl, fun _ _ h => h, reps_nil⟩
  | ds :: dss, bs, Z, k, hb, nd, r => by
    cases r with
    | cons q t =>
      rename_i b bs
      obtain ⟨vs, h1, h2⟩ := q
      obtain ⟨n1, z1⟩ := hb b List.mem_cons_self
      obtain ⟨k2, lz⟩ := k.freeze h1 n1 z1
      have nd2 := List.nodup_cons.mp nd
      obtain ⟨Z', k3, lz2, hz, rr⟩ := freeze_rows (Z := upd Z b (.lst vs)) k2 (fun c hc => ⟨(hb c (List.mem_cons_of_mem _ hc)).1, by
        rw [upd_ne (show c ≠ b from fun e => nd2.1 (e ▸ hc))]; exact (hb c (List.mem_cons_of_mem _ hc)).2⟩) nd2.2 (Rows.mono lz t)
      refine ⟨Z', k3, lz.trans lz2, fun c hc hz' => ?_, ?_⟩
      · have c1 : c ≠ b := fun e => hc (by simp [e])
        exact hz c (fun z => hc (List.mem_cons_of_mem _ z)) (by rw [upd_ne c1]; exact hz')
      · refine reps_cons ?_ rr
        unfold Rep
        exact ⟨b, vs, rfl, lz2 _ _ upd_same, h2.mono (lz.trans lz2) Ext.refl⟩
theorem Step.zchange (s : Step B os Z H os' Z' H') {Z2 : Hp} (lz : Le Z' Z2) (hz : ∀ b, B b → Z' b = none → Z2 b = none) : Step B os Z H os' Z2 H' :=
  ⟨s.keep, s.there, s.zle.trans lz, fun a b h => hz a b (s.zkeep a b h), s.ext⟩
/-- a slot for good -/
theorem freeze_slot (k : Ok P os w Z H) (sl : Slots P B env σ ad os Z H) (i : Nat) : ∃ Z' ad', Ok P os w Z' H ∧ Step B os Z H os Z' H ∧ Slots P B (freeze1 env i) σ ad' os Z' H := by
  unfold freeze1
  cases q : env[i]? with
  | none => exact ⟨Z, ad, k, Step.refl, sl⟩
  | some s =>
    have q2 := sl.at_ i s q
    cases s with
    | no =>
      refine ⟨Z, _, k, Step.refl, sl.freeze (i := i) (s := Sl.freeze .no) Le.refl (fun _ _ h => h) ?_⟩
      show SlotR P B os Z H [] .no _
      trivial
    | fz d =>
      refine ⟨Z, _, k, Step.refl, sl.freeze (i := i) (s := Sl.freeze (.fz d)) Le.refl (fun _ _ h => h) ?_⟩
      exact q2
    | ow ds =>
      obtain ⟨a, vs, e, e2, hh, r⟩ := q2
      obtain ⟨n1, z1, _, b1⟩ := sl.own i a (by simp [e2])
      obtain ⟨k2, lz⟩ := k.freeze hh n1 z1
      have hz : ∀ b, b ∉ ad i → Z b = none → (upd Z a (.lst vs)) b = none := fun b hb h => by
        rw [upd_ne (show b ≠ a from fun e => hb (by simp [e2, e]))]; exact h
      refine ⟨_, _, k2, Step.refl.zchange lz fun b hb h => hz b (fun z => (sl.own i b z).2.2.2 hb) h, sl.freeze (i := i) (s := Sl.freeze (.ow ds)) lz hz ⟨.ref a, e, ?_⟩⟩
      unfold Rep
      exact ⟨a, vs, rfl, upd_same, r.mono lz Ext.refl⟩
    | ow2 dss =>
      obtain ⟨a, bs, e, e2, hh, r⟩ := q2
      have nd := sl.nd i
      rw [e2] at nd
      have nd2 := List.nodup_cons.mp nd
      obtain ⟨Z1, k1, lz1, hz1, rr⟩ := freeze_rows k (fun b hb => ⟨(sl.own i b (by simp [e2, hb])).1, (sl.own i b (by simp [e2, hb])).2.1⟩) nd2.2 r
      obtain ⟨n1, z1, _, b1⟩ := sl.own i a (by simp [e2])
      have z2 : Z1 a = none := hz1 a nd2.1 z1
      obtain ⟨k2, lz⟩ := k1.freeze hh n1 z2
      have hz : ∀ b, b ∉ ad i → Z b = none → (upd Z1 a (.lst (bs.map V.ref))) b = none := fun b hb h => by
        rw [e2] at hb
        simp only [List.mem_cons, not_or] at hb
        rw [upd_ne hb.1]; exact hz1 b hb.2 h
      refine ⟨_, _, k2, Step.refl.zchange (lz1.trans lz) fun b hb h => hz b (fun z => (sl.own i b z).2.2.2 hb) h, sl.freeze (i := i) (s := Sl.freeze (.ow2 dss)) (lz1.trans lz) hz ⟨.ref a, e, ?_⟩⟩
      unfold Rep
      exact ⟨a, _, rfl, upd_same, rr.mono lz Ext.refl⟩
    | od kvs =>
      obtain ⟨a, e, e2, es, ep, qs, hh, hr, ht⟩ := q2
      obtain ⟨n1, z1, _, b1⟩ := sl.own i a (by simp [e2])
      obtain ⟨k2, lz⟩ := k.freeze hh n1 z1
      have hz : ∀ b, b ∉ ad i → Z b = none → (upd Z a (dRaw a es ep)) b = none := fun b hb h => by
        rw [upd_ne (show b ≠ a from fun e => hb (by simp [e2, e]))]; exact h
      refine ⟨_, _, k2, Step.refl.zchange lz fun b hb h => hz b (fun z => (sl.own i b z).2.2.2 hb) h, sl.freeze (i := i) (s := Sl.freeze (.od kvs)) lz hz ⟨.ref a, e, ?_⟩⟩
      exact DctR.rep ⟨es, ep, qs, upd_same, hr.mono lz, paired_imp (fun _ _ => RepK.mono lz Ext.refl) ht⟩
    | bo ds =>
      refine ⟨Z, _, k, Step.refl, sl.freeze (i := i) (s := Sl.freeze (.bo ds)) Le.refl (fun _ _ h => h) ?_⟩
      show SlotR P B os Z H [] .no _
      trivial
theorem freeze_slots : ∀ (is : List Nat) {env : Env} {Z : Hp} {ad : Nat → List Addr}, Ok P os w Z H → Slots P B env σ ad os Z H → ∃ Z' ad', Ok P os w Z' H ∧ Step B os Z H os Z' H ∧ Slots P B (freezeAll env is) σ ad' os Z' H
  | [], env, Z, ad, k, sl => ⟨Z, ad, k, Step.refl, sl⟩
  | i :: is, env, Z, ad, k, sl => by
    obtain ⟨Z1, ad1, k1, s1, sl1⟩ := freeze_slot k sl i
    obtain ⟨Z2, ad2, k2, s2, sl2⟩ := freeze_slots is k1 sl1
    exact ⟨Z2, ad2, k2, s1.trans s2, sl2⟩
/-- a list of lists, its rows for good -/
theorem freeze_inner (k : Ok P os w Z H) (sl : Slots P B env σ ad os Z H) {i : Nat} {dss : List (List D)} (q : env[i]? = some (.ow2 dss)) : ∃ Z' ad', Ok P os w Z' H ∧ Step B os Z H os Z' H ∧ Slots P B (env.set i (.ow (dss.map .lst))) σ ad' os Z' H := by
  obtain ⟨a, bs, e, e2, hh, r⟩ := sl.at_ i _ q
  have nd := sl.nd i
  rw [e2] at nd
  have nd2 := List.nodup_cons.mp nd
  obtain ⟨Z1, k1, lz1, hz1, rr⟩ := freeze_rows k (fun b hb => ⟨(sl.own i b (by simp [e2, hb])).1, (sl.own i b (by simp [e2, hb])).2.1⟩) nd2.2 r
  obtain ⟨n1, z1, t1, b1⟩ := sl.own i a (by simp [e2])
  have z2 : Z1 a = none := hz1 a nd2.1 z1
  refine ⟨Z1, fun j => if j = i then [a] else ad j, k1, Step.refl.zchange lz1 fun b hb h => hz1 b (fun z => (sl.own i b (by simp [e2, z])).2.2.2 hb) h, ?_⟩
  refine ⟨by simp [sl.len], fun j x ee => ?_, fun j b hb => ?_, fun j l b h1 h2 => ?_, fun j => ?_⟩
  · by_cases hj : i = j
    · subst hj
      by_cases hi : i < env.length
      · rw [List.getElem?_set_self hi] at ee
        cases ee
        exact ⟨a, _, e, by simp, hh, rr⟩
      · rw [List.getElem?_eq_none (by simpa using hi)] at ee; cases ee
    · rw [List.getElem?_set_ne hj] at ee
      simp only [if_neg (Ne.symm hj)]
      exact (sl.at_ j x ee).mono lz1
  · by_cases hj : j = i
    · rw [if_pos hj] at hb
      rcases List.mem_singleton.mp hb with rfl
      exact ⟨n1, z2, t1, b1⟩
    · rw [if_neg hj] at hb
      obtain ⟨h1, h2, h3, h4⟩ := sl.own j b hb
      refine ⟨h1, hz1 b (fun z => hj ?_) h2, h3, h4⟩
      exact sl.dis j i b hb (by simp [e2, z])
  · by_cases hj : j = i
    · rw [if_pos hj] at h1
      rcases List.mem_singleton.mp h1 with rfl
      by_cases hl : l = i
      · exact hj.trans hl.symm
      · rw [if_neg hl] at h2
        exact absurd (sl.dis l i _ h2 (by simp [e2])) hl
    · rw [if_neg hj] at h1
      by_cases hl : l = i
      · rw [if_pos hl] at h2
        rcases List.mem_singleton.mp h2 with rfl
        exact absurd (sl.dis j i _ h1 (by simp [e2])) hj
      · rw [if_neg hl] at h2; exact sl.dis j l b h1 h2
  · by_cases hj : j = i
    · simp [hj]
    · simp only [if_neg hj]; exact sl.nd j
end
end VI

set_option Elab.async false
set_option linter.all false
set_option maxRecDepth 100000
set_option maxHeartbeats 1000000
/-! VI, part 14: readings of statements. -/
namespace VI
open PySem L2
def OutS (P : Pm) (W : WX) (B : Addr → Prop) (os : List Addr) (Z H : Hp) (R : Res Flow) (D : Ends) : Prop := match R with
  | .ok (.nx env') w' => ∀ σ' os' Z' H' ad', Step B os Z H os' Z' H' → Ok P os' w' Z' H' → Slots P B env' σ' ad' os' Z' H' → D.nx σ' H'
  | .ok (.bk env') w' => ∀ σ' os' Z' H' ad', Step B os Z H os' Z' H' → Ok P os' w' Z' H' → Slots P B env' σ' ad' os' Z' H' → D.bk σ' H'
  | .ok (.rt d) w' => ∀ v os' Z' H', Step B os Z H os' Z' H' → Ok P os' w' Z' H' → Rep P os' Z' d v → D.rt v H'
  | .exn c f w' => ∀ σ' os' Z' H' cls dd, Step B os Z H os' Z' H' → Ok P os' w' Z' H' → ExR P os' Z' H' c f cls dd → W cls dd σ' H'
  | .no => False
def tS (P : Pm) (W : WX) (m : Env → M Flow) : TS := fun D σ H => ∃ os Z w env ad B, Ok P os w Z H ∧ Slots P B env σ ad os Z H ∧ (∀ a, B a → H a ≠ none) ∧ OutS P W B os Z H (m env w) D
section
variable {P : Pm} {W : WX} {G : Glo} {os os' os1 : List Addr} {Z Z' Z1 H H' H1 : Hp} {w w' : Wd} {env env' : Env} {ad ad' : Nat → List Addr} {B : Addr → Prop} {σ σ' : Stt} {D : Ends} {α : Type}
theorem OutS.base {R : Res Flow} (s : Step B os Z H os1 Z1 H1) (h : OutS P W B os Z H R D) : OutS P W B os1 Z1 H1 R D := by
  cases R with
  | ok fl w =>
    cases fl with
    | nx e => exact fun σ' os' Z' H' ad' t k sl => h σ' os' Z' H' ad' (s.trans t) k sl
    | bk e => exact fun σ' os' Z' H' ad' t k sl => h σ' os' Z' H' ad' (s.trans t) k sl
    | rt d => exact fun v os' Z' H' t k r => h v os' Z' H' (s.trans t) k r
  | exn c f w => exact fun σ' os' Z' H' cls dd t k x => h σ' os' Z' H' cls dd (s.trans t) k x
  | no => exact h
theorem OutS.expr {m : M α} {f : α → M Flow} (hB : ∀ a, B a → H a ≠ none) (h : OutS P W B os Z H (bnd m f w) D) : Out P W σ os Z H (m w) fun a w1 os1 Z1 H1 => OutS P W B os1 Z1 H1 (f a w1) D := by
  unfold VI.bnd at h
  cases q : m w with
  | ok a w1 =>
    rw [q] at h
    exact fun os1 Z1 H1 s _ => OutS.base (s.sub hB) h
  | exn c f w1 =>
    rw [q] at h
    exact fun os1 Z1 H1 cls dd s k x => h σ os1 Z1 H1 cls dd (s.sub hB) k x
  | no => rw [q] at h; exact h
theorem OutS.lft {x : Option α} {f : α → M Flow} (h : OutS P W B os Z H (bnd (VI.lft x) f w) D) : ∃ a, x = some a ∧ OutS P W B os Z H (f a w) D := by
  cases x with
  | none => exact h.elim
  | some a => exact ⟨a, rfl, h⟩
theorem Bex {a : Addr} (hB : ∀ a, B a → H a ≠ none) (s : Step (Ex H) os Z H os1 Z1 H1) : ∀ a, B a → H1 a ≠ none := fun a b => s.there a (hB a b)
theorem BexB {a : Addr} (hB : ∀ a, B a → H a ≠ none) (s : Step B os Z H os1 Z1 H1) : ∀ a, B a → H1 a ≠ none := fun a b => s.there a (hB a b)
/-! name = e -/
theorem r_set {i : Nat} {e : E} (he : lev e = 0) (h : tS P W (exec G (.set i e)) D σ H) : tAsg (tX P W (ev G e .v) (RV P (lev e))) (gName i) D σ H := by
  obtain ⟨os, Z, w, env, ad, B, k, sl, hB, h⟩ := h
  refine tX_intro k sl (OutS.expr hB h) fun d w1 os1 Z1 H1 v s1 k1 sl1 r h1 => ?_
  rw [he] at r
  exact h1 _ _ _ _ _ Step.refl k1 (sl1.setFz i r)
theorem r_own {i : Nat} {e : E} (h : tS P W (exec G (.own i e)) D σ H) : tAsg (tX P W (ev G e .v) (RN P)) (gName i) D σ H := by
  obtain ⟨os, Z, w, env, ad, B, k, sl, hB, h⟩ := h
  refine tX_intro k sl (OutS.expr hB h) fun d w1 os1 Z1 H1 v s1 k1 sl1 r h1 => ?_
  obtain ⟨s, e1, h2⟩ := OutS.lft h1
  cases d <;> first | (cases e1; done) | skip
  case lst ds =>
    cases e1
    obtain ⟨a, vs, rfl, h0, na, hz, hh, rr⟩ := r
    have nb : ¬ B a := fun z => hB a z h0
    refine h2 _ _ _ _ _ Step.refl k1 (sl1.give (as := [a]) i ⟨a, vs, rfl, rfl, hh, rr⟩ (fun b hb => ?_) (by simp) fun b hb j hj z => ?_)
    · rcases List.mem_singleton.mp hb with rfl
      exact ⟨na, hz, by rw [hh]; (intro z; cases z), nb⟩
    · rcases List.mem_singleton.mp hb with rfl
      exact (sl.own j b z).2.2.1 h0
  case dct kvs =>
    cases e1
    obtain ⟨a, rfl, h0, na, hz, rr⟩ := r
    have nb : ¬ B a := fun z => hB a z h0
    refine h2 _ _ _ _ _ Step.refl k1 (sl1.give (as := [a]) i ⟨a, rfl, rfl, rr⟩ (fun b hb => ?_) (by simp) fun b hb j hj z => ?_)
    · rcases List.mem_singleton.mp hb with rfl
      exact ⟨na, hz, rr.there, nb⟩
    · rcases List.mem_singleton.mp hb with rfl
      exact (sl.own j b z).2.2.1 h0
theorem r_own2 {i : Nat} (h : tS P W (exec G (.own2 i)) D σ H) : tAsg (tLst tNil) (gName i) D σ H := by
  obtain ⟨os, Z, w, env, ad, B, k, sl, hB, h⟩ := h
  refine ⟨by simp, fun p hp => ?_⟩
  obtain ⟨k2, s, hz, np⟩ := k.allocOwn hp (.lst [])
  have nb : ¬ B p := fun z => hB p z hp
  refine h _ _ _ _ _ (s.sub hB) k2 ((sl.step s).give (as := [p]) i ⟨p, [], rfl, rfl, upd_same, .nil⟩ (fun b hb => ?_) (by simp) fun b hb j hj z => ?_)
  · rcases List.mem_singleton.mp hb with rfl
    exact ⟨np, hz, by rw [upd_same]; (intro z; cases z), nb⟩
  · rcases List.mem_singleton.mp hb with rfl
    exact (sl.own j b z).2.2.1 hp
/-! a tracked list -/
theorem r_newo {i : Nat} {es : Es} (h : tS P W (exec G (.newo i es)) D σ H) : tAsg (tLst (tX P W (evs G es) (RA P))) (gName i) D σ H := by
  obtain ⟨os, Z, w, env, ad, B, k, sl, hB, h⟩ := h
  refine tX_intro k sl (OutS.expr hB h) fun ds w1 os1 Z1 H1 vs s1 k1 sl1 r h1 => ?_
  by_cases hl : ds.length ≤ lim
  · rw [if_pos hl] at h1
    have r : Reps P os1 Z1 ds vs := r
    refine ⟨by rw [← r.length, ← lim_eq]; exact hl, fun p hp => ?_⟩
    obtain ⟨k2, s, hz, np⟩ := k1.allocOwn hp (.lst vs)
    have nb : ¬ B p := fun z => (Bex (a := p) hB s1) p z hp
    have e2 : Ext os1 (os1 ++ [p]) := ⟨[p], rfl⟩
    have k3 : Ok P (os1 ++ [p]) (w1 ++ [.cells ds]) Z1 (upd H1 p (.lst vs)) := by
      refine ⟨k2.zh, fun a ha => ?_, ?_, by simp [k2.len], fun n a o h2 h3 => ?_⟩
      · rcases List.mem_append.mp ha with z | z
        · exact k2.nz a z
        · rcases List.mem_singleton.mp z with rfl; exact hz
      · refine List.nodup_append.mpr ⟨k2.nd, by simp, fun a ha b hb e => ?_⟩
        rcases List.mem_singleton.mp hb with rfl
        exact np (e ▸ ha)
      · by_cases hn : n < os1.length
        · rw [List.getElem?_append_left hn] at h2
          rw [List.getElem?_append_left (by rw [← k2.len]; exact hn)] at h3
          have := k2.obj n a o h2 h3
          cases o with
          | cells ds2 =>
            obtain ⟨vs2, h4, h5⟩ := this
            exact ⟨vs2, h4, h5.mono Le.refl e2⟩
          | inst c fs => exact this.elim
        · have hn2 : n = os1.length := by
            obtain ⟨h4, _⟩ := List.getElem?_eq_some_iff.mp h2
            simp at h4
            omega
          subst hn2
          rw [List.getElem?_append_right (Nat.le_refl _)] at h2
          rw [k2.len, List.getElem?_append_right (Nat.le_refl _)] at h3
          simp at h2 h3
          subst h2 h3
          exact ⟨vs, upd_same, r.mono Le.refl e2⟩
    have s2 : Step B os1 Z1 H1 (os1 ++ [p]) Z1 (upd H1 p (.lst vs)) :=
      ⟨fun a o b h na => by rw [upd_ne (show a ≠ p from fun e => nb (e ▸ b))]; exact h, s.there, Le.refl, fun _ _ h => h, [p], rfl, fun a ha => by rcases List.mem_singleton.mp ha with rfl; exact hp⟩
    have s3 : Step (Ex H1) os1 Z1 H1 (os1 ++ [p]) Z1 (upd H1 p (.lst vs)) :=
      ⟨fun a o b h na => by rw [upd_ne (show a ≠ p from fun e => b (e ▸ hp))]; exact h, s.there, Le.refl, fun _ _ h => h, [p], rfl, fun a ha => by rcases List.mem_singleton.mp ha with rfl; exact hp⟩
    refine h1 _ _ _ _ _ s2 k3 ((sl1.step s3).setFz i ?_)
    unfold Rep
    exact ⟨p, rfl, by rw [← k1.len]; simp⟩
  · rw [if_neg hl] at h1
    exact h1.elim
/-! a, b = e -/
theorem r_unp {is : List Nat} {e : E} (he : lev e = 0) (h : tS P W (exec G (.unp is e)) D σ H) : tAsg (tX P W (ev G e .v) (RV P (lev e))) (gTup P.K is.length (gList is)) D σ H := by
  obtain ⟨os, Z, w, env, ad, B, k, sl, hB, h⟩ := h
  refine tX_intro k sl (OutS.expr hB h) fun d w1 os1 Z1 H1 v s1 k1 sl1 r h1 => ?_
  rw [he] at r
  cases d <;> first | exact h1.elim | skip
  rename_i ds
  obtain ⟨env2, e1, h2⟩ := OutS.lft h1
  refine r_patn (P := P) ⟨os1, Z1, w1, env, ad, B, .tup ds, env2, k1, sl1, r, e1, fun σ' _ sl2 => h2 _ _ _ _ _ Step.refl k1 sl2⟩
/-! x.append(e) -/
theorem r_app {i : Nat} {e : E} (he : lev e = 0) (h : tS P W (exec G (.app i e)) D σ H) : tDrop (tBM P.K "list" rAppend (tVar i) (tCons (tX P W (ev G e .v) (RV P (lev e))) tNil)) D σ H := by
  obtain ⟨os, Z, w, env, ad, B, k, sl, hB, h⟩ := h
  have h : OutS P W B os Z H ((match env[i]? with
    | some (.ow ds) => bnd (ev G e .v env) fun d => if ds.length < lim then ret (VI.Flow.nx (env.set i (.ow (ds ++ [d])))) else stuck
    | _ => stuck) w) D := h
  cases q : env[i]? with
  | none => rw [q] at h; exact h.elim
  | some s =>
    rw [q] at h
    cases s <;> first | exact h.elim | skip
    rename_i ds
    obtain ⟨a, vs, e1, e2, hh, rr⟩ := sl.at_ i _ q
    refine ⟨.ref a, e1, .inl ⟨rfl, vs, .of hh⟩, ?_⟩
    refine tX_intro k sl (OutS.expr hB h) fun d w1 os1 Z1 H1 v s1 k1 sl1 r h1 => ?_
    rw [he] at r
    obtain ⟨a', vs', e1', e2', hh', rr'⟩ := sl1.at_ i _ q
    rw [e1] at e1'
    cases e1'
    by_cases hl : ds.length < lim
    · rw [if_pos hl] at h1
      obtain ⟨n1, z1, _, b1⟩ := sl1.own i a (by simp [e2'])
      refine ⟨a, vs', v, rfl, rfl, hh', by rw [← rr'.length, ← lim_eq]; exact hl, ?_⟩
      refine h1 σ os1 Z1 _ ad (Step.refl.updOwn b1) (k1.updOwn z1 n1) (sl1.updAt (a := a) (by simp [e2']) ⟨a, _, e1, e2', upd_same, rr'.append (reps_cons r reps_nil)⟩)
    · rw [if_neg hl] at h1; exact h1.elim
theorem r_app2 {i : Nat} (h : tS P W (exec G (.app2 i)) D σ H) : tDrop (tBM P.K "list" rAppend (tVar i) (tCons (tLst tNil) tNil)) D σ H := by
  obtain ⟨os, Z, w, env, ad, B, k, sl, hB, h⟩ := h
  have h : OutS P W B os Z H ((match env[i]? with
    | some (.ow2 dss) => if dss.length < lim then ret (VI.Flow.nx (env.set i (.ow2 (dss ++ [[]])))) else stuck
    | _ => stuck) w) D := h
  cases q : env[i]? with
  | none => rw [q] at h; exact h.elim
  | some s =>
    rw [q] at h
    cases s <;> first | exact h.elim | skip
    rename_i dss
    obtain ⟨a, bs, e1, e2, hh, rr⟩ := sl.at_ i _ q
    refine ⟨.ref a, e1, .inl ⟨rfl, _, .of hh⟩, ?_⟩
    refine ⟨by simp, fun p hp => ?_⟩
    obtain ⟨k2, s, hz, np⟩ := k.allocOwn hp (.lst [])
    have nb : ¬ B p := fun z => hB p z hp
    have sl2 := sl.step s
    obtain ⟨n1, z1, t1, b1⟩ := sl.own i a (by simp [e2])
    have hap : a ≠ p := fun e => t1 (e ▸ hp)
    by_cases hl : dss.length < lim
    · simp only [if_pos hl] at h
      have hlen : dss.length = bs.length := Paired.length rr
      refine ⟨a, bs.map V.ref, .ref p, rfl, rfl, by rw [upd_ne hap]; exact hh, by rw [List.length_map, ← hlen, ← lim_eq]; exact hl, ?_⟩
      have hnb : ∀ b ∈ bs, b ≠ p ∧ b ≠ a := fun b hb => ⟨fun e => (sl.own i b (by simp [e2, hb])).2.2.1 (e ▸ hp), fun e => by
        have nd := sl.nd i
        rw [e2] at nd
        exact (List.nodup_cons.mp nd).1 (e ▸ hb)⟩
      have sl3 := sl2.give (s := .no) (v := .ref a) (as := (a :: bs) ++ [p]) i trivial (fun b hb => ?_) ?_ fun b hb j hj z => ?_
      · have sl4 := sl3.updAt (i := i) (a := a) (o := .lst (bs.map V.ref ++ [.ref p])) (s := .ow2 (dss ++ [[]])) (by simp) (by
          refine ⟨a, bs ++ [p], ?_, by simp, by rw [upd_same, List.map_append]; rfl, ?_⟩
          · rw [List.getElem?_set_self]
            obtain ⟨hi, _⟩ := List.getElem?_eq_some_iff.mp e1
            exact hi
          · unfold Rows
            refine Paired.app ?_ (.cons ⟨[], by rw [upd_ne (Ne.symm hap), upd_same], reps_nil⟩ .nil)
            exact Rows.congr (fun b hb => by rw [upd_ne (hnb b hb).2, upd_ne (hnb b hb).1]) rr)
        rw [List.set_set] at sl4
        have es : σ.set i (some (.ref a)) = σ := by
          apply List.ext_getElem?
          intro j
          by_cases hj : i = j
          · subst hj
            obtain ⟨hi, _⟩ := List.getElem?_eq_some_iff.mp e1
            rw [List.getElem?_set_self hi, e1]
          · rw [List.getElem?_set_ne hj]
        rw [es] at sl4
        refine h σ os Z _ _ ((s.sub hB).updOwn b1) (k2.updOwn z1 n1) sl4
      · rcases List.mem_append.mp hb with hb | hb
        · have := sl2.own i b (by rw [e2]; exact hb)
          exact this
        · rcases List.mem_singleton.mp hb with rfl
          exact ⟨np, hz, by rw [upd_same]; (intro z; cases z), nb⟩
      · refine List.nodup_append.mpr ⟨by rw [← e2]; exact sl.nd i, by simp, fun b hb c hc e => ?_⟩
        rcases List.mem_singleton.mp hc with rfl
        exact (sl.own i b (by rw [e2]; exact hb)).2.2.1 (e ▸ hp)
      · rcases List.mem_append.mp hb with hb | hb
        · exact hj (sl.dis j i b z (by rw [e2]; exact hb))
        · rcases List.mem_singleton.mp hb with rfl
          exact (sl.own j b z).2.2.1 hp
    · simp only [if_neg hl] at h; exact h.elim
end
end VI

set_option Elab.async false
set_option linter.all false
set_option maxRecDepth 100000
set_option maxHeartbeats 1000000
/-! VI, part 15: readings of statements, further. -/
namespace VI
open PySem L2
section
variable {P : Pm} {W : WX} {G : Glo} {os os' os1 : List Addr} {Z Z' Z1 H H' H1 H0 : Hp} {w w' : Wd} {env env' : Env} {ad ad' : Nat → List Addr} {B : Addr → Prop} {σ σ' : Stt} {D : Ends} {α : Type}
/-! rows[j].append(e) -/
theorem ixN_lt {n : Nat} {i : Int} {j : Nat} (h : ixN n i = some j) : j < n := (ixN_seq h).2.1
theorem rows_set {dss : List (List VI.D)} {bs : List Addr} {n : Nat} {b : Addr} {ds : List VI.D} {vs : List V} (nd : bs.Nodup) (r : Rows P os Z H dss bs) (hb : bs[n]? = some b) (hr : Reps P os Z ds vs) :
    Rows P os Z (upd H b (.lst vs)) (dss.set n ds) bs := by
  unfold Rows at *
  have key : ∀ {dss : List (List VI.D)} {bs : List Addr} {n : Nat}, bs.Nodup → Paired (fun ds b => ∃ vs, H b = some (.lst vs) ∧ Reps P os Z ds vs) dss bs → bs[n]? = some b →
      Paired (fun ds c => ∃ vs', upd H b (.lst vs) c = some (.lst vs') ∧ Reps P os Z ds vs') (dss.set n ds) bs := by
    intro dss bs n nd r hb
    induction r generalizing n with
    | nil => simp at hb
    | cons q t ih =>
      rename_i d0 b0 ds0 bs0
      have nd2 := List.nodup_cons.mp nd
      cases n with
      | zero =>
        simp at hb
        subst hb
        refine .cons ⟨vs, upd_same, hr⟩ ?_
        clear ih
        have hne : ∀ c ∈ bs0, c ≠ b0 := fun c hc e => nd2.1 (e ▸ hc)
        clear nd nd2
        induction t with
        | nil => exact .nil
        | cons q2 t2 ih2 =>
          obtain ⟨v2, h1, h2⟩ := q2
          exact .cons ⟨v2, by rw [upd_ne (hne _ List.mem_cons_self)]; exact h1, h2⟩ (ih2 fun c hc => hne c (List.mem_cons_of_mem _ hc))
      | succ n =>
        have hb' : bs0[n]? = some b := by simpa using hb
        obtain ⟨v2, h1, h2⟩ := q
        have hne : b0 ≠ b := fun e => nd2.1 (e ▸ List.mem_of_getElem? hb')
        exact .cons ⟨v2, by rw [upd_ne hne]; exact h1, h2⟩ (ih nd2.2 hb')
  exact key nd r hb
theorem r_appi {i : Nat} {j e : E} (hj : lev j = 0) (he : lev e = 0) (h : tS P W (exec G (.appi i j e)) D σ H) :
    tDrop (tBM P.K "list" rAppend (tOp (rIx P.K) (tVar i) (tX P W (ev G j .v) (RV P (lev j)))) (tCons (tX P W (ev G e .v) (RV P (lev e))) tNil)) D σ H := by
  obtain ⟨os, Z, w, env, ad, B, k, sl, hB, h⟩ := h
  have h : OutS P W B os Z H ((match env[i]? with
    | some (.ow2 dss) => bnd (ev G j .v env) fun k => bnd (lft (rowAt dss k)) fun p => bnd (ev G e .v env) fun d => if p.2.length < lim then ret (VI.Flow.nx (env.set i (.ow2 (dss.set p.1 (p.2 ++ [d]))))) else stuck
    | _ => stuck) w) D := h
  cases q : env[i]? with
  | none => rw [q] at h; exact h.elim
  | some s =>
    rw [q] at h
    cases s <;> first | exact h.elim | skip
    rename_i dss
    obtain ⟨a, bs, e1, e2, hh, rr⟩ := sl.at_ i _ q
    refine ⟨.ref a, e1, ?_⟩
    refine tX_intro k sl (OutS.expr hB h) fun kd w1 os1 Z1 H1 v s1 k1 sl1 r h1 => ?_
    obtain ⟨⟨n, ds⟩, e3, h2⟩ := OutS.lft h1
    rw [hj] at r
    cases kd <;> first | (cases e3; done) | skip
    rename_i kk
    have e3 : ((ixN dss.length kk).bind fun n => (dss[n]?).map fun ds => (n, ds)) = some (n, ds) := e3
    obtain ⟨n', e4, e5⟩ := Option.bind_eq_some_iff.mp e3
    obtain ⟨ds', e6, e7⟩ := Option.map_eq_some_iff.mp e5
    cases e7
    have r : Rep P os1 Z1 (.int kk) v := r
    unfold Rep at r
    subst r
    obtain ⟨a', bs', e1', e2', hh', rr'⟩ := sl1.at_ i _ q
    rw [e1] at e1'
    cases e1'
    obtain ⟨b, hb, us, hus, rus⟩ := Paired.get rr' e6
    have hlen : dss.length = bs'.length := Paired.length rr'
    refine .inl ⟨a, bs'.map V.ref, kk, .ref b, rfl, rfl, .of hh', ?_, ?_⟩
    · unfold atI
      rw [List.length_map, ← hlen, e4]
      show (bs'.map V.ref)[n]? = _
      rw [List.getElem?_map, hb]; rfl
    refine ⟨.inl ⟨rfl, us, .of hus⟩, ?_⟩
    have hB1 : ∀ a, B a → H1 a ≠ none := fun a b => s1.there a (hB a b)
    refine tX_intro k1 sl1 (OutS.expr hB1 h2) fun d w2 os2 Z2 H2 u s2 k2 sl2 r h3 => ?_
    rw [he] at r
    obtain ⟨a2, bs2, e12, e22, hh2, rr2⟩ := sl2.at_ i _ q
    rw [e1] at e12
    cases e12
    have ebs : bs2 = bs' := by rw [e22] at e2'; cases e2'; rfl
    subst ebs
    obtain ⟨b', hb', us', hus', rus'⟩ := Paired.get rr2 e6
    rw [hb] at hb'
    cases hb'
    by_cases hl : ds.length < lim
    · simp only [if_pos hl] at h3
      have hmem : b ∈ ad i := by rw [e22]; exact List.mem_cons_of_mem _ (List.mem_of_getElem? hb)
      obtain ⟨n1, z1, _, b1⟩ := sl2.own i b hmem
      have nd := sl2.nd i
      rw [e22] at nd
      have nd2 := List.nodup_cons.mp nd
      have hab : a ≠ b := fun e => nd2.1 (e ▸ List.mem_of_getElem? hb)
      refine ⟨b, us', u, rfl, rfl, hus', by rw [← rus'.length, ← lim_eq]; exact hl, ?_⟩
      refine h3 σ os2 Z2 _ ad (Step.refl.updOwn b1) (k2.updOwn z1 n1) (sl2.updAt (a := b) hmem ⟨a, bs2, e1, e22, by rw [upd_ne hab]; exact hh2, ?_⟩)
      exact rows_set nd2.2 rr2 hb (rus'.append (reps_cons r reps_nil))
    · simp only [if_neg hl] at h3; exact h3.elim
/-! x[k] = v -/
theorem ok_cells {n : Nat} {a : Addr} {ds ds' : List VI.D} {vs : List V} (k : Ok P os w Z H) (ha : os[n]? = some a) (hw : w[n]? = some (.cells ds)) (r : Reps P os Z ds' vs) : Ok P os (w.set n (.cells ds')) Z (upd H a (.lst vs)) := by
  refine ⟨fun b o h => ?_, k.nz, k.nd, by simp [k.len], fun m b o h1 h2 => ?_⟩
  · rw [upd_ne (show b ≠ a from fun e => by rw [e, k.nz a (List.mem_of_getElem? ha)] at h; cases h)]; exact k.zh b o h
  · by_cases hm : n = m
    · subst hm
      rw [ha] at h1
      cases h1
      have hl : n < w.length := by obtain ⟨z, _⟩ := List.getElem?_eq_some_iff.mp hw; exact z
      rw [List.getElem?_set_self hl] at h2
      cases h2
      exact ⟨vs, upd_same, r⟩
    · rw [List.getElem?_set_ne hm] at h2
      have hne : b ≠ a := fun e => by
        subst e
        obtain ⟨l1, g1⟩ := List.getElem?_eq_some_iff.mp ha
        obtain ⟨l2, g2⟩ := List.getElem?_eq_some_iff.mp h1
        exact hm ((List.getElem_inj k.nd).mp (g1.trans g2.symm))
      have := k.obj m b o h1 h2
      cases o with
      | cells es =>
        obtain ⟨us, h3, h4⟩ := this
        exact ⟨us, by rw [upd_ne hne]; exact h3, h4⟩
      | inst c fs => exact this.elim
def rPutA (w : World) : TSet := fun o i v H Q => rSetL o i v H Q ∨ rSetN w o i v H Q
theorem rPutA_ok {X : Cx} (hu : X.A.units + 10 < cLine) : PSet X (rPutA X.w) := by
  intro pins s σ H o i v ov iv u Q I ro ri rv h
  rcases h with h | h
  · exact set_list pins s σ H o i v ov iv u Q I ro ri rv h
  · exact set_dictN hu pins s σ H o i v ov iv u Q I ro ri rv h
/-- the store, once the value is there -/
theorem put_step {i : Nat} {kk : E} {d : VI.D} {v : V} {N : Stt → Hp → Prop} (hk : lev kk = 0) (k1 : Ok P os1 w Z1 H1) (sl1 : Slots P B env σ ad os1 Z1 H1) (hB1 : ∀ a, B a → H1 a ≠ none) (r : Rep P os1 Z1 d v)
    (h : OutS P W B os1 Z1 H1 (bnd (lft (putOk env i)) (fun _ => bnd (ev G kk .v env) fun k => putM env i k d) w) { D with nx := N }) : gSub (tVar i) (tX P W (ev G kk .v) (RV P (lev kk))) (rPutA P.wo) v σ H1 N := by
  obtain ⟨⟨⟩, e1, h2⟩ := OutS.lft h
  unfold putOk at e1
  cases q : env[i]? with
  | none => rw [q] at e1; cases e1
  | some s =>
    rw [q] at e1
    have q2 := sl1.at_ i s q
    cases s <;> first | (cases e1; done) | skip
    case ow ds =>
      obtain ⟨a, vs, e2, e3, hh, rr⟩ := q2
      refine ⟨.ref a, e2, ?_⟩
      refine tX_intro k1 sl1 (OutS.expr hB1 h2) fun kd w2 os2 Z2 H2 u s2 k2 sl2 ru h3 => ?_
      rw [hk] at ru
      have h3 : OutS P W B os2 Z2 H2 (putM env i kd d w2) { D with nx := N } := h3
      unfold putM at h3
      rw [q] at h3
      cases kd <;> first | exact h3.elim | skip
      rename_i j _
      have ru : Rep P os2 Z2 (.int j) u := ru
      unfold Rep at ru
      subst ru
      cases q3 : ixN ds.length j with
      | none => simp only [q3] at h3; exact h3.elim
      | some n =>
        simp only [q3] at h3
        obtain ⟨a', vs', e2', e3', hh', rr'⟩ := sl2.at_ i _ q
        rw [e2] at e2'
        cases e2'
        obtain ⟨n1, z1, _, b1⟩ := sl2.own i a (by simp [e3'])
        refine .inl ⟨a, vs', j, n, rfl, rfl, hh', by rw [← rr'.length]; exact q3, ?_⟩
        exact h3 σ os2 Z2 _ ad (Step.refl.updOwn b1) (k2.updOwn z1 n1) (sl2.updAt (a := a) (by simp [e3']) ⟨a, _, e2, e3', upd_same, rr'.set (Rep.mono s2.zle s2.ex r) n⟩)
    case od kvs =>
      obtain ⟨a, e2, e3, _⟩ := q2
      refine ⟨.ref a, e2, ?_⟩
      refine tX_intro k1 sl1 (OutS.expr hB1 h2) fun kd w2 os2 Z2 H2 u s2 k2 sl2 ru h3 => ?_
      rw [hk] at ru
      have h3 : OutS P W B os2 Z2 H2 (putM env i kd d w2) { D with nx := N } := h3
      unfold putM at h3
      rw [q] at h3
      have h3 : OutS P W B os2 Z2 H2 ((if (VI.D.key kd && decide (kvs.length < lim)) = true then ret (VI.Flow.nx (env.set i (.od (dput kvs kd d)))) else stuck) w2) { D with nx := N } := h3
      by_cases c : (VI.D.key kd && decide (kvs.length < lim)) = true
      · rw [if_pos c] at h3
        simp only [Bool.and_eq_true, decide_eq_true_eq] at c
        obtain ⟨a', e2', e3', es', ep', qs', hh', hr', ht'⟩ := sl2.at_ i _ q
        rw [e2] at e2'
        cases e2'
        obtain ⟨n1, z1, _, b1⟩ := sl2.own i a (by simp [e3'])
        obtain ⟨b, rfl, hb⟩ := key_ok c.1 ru
        have hl : qs'.length < sizeLine := by rw [← Paired.length ht', ← lim_eq]; exact c.2
        refine .inr ⟨a, es', ep', qs', b, nk kd, ⟨rfl, rfl, hh', hr'.mono k2.zh, hb.mono k2.zh⟩, hl, fun es2 ep2 hes => ?_⟩
        exact h3 σ os2 Z2 _ ad (Step.refl.updOwn b1) (k2.updOwn z1 n1) (sl2.updAt (a := a) (by simp [e3']) ⟨a, e2, e3', es2, ep2, _, upd_same, store_rws hb hr' hl hes, dput_rows c.1 (Rep.mono s2.zle s2.ex r) ht'⟩)
      · rw [if_neg c] at h3; exact h3.elim
    case fz d0 =>
      cases d0 <;> first | (cases e1; done) | skip
      rename_i m
      obtain ⟨vv, e2, r0⟩ := q2
      have r0' := r0
      unfold Rep at r0'
      obtain ⟨a, rfl, ha⟩ := r0'
      refine ⟨.ref a, e2, ?_⟩
      refine tX_intro k1 sl1 (OutS.expr hB1 h2) fun kd w2 os2 Z2 H2 u s2 k2 sl2 ru h3 => ?_
      rw [hk] at ru
      have h3 : OutS P W B os2 Z2 H2 (putM env i kd d w2) { D with nx := N } := h3
      unfold putM at h3
      rw [q] at h3
      simp only at h3
      split at h3
      · rename_i ds j hw _
        split at h3
        · rename_i n hn
          have ru : Rep P os2 Z2 (.int j) u := ru
          unfold Rep at ru
          subst ru
          have ha2 : os2[m]? = some a := s2.ex.get ha
          obtain ⟨vs, hh, rr⟩ := k2.obj m a _ ha2 hw
          refine .inl ⟨a, vs, j, n, rfl, rfl, hh, by rw [← rr.length]; exact hn, ?_⟩
          have rr2 := rr.set (Rep.mono s2.zle s2.ex r) n
          have st : Step B os2 Z2 H2 os2 Z2 (upd H2 a (.lst (vs.set n v))) :=
            ⟨fun b o _ h na => by rw [upd_ne (show b ≠ a from fun e => na (e ▸ List.mem_of_getElem? ha2))]; exact h, fun b h => by
              by_cases e : b = a
              · subst e; rw [upd_same]; (intro z; cases z)
              · rw [upd_ne e]; exact h, Le.refl, fun _ _ h => h, [], by simp, by simp⟩
          refine h3 σ os2 Z2 _ ad st (ok_cells k2 ha2 hw rr2) ⟨sl2.len, fun l x ex => (sl2.at_ l x ex).congr (fun b _ nb => upd_ne (show b ≠ a from fun e => nb (by rw [e]; exact List.mem_of_getElem? ha2))) fun b hb => upd_ne (show b ≠ a from fun e => (sl2.own l b hb).1 (by rw [e]; exact List.mem_of_getElem? ha2)), fun l b hb => ?_, sl2.dis, sl2.nd⟩
          obtain ⟨g1, g2, g3, g4⟩ := sl2.own l b hb
          exact ⟨g1, g2, st.there b g3, g4⟩
        · exact h3.elim
      · exact h3.elim
theorem r_put {i : Nat} {kk e : E} (hk : lev kk = 0) (he : lev e = 0) (h : tS P W (exec G (.put i kk e)) D σ H) :
    tAsg (tX P W (ev G e .v) (RV P (lev e))) (gSub (tVar i) (tX P W (ev G kk .v) (RV P (lev kk))) (rPutA P.wo)) D σ H := by
  obtain ⟨os, Z, w, env, ad, B, k, sl, hB, h⟩ := h
  refine tX_intro k sl (OutS.expr hB h) fun d w1 os1 Z1 H1 v s1 k1 sl1 r h1 => ?_
  have hB1 : ∀ a, B a → H1 a ≠ none := fun a b => s1.there a (hB a b)
  rw [he] at r
  exact put_step (D := D) hk k1 sl1 hB1 r h1
/-! x[k], y = a, b -/
def putK (j : Nat) (d' : VI.D) : VI.Flow → M VI.Flow := fun fl => match fl with
  | .nx env => ret (.nx (env.set j (.fz d')))
  | _ => stuck
theorem bnd_assoc {α β γ : Type} (m : M α) (f : α → M β) (g : β → M γ) : bnd (bnd m f) g = bnd m fun a => bnd (f a) g := by
  funext w
  unfold VI.bnd
  cases m w <;> rfl
theorem r_putset {i j : Nat} {kk a b : E} (hk : lev kk = 0) (ha : lev a = 0) (hb : lev b = 0) (h : tS P W (exec G (.putset i kk a j b)) D σ H) :
    tAsg (tTup (tCons (tX P W (ev G a .v) (RV P (lev a))) (tCons (tX P W (ev G b .v) (RV P (lev b))) tNil))) (gTup P.K 2 (gCons (gSub (tVar i) (tX P W (ev G kk .v) (RV P (lev kk))) (rPutA P.wo)) (gCons (gName j) gNil))) D σ H := by
  obtain ⟨os, Z, w, env, ad, B, k, sl, hB, h⟩ := h
  refine tX_intro k sl (OutS.expr hB h) fun d w1 os1 Z1 H1 v s1 k1 sl1 r h1 => ?_
  have hB1 : ∀ a, B a → H1 a ≠ none := fun a b => s1.there a (hB a b)
  refine tX_intro k1 sl1 (OutS.expr hB1 h1) fun d' w2 os2 Z2 H2 v' s2 k2 sl2 r' h2 => ?_
  have hB2 : ∀ a, B a → H2 a ≠ none := fun a b => s2.there a (hB1 a b)
  rw [ha] at r
  rw [hb] at r'
  refine ⟨by rw [sizeLine_eq]; simp, fun p hp => ?_⟩
  obtain ⟨k3, s3, hz3, np3⟩ := k2.allocOwn hp (.tup [v, v'])
  have sl3 := sl2.step s3
  have hB3 : ∀ a, B a → upd H2 p (.tup [v, v']) a ≠ none := fun a b => s3.there a (hB2 a b)
  refine ⟨p, [v, v'], rfl, .of upd_same, rfl, v, [v'], rfl, ?_⟩
  have r3 : Rep P os2 Z2 d v := Rep.mono s2.zle s2.ex r
  have h3 : OutS P W B os2 Z2 (upd H2 p (.tup [v, v'])) ((bnd (lft (putOk env i)) fun _ => bnd (ev G kk .v env) fun k => bnd (putM env i k d) (putK j d')) w2) D := OutS.base (s3.sub hB2) h2
  refine put_step (D := D) (N := fun σ' H' => gCons (gName j) gNil [v'] σ' H' D.nx) hk k3 sl3 hB3 r3 ?_
  rw [show (bnd (lft (putOk env i)) fun _ => bnd (ev G kk .v env) fun k => bnd (putM env i k d) (putK j d')) = bnd (bnd (lft (putOk env i)) fun _ => bnd (ev G kk .v env) fun k => putM env i k d) (putK j d') from by
    rw [bnd_assoc]
    congr 1
    funext _
    rw [bnd_assoc]] at h3
  revert h3
  generalize (bnd (lft (putOk env i)) fun _ => bnd (ev G kk .v env) fun k => putM env i k d) = M
  intro h3
  unfold VI.bnd at h3
  cases q : M w2 with
  | no => rw [q] at h3; exact h3
  | exn c f w => rw [q] at h3; exact h3
  | ok fl w =>
    rw [q] at h3
    cases fl with
    | rt d => exact h3.elim
    | bk e => exact h3.elim
    | nx e =>
      intro σ' os' Z' H' ad' st k' sl'
      have r4 : Rep P os' Z' d' v' := Rep.mono st.zle st.ex (Rep.mono s3.zle s3.ex r')
      exact ⟨v', [], rfl, rfl, h3 _ os' Z' H' ad' st k' (sl'.setFz j r4)⟩
/-! name op= e -/
theorem r_aug {i : Nat} {o : Bop} {e : E} (he : lev e = 0) (f : Int → Int → Int) (hf : ∀ a b, (match o with
    | .add => some (a + b)
    | .sub => some (a - b)
    | _ => none) = some (f a b)) (h : tS P W (exec G (.aug i o e)) D σ H) : tAug i (tX P W (ev G e .v) (RV P (lev e))) (ipI f) D σ H := by
  obtain ⟨os, Z, w, env, ad, B, k, sl, hB, h⟩ := h
  obtain ⟨x, e1, h2⟩ := OutS.lft h
  unfold look at e1
  cases q : env[i]? with
  | none => rw [q] at e1; cases e1
  | some s =>
    rw [q] at e1
    cases s <;> first | (cases e1; done) | skip
    cases e1
    obtain ⟨vx, e2, rx⟩ := sl.at_ i _ q
    refine ⟨vx, e2, ?_⟩
    refine tX_intro k sl (OutS.expr hB h2) fun y w1 os1 Z1 H1 v s1 k1 sl1 r h1 => ?_
    rw [he] at r
    have r : Rep P os1 Z1 y v := r
    split at h1
    · unfold Rep at rx r
      have := hf
      rename_i a b _
      have e3 : some (a + b) = some (f a b) := hf a b
      refine ⟨a, b, rx, r, ?_⟩
      rw [← Option.some.inj e3]
      exact h1 _ _ _ _ _ Step.refl k1 (sl1.setFz i (by unfold Rep; rfl))
    · unfold Rep at rx r
      rename_i a b _
      have e3 : some (a - b) = some (f a b) := hf a b
      refine ⟨a, b, rx, r, ?_⟩
      rw [← Option.some.inj e3]
      exact h1 _ _ _ _ _ Step.refl k1 (sl1.setFz i (by unfold Rep; rfl))
    · exact h1.elim
/-! the others -/
theorem r_ex {e : E} (h : tS P W (exec G (.ex e)) D σ H) : tDrop (tX P W (ev G e .v) (RV P (lev e))) D σ H := by
  obtain ⟨os, Z, w, env, ad, B, k, sl, hB, h⟩ := h
  exact tX_intro k sl (OutS.expr hB h) fun d w1 os1 Z1 H1 v s1 k1 sl1 r h1 => h1 _ _ _ _ _ Step.refl k1 sl1
theorem r_retS {e : E} (he : lev e = 0) (h : tS P W (exec G (.ret e)) D σ H) : tRet (tX P W (ev G e .v) (RV P (lev e))) D σ H := by
  obtain ⟨os, Z, w, env, ad, B, k, sl, hB, h⟩ := h
  refine tX_intro k sl (OutS.expr hB h) fun d w1 os1 Z1 H1 v s1 k1 sl1 r h1 => ?_
  rw [he] at r
  exact h1 v _ _ _ Step.refl k1 r
theorem r_retN (h : tS P W (exec G .retN) D σ H) : tRetN D σ H := by
  obtain ⟨os, Z, w, env, ad, B, k, sl, hB, h⟩ := h
  exact h .non _ _ _ Step.refl k (by unfold Rep; rfl)
theorem r_brk (h : tS P W (exec G .brk) D σ H) : tBreak D σ H := by
  obtain ⟨os, Z, w, env, ad, B, k, sl, hB, h⟩ := h
  exact h _ _ _ _ _ Step.refl k sl
theorem r_pass (h : tS P W (exec G .pass) D σ H) : tNext D σ H := by
  obtain ⟨os, Z, w, env, ad, B, k, sl, hB, h⟩ := h
  exact h _ _ _ _ _ Step.refl k sl
theorem r_stk (h : tS P W (exec G .stk) D σ H) : tNever D σ H := by
  obtain ⟨os, Z, w, env, ad, B, k, sl, hB, h⟩ := h
  exact h.elim
theorem r_if {c : E} {a b : Ss} (h : tS P W (exec G (.ite c a b)) D σ H) : tIfS (tX P W (ev G c .t) RB) (tS P W (execs G a)) (tS P W (execs G b)) D σ H := by
  obtain ⟨os, Z, w, env, ad, B, k, sl, hB, h⟩ := h
  refine tX_intro k sl (OutS.expr hB h) fun d w1 os1 Z1 H1 v s1 k1 sl1 r h1 => ?_
  have hB1 : ∀ a, B a → H1 a ≠ none := fun a b => s1.there a (hB a b)
  have r : d = .bl v := r
  subst r
  cases v with
  | true => exact ⟨os1, Z1, w1, env, ad, B, k1, sl1, hB1, h1⟩
  | false => exact ⟨os1, Z1, w1, env, ad, B, k1, sl1, hB1, h1⟩
def seqK (G : Glo) (ss : Ss) : VI.Flow → M VI.Flow := fun fl => match fl with
  | .nx e => execs G ss e
  | .rt d => ret (.rt d)
  | .bk e => ret (.bk e)
theorem r_seqS {s : S} {ss : Ss} (h : tS P W (execs G (.cons s ss)) D σ H) : tSeq (tS P W (exec G s)) (tS P W (execs G ss)) D σ H := by
  obtain ⟨os, Z, w, env, ad, B, k, sl, hB, h⟩ := h
  have h : OutS P W B os Z H (bnd (exec G s env) (seqK G ss) w) D := h
  refine ⟨os, Z, w, env, ad, B, k, sl, hB, ?_⟩
  unfold VI.bnd at h
  cases q : exec G s env w with
  | no => rw [q] at h; exact h
  | exn c f w1 => rw [q] at h; exact h
  | ok fl w1 =>
    rw [q] at h
    cases fl with
    | nx e => exact fun σ' os' Z' H' ad' t k' sl' => ⟨os', Z', w1, e, ad', B, k', sl', fun a b => t.there a (hB a b), OutS.base t h⟩
    | rt d => exact h
    | bk e => exact h
theorem r_nilS (h : tS P W (execs G .nil) D σ H) : tNext D σ H := by
  obtain ⟨os, Z, w, env, ad, B, k, sl, hB, h⟩ := h
  exact h _ _ _ _ _ Step.refl k sl
theorem r_frz {is : List Nat} {ss : Ss} (h : tS P W (execs G (.frz is ss)) D σ H) : tS P W (execs G ss) D σ H := by
  obtain ⟨os, Z, w, env, ad, B, k, sl, hB, h⟩ := h
  obtain ⟨Z', ad', k', s, sl'⟩ := freeze_slots is k sl
  exact ⟨os, Z', w, freezeAll env is, ad', B, k', sl', hB, OutS.base s h⟩
theorem r_frz1 {i : Nat} {ss : Ss} (h : tS P W (execs G (.frz1 i ss)) D σ H) : tS P W (execs G ss) D σ H := by
  obtain ⟨os, Z, w, env, ad, B, k, sl, hB, h⟩ := h
  have h : OutS P W B os Z H ((match env[i]? with
    | some (.ow2 dss) => execs G ss (env.set i (.ow (dss.map .lst)))
    | _ => stuck) w) D := h
  cases q : env[i]? with
  | none => rw [q] at h; exact h.elim
  | some s =>
    rw [q] at h
    cases s <;> first | exact h.elim | skip
    obtain ⟨Z', ad', k', s, sl'⟩ := freeze_inner k sl q
    exact ⟨os, Z', w, _, ad', B, k', sl', hB, OutS.base s h⟩
/-! loops -/
def loopK (next : Env → M VI.Flow) : VI.Flow → M VI.Flow := fun fl => match fl with
  | .nx e => next e
  | .bk e => ret (.nx e)
  | .rt d => ret (.rt d)
/-- one turn's body, then the rest -/
theorem OutS.turn {m : M VI.Flow} {next : Env → M VI.Flow} {N : Stt → Hp → Prop} (h : OutS P W B os Z H (bnd m (loopK next) w) D)
    (hN : ∀ e w1 σ' os' Z' H' ad', Step B os Z H os' Z' H' → Ok P os' w1 Z' H' → Slots P B e σ' ad' os' Z' H' → OutS P W B os' Z' H' (next e w1) D → N σ' H') : OutS P W B os Z H (m w) { D with nx := N, ct := N, bk := D.nx } := by
  unfold VI.bnd at h
  cases q : m w with
  | no => rw [q] at h; exact h
  | exn c f w1 => rw [q] at h; exact h
  | ok fl w1 =>
    rw [q] at h
    cases fl with
    | nx e => exact fun σ' os' Z' H' ad' t k' sl' => hN e w1 σ' os' Z' H' ad' t k' sl' (OutS.base t h)
    | rt d => exact h
    | bk e => exact h
theorem r_for {p : Pat} {it : It} {b : Ss} (h : tS P W (exec G (.for_ p it b)) D σ H) : tFor (tX P W (evI G it) (RI P)) (tP P p) (tS P W (execs G b)) D σ H := by
  obtain ⟨os, Z, w, env, ad, B, k, sl, hB, h⟩ := h
  refine tX_intro k sl (OutS.expr hB h) fun xs w1 os1 Z1 H1 J s1 k1 sl1 rJ h1 => ?_
  have hB1 : ∀ a, B a → H1 a ≠ none := fun a b => s1.there a (hB a b)
  obtain ⟨Gp, Y, wk, hG, hY⟩ := rJ
  refine for_it wk (fun i σ' H' => ∃ osx Zx wx envx adx, Ok P osx wx Zx H' ∧ Slots P B envx σ' adx osx Zx H' ∧ Step B os1 Z1 H1 osx Zx H' ∧ OutS P W B osx Zx H' (forL p (execs G b) (xs.drop i) envx wx) D)
    ⟨os1, Z1, w1, env, ad, k1, sl1, Step.refl, h1⟩ ?_ ?_ ?_
  · rintro i σ' H' hi ⟨osx, Zx, wx, envx, adx, kx, slx, sx, _⟩
    exact hG osx wx Zx H' sx.zle sx.ex kx
  · rintro i x σ' Hi H' hi ⟨osx, Zx, wx, envx, adx, kx, slx, sx, hx⟩ y
    have hd : xs[i]? = some xs[i] := List.getElem?_eq_getElem hi
    obtain ⟨Z2, st2, k2, r2⟩ := hY i x Hi H' osx wx Zx sx.zle sx.ex kx y _ hd
    have hBx : ∀ a, B a → Hi a ≠ none := fun a b => sx.there a (hB1 a b)
    have st2B : Step B osx Zx Hi osx Z2 H' := st2.sub hBx
    rw [List.drop_eq_getElem_cons hi] at hx
    have hx : OutS P W B osx Zx Hi (bnd (lft (bindP p xs[i] envx)) (fun env' => bnd (execs G b env') (loopK (forL p (execs G b) (xs.drop (i + 1))))) wx) D := by
      have e : forL p (execs G b) (xs[i] :: xs.drop (i + 1)) envx = bnd (lft (bindP p xs[i] envx)) (fun env' => bnd (execs G b env') (loopK (forL p (execs G b) (xs.drop (i + 1))))) := by
        show bnd _ _ = bnd _ _
        congr 1
      rw [e] at hx
      exact hx
    obtain ⟨env', e1, hx2⟩ := OutS.lft hx
    refine ⟨osx, Z2, wx, envx, adx, B, xs[i], env', k2, slx.step st2, r2, e1, fun σ2 _ sl2 => ?_⟩
    refine ⟨osx, Z2, wx, env', adx, B, k2, sl2, fun a b => st2.there a (hBx a b), ?_⟩
    refine (OutS.base st2B hx2).turn fun e w3 σ3 os3 Z3 H3 ad3 st3 k3 sl3 hn => ?_
    exact ⟨os3, Z3, w3, e, ad3, k3, sl3, (sx.trans st2B).trans st3, hn⟩
  · rintro σ' H' ⟨osx, Zx, wx, envx, adx, kx, slx, sx, hx⟩
    rw [List.drop_length] at hx
    exact hx _ _ _ _ _ Step.refl kx slx
theorem r_while {c : E} {b : Ss} (h : tS P W (exec G (.while_ c b)) D σ H) : tWhile (tX P W (ev G c .t) RB) (tS P W (execs G b)) D σ H := by
  obtain ⟨os, Z, w, env, ad, B, k, sl, hB, h⟩ := h
  refine ⟨fun m σ' H' => ∃ osx Zx wx envx adx, Ok P osx wx Zx H' ∧ Slots P B envx σ' adx osx Zx H' ∧ (∀ a, B a → H' a ≠ none) ∧ OutS P W B osx Zx H' (whileL (ev G c .t) (execs G b) m envx wx) D, ⟨G.fuel, os, Z, w, env, ad, k, sl, hB, h⟩, ?_⟩
  rintro m σ' H' ⟨osx, Zx, wx, envx, adx, kx, slx, hBx, hx⟩
  cases m with
  | zero => exact hx.elim
  | succ m =>
    have e : whileL (ev G c .t) (execs G b) (m + 1) envx = bnd (ev G c .t envx) (fun kk => match kk with
        | .bl true => bnd (execs G b envx) (loopK (whileL (ev G c .t) (execs G b) m))
        | .bl false => ret (.nx envx)
        | _ => stuck) := by
      show bnd _ _ = bnd _ _
      congr 1
    rw [e] at hx
    refine tX_intro kx slx (OutS.expr hBx hx) fun d w1 os1 Z1 H1 v s1 k1 sl1 r h1 => ?_
    have hB1 : ∀ a, B a → H1 a ≠ none := fun a b => s1.there a (hBx a b)
    have r : d = .bl v := r
    subst r
    cases v with
    | false =>
      rw [if_neg Bool.false_ne_true]
      exact h1 _ _ _ _ _ Step.refl k1 sl1
    | true =>
      rw [if_pos rfl]
      refine ⟨fun σ2 H2 => ∃ osy Zy wy envy ady, Ok P osy wy Zy H2 ∧ Slots P B envy σ2 ady osy Zy H2 ∧ (∀ a, B a → H2 a ≠ none) ∧ OutS P W B osy Zy H2 (whileL (ev G c .t) (execs G b) m envy wy) D, fun σ2 H2 h => ⟨m, Nat.lt_succ_self m, h⟩, ?_⟩
      refine ⟨os1, Z1, w1, envx, adx, B, k1, sl1, hB1, ?_⟩
      exact (show OutS P W B os1 Z1 H1 (bnd (execs G b envx) (loopK (whileL (ev G c .t) (execs G b) m)) w1) D from h1).turn fun e w3 σ3 os3 Z3 H3 ad3 st3 k3 sl3 hn => ⟨os3, Z3, w3, e, ad3, k3, sl3, fun a b => st3.there a (hB1 a b), hn⟩
end
end VI

set_option Elab.async false
set_option linter.all false
set_option maxRecDepth 100000
set_option maxHeartbeats 1000000
/-! VI, part 16: several names at once. -/
namespace VI
open PySem L2
def parOk : Nat → VI.D → Bool
  | 0, _ => true
  | 1, .lst _ => true
  | 1, .dct _ => true
  | 2, .lst [] => true
  | _, _ => false
section
variable {P : Pm} {W : WX} {G : Glo} {os os' os1 : List Addr} {Z Z' Z1 H H' H1 H0 : Hp} {w w' : Wd} {env env' : Env} {ad ad' : Nat → List Addr} {B : Addr → Prop} {σ σ' : Stt} {D : Ends} {α : Type}
inductive Tri (P : Pm) (os : List Addr) (Z H : Hp) : List (Nat × Nat) → List VI.D → List V → List Addr → Prop
  | nil : Tri P os Z H [] [] [] []
  | fz {i d v is ds vs own} : Rep P os Z d v → Tri P os Z H is ds vs own → Tri P os Z H ((i, 0) :: is) (d :: ds) (v :: vs) own
  | ow {i xs a us is ds vs own} : H a = some (.lst us) → Reps P os Z xs us → Tri P os Z H is ds vs own → Tri P os Z H ((i, 1) :: is) (.lst xs :: ds) (.ref a :: vs) (a :: own)
  | ow2 {i a is ds vs own} : H a = some (.lst []) → Tri P os Z H is ds vs own → Tri P os Z H ((i, 2) :: is) (.lst [] :: ds) (.ref a :: vs) (a :: own)
  | od {i kvs a is ds vs own} : DctR P os Z H kvs a → Tri P os Z H is ds vs own → Tri P os Z H ((i, 1) :: is) (.dct kvs :: ds) (.ref a :: vs) (a :: own)
  | bad {i b d v is ds vs own} : parOk b d = false → Tri P os Z H is ds vs own → Tri P os Z H ((i, b) :: is) (d :: ds) (v :: vs) own
theorem Tri.step {is ds vs own} (s : Step (Ex H) os Z H os' Z' H') (r : Tri P os Z H is ds vs own) (n : ∀ a ∈ own, a ∉ os) : Tri P os' Z' H' is ds vs own := by
  induction r with
  | nil => exact .nil
  | fz h _ ih => exact .fz (Rep.mono s.zle s.ex h) (ih n)
  | ow h hr _ ih => exact .ow (s.keep _ _ (by show H _ ≠ none; rw [h]; intro z; cases z) h (n _ List.mem_cons_self)) (hr.mono s.zle s.ex) (ih fun a ha => n a (List.mem_cons_of_mem _ ha))
  | ow2 h _ ih => exact .ow2 (s.keep _ _ (by show H _ ≠ none; rw [h]; intro z; cases z) h (n _ List.mem_cons_self)) (ih fun a ha => n a (List.mem_cons_of_mem _ ha))
  | od h _ ih => exact .od (h.step s.zle s.ex fun o e => s.keep _ o h.there e (n _ List.mem_cons_self)) (ih fun a ha => n a (List.mem_cons_of_mem _ ha))
  | bad h _ ih => exact .bad h (ih n)
theorem Tri.there {is ds vs own} (r : Tri P os Z H is ds vs own) : ∀ a ∈ own, H a ≠ none := by
  induction r with
  | nil => intro a ha; cases ha
  | fz h _ ih => exact ih
  | ow h hr _ ih =>
    intro a ha
    rcases List.mem_cons.mp ha with rfl | ha
    · rw [h]; intro z; cases z
    · exact ih a ha
  | ow2 h _ ih =>
    intro a ha
    rcases List.mem_cons.mp ha with rfl | ha
    · rw [h]; intro z; cases z
    · exact ih a ha
  | od h _ ih =>
    intro a ha
    rcases List.mem_cons.mp ha with rfl | ha
    · exact h.there
    · exact ih a ha
  | bad h _ ih => exact ih
def RK (P : Pm) (is : List (Nat × Nat)) : List VI.D → List Addr → Hp → Hp → Hp → List V → Prop := fun ds os' Z' H0 H' vs =>
  ∃ own, Tri P os' Z' H' is ds vs own ∧ own.Nodup ∧ ∀ a ∈ own, H0 a = none ∧ a ∉ os' ∧ Z' a = none
theorem pk_nilX {X : Cx} : PA X [] (tX P W (evs G .nil) (RK P [])) := pa_nil.imp fun σ H Q h => by
  obtain ⟨os, Z, w, env, ad, B, k, sl, h⟩ := h
  exact h.ret k [] ⟨[], .nil, .nil, by simp⟩
theorem pk_cons0 {X : Cx} {i : Nat} {is : List (Nat × Nat)} {e : E} {es : Es} {t : Expr} {ts : List Expr} (he : PE X t (tX P W (ev G e .v) (RV P 0))) (hr : PA X ts (tX P W (evs G es) (RK P is))) (hs : notStar t = true) :
    PA X (t :: ts) (tX P W (evs G (.cons e es)) (RK P ((i, 0) :: is))) :=
  (pa_cons he hr (star_of hs)).imp fun σ H Q h => by
    obtain ⟨os, Z, w, env, ad, B, k, sl, h⟩ := h
    have h : Out P W σ os Z H (bnd (ev G e .v env) (fun d => bnd (evs G es env) fun ds => ret (d :: ds)) w) _ := h
    refine tX_intro k sl h.bnd fun d w1 os1 Z1 H1 v s1 k1 sl1 r h1 => ?_
    refine tX_intro k1 sl1 h1.bnd fun ds w2 os2 Z2 H2 vs s2 k2 sl2 rs h2 => ?_
    obtain ⟨own, r1, r2, r3⟩ := rs
    refine h2.ret k2 _ ⟨own, .fz (Rep.mono s2.zle s2.ex r) r1, r2, fun a ha => ?_⟩
    obtain ⟨g1, g2, g3⟩ := r3 a ha
    refine ⟨?_, g2, g3⟩
    cases q : H a with
    | none => rfl
    | some o => exact absurd g1 (s1.there a (by rw [q]; intro z; cases z))
theorem pk_consN {X : Cx} {i b : Nat} {is : List (Nat × Nat)} {e : E} {es : Es} {t : Expr} {ts : List Expr} (hb : b ≠ 0) (he : PE X t (tX P W (ev G e .v) (RN P))) (hr : PA X ts (tX P W (evs G es) (RK P is))) (hs : notStar t = true) :
    PA X (t :: ts) (tX P W (evs G (.cons e es)) (RK P ((i, b) :: is))) :=
  (pa_cons he hr (star_of hs)).imp fun σ H Q h => by
    obtain ⟨os, Z, w, env, ad, B, k, sl, h⟩ := h
    have h : Out P W σ os Z H (bnd (ev G e .v env) (fun d => bnd (evs G es env) fun ds => ret (d :: ds)) w) _ := h
    refine tX_intro k sl h.bnd fun d w1 os1 Z1 H1 v s1 k1 sl1 r h1 => ?_
    refine tX_intro k1 sl1 h1.bnd fun ds w2 os2 Z2 H2 vs s2 k2 sl2 rs h2 => ?_
    obtain ⟨own, r1, r2, r3⟩ := rs
    have up : ∀ a ∈ own, H a = none ∧ a ∉ os2 ∧ Z2 a = none := fun a ha => by
      obtain ⟨g1, g2, g3⟩ := r3 a ha
      refine ⟨?_, g2, g3⟩
      cases q : H a with
      | none => rfl
      | some o => exact absurd g1 (s1.there a (by rw [q]; intro z; cases z))
    by_cases hp : parOk b d = false
    · exact h2.ret k2 _ ⟨own, .bad hp r1, r2, up⟩
    · cases d with
      | lst xs =>
        obtain ⟨a, us, rfl, h0, na, hz, hh, rr⟩ := r
        have h1n : H1 a ≠ none := by rw [hh]; intro z; cases z
        have hh2 : H2 a = some (.lst us) := s2.keep a _ h1n hh na
        have hz2 : Z2 a = none := s2.zkeep a h1n hz
        have na2 : a ∉ os2 := s2.nin h1n na
        have nd : (a :: own).Nodup := List.nodup_cons.mpr ⟨fun z => h1n (r3 a z).1, r2⟩
        have up2 : ∀ c ∈ a :: own, H c = none ∧ c ∉ os2 ∧ Z2 c = none := fun c hc => by
          rcases List.mem_cons.mp hc with rfl | hc
          · exact ⟨h0, na2, hz2⟩
          · exact up c hc
        match b, hb, hp with
        | 1, _, _ => exact h2.ret k2 _ ⟨a :: own, .ow hh2 (rr.mono s2.zle s2.ex) r1, nd, up2⟩
        | 2, _, hp =>
          cases xs with
          | nil =>
            unfold Reps at rr
            subst rr
            exact h2.ret k2 _ ⟨a :: own, .ow2 hh2 r1, nd, up2⟩
          | cons _ _ => exact absurd rfl hp
        | n + 3, _, hp => exact absurd rfl hp
      | dct kvs =>
        obtain ⟨a, rfl, h0, na, hz, rr⟩ := r
        have h1n : H1 a ≠ none := rr.there
        have hz2 : Z2 a = none := s2.zkeep a h1n hz
        have na2 : a ∉ os2 := s2.nin h1n na
        have nd : (a :: own).Nodup := List.nodup_cons.mpr ⟨fun z => h1n (r3 a z).1, r2⟩
        have up2 : ∀ c ∈ a :: own, H c = none ∧ c ∉ os2 ∧ Z2 c = none := fun c hc => by
          rcases List.mem_cons.mp hc with rfl | hc
          · exact ⟨h0, na2, hz2⟩
          · exact up c hc
        have rr2 := rr.step s2.zle s2.ex fun o e => s2.keep a o h1n e na
        match b, hb, hp with
        | 1, _, _ => exact h2.ret k2 _ ⟨a :: own, .od rr2 r1, nd, up2⟩
        | 2, _, hp => exact absurd rfl hp
        | n + 3, _, hp => exact absurd rfl hp
      | _ =>
        match b, hb, hp with
        | 1, _, hp => exact absurd rfl hp
        | 2, _, hp => exact absurd rfl hp
        | n + 3, _, hp => exact absurd rfl hp
theorem parL_bad {i b : Nat} {d : VI.D} {is : List (Nat × Nat)} {ds : List VI.D} (h : parOk b d = false) : parL env ((i, b) :: is) (d :: ds) = none := by
  unfold parL
  match b, d, h with
  | 1, .non, _ => rfl
  | 1, .bl _, _ => rfl
  | 1, .int _, _ => rfl
  | 1, .str _, _ => rfl
  | 1, .tup _, _ => rfl
  | 1, .fn _, _ => rfl
  | 1, .obj _, _ => rfl
  | 1, .scr _, _ => rfl
  | 2, .non, _ => rfl
  | 2, .bl _, _ => rfl
  | 2, .int _, _ => rfl
  | 2, .str _, _ => rfl
  | 2, .tup _, _ => rfl
  | 2, .lst (_ :: _), _ => rfl
  | 2, .dct _, _ => rfl
  | 2, .fn _, _ => rfl
  | 2, .obj _, _ => rfl
  | 2, .scr _, _ => rfl
  | n + 3, _, _ => rfl
theorem r_pars {is : List (Nat × Nat)} {ds : List VI.D} {vs : List V} {own : List Addr} (r : Tri P os Z H is ds vs own) : ∀ {env env' : Env} {σ : Stt} {ad : Nat → List Addr} {Q : Stt → Hp → Prop}, Slots P B env σ ad os Z H →
    own.Nodup → (∀ a ∈ own, a ∉ os ∧ Z a = none ∧ ¬ B a ∧ ∀ j, a ∉ ad j) → parL env is ds = some env' → (∀ σ' ad', Slots P B env' σ' ad' os Z H → Q σ' H) → gList (is.map (·.1)) vs σ H Q := by
  induction r with
  | nil =>
    intro env env' σ ad Q sl nd ho e h
    cases e
    exact ⟨rfl, h σ ad sl⟩
  | fz hr t ih =>
    intro env env' σ ad Q sl nd ho e h
    refine ⟨_, _, rfl, ?_⟩
    exact ih (sl.setFz _ hr) nd ho e h
  | ow hh hr t ih =>
    rename_i i xs a us is ds vs own
    intro env env' σ ad Q sl nd ho e h
    refine ⟨_, _, rfl, ?_⟩
    obtain ⟨g1, g2, g3, g4⟩ := ho a List.mem_cons_self
    have nd2 := List.nodup_cons.mp nd
    refine ih (sl.give (as := [a]) (s := .ow xs) i ⟨a, us, rfl, rfl, hh, hr⟩ (fun b hb => ?_) (by simp) fun b hb j hj z => ?_) nd2.2 (fun c hc => ?_) e h
    · rcases List.mem_singleton.mp hb with rfl
      exact ⟨g1, g2, by rw [hh]; (intro z; cases z), g3⟩
    · rcases List.mem_singleton.mp hb with rfl
      exact g4 j z
    · obtain ⟨f1, f2, f3, f4⟩ := ho c (List.mem_cons_of_mem _ hc)
      refine ⟨f1, f2, f3, fun j => ?_⟩
      by_cases hj : j = i
      · rw [if_pos hj]
        intro z
        exact nd2.1 (List.mem_singleton.mp z ▸ hc)
      · rw [if_neg hj]; exact f4 j
  | ow2 hh t ih =>
    rename_i i a is ds vs own
    intro env env' σ ad Q sl nd ho e h
    refine ⟨_, _, rfl, ?_⟩
    obtain ⟨g1, g2, g3, g4⟩ := ho a List.mem_cons_self
    have nd2 := List.nodup_cons.mp nd
    refine ih (sl.give (as := [a]) (s := .ow2 []) i ⟨a, [], rfl, rfl, hh, .nil⟩ (fun b hb => ?_) (by simp) fun b hb j hj z => ?_) nd2.2 (fun c hc => ?_) e h
    · rcases List.mem_singleton.mp hb with rfl
      exact ⟨g1, g2, by rw [hh]; (intro z; cases z), g3⟩
    · rcases List.mem_singleton.mp hb with rfl
      exact g4 j z
    · obtain ⟨f1, f2, f3, f4⟩ := ho c (List.mem_cons_of_mem _ hc)
      refine ⟨f1, f2, f3, fun j => ?_⟩
      by_cases hj : j = i
      · rw [if_pos hj]
        intro z
        exact nd2.1 (List.mem_singleton.mp z ▸ hc)
      · rw [if_neg hj]; exact f4 j
  | od hr t ih =>
    rename_i i kvs a is ds vs own
    intro env env' σ ad Q sl nd ho e h
    refine ⟨_, _, rfl, ?_⟩
    obtain ⟨g1, g2, g3, g4⟩ := ho a List.mem_cons_self
    have nd2 := List.nodup_cons.mp nd
    refine ih (sl.give (as := [a]) (s := .od kvs) i ⟨a, rfl, rfl, hr⟩ (fun b hb => ?_) (by simp) fun b hb j hj z => ?_) nd2.2 (fun c hc => ?_) e h
    · rcases List.mem_singleton.mp hb with rfl
      exact ⟨g1, g2, hr.there, g3⟩
    · rcases List.mem_singleton.mp hb with rfl
      exact g4 j z
    · obtain ⟨f1, f2, f3, f4⟩ := ho c (List.mem_cons_of_mem _ hc)
      refine ⟨f1, f2, f3, fun j => ?_⟩
      by_cases hj : j = i
      · rw [if_pos hj]
        intro z
        exact nd2.1 (List.mem_singleton.mp z ▸ hc)
      · rw [if_neg hj]; exact f4 j
  | bad hb t ih =>
    intro env env' σ ad Q sl nd ho e h
    rw [parL_bad hb] at e
    cases e
/-- what comes of it at the names -/
theorem r_par {is : List (Nat × Nat)} {es : Es} (h : tS P W (exec G (.par is es)) D σ H) : tX P W (evs G es) (RK P is) σ H fun vs H1 => gList (is.map (·.1)) vs σ H1 D.nx := by
  obtain ⟨os, Z, w, env, ad, B, k, sl, hB, h⟩ := h
  refine tX_intro k sl (OutS.expr hB h) fun ds w1 os1 Z1 H1 vs s1 k1 sl1 r h1 => ?_
  obtain ⟨env', e, h2⟩ := OutS.lft h1
  obtain ⟨own, r1, r2, r3⟩ := r
  refine r_pars r1 sl1 r2 (fun a ha => ?_) e fun σ' ad' sl' => h2 σ' os1 Z1 H1 ad' Step.refl k1 sl'
  obtain ⟨g1, g2, g3⟩ := r3 a ha
  exact ⟨g2, g3, fun z => hB a z g1, fun j z => (sl.own j a z).2.2.1 g1⟩
theorem Tri.len {is ds vs own} (r : Tri P os Z H is ds vs own) : vs.length = is.length := by
  induction r with
  | nil => rfl
  | fz _ _ ih => simp [ih]
  | ow _ _ _ ih => simp [ih]
  | ow2 _ _ ih => simp [ih]
  | od _ _ ih => simp [ih]
  | bad _ _ ih => simp [ih]
/-- .. where a tuple comes in between -/
theorem r_parT {is : List (Nat × Nat)} {es : Es} (hl : is.length ≤ 10) (h : tS P W (exec G (.par is es)) D σ H) :
    tAsg (tTup (tX P W (evs G es) (RK P is))) (gTup P.K is.length (gList (is.map (·.1)))) D σ H := by
  obtain ⟨os, Z, w, env, ad, B, k, sl, hB, h⟩ := h
  refine tX_intro k sl (OutS.expr hB h) fun ds w1 os1 Z1 H1 vs s1 k1 sl1 r h1 => ?_
  obtain ⟨env', e, h2⟩ := OutS.lft h1
  obtain ⟨own, r1, r2, r3⟩ := r
  refine ⟨by rw [r1.len, sizeLine_eq]; omega, fun p hp => ?_⟩
  obtain ⟨k2, st, hz, np⟩ := k1.allocOwn hp (.tup vs)
  have hB1 : ∀ a, B a → H1 a ≠ none := fun a b => s1.there a (hB a b)
  refine ⟨p, vs, rfl, .of upd_same, r1.len, ?_⟩
  refine r_pars (r1.step st fun a ha => (r3 a ha).2.1) (sl1.step st) r2 (fun a ha => ?_) e fun σ' ad' sl' => h2 σ' os1 Z1 _ ad' (st.sub hB1) k2 sl'
  obtain ⟨g1, g2, g3⟩ := r3 a ha
  exact ⟨g2, g3, fun z => hB a z g1, fun j z => (sl.own j a z).2.2.1 g1⟩
/-! the order of the stores -/
def swBlk (e : PySem.Env) (sc : Scope) : Prop := e.scope = sc ∧ e.blockKind = .function
def isStar : Expr → Bool
  | .Starred .. => true
  | _ => false
def swNames (sc : Scope) (ts vs : List Expr) : Option (Option (List Str)) :=
  if (!(ts.length == 2 || ts.length == 3) || vs.length != ts.length) = true then some none
  else if (vs.any fun | .Starred .. => true | _ => false) = true then some none
  else
    let line := (ts.head?.map (·.pos.line)).getD 0
    let names := ts.filterMap fun
      | .Name id pos => if sc.names.lookup id == some .local && pos.line == line then some id else none
      | _ => none
    if (names.length != ts.length || names.eraseDups.length != names.length) = true then some none
    else if vs.all (foldedForSure 8) = true then some none
    else if vs.all (constantsAlone 8) = true then none
    else some (some names)
theorem sw_eq {ts vs : List Expr} {k k2 : Nat} {p p2 : Pos} {e : PySem.Env} {sc : Scope} {r : Option (List Str)} (hs : e.scope = sc) (hb : e.blockKind = .function) (h : swNames sc ts vs = some r) :
    swappedStores [.Tuple ts k p] (.Tuple vs k2 p2) e = pure r := by
  unfold swNames at h
  unfold swappedStores
  simp only [hb, PySem.Env.kindOf, hs]
  split at h
  · rename_i c
    cases h
    have c' : (!(ts.length == 2 || ts.length == 3) || vs.length != ts.length || ScopeKind.function != ScopeKind.function) = true := by rw [c]; rfl
    simp only [c', if_true]
    try rfl
  · rename_i c
    have c' : ¬ (!(ts.length == 2 || ts.length == 3) || vs.length != ts.length || ScopeKind.function != ScopeKind.function) = true := by
      intro z
      rw [Bool.or_eq_true] at z
      rcases z with z | z
      · exact c z
      · exact absurd z (by decide)
    simp only [if_neg c']
    split at h
    · rename_i c2
      cases h
      exact (if_pos c2).trans rfl
    · rename_i c2
      refine (if_neg c2).trans ?_
      simp only at h ⊢
      split at h
      · rename_i c3
        cases h
        exact (if_pos c3).trans rfl
      · rename_i c3
        refine (if_neg c3).trans ?_
        split at h
        · rename_i c4
          cases h
          exact (if_pos c4).trans rfl
        · rename_i c4
          refine (if_neg c4).trans ?_
          split at h
          · cases h
          · rename_i c5
            refine (if_neg c5).trans ?_
            cases h
            rfl
end
end VI

set_option Elab.async false
set_option linter.all false
set_option maxRecDepth 100000
set_option maxHeartbeats 4000000
/-! VI, part 17: every statement. -/
namespace VI
open PySem L2
def asgN : Stmt → Option (Str × Pos × Expr × Pos)
  | .Assign [.Name x p] e q => some (x, p, e, q)
  | _ => none
theorem asgN_eq {t : Stmt} {r} (h : asgN t = some r) : t = .Assign [.Name r.1 r.2.1] r.2.2.1 r.2.2.2 := by unfold asgN at h; split at h <;> cases h; rfl
def asgT : Stmt → Option (List Expr × Nat × Pos × Expr × Pos)
  | .Assign [.Tuple ts k p] e q => some (ts, k, p, e, q)
  | _ => none
theorem asgT_eq {t : Stmt} {r} (h : asgT t = some r) : t = .Assign [.Tuple r.1 r.2.1 r.2.2.1] r.2.2.2.1 r.2.2.2.2 := by unfold asgT at h; split at h <;> cases h; rfl
def asgS : Stmt → Option (Expr × Expr × Pos × Expr × Pos)
  | .Assign [.Subscript o i p] e q => some (o, i, p, e, q)
  | _ => none
theorem asgS_eq {t : Stmt} {r} (h : asgS t = some r) : t = .Assign [.Subscript r.1 r.2.1 r.2.2.1] r.2.2.2.1 r.2.2.2.2 := by unfold asgS at h; split at h <;> cases h; rfl
def asAug : Stmt → Option (Str × Pos × Operator × Expr × Pos)
  | .AugAssign (.Name x p) o e q => some (x, p, o, e, q)
  | _ => none
theorem asAug_eq {t : Stmt} {r} (h : asAug t = some r) : t = .AugAssign (.Name r.1 r.2.1) r.2.2.1 r.2.2.2.1 r.2.2.2.2 := by unfold asAug at h; split at h <;> cases h; rfl
def asExp : Stmt → Option (Expr × Pos)
  | .Expr e q => some (e, q)
  | _ => none
theorem asExp_eq {t : Stmt} {r} (h : asExp t = some r) : t = .Expr r.1 r.2 := by unfold asExp at h; split at h <;> cases h; rfl
def asIfS : Stmt → Option (Expr × List Stmt × List Stmt × Pos)
  | .If c a b q => some (c, a, b, q)
  | _ => none
theorem asIfS_eq {t : Stmt} {r} (h : asIfS t = some r) : t = .If r.1 r.2.1 r.2.2.1 r.2.2.2 := by unfold asIfS at h; split at h <;> cases h; rfl
def asFor : Stmt → Option (Expr × Expr × List Stmt × Pos)
  | .For tg it b [] q => some (tg, it, b, q)
  | _ => none
theorem asFor_eq {t : Stmt} {r} (h : asFor t = some r) : t = .For r.1 r.2.1 r.2.2.1 [] r.2.2.2 := by unfold asFor at h; split at h <;> cases h; rfl
def asWhile : Stmt → Option (Expr × List Stmt × Pos)
  | .While c b [] q => some (c, b, q)
  | _ => none
theorem asWhile_eq {t : Stmt} {r} (h : asWhile t = some r) : t = .While r.1 r.2.1 [] r.2.2 := by unfold asWhile at h; split at h <;> cases h; rfl
def asRet : Stmt → Option (Option Expr × Pos)
  | .Return e q => some (e, q)
  | _ => none
theorem asRet_eq {t : Stmt} {r} (h : asRet t = some r) : t = .Return r.1 r.2 := by unfold asRet at h; split at h <;> cases h; rfl
def isBrk : Stmt → Bool
  | .Break _ => true
  | _ => false
def isPass : Stmt → Bool
  | .Pass _ => true
  | .Expr (.Constant (.str _) _ _) _ => true
  | _ => false
def noComp : Expr → Bool
  | .ListComp _ _ _ _ => false
  | .SetComp _ _ _ _ => false
  | .DictComp _ _ _ _ _ => false
  | _ => true
def isComp : E → Bool
  | .comp _ _ _ _ => true
  | _ => false
def allLocal (sc : Scope) (xs : List Str) : Bool := xs.all fun x => decide (sc.names.lookup x = some .local)
/-- a, b = .. : which way the stores go -/
def parB (c : Ck) (sc : Scope) (is : List Nat) (ts vs : List Expr) : Bool := match swNames sc ts vs with
  | some none => patBL c sc is ts && decide (is.length ≤ 10)
  | some (some xs) => (match is, ts with
    | [i, j], [.Name x _, .Name y _] => decide (xs = [x, y]) && (allLocal sc [x, y] && (decide (i ≠ j) && (decide (c.N[i]? = some x) && decide (c.N[j]? = some y))))
    | [i, j, l], [.Name x _, .Name y _, .Name z _] => decide (xs = [x, y, z]) && (allLocal sc [x, y, z] && (decide (i ≠ j) && (decide (i ≠ l) && (decide (j ≠ l) && (decide (c.N[i]? = some x) && (decide (c.N[j]? = some y) && decide (c.N[l]? = some z)))))))
    | _, _ => false)
  | none => false
def parE (c : Ck) (sc : Scope) : List (Nat × Nat) → Es → List Expr → Bool
  | [], .nil, [] => true
  | (_, 0) :: is, .cons e es, x :: xs => chkE c sc e x && (decide (lev e = 0) && parE c sc is es xs)
  | (_, _ + 1) :: is, .cons e es, x :: xs => chkE c sc e x && (fresh e && parE c sc is es xs)
  | _, _, _ => false
mutual
def chkS (c : Ck) (sc : Scope) : S → Stmt → Bool
  | .set i e, t => (match asgN t with
    | some (x, _, v, _) => decide (c.N[i]? = some x) && (locB sc x && (chkE c sc e v && (decide (lev e = 0) && (noComp v || isComp e))))
    | none => false)
  | .own i e, t => (match asgN t with
    | some (x, _, v, _) => decide (c.N[i]? = some x) && (locB sc x && (chkE c sc e v && (fresh e && (noComp v || isComp e))))
    | none => false)
  | .own2 i, t => (match asgN t with
    | some (x, _, v, _) => decide (c.N[i]? = some x) && (locB sc x && (match asLst v with
      | some ([], _) => true
      | _ => false))
    | none => false)
  | .newo i es, t => (match asgN t with
    | some (x, _, v, _) => decide (c.N[i]? = some x) && (locB sc x && (match asLst v with
      | some (xs, _) => chkEs c sc es xs
      | _ => false))
    | none => false)
  | .unp is e, t => (match asgT t with
    | some (ts, _, _, v, _) => patBL c sc is ts && (chkE c sc e v && (decide (lev e = 0) && decide (asTup v = none)))
    | none => false)
  | .par is es, t => (match asgT t with
    | some (ts, _, _, v, _) => (match asTup v with
      | some (vs, _, _) => parB c sc (is.map (·.1)) ts vs && parE c sc is es vs
      | none => false)
    | none => false)
  | .putset i k a j b, t => (match asgT t with
    | some ([o2, y], _, _, v, _) => (match asSub o2 with
      | some (o, u, _) => (match asTup v with
        | some ([x1, x2], _, _) => (match asName o with
          | some (x, _) => nameB c sc i x
          | none => false) && (chkE c sc k u && (decide (lev k = 0) && (chkE c sc a x1 && (decide (lev a = 0) && (chkE c sc b x2 && (decide (lev b = 0) && (patB1 c sc j y && decide (swNames sc [o2, y] [x1, x2] = some none))))))))
        | _ => false)
      | none => false)
    | _ => false)
  | .app i e, t => (match asExp t with
    | some (v, _) => (match asMeth v with
      | some (o, m, apos, y, [], pos) => methB o m "append" apos pos 1 && ((match asName o with
        | some (x, _) => nameB c sc i x
        | none => false) && (chkE c sc e y && decide (lev e = 0)))
      | _ => false)
    | none => false)
  | .app2 i, t => (match asExp t with
    | some (v, _) => (match asMeth v with
      | some (o, m, apos, y, [], pos) => methB o m "append" apos pos 1 && ((match asName o with
        | some (x, _) => nameB c sc i x
        | none => false) && (match asLst y with
          | some ([], _) => true
          | _ => false))
      | _ => false)
    | none => false)
  | .appi i j e, t => (match asExp t with
    | some (v, _) => (match asMeth v with
      | some (o, m, apos, y, [], pos) => methB o m "append" apos pos 1 && ((match asSub o with
        | some (z, u, _) => (match asName z with
          | some (x, _) => nameB c sc i x
          | none => false) && (chkE c sc j u && decide (lev j = 0))
        | none => false) && (chkE c sc e y && decide (lev e = 0)))
      | _ => false)
    | none => false)
  | .put i k e, t => (match asgS t with
    | some (o, u, _, v, _) => (match asName o with
      | some (x, _) => nameB c sc i x
      | none => false) && (chkE c sc k u && (decide (lev k = 0) && (chkE c sc e v && (decide (lev e = 0) && noComp v))))
    | none => false)
  | .aug i o e, t => (match asAug t with
    | some (x, _, op, v, _) => decide (c.N[i]? = some x) && (locB sc x && (chkE c sc e v && (decide (lev e = 0) && ((decide (o = .add) && decide (op = .Add)) || (decide (o = .sub) && decide (op = .Sub))))))
    | none => false)
  | .ex e, t => (match asExp t with
    | some (v, _) => chkE c sc e v && noComp v
    | none => false)
  | .ite d a b, t => (match asIfS t with
    | some (u, x, y, _) => chkE c sc d u && (chkSs c sc a x && chkSs c sc b y)
    | none => false)
  | .for_ p it b, t => (match asFor t with
    | some (tg, iter, x, _) => chkI c sc it iter tg && (patB c sc p tg && (chkSs c sc b x && notSet iter))
    | none => false)
  | .while_ d b, t => (match asWhile t with
    | some (u, x, _) => chkE c sc d u && chkSs c sc b x
    | none => false)
  | .ret e, t => (match asRet t with
    | some (some v, _) => chkE c sc e v && decide (lev e = 0)
    | _ => false)
  | .retN, t => (match asRet t with
    | some (none, _) => true
    | _ => false)
  | .brk, t => isBrk t
  | .pass, t => isPass t
  | .stk, _ => true
  | .raise_ _ _, _ => false
  | .tryset _ _ _ _ _ _, _ => false
def chkSs (c : Ck) (sc : Scope) : Ss → List Stmt → Bool
  | .nil, [] => true
  | .cons s ss, t :: ts => chkS c sc s t && chkSs c sc ss ts
  | .frz _ ss, ts => chkSs c sc ss ts
  | .frz1 _ ss, ts => chkSs c sc ss ts
  | _, _ => false
end
theorem _root_.L2.PS.imp {X : Cx} {e : Stmt} {t t' : TS} (h : PS X e t) (g : ∀ D σ H, t' D σ H → t D σ H) : PS X e t' := ⟨fun pins s σ H D I q => h.run pins s σ H D I (g D σ H q)⟩
theorem _root_.L2.PSs.imp {X : Cx} {e : List Stmt} {t t' : TS} (h : PSs X e t) (g : ∀ D σ H, t' D σ H → t D σ H) : PSs X e t' := ⟨fun pins s σ H D I q => h.run pins s σ H D I (g D σ H q)⟩
structure Gs (P : Pm) (G : Glo) (c : Ck) (scp : Scope) (X : Cx) : Prop extends Gd P G c scp X where
  blk : X.env.blockKind = .function
  sto : Sto X scp
  pass : PassesOwn (model X.prog X.w) X.A X.env X.xe
section
variable {P : Pm} {W : WX} {G : Glo} {c : Ck} {X : Cx} {sc : Scope}
theorem swaps_none {e : Expr} {tg : Option Expr} {l : Nat} {env : PySem.Env} (h : noComp e = true) : swapsWith e tg l env = pure false := by
  cases e <;> first | rfl | (cases h; done)
theorem swaps_other {e : Expr} {ts : List Expr} {k : Nat} {p : Pos} {l : Nat} {env : PySem.Env} : swapsWithSole [.Tuple ts k p] e l env = pure false := by
  cases e <;> rfl
theorem swaps_sub {e o i : Expr} {p : Pos} {l : Nat} {env : PySem.Env} : swapsWithSole [.Subscript o i p] e l env = pure false := by
  cases e <;> rfl
theorem stores_sub {e o i : Expr} {p : Pos} {env : PySem.Env} : swappedStores [.Subscript o i p] e env = pure none := by
  cases e <;> rfl
theorem stores_none {e : Expr} {ts : List Expr} {k : Nat} {p : Pos} {env : PySem.Env} (h : asTup e = none) : swappedStores [.Tuple ts k p] e env = pure none := by
  cases e <;> first | rfl | (cases h; done)
def swpB (sc : Scope) (x : Str) (p : Pos) (e : Expr) (s : Scope) : Bool := (decide (sc.names.lookup x = some .local) && p.line == e.pos.line) && !(s.names.any fun (n, k) => n == x && (k == .local || k == .cell))
theorem swaps_comp {elt : Expr} {gs : List Comprehension} {s : Scope} {pos : Pos} {x : Str} {p : Pos} {l : Nat} {env : PySem.Env} (hb : env.blockKind = .function) :
    swapsWith (.ListComp elt gs s pos) (some (.Name x p)) l env = pure (swpB env.scope x p (.ListComp elt gs s pos) s) := by
  show pure (env.blockKind == .function && env.kindOf x == some .local && p.line == _ && !(s.names.any fun (n, k) => n == x && (k == .local || k == .cell))) = _
  rw [hb]
  unfold swpB
  congr 2
  congr 1
  show (true && (env.scope.names.lookup x == some .local)) = _
  rw [Bool.true_and, Bool.eq_iff_iff]
  simp
theorem ps_setX {i : Nat} {x : Str} {e : Expr} {te : TE} {pos pos' : Pos} (g : Gs P G c sc X) (hi : c.N[i]? = some x) (hx : locB sc x = true) (he : PE X e te) (hs : swapsWith e (some (.Name x pos')) pos.line X.env = pure false) :
    PS X (.Assign [.Name x pos'] e pos) (tAsg te (gName i)) :=
  ps_set (by rw [g.N]; exact g.nd) (by rw [g.N]; exact hi) (g.sto.loc x hx) he hs (g.sto.fn x hx)
/-- a comprehension given to a name -/
theorem ps_setC {i : Nat} {x : Str} {e : E} {v : Expr} {pos pos' : Pos} (g : Gs P G c sc X) (tk : Takes X W) (hi : c.N[i]? = some x) (hx : locB sc x = true) (h : chkE c sc e v = true) (hc : isComp e = true) :
    PS X (.Assign [.Name x pos'] v pos) (tAsg (tX P W (ev G e .v) (RN P)) (gName i)) := by
  cases e <;> first | (cases hc; done) | skip
  rename_i p it d e
  have hv := (snd_E (W := W) (.comp p it d e) g.toGd tk h).pf rfl
  simp only [chkE] at h
  split at h
  · rename_i elt tg iter ifs scope cpos q
    have := asComp_eq q
    subst this
    simp only [Bool.and_eq_true, decide_eq_true_eq] at h
    obtain ⟨h1, h2, h3, h4, h5, h6, h7⟩ := h
    cases hsw : swpB X.env.scope x pos' (.ListComp elt [⟨tg, iter, ifs, 0⟩] scope cpos) scope with
    | false => exact ps_setX g hi hx hv ((swaps_comp g.blk).trans (by rw [hsw]))
    | true =>
      have hlo : X.env.scope.names.lookup x = some .local := by
        unfold swpB at hsw
        simp only [Bool.and_eq_true, decide_eq_true_eq] at hsw
        exact hsw.1.1
      refine (ps_setLc (i := i) (y := x) (py := pos') (spos := pos) g.calm (by rw [g.N]; exact g.nd) (by rw [g.N]; exact hi) hlo ((swaps_comp g.blk).trans (by rw [hsw])) (snd_I it g.toGd tk h1) (blkOk_by (own := ownOf c p) (by rw [g.N, g.sc]; exact h3))
        (fun s H C cl fp => pg_pat (P := P) (c := c) (sc := scope) g.K g.calm g.N g.nd (Sto.blk g.toGd s H scope C cl fp) h2)
        (fun s H C cl fp => snd_C d (g.toGd.blk s H scope C cl fp) (takes_blk s H scope _ fp) h4)
        (fun s H C cl fp => lev0 h6 (snd_E e (g.toGd.blk s H scope C cl fp) (takes_blk s H scope _ fp) h5).pv)
        (fun x => folded_of h7 x)).imp fun D σ H z => ?_
      rw [own_snd]
      exact r_comp z
  · cases h
theorem frz_asg {m : Env → M VI.D} {i : Nat} {D : Ends} {σ : Stt} {H : Hp} (h : tAsg (tX P W m (RV P 0)) (gName i) D σ H) : tAsg (tX P W m (RN P)) (gName i) D σ H := tX_frz h
theorem nm_of {i : Nat} {o : Expr} (g : Gd P G c sc X) (h : (match asName o with
    | some (x, _) => nameB c sc i x
    | none => false) = true) : PE X o (tVar i) ∧ notStar o = true ∧ notCall0 o = true := by
  split at h
  · rename_i q
    have := asName_eq q
    subst this
    exact ⟨pe_name g h, rfl, rfl⟩
  · cases h
theorem pe_app {o y : Expr} {m : Str} {apos pos : Pos} {to : TE} {t : TA} (hK : X.K = P.K) (ho : PE X o to) (ha : PA X [y] t) (hb : methB o m "append" apos pos 1 = true) (hs : notStar y = true) :
    PE X (.Call (.Attribute o m apos) [y] [] pos) (tBM P.K "list" rAppend to t) := by
  unfold methB at hb
  simp only [Bool.and_eq_true, decide_eq_true_eq] at hb
  obtain ⟨rfl, hl, hc0, _⟩ := hb
  refine (pe_bm PySem.F.plainAttrs_list PySem.F.slot_list_append PySem.F.type_list_append mt_append ho ha (base_of hc0 _) ?_ hl (star_of hs) rfl).imp fun _ _ _ z => by rw [hK]; exact z
  rw [back_all (by rw [List.all_cons, hs]; rfl)]; rfl
theorem parE_pa {W : WX} (g : Gd P G c sc X) (tk : Takes X W) : ∀ {is : List (Nat × Nat)} {es : Es} {xs : List Expr}, parE c sc is es xs = true → PA X xs (tX P W (evs G es) (RK P is)) ∧ xs.all notStar = true
  | [], .nil, [], _ => ⟨pk_nilX, rfl⟩
  | [], .nil, _ :: _, h => by cases h
  | [], .cons _ _, _, h => by cases h
  | (_, 0) :: is, .cons e es, x :: xs, h => by
    simp only [parE, Bool.and_eq_true, decide_eq_true_eq] at h
    obtain ⟨p, q⟩ := parE_pa g tk h.2.2
    have hs := (good_of (chk_good h.1)).1
    exact ⟨pk_cons0 (lev0 h.2.1 (snd_E e g tk h.1).pv) p hs, by rw [List.all_cons, hs, q]; rfl⟩
  | (_, n + 1) :: is, .cons e es, x :: xs, h => by
    simp only [parE, Bool.and_eq_true] at h
    obtain ⟨p, q⟩ := parE_pa g tk h.2.2
    have hs := (good_of (chk_good h.1)).1
    exact ⟨pk_consN (Nat.succ_ne_zero n) ((snd_E e g tk h.1).pf h.2.1) p hs, by rw [List.all_cons, hs, q]; rfl⟩
  | (_, 0) :: _, .nil, _, h => by simp [parE] at h
  | (_, 0) :: _, .cons _ _, [], h => by simp [parE] at h
  | (_, _ + 1) :: _, .nil, _, h => by simp [parE] at h
  | (_, _ + 1) :: _, .cons _ _, [], h => by simp [parE] at h
theorem ps_parX {W : WX} {is : List (Nat × Nat)} {es : Es} {ts vs : List Expr} {k k2 : Nat} {p p2 pos : Pos} (g : Gs P G c sc X) (tk : Takes X W) (h1 : parB c sc (is.map (·.1)) ts vs = true) (h2 : parE c sc is es vs = true) :
    PS X (.Assign [.Tuple ts k p] (.Tuple vs k2 p2) pos) (tS P W (exec G (.par is es))) := by
  obtain ⟨pa, hst⟩ := parE_pa (W := W) g.toGd tk h2
  unfold parB at h1
  split at h1
  · rename_i hsw
    simp only [Bool.and_eq_true, decide_eq_true_eq] at h1
    obtain ⟨pg, hl, hf⟩ := pgs_all (X := X) g.N g.nd g.sto h1.1
    refine (ps_asg (pe_tup pa) (pg_tup g.calm pg hl hf) swaps_other (sw_eq g.sc g.blk hsw)).imp fun D σ H z => ?_
    rw [g.K, List.length_map]
    rw [List.length_map] at h1
    exact r_parT h1.2 z
  · rename_i xs hsw
    split at h1
    · rename_i i j x _ y _ q
      simp only [Bool.and_eq_true, decide_eq_true_eq, allLocal, List.all_cons, List.all_nil, Bool.and_true] at h1
      obtain ⟨rfl, ⟨hx, hy⟩, hij, hi, hj⟩ := h1
      have hN : X.N.Nodup := by rw [g.N]; exact g.nd
      match vs, pa, hsw, h2 with
      | [a, b], pa, hsw, h2 =>
        refine (ps_par g.calm hN (by rw [g.N]; exact hi) (by rw [g.N]; exact hj) hij (by rw [g.sc]; exact hx) (by rw [g.sc]; exact hy) pa (sw_eq g.sc g.blk hsw) swaps_other).imp fun D σ H z => ?_
        refine tX_mono (r_par z) fun us H1 hh => ?_
        rw [q] at hh
        obtain ⟨v, r, rfl, v2, r2, rfl, rfl, hh⟩ := hh
        exact ⟨v, v2, rfl, hh⟩
      | [], pa, hsw, h2 => simp [swNames] at hsw
      | [_], pa, hsw, h2 => simp [swNames] at hsw
      | _ :: _ :: _ :: _, pa, hsw, h2 => simp [swNames] at hsw
    · rename_i i j l x _ y _ z _ q
      simp only [Bool.and_eq_true, decide_eq_true_eq, allLocal, List.all_cons, List.all_nil, Bool.and_true] at h1
      obtain ⟨rfl, ⟨hx, hy, hz⟩, hij, hil, hjl, hi, hj, hl⟩ := h1
      have hN : X.N.Nodup := by rw [g.N]; exact g.nd
      match vs, pa, hsw, h2 with
      | [a, b, d], pa, hsw, h2 =>
        refine (ps_par3 g.calm hN (by rw [g.N]; exact hi) (by rw [g.N]; exact hj) (by rw [g.N]; exact hl) hij hil hjl (by rw [g.sc]; exact hx) (by rw [g.sc]; exact hy) (by rw [g.sc]; exact hz) pa (sw_eq g.sc g.blk hsw) swaps_other).imp fun D σ H z => ?_
        refine tX_mono (r_par z) fun us H1 hh => ?_
        rw [q] at hh
        obtain ⟨v, r, rfl, v2, r2, rfl, v3, r3, rfl, rfl, hh⟩ := hh
        exact ⟨v, v2, v3, rfl, hh⟩
      | [], pa, hsw, h2 => simp [swNames] at hsw
      | [_], pa, hsw, h2 => simp [swNames] at hsw
      | [_, _], pa, hsw, h2 => simp [swNames] at hsw
      | _ :: _ :: _ :: _ :: _, pa, hsw, h2 => simp [swNames] at hsw
    · cases h1
  · cases h1
end
end VI

set_option Elab.async false
set_option linter.all false
set_option maxRecDepth 100000
set_option maxHeartbeats 4000000
/-! VI, part 18: every statement keeps what the small language says of it; every def its promise. -/
namespace VI
open PySem L2
section
variable {P : Pm} {G : Glo} {c : Ck}
theorem assign_sub {o u : Expr} {pos : Pos} {env : PySem.Env} (h : notSlice u = true) (v : Value) : assign (.Subscript o u pos) env v = (do
      let ov ← holding [v] (eval o env)
      let iv ← holding [v, ov] (eval u env)
      standAt pos
      holding [v, ov, iv] (setItem ov iv v)
      release [v, ov, iv] []) := by
  cases u <;> first | rfl | (cases h; done)
mutual
theorem snd_S : ∀ (s : S) {X : Cx} {W : WX} {sc : Scope} {t : Stmt}, Gs P G c sc X → Takes X W → chkS c sc s t = true → PS X t (tS P W (exec G s))
  | .set i e, X, W, sc, t, g, tk, h => by
    simp only [chkS] at h
    split at h
    · rename_i x p v pos q
      have := asgN_eq q
      subst this
      simp only [Bool.and_eq_true, Bool.or_eq_true, decide_eq_true_eq] at h
      obtain ⟨h1, h2, h3, h4, h5⟩ := h
      rcases h5 with h5 | h5
      · exact (ps_setX g h1 h2 (snd_E e g.toGd tk h3).pv (swaps_none h5)).imp fun _ _ _ z => r_set h4 z
      · refine (ps_setC (W := W) g tk h1 h2 h3 h5).imp fun _ _ _ z => frz_asg ?_
        have := r_set h4 z
        rw [h4] at this
        exact this
    · cases h
  | .own i e, X, W, sc, t, g, tk, h => by
    simp only [chkS] at h
    split at h
    · rename_i x p v pos q
      have := asgN_eq q
      subst this
      simp only [Bool.and_eq_true, Bool.or_eq_true, decide_eq_true_eq] at h
      obtain ⟨h1, h2, h3, h4, h5⟩ := h
      rcases h5 with h5 | h5
      · exact (ps_setX g h1 h2 ((snd_E e g.toGd tk h3).pf h4) (swaps_none h5)).imp fun _ _ _ z => r_own z
      · exact (ps_setC (W := W) g tk h1 h2 h3 h5).imp fun _ _ _ z => r_own z
    · cases h
  | .own2 i, X, W, sc, t, g, tk, h => by
    simp only [chkS] at h
    split at h
    · rename_i x p v pos q
      have := asgN_eq q
      subst this
      simp only [Bool.and_eq_true, decide_eq_true_eq] at h
      obtain ⟨h1, h2, h3⟩ := h
      split at h3
      · rename_i q2
        have := asLst_eq q2
        subst this
        exact (ps_setX g h1 h2 (pe_lst pa_nil) (swaps_none rfl)).imp fun _ _ _ z => r_own2 z
      · cases h3
    · cases h
  | .newo i es, X, W, sc, t, g, tk, h => by
    simp only [chkS] at h
    split at h
    · rename_i x p v pos q
      have := asgN_eq q
      subst this
      simp only [Bool.and_eq_true, decide_eq_true_eq] at h
      obtain ⟨h1, h2, h3⟩ := h
      split at h3
      · rename_i q2
        have := asLst_eq q2
        subst this
        exact (ps_setX g h1 h2 (pe_lst (snd_Es es g.toGd tk h3)) (swaps_none rfl)).imp fun _ _ _ z => r_newo z
      · cases h3
    · cases h
  | .unp is e, X, W, sc, t, g, tk, h => by
    simp only [chkS] at h
    split at h
    · rename_i ts k p v pos q
      have := asgT_eq q
      subst this
      simp only [Bool.and_eq_true, decide_eq_true_eq] at h
      obtain ⟨h1, h2, h3, h4⟩ := h
      obtain ⟨pg, hl, hf⟩ := pgs_all (X := X) g.N g.nd g.sto h1
      exact (ps_asg (snd_E e g.toGd tk h2).pv (pg_tup g.calm pg hl hf) swaps_other (stores_none h4)).imp fun _ _ _ z => by rw [g.K]; exact r_unp h3 z
    · cases h
  | .par is es, X, W, sc, t, g, tk, h => by
    simp only [chkS] at h
    split at h
    · rename_i ts k p v pos q
      have := asgT_eq q
      subst this
      split at h
      · rename_i vs k2 p2 q2
        have := asTup_eq q2
        subst this
        rw [Bool.and_eq_true] at h
        exact ps_parX g tk h.1 h.2
      · cases h
    · cases h
  | .putset i k a j b, X, W, sc, t, g, tk, h => by
    simp only [chkS] at h
    split at h
    case h_2 => cases h
    rename_i o2 y tk2 tp v pos q
    have := asgT_eq q
    subst this
    split at h
    case h_2 => cases h
    rename_i o u sp q2
    have := asSub_eq q2
    subst this
    split at h
    case h_2 => cases h
    rename_i x1 x2 vk vp q3
    have := asTup_eq q3
    subst this
    rw [Bool.and_eq_true] at h
    obtain ⟨h1, h⟩ := h
    simp only [Bool.and_eq_true, decide_eq_true_eq] at h
    obtain ⟨h2, h3, h4, h5, h6, h7, h8, h9⟩ := h
    obtain ⟨po, _, _⟩ := nm_of g.toGd h1
    have pa : PA X [x1, x2] _ := pa_cons (snd_E a g.toGd tk h4).pv (pa_cons (snd_E b g.toGd tk h6).pv pa_nil (star_of (good_of (chk_good h6)).1)) (star_of (good_of (chk_good h4)).1)
    have hset := rPutA_ok (X := X) (by have := units_of g.toGd; omega)
    rw [g.W] at hset
    have gy := pg_one (X := X) g.N g.nd g.sto h8
    obtain ⟨yx, yp, rfl, _, _⟩ := patB1_eq h8
    refine (ps_asg (pe_tup pa) (pg_tup g.calm (pgs_cons (pg_sub po (snd_E k g.toGd tk h2).pv hset (assign_sub (good_of (chk_good h2)).2.1)) (pgs_cons gy pgs_nil rfl) rfl) rfl rfl) swaps_other (sw_eq g.sc g.blk h9)).imp fun D σ H z => ?_
    rw [g.K]
    exact r_putset h3 h5 h7 z
  | .app i e, X, W, sc, t, g, tk, h => by
    simp only [chkS] at h
    split at h
    · rename_i v pos q
      have := asExp_eq q
      subst this
      split at h
      · rename_i o m apos y cpos q2
        have := asMeth_eq q2
        subst this
        rw [Bool.and_eq_true, Bool.and_eq_true, Bool.and_eq_true] at h
        obtain ⟨h1, h2, h3, h4⟩ := h
        have h4 := of_decide_eq_true h4
        obtain ⟨po, _, _⟩ := nm_of g.toGd h2
        have hs := (good_of (chk_good h3)).1
        exact (ps_expr (pe_app g.K po (pa_cons (snd_E e g.toGd tk h3).pv pa_nil (star_of hs)) h1 hs) (swaps_none rfl)).imp fun _ _ _ z => r_app h4 z
      · cases h
    · cases h
  | .app2 i, X, W, sc, t, g, tk, h => by
    simp only [chkS] at h
    split at h
    · rename_i v pos q
      have := asExp_eq q
      subst this
      split at h
      · rename_i o m apos y cpos q2
        have := asMeth_eq q2
        subst this
        rw [Bool.and_eq_true, Bool.and_eq_true] at h
        obtain ⟨h1, h2, h3⟩ := h
        obtain ⟨po, _, _⟩ := nm_of g.toGd h2
        split at h3
        · rename_i q3
          have := asLst_eq q3
          subst this
          exact (ps_expr (pe_app g.K po (pa_cons (pe_lst pa_nil) pa_nil rfl) h1 rfl) (swaps_none rfl)).imp fun _ _ _ z => r_app2 z
        · cases h3
      · cases h
    · cases h
  | .appi i j e, X, W, sc, t, g, tk, h => by
    simp only [chkS] at h
    split at h
    · rename_i v pos q
      have := asExp_eq q
      subst this
      split at h
      · rename_i o m apos y cpos q2
        have := asMeth_eq q2
        subst this
        rw [Bool.and_eq_true, Bool.and_eq_true, Bool.and_eq_true] at h
        obtain ⟨h1, h2, h3, h4⟩ := h
        have h4 := of_decide_eq_true h4
        split at h2
        · rename_i z u spos q3
          have := asSub_eq q3
          subst this
          rw [Bool.and_eq_true, Bool.and_eq_true] at h2
          obtain ⟨h5, h6, h7⟩ := h2
          have h7 := of_decide_eq_true h7
          obtain ⟨po, _, _⟩ := nm_of g.toGd h5
          have hs := (good_of (chk_good h3)).1
          have hr := ix_seq (X := X)
          rw [g.K] at hr
          exact (ps_expr (pe_app g.K (pe_ix hr po (snd_E j g.toGd tk h6).pv (plainIx_of (good_of (chk_good h6)).2.1)) (pa_cons (snd_E e g.toGd tk h3).pv pa_nil (star_of hs)) h1 hs) (swaps_none rfl)).imp fun _ _ _ z => r_appi h7 h4 z
        · cases h2
      · cases h
    · cases h
  | .put i k e, X, W, sc, t, g, tk, h => by
    simp only [chkS] at h
    split at h
    · rename_i o u p v pos q
      have := asgS_eq q
      subst this
      rw [Bool.and_eq_true, Bool.and_eq_true, Bool.and_eq_true, Bool.and_eq_true, Bool.and_eq_true] at h
      obtain ⟨h1, h2, h3, h4, h5, h6⟩ := h
      have h3 := of_decide_eq_true h3
      have h5 := of_decide_eq_true h5
      obtain ⟨po, _, _⟩ := nm_of g.toGd h1
      have hset := rPutA_ok (X := X) (by have := units_of g.toGd; omega)
      rw [g.W] at hset
      exact (ps_asg (snd_E e g.toGd tk h4).pv (pg_sub po (snd_E k g.toGd tk h2).pv hset (assign_sub (good_of (chk_good h2)).2.1)) swaps_sub stores_sub).imp fun _ _ _ z => r_put h3 h5 z
    · cases h
  | .aug i o e, X, W, sc, t, g, tk, h => by
    simp only [chkS] at h
    split at h
    · rename_i x p op v pos q
      have := asAug_eq q
      subst this
      simp only [Bool.and_eq_true, Bool.or_eq_true, decide_eq_true_eq] at h
      obtain ⟨h1, h2, h3, h4, h5⟩ := h
      rcases h5 with ⟨rfl, rfl⟩ | ⟨rfl, rfl⟩
      · exact (ps_aug (by rw [g.N]; exact g.nd) (by rw [g.N]; exact h1) (g.sto.loc x h2) (snd_E e g.toGd tk h3).pv ip_add (g.sto.fn x h2)).imp fun _ _ _ z => r_aug h4 (fun i j => i + j) (fun _ _ => rfl) z
      · exact (ps_aug (by rw [g.N]; exact g.nd) (by rw [g.N]; exact h1) (g.sto.loc x h2) (snd_E e g.toGd tk h3).pv ip_sub (g.sto.fn x h2)).imp fun _ _ _ z => r_aug h4 (fun i j => i - j) (fun _ _ => rfl) z
    · cases h
  | .ex e, X, W, sc, t, g, tk, h => by
    simp only [chkS] at h
    split at h
    · rename_i v pos q
      have := asExp_eq q
      subst this
      rw [Bool.and_eq_true] at h
      exact (ps_expr (snd_E e g.toGd tk h.1).pv (swaps_none h.2)).imp fun _ _ _ z => r_ex z
    · cases h
  | .ite d a b, X, W, sc, t, g, tk, h => by
    simp only [chkS] at h
    split at h
    · rename_i q
      have := asIfS_eq q
      subst this
      rw [Bool.and_eq_true, Bool.and_eq_true] at h
      exact (ps_if (snd_E d g.toGd tk h.1).pt (snd_Ss a g tk h.2.1) (snd_Ss b g tk h.2.2)).imp fun _ _ _ z => r_if z
    · cases h
  | .for_ p it b, X, W, sc, t, g, tk, h => by
    simp only [chkS] at h
    split at h
    · rename_i q
      have := asFor_eq q
      subst this
      simp only [Bool.and_eq_true] at h
      obtain ⟨h1, h2, h3, h4⟩ := h
      exact (ps_for g.pass g.calm (snd_I it g.toGd tk h1) (pg_pat (P := P) (c := c) (sc := sc) g.K g.calm g.N g.nd g.sto h2) (snd_Ss b g tk h3) (folded_of h4)).imp fun _ _ _ z => r_for z
    · cases h
  | .while_ d b, X, W, sc, t, g, tk, h => by
    simp only [chkS] at h
    split at h
    · rename_i q
      have := asWhile_eq q
      subst this
      rw [Bool.and_eq_true] at h
      exact (ps_while g.pass (snd_E d g.toGd tk h.1).pt (snd_Ss b g tk h.2)).imp fun _ _ _ z => r_while z
    · cases h
  | .ret e, X, W, sc, t, g, tk, h => by
    simp only [chkS] at h
    split at h
    · rename_i v pos q
      have := asRet_eq q
      subst this
      simp only [Bool.and_eq_true, decide_eq_true_eq] at h
      exact (ps_ret (snd_E e g.toGd tk h.1).pv).imp fun _ _ _ z => r_retS h.2 z
    · cases h
  | .retN, X, W, sc, t, g, tk, h => by
    simp only [chkS] at h
    split at h
    · rename_i q
      have := asRet_eq q
      subst this
      exact ps_retN.imp fun _ _ _ z => r_retN z
    · cases h
  | .brk, X, W, sc, t, g, tk, h => by
    simp only [chkS] at h
    cases t <;> first | (cases h; done) | skip
    exact ps_break.imp fun _ _ _ z => r_brk z
  | .pass, X, W, sc, t, g, tk, h => by
    simp only [chkS] at h
    unfold isPass at h
    split at h
    · exact ps_pass.imp fun _ _ _ z => r_pass z
    · exact ps_doc.imp fun _ _ _ z => r_pass z
    · cases h
  | .stk, X, W, sc, t, g, tk, h => ps_never.imp fun _ _ _ z => r_stk z
  | .raise_ _ _, X, W, sc, t, g, tk, h => by simp [chkS] at h
  | .tryset _ _ _ _ _ _, X, W, sc, t, g, tk, h => by simp [chkS] at h
theorem snd_Ss : ∀ (ss : Ss) {X : Cx} {W : WX} {sc : Scope} {ts : List Stmt}, Gs P G c sc X → Takes X W → chkSs c sc ss ts = true → PSs X ts (tS P W (execs G ss))
  | .nil, X, W, sc, ts, g, tk, h => by
    cases ts with
    | nil => exact pss_nil.imp fun _ _ _ z => r_nilS z
    | cons _ _ => simp [chkSs] at h
  | .cons s ss, X, W, sc, ts, g, tk, h => by
    cases ts with
    | nil => simp [chkSs] at h
    | cons t ts =>
      simp only [chkSs, Bool.and_eq_true] at h
      exact (pss_cons (snd_S s g tk h.1) (snd_Ss ss g tk h.2)).imp fun _ _ _ z => r_seqS z
  | .frz is ss, X, W, sc, ts, g, tk, h => by
    simp only [chkSs] at h
    exact (snd_Ss ss g tk h).imp fun _ _ _ z => r_frz z
  | .frz1 i ss, X, W, sc, ts, g, tk, h => by
    simp only [chkSs] at h
    exact (snd_Ss ss g tk h).imp fun _ _ _ z => r_frz1 z
end
end
/-! ### defs -/
section
variable {P : Pm} {G : Glo} {os : List Addr} {Z H : Hp} {w : Wd}
theorem bindA_at {os : List Addr} (k : Ok P os w Z H) : ∀ {bw : List Bool} {ds : List VI.D} {vs : List V}, LRs P os Z H bw ds vs → (bindA bw ds).length = ds.length ∧ ∀ (i : Nat) (s : Sl), (bindA bw ds)[i]? = some s → SlotR P (Ex H) os Z H [] s ((vs.map some)[i]?)
  | [], [], [], _ => ⟨rfl, fun i s e => by simp [bindA] at e⟩
  | b :: bs, d :: ds, v :: vs, h => by
    obtain ⟨l, ih⟩ := bindA_at k h.2
    have plain : ∀ (d : VI.D), Rep P os Z d v → ∀ (i : Nat) (s : Sl), (Sl.fz d :: bindA bs ds)[i]? = some s → SlotR P (Ex H) os Z H [] s (((v :: vs).map some)[i]?) := fun d r i s e => by
      cases i with
      | zero => cases e; exact ⟨v, rfl, r⟩
      | succ i => exact ih i s e
    cases b with
    | false => exact ⟨by simp [bindA, l], plain d h.1⟩
    | true =>
      have h1 : LR P os Z H 1 d v := h.1
      cases d with
      | lst xs =>
        refine ⟨by simp [bindA, l], fun i s e => ?_⟩
        cases i with
        | succ i => exact ih i s e
        | zero =>
          cases e
          rcases h1 with r | ⟨a, us, xs', e1, e2, na, hh, r⟩ | ⟨_, _, e1, _⟩
          · unfold Rep at r
            obtain ⟨a, us, rfl, hz, r⟩ := r
            have hh := k.zh a _ hz
            exact ⟨a, us, rfl, fun z => by rw [k.nz a z] at hz; (cases hz), by (show H a ≠ none); rw [hh]; exact fun z => (nomatch z), hh, r⟩
          · cases e1
            subst e2
            exact ⟨a, us, rfl, na, by (show H a ≠ none); rw [hh]; exact fun z => (nomatch z), hh, reps_paired.mpr r⟩
          · cases e1
      | dct kvs =>
        refine ⟨by simp [bindA, l], fun i s e => ?_⟩
        cases i with
        | succ i => exact ih i s e
        | zero => cases e; trivial
      | _ =>
        refine ⟨by simp [bindA, l], plain _ ?_⟩
        rcases h1 with r | ⟨a, us, xs', e1, e2, na, hh, r⟩ | ⟨_, _, e1, _⟩
        · exact r
        · cases e1
        · cases e1
  | [], [], _ :: _, h => h.elim
  | [], _ :: _, _, h => h.elim
  | _ :: _, [], _, h => h.elim
  | _ :: _, _ :: _, [], h => h.elim
theorem slots_start {os : List Addr} (k : Ok P os w Z H) {fi : FnI} {ds : List VI.D} {vs : List V} {N : List Str} (r : LRs P os Z H fi.bw ds vs) (hN : N.length = fi.ns) (hl : ds.length ≤ fi.ns) : Slots P (Ex H) (startE fi ds) (L2.start N vs) (fun _ => []) os Z H := by
  obtain ⟨l, h⟩ := bindA_at k r
  have hlen : ds.length = vs.length := by rw [r.len.1, r.len.2]
  refine ⟨?_, fun i s e => ?_, fun i a ha => (by cases ha), fun i j a ha => (by cases ha), fun i => List.nodup_nil⟩
  · unfold startE L2.start
    simp [l]
    omega
  · unfold startE at e
    by_cases hi : i < ds.length
    · rw [List.getElem?_append_left (by rw [l]; exact hi)] at e
      unfold L2.start
      rw [List.getElem?_append_left (by simp; omega)]
      exact h i s e
    · rw [List.getElem?_append_right (by rw [l]; omega)] at e
      have : s = .no := by
        have := List.mem_of_getElem? e
        exact (List.mem_replicate.mp this).2
      subst this
      trivial
theorem sto_def {X : Cx} (hf : ∀ x, X.fn x = true) : Sto X X.env.scope := ⟨fun x h => loc_of h, fun x h => .inl (hf x)⟩
end
end VI

set_option Elab.async false
set_option linter.all false
set_option maxRecDepth 100000
set_option maxHeartbeats 4000000
/-! VI, part 19: all defs of a text at once; the law. -/
namespace VI
open PySem L2
/-- one def: its statement of the top, what the small language says, its names by slot -/
structure En where
  name : Str
  st : Stmt
  fi : FnI
  N : List Str
abbrev Tab := List En
def En.ps (e : En) : List Str := (defArgs e.st).args.map (·.arg)
def En.dd (e : En) : He.DefD := ⟨(e.name, none), e.name, e.name, defArgs e.st, defBody e.st, defScope e.st, [], []⟩
def tblOf (tab : Tab) : Tbl := tab.map fun e => (codeOf e.name, e.fi)
def glOf (cs : List (Str × VI.D)) (n : Nat) : Option VI.D := (cs.find? fun p => Nat.beq (codeOf p.1) n).map (·.2)
def ckOf (tab : Tab) (cs : List (Str × VI.D)) (N : List Str) : Ck := ⟨N, tab.map fun e => (e.name, e.fi.bw), cs.map (·.1)⟩
def plainA (a : Arguments) : Bool := match a with
  | ⟨[], _, none, [], [], none, []⟩ => true
  | _ => false
def noFree (sc : Scope) : Bool := sc.names.all fun y => match y.2 with
  | .free => false
  | _ => true
def okE (tab : Tab) (cs : List (Str × VI.D)) (e : En) : Bool :=
  plainA (defArgs e.st) && (decide (e.ps.length ≤ 5) && (decide ((defScope e.st).kind = .function) && (!(defScope e.st).isCoroutine && (!(defScope e.st).isGenerator && (decide e.N.Nodup && (decide (e.N.take e.ps.length = e.ps) && (e.ps.all (locB (defScope e.st)) && (noFree (defScope e.st) && (decide (e.N.length = e.fi.ns) && (decide (e.ps.length = e.fi.ps) && (decide (e.fi.ps ≤ e.fi.ns) && (decide (e.fi.bw.length = e.fi.ps) && (chkSs (ckOf tab cs e.N) (defScope e.st) e.fi.body (defBody e.st))))))))))))))
def isConst : VI.D → Bool
  | .int _ => true
  | .str _ => true
  | _ => false
def okT (tab : Tab) (cs : List (Str × VI.D)) : Bool :=
  tab.all (okE tab cs) && (decide (tab.map fun e => codeOf e.name).Nodup && cs.all fun p => isConst p.2)
theorem plainA_eq {a : Arguments} (h : plainA a = true) : a = ⟨[], a.args, none, [], [], none, []⟩ := by
  unfold plainA at h
  split at h
  · rfl
  · cases h
theorem fm_congr {α β : Type} {f g : α → Option β} : ∀ {l : List α}, (∀ x ∈ l, f x = g x) → l.filterMap f = l.filterMap g
  | [], _ => rfl
  | x :: l, h => by
    rw [List.filterMap_cons, List.filterMap_cons, h x (.head _), fm_congr fun y hy => h y (.tail _ hy)]
theorem lookup_zip : ∀ (xs : List Str) (us : List Value), us.length = xs.length → xs.Nodup → xs.filterMap (fun n => ((xs.zip us).lookup n).map (n, ·)) = xs.zip us ∧ xs.filter (fun n => ((xs.zip us).lookup n).isNone) = []
  | [], _, _, _ => ⟨rfl, rfl⟩
  | x :: xs, [], h, _ => by simp at h
  | x :: xs, u :: us, h, nd => by
    have ih := lookup_zip xs us (by simpa using h) (List.nodup_cons.mp nd).2
    have hne : ∀ n ∈ xs, (n == x) = false := fun n hn => by
      cases e : n == x with
      | false => rfl
      | true => exact absurd (by rw [← eq_of_beq e]; exact hn) (List.nodup_cons.mp nd).1
    have h0 : (x == x) = true := beq_self_eq_true x
    constructor
    · rw [List.filterMap_cons]
      simp only [List.zip_cons_cons, List.lookup_cons, h0, Option.map_some]
      congr 1
      refine Eq.trans ?_ ih.1
      refine fm_congr fun n hn => ?_
      rw [hne n hn]
    · rw [List.filter_cons]
      simp only [List.zip_cons_cons, List.lookup_cons, h0, Option.isNone_some]
      rw [if_neg (by simp)]
      refine Eq.trans ?_ ih.2
      refine List.filter_congr fun n hn => ?_
      rw [hne n hn]
theorem bind_plain {x qual : Str} {body : List Stmt} {scope : Scope} {kV doc pm cdv ct : Value} {an : Option Addr} (as : List Arg) (us : List Value) (hl : us.length = as.length) (nd : (as.map (·.arg)).Nodup) :
    bindArgs (PySem.W.fnOf x qual ⟨[], as, none, [], [], none, []⟩ body scope .none kV doc pm an cdv ct) ⟨us, []⟩ = pure ((as.map (·.arg)).zip us) := by
  obtain ⟨h1, h2⟩ := lookup_zip (as.map (·.arg)) us (by rw [hl, List.length_map]) nd
  have h3 : (as.map (·.arg)).take as.length = as.map (·.arg) := List.take_of_length_le (by simp)
  have h4 : notAStandIn Value.none = (pure () : Sem Unit) := rfl
  unfold bindArgs
  unfold PySem.W.fnOf
  have h5 : (List.map (fun (x : Arg) => x.arg) []) = [] := rfl
  rw [List.filterMap_map] at h1
  simp [seqItems?, hl, h4, h1, h2, h3, h5]
theorem okE_scope {tab : Tab} {cs : List (Str × VI.D)} {e : En} (h : okE tab cs e = true) : FnScope e.N e.ps (defScope e.st) := by
  unfold okE at h
  simp only [Bool.and_eq_true, decide_eq_true_eq, Bool.not_eq_true'] at h
  obtain ⟨h1, h2, h3, h4, h5, h6, h7, h8, h9, h10⟩ := h
  refine ⟨h3, h4, h5, h6, h7, fun x hx => loc_of (List.all_eq_true.mp h8 x hx), fun y hy z => ?_⟩
  have := List.all_eq_true.mp h9 y hy
  rw [z] at this
  cases this
theorem at_of {tab : Tab} {e : En} (h : e ∈ tab) (nd : (tab.map fun e => codeOf e.name).Nodup) : (tblOf tab).at_ (codeOf e.name) = some e.fi := by
  induction tab with
  | nil => cases h
  | cons f t ih =>
    have nd2 := List.nodup_cons.mp nd
    show (if Nat.beq (codeOf f.name) (codeOf e.name) then some f.fi else Tbl.at_ (tblOf t) (codeOf e.name)) = _
    rcases List.mem_cons.mp h with rfl | h
    · rw [if_pos (Nat.beq_refl _)]
    · have : ¬ Nat.beq (codeOf f.name) (codeOf e.name) = true := fun z => nd2.1 (by
        have := Nat.eq_of_beq_eq_true z
        show codeOf f.name ∈ t.map fun e => codeOf e.name
        rw [this]
        exact List.mem_map.mpr ⟨e, h, rfl⟩)
      rw [if_neg this]
      exact ih h nd2.2
/-- what is let out, in some world -/
def CXA (P : Program) : CXT := fun outer H s E u s' => ∃ w, L2.CX P w outer H s E u s'
theorem fnOk_any {P : Program} {w : World} {K : PySem.W.Frag} {mg : Str → Option Value} {base : Heap} {k : Nat} {f : Addr} {fd : FuncData} {ps : List Str} {sp : Sp} (h : FnOk P w K mg base (L2.CX P w) k f fd ps sp) : FnOk P w K mg base (CXA P) k f fd ps sp :=
  ⟨h.len, fun A outer s H args us vs Q E r e b v q => codeAny_mono (h.run A outer s H args us vs Q E r e b v q) fun r s' hq => by
    cases r with
    | error e => exact ⟨w, hq⟩
    | ok fl => cases fl <;> exact hq⟩
theorem cxa_never {P : Program} (H : Hp) (s : Shared) (e : Value) (s' : Shared) (h : CXA P [] H s (fun _ _ _ => False) e s') : False := by
  obtain ⟨w, _, _, _, _, _, _, _, _, _, _, _, _, z⟩ := h
  exact z
theorem lookup_mem {β : Type} {x : Str} {b : β} : ∀ {l : List (Str × β)}, l.lookup x = some b → (x, b) ∈ l
  | [], h => by simp at h
  | (y, c) :: l, h => by
    rw [List.lookup_cons] at h
    split at h
    · rename_i e
      cases h
      rw [eq_of_beq e]
      exact .head _
    · exact .tail _ (lookup_mem h)
structure Hd (tab : Tab) (cs : List (Str × VI.D)) (K : PySem.W.Frag) (mg : Str → Option Value) : Prop where
  defs : ∀ e ∈ tab, ∃ fd, FunD K e.name e.name (defArgs e.st) (defBody e.st) (defScope e.st) [] [] (He.ga K e.name) fd
  mgs : ∀ e ∈ tab, mg e.name = some (.ref (He.ga K e.name))
  blt : ∀ x ∈ bltNames, mg x = none
  cst : ∀ p ∈ cs, ∃ u v, mg p.1 = some u ∧ RelV v u ∧ glOf cs (codeOf p.1) = some p.2 ∧ ∀ P os Z, Rep P os Z p.2 v
section
variable {P : Program} {Pm : VI.Pm} {mg : Str → Option Value} {base : Heap} {tab : Tab} {cs : List (Str × VI.D)}
theorem all_ok (n : Nat) (hok : okT tab cs = true) (hd : Hd tab cs Pm.K mg) : ∀ k, ∀ e ∈ tab, ∃ fd, FunD Pm.K e.name e.name (defArgs e.st) (defBody e.st) (defScope e.st) [] [] (He.ga Pm.K e.name) fd ∧
    FnOk P Pm.wo Pm.K mg base (L2.CX P Pm.wo) (k + 2) (He.ga Pm.K e.name) fd e.ps (spOf Pm ⟨run (tblOf tab) (glOf cs) n k, glOf cs, n⟩ (codeOf e.name) e.fi.bw) := by
  unfold okT at hok
  simp only [Bool.and_eq_true, decide_eq_true_eq] at hok
  obtain ⟨hE, hnd, hcs⟩ := hok
  have spLen : ∀ {G : Glo} {f : Nat} {m : List Bool} vs H Q E, spOf Pm G f m vs H Q E → vs.length = m.length := fun vs H Q E ⟨os, Z, w, ds, _, r, _⟩ => r.len.2
  intro k
  induction k with
  | zero =>
    intro e he
    obtain ⟨fd, F⟩ := hd.defs e he
    have hokE := List.all_eq_true.mp hE e he
    unfold okE at hokE
    simp only [Bool.and_eq_true, decide_eq_true_eq, Bool.not_eq_true'] at hokE
    obtain ⟨h1, h2, h3, h4, h5, h6, h7, h8, h9, h10, h11, h12, h13, h14⟩ := hokE
    refine ⟨fd, F, ⟨fun vs H Q E h => (spLen vs H Q E h).trans (h13.trans h11.symm), fun A outer s H args us vs Q E hr e0 hb r hsp => ?_⟩⟩
    obtain ⟨os, Z, w, ds, _, _, h⟩ := hsp
    exact h.elim
  | succ k ih =>
    intro e he
    obtain ⟨fd, F⟩ := hd.defs e he
    have hokE := List.all_eq_true.mp hE e he
    have S := okE_scope hokE
    unfold okE at hokE
    simp only [Bool.and_eq_true, decide_eq_true_eq, Bool.not_eq_true'] at hokE
    obtain ⟨h1, h2, h3, h4, h5, h6, h7, h8, h9, h10, h11, h12, h13, h14⟩ := hokE
    refine ⟨fd, F, F.ok S (fun vs H Q E h => (spLen vs H Q E h).trans (h13.trans h11.symm)) fun cdv A outer s H vs Q E hr hsp => ?_⟩
    let G : Glo := ⟨run (tblOf tab) (glOf cs) n k, glOf cs, n⟩
    have gs : Gs Pm G (ckOf tab cs e.N) (defScope e.st) (cxOf (L2.CX P Pm.wo) P Pm.wo Pm.K mg base e.N e.name (defScope e.st) (He.ga Pm.K e.name) cdv A outer s H E) := by
      refine { K := rfl, W := rfl, N := rfl, nd := S.nd, sc := rfl, calm := rfl, room := hr.mono (by omega), blt := hd.blt, glob := fun x hx => ?_, call := fun x m hx => ?_, blk := ?_, sto := ?_, pass := passes_of rfl }
      · obtain ⟨p, hp, rfl⟩ := List.mem_map.mp hx
        obtain ⟨u, v, g1, g2, g3, g4⟩ := hd.cst p hp
        exact ⟨u, p.2, v, g1, g2, g3, fun os Z => g4 Pm os Z⟩
      · obtain ⟨f, hf, hfe⟩ := List.mem_map.mp (lookup_mem hx)
        cases hfe
        obtain ⟨fd2, F2, ok2⟩ := ih f hf
        have hE2 := List.all_eq_true.mp hE f hf
        unfold okE at hE2
        simp only [Bool.and_eq_true, decide_eq_true_eq] at hE2
        refine ⟨k + 2, He.ga Pm.K f.name, fd2, f.ps, ok2, hr, hd.mgs f hf, F2.kp, ?_⟩
        refine F2.bindsN fun kV doc pm an cdv ct us hl => ?_
        have hl2 : us.length = (defArgs f.st).args.length := by rw [hl]; unfold En.ps; rw [List.length_map]
        rw [plainA_eq hE2.1]
        refine bind_plain _ us hl2 ?_
        obtain ⟨_, _, _, _, _, n6, n7, _⟩ := hE2
        have : f.ps.Nodup := by rw [← n7]; exact n6.sublist (List.take_sublist _ _)
        exact this
      · show (if (defScope e.st).kind.isAnnotationScope then ScopeKind.function else (defScope e.st).kind) = .function
        rw [S.kind]; rfl
      · exact sto_def fun _ => rfl
    refine ⟨tS Pm (fun cls d _ H => E cls d H) (execs G e.fi.body), snd_Ss e.fi.body gs (takes_of rfl rfl rfl rfl) h14, ?_⟩
    obtain ⟨os, Z, w1, ds, k1, r, out⟩ := hsp
    have hl : ds.length = e.fi.ps := r.len.1.trans h13
    have hat := at_of he hnd
    have out : Out Pm (fun cls dd _ H' => E cls dd H') [] os Z H (run (tblOf tab) (glOf cs) n (k + 1) (codeOf e.name) ds w1) (fun d _ os' Z' H' => ∀ v, Rep Pm os' Z' d v → Q v H') := out
    have er : run (tblOf tab) (glOf cs) n (k + 1) (codeOf e.name) ds = bnd (execs G e.fi.body (startE e.fi ds)) endF := by
      have hb : Nat.beq ds.length e.fi.ps = true := by rw [hl]; exact Nat.beq_refl _
      show (match (tblOf tab).at_ (codeOf e.name) with
        | none => stuck
        | some fi => if Nat.beq ds.length fi.ps then bnd (execs G fi.body (startE fi ds)) endF else stuck) = _
      rw [hat]
      show (if Nat.beq ds.length e.fi.ps then bnd (execs G e.fi.body (startE e.fi ds)) endF else stuck) = _
      rw [if_pos hb]
    rw [er] at out
    refine ⟨os, Z, w1, startE e.fi ds, fun _ => [], Ex H, k1, slots_start k1 r h10 (by rw [hl]; exact h12), fun a h => h, ?_⟩
    have ob := out.bnd
    revert ob
    cases execs G e.fi.body (startE e.fi ds) w1 with
    | no => exact fun h => h
    | exn c f w2 => exact fun h σ' os' Z' H' cls dd st k' x => h os' Z' H' cls dd st k' x
    | ok fl w2 =>
      intro ob
      cases fl with
      | nx env' => exact fun σ' os' Z' H' ad' st k' _ => (ob os' Z' H' st k').ret k' .non (by unfold Rep; rfl)
      | bk env' => exact fun σ' os' Z' H' ad' st k' _ => (ob os' Z' H' st k').elim
      | rt d => exact fun v os' Z' H' st k' rv => (ob os' Z' H' st k').ret k' v rv
end
/-- the law's own promise -/
theorem law_ok {P : Program} {Pm : VI.Pm} {mg : Str → Option Value} {base : Heap} {tab : Tab} {cs : List (Str × VI.D)} (n k : Nat) (hok : okT tab cs = true) (hd : Hd tab cs Pm.K mg) {e : En} (he : e ∈ tab) :
    ∃ fd, FunD Pm.K e.name e.name (defArgs e.st) (defBody e.st) (defScope e.st) [] [] (He.ga Pm.K e.name) fd ∧
      FnOk P Pm.wo Pm.K mg base (CXA P) (k + 2) (He.ga Pm.K e.name) fd e.ps (spOf Pm ⟨run (tblOf tab) (glOf cs) n k, glOf cs, n⟩ (codeOf e.name) e.fi.bw) :=
  let ⟨fd, F, ok⟩ := all_ok (P := P) (base := base) n hok hd k e he
  ⟨fd, F, fnOk_any ok⟩
theorem funD_same {K : PySem.W.Frag} {x qual : Str} {params : Arguments} {body : List Stmt} {scope : Scope} {f : Addr} {fd fd2 : FuncData} (F : FunD K x qual params body scope [] [] f fd) (F2 : FunD K x qual params body scope [] [] f fd2) : fd2 = fd := by
  obtain ⟨oc, od, dV, kV, doc, pm, an, cdv, ct, osl, _, lk, _⟩ := F.ex
  obtain ⟨oc2, od2, dV2, kV2, doc2, pm2, an2, cdv2, ct2, osl2, _, lk2, _⟩ := F2.ex
  rw [lk] at lk2
  cases lk2
  rfl
/-- what is asked of the small language -/
def Says (tab : Tab) (cs : List (Str × VI.D)) (n k : Nat) : Prop := ∀ ns : List Int, ns.length ≤ 63 → ∃ w, run (tblOf tab) (glOf cs) n k (codeOf "law") [.scr ns] [] = .ok (.bl true) w
theorem law_sp {Pm : VI.Pm} {tab : Tab} {cs : List (Str × VI.D)} {n k : Nat} {bw : List Bool} (hb : bw.length = 1) (h : Says tab cs n k) {H : Hp} {a : Addr} {ns : List Int} (hl : ns.length ≤ 63) (hS : SqL Pm.K H a (ns.map V.int)) :
    spOf Pm ⟨run (tblOf tab) (glOf cs) n k, glOf cs, n⟩ (codeOf "law") bw [.ref a] H (fun v _ => v = .bl true) (fun _ _ _ => False) := by
  obtain ⟨w, e⟩ := h ns hl
  refine ⟨[], H, [], [.scr ns], ⟨Le.refl, by simp, .nil, rfl, by simp⟩, ?_, ?_⟩
  · match bw, hb with
    | [b], _ => exact ⟨.of (by unfold Rep; exact ⟨a, rfl, hS⟩), trivial⟩
  show Out Pm _ [] [] H H (run (tblOf tab) (glOf cs) n k (codeOf "law") [.scr ns] []) _
  rw [e]
  intro os' Z' H' _ _ v r
  unfold Rep at r
  exact r
/-! ### the head's facts -/
def faOf (tab : Tab) (cs : List (Str × VI.D)) : List He.Fa := (tab.map fun e => He.Fa.glo e.name) ++ (bltNames.map He.Fa.free ++ cs.map fun p => match p.2 with
  | .int i => He.Fa.int p.1 i
  | .str z => He.Fa.str p.1 z
  | _ => He.Fa.free p.1)
theorem hd_of {tab : Tab} {cs : List (Str × VI.D)} {K : PySem.W.Frag} {h : Heap} {mg : Str → Option Value} (hok : okT tab cs = true) (hcd : cs.all (fun p => match glOf cs (codeOf p.1), p.2 with
    | some (.int i), .int j => decide (i = j)
    | some (.str i), .str j => decide (i = j)
    | _, _ => false) = true) (X : K.In h) (G : h.Ns mainGlobals mg) (c : He.SaysD (faOf tab cs) (tab.map En.dd) K) : Hd tab cs K mg := by
  have fact : ∀ f ∈ faOf tab cs, f.ok K = true := fun f hf => by
    obtain ⟨i, hi, e⟩ := List.mem_iff_getElem.mp hf
    exact c.fact i (by rw [List.getElem?_eq_getElem hi, e])
  refine ⟨fun e he => ?_, fun e he => ?_, fun x hx => ?_, fun p hp => ?_⟩
  · obtain ⟨i, hi, ee⟩ := List.mem_iff_getElem.mp (List.mem_map.mpr ⟨e, he, rfl⟩ : e.dd ∈ tab.map En.dd)
    exact c.def_ i (d := e.dd) (by rw [List.getElem?_eq_getElem hi, ee])
  · exact He.glo_ok X G (fact _ (List.mem_append_left _ (List.mem_map.mpr ⟨e, he, rfl⟩)))
  · exact He.free_ok X G (fact _ (List.mem_append_right _ (List.mem_append_left _ (List.mem_map.mpr ⟨x, hx, rfl⟩))))
  · have hf := fact _ (List.mem_append_right _ (List.mem_append_right _ (List.mem_map.mpr ⟨p, hp, rfl⟩)))
    have hg := List.all_eq_true.mp hcd p hp
    obtain ⟨x, d⟩ := p
    cases q : glOf cs (codeOf x) with
    | none => rw [q] at hg; exact nomatch hg
    | some dd =>
      rw [q] at hg
      cases d with
      | int i => cases dd with
        | int j =>
          cases of_decide_eq_true hg
          obtain ⟨t, e⟩ := He.int_ok X G hf
          exact ⟨_, .int i, e, ⟨t, rfl⟩, rfl, fun P os Z => by unfold Rep; rfl⟩
        | _ => exact nomatch hg
      | str i => cases dd with
        | str j =>
          cases of_decide_eq_true hg
          obtain ⟨t, e⟩ := He.str_ok X G hf
          exact ⟨_, .str i, e, ⟨t, rfl⟩, rfl, fun P os Z => by unfold Rep; rfl⟩
        | _ => exact nomatch hg
      | _ => cases dd <;> exact nomatch hg
end VI

set_option Elab.async false
set_option linter.all false
set_option maxRecDepth 100000
/-! the defs of all laws as texts of the small language -/
namespace VI
open PySem
/-- 0 value, 1 least, 2 most -/
def F_is_in : FnI := ⟨3, 3, [false, false, false], (.cons (.ret (.and (.isi (.var 0) [.int]) (.and (.not (.isi (.var 0) [.bool])) (.chain .le .le (.var 1) (.var 0) (.var 2))))) .nil)⟩
/-- 0 value, 1 switch, 2 many, 3 last, 4 pair -/
def F_is_guard : FnI := ⟨3, 5, [false, false, false], (.cons (.ite (.not (.isi (.var 0) [.tuple])) (.cons (.ret (.bl false)) .nil) .nil) (.cons (.set 3 (.neg (.int 1))) (.cons (.for_ (.one 4) (.seq (.var 0)) (.cons (.ite (.or (.not (.isi (.var 4) [.tuple])) (.or (.cmp .ne (.blt .len (.var 4)) (.int 2)) (.not (.call 452907198830 (.cons (.ix (.var 4) (.int 0)) (.cons (.bin .add (.var 3) (.int 1)) (.cons (.bin .sub (.var 2) (.int 1)) .nil))))))) (.cons (.ret (.bl false)) .nil) .nil) (.cons (.ite (.or (.cmp .eq (.ix (.var 4) (.int 0)) (.var 1)) (.not (.call 452907198830 (.cons (.ix (.var 4) (.int 1)) (.cons (.int 0) (.cons (.int 1) .nil)))))) (.cons (.ret (.bl false)) .nil) .nil) (.cons (.set 3 (.ix (.var 4) (.int 0))) .nil)))) (.cons (.ret (.bl true)) .nil))))⟩
/-- 0 value, 1 many -/
def F_is_item : FnI := ⟨2, 2, [false, false], (.cons (.ite (.or (.not (.isi (.var 0) [.tuple])) (.or (.cmp .lt (.blt .len (.var 0)) (.int 2)) (.not (.isi (.ix (.var 0) (.int 0)) [.str])))) (.cons (.ret (.bl false)) .nil) .nil) (.cons (.ite (.cmp .isin (.ix (.var 0) (.int 0)) (.tup (.cons (.str ⟨#[116, 101, 108, 108]⟩) (.cons (.str ⟨#[119, 97, 105, 116]⟩) .nil)))) (.cons (.ret (.and (.cmp .eq (.blt .len (.var 0)) (.int 2)) (.call 452907198830 (.cons (.ix (.var 0) (.int 1)) (.cons (.int 0) (.cons (.glob 93461892221900862484529484) .nil)))))) .nil) .nil) (.cons (.ite (.or (.cmp .ne (.ix (.var 0) (.int 0)) (.str ⟨#[115, 101, 116]⟩)) (.cmp .ne (.blt .len (.var 0)) (.int 4))) (.cons (.ret (.bl false)) .nil) .nil) (.cons (.ite (.or (.not (.call 452907198830 (.cons (.ix (.var 0) (.int 1)) (.cons (.int 0) (.cons (.bin .sub (.var 1) (.int 1)) .nil))))) (.not (.call 452907198830 (.cons (.ix (.var 0) (.int 2)) (.cons (.int 0) (.cons (.int 1) .nil)))))) (.cons (.ret (.bl false)) .nil) .nil) (.cons (.ret (.call 7598521894259749476 (.cons (.ix (.var 0) (.int 3)) (.cons (.ix (.var 0) (.int 1)) (.cons (.var 1) .nil))))) .nil)))))⟩
/-- 0 program, 1 start, 2 rows, 3 hand, 4 row, 5 index, 6 item, 7 one -/
def F_need_program : FnI := ⟨1, 8, [false], (.cons (.ite (.or (.not (.isi (.var 0) [.tuple])) (.cmp .ne (.blt .len (.var 0)) (.int 2))) (.cons .stk .nil) .nil) (.cons (.unp [1, 2] (.var 0)) (.cons (.ite (.or (.not (.isi (.var 1) [.tuple])) (.not (.chain .le .le (.int 1) (.blt .len (.var 1)) (.glob 6125118568654498866660624581971)))) (.cons .stk .nil) .nil) (.cons (.ite (.cmp .ne (.comp (.one 7) (.seq (.var 1)) (.some (.not (.call 452907198830 (.cons (.var 7) (.cons (.int 0) (.cons (.int 1) .nil)))))) (.var 7)) (.lst .nil)) (.cons .stk .nil) .nil) (.cons (.ite (.or (.not (.isi (.var 2) [.tuple])) (.not (.chain .le .le (.int 1) (.blt .len (.var 2)) (.glob 365085516491752865678419)))) (.cons .stk .nil) .nil) (.cons (.ite (.or (.cmp .ne (.comp (.one 4) (.seq (.var 2)) (.some (.not (.isi (.var 4) [.tuple]))) (.var 4)) (.lst .nil)) (.cmp .gt (.blt .sum (.comp (.one 4) (.seq (.var 2)) .none (.blt .len (.var 4)))) (.glob 365085516491757478825299))) (.cons .stk .nil) .nil) (.cons (.for_ (.many [3, 4]) (.enum (.var 2)) (.cons (.for_ (.many [5, 6]) (.enum (.var 4)) (.cons (.ite (.not (.call 29681726182942061 (.cons (.var 6) (.cons (.blt .len (.var 1)) .nil)))) (.cons .stk .nil) .nil) .nil)) .nil)) .nil)))))))⟩
/-- 0 _law_row, 1 _law_many, 2 _law_cell, 3 _law_found -/
def F__law_taken : FnI := ⟨2, 4, [false, false], (.cons (.ite (.cmp .gt (.ix (.var 0) (.int 3)) (.int 0)) (.cons (.set 3 (.bin .mod (.blt .int (.ix (.var 0) (.int 3))) (.var 1))) (.cons (.put 0 (.int 3) (.bin .fdiv (.ix (.var 0) (.int 3)) (.var 1))) (.cons (.ret (.var 3)) .nil))) .nil) (.cons (.put 0 (.int 1) (.bin .add (.ix (.var 0) (.int 1)) (.int 1))) (.cons (.ite (.cmp .gt (.ix (.var 0) (.int 1)) (.blt .len (.ix (.var 0) (.int 0)))) (.cons (.put 0 (.int 2) (.bin .mod (.blt .int (.bin .add (.bin .mul (.ix (.var 0) (.int 2)) (.int 48271)) (.int 11))) (.int 2147483647))) (.cons (.ret (.bin .mod (.blt .int (.bin .fdiv (.ix (.var 0) (.int 2)) (.int 7))) (.var 1))) .nil)) .nil) (.cons (.set 2 (.ix (.ix (.var 0) (.int 0)) (.bin .sub (.ix (.var 0) (.int 1)) (.int 1)))) (.cons (.put 0 (.int 2) (.bin .mod (.blt .int (.bin .add (.bin .add (.bin .mul (.ix (.var 0) (.int 2)) (.int 48271)) (.var 2)) (.int 11))) (.int 2147483647))) (.cons (.ite (.cmp .ge (.var 2) (.bin .pow (.int 10) (.int 18))) (.cons (.put 0 (.int 3) (.bin .fdiv (.var 2) (.var 1))) .nil) .nil) (.cons (.ret (.bin .mod (.blt .int (.var 2)) (.var 1))) .nil)))))))⟩
/-- 0 _law_row, 1 _law_things -/
def F__law_pick : FnI := ⟨2, 2, [false, true], (.cons (.ret (.ix (.bor 1) (.call 450624087419674289726830 (.cons (.var 0) (.cons (.blt .len (.bor 1)) .nil))))) .nil)⟩
/-- 0 _law_row, 1 _law_many, 2 _law_start, 3 _law_switch, 4 _law_left, 5 _law_stands, 6 _law_found, 7 _law_spot -/
def F__law_changes : FnI := ⟨3, 8, [false, false, false], (.cons (.par [(4, 0), (5, 1), (6, 1)] (.cons (.lst .nil) (.cons (.blt .list (.var 2)) (.cons (.lst .nil) .nil)))) (.cons (.for_ (.one 3) (.rng1 (.var 1)) (.cons (.set 4 (.bin .add (.var 4) (.bin .mul (.lst (.cons (.var 3) .nil)) (.call 1760250341483036107627 (.cons (.var 0) (.cons (.lst (.cons (.int 0) (.cons (.int 1) (.cons (.int 1) (.cons (.int 1) (.cons (.int 2) .nil)))))) .nil)))))) .nil)) (.cons (.while_ (.cmp .ne (.var 4) (.lst .nil)) (.cons (.set 3 (.call 1760250341483036107627 (.cons (.var 0) (.cons (.var 4) .nil)))) (.cons (.set 7 (.idx (.var 4) (.var 3))) (.cons (.set 4 (.bin .add (.sl (.var 4) .none (.some (.var 7))) (.sl (.var 4) (.some (.bin .add (.var 7) (.int 1))) .none))) (.cons (.put 5 (.var 3) (.bin .sub (.int 1) (.ix (.bor 5) (.var 3)))) (.cons (.app 6 (.tup (.cons (.var 3) (.cons (.ix (.bor 5) (.var 3)) .nil)))) .nil)))))) (.frz [6] (.cons (.ret (.var 6)) .nil)))))⟩
/-- 0 _law_row, 1 _law_most, 2 _law_hands, 3 _law_start, 4 _law_twice, 5 _law_hand, 6 _law_many, 7 _law_way, 8 _law_deeds, 9 _law_stands, 10 _law_owners, 11 _law_rows, 12 _law_signals, 13 _law_told, 14 _law_switch, 15 _law_stand, 16 _law_guard, 17 _law_other, 18 _law_wish, 19 _law_k, 20 _law_one -/
def F__law_program : FnI := ⟨3, 21, [false, false, false], (.cons (.par [(6, 0), (7, 0)] (.cons (.bin .add (.int 1) (.call 450624087419674289726830 (.cons (.var 0) (.cons (.var 1) .nil)))) (.cons (.call 450624087419674289726830 (.cons (.var 0) (.cons (.int 6) .nil))) .nil))) (.cons (.set 3 (.blt .tuple (.comp (.one 19) (.rng1 (.var 6)) .none (.call 450624087419674289726830 (.cons (.var 0) (.cons (.int 2) .nil)))))) (.cons (.par [(8, 0), (9, 1)] (.cons (.call 29532100193130996830715733363 (.cons (.var 0) (.cons (.var 6) (.cons (.var 3) .nil)))) (.cons (.blt .list (.var 3)) .nil))) (.cons (.set 4 (.comp (.one 14) (.rng1 (.var 6)) (.some (.cmp .gt (.cnt (.comp (.many [20, 15]) (.seq (.var 8)) .none (.var 20)) (.var 14)) (.int 1))) (.var 14))) (.cons (.par [(10, 0), (11, 2)] (.cons (.bin .add (.int 1) (.call 450624087419674289726830 (.cons (.var 0) (.cons (.var 2) .nil)))) (.cons (.lst .nil) .nil))) (.cons (.for_ (.one 5) (.rng1 (.var 10)) (.cons (.app2 11) .nil)) (.cons (.par [(12, 0), (13, 1)] (.cons (.call 450624087419674289726830 (.cons (.var 0) (.cons (.int 3) .nil))) (.cons (.lst .nil) .nil))) (.cons (.for_ (.many [14, 15]) (.seq (.var 8)) (.cons (.set 16 (.tup .nil)) (.cons (.for_ (.one 17) (.rng1 (.var 6)) (.cons (.set 18 (.ite (.or (.cmp .gt (.var 7) (.int 0)) (.cmp .gt (.call 450624087419674289726830 (.cons (.var 0) (.cons (.int 3) .nil))) (.int 0))) (.ix (.bor 9) (.var 17)) (.bin .sub (.int 1) (.ix (.bor 9) (.var 17))))) (.cons (.ite (.and (.cmp .ne (.var 17) (.var 14)) (.and (.cmp .eq (.call 450624087419674289726830 (.cons (.var 0) (.cons (.int 3) .nil))) (.int 0)) (.not (.and (.cmp .isin (.var 17) (.var 4)) (.cmp .eq (.var 18) (.ix (.var 3) (.var 17))))))) (.cons (.set 16 (.bin .add (.var 16) (.tup (.cons (.tup (.cons (.var 17) (.cons (.var 18) .nil))) .nil)))) .nil) .nil) .nil))) (.cons (.set 5 (.call 450624087419674289726830 (.cons (.var 0) (.cons (.var 10) .nil)))) (.cons (.ite (.and (.cmp .ne (.bor 13) (.lst .nil)) (.cmp .eq (.call 450624087419674289726830 (.cons (.var 0) (.cons (.int 3) .nil))) (.int 0))) (.cons (.appi 11 (.var 5) (.tup (.cons (.str ⟨#[119, 97, 105, 116]⟩) (.cons (.call 1760250341483036107627 (.cons (.var 0) (.cons (.bor 13) .nil))) .nil)))) .nil) .nil) (.cons (.appi 11 (.var 5) (.tup (.cons (.str ⟨#[115, 101, 116]⟩) (.cons (.var 14) (.cons (.var 15) (.cons (.var 16) .nil)))))) (.cons (.ite (.and (.cmp .lt (.blt .len (.bor 13)) (.var 12)) (.cmp .eq (.call 450624087419674289726830 (.cons (.var 0) (.cons (.int 2) .nil))) (.int 0))) (.cons (.app 13 (.bin .add (.bin .mul (.int 3) (.blt .len (.bor 13))) (.int 1))) (.cons (.appi 11 (.var 5) (.tup (.cons (.str ⟨#[116, 101, 108, 108]⟩) (.cons (.ix (.bor 13) (.neg (.int 1))) .nil)))) .nil)) .nil) (.cons (.put 9 (.var 14) (.var 15)) .nil)))))))) (.cons (.ite (.and (.cmp .eq (.var 7) (.int 1)) (.cmp .gt (.var 10) (.int 1))) (.frz1 11 (.cons (.put 11 (.int 0) (.rev (.ix (.bor 11) (.int 0)))) .nil)) .nil) (.frz [11] (.cons (.ret (.tup (.cons (.var 3) (.cons (.blt .tuple (.comp (.one 20) (.seq (.var 11)) .none (.blt .tuple (.var 20)))) .nil)))) .nil)))))))))))⟩
/-- 0 _law_row, 1 _law_many, 2 _law_rows, 3 _law_hand, 4 _law_items, 5 _law_turn, 6 _law_other, 7 _law_item, 8 _law_kind, 9 _law_switch, 10 _law_guard, 11 _law_k -/
def F__law_bent : FnI := ⟨1, 12, [false], (.cons (.set 1 (.bin .add (.int 1) (.call 450624087419674289726830 (.cons (.var 0) (.cons (.int 4) .nil))))) (.cons (.set 2 (.tup .nil)) (.cons (.for_ (.one 3) (.rng1 (.bin .add (.int 1) (.call 450624087419674289726830 (.cons (.var 0) (.cons (.int 3) .nil))))) (.cons (.set 4 (.tup .nil)) (.cons (.for_ (.one 5) (.rng1 (.call 450624087419674289726830 (.cons (.var 0) (.cons (.int 4) .nil)))) (.cons (.par [(8, 0), (9, 0), (10, 0)] (.cons (.call 450624087419674289726830 (.cons (.var 0) (.cons (.int 6) .nil))) (.cons (.call 450624087419674289726830 (.cons (.var 0) (.cons (.var 1) .nil))) (.cons (.tup .nil) .nil)))) (.cons (.for_ (.one 6) (.rng1 (.var 1)) (.cons (.ite (.and (.cmp .ne (.var 6) (.var 9)) (.cmp .eq (.call 450624087419674289726830 (.cons (.var 0) (.cons (.int 4) .nil))) (.int 0))) (.cons (.set 10 (.bin .add (.var 10) (.tup (.cons (.tup (.cons (.var 6) (.cons (.call 450624087419674289726830 (.cons (.var 0) (.cons (.int 2) .nil))) .nil))) .nil)))) .nil) .nil) .nil)) (.cons (.set 7 (.tup (.cons (.str ⟨#[115, 101, 116]⟩) (.cons (.var 9) (.cons (.call 450624087419674289726830 (.cons (.var 0) (.cons (.int 2) .nil))) (.cons (.var 10) .nil)))))) (.cons (.set 4 (.bin .add (.var 4) (.tup (.cons (.ite (.cmp .gt (.var 8) (.int 1)) (.var 7) (.tup (.cons (.ix (.lst (.cons (.str ⟨#[116, 101, 108, 108]⟩) (.cons (.str ⟨#[119, 97, 105, 116]⟩) .nil))) (.var 8)) (.cons (.call 450624087419674289726830 (.cons (.var 0) (.cons (.int 3) .nil))) .nil)))) .nil)))) .nil))))) (.cons (.set 2 (.bin .add (.var 2) (.tup (.cons (.var 4) .nil)))) .nil)))) (.cons (.ret (.tup (.cons (.blt .tuple (.comp (.one 11) (.rng1 (.var 1)) .none (.call 450624087419674289726830 (.cons (.var 0) (.cons (.int 2) .nil))))) (.cons (.var 2) .nil)))) .nil))))⟩
/-- 0 _law_found, 1 _law_due, 2 _law_k -/
def F__law_alike : FnI := ⟨2, 3, [false, false], (.cons (.ite (.isi (.var 1) [.tuple, .list]) (.cons (.ite (.or (.not (.isi (.var 0) [.tuple, .list])) (.cmp .ne (.isi (.var 0) [.list]) (.isi (.var 1) [.list]))) (.cons (.ret (.bl false)) .nil) .nil) (.cons (.ite (.cmp .ne (.blt .len (.var 0)) (.blt .len (.var 1))) (.cons (.ret (.bl false)) .nil) .nil) (.cons (.ret (.cmp .eq (.comp (.one 2) (.rng1 (.blt .len (.var 1))) (.some (.not (.call 450624087419592869768037 (.cons (.ix (.var 0) (.var 2)) (.cons (.ix (.var 1) (.var 2)) .nil))))) (.var 2)) (.lst .nil))) .nil))) .nil) (.cons (.ite (.or (.isn (.var 1)) (.isi (.var 1) [.str])) (.cons (.ret (.and (.cmp .eq (.var 0) (.var 1)) (.cmp .eq (.isi (.var 0) [.str]) (.isi (.var 1) [.str])))) .nil) .nil) (.cons (.ret (.and (.isi (.var 0) [.int]) (.and (.cmp .eq (.isi (.var 0) [.bool]) (.isi (.var 1) [.bool])) (.cmp .eq (.var 0) (.var 1))))) .nil)))⟩
/-- 0 program, 1 found, 2 hand, 3 row, 4 index -/
def F_all_items : FnI := ⟨1, 5, [false], (.cons (.set 1 (.lst .nil)) (.cons (.for_ (.many [2, 3]) (.enum (.ix (.var 0) (.int 1))) (.cons (.set 1 (.bin .add (.var 1) (.comp (.one 4) (.rng1 (.blt .len (.var 3))) .none (.tup (.cons (.var 2) (.cons (.var 4) .nil)))))) .nil)) (.cons (.ret (.var 1)) .nil)))⟩
/-- 0 program, 1 name -/
def F_item_at : FnI := ⟨2, 2, [false, false], (.cons (.ret (.ix (.ix (.ix (.var 0) (.int 1)) (.ix (.var 1) (.int 0))) (.ix (.var 1) (.int 1)))) .nil)⟩
/-- 0 program, 1 switch, 2 found, 3 name, 4 item -/
def F_deeds_on : FnI := ⟨2, 5, [false, false], (.cons (.own 2 (.lst .nil)) (.cons (.for_ (.one 3) (.seq (.call 1797146899509936483699 (.cons (.var 0) .nil))) (.cons (.set 4 (.call 29682851530105204 (.cons (.var 0) (.cons (.var 3) .nil)))) (.cons (.ite (.and (.cmp .eq (.ix (.var 4) (.int 0)) (.str ⟨#[115, 101, 116]⟩)) (.cmp .eq (.ix (.var 4) (.int 1)) (.var 1))) (.cons (.app 2 (.tup (.cons (.var 3) (.cons (.ix (.var 4) (.int 2)) .nil)))) .nil) .nil) .nil))) (.frz [2] (.cons (.ret (.var 2)) .nil))))⟩
/-- 0 program, 1 kind, 2 name -/
def F_signals_of : FnI := ⟨2, 3, [false, false], (.cons (.ret (.comp (.one 2) (.seq (.call 1797146899509936483699 (.cons (.var 0) .nil))) (.some (.cmp .eq (.ix (.call 29682851530105204 (.cons (.var 0) (.cons (.var 2) .nil))) (.int 0)) (.var 1))) (.ix (.call 29682851530105204 (.cons (.var 0) (.cons (.var 2) .nil))) (.int 1)))) .nil)⟩
/-- 0 program, 1 name, 2 item, 3 stands, 4 switch, 5 stand, 6 other, 7 one -/
def F_is_bent : FnI := ⟨2, 8, [false, false], (.cons (.set 2 (.call 29682851530105204 (.cons (.var 0) (.cons (.var 1) .nil)))) (.cons (.ite (.cmp .eq (.ix (.var 2) (.int 0)) (.str ⟨#[116, 101, 108, 108]⟩)) (.cons (.ret (.cmp .gt (.cnt (.call 545016506659300467240806 (.cons (.var 0) (.cons (.str ⟨#[116, 101, 108, 108]⟩) .nil))) (.ix (.var 2) (.int 1))) (.int 1))) .nil) .nil) (.cons (.ite (.cmp .eq (.ix (.var 2) (.int 0)) (.str ⟨#[119, 97, 105, 116]⟩)) (.cons (.ret (.cmp .ne (.cnt (.call 545016506659300467240806 (.cons (.var 0) (.cons (.str ⟨#[116, 101, 108, 108]⟩) .nil))) (.ix (.var 2) (.int 1))) (.int 1))) .nil) .nil) (.cons (.set 3 (.comp (.many [6, 5]) (.seq (.call 7234299858547339118 (.cons (.var 0) (.cons (.ix (.var 2) (.int 1)) .nil)))) .none (.var 5))) (.cons (.ite (.or (.cmp .gt (.cnt (.var 3) (.ix (.var 2) (.int 2))) (.int 1)) (.and (.cmp .eq (.ix (.var 2) (.int 2)) (.ix (.ix (.var 0) (.int 0)) (.ix (.var 2) (.int 1)))) (.cmp .notin (.bin .sub (.int 1) (.ix (.var 2) (.int 2))) (.var 3)))) (.cons (.ret (.bl true)) .nil) .nil) (.cons (.for_ (.many [4, 5]) (.seq (.ix (.var 2) (.int 3))) (.cons (.ite (.and (.cmp .eq (.var 5) (.ix (.ix (.var 0) (.int 0)) (.var 4))) (.cmp .isin (.var 5) (.comp (.many [6, 7]) (.seq (.call 7234299858547339118 (.cons (.var 0) (.cons (.var 4) .nil)))) .none (.var 7)))) (.cons (.ret (.bl true)) .nil) .nil) .nil)) (.cons (.ret (.bl false)) .nil)))))))⟩
/-- 0 program, 1 found, 2 name -/
def F_bent : FnI := ⟨1, 3, [false], (.cons (.ex (.call 34165931398695334765290217837 (.cons (.var 0) .nil))) (.cons (.set 1 (.comp (.one 2) (.seq (.call 1797146899509936483699 (.cons (.var 0) .nil))) (.some (.call 29681726064520820 (.cons (.var 0) (.cons (.var 2) .nil)))) (.var 2))) (.cons (.ret (.ite (.cmp .ne (.var 1) (.lst .nil)) (.ix (.var 1) (.int 0)) .non)) .nil)))⟩
/-- 0 program -/
def F_is_straight : FnI := ⟨1, 1, [false], (.cons (.ret (.isn (.call 1650814580 (.cons (.var 0) .nil)))) .nil)⟩
/-- 0 _law_program_here, 1 _law_found, 2 _law_hand, 3 _law_k -/
def F__law_names : FnI := ⟨1, 4, [false], (.cons (.set 1 (.lst .nil)) (.cons (.for_ (.one 2) (.rng1 (.blt .len (.ix (.var 0) (.int 1)))) (.cons (.set 1 (.bin .add (.var 1) (.comp (.one 3) (.rng1 (.blt .len (.ix (.ix (.var 0) (.int 1)) (.var 2)))) .none (.tup (.cons (.var 2) (.cons (.var 3) .nil)))))) .nil)) (.cons (.ret (.var 1)) .nil)))⟩
/-- 0 _law_program_here, 1 _law_switch, 2 _law_stand, 3 _law_found, 4 _law_hand, 5 _law_k, 6 _law_item -/
def F__law_setter : FnI := ⟨3, 7, [false, false, false], (.cons (.own 3 (.lst .nil)) (.cons (.for_ (.many [4, 5]) (.seq (.call 450624087419648520054131 (.cons (.var 0) .nil))) (.cons (.set 6 (.ix (.ix (.ix (.var 0) (.int 1)) (.var 4)) (.var 5))) (.cons (.ite (.and (.cmp .eq (.ix (.var 6) (.int 0)) (.str ⟨#[115, 101, 116]⟩)) (.and (.cmp .eq (.ix (.var 6) (.int 1)) (.var 1)) (.cmp .eq (.ix (.var 6) (.int 2)) (.var 2)))) (.cons (.app 3 (.tup (.cons (.var 4) (.cons (.var 5) .nil)))) .nil) .nil) .nil))) (.frz [3] (.cons (.ret (.var 3)) .nil))))⟩
/-- 0 program -/
def F_need_straight : FnI := ⟨1, 1, [false], (.cons (.ite (.notn (.call 1650814580 (.cons (.var 0) .nil))) (.cons .stk .nil) .nil) .nil)⟩
/-- 0 program, 1 switch, 2 stand, 3 found, 4 name, 5 there -/
def F_change : FnI := ⟨3, 6, [false, false, false], (.cons (.set 3 (.comp (.many [4, 5]) (.seq (.call 7234299858547339118 (.cons (.var 0) (.cons (.var 1) .nil)))) (.some (.cmp .eq (.var 5) (.var 2))) (.var 4))) (.cons (.ret (.ite (.cmp .ne (.var 3) (.lst .nil)) (.ix (.var 3) (.int 0)) .non)) .nil))⟩
/-- 0 program, 1 name, 2 found, 3 switch, 4 stand, 5 maker, 6 taker -/
def F_guard_befores : FnI := ⟨2, 7, [false, false], (.cons (.own 2 (.lst .nil)) (.cons (.for_ (.many [3, 4]) (.seq (.ix (.call 29682851530105204 (.cons (.var 0) (.cons (.var 1) .nil))) (.int 3))) (.cons (.par [(5, 0), (6, 0)] (.cons (.call 109299962373989 (.cons (.var 0) (.cons (.var 3) (.cons (.var 4) .nil)))) (.cons (.call 109299962373989 (.cons (.var 0) (.cons (.var 3) (.cons (.bin .sub (.int 1) (.var 4)) .nil)))) .nil))) (.cons (.ite (.and (.cmp .ne (.var 4) (.ix (.ix (.var 0) (.int 0)) (.var 3))) (.notn (.var 5))) (.cons (.app 2 (.tup (.cons (.var 5) (.cons (.var 1) (.cons (.str ⟨#[103, 117, 97, 114, 100]⟩) .nil))))) .nil) .nil) (.cons (.ite (.and (.notn (.var 6)) (.or (.cmp .eq (.var 4) (.ix (.ix (.var 0) (.int 0)) (.var 3))) (.notn (.var 5)))) (.cons (.app 2 (.tup (.cons (.var 1) (.cons (.var 6) (.cons (.str ⟨#[98, 97, 114]⟩) .nil))))) .nil) .nil) .nil)))) (.frz [2] (.cons (.ret (.var 2)) .nil))))⟩
/-- 0 program, 1 found, 2 name, 3 item, 4 other -/
def F_befores_in : FnI := ⟨1, 5, [false], (.cons (.own 1 (.lst .nil)) (.cons (.for_ (.one 2) (.seq (.call 1797146899509936483699 (.cons (.var 0) .nil))) (.cons (.set 3 (.call 29682851530105204 (.cons (.var 0) (.cons (.var 2) .nil)))) (.cons (.ite (.cmp .gt (.ix (.var 2) (.int 1)) (.int 0)) (.cons (.app 1 (.tup (.cons (.tup (.cons (.ix (.var 2) (.int 0)) (.cons (.bin .sub (.ix (.var 2) (.int 1)) (.int 1)) .nil))) (.cons (.var 2) (.cons (.str ⟨#[114, 111, 119]⟩) .nil))))) .nil) .nil) (.cons (.ite (.cmp .eq (.ix (.var 3) (.int 0)) (.str ⟨#[119, 97, 105, 116]⟩)) (.cons (.for_ (.one 4) (.seq (.call 1797146899509936483699 (.cons (.var 0) .nil))) (.cons (.ite (.cmp .eq (.call 29682851530105204 (.cons (.var 0) (.cons (.var 4) .nil))) (.tup (.cons (.str ⟨#[116, 101, 108, 108]⟩) (.cons (.ix (.var 3) (.int 1)) .nil)))) (.cons (.app 1 (.tup (.cons (.var 4) (.cons (.var 2) (.cons (.str ⟨#[115, 105, 103, 110, 97, 108]⟩) .nil))))) .nil) .nil) .nil)) .nil) .nil) (.cons (.ite (.cmp .eq (.ix (.var 3) (.int 0)) (.str ⟨#[115, 101, 116]⟩)) (.cons (.ite (.cmp .eq (.ix (.var 3) (.int 2)) (.ix (.ix (.var 0) (.int 0)) (.ix (.var 3) (.int 1)))) (.cons (.app 1 (.tup (.cons (.call 109299962373989 (.cons (.var 0) (.cons (.ix (.var 3) (.int 1)) (.cons (.bin .sub (.int 1) (.ix (.var 3) (.int 2))) .nil)))) (.cons (.var 2) (.cons (.str ⟨#[116, 117, 114, 110]⟩) .nil))))) .nil) .nil) (.cons (.own 1 (.bin .add (.bor 1) (.call 8196828291124153386188233926003 (.cons (.var 0) (.cons (.var 2) .nil))))) .nil)) .nil) .nil))))) (.cons (.ret (.blt .sorted (.bor 1))) .nil)))⟩
/-- 0 program -/
def F_befores : FnI := ⟨1, 1, [false], (.cons (.ex (.call 8746478438066222438918977448052 (.cons (.var 0) .nil))) (.cons (.ret (.blt .tuple (.call 464662417716764232083822 (.cons (.var 0) .nil)))) .nil))⟩
/-- 0 program, 1 found, 2 name, 3 item, 4 lacks, 5 switch, 6 stand -/
def F_hopeless_in : FnI := ⟨1, 7, [false], (.cons (.own 1 (.lst .nil)) (.cons (.for_ (.one 2) (.seq (.call 1797146899509936483699 (.cons (.var 0) .nil))) (.cons (.set 3 (.call 29682851530105204 (.cons (.var 0) (.cons (.var 2) .nil)))) (.cons (.ite (.cmp .eq (.ix (.var 3) (.int 0)) (.str ⟨#[115, 101, 116]⟩)) (.cons (.set 4 (.comp (.many [5, 6]) (.seq (.ix (.var 3) (.int 3))) (.some (.cmp .ne (.var 6) (.ix (.ix (.var 0) (.int 0)) (.var 5)))) (.var 5))) (.cons (.ite (.cmp .ne (.comp (.one 5) (.seq (.var 4)) (.some (.isn (.call 109299962373989 (.cons (.var 0) (.cons (.var 5) (.cons (.bin .sub (.int 1) (.ix (.ix (.var 0) (.int 0)) (.var 5))) .nil)))))) (.var 5)) (.lst .nil)) (.cons (.app 1 (.var 2)) .nil) .nil) .nil)) .nil) .nil))) (.frz [1] (.cons (.ret (.var 1)) .nil))))⟩
/-- 0 program -/
def F_hopeless : FnI := ⟨1, 1, [false], (.cons (.ex (.call 8746478438066222438918977448052 (.cons (.var 0) .nil))) (.cons (.ret (.blt .tuple (.call 126254541263184062104693102 (.cons (.var 0) .nil)))) .nil))⟩
/-- 0 _law_program_here, 1 _law_found, 2 _law_name, 3 _law_item, 4 _law_switch, 5 _law_stand, 6 _law_hand, 7 _law_k, 8 _law_makers, 9 _law_takers, 10 _law_maker, 11 _law_taker -/
def F__law_befores : FnI := ⟨1, 12, [false], (.cons (.own 1 (.lst .nil)) (.cons (.for_ (.one 2) (.seq (.call 450624087419648520054131 (.cons (.var 0) .nil))) (.cons (.set 3 (.ix (.ix (.ix (.var 0) (.int 1)) (.ix (.var 2) (.int 0))) (.ix (.var 2) (.int 1)))) (.cons (.ite (.cmp .gt (.ix (.var 2) (.int 1)) (.int 0)) (.cons (.app 1 (.tup (.cons (.tup (.cons (.ix (.var 2) (.int 0)) (.cons (.bin .sub (.ix (.var 2) (.int 1)) (.int 1)) .nil))) (.cons (.var 2) (.cons (.str ⟨#[114, 111, 119]⟩) .nil))))) .nil) .nil) (.cons (.ite (.cmp .eq (.ix (.var 3) (.int 0)) (.str ⟨#[119, 97, 105, 116]⟩)) (.cons (.for_ (.many [6, 7]) (.seq (.call 450624087419648520054131 (.cons (.var 0) .nil))) (.cons (.ite (.cmp .eq (.ix (.ix (.ix (.var 0) (.int 1)) (.var 6)) (.var 7)) (.tup (.cons (.str ⟨#[116, 101, 108, 108]⟩) (.cons (.ix (.var 3) (.int 1)) .nil)))) (.cons (.app 1 (.tup (.cons (.tup (.cons (.var 6) (.cons (.var 7) .nil))) (.cons (.var 2) (.cons (.str ⟨#[115, 105, 103, 110, 97, 108]⟩) .nil))))) .nil) .nil) .nil)) .nil) .nil) (.cons (.ite (.and (.cmp .eq (.ix (.var 3) (.int 0)) (.str ⟨#[115, 101, 116]⟩)) (.cmp .eq (.ix (.var 3) (.int 2)) (.ix (.ix (.var 0) (.int 0)) (.ix (.var 3) (.int 1))))) (.cons (.app 1 (.tup (.cons (.ix (.call 115359766379435535990285682 (.cons (.var 0) (.cons (.ix (.var 3) (.int 1)) (.cons (.bin .sub (.int 1) (.ix (.var 3) (.int 2))) .nil)))) (.int 0)) (.cons (.var 2) (.cons (.str ⟨#[116, 117, 114, 110]⟩) .nil))))) .nil) .nil) (.cons (.for_ (.many [4, 5]) (.seq (.ite (.cmp .eq (.ix (.var 3) (.int 0)) (.str ⟨#[115, 101, 116]⟩)) (.ix (.var 3) (.int 3)) (.tup .nil))) (.cons (.par [(8, 0), (9, 0)] (.cons (.call 115359766379435535990285682 (.cons (.var 0) (.cons (.var 4) (.cons (.var 5) .nil)))) (.cons (.call 115359766379435535990285682 (.cons (.var 0) (.cons (.var 4) (.cons (.bin .sub (.int 1) (.var 5)) .nil)))) .nil))) (.cons (.ite (.cmp .ne (.var 5) (.ix (.ix (.var 0) (.int 0)) (.var 4))) (.cons (.own 1 (.bin .add (.bor 1) (.comp (.one 10) (.seq (.var 8)) .none (.tup (.cons (.var 10) (.cons (.var 2) (.cons (.str ⟨#[103, 117, 97, 114, 100]⟩) .nil))))))) .nil) .nil) (.cons (.ite (.or (.cmp .eq (.var 5) (.ix (.ix (.var 0) (.int 0)) (.var 4))) (.cmp .ne (.var 8) (.lst .nil))) (.cons (.own 1 (.bin .add (.bor 1) (.comp (.one 11) (.seq (.var 9)) .none (.tup (.cons (.var 2) (.cons (.var 11) (.cons (.str ⟨#[98, 97, 114]⟩) .nil))))))) .nil) .nil) .nil)))) .nil)))))) (.cons (.ret (.blt .sorted (.bor 1))) .nil)))⟩
/-- 0 _law_program_here, 1 _law_found, 2 _law_name, 3 _law_item, 4 _law_pair -/
def F__law_hopeless : FnI := ⟨1, 5, [false], (.cons (.own 1 (.lst .nil)) (.cons (.for_ (.one 2) (.seq (.call 450624087419648520054131 (.cons (.var 0) .nil))) (.cons (.set 3 (.ix (.ix (.ix (.var 0) (.int 1)) (.ix (.var 2) (.int 0))) (.ix (.var 2) (.int 1)))) (.cons (.ite (.cmp .eq (.ix (.var 3) (.int 0)) (.str ⟨#[115, 101, 116]⟩)) (.cons (.ite (.cmp .ne (.comp (.one 4) (.seq (.ix (.var 3) (.int 3))) (.some (.and (.cmp .ne (.ix (.var 4) (.int 1)) (.ix (.ix (.var 0) (.int 0)) (.ix (.var 4) (.int 0)))) (.cmp .eq (.call 115359766379435535990285682 (.cons (.var 0) (.cons (.ix (.var 4) (.int 0)) (.cons (.ix (.var 4) (.int 1)) .nil)))) (.lst .nil)))) (.var 4)) (.lst .nil)) (.cons (.app 1 (.var 2)) .nil) .nil) .nil) .nil) .nil))) (.frz [1] (.cons (.ret (.var 1)) .nil))))⟩
/-- 0 program, 1 pairs, 2 line, 3 left, 4 going, 5 ends, 6 ahead, 7 one, 8 other, 9 sort, 10 name -/
def F_ring_in : FnI := ⟨1, 11, [false], (.cons (.set 1 (.comp (.many [7, 8, 9]) (.seq (.call 464662417716764232083822 (.cons (.var 0) .nil))) .none (.tup (.cons (.var 7) (.cons (.var 8) .nil))))) (.cons (.par [(3, 0), (4, 0)] (.cons (.call 1797146899509936483699 (.cons (.var 0) .nil)) (.cons (.bl true) .nil))) (.cons (.while_ (.var 4) (.cons (.set 5 (.comp (.one 10) (.seq (.var 3)) (.some (.cmp .eq (.comp (.many [7, 8]) (.seq (.var 1)) (.some (.and (.cmp .eq (.var 8) (.var 10)) (.cmp .isin (.var 7) (.var 3)))) (.var 7)) (.lst .nil))) (.var 10))) (.cons (.set 3 (.comp (.one 10) (.seq (.var 3)) (.some (.cmp .notin (.var 10) (.var 5))) (.var 10))) (.cons (.set 4 (.cmp .ne (.var 5) (.lst .nil))) .nil)))) (.cons (.ite (.cmp .eq (.var 3) (.lst .nil)) (.cons (.ret .non) .nil) .nil) (.cons (.own 2 (.lst (.cons (.ix (.var 3) (.int 0)) .nil))) (.cons (.while_ (.bl true) (.cons (.set 6 (.ix (.comp (.many [7, 8]) (.seq (.var 1)) (.some (.and (.cmp .eq (.var 8) (.ix (.bor 2) (.neg (.int 1)))) (.cmp .isin (.var 7) (.var 3)))) (.var 7)) (.int 0))) (.cons (.ite (.cmp .isin (.var 6) (.bor 2)) (.cons (.ret (.blt .tuple (.rev (.sl (.bor 2) (.some (.idx (.bor 2) (.var 6))) .none)))) .nil) .nil) (.cons (.app 2 (.var 6)) .nil)))) .nil))))))⟩
/-- 0 program -/
def F_ring : FnI := ⟨1, 1, [false], (.cons (.ex (.call 8746478438066222438918977448052 (.cons (.var 0) .nil))) (.cons (.ret (.call 32204070246639982 (.cons (.var 0) .nil))) .nil))⟩
/-- 0 program, 1 value, 2 names, 3 one, 4 pairs, 5 other, 6 sort, 7 k -/
def F_shows_ring : FnI := ⟨2, 8, [false, false], (.cons (.ex (.call 8746478438066222438918977448052 (.cons (.var 0) .nil))) (.cons (.ite (.isn (.call 32204070246639982 (.cons (.var 0) .nil))) (.cons (.ret (.isn (.var 1))) .nil) .nil) (.cons (.ite (.or (.not (.isi (.var 1) [.tuple])) (.cmp .eq (.var 1) (.tup .nil))) (.cons (.ret (.bl false)) .nil) .nil) (.cons (.set 2 (.call 1797146899509936483699 (.cons (.var 0) .nil))) (.cons (.for_ (.one 3) (.seq (.var 1)) (.cons (.ite (.or (.not (.isi (.var 3) [.tuple])) (.or (.cmp .ne (.comp (.one 7) (.seq (.var 3)) (.some (.not (.call 452907198830 (.cons (.var 7) (.cons (.int 0) (.cons (.int 99) .nil)))))) (.var 7)) (.lst .nil)) (.cmp .notin (.var 3) (.var 2)))) (.cons (.ret (.bl false)) .nil) .nil) .nil)) (.cons (.set 4 (.comp (.many [3, 5, 6]) (.seq (.call 464662417716764232083822 (.cons (.var 0) .nil))) .none (.tup (.cons (.var 3) (.cons (.var 5) .nil))))) (.cons (.ret (.cmp .eq (.comp (.one 7) (.rng1 (.blt .len (.var 1))) (.some (.cmp .notin (.tup (.cons (.ix (.var 1) (.bin .sub (.var 7) (.int 1))) (.cons (.ix (.var 1) (.var 7)) .nil))) (.var 4))) (.var 7)) (.lst .nil))) .nil)))))))⟩
/-- 0 _law_program_here, 1 _law_ahead_here, 2 _law_middle, 3 _law_names_here, 4 _law_pairs, 5 _law_name, 6 _law_one, 7 _law_other, 8 _law_sort -/
def F__law_ahead : FnI := ⟨1, 9, [false], (.cons (.par [(3, 0), (4, 0)] (.cons (.call 450624087419648520054131 (.cons (.var 0) .nil)) (.cons (.comp (.many [6, 7, 8]) (.seq (.call 29532100193130712078696473971 (.cons (.var 0) .nil))) .none (.tup (.cons (.var 6) (.cons (.var 7) .nil)))) .nil))) (.cons (.own 1 (.blt .dict (.comp (.one 5) (.seq (.var 3)) .none (.tup (.cons (.var 5) (.cons (.comp (.many [6, 7]) (.seq (.var 4)) (.some (.cmp .eq (.var 7) (.var 5))) (.var 6)) .nil)))))) (.cons (.for_ (.one 2) (.seq (.var 3)) (.cons (.for_ (.one 5) (.seq (.var 3)) (.cons (.ite (.cmp .isin (.var 2) (.ix (.bor 1) (.var 5))) (.cons (.put 1 (.var 5) (.bin .add (.ix (.bor 1) (.var 5)) (.comp (.one 6) (.seq (.ix (.bor 1) (.var 2))) (.some (.cmp .notin (.var 6) (.ix (.bor 1) (.var 5)))) (.var 6)))) .nil) .nil) .nil)) .nil)) (.frz [1] (.cons (.ret (.var 1)) .nil)))))⟩
/-- 0 _law_value, 1 _law_size, 2 _law_x -/
def F__law_is_vector : FnI := ⟨2, 3, [false, false], (.cons (.ite (.or (.not (.isi (.var 0) [.tuple])) (.cmp .ne (.blt .len (.var 0)) (.var 1))) (.cons (.ret (.bl false)) .nil) .nil) (.cons (.ret (.cmp .eq (.comp (.one 2) (.seq (.var 0)) (.some (.or (.not (.isi (.var 2) [.int])) (.isi (.var 2) [.bool]))) (.var 2)) (.lst .nil))) .nil))⟩
end VI

set_option Elab.async false
set_option linter.all false
set_option maxRecDepth 100000
/-! the small language reckoned with: what a run does, by rules -/
namespace VI
/-- an equation by reckoning, not to be reckoned again -/
theorem nr {α : Sort u} {a b : α} (h : a = b) : a = b := h
section
variable {α β : Type}
def wp0 (m : M α) (w : Wd) (Q : α → Wd → Prop) : Prop := match m w with
  | .ok a w' => Q a w'
  | _ => False
/-- not reckoned out by itself -/
structure wp (m : M α) (w : Wd) (Q : α → Wd → Prop) : Prop where
  out : wp0 m w Q
theorem wp_iff {m : M α} {w : Wd} {Q : α → Wd → Prop} : wp m w Q ↔ wp0 m w Q := ⟨fun h => h.out, fun h => ⟨h⟩⟩
@[simp] theorem bnd_ret {a : α} {f : α → M β} : bnd (ret a) f = f a := nr rfl
@[simp] theorem bnd_stuck {f : α → M β} : bnd (stuck : M α) f = stuck := nr rfl
theorem bnd_bnd {γ : Type} {m : M α} {f : α → M β} {g : β → M γ} : bnd (bnd m f) g = bnd m fun a => bnd (f a) g := by
  funext w
  unfold bnd
  cases m w <;> rfl
@[simp] theorem lft_some {a : α} : lft (some a) = ret a := nr rfl
@[simp] theorem lft_none : lft (none : Option α) = stuck := nr rfl
@[simp] theorem fin_v {m : M D} : fin .v m = m := nr rfl
@[simp] theorem iteM_bl {b : Bool} {x y : M α} : iteM (ret (.bl b)) x y = if b then x else y := by
  unfold iteM; cases b <;> rfl
theorem iteM_bnd {b : M D} {x y : M α} {f : α → M β} : bnd (iteM b x y) f = iteM b (bnd x f) (bnd y f) := by
  funext w
  unfold iteM bnd
  cases b w with
  | ok a w =>
    cases a <;> first | rfl | skip
    rename_i b; cases b <;> rfl
  | _ => rfl
@[simp] theorem bnd_ite {c : Prop} [Decidable c] {x y : M α} {f : α → M β} : bnd (if c then x else y) f = if c then bnd x f else bnd y f := by
  split <;> rfl
@[simp] theorem shut_ret {a : α} : shut (ret a) = ret a := nr rfl
theorem wp_ret {a : α} {w : Wd} {Q : α → Wd → Prop} : wp (ret a) w Q ↔ Q a w := wp_iff
theorem wp_bnd {m : M α} {f : α → M β} {w : Wd} {Q : β → Wd → Prop} : wp (bnd m f) w Q ↔ wp m w fun a w' => wp (f a) w' Q := by
  rw [wp_iff]
  unfold wp0 bnd
  simp only [wp_iff]
  unfold wp0
  cases m w <;> exact Iff.rfl
theorem wp_mono {m : M α} {w : Wd} {Q R : α → Wd → Prop} (h : wp m w Q) (g : ∀ a w', Q a w' → R a w') : wp m w R := by
  rw [wp_iff] at *
  unfold wp0 at *
  revert h
  cases m w with
  | ok a w' => exact g a w'
  | _ => exact fun h => h
theorem wp_ite {c : Prop} [Decidable c] {x y : M α} {w : Wd} {Q : α → Wd → Prop} (h1 : c → wp x w Q) (h2 : ¬ c → wp y w Q) : wp (if c then x else y) w Q := by
  by_cases h : c
  · rw [if_pos h]; exact h1 h
  · rw [if_neg h]; exact h2 h
theorem wp_shut {m : M α} {w : Wd} {Q : α → Wd → Prop} (h : wp m w Q) : wp (shut m) w Q := by
  rw [wp_iff] at *
  unfold wp0 shut at *
  revert h
  cases m w <;> exact fun h => h
/-- a walk keeps an invariant: over what is done and what is left -/
theorem wp_mapM {f : D → M (Option D)} {xs : List D} (Inv : List D → List D → Wd → Prop) {w : Wd} {Q : List D → Wd → Prop} (h0 : Inv [] [] w)
    (hs : ∀ dn x ys w, x ∈ xs → Inv dn ys w → wp (f x) w fun o w' => Inv (dn ++ [x]) (ys ++ o.toList) w') (hq : ∀ ys w, Inv xs ys w → Q ys w) : wp (mapM f xs) w Q := by
  suffices h : ∀ (l dn : List D) (ys : List D) (w : Wd) (Q : List D → Wd → Prop), (∀ x ∈ l, x ∈ xs) → Inv dn ys w → (∀ zs w, Inv (dn ++ l) (ys ++ zs) w → Q zs w) → wp (mapM f l) w Q from
    h xs [] [] w Q (fun _ h => h) h0 fun ys w i => hq ys w i
  intro l
  induction l with
  | nil => intro dn ys w Q _ i q; exact wp_ret.mpr (q [] w (by simpa using i))
  | cons x l ih =>
    intro dn ys w Q hm i q
    unfold mapM
    refine wp_bnd.mpr (wp_mono (hs dn x ys w (hm x (.head _)) i) fun o w' i' => ?_)
    refine wp_bnd.mpr (ih _ _ w' _ (fun y hy => hm y (.tail _ hy)) i' fun zs w'' i'' => ?_)
    refine wp_ret.mpr (q _ _ ?_)
    cases o with
    | none => simpa using i''
    | some y => simpa using i''
theorem mapM_pure {f : D → M (Option D)} {g : D → Option D} : ∀ {xs : List D}, (∀ x ∈ xs, f x = ret (g x)) → mapM f xs = ret (xs.filterMap g)
  | [], _ => rfl
  | x :: xs, h => by
    unfold mapM
    rw [h x (.head _), bnd_ret, mapM_pure fun y hy => h y (.tail _ hy), bnd_ret, List.filterMap_cons]
    cases g x <;> rfl
theorem wp_forL {p : Pat} {body : Env → M Flow} {xs : List D} (Inv : List D → Env → Wd → Prop) {env : Env} {w : Wd} {Q : Flow → Wd → Prop} (h0 : Inv [] env w)
    (hs : ∀ dn x env w, x ∈ xs → Inv dn env w → ∃ env', bindP p x env = some env' ∧ wp (body env') w fun fl w' => match fl with
      | .nx e => Inv (dn ++ [x]) e w'
      | .bk e => Q (.nx e) w'
      | .rt d => Q (.rt d) w') (hq : ∀ e w, Inv xs e w → Q (.nx e) w) : wp (forL p body xs env) w Q := by
  suffices h : ∀ (l dn : List D) (env : Env) (w : Wd), (∀ x ∈ l, x ∈ xs) → dn ++ l = xs → Inv dn env w → wp (forL p body l env) w Q from h xs [] env w (fun _ h => h) rfl h0
  intro l
  induction l with
  | nil => intro dn env w _ e i; exact wp_ret.mpr (hq _ _ (by rw [← e]; simpa using i))
  | cons x l ih =>
    intro dn env w hm e i
    obtain ⟨env', e1, h⟩ := hs dn x env w (hm x (.head _)) i
    unfold forL
    rw [e1, lft_some, bnd_ret]
    refine wp_bnd.mpr (wp_mono h fun fl w' i' => ?_)
    cases fl with
    | nx e2 => exact ih (dn ++ [x]) e2 w' (fun y hy => hm y (.tail _ hy)) (by rw [← e]; simp) i'
    | bk e2 => exact wp_ret.mpr i'
    | rt d => exact wp_ret.mpr i'
theorem run_at {T : Tbl} {gl : Nat → Option D} {n k c : Nat} {fi : FnI} {args : List D} (h : T.at_ c = some fi) (hl : args.length = fi.ps) :
    run T gl n (k + 1) c args = bnd (execs ⟨run T gl n k, gl, n⟩ fi.body (startE fi args)) endF := by
  conv => lhs; unfold run
  rw [h]
  show (if Nat.beq args.length fi.ps then _ else _) = _
  rw [hl, if_pos (Nat.beq_refl _)]
end
/-- a table holds these defs -/
def Has (T : Tbl) (l : List (Nat × FnI)) : Prop := ∀ p ∈ l, T.at_ p.1 = some p.2
@[simp] theorem bin_add {i j : Int} : D.bin .add (.int i) (.int j) = some (.int (i + j)) := nr rfl
@[simp] theorem bin_sub {i j : Int} : D.bin .sub (.int i) (.int j) = some (.int (i - j)) := nr rfl
@[simp] theorem cmp_lt {i j : Int} : D.cmp .lt (.int i) (.int j) = some (decide (i < j)) := nr rfl
@[simp] theorem cmp_le {i j : Int} : D.cmp .le (.int i) (.int j) = some (decide (i ≤ j)) := nr rfl
@[simp] theorem cmp_gt {i j : Int} : D.cmp .gt (.int i) (.int j) = some (decide (j < i)) := nr rfl
@[simp] theorem cmp_ge {i j : Int} : D.cmp .ge (.int i) (.int j) = some (decide (j ≤ i)) := nr rfl

/-- one statement, then others: what comes later is not looked at ahead -/
def seqM (m : M Flow) (k : Env → M Flow) : M Flow := bnd m fun fl => match fl with
  | .nx e => k e
  | .rt d => ret (.rt d)
  | .bk e => ret (.bk e)
@[simp] theorem seq_nx {e : Env} {k : Env → M Flow} : seqM (ret (.nx e)) k = k e := nr rfl
@[simp] theorem seq_rt {d : D} {k : Env → M Flow} : seqM (ret (.rt d)) k = ret (.rt d) := nr rfl
@[simp] theorem seq_bk {e : Env} {k : Env → M Flow} : seqM (ret (.bk e)) k = ret (.bk e) := nr rfl
def contW (k : Env → M Flow) (Q : Flow → Wd → Prop) : Flow → Wd → Prop := fun fl w => match fl with
  | .nx e => wp (k e) w Q
  | .rt d => Q (.rt d) w
  | .bk e => Q (.bk e) w
@[simp] theorem cont_nx {k : Env → M Flow} {Q : Flow → Wd → Prop} {e : Env} {w : Wd} : contW k Q (.nx e) w = wp (k e) w Q := nr rfl
@[simp] theorem cont_rt {k : Env → M Flow} {Q : Flow → Wd → Prop} {d : D} {w : Wd} : contW k Q (.rt d) w = Q (.rt d) w := nr rfl
@[simp] theorem cont_bk {k : Env → M Flow} {Q : Flow → Wd → Prop} {e : Env} {w : Wd} : contW k Q (.bk e) w = Q (.bk e) w := nr rfl
theorem wp_seq {m : M Flow} {k : Env → M Flow} {w : Wd} {Q : Flow → Wd → Prop} : wp (seqM m k) w Q ↔ wp m w (contW k Q) := by
  unfold seqM
  rw [wp_bnd]
  unfold contW
  constructor
  · exact fun h => wp_mono h fun fl w' q => by cases fl <;> first | exact q | exact wp_ret.mp q | exact wp_ret.mpr q
  · exact fun h => wp_mono h fun fl w' q => by cases fl <;> first | exact q | exact wp_ret.mp q | exact wp_ret.mpr q
def iteS (c : M D) (a b : Env → M Flow) (env : Env) : M Flow := iteM c (a env) (b env)
@[simp] theorem iteS_bl {b : Bool} {x y : Env → M Flow} {env : Env} : iteS (ret (.bl b)) x y env = if b then x env else y env := iteM_bl
theorem wp_iteS {c : M D} {a b : Env → M Flow} {env : Env} {w : Wd} {Q : Flow → Wd → Prop} {B : Bool → Wd → Prop} (h : wp c w fun d w' => ∃ b, d = .bl b ∧ B b w') (ht : ∀ w', B true w' → wp (a env) w' Q) (hf : ∀ w', B false w' → wp (b env) w' Q) : wp (iteS c a b env) w Q := by
  unfold iteS iteM
  refine wp_bnd.mpr (wp_mono h fun d w' ⟨x, e, q⟩ => ?_)
  subst e
  cases x
  · exact hf w' q
  · exact ht w' q
theorem wp_iteM {α : Type} {c : M D} {a b : M α} {w : Wd} {Q : α → Wd → Prop} {B : Bool → Wd → Prop} (h : wp c w fun d w' => ∃ b, d = .bl b ∧ B b w') (ht : ∀ w', B true w' → wp a w' Q) (hf : ∀ w', B false w' → wp b w' Q) : wp (iteM c a b) w Q := by
  unfold iteM
  refine wp_bnd.mpr (wp_mono h fun d w' ⟨x, e, q⟩ => ?_)
  subst e
  cases x
  · exact hf w' q
  · exact ht w' q
def rngO (x : D) : Option (List D) := (toI x).bind fun n => if okRng n then some (rngL 0 n) else none
def rngO2 (x y : D) : Option (List D) := (toI x).bind fun m => (toI y).bind fun n => if okRng m && okRng n then some (rngL m n) else none
section
variable {G : Glo} {env : Env} {md : Md}
@[simp] theorem ev_var {i : Nat} : ev G (.var i) md env = fin md (lft (look env i)) := nr rfl
@[simp] theorem ev_bor {i : Nat} : ev G (.bor i) md env = fin md (lft (lookB env i)) := nr rfl
@[simp] theorem ev_bor2 {i : Nat} : ev G (.bor2 i) md env = fin md (lft (lookB2 env i)) := nr rfl
@[simp] theorem ev_glob {i : Nat} : ev G (.glob i) md env = fin md (lft (G.glob i)) := nr rfl
@[simp] theorem ev_int {i : Int} : ev G (.int i) md env = fin md (ret (.int i)) := nr rfl
@[simp] theorem ev_bl {i : Bool} : ev G (.bl i) md env = fin md (ret (.bl i)) := nr rfl
@[simp] theorem ev_str {i : PySem.Str} : ev G (.str i) md env = fin md (ret (.str i)) := nr rfl
@[simp] theorem ev_non : ev G .non md env = fin md (ret .non) := nr rfl
@[simp] theorem ev_tup {es : Es} : ev G (.tup es) md env = fin md (bnd (evs G es env) fun ds => lft (guardO (decide (ds.length ≤ lim)) (some (.tup ds)))) := nr rfl
@[simp] theorem ev_lst {es : Es} : ev G (.lst es) md env = fin md (bnd (evs G es env) fun ds => lft (guardO (decide (ds.length ≤ lim)) (some (.lst ds)))) := nr rfl
@[simp] theorem ev_bin {o : Bop} {a b : E} : ev G (.bin o a b) md env = fin md (bnd (ev G a .v env) fun x => bnd (ev G b .v env) fun y => lft (D.bin o x y)) := nr rfl
@[simp] theorem ev_neg {a : E} : ev G (.neg a) md env = fin md (bnd (ev G a .v env) fun x => lft (negD x)) := nr rfl
@[simp] theorem ev_not_t {a : E} : ev G (.not a) .t env = bnd (ev G a .t env) fun x => lft ((toB x).map fun b => .bl (!b)) := nr rfl
@[simp] theorem ev_not_v {a : E} : ev G (.not a) .v env = bnd (ev G a .v env) fun x => lft (x.truth.map fun b => .bl (!b)) := nr rfl
@[simp] theorem ev_and_t {a b : E} : ev G (.and a b) .t env = iteM (ev G a .t env) (ev G b .t env) (ret (.bl false)) := nr rfl
@[simp] theorem ev_and_v {a b : E} : ev G (.and a b) .v env = bnd (ev G a .v env) fun x => bnd (lft x.truth) fun c => if c then ev G b .v env else ret x := nr rfl
@[simp] theorem ev_or_t {a b : E} : ev G (.or a b) .t env = iteM (ev G a .t env) (ret (.bl true)) (ev G b .t env) := nr rfl
@[simp] theorem ev_or_v {a b : E} : ev G (.or a b) .v env = bnd (ev G a .v env) fun x => bnd (lft x.truth) fun c => if c then ret x else ev G b .v env := nr rfl
@[simp] theorem ev_ite {c a b : E} : ev G (.ite c a b) md env = iteM (ev G c .t env) (ev G a md env) (ev G b md env) := nr rfl
@[simp] theorem ev_cmp {o : Cop} {a b : E} : ev G (.cmp o a b) md env = bnd (ev G a .v env) fun x => bnd (ev G b .v env) fun y => lft ((D.cmp o x y).map .bl) := nr rfl
@[simp] theorem ev_chain {o o' : Cop} {a b c : E} : ev G (.chain o o' a b c) md env = bnd (ev G a .v env) fun x => bnd (ev G b .v env) fun y => bnd (lft (D.cmp o x y)) fun k =>
      if k then bnd (ev G c .v env) fun z => lft ((D.cmp o' y z).map .bl) else ret (.bl false) := nr rfl
@[simp] theorem ev_isn {a : E} : ev G (.isn a) md env = bnd (ev G a .v env) fun x => ret (.bl (isNon x)) := nr rfl
@[simp] theorem ev_notn {a : E} : ev G (.notn a) md env = bnd (ev G a .v env) fun x => ret (.bl (!isNon x)) := nr rfl
@[simp] theorem ev_isi {a : E} {ts : List Ty} : ev G (.isi a ts) md env = bnd (ev G a .v env) fun x => lft ((isTys x ts).map .bl) := nr rfl
@[simp] theorem ev_call {f : Nat} {es : Es} : ev G (.call f es) md env = fin md (bnd (evs G es env) fun ds => G.call f ds) := nr rfl
@[simp] theorem ev_blt {b : Bl1} {a : E} : ev G (.blt b a) md env = fin md (bnd (ev G a .v env) fun x => lft (bl1 b x)) := nr rfl
@[simp] theorem ev_rng {a : E} : ev G (.rng a) md env = fin md (bnd (ev G a .v env) fun x => lft ((toI x).bind fun n => guardO (okRng n && decide (n ≤ 1000000)) (some (.lst (rngL 0 n))))) := nr rfl
@[simp] theorem ev_cnt {a x : E} : ev G (.cnt a x) md env = fin md (bnd (bnd (ev G a .v env) fun a => lft (needL a)) fun a => bnd (ev G x .v env) fun x => lft (cntD a x)) := nr rfl
@[simp] theorem ev_idx {a x : E} : ev G (.idx a x) md env = fin md (bnd (bnd (ev G a .v env) fun a => lft (needL a)) fun a => bnd (ev G x .v env) fun x => lft (idxD a x)) := nr rfl
@[simp] theorem ev_ix {a i : E} : ev G (.ix a i) md env = fin md (bnd (ev G a .v env) fun a => bnd (ev G i .v env) fun i => ixM a i) := nr rfl
@[simp] theorem ev_sl {a : E} {lo hi : Eo} : ev G (.sl a lo hi) md env = fin md (bnd (ev G a .v env) fun a => bnd (evO G lo env) fun lo => bnd (evO G hi env) fun hi => lft (D.sl a lo hi)) := nr rfl
@[simp] theorem ev_rev {a : E} : ev G (.rev a) md env = fin md (bnd (ev G a .v env) fun a => lft (D.rev a)) := nr rfl
@[simp] theorem ev_comp {p : Pat} {it : It} {c : Eo} {e : E} : ev G (.comp p it c e) md env = fin md (bnd (evI G it env) fun xs => shut (bnd (mapM (fun x => bnd (lft (bindP p x (wipeE env p.slots))) fun env' =>
      iteM (evC G c env') (bnd (ev G e .v env') fun y => ret (some y)) (ret none)) xs) fun ys => lft (guardO (decide (ys.length ≤ lim)) (some (.lst ys))))) := nr rfl
@[simp] theorem evs_nil : evs G .nil env = ret [] := nr rfl
@[simp] theorem evs_cons {e : E} {es : Es} : evs G (.cons e es) env = bnd (ev G e .v env) fun d => bnd (evs G es env) fun ds => ret (d :: ds) := nr rfl
@[simp] theorem evO_none : evO G .none env = ret none := nr rfl
@[simp] theorem evO_some {e : E} : evO G (.some e) env = bnd (ev G e .v env) fun d => lft ((toI d).map some) := nr rfl
@[simp] theorem evC_none : evC G .none env = ret (.bl true) := nr rfl
@[simp] theorem evC_some {e : E} : evC G (.some e) env = ev G e .t env := nr rfl
@[simp] theorem evI_seq {e : E} : evI G (.seq e) env = bnd (ev G e .v env) fun d => lft (seqL d) := nr rfl
@[simp] theorem evI_rng1 {a : E} : evI G (.rng1 a) env = bnd (ev G a .v env) fun x => lft (rngO x) := nr rfl
@[simp] theorem evI_rng2 {a b : E} : evI G (.rng2 a b) env = bnd (ev G a .v env) fun x => bnd (ev G b .v env) fun y => lft (rngO2 x y) := nr rfl
@[simp] theorem evI_enum {e : E} : evI G (.enum e) env = bnd (ev G e .v env) fun d => lft ((seqL d).map (enumL 0)) := nr rfl
@[simp] theorem ex_set {i : Nat} {e : E} : exec G (.set i e) env = bnd (ev G e .v env) fun d => ret (.nx (env.set i (.fz d))) := nr rfl
@[simp] theorem ex_own {i : Nat} {e : E} : exec G (.own i e) env = bnd (ev G e .v env) fun d => bnd (lft (ownD d)) fun s => ret (.nx (env.set i s)) := nr rfl
@[simp] theorem ex_own2 {i : Nat} : exec G (.own2 i) env = ret (.nx (env.set i (.ow2 []))) := nr rfl
@[simp] theorem ex_unp {is : List Nat} {e : E} : exec G (.unp is e) env = bnd (ev G e .v env) fun d => (match d with
    | .tup ds => bnd (lft (putAll env is ds)) fun env => ret (.nx env)
    | _ => stuck) := nr rfl
@[simp] theorem ex_par {is : List (Nat × Nat)} {es : Es} : exec G (.par is es) env = bnd (evs G es env) fun ds => bnd (lft (parL env is ds)) fun env => ret (.nx env) := nr rfl
@[simp] theorem ex_put {i : Nat} {k v : E} : exec G (.put i k v) env = bnd (ev G v .v env) fun v => bnd (lft (putOk env i)) fun _ => bnd (ev G k .v env) fun k => putM env i k v := nr rfl
@[simp] theorem ex_ex {e : E} : exec G (.ex e) env = bnd (ev G e .v env) fun _ => ret (.nx env) := nr rfl
@[simp] theorem ex_ite {c : E} {a b : Ss} : exec G (.ite c a b) env = iteS (ev G c .t env) (execs G a) (execs G b) env := nr rfl
@[simp] theorem ex_for {p : Pat} {it : It} {b : Ss} : exec G (.for_ p it b) env = bnd (evI G it env) fun xs => forL p (execs G b) xs env := nr rfl
@[simp] theorem ex_while {c : E} {b : Ss} : exec G (.while_ c b) env = whileL (ev G c .t) (execs G b) G.fuel env := nr rfl
@[simp] theorem ex_ret {e : E} : exec G (.ret e) env = bnd (ev G e .v env) fun d => ret (.rt d) := nr rfl
@[simp] theorem ex_retN : exec G .retN env = ret (.rt .non) := nr rfl
@[simp] theorem ex_brk : exec G .brk env = ret (.bk env) := nr rfl
@[simp] theorem ex_pass : exec G .pass env = ret (.nx env) := nr rfl
@[simp] theorem exs_nil : execs G .nil env = ret (.nx env) := nr rfl
@[simp] theorem exs_cons {s : S} {ss : Ss} : execs G (.cons s ss) env = seqM (exec G s env) (execs G ss) := nr rfl
@[simp] theorem exs_frz {is : List Nat} {ss : Ss} : execs G (.frz is ss) env = execs G ss (freezeAll env is) := nr rfl
@[simp] theorem iteM_t {c : M D} {x y : M α} : iteM (bnd c fun a => ret a) x y = iteM c x y := by
  funext w
  unfold iteM bnd
  cases c w <;> rfl
end
theorem ex_app {G : Glo} {env : Env} {i : Nat} {e : E} {ds : List D} (h : env[i]? = some (.ow ds)) : exec G (.app i e) env = bnd (ev G e .v env) fun d => if ds.length < lim then ret (.nx (env.set i (.ow (ds ++ [d])))) else stuck := by
  conv => lhs; unfold exec
  rw [h]
theorem ex_app2 {G : Glo} {env : Env} {i : Nat} {ds : List (List D)} (h : env[i]? = some (.ow2 ds)) : exec G (.app2 i) env = if ds.length < lim then ret (.nx (env.set i (.ow2 (ds ++ [[]])))) else stuck := by
  conv => lhs; unfold exec
  rw [h]
theorem ex_appi {G : Glo} {env : Env} {i : Nat} {j e : E} {dss : List (List D)} (h : env[i]? = some (.ow2 dss)) : exec G (.appi i j e) env = bnd (ev G j .v env) fun k => bnd (lft (rowAt dss k)) fun p => bnd (ev G e .v env) fun d => if p.2.length < lim then ret (.nx (env.set i (.ow2 (dss.set p.1 (p.2 ++ [d]))))) else stuck := by
  conv => lhs; unfold exec
  rw [h]
theorem ex_newo {G : Glo} {env : Env} {i : Nat} {es : Es} : exec G (.newo i es) env = bnd (evs G es env) fun ds => fun w => if ds.length ≤ lim then .ok (.nx (env.set i (.fz (.obj w.length)))) (w ++ [.cells ds]) else .no := rfl
theorem ret_of_wp {α : Type} {m : M α} {a : α} (h : ∀ w, wp m w fun d w' => d = a ∧ w' = w) : m = ret a := by
  funext w
  have := (h w).out
  unfold wp0 at this
  cases q : m w with
  | ok d w' => rw [q] at this; obtain ⟨rfl, rfl⟩ := this; rfl
  | exn c f w' => rw [q] at this; exact this.elim
  | no => rw [q] at this; exact this.elim
/-- a walk's flow, the walked not looked at -/
theorem wp_forR {p : Pat} {body : Env → M Flow} {xs : List D} (Inv : List D → List D → Env → Wd → Prop) {env : Env} {w : Wd} {Q : Flow → Wd → Prop} (h0 : Inv [] xs env w)
    (hs : ∀ dn x r env w, Inv dn (x :: r) env w → ∃ env', bindP p x env = some env' ∧ wp (body env') w fun fl w' => match fl with
      | .nx e => Inv (dn ++ [x]) r e w'
      | .bk e => Q (.nx e) w'
      | .rt d => Q (.rt d) w') (hq : ∀ e w, Inv xs [] e w → Q (.nx e) w) : wp (forL p body xs env) w Q := by
  suffices h : ∀ (l dn : List D) (env : Env) (w : Wd), dn ++ l = xs → Inv dn l env w → wp (forL p body l env) w Q from h xs [] env w rfl h0
  intro l
  induction l with
  | nil => intro dn env w e i; exact wp_ret.mpr (hq _ _ (by rw [← e]; simpa using i))
  | cons x l ih =>
    intro dn env w e i
    obtain ⟨env', e1, h⟩ := hs dn x l env w i
    unfold forL
    rw [e1, lft_some, bnd_ret]
    refine wp_bnd.mpr (wp_mono h fun fl w' i' => ?_)
    cases fl with
    | nx e2 => exact ih (dn ++ [x]) e2 w' (by rw [← e]; simp) i'
    | bk e2 => exact wp_ret.mpr i'
    | rt d => exact wp_ret.mpr i'

@[simp] theorem fin_t_ret {d : D} : fin .t (ret d) = lft (d.truth.map .bl) := nr rfl
@[simp] theorem look_0 {d : D} {e : Env} : look (.fz d :: e) 0 = some d := nr rfl
@[simp] theorem look_s {s : Sl} {e : Env} {i : Nat} : look (s :: e) (i + 1) = look e i := nr rfl
@[simp] theorem lookB_0 {d : D} {e : Env} : lookB (.fz d :: e) 0 = some d := nr rfl
@[simp] theorem lookB_1 {d : List D} {e : Env} : lookB (.ow d :: e) 0 = some (.lst d) := nr rfl
@[simp] theorem lookB_2 {d : List D} {e : Env} : lookB (.bo d :: e) 0 = some (.lst d) := nr rfl
@[simp] theorem lookB_s {s : Sl} {e : Env} {i : Nat} : lookB (s :: e) (i + 1) = lookB e i := nr rfl
@[simp] theorem tr_bl {b : Bool} : D.truth (.bl b) = some b := nr rfl
@[simp] theorem tr_int {i : Int} : D.truth (.int i) = some (i != 0) := nr rfl
@[simp] theorem toB_bl {b : Bool} : toB (.bl b) = some b := nr rfl
@[simp] theorem toI_int {b : Int} : toI (.int b) = some b := nr rfl
@[simp] theorem neg_int {b : Int} : negD (.int b) = some (.int (-b)) := nr rfl
@[simp] theorem isNon_bl {b : Bool} : isNon (.bl b) = false := nr rfl
@[simp] theorem isNon_str {b : PySem.Str} : isNon (.str b) = false := nr rfl
@[simp] theorem isNon_lst {b : List D} : isNon (.lst b) = false := nr rfl
@[simp] theorem isNon_int {b : Int} : isNon (.int b) = false := nr rfl
@[simp] theorem isNon_tup {b : List D} : isNon (.tup b) = false := nr rfl
@[simp] theorem isNon_non : isNon .non = true := nr rfl
@[simp] theorem seq_lst {xs : List D} : seqL (.lst xs) = some xs := nr rfl
@[simp] theorem seq_tup {xs : List D} : seqL (.tup xs) = some xs := nr rfl
@[simp] theorem len_lst {xs : List D} : bl1 .len (.lst xs) = some (.int xs.length) := nr rfl
@[simp] theorem len_tup {xs : List D} : bl1 .len (.tup xs) = some (.int xs.length) := nr rfl
@[simp] theorem len_scr {xs : List Int} : bl1 .len (.scr xs) = some (.int xs.length) := nr rfl
@[simp] theorem bl_int {i : Int} : bl1 .int (.int i) = some (.int i) := nr rfl
@[simp] theorem bl_tup_lst {xs : List D} : bl1 .tuple (.lst xs) = some (.tup xs) := nr rfl
@[simp] theorem bl_tup_tup {xs : List D} : bl1 .tuple (.tup xs) = some (.tup xs) := nr rfl
@[simp] theorem bl_lst_lst {xs : List D} : bl1 .list (.lst xs) = some (.lst xs) := nr rfl
@[simp] theorem bl_lst_tup {xs : List D} : bl1 .list (.tup xs) = some (.lst xs) := nr rfl
@[simp] theorem needL_lst {xs : List D} : needL (.lst xs) = some (.lst xs) := nr rfl
@[simp] theorem ixM_tup {xs : List D} {i : D} : ixM (.tup xs) i = lft (D.ix (.tup xs) i) := nr rfl
@[simp] theorem ixM_lst {xs : List D} {i : D} : ixM (.lst xs) i = lft (D.ix (.lst xs) i) := nr rfl
@[simp] theorem ixM_scr {xs : List Int} {i : D} : ixM (.scr xs) i = lft (D.ix (.scr xs) i) := nr rfl
@[simp] theorem ownD_lst {xs : List D} : ownD (.lst xs) = some (.ow xs) := nr rfl
@[simp] theorem endF_rt {d : D} : endF (.rt d) = ret d := nr rfl
@[simp] theorem endF_nx {e : Env} : endF (.nx e) = ret .non := nr rfl
@[simp] theorem guard_t {x : Option D} : guardO true x = x := nr rfl
theorem atI_nat {α : Type} {xs : List α} {i : Nat} : L2.atI xs (i : Int) = xs[i]? := by
  unfold L2.atI L2.ixN
  by_cases h : i < xs.length
  · rw [if_pos (by omega), if_pos (by omega)]; rfl
  · rw [if_pos (by omega), if_neg (by omega), List.getElem?_eq_none (by omega)]; rfl
@[simp] theorem ix_tup_nat {xs : List D} {i : Nat} : D.ix (.tup xs) (.int (i : Int)) = xs[i]? := atI_nat
@[simp] theorem ix_lst_nat {xs : List D} {i : Nat} : D.ix (.lst xs) (.int (i : Int)) = xs[i]? := atI_nat
@[simp] theorem ix_tup_lit {xs : List D} {i : Nat} : D.ix (.tup xs) (.int (no_index (OfNat.ofNat i) : Int)) = xs[i]? := atI_nat
@[simp] theorem ix_lst_lit {xs : List D} {i : Nat} : D.ix (.lst xs) (.int (no_index (OfNat.ofNat i) : Int)) = xs[i]? := atI_nat
@[simp] theorem ix_tup_0 {xs : List D} : D.ix (.tup xs) (.int 0) = xs[0]? := atI_nat (i := 0)
@[simp] theorem ix_lst_0 {xs : List D} : D.ix (.lst xs) (.int 0) = xs[0]? := atI_nat (i := 0)
@[simp] theorem ix_tup_1 {xs : List D} : D.ix (.tup xs) (.int 1) = xs[1]? := atI_nat (i := 1)
@[simp] theorem ix_lst_1 {xs : List D} : D.ix (.lst xs) (.int 1) = xs[1]? := atI_nat (i := 1)
@[simp] theorem cmp_eq_int {i j : Int} : D.cmp .eq (.int i) (.int j) = some (decide (i = j)) := by
  show some (i == j) = _
  congr 1
@[simp] theorem cmp_ne_int {i j : Int} : D.cmp .ne (.int i) (.int j) = some (!decide (i = j)) := by
  show some (!(i == j)) = _
  congr 1
@[simp] theorem cmp_eq_bl {i j : Bool} : D.cmp .eq (.bl i) (.bl j) = some (i == j) := nr rfl
@[simp] theorem cmp_ne_bl {i j : Bool} : D.cmp .ne (.bl i) (.bl j) = some (!(i == j)) := nr rfl
theorem ok_nil {n : Nat} : D.ok (n + 1) (.lst []) = true := rfl
theorem cmp_eq_nil {xs : List D} (h : D.ok dpt (.lst xs) = true) : D.cmp .eq (.lst xs) (.lst []) = some xs.isEmpty := by
  show D.cmpEq _ _ = _
  unfold D.cmpEq
  rw [h, show D.ok dpt (.lst []) = true from rfl]
  cases xs <;> rfl
theorem cmp_ne_nil {xs : List D} (h : D.ok dpt (.lst xs) = true) : D.cmp .ne (.lst xs) (.lst []) = some (!xs.isEmpty) := by
  show (D.cmpEq _ _).map not = _
  have := cmp_eq_nil h
  unfold D.cmp at this
  simp only at this
  rw [this]
  rfl
theorem okd_lst {n : Nat} {xs : List D} : D.ok (n + 1) (.lst xs) = xs.all (D.ok n) := rfl
theorem okd_tup {n : Nat} {xs : List D} : D.ok (n + 1) (.tup xs) = xs.all (D.ok n) := rfl
@[simp] theorem ok_int {n : Nat} {i : Int} : D.ok n (.int i) = true := by cases n <;> rfl
@[simp] theorem ok_bl {n : Nat} {i : Bool} : D.ok n (.bl i) = true := by cases n <;> rfl
@[simp] theorem ok_non {n : Nat} : D.ok n .non = true := by cases n <;> rfl
theorem mapM_pureL {α : Type} {f : D → M (Option D)} {g : α → D} {h : α → Option D} : ∀ {l : List α}, (∀ q ∈ l, f (g q) = ret (h q)) → mapM f (l.map g) = ret (l.filterMap h)
  | [], _ => rfl
  | x :: xs, e => by
    rw [List.map_cons]
    unfold mapM
    rw [e x (.head _), bnd_ret, mapM_pureL fun y hy => e y (.tail _ hy), bnd_ret, List.filterMap_cons]
    cases h x <;> rfl
/-- a walk over a list's pictures -/
theorem wp_forL2 {α : Type} {p : Pat} {body : Env → M Flow} {g : α → D} {l : List α} (Inv : List α → Env → Wd → Prop) {env : Env} {w : Wd} {Q : Flow → Wd → Prop} (h0 : Inv [] env w)
    (hs : ∀ dn x r env w, dn ++ x :: r = l → Inv dn env w → ∃ env', bindP p (g x) env = some env' ∧ wp (body env') w fun fl w' => match fl with
      | .nx e => Inv (dn ++ [x]) e w'
      | .bk e => Q (.nx e) w'
      | .rt d => Q (.rt d) w') (hq : ∀ e w, Inv l e w → Q (.nx e) w) : wp (forL p body (l.map g) env) w Q := by
  suffices h : ∀ (r dn : List α) (env : Env) (w : Wd), dn ++ r = l → Inv dn env w → wp (forL p body (r.map g) env) w Q from h l [] env w rfl h0
  intro r
  induction r with
  | nil => intro dn env w e i; exact wp_ret.mpr (hq _ _ (by rw [← e]; simpa using i))
  | cons x r ih =>
    intro dn env w e i
    obtain ⟨env', e1, h⟩ := hs dn x r env w e i
    rw [List.map_cons]
    unfold forL
    rw [e1, lft_some, bnd_ret]
    refine wp_bnd.mpr (wp_mono h fun fl w' i' => ?_)
    cases fl with
    | nx e2 => exact ih (dn ++ [x]) e2 w' (by rw [← e]; simp) i'
    | bk e2 => exact wp_ret.mpr i'
    | rt d => exact wp_ret.mpr i'
theorem wp_mapL2 {α : Type} {f : D → M (Option D)} {g : α → D} {l : List α} (Inv : List α → List D → Wd → Prop) {w : Wd} {Q : List D → Wd → Prop} (h0 : Inv [] [] w)
    (hs : ∀ dn x r ys w, dn ++ x :: r = l → Inv dn ys w → wp (f (g x)) w fun o w' => Inv (dn ++ [x]) (ys ++ o.toList) w') (hq : ∀ ys w, Inv l ys w → Q ys w) : wp (mapM f (l.map g)) w Q := by
  suffices h : ∀ (r dn : List α) (ys : List D) (w : Wd) (Q : List D → Wd → Prop), dn ++ r = l → Inv dn ys w → (∀ zs w, Inv l (ys ++ zs) w → Q zs w) → wp (mapM f (r.map g)) w Q from
    h l [] [] w Q rfl h0 fun ys w i => hq ys w i
  intro r
  induction r with
  | nil => intro dn ys w Q e i q; exact wp_ret.mpr (q [] w (by rw [← e]; simpa using i))
  | cons x r ih =>
    intro dn ys w Q e i q
    rw [List.map_cons]
    unfold mapM
    refine wp_bnd.mpr (wp_mono (hs dn x r ys w e i) fun o w' i' => ?_)
    refine wp_bnd.mpr (ih (dn ++ [x]) _ w' _ (by rw [← e]; simp) i' fun zs w'' i'' => ?_)
    refine wp_ret.mpr (q _ _ ?_)
    cases o with
    | none => simpa using i''
    | some y => simpa using i''
theorem enum_map {α : Type} {g : α → D} : ∀ {l : List α} {n : Nat}, enumL n (l.map g) = (l.zipIdx n).map fun q => .tup [.int q.2, g q.1]
  | [], _ => rfl
  | x :: l, n => by
    rw [List.map_cons]
    unfold enumL
    rw [enum_map, List.zipIdx_cons, List.map_cons]
theorem intsL_mapI : ∀ {ns : List Int}, intsL (ns.map .int) = some ns
  | [] => rfl
  | i :: ns => by
    show (intsL (ns.map .int)).map (i :: ·) = _
    rw [intsL_mapI]; rfl
@[simp] theorem sum_ints {ns : List Int} : bl1 .sum (.lst (ns.map .int)) = some (.int ns.sum) := by
  show (intsL _).map _ = _
  rw [intsL_mapI]; rfl
@[simp] theorem cnt_ints {ns : List Int} {k : Int} : cntD (.lst (ns.map .int)) (.int k) = some (.int (ns.count k : Nat)) := by
  show (intsL _).map _ = _
  rw [intsL_mapI]; rfl
@[simp] theorem fm_none {α β : Type} {l : List α} : l.filterMap (fun _ => (none : Option β)) = [] := by
  induction l with
  | nil => rfl
  | cons x l ih => rw [List.filterMap_cons]; exact ih
@[simp] theorem fm_some {α β : Type} {f : α → β} {l : List α} : l.filterMap (fun x => some (f x)) = l.map f := by
  induction l with
  | nil => rfl
  | cons x l ih => rw [List.filterMap_cons, ih]; rfl
@[simp] theorem cmp_ne_nn : D.cmp .ne (.lst []) (.lst []) = some false := nr rfl
@[simp] theorem cmp_eq_nn : D.cmp .eq (.lst []) (.lst []) = some true := nr rfl
@[simp] theorem isTys_tup_tup {xs : List D} : isTys (.tup xs) [.tuple] = some true := nr rfl
theorem wp_of_eq {α : Type} {m : M α} {a : α} {w : Wd} {Q : α → Wd → Prop} (h : m = ret a) (q : Q a w) : wp m w Q := by rw [h]; exact wp_ret.mpr q
@[simp] theorem sum_ints2 {α : Type} {f : α → Int} {l : List α} : bl1 .sum (.lst (l.map (D.int ∘ f))) = some (.int (l.map f).sum) := by
  rw [← List.map_map]; exact sum_ints
@[simp] theorem cnt_ints2 {α : Type} {f : α → Int} {l : List α} {k : Int} : cntD (.lst (l.map (D.int ∘ f))) (.int k) = some (.int ((l.map f).count k : Nat)) := by
  rw [← List.map_map]; exact cnt_ints
theorem okRng_nat {n : Nat} (h : n ≤ 1000000) : okRng (n : Int) = true := by
  unfold okRng
  simp only [Bool.and_eq_true, decide_eq_true_eq]
  omega
theorem ifO {α : Type} {b : Bool} {x : α} (h : b = true) : (if b = true then some x else none) = some x := by rw [h]; rfl
theorem rngO_of {n : Int} (h : okRng n = true) : rngO (.int n) = some (rngL 0 n) := ifO h
theorem rngL_nat {n : Nat} : rngL 0 (n : Int) = (List.range n).map fun (i : Nat) => D.int (i : Int) := by
  unfold rngL
  simp
theorem rng_nat {n : Nat} (h : n ≤ 1000000) : rngO (.int (n : Int)) = some ((List.range n).map fun (i : Nat) => D.int (i : Int)) :=
  (rngO_of (okRng_nat h)).trans (congrArg some rngL_nat)
theorem le_lim {n : Nat} (h : n ≤ 1000000) : n ≤ lim := by unfold lim; omega
@[simp] theorem lim_0 : 0 ≤ lim := le_lim (by decide)
@[simp] theorem lim_1 : 1 ≤ lim := le_lim (by decide)
@[simp] theorem lim_2 : 2 ≤ lim := le_lim (by decide)
@[simp] theorem lim_3 : 3 ≤ lim := le_lim (by decide)
@[simp] theorem lim_4 : 4 ≤ lim := le_lim (by decide)
@[simp] theorem lim_5 : 5 ≤ lim := le_lim (by decide)
@[simp] theorem lim_6 : 6 ≤ lim := le_lim (by decide)
@[simp] theorem lim_7 : 7 ≤ lim := le_lim (by decide)
@[simp] theorem lim_8 : 8 ≤ lim := le_lim (by decide)
@[simp] theorem lim_9 : 9 ≤ lim := le_lim (by decide)
@[simp] theorem lim_10 : 10 ≤ lim := le_lim (by decide)
@[simp] theorem lim_11 : 11 ≤ lim := le_lim (by decide)
@[simp] theorem lim_12 : 12 ≤ lim := le_lim (by decide)
@[simp] theorem lim_13 : 13 ≤ lim := le_lim (by decide)
@[simp] theorem lim_14 : 14 ≤ lim := le_lim (by decide)
@[simp] theorem lim_15 : 15 ≤ lim := le_lim (by decide)
@[simp] theorem lim_16 : 16 ≤ lim := le_lim (by decide)
@[simp] theorem lim_17 : 17 ≤ lim := le_lim (by decide)
@[simp] theorem lim_18 : 18 ≤ lim := le_lim (by decide)
@[simp] theorem lim_19 : 19 ≤ lim := le_lim (by decide)
@[simp] theorem lim_20 : 20 ≤ lim := le_lim (by decide)
@[simp] theorem lim_21 : 21 ≤ lim := le_lim (by decide)
@[simp] theorem lim_22 : 22 ≤ lim := le_lim (by decide)
@[simp] theorem lim_23 : 23 ≤ lim := le_lim (by decide)
@[simp] theorem lim_24 : 24 ≤ lim := le_lim (by decide)
@[simp] theorem lim_25 : 25 ≤ lim := le_lim (by decide)
@[simp] theorem lim_26 : 26 ≤ lim := le_lim (by decide)
@[simp] theorem lim_27 : 27 ≤ lim := le_lim (by decide)
@[simp] theorem lim_28 : 28 ≤ lim := le_lim (by decide)
@[simp] theorem lim_29 : 29 ≤ lim := le_lim (by decide)
@[simp] theorem lim_30 : 30 ≤ lim := le_lim (by decide)
theorem add_lst {xs ys : List D} (h : xs.length + ys.length ≤ lim) : D.bin .add (.lst xs) (.lst ys) = some (.lst (xs ++ ys)) := by
  show guardO _ _ = _
  rw [decide_eq_true h]; rfl
theorem add_tup {xs ys : List D} (h : xs.length + ys.length ≤ lim) : D.bin .add (.tup xs) (.tup ys) = some (.tup (xs ++ ys)) := by
  show guardO _ _ = _
  rw [decide_eq_true h]; rfl
/-! changes in place -/
def appC (o : Option Sl) (m : M D) (env : Env) (i : Nat) : M Flow := match o with
  | some (.ow ds) => bnd m fun d => if ds.length < lim then ret (.nx (env.set i (.ow (ds ++ [d])))) else stuck
  | _ => stuck
@[simp] theorem ex_appC {G : Glo} {env : Env} {i : Nat} {e : E} : exec G (.app i e) env = appC (env[i]?) (ev G e .v env) env i := by
  conv => lhs; unfold exec
  rfl
def appB (ds : List D) (d : D) (env : Env) (i : Nat) : M Flow := if ds.length < lim then ret (.nx (env.set i (.ow (ds ++ [d])))) else stuck
@[simp] theorem appC_ow {ds : List D} {m : M D} {env : Env} {i : Nat} : appC (some (.ow ds)) m env i = bnd m fun d => appB ds d env i := nr rfl
theorem appB_ok {ds : List D} {d : D} {env : Env} {i : Nat} (h : ds.length < lim) : appB ds d env i = ret (.nx (env.set i (.ow (ds ++ [d])))) := if_pos h
def app2C (o : Option Sl) (env : Env) (i : Nat) : M Flow := match o with
  | some (.ow2 dss) => if dss.length < lim then ret (.nx (env.set i (.ow2 (dss ++ [[]])))) else stuck
  | _ => stuck
@[simp] theorem ex_app2C {G : Glo} {env : Env} {i : Nat} : exec G (.app2 i) env = app2C (env[i]?) env i := by
  conv => lhs; unfold exec
  rfl
theorem app2C_ok {dss : List (List D)} {env : Env} {i : Nat} (h : dss.length < lim) : app2C (some (.ow2 dss)) env i = ret (.nx (env.set i (.ow2 (dss ++ [[]])))) := if_pos h
def appiC (o : Option Sl) (j m : M D) (env : Env) (i : Nat) : M Flow := match o with
  | some (.ow2 dss) => bnd j fun k => bnd (lft (rowAt dss k)) fun p => bnd m fun d => if p.2.length < lim then ret (.nx (env.set i (.ow2 (dss.set p.1 (p.2 ++ [d]))))) else stuck
  | _ => stuck
def appiB (dss : List (List D)) (p : Nat × List D) (d : D) (env : Env) (i : Nat) : M Flow := if p.2.length < lim then ret (.nx (env.set i (.ow2 (dss.set p.1 (p.2 ++ [d]))))) else stuck
@[simp] theorem ex_appiC {G : Glo} {env : Env} {i : Nat} {j e : E} : exec G (.appi i j e) env = appiC (env[i]?) (ev G j .v env) (ev G e .v env) env i := by
  conv => lhs; unfold exec
  rfl
@[simp] theorem appiC_ow {dss : List (List D)} {j m : M D} {env : Env} {i : Nat} : appiC (some (.ow2 dss)) j m env i = bnd j fun k => bnd (lft (rowAt dss k)) fun p => bnd m fun d => appiB dss p d env i := nr rfl
theorem appiB_ok {dss : List (List D)} {p : Nat × List D} {d : D} {env : Env} {i : Nat} (h : p.2.length < lim) : appiB dss p d env i = ret (.nx (env.set i (.ow2 (dss.set p.1 (p.2 ++ [d]))))) := if_pos h
theorem lt_lim {n : Nat} (h : n ≤ 1000000) : n < lim := by unfold lim; omega
def fr1 (o : Option Sl) (k : List (List D) → M Flow) : M Flow := match o with
  | some (.ow2 dss) => k dss
  | _ => stuck
@[simp] theorem exs_frz1 {G : Glo} {env : Env} {i : Nat} {ss : Ss} : execs G (.frz1 i ss) env = fr1 (env[i]?) fun dss => execs G ss (env.set i (.ow (dss.map .lst))) := by
  conv => lhs; unfold execs
  rfl
@[simp] theorem fr1_ow {dss : List (List D)} {k : List (List D) → M Flow} : fr1 (some (.ow2 dss)) k = k dss := nr rfl
@[simp] theorem frz_nil {env : Env} : freezeAll env [] = env := nr rfl
@[simp] theorem frz_cons {env : Env} {i : Nat} {is : List Nat} : freezeAll env (i :: is) = freezeAll (freeze1 env i) is := nr rfl
def frzO (o : Option Sl) (env : Env) (i : Nat) : Env := match o with
  | some s => env.set i s.freeze
  | none => env
@[simp] theorem frz1_def {env : Env} {i : Nat} : freeze1 env i = frzO (env[i]?) env i := by
  unfold freeze1; rfl
@[simp] theorem frzO_ow {ds : List D} {env : Env} {i : Nat} : frzO (some (.ow ds)) env i = env.set i (.fz (.lst ds)) := nr rfl
@[simp] theorem frzO_ow2 {ds : List (List D)} {env : Env} {i : Nat} : frzO (some (.ow2 ds)) env i = env.set i (.fz (.lst (ds.map .lst))) := nr rfl
@[simp] theorem frzO_fz {d : D} {env : Env} {i : Nat} : frzO (some (.fz d)) env i = env.set i (.fz d) := nr rfl
@[simp] theorem frzO_no {env : Env} {i : Nat} : frzO (some .no) env i = env.set i .no := nr rfl
@[simp] theorem slots_one {i : Nat} : Pat.slots (.one i) = [i] := nr rfl
@[simp] theorem slots_many {is : List Nat} : Pat.slots (.many is) = is := nr rfl
@[simp] theorem wipe_nil {env : Env} : wipeE env [] = env := nr rfl
@[simp] theorem wipe_cons {env : Env} {i : Nat} {is : List Nat} : wipeE env (i :: is) = (wipeE env is).set i .no := nr rfl
@[simp] theorem bind_one {env : Env} {i : Nat} {d : D} : bindP (.one i) d env = some (env.set i (.fz d)) := nr rfl
@[simp] theorem bind_many {env : Env} {is : List Nat} {ds : List D} : bindP (.many is) (.tup ds) env = putAll env is ds := nr rfl
@[simp] theorem put_nil {env : Env} : putAll env [] [] = some env := nr rfl
@[simp] theorem put_cons {env : Env} {i : Nat} {is : List Nat} {d : D} {ds : List D} : putAll env (i :: is) (d :: ds) = putAll (env.set i (.fz d)) is ds := nr rfl
theorem allOk_ints {m : Nat} {ns : List Int} : (ns.map D.int).all (D.ok m) = true := by
  induction ns with
  | nil => rfl
  | cons x ns ih => rw [List.map_cons, List.all_cons, ih]; simp
theorem in_ints {x : Int} {ns : List Int} : D.cmp .isin (.int x) (.lst (ns.map .int)) = some (decide (x ∈ ns)) := by
  show D.inSeq _ _ = _
  unfold D.inSeq
  rw [show D.ok dpt (.lst (ns.map .int)) = true from allOk_ints, show D.ok dpt (.int x) = true from rfl]
  simp only [Bool.and_self, if_true, Option.some.injEq]
  induction ns with
  | nil => rfl
  | cons y ns ih =>
    rw [List.map_cons, List.any_cons, ih]
    show (y == x || _) = _
    by_cases h : x = y
    · subst h; simp
    · simp [h, Ne.symm h]
theorem nin_ints {x : Int} {ns : List Int} : D.cmp .notin (.int x) (.lst (ns.map .int)) = some (!decide (x ∈ ns)) := by
  show (D.isIn _ _).map not = _
  have := in_ints (x := x) (ns := ns)
  unfold D.cmp at this
  simp only at this
  rw [this]; rfl
theorem atI_int {α : Type} {xs : List α} {i : Int} (h : 0 ≤ i) : L2.atI xs i = xs[i.toNat]? := by
  have : i = ((i.toNat : Nat) : Int) := by omega
  conv => lhs; rw [this]
  exact atI_nat
theorem ix_tup_int {xs : List D} {i : Int} (h : 0 ≤ i) : D.ix (.tup xs) (.int i) = xs[i.toNat]? := atI_int h
theorem ix_lst_int {xs : List D} {i : Int} (h : 0 ≤ i) : D.ix (.lst xs) (.int i) = xs[i.toNat]? := atI_int h
theorem ite3 {c1 c2 c3 : Prop} [Decidable c1] [Decidable c2] [Decidable c3] : (if c1 then ret (D.bl true) else if c2 then ret (D.bl (!decide c3)) else ret (D.bl false)) = ret (.bl (decide (c1 ∨ (c2 ∧ ¬ c3)))) := by
  by_cases h1 : c1 <;> by_cases h2 : c2 <;> by_cases h3 : c3 <;> simp [h1, h2, h3]
@[simp] theorem ite_dec {c : Prop} [Decidable c] : (if c then ret (D.bl (decide c)) else ret (D.bl false)) = ret (.bl (decide c)) := by
  by_cases h : c <;> simp [h]
@[simp] theorem ite_and {c : Prop} [Decidable c] {d : Bool} : (if c then ret (D.bl d) else ret (D.bl false)) = ret (.bl (decide c && d)) := by
  by_cases h : c <;> simp [h]
@[simp] theorem ite_or {c : Prop} [Decidable c] {d : Bool} : (if c then ret (D.bl true) else ret (D.bl d)) = ret (.bl (decide c || d)) := by
  by_cases h : c <;> simp [h]
/-! the tracked row -/
def row4 (a b c d : D) : Wd := [.cells [a, b, c, d]]
section
variable {a b c d v : D} {Q : D → Wd → Prop} {env : Env} {i : Nat} {QF : Flow → Wd → Prop}
@[simp] theorem wp_row0 : wp (ixM (.obj 0) (.int 0)) (row4 a b c d) Q ↔ Q a (row4 a b c d) := wp_iff
@[simp] theorem wp_row1 : wp (ixM (.obj 0) (.int 1)) (row4 a b c d) Q ↔ Q b (row4 a b c d) := wp_iff
@[simp] theorem wp_row2 : wp (ixM (.obj 0) (.int 2)) (row4 a b c d) Q ↔ Q c (row4 a b c d) := wp_iff
@[simp] theorem wp_row3 : wp (ixM (.obj 0) (.int 3)) (row4 a b c d) Q ↔ Q d (row4 a b c d) := wp_iff
def putC (o : Option Sl) (env : Env) (i : Nat) (k v : D) : M Flow := match o with
  | some (.ow ds) => (match k with
    | .int j => (match L2.ixN ds.length j with
      | some n => ret (.nx (env.set i (.ow (ds.set n v))))
      | none => stuck)
    | _ => stuck)
  | some (.od kvs) => if D.key k && decide (kvs.length < lim) then ret (.nx (env.set i (.od (dput kvs k v)))) else stuck
  | some (.fz (.obj n)) => fun w => (match w[n]?, k with
    | some (.cells ds), .int j => (match L2.ixN ds.length j with
      | some m => .ok (.nx env) (w.set n (.cells (ds.set m v)))
      | none => .no)
    | _, _ => .no)
  | _ => stuck
@[simp] theorem putM_def {k : D} : putM env i k v = putC (env[i]?) env i k v := rfl
def putKO (o : Option Sl) : Option Unit := match o with
  | some (.ow _) => some ()
  | some (.od _) => some ()
  | some (.fz (.obj _)) => some ()
  | _ => none
@[simp] theorem putOk_def : putOk env i = putKO (env[i]?) := rfl
@[simp] theorem putK_obj {m : Nat} : putKO (some (.fz (.obj m))) = some () := nr rfl
@[simp] theorem putK_ow {ds : List D} : putKO (some (.ow ds)) = some () := nr rfl
@[simp] theorem wp_put1 : wp (putC (some (.fz (.obj 0))) env i (.int 1) v) (row4 a b c d) QF ↔ QF (.nx env) (row4 a v c d) := wp_iff
@[simp] theorem wp_put2 : wp (putC (some (.fz (.obj 0))) env i (.int 2) v) (row4 a b c d) QF ↔ QF (.nx env) (row4 a b v d) := wp_iff
@[simp] theorem wp_put3 : wp (putC (some (.fz (.obj 0))) env i (.int 3) v) (row4 a b c d) QF ↔ QF (.nx env) (row4 a b c v) := wp_iff
theorem ixN_nat {m j : Nat} (h : j < m) : L2.ixN m (j : Int) = some j := by
  unfold L2.ixN
  rw [if_pos (by omega), if_pos (by omega)]
  simp
theorem putC_ow {ds : List D} {j : Nat} (h : j < ds.length) : putC (some (.ow ds)) env i (.int (j : Int)) v = ret (.nx (env.set i (.ow (ds.set j v)))) := by
  unfold putC
  simp only
  rw [ixN_nat h]
end
@[simp] theorem pow_10_18 : D.bin .pow (.int 10) (.int 18) = some (.int 1000000000000000000) := nr rfl
theorem mul_small {i j : Int} (h : smallI j = true) : D.bin .mul (.int i) (.int j) = some (.int (i * j)) := by
  show guardO (okMul i j) _ = _
  have : okMul i j = true := by
    unfold okMul
    rw [h]; simp
  rw [this]; rfl
@[simp] theorem mul_48271 {i : Int} : D.bin .mul (.int i) (.int 48271) = some (.int (i * 48271)) := mul_small (by decide)
theorem mod_pos {i j : Int} (h : 0 < j) : D.bin .mod (.int i) (.int j) = some (.int (i % j)) := by
  show guardO _ _ = _
  rw [decide_eq_true h]; rfl
@[simp] theorem mod_m31 {i : Int} : D.bin .mod (.int i) (.int 2147483647) = some (.int (i % 2147483647)) := mod_pos (by decide)
theorem div_pos {i j : Int} (h : 0 < j) (h2 : j ≤ 1000000) : D.bin .fdiv (.int i) (.int j) = some (.int (i / j)) := by
  show guardO (okDiv j) _ = _
  have : okDiv j = true := by
    unfold okDiv
    simp only [Bool.and_eq_true, decide_eq_true_eq]
    refine ⟨h, ?_⟩
    have : j.natAbs ≤ 1000000 := by omega
    have h3 : j.natAbs < 2 ^ 8000 := Nat.lt_of_le_of_lt this (Nat.lt_of_lt_of_le (by decide : 1000000 < 2 ^ 20) (Nat.pow_le_pow_right (by decide) (by decide)))
    by_cases hz : j.natAbs = 0
    · omega
    · exact (Nat.log2_lt hz).mpr h3
  rw [this]; rfl
@[simp] theorem div_7 {i : Int} : D.bin .fdiv (.int i) (.int 7) = some (.int (i / 7)) := div_pos (by decide) (by decide)
theorem wp_and {α : Type} {m : M α} {w : Wd} {Q R : α → Wd → Prop} (h : wp m w Q) (g : wp m w R) : wp m w fun a w' => Q a w' ∧ R a w' := by
  rw [wp_iff] at *
  unfold wp0 at *
  cases q : m w with
  | ok a w' => rw [q] at h g; exact ⟨h, g⟩
  | _ => rw [q] at h; exact h
/-- by a test's answer, later -/
def condW (a b : Env → M Flow) (env : Env) (Q : Flow → Wd → Prop) : D → Wd → Prop := fun d w => match d with
  | .bl true => wp (a env) w Q
  | .bl false => wp (b env) w Q
  | _ => False
@[simp] theorem condW_bl {a b : Env → M Flow} {env : Env} {Q : Flow → Wd → Prop} {x : Bool} {w : Wd} : condW a b env Q (.bl x) w ↔ if x = true then wp (a env) w Q else wp (b env) w Q := by
  cases x <;> rfl
theorem wp_itS {c : M D} {a b : Env → M Flow} {env : Env} {w : Wd} {Q : Flow → Wd → Prop} : wp (iteS c a b env) w Q ↔ wp c w (condW a b env Q) := by
  unfold iteS iteM
  rw [wp_bnd]
  unfold condW
  constructor
  · exact fun h => wp_mono h fun d w' q => by
      cases d with
      | bl x => cases x <;> exact q
      | _ => first | exact q.elim | exact q.out
  · exact fun h => wp_mono h fun d w' q => by
      cases d with
      | bl x => cases x <;> exact q
      | _ => first | exact q.elim | exact q.out
def condM {α : Type} (a b : M α) (Q : α → Wd → Prop) : D → Wd → Prop := fun d w => match d with
  | .bl true => wp a w Q
  | .bl false => wp b w Q
  | _ => False
@[simp] theorem condM_bl {α : Type} {a b : M α} {Q : α → Wd → Prop} {x : Bool} {w : Wd} : condM a b Q (.bl x) w ↔ if x = true then wp a w Q else wp b w Q := by
  cases x <;> rfl
theorem wp_itM {α : Type} {c : M D} {a b : M α} {w : Wd} {Q : α → Wd → Prop} : wp (iteM c a b) w Q ↔ wp c w (condM a b Q) := by
  unfold iteM
  rw [wp_bnd]
  unfold condM
  constructor
  · exact fun h => wp_mono h fun d w' q => by
      cases d with
      | bl x => cases x <;> exact q
      | _ => first | exact q.elim | exact q.out
  · exact fun h => wp_mono h fun d w' q => by
      cases d with
      | bl x => cases x <;> exact q
      | _ => first | exact q.elim | exact q.out
@[simp] theorem ix_scr_nat {ns : List Int} {i : Nat} : D.ix (.scr ns) (.int (i : Int)) = (ns[i]?).map .int := by
  show (L2.atI ns _).map _ = _
  rw [atI_nat]
theorem wp_while {c : Env → M D} {body : Env → M Flow} (Inv : Nat → Env → Wd → Prop) {Q : Flow → Wd → Prop} (hs : ∀ j env w, Inv j env w → wp (c env) w fun d w' => ∃ b, d = .bl b ∧ (b = true → wp (body env) w' fun fl w'' => match fl with
      | .nx e => ∃ j', j' < j ∧ Inv j' e w''
      | .bk e => Q (.nx e) w''
      | .rt d => Q (.rt d) w'') ∧ (b = false → Q (.nx env) w')) : ∀ (fuel j : Nat) (env : Env) (w : Wd), j < fuel → Inv j env w → wp (whileL c body fuel env) w Q
  | 0, j, env, w, h, _ => by omega
  | f + 1, j, env, w, h, i => by
    unfold whileL iteM
    refine wp_bnd.mpr (wp_mono (hs j env w i) fun d w' ⟨b, e, ht, hf⟩ => ?_)
    subst e
    cases b with
    | false => exact wp_ret.mpr (hf rfl)
    | true =>
      refine wp_bnd.mpr (wp_mono (ht rfl) fun fl w'' q => ?_)
      cases fl with
      | nx e =>
        obtain ⟨j', h1, h2⟩ := q
        exact wp_while Inv hs f j' e w'' (by omega) h2
      | bk e => exact wp_ret.mpr q
      | rt d => exact wp_ret.mpr q
theorem idx_ints {x : Int} {ns : List Int} (h : x ∈ ns) : ∃ j, j < ns.length ∧ idxD (.lst (ns.map .int)) (.int x) = some (.int (j : Nat)) := by
  have h1 : ∃ j, j < ns.length ∧ firstAt (.int x) (ns.map .int) = some j := by
    induction ns with
    | nil => cases h
    | cons y l ih =>
      rw [List.map_cons]
      unfold firstAt
      by_cases hy : y = x
      · refine ⟨0, by simp, ?_⟩
        rw [if_pos (by show (y == x) = true; simpa using hy)]
      · have : x ∈ l := by
          rcases List.mem_cons.mp h with h | h
          · exact absurd h.symm hy
          · exact h
        obtain ⟨j, h2, h3⟩ := ih this
        refine ⟨j + 1, by simp; omega, ?_⟩
        rw [if_neg (by show ¬ (y == x) = true; simpa using hy), h3]
        rfl
  obtain ⟨j, h2, h3⟩ := h1
  refine ⟨j, h2, ?_⟩
  unfold idxD
  simp only
  rw [h3, show D.ok dpt (.int x) = true from rfl, show D.ok dpt (.lst (ns.map .int)) = true from allOk_ints]
  rfl
theorem sl_take {xs : List D} {j : Nat} (h : j ≤ xs.length) : D.sl (.lst xs) none (some (j : Int)) = some (.lst (xs.take j)) := by
  show some (D.lst ((xs.drop (HT.sIx xs.length 0 none)).take (HT.sIx xs.length xs.length (some (j : Int)) - HT.sIx xs.length 0 none))) = _
  rw [HT.sIx_nat, HT.sIx_none, Nat.min_eq_left h]
  simp
theorem sl_drop {xs : List D} {j : Nat} (h : j ≤ xs.length) : D.sl (.lst xs) (some (j : Int)) none = some (.lst (xs.drop j)) := by
  show some (D.lst ((xs.drop (HT.sIx xs.length 0 (some (j : Int)))).take (HT.sIx xs.length xs.length none - HT.sIx xs.length 0 (some (j : Int))))) = _
  rw [HT.sIx_nat, HT.sIx_none, Nat.min_eq_left h, List.take_of_length_le (by simp)]
theorem flat_one {x : D} : ∀ {k : Nat}, (List.replicate k [x]).flatten = List.replicate k x
  | 0 => rfl
  | k + 1 => by rw [List.replicate_succ, List.flatten_cons, flat_one]; rfl
theorem mul_one {x : D} {k : Int} (h : 0 ≤ k) (h2 : k ≤ 1000) : D.bin .mul (.lst [x]) (.int k) = some (.lst (List.replicate k.toNat x)) := by
  show guardO _ (some (D.lst (List.replicate k.toNat [x]).flatten)) = _
  rw [flat_one, decide_eq_true h, decide_eq_true h2]; rfl
theorem putC_owI {ds : List D} {j : Int} {env : Env} {i : Nat} {v : D} (h : 0 ≤ j) (h2 : j.toNat < ds.length) : putC (some (.ow ds)) env i (.int j) v = ret (.nx (env.set i (.ow (ds.set j.toNat v)))) := by
  have : j = ((j.toNat : Nat) : Int) := by omega
  conv => lhs; rw [this]
  exact putC_ow h2
@[simp] theorem par_nil {env : Env} : parL env [] [] = some env := nr rfl
@[simp] theorem par_fz {env : Env} {i : Nat} {is : List (Nat × Nat)} {d : D} {ds : List D} : parL env ((i, 0) :: is) (d :: ds) = parL (env.set i (.fz d)) is ds := nr rfl
@[simp] theorem par_ow {env : Env} {i : Nat} {is : List (Nat × Nat)} {xs : List D} {ds : List D} : parL env ((i, 1) :: is) (.lst xs :: ds) = parL (env.set i (.ow xs)) is ds := nr rfl
@[simp] theorem par_ow2 {env : Env} {i : Nat} {is : List (Nat × Nat)} {ds : List D} : parL env ((i, 2) :: is) (.lst [] :: ds) = parL (env.set i (.ow2 [])) is ds := nr rfl
theorem rowAt_int {dss : List (List D)} {j : Int} (h : 0 ≤ j) (h2 : j.toNat < dss.length) : rowAt dss (.int j) = some (j.toNat, dss[j.toNat]) := by
  have e : j = ((j.toNat : Nat) : Int) := by omega
  unfold rowAt
  simp only
  conv => lhs; rw [e]
  rw [ixN_nat h2]
  simp [h2]
@[simp] theorem rev_lst {xs : List D} : D.rev (.lst xs) = some (.lst xs.reverse) := nr rfl
theorem ix_last {xs : List D} {x : D} : D.ix (.lst (xs ++ [x])) (.int (-1)) = some x := by
  show L2.atI _ _ = _
  unfold L2.atI L2.ixN
  rw [if_neg (by omega), if_pos (by simp; omega)]
  have : (-1 + ((xs ++ [x]).length : Int)).toNat = xs.length := by simp; omega
  show (xs ++ [x])[(-1 + ((xs ++ [x]).length : Int)).toNat]? = some x
  rw [this]
  simp
end VI

set_option Elab.async false
set_option linter.all false
set_option maxRecDepth 100000
set_option maxHeartbeats 1000000
namespace VI
open PySem
@[simp] theorem s_eq_tt : D.cmp .eq (.str ⟨#[116, 101, 108, 108]⟩) (.str ⟨#[116, 101, 108, 108]⟩) = some true := by decide +kernel
@[simp] theorem s_ne_tt : D.cmp .ne (.str ⟨#[116, 101, 108, 108]⟩) (.str ⟨#[116, 101, 108, 108]⟩) = some false := by decide +kernel
@[simp] theorem s_eq_tw : D.cmp .eq (.str ⟨#[116, 101, 108, 108]⟩) (.str ⟨#[119, 97, 105, 116]⟩) = some false := by decide +kernel
@[simp] theorem s_ne_tw : D.cmp .ne (.str ⟨#[116, 101, 108, 108]⟩) (.str ⟨#[119, 97, 105, 116]⟩) = some true := by decide +kernel
@[simp] theorem s_eq_ts : D.cmp .eq (.str ⟨#[116, 101, 108, 108]⟩) (.str ⟨#[115, 101, 116]⟩) = some false := by decide +kernel
@[simp] theorem s_ne_ts : D.cmp .ne (.str ⟨#[116, 101, 108, 108]⟩) (.str ⟨#[115, 101, 116]⟩) = some true := by decide +kernel
@[simp] theorem s_in_t : D.cmp .isin (.str ⟨#[116, 101, 108, 108]⟩) (.tup [.str ⟨#[116, 101, 108, 108]⟩, .str ⟨#[119, 97, 105, 116]⟩]) = some true := by decide +kernel
@[simp] theorem s_eq_wt : D.cmp .eq (.str ⟨#[119, 97, 105, 116]⟩) (.str ⟨#[116, 101, 108, 108]⟩) = some false := by decide +kernel
@[simp] theorem s_ne_wt : D.cmp .ne (.str ⟨#[119, 97, 105, 116]⟩) (.str ⟨#[116, 101, 108, 108]⟩) = some true := by decide +kernel
@[simp] theorem s_eq_ww : D.cmp .eq (.str ⟨#[119, 97, 105, 116]⟩) (.str ⟨#[119, 97, 105, 116]⟩) = some true := by decide +kernel
@[simp] theorem s_ne_ww : D.cmp .ne (.str ⟨#[119, 97, 105, 116]⟩) (.str ⟨#[119, 97, 105, 116]⟩) = some false := by decide +kernel
@[simp] theorem s_eq_ws : D.cmp .eq (.str ⟨#[119, 97, 105, 116]⟩) (.str ⟨#[115, 101, 116]⟩) = some false := by decide +kernel
@[simp] theorem s_ne_ws : D.cmp .ne (.str ⟨#[119, 97, 105, 116]⟩) (.str ⟨#[115, 101, 116]⟩) = some true := by decide +kernel
@[simp] theorem s_in_w : D.cmp .isin (.str ⟨#[119, 97, 105, 116]⟩) (.tup [.str ⟨#[116, 101, 108, 108]⟩, .str ⟨#[119, 97, 105, 116]⟩]) = some true := by decide +kernel
@[simp] theorem s_eq_st : D.cmp .eq (.str ⟨#[115, 101, 116]⟩) (.str ⟨#[116, 101, 108, 108]⟩) = some false := by decide +kernel
@[simp] theorem s_ne_st : D.cmp .ne (.str ⟨#[115, 101, 116]⟩) (.str ⟨#[116, 101, 108, 108]⟩) = some true := by decide +kernel
@[simp] theorem s_eq_sw : D.cmp .eq (.str ⟨#[115, 101, 116]⟩) (.str ⟨#[119, 97, 105, 116]⟩) = some false := by decide +kernel
@[simp] theorem s_ne_sw : D.cmp .ne (.str ⟨#[115, 101, 116]⟩) (.str ⟨#[119, 97, 105, 116]⟩) = some true := by decide +kernel
@[simp] theorem s_eq_ss : D.cmp .eq (.str ⟨#[115, 101, 116]⟩) (.str ⟨#[115, 101, 116]⟩) = some true := by decide +kernel
@[simp] theorem s_ne_ss : D.cmp .ne (.str ⟨#[115, 101, 116]⟩) (.str ⟨#[115, 101, 116]⟩) = some false := by decide +kernel
@[simp] theorem s_in_s : D.cmp .isin (.str ⟨#[115, 101, 116]⟩) (.tup [.str ⟨#[116, 101, 108, 108]⟩, .str ⟨#[119, 97, 105, 116]⟩]) = some false := by decide +kernel
def pairD (p : Int × Int) : D := .tup [.int p.1, .int p.2]
inductive Item where
  | tell (s : Int)
  | wait (s : Int)
  | put (s v : Int) (g : List (Int × Int))
def Item.d : Item → D
  | .tell s => .tup [.str ⟨#[116, 101, 108, 108]⟩, .int s]
  | .wait s => .tup [.str ⟨#[119, 97, 105, 116]⟩, .int s]
  | .put s v g => .tup [.str ⟨#[115, 101, 116]⟩, .int s, .int v, .tup (g.map pairD)]
structure Prog where
  start : List Int
  rows : List (List Item)
def rowD (r : List Item) : D := .tup (r.map Item.d)
def Prog.d (p : Prog) : D := .tup [.tup (p.start.map .int), .tup (p.rows.map rowD)]
/-- a guard in order -/
def GuardOk (s m : Int) : Int → List (Int × Int) → Prop
  | _, [] => True
  | last, p :: g => last < p.1 ∧ p.1 < m ∧ p.1 ≠ s ∧ 0 ≤ p.2 ∧ p.2 ≤ 1 ∧ GuardOk s m p.1 g
def ItemOk (m : Int) : Item → Prop
  | .tell s => 0 ≤ s ∧ s ≤ 31
  | .wait s => 0 ≤ s ∧ s ≤ 31
  | .put s v g => 0 ≤ s ∧ s < m ∧ 0 ≤ v ∧ v ≤ 1 ∧ GuardOk s m (-1) g
structure ProgOk (p : Prog) : Prop where
  s1 : 1 ≤ p.start.length
  s2 : p.start.length ≤ 8
  sv : ∀ v ∈ p.start, 0 ≤ v ∧ v ≤ 1
  r1 : 1 ≤ p.rows.length
  r2 : p.rows.length ≤ 4
  tot : (p.rows.map List.length).sum ≤ 24
  it : ∀ r ∈ p.rows, ∀ i ∈ r, ItemOk p.start.length i
variable {T : Tbl} {gl : Nat → Option D} {n k : Nat}
theorem is_in_ok (h : T.at_ 452907198830 = some F_is_in) (v lo hi : Int) : run T gl n (k + 1) 452907198830 [.int v, .int lo, .int hi] = ret (.bl (decide (lo ≤ v) && decide (v ≤ hi))) := by
  rw [run_at h rfl]
  simp [F_is_in, startE, bindA, isTys, D.isTy, List.replicate]
theorem is_guard_ok (h : T.at_ 452907198830 = some F_is_in) (h2 : T.at_ 7598521894259749476 = some F_is_guard) (g : List (Int × Int)) (s m : Int) (ok : GuardOk s m (-1) g) : run T gl n (k + 2) 7598521894259749476 [.tup (g.map pairD), .int s, .int m] = ret (.bl true) := by
  rw [run_at h2 rfl]
  refine ret_of_wp fun w => ?_
  simp [F_is_guard, startE, bindA, isTys, D.isTy, List.replicate, wp_bnd, wp_ret, wp_seq]
  refine wp_forR (fun _ r e w' => ∃ (g2 : List (Int × Int)) (last : Int) (x : Sl), r = g2.map pairD ∧ GuardOk s m last g2 ∧ w' = w ∧ e = [.fz (.tup (g.map pairD)), .fz (.int s), .fz (.int m), .fz (.int last), x]) ?_ ?_ ?_
  · exact ⟨g, -1, _, rfl, ok, rfl, rfl⟩
  · rintro dn x r env w' ⟨g2, last, sl, e, ok, rfl, rfl⟩
    cases g2 with
    | nil => cases e
    | cons p g2 =>
      cases e
      obtain ⟨a1, a2, a3, a4, a5, a6⟩ := ok
      refine ⟨_, rfl, ?_⟩
      have b1 : ¬ (p.1 < last + 1 ∨ m - 1 < p.1) := by omega
      simp [isTys, D.isTy, pairD, is_in_ok h, wp_bnd, b1, a3, a4, a5, wp_ret]
      exact ⟨g2, rfl, a6⟩
  · rintro e w' ⟨g2, last, x, e1, _, rfl, rfl⟩
    simp [wp_ret, wp_bnd]
structure Base (T : Tbl) (gl : Nat → Option D) : Prop where
  is_in : T.at_ 452907198830 = some F_is_in
  is_guard : T.at_ 7598521894259749476 = some F_is_guard
  is_item : T.at_ 29681726182942061 = some F_is_item
  need : T.at_ 34165931398695334765290217837 = some F_need_program
  all_items : T.at_ 1797146899509936483699 = some F_all_items
  item_at : T.at_ 29682851530105204 = some F_item_at
  c1 : gl 6125118568654498866660624581971 = some (.int 8)
  c2 : gl 365085516491752865678419 = some (.int 4)
  c3 : gl 365085516491757478825299 = some (.int 24)
  c4 : gl 93461892221900862484529484 = some (.int 31)
theorem is_item_ok (b : Base T gl) (i : Item) (m : Int) (ok : ItemOk m i) : run T gl n (k + 3) 29681726182942061 [i.d, .int m] = ret (.bl true) := by
  rw [run_at b.is_item rfl]
  cases i with
  | tell s =>
    obtain ⟨h1, h2⟩ := ok
    simp [F_is_item, startE, bindA, Item.d, isTys, D.isTy, List.replicate, is_in_ok b.is_in, b.c4, h1, h2]
  | wait s =>
    obtain ⟨h1, h2⟩ := ok
    simp [F_is_item, startE, bindA, Item.d, isTys, D.isTy, List.replicate, is_in_ok b.is_in, b.c4, h1, h2]
  | put s v g =>
    obtain ⟨h1, h2, h3, h4, h5⟩ := ok
    have h2' : s ≤ m - 1 := by omega
    simp [F_is_item, startE, bindA, Item.d, isTys, D.isTy, List.replicate, is_in_ok b.is_in, b.c4, h1, h2', h3, h4, is_guard_ok b.is_in b.is_guard g s m h5]
theorem sum_lens : ∀ {rs : List (List Item)}, (rs.map fun r => (r.length : Int)).sum = ((rs.map List.length).sum : Nat)
  | [] => rfl
  | r :: rs => by
    rw [List.map_cons, List.sum_cons, List.map_cons, List.sum_cons, sum_lens]
    omega
theorem need_ok (b : Base T gl) (p : Prog) (ok : ProgOk p) : run T gl n (k + 4) 34165931398695334765290217837 [p.d] = ret .non := by
  rw [run_at b.need rfl]
  obtain ⟨s1, s2, sv, r1, r2, tot, it⟩ := ok
  refine ret_of_wp fun w => ?_
  have e1 : (1 : Int) ≤ p.start.length := by omega
  have e2 : (p.start.length : Int) ≤ 8 := by omega
  have e3 : (1 : Int) ≤ p.rows.length := by omega
  have e4 : (p.rows.length : Int) ≤ 4 := by omega
  simp [F_need_program, startE, bindA, Prog.d, isTys, D.isTy, List.replicate, wp_bnd, wp_ret, wp_seq, b.c1, b.c2, b.c3, b.c4, putAll, e1, e2, e3, e4]
  rw [mapM_pureL (h := fun _ => none) fun v hv => by simp [Pat.slots, wipeE, bindP, is_in_ok b.is_in, sv v hv]]
  simp [wp_bnd, wp_ret, wp_seq, b.c2, e3, e4]
  rw [mapM_pureL (h := fun _ => none) fun v hv => by simp [Pat.slots, wipeE, bindP, rowD]]
  simp
  rw [mapM_pureL (h := fun r => some (.int r.length)) fun v hv => by simp [Pat.slots, wipeE, bindP, rowD]]
  have hm : (p.rows.map fun r => D.int (r.length : Int)) = (p.rows.map fun r => (r.length : Int)).map .int := by rw [List.map_map]; rfl
  have l1 : p.rows.length ≤ lim := le_lim (by omega)
  have t1 : ¬ ((24 : Int) < ((p.rows.map List.length).sum : Nat)) := by omega
  simp [hm, l1, b.c3, sum_lens, t1, wp_seq, enum_map, wp_bnd, wp_ret]
  refine wp_forL2 (fun _ e w' => w' = w ∧ ∃ a b c d, e = [.fz p.d, .fz (.tup (p.start.map .int)), .fz (.tup (p.rows.map rowD)), a, b, c, d, .no]) ⟨rfl, _, _, _, _, rfl⟩ ?_ ?_
  · rintro dn ⟨r, i⟩ rr env w' hdn ⟨rfl, a, b', c, d, rfl⟩
    have hr : r ∈ p.rows := by
      have : (r, i) ∈ p.rows.zipIdx := by rw [← hdn]; simp
      exact (List.mem_zipIdx' this).2 ▸ List.getElem_mem _
    refine ⟨_, rfl, ?_⟩
    simp [rowD, enum_map, wp_seq, wp_bnd]
    refine wp_forL2 (fun _ e w2 => w2 = w' ∧ ∃ a b c d, e = [.fz p.d, .fz (.tup (p.start.map .int)), .fz (.tup (p.rows.map rowD)), a, b, c, d, .no]) ⟨rfl, _, _, _, _, rfl⟩ ?_ ?_
    · rintro dn2 ⟨x, j⟩ rr2 env w2 hdn2 ⟨rfl, a, b2, c, d, rfl⟩
      have hx : x ∈ r := by
        have : (x, j) ∈ r.zipIdx := by rw [← hdn2]; simp
        exact (List.mem_zipIdx' this).2 ▸ List.getElem_mem _
      refine ⟨_, rfl, ?_⟩
      simp [is_item_ok b x _ (it r hr x hx), wp_ret]
    · rintro e w2 ⟨rfl, a, b2, c, d, rfl⟩
      simp [wp_ret]
  · rintro e w' ⟨rfl, a, b2, c, d, rfl⟩
    simp [wp_ret]
/-! the names of all items, with the items -/
def itsFrom (h : Nat) : List (List Item) → List ((Nat × Nat) × Item)
  | [] => []
  | r :: rs => (r.zipIdx.map fun q => ((h, q.2), q.1)) ++ itsFrom (h + 1) rs
def Prog.its (p : Prog) : List ((Nat × Nat) × Item) := itsFrom 0 p.rows
def nameD (a : Nat × Nat) : D := .tup [.int a.1, .int a.2]
theorem its_len : ∀ {rs : List (List Item)} {h : Nat}, (itsFrom h rs).length = (rs.map List.length).sum
  | [], _ => rfl
  | r :: rs, h => by
    unfold itsFrom
    rw [List.length_append, its_len, List.map_cons, List.sum_cons]
    simp
theorem its_mem : ∀ {rs : List (List Item)} {h : Nat} {q : (Nat × Nat) × Item}, q ∈ itsFrom h rs → ∃ r, h ≤ q.1.1 ∧ rs[q.1.1 - h]? = some r ∧ r[q.1.2]? = some q.2
  | [], _, _, m => by cases m
  | r :: rs, h, q, m => by
    unfold itsFrom at m
    rcases List.mem_append.mp m with m | m
    · obtain ⟨⟨x, j⟩, hx, rfl⟩ := List.mem_map.mp m
      obtain ⟨h1, h2⟩ := List.mem_zipIdx' hx
      exact ⟨r, Nat.le_refl _, by simp, by rw [List.getElem?_eq_getElem h1, h2]⟩
    · obtain ⟨r2, h1, h2, h3⟩ := its_mem m
      refine ⟨r2, by omega, ?_, h3⟩
      rw [show q.1.1 - h = (q.1.1 - (h + 1)) + 1 by omega, List.getElem?_cons_succ]
      exact h2
theorem its_at {p : Prog} {q : (Nat × Nat) × Item} (m : q ∈ p.its) : ∃ r, p.rows[q.1.1]? = some r ∧ r[q.1.2]? = some q.2 := by
  obtain ⟨r, _, h1, h2⟩ := its_mem m
  exact ⟨r, h1, h2⟩
theorem its_app : ∀ {rs ss : List (List Item)} {h : Nat}, itsFrom h (rs ++ ss) = itsFrom h rs ++ itsFrom (h + rs.length) ss
  | [], ss, h => by simp [itsFrom]
  | r :: rs, ss, h => by
    simp only [List.cons_append, itsFrom, its_app, List.append_assoc, List.length_cons]
    rw [show h + 1 + rs.length = h + (rs.length + 1) by omega]
theorem its_one {r : List Item} {h : Nat} : (itsFrom h [r]).map (fun q => nameD q.1) = (List.range r.length).map fun i => nameD (h, i) := by
  simp only [itsFrom, List.append_nil, List.map_map]
  apply List.ext_getElem?
  intro i
  simp only [List.getElem?_map, List.getElem?_zipIdx, Function.comp]
  by_cases hi : i < r.length
  · rw [List.getElem?_eq_getElem hi, List.getElem?_eq_getElem (by simpa using hi)]
    simp
  · rw [List.getElem?_eq_none (by omega), List.getElem?_eq_none (by simp; omega)]
    rfl
theorem le_tot {r : List Item} : ∀ {rs : List (List Item)}, r ∈ rs → r.length ≤ (rs.map List.length).sum
  | s :: rs, h => by
    rw [List.map_cons, List.sum_cons]
    rcases List.mem_cons.mp h with rfl | h
    · omega
    · have := le_tot h; omega
theorem all_items_ok (b : Base T gl) (p : Prog) (ok : ProgOk p) : run T gl n (k + 1) 1797146899509936483699 [p.d] = ret (.lst (p.its.map fun q => nameD q.1)) := by
  rw [run_at b.all_items rfl]
  refine ret_of_wp fun w => ?_
  simp [F_all_items, startE, bindA, Prog.d, List.replicate, wp_bnd, wp_ret, wp_seq, enum_map]
  refine wp_forL2 (fun dn e w' => w' = w ∧ ∃ a b c, e = [.fz p.d, .fz (.lst ((itsFrom 0 (dn.map (·.1))).map fun q => nameD q.1)), a, b, c]) ⟨rfl, _, _, _, rfl⟩ ?_ ?_
  · rintro dn ⟨r, i⟩ rr env w' hdn ⟨rfl, a, b', c, rfl⟩
    refine ⟨_, rfl, ?_⟩
    have hr : r ∈ p.rows ∧ i = dn.length := by
      have : (r, i) ∈ p.rows.zipIdx := by rw [← hdn]; simp
      refine ⟨(List.mem_zipIdx' this).2 ▸ List.getElem_mem _, ?_⟩
      have h2 : (p.rows.zipIdx)[dn.length]? = some (r, i) := by rw [← hdn]; simp
      rw [List.getElem?_zipIdx] at h2
      obtain ⟨x, _, h3⟩ := Option.map_eq_some_iff.mp h2
      cases h3
      omega
    have l0 := le_tot hr.1
    have l1 : (itsFrom 0 (dn.map (·.1))).length + r.length ≤ 24 := by
      rw [its_len]
      have e : p.rows = (dn ++ (r, i) :: rr).map (·.1) := by rw [hdn]; simp
      have t := ok.tot
      rw [e] at t
      simp at t
      simp
      omega
    simp [rowD, wp_seq, wp_bnd, rng_nat (show r.length ≤ 1000000 by have := ok.tot; omega), wp_ret]
    rw [mapM_pureL (h := fun j => some (nameD (i, j))) fun v hv => by simp [Pat.slots, wipeE, bindP, nameD]]
    have l2 : r.length ≤ lim := le_lim (by omega)
    simp [l2, wp_ret, wp_bnd]
    rw [add_lst (by simp; exact le_lim (by omega)), lft_some, wp_ret]
    simp [wp_ret]
    rw [its_app, List.map_append, its_one]
    simp [hr.2]
  · rintro e w' ⟨rfl, a, b2, c, rfl⟩
    simp [wp_ret]
    rfl
/-! one item, the deeds, the signals -/
@[simp] theorem row_ix {rs : List (List Item)} {i : Nat} : (rs.map rowD)[i]? = (rs[i]?).map rowD := by simp
theorem item_at_ok (b : Base T gl) (p : Prog) {q : (Nat × Nat) × Item} (m : q ∈ p.its) : run T gl n (k + 1) 29682851530105204 [p.d, nameD q.1] = ret q.2.d := by
  rw [run_at b.item_at rfl]
  obtain ⟨r, h1, h2⟩ := its_at m
  simp [F_item_at, startE, bindA, Prog.d, nameD, h1, rowD, h2]
structure Base2 (T : Tbl) (gl : Nat → Option D) : Prop extends Base T gl where
  deeds_on : T.at_ 7234299858547339118 = some F_deeds_on
  signals : T.at_ 545016506659300467240806 = some F_signals_of
  is_bent : T.at_ 29681726064520820 = some F_is_bent
  bent : T.at_ 1650814580 = some F_bent
def deedOf (sw : Int) (q : (Nat × Nat) × Item) : Option ((Nat × Nat) × Int) := match q.2 with
  | .put s v _ => if s = sw then some (q.1, v) else none
  | _ => none
def deedP (x : (Nat × Nat) × Int) : D := .tup [nameD x.1, .int x.2]
def Prog.deeds (p : Prog) (sw : Int) : List ((Nat × Nat) × Int) := p.its.filterMap (deedOf sw)
def Prog.stands (p : Prog) (sw : Int) : List Int := (p.deeds sw).map (·.2)
theorem its_le {p : Prog} (ok : ProgOk p) : p.its.length ≤ 24 := by
  unfold Prog.its
  rw [its_len]
  exact ok.tot
theorem deeds_on_ok (b : Base2 T gl) (p : Prog) (ok : ProgOk p) (sw : Int) : run T gl n (k + 2) 7234299858547339118 [p.d, .int sw] = ret (.lst ((p.deeds sw).map deedP)) := by
  rw [run_at b.deeds_on rfl]
  refine ret_of_wp fun w => ?_
  simp [F_deeds_on, startE, bindA, List.replicate, wp_bnd, wp_ret, wp_seq, all_items_ok b.toBase p ok]
  refine wp_forL2 (fun dn e w' => w' = w ∧ ∃ a b, e = [.fz p.d, .fz (.int sw), .ow ((dn.filterMap (deedOf sw)).map deedP), a, b]) ⟨rfl, _, _, rfl⟩ ?_ ?_
  · rintro dn q rr env w' hdn ⟨rfl, a, b', rfl⟩
    have hq : q ∈ p.its := by rw [← hdn]; simp
    have l1 : ((dn.filterMap (deedOf sw)).map deedP).length ≤ 24 := by
      have := its_le ok
      rw [← hdn] at this
      simp at this
      have := List.length_filterMap_le (deedOf sw) dn
      rw [List.length_map]
      omega
    refine ⟨_, rfl, ?_⟩
    obtain ⟨nm, it⟩ := q
    simp [wp_seq, wp_bnd, item_at_ok b.toBase p hq, wp_ret]
    cases it with
    | tell s => simp [Item.d, wp_ret, deedOf]
    | wait s => simp [Item.d, wp_ret, deedOf]
    | put s v g =>
      by_cases hs : s = sw
      · simp [Item.d, wp_ret, deedOf, deedP, hs, appB_ok (lt_lim (Nat.le_trans l1 (by decide)))]
      · simp [Item.d, wp_ret, deedOf, hs]
  · rintro e w' ⟨rfl, a, b2, rfl⟩
    simp [wp_ret, Prog.deeds]
def tellOf (q : (Nat × Nat) × Item) : Option Int := match q.2 with
  | .tell s => some s
  | _ => none
def Prog.tells (p : Prog) : List Int := p.its.filterMap tellOf
theorem tells_ok (b : Base2 T gl) (p : Prog) (ok : ProgOk p) : run T gl n (k + 2) 545016506659300467240806 [p.d, .str ⟨#[116, 101, 108, 108]⟩] = ret (.lst (p.tells.map .int)) := by
  rw [run_at b.signals rfl]
  simp [F_signals_of, startE, bindA, List.replicate, all_items_ok b.toBase p ok]
  rw [mapM_pureL (h := fun q => (tellOf q).map .int) fun q hq => by
    obtain ⟨nm, it⟩ := q
    simp [item_at_ok b.toBase p hq]
    cases it <;> simp [Item.d, tellOf]]
  have l1 : (p.its.filterMap fun q => (tellOf q).map D.int).length ≤ lim := by
    have := List.length_filterMap_le (fun q => (tellOf q).map D.int) p.its
    have := its_le ok
    exact le_lim (by omega)
  simp [l1]
  unfold Prog.tells
  rw [List.map_filterMap]
/-! bent -/
def Prog.st (p : Prog) (s : Int) : Int := p.start.getD s.toNat 0
theorem st_ix {p : Prog} {s : Int} (h : 0 ≤ s) (h2 : s < p.start.length) : D.ix (.tup (p.start.map .int)) (.int s) = some (.int (p.st s)) := by
  rw [ix_tup_int h]
  unfold Prog.st
  have : s.toNat < p.start.length := by omega
  simp [this]
def bentB (p : Prog) : Item → Bool
  | .tell s => decide ((1 : Int) < (p.tells.count s : Nat))
  | .wait s => !decide (((p.tells.count s : Nat) : Int) = 1)
  | .put s v g => decide ((1 : Int) < ((p.stands s).count v : Nat)) || ((decide (v = p.st s) && !decide (1 - v ∈ p.stands s)) || g.any fun pr => decide (pr.2 = p.st pr.1) && decide (pr.2 ∈ p.stands pr.1))
theorem guard_mem {s m : Int} : ∀ {g : List (Int × Int)} {l : Int}, -1 ≤ l → GuardOk s m l g → ∀ q ∈ g, 0 ≤ q.1 ∧ q.1 < m
  | p :: g, l, hl, h, q, hq => by
    obtain ⟨a1, a2, a3, a4, a5, a6⟩ := h
    rcases List.mem_cons.mp hq with rfl | hq
    · omega
    · exact guard_mem (by omega) a6 q hq
theorem its_ok {p : Prog} (ok : ProgOk p) {q : (Nat × Nat) × Item} (m : q ∈ p.its) : ItemOk p.start.length q.2 := by
  obtain ⟨r, h1, h2⟩ := its_at m
  exact ok.it r (List.mem_of_getElem? h1) _ (List.mem_of_getElem? h2)
theorem deeds_le {p : Prog} (ok : ProgOk p) (sw : Int) : (p.deeds sw).length ≤ 24 := Nat.le_trans (List.length_filterMap_le _ _) (its_le ok)
theorem is_bent_ok (b : Base2 T gl) (p : Prog) (ok : ProgOk p) {q : (Nat × Nat) × Item} (m : q ∈ p.its) : run T gl n (k + 3) 29681726064520820 [p.d, nameD q.1] = ret (.bl (bentB p q.2)) := by
  rw [run_at b.is_bent rfl]
  have io := its_ok ok m
  refine ret_of_wp fun w => ?_
  have pd : p.d = .tup [.tup (p.start.map .int), .tup (p.rows.map rowD)] := rfl
  obtain ⟨nm, it⟩ := q
  simp [F_is_bent, startE, bindA, List.replicate, wp_bnd, wp_ret, wp_seq, item_at_ok b.toBase p m]
  cases it with
  | tell s => simp [Item.d, wp_seq, wp_bnd, wp_ret, tells_ok b p ok, bentB]
  | wait s => simp [Item.d, wp_seq, wp_bnd, wp_ret, tells_ok b p ok, bentB]
  | put s v g =>
    obtain ⟨h1, h2, h3, h4, h5⟩ := io
    have l1 : (p.deeds s).length ≤ lim := le_lim (Nat.le_trans (deeds_le ok s) (by decide))
    simp [Item.d, wp_seq, wp_bnd, wp_ret, deeds_on_ok b p ok]
    rw [mapM_pureL (h := fun x => some (.int x.2)) fun x hx => by simp [deedP]]
    have hm : ((p.deeds s).map fun x => D.int x.2) = (p.stands s).map .int := by unfold Prog.stands; rw [List.map_map]; rfl
    have l2 : (p.stands s).length ≤ lim := by unfold Prog.stands; rw [List.length_map]; exact l1
    simp [hm, l2, wp_ret, wp_seq, wp_bnd, pd, st_ix h1 h2, nin_ints]
    have loop : ∀ a b, ¬ ((1 : Int) < ((p.stands s).count v : Nat)) → ¬ (v = p.st s ∧ 1 - v ∉ p.stands s) →
        wp (forL (.many [4, 5]) (execs ⟨run T gl n (k + 2), gl, n⟩ (.cons (.ite (.and (.cmp .eq (.var 5) (.ix (.ix (.var 0) (.int 0)) (.var 4))) (.cmp .isin (.var 5) (.comp (.many [6, 7]) (.seq (.call 7234299858547339118 (.cons (.var 0) (.cons (.var 4) .nil)))) .none (.var 7)))) (.cons (.ret (.bl true)) .nil) .nil) .nil)) (g.map pairD)
          [.fz p.d, .fz (nameD nm), .fz (Item.d (.put s v g)), .fz (.lst ((p.stands s).map .int)), a, b, .no, .no]) w
          (contW (execs ⟨run T gl n (k + 2), gl, n⟩ (.cons (.ret (.bl false)) .nil)) fun a w' => wp (endF a) w' fun d w' => d = .bl (bentB p (.put s v g)) ∧ w' = w) := by
      intro a b0 n1 n2
      refine wp_forL2 (fun dn e w' => w' = w ∧ (∀ q ∈ dn, q.2 = p.st q.1 → ¬ q.2 ∈ p.stands q.1) ∧ ∃ a b, e = [.fz p.d, .fz (nameD nm), .fz (Item.d (.put s v g)), .fz (.lst ((p.stands s).map .int)), a, b, .no, .no]) ⟨rfl, (fun q h => nomatch h), _, _, rfl⟩ ?_ ?_
      · rintro dn pr rr env w' hdn ⟨rfl, hno, a, b', rfl⟩
        have hp : pr ∈ g := by rw [← hdn]; simp
        obtain ⟨g1, g2⟩ := guard_mem (by decide) h5 pr hp
        refine ⟨_, rfl, ?_⟩
        simp [wp_seq, wp_bnd, pd, st_ix g1 g2]
        have l3 : (p.deeds pr.1).length ≤ lim := le_lim (Nat.le_trans (deeds_le ok _) (by decide))
        have hm2 : ((p.deeds pr.1).map fun x => D.int x.2) = (p.stands pr.1).map .int := by unfold Prog.stands; rw [List.map_map]; rfl
        have l4 : (p.stands pr.1).length ≤ lim := by unfold Prog.stands; rw [List.length_map]; exact l3
        by_cases c1 : pr.2 = p.st pr.1
        · simp [c1, ← pd, deeds_on_ok b p ok]
          rw [mapM_pureL (h := fun x => some (.int x.2)) fun x hx => by simp [deedP]]
          simp [hm2, l4, in_ints]
          by_cases c2 : p.st pr.1 ∈ p.stands pr.1
          · have : bentB p (.put s v g) = true := by
              unfold bentB
              simp only [Bool.or_eq_true]
              exact .inr (.inr (List.any_eq_true.mpr ⟨pr, hp, by rw [c1]; simp [c2]⟩))
            simp [c2, wp_ret, this]
          · simp [c2, wp_ret, pd]
            exact fun a b h e => h.elim (fun h => hno (a, b) h e) fun h => by cases h; exact c2 ∘ (c1 ▸ ·)
        · simp [c1, wp_ret]
          exact fun a b h e => h.elim (fun h => hno (a, b) h e) fun h => by cases h; exact absurd e c1
      · rintro e w' ⟨rfl, hno, a, b', rfl⟩
        have : bentB p (.put s v g) = false := by
          have hb : (g.any fun pr => decide (pr.2 = p.st pr.1) && decide (pr.2 ∈ p.stands pr.1)) = false := by
            rw [List.any_eq_false]
            intro q hq z
            simp only [Bool.and_eq_true, decide_eq_true_eq] at z
            exact hno q hq z.1 z.2
          show (decide _ || (_ || _)) = false
          rw [hb, decide_eq_false n1]
          simp only [Bool.or_false, Bool.false_or, Bool.and_eq_false_iff, Bool.not_eq_false', decide_eq_true_eq, decide_eq_false_iff_not]
          exact (Classical.em (v = p.st s)).elim (fun h => .inr (Classical.byContradiction fun z => n2 ⟨h, z⟩)) .inl
        simp [wp_ret, this]
    by_cases c : (1 : Int) < ((p.stands s).count v : Nat) ∨ (v = p.st s ∧ ¬ 1 - v ∈ p.stands s)
    · have : bentB p (.put s v g) = true := by
        show (decide _ || (_ || _)) = true
        rcases c with c | ⟨c1, c2⟩
        · rw [decide_eq_true c]; rfl
        · rw [decide_eq_true c1, decide_eq_false c2]; simp
      simp [c, wp_ret, this]
    · rw [if_neg (by simpa using c)]
      simp [wp_ret, wp_bnd, wp_seq]
      exact loop _ _ (fun z => c (.inl z)) (fun z => c (.inr z))
end VI

set_option Elab.async false
set_option linter.all false
set_option maxRecDepth 100000
set_option maxHeartbeats 1000000
namespace VI
open PySem
variable {T : Tbl} {gl : Nat → Option D} {n k : Nat}
theorem ok_names {l : List ((Nat × Nat) × Item)} : D.ok dpt (.lst (l.map fun q => nameD q.1)) = true := by
  show List.all _ _ = true
  induction l with
  | nil => rfl
  | cons x l ih => rw [List.map_cons, List.all_cons, ih]; rfl
def Prog.bents (p : Prog) : List ((Nat × Nat) × Item) := p.its.filter fun q => bentB p q.2
def firstD (l : List ((Nat × Nat) × Item)) : D := match l with
  | [] => .non
  | q :: _ => nameD q.1
theorem bent_ok (b : Base2 T gl) (p : Prog) (ok : ProgOk p) : run T gl n (k + 5) 1650814580 [p.d] = ret (firstD p.bents) := by
  rw [run_at b.bent rfl]
  simp [F_bent, startE, bindA, List.replicate, need_ok b.toBase p ok, all_items_ok b.toBase p ok]
  rw [mapM_pureL (h := fun q => if bentB p q.2 = true then some (nameD q.1) else none) fun q hq => by
    simp [is_bent_ok b p ok hq]
    cases bentB p q.2 <;> simp]
  have hf : (p.its.filterMap fun q => if bentB p q.2 = true then some (nameD q.1) else none) = p.bents.map fun q => nameD q.1 := by
    unfold Prog.bents
    induction p.its with
    | nil => rfl
    | cons x l ih =>
      rw [List.filterMap_cons, List.filter_cons]
      cases bentB p x.2 <;> simp [ih]
  have l1 : p.bents.length ≤ lim := le_lim (Nat.le_trans (List.length_filter_le _ _) (Nat.le_trans (its_le ok) (by decide)))
  simp [hf, l1, cmp_ne_nil ok_names]
  cases p.bents with
  | nil => simp [firstD]
  | cons x l => simp [firstD]
theorem straight_ok (b : Base2 T gl) (hs : T.at_ 127482043965153249317054580 = some F_is_straight) (p : Prog) (ok : ProgOk p) : run T gl n (k + 6) 127482043965153249317054580 [p.d] = ret (.bl p.bents.isEmpty) := by
  rw [run_at hs rfl]
  simp [F_is_straight, startE, bindA, List.replicate, bent_ok b p ok]
  cases p.bents with
  | nil => simp [firstD]
  | cons x l => simp [firstD, nameD]
/-! the law's own -/
structure Draw (T : Tbl) : Prop where
  taken : T.at_ 450624087419674289726830 = some F__law_taken
  pick : T.at_ 1760250341483036107627 = some F__law_pick
  changes : T.at_ 29532100193130996830715733363 = some F__law_changes
  program : T.at_ 29532100193134667060542071149 = some F__law_program
structure Nm (T : Tbl) : Prop where
  names : T.at_ 450624087419648520054131 = some F__law_names
  setter : T.at_ 115359766379435535990285682 = some F__law_setter
theorem range_split {m x : Nat} {dn r : List Nat} (h : dn ++ x :: r = List.range m) : dn = List.range x ∧ x < m := by
  have h1 : (List.range m)[dn.length]? = some x := by rw [← h]; simp
  have hx : dn.length < m := by
    obtain ⟨z, _⟩ := List.getElem?_eq_some_iff.mp h1
    simpa using z
  rw [List.getElem?_eq_getElem (by simpa using hx)] at h1
  simp at h1
  subst h1
  refine ⟨?_, hx⟩
  have : dn = (List.range m).take dn.length := by rw [← h]; simp
  rw [this, List.take_range]
  simp
theorem sum_take {rs : List (List Item)} {m : Nat} : ((rs.take m).map List.length).sum ≤ (rs.map List.length).sum := by
  conv => rhs; rw [← List.take_append_drop m rs]
  rw [List.map_append, List.sum_append]
  omega
theorem names_ok (b : Nm T) (p : Prog) (ok : ProgOk p) : run T gl n (k + 1) 450624087419648520054131 [p.d] = ret (.lst (p.its.map fun q => nameD q.1)) := by
  rw [run_at b.names rfl]
  refine ret_of_wp fun w => ?_
  have rl := ok.r2
  simp [F__law_names, startE, bindA, Prog.d, List.replicate, wp_bnd, wp_ret, wp_seq, rng_nat (show p.rows.length ≤ 1000000 by omega)]
  refine wp_forL2 (fun dn e w' => w' = w ∧ ∃ a b, e = [.fz p.d, .fz (.lst ((itsFrom 0 (p.rows.take dn.length)).map fun q => nameD q.1)), a, b]) ⟨rfl, _, _, rfl⟩ ?_ ?_
  · rintro dn i rr env w' hdn ⟨rfl, a, b', rfl⟩
    obtain ⟨rfl, hi⟩ := range_split hdn
    have hr := List.getElem?_eq_getElem hi
    have hrm : p.rows[i] ∈ p.rows := List.getElem_mem hi
    have l0 := le_tot hrm
    have tt := ok.tot
    have htk : p.rows.take (i + 1) = p.rows.take i ++ [p.rows[i]] := by simp
    have l1 : (itsFrom 0 (p.rows.take i)).length + p.rows[i].length ≤ 24 := by
      have h1 := its_len (rs := p.rows.take (i + 1)) (h := 0)
      rw [htk, its_app, List.length_append, ← htk] at h1
      have h2 := sum_take (rs := p.rows) (m := i + 1)
      have h3 : (itsFrom (0 + (p.rows.take i).length) [p.rows[i]]).length = p.rows[i].length := by rw [its_len]; simp
      omega
    refine ⟨_, rfl, ?_⟩
    simp [Prog.d, wp_seq, wp_bnd, wp_ret, hr, rowD, rng_nat (show p.rows[i].length ≤ 1000000 by omega)]
    rw [mapM_pureL (h := fun j => some (nameD (i, j))) fun v hv => by simp [nameD]]
    have l2 : p.rows[i].length ≤ lim := le_lim (by omega)
    simp [l2, wp_ret, wp_bnd]
    rw [add_lst (by simp; exact le_lim (by omega)), lft_some, wp_ret]
    simp [wp_ret]
    rw [htk, its_app, List.map_append, its_one]
    simp [Nat.min_eq_left (Nat.le_of_lt hi)]
  · rintro e w' ⟨rfl, a, b2, rfl⟩
    simp [wp_ret]
    rfl
def Prog.setters (p : Prog) (s v : Int) : List ((Nat × Nat) × Item) := p.its.filter fun q => match q.2 with
  | .put s' v' _ => decide (s' = s) && decide (v' = v)
  | _ => false
theorem setter_ok (b : Nm T) (p : Prog) (ok : ProgOk p) (s v : Int) : run T gl n (k + 2) 115359766379435535990285682 [p.d, .int s, .int v] = ret (.lst ((p.setters s v).map fun q => nameD q.1)) := by
  rw [run_at b.setter rfl]
  refine ret_of_wp fun w => ?_
  simp [F__law_setter, startE, bindA, List.replicate, wp_bnd, wp_ret, wp_seq, names_ok b p ok]
  refine wp_forL2 (fun dn e w' => w' = w ∧ ∃ a c d, e = [.fz p.d, .fz (.int s), .fz (.int v), .ow ((dn.filter fun q => match q.2 with
  | .put s' v' _ => decide (s' = s) && decide (v' = v)
  | _ => false).map fun q => nameD q.1), a, c, d]) ⟨rfl, _, _, _, rfl⟩ ?_ ?_
  · rintro dn q rr env w' hdn ⟨rfl, a, c, d, rfl⟩
    have hq : q ∈ p.its := by rw [← hdn]; simp
    obtain ⟨r, h1, h2⟩ := its_at hq
    have l1 : ((dn.filter fun q => match q.2 with
  | .put s' v' _ => decide (s' = s) && decide (v' = v)
  | _ => false).map fun q => nameD q.1).length ≤ 24 := by
      rw [List.length_map]
      have := its_le ok
      rw [← hdn] at this
      simp at this
      have := List.length_filter_le (fun (q : (Nat × Nat) × Item) => match q.2 with
  | .put s' v' _ => decide (s' = s) && decide (v' = v)
  | _ => false) dn
      omega
    obtain ⟨nm, it⟩ := q
    refine ⟨_, rfl, ?_⟩
    have h1 : p.rows[nm.1]? = some r := h1
    have h2 : r[nm.2]? = some it := h2
    simp [Prog.d, wp_seq, wp_bnd, wp_ret, h1, rowD, h2]
    cases it with
    | tell s => simp [Item.d, wp_ret]
    | wait s => simp [Item.d, wp_ret]
    | put s' v' g =>
      by_cases c1 : s' = s
      · by_cases c2 : v' = v
        · simp [Item.d, wp_ret, c1, c2, appB_ok (lt_lim (Nat.le_trans l1 (by decide)))]
          rfl
        · simp [Item.d, wp_ret, c1, c2]
      · simp [Item.d, wp_ret, c1]
  · rintro e w' ⟨rfl, a, c, d, rfl⟩
    simp [wp_ret, Prog.setters]
end VI

set_option Elab.async false
set_option linter.all false
set_option maxRecDepth 100000
set_option maxHeartbeats 1000000
namespace VI
open PySem
variable {T : Tbl} {gl : Nat → Option D} {n k : Nat}
/-- plain data of a depth, short at every place -/
def D.pl : Nat → D → Bool
  | _, .non => true
  | _, .bl _ => true
  | _, .int _ => true
  | _, .str x => PyData.strOk x
  | n + 1, .lst xs => decide (xs.length ≤ 100000) && xs.all (D.pl n)
  | n + 1, .tup xs => decide (xs.length ≤ 100000) && xs.all (D.pl n)
  | _, _ => false
theorem pl_ok : ∀ (d : D) (m : Nat), D.pl m d = true → D.ok m d = true
  | .non, m, _ => by cases m <;> rfl
  | .bl _, m, _ => by cases m <;> rfl
  | .int _, m, _ => by cases m <;> rfl
  | .str x, m, h => by cases m <;> exact h
  | .lst xs, 0, h => nomatch h
  | .tup xs, 0, h => nomatch h
  | .lst xs, m + 1, h => by
    simp only [D.pl, Bool.and_eq_true] at h
    show xs.all (D.ok m) = true
    rw [List.all_eq_true]
    intro x hx
    exact pl_ok x m (List.all_eq_true.mp h.2 x hx)
  | .tup xs, m + 1, h => by
    simp only [D.pl, Bool.and_eq_true] at h
    show xs.all (D.ok m) = true
    rw [List.all_eq_true]
    intro x hx
    exact pl_ok x m (List.all_eq_true.mp h.2 x hx)
  | .dct _, m, h => by cases m <;> cases h
  | .fn _, m, h => by cases m <;> cases h
  | .obj _, m, h => by cases m <;> cases h
  | .scr _, m, h => by cases m <;> cases h
theorem ok_up : ∀ (d : D) (m m' : Nat), m ≤ m' → D.ok m d = true → D.ok m' d = true
  | .non, _, m, _, _ => by cases m <;> rfl
  | .bl _, _, m, _, _ => by cases m <;> rfl
  | .int _, _, m, _, _ => by cases m <;> rfl
  | .str x, a, m, _, h => by cases a <;> cases m <;> exact h
  | .lst xs, 0, _, _, h => nomatch h
  | .tup xs, 0, _, _, h => nomatch h
  | .lst xs, m + 1, 0, hl, h => by omega
  | .tup xs, m + 1, 0, hl, h => by omega
  | .lst xs, m + 1, m' + 1, hl, h => by
    have h : xs.all (D.ok m) = true := h
    show xs.all (D.ok m') = true
    rw [List.all_eq_true] at h ⊢
    intro x hx
    exact ok_up x m m' (by omega) (h x hx)
  | .tup xs, m + 1, m' + 1, hl, h => by
    have h : xs.all (D.ok m) = true := h
    show xs.all (D.ok m') = true
    rw [List.all_eq_true] at h ⊢
    intro x hx
    exact ok_up x m m' (by omega) (h x hx)
  | .dct _, m, _, _, h => by cases m <;> cases h
  | .fn _, m, _, _, h => by cases m <;> cases h
  | .obj _, m, _, _, h => by cases m <;> cases h
  | .scr _, m, _, _, h => by cases m <;> cases h
mutual
theorem eqv_refl : ∀ (d : D) (m : Nat), D.ok m d = true → D.eqv d d = true
  | .non, m, _ => by simp [D.eqv]
  | .bl _, m, _ => by simp [D.eqv]
  | .int _, m, _ => by simp [D.eqv]
  | .str x, m, h => by simp [D.eqv]
  | .lst xs, 0, h => nomatch h
  | .tup xs, 0, h => nomatch h
  | .lst xs, m + 1, h => by
    simp only [D.eqv]
    exact eqvs_refl xs m h
  | .tup xs, m + 1, h => by
    simp only [D.eqv]
    exact eqvs_refl xs m h
  | .dct _, m, h => by cases m <;> cases h
  | .fn _, m, h => by cases m <;> cases h
  | .obj _, m, h => by cases m <;> cases h
  | .scr _, m, h => by cases m <;> cases h
theorem eqvs_refl : ∀ (ds : List D) (m : Nat), ds.all (D.ok m) = true → D.eqvs ds ds = true
  | [], _, _ => by simp [D.eqvs]
  | d :: ds, m, h => by
    rw [List.all_cons, Bool.and_eq_true] at h
    simp only [D.eqvs, eqv_refl d m h.1, eqvs_refl ds m h.2, Bool.and_self]
end
theorem cmp_eq_refl {d : D} {m : Nat} (hm : m ≤ dpt) (h : D.ok m d = true) : D.cmp .eq d d = some true := by
  have h2 := ok_up d m dpt hm h
  show D.cmpEq d d = _
  unfold D.cmpEq
  rw [if_pos (by rw [h2]; rfl), eqv_refl d m h]
theorem alike_refl (h : T.at_ 450624087419592869768037 = some F__law_alike) : ∀ (m : Nat) (d : D), m ≤ 10 → D.pl m d = true → run T gl n (k + m + 1) 450624087419592869768037 [d, d] = ret (.bl true) := by
  have leaf : ∀ {j : Nat} {d : D}, (match d with | .tup _ => false | .lst _ => false | _ => true) = true → D.ok 0 d = true → run T gl n (j + 1) 450624087419592869768037 [d, d] = ret (.bl true) := by
    intro j d hd ho
    rw [run_at h rfl]
    cases d <;> first | (cases hd; done) | (cases ho; done) | skip
    · simp [F__law_alike, startE, bindA, List.replicate, isTys, D.isTy, cmp_eq_refl (m := 0) (by decide) ho]
    · simp [F__law_alike, startE, bindA, List.replicate, isTys, D.isTy]
    · simp [F__law_alike, startE, bindA, List.replicate, isTys, D.isTy]
    · simp [F__law_alike, startE, bindA, List.replicate, isTys, D.isTy, cmp_eq_refl (m := 0) (by decide) ho]
  intro m
  induction m with
  | zero =>
    intro d _ hd
    refine leaf ?_ (pl_ok d 0 hd)
    cases d <;> first | rfl | cases hd
  | succ m ih =>
    intro d hm hd
    cases d with
    | tup xs =>
      simp only [D.pl, Bool.and_eq_true, decide_eq_true_eq] at hd
      rw [run_at h rfl]
      simp [F__law_alike, startE, bindA, List.replicate, isTys, D.isTy, rng_nat (show xs.length ≤ 1000000 by omega)]
      rw [mapM_pureL (h := fun _ => none) fun i hi => by
        have hi : i < xs.length := by simpa using hi
        have := ih xs[i] (by omega) (List.all_eq_true.mp hd.2 _ (List.getElem_mem hi))
        simp [hi]
        rw [show k + (m + 1) = k + m + 1 from rfl, this]
        simp]
      simp
    | lst xs =>
      simp only [D.pl, Bool.and_eq_true, decide_eq_true_eq] at hd
      rw [run_at h rfl]
      simp [F__law_alike, startE, bindA, List.replicate, isTys, D.isTy, rng_nat (show xs.length ≤ 1000000 by omega)]
      rw [mapM_pureL (h := fun _ => none) fun i hi => by
        have hi : i < xs.length := by simpa using hi
        have := ih xs[i] (by omega) (List.all_eq_true.mp hd.2 _ (List.getElem_mem hi))
        simp [hi]
        rw [show k + (m + 1) = k + m + 1 from rfl, this]
        simp]
      simp
    | non => exact leaf rfl rfl
    | bl _ => exact leaf rfl rfl
    | int _ => exact leaf rfl rfl
    | str _ => exact leaf rfl hd
    | dct _ => cases hd
    | fn _ => cases hd
    | obj _ => cases hd
    | scr _ => cases hd
theorem setters_len {p : Prog} {s v : Int} : (p.setters s v).length = (p.stands s).count v := by
  unfold Prog.setters Prog.stands Prog.deeds
  induction p.its with
  | nil => rfl
  | cons q l ih =>
    obtain ⟨nm, it⟩ := q
    rw [List.filter_cons, List.filterMap_cons]
    cases it with
    | tell s' => simpa [deedOf] using ih
    | wait s' => simpa [deedOf] using ih
    | put s' v' g =>
      by_cases c1 : s' = s
      · by_cases c2 : v' = v
        · simp [deedOf, c1, c2]; simpa using ih
        · simp [deedOf, c1, c2]; simpa [List.count_cons, c2] using ih
      · simp [deedOf, c1]; simpa using ih
theorem setters_nil {p : Prog} {s v : Int} : (p.setters s v).isEmpty = !decide (v ∈ p.stands s) := by
  have h := setters_len (p := p) (s := s) (v := v)
  cases q : p.setters s v with
  | nil =>
    rw [q] at h
    have : v ∉ p.stands s := List.count_eq_zero.mp h.symm
    simp [this]
  | cons x l =>
    rw [q] at h
    have : v ∈ p.stands s := List.one_le_count_iff.mp (by rw [← h]; simp)
    simp [this]
theorem guard_len {s m : Int} : ∀ {g : List (Int × Int)} {l : Int}, l ≤ m - 1 → GuardOk s m l g → (g.length : Int) ≤ m - 1 - l
  | [], l, hl, _ => by simp; omega
  | p :: g, l, hl, h => by
    obtain ⟨a1, a2, a3, a4, a5, a6⟩ := h
    have := guard_len (by omega) a6
    rw [List.length_cons]
    omega
theorem ok_pairs {l : List (Int × Int)} : D.ok dpt (.lst (l.map pairD)) = true := by
  show List.all _ _ = true
  induction l with
  | nil => rfl
  | cons x l ih => rw [List.map_cons, List.all_cons, ih]; rfl
theorem fm_filter {α : Type} {f : α → D} {c : α → Bool} {l : List α} : (l.filterMap fun q => if c q = true then some (f q) else none) = (l.filter c).map f := by
  induction l with
  | nil => rfl
  | cons x l ih =>
    rw [List.filterMap_cons, List.filter_cons]
    cases c x <;> simp [ih]
theorem any_filter {l : List (Int × Int)} {c : Int × Int → Bool} : (List.map pairD (l.filter c)).isEmpty = !(l.any c) := by
  induction l with
  | nil => rfl
  | cons x l ih =>
    rw [List.filter_cons, List.any_cons]
    cases c x
    · simpa using ih
    · rfl
end VI

set_option Elab.async false
set_option linter.all false
set_option maxRecDepth 100000
set_option maxHeartbeats 1000000
namespace VI
open PySem
variable {T : Tbl} {gl : Nat → Option D} {n k : Nat} {ns : List Int}
/-- the row of draws -/
def RowOk (ns : List Int) (w : Wd) : Prop := ∃ (i : Nat) (s r : Int), w = row4 (.scr ns) (.int i) (.int s) (.int r)
theorem taken_ok (b : Draw T) {w : Wd} (hw : RowOk ns w) {m : Int} (hm : 0 < m) (hm2 : m ≤ 1000000) : wp (run T gl n (k + 1) 450624087419674289726830 [.obj 0, .int m]) w fun d w' => ∃ r : Int, d = .int r ∧ 0 ≤ r ∧ r < m ∧ RowOk ns w' := by
  rw [run_at b.taken rfl]
  obtain ⟨i, s, r, rfl⟩ := hw
  have md : ∀ x : Int, 0 ≤ x % m ∧ x % m < m := fun x => ⟨Int.emod_nonneg x (by omega), Int.emod_lt_of_pos x hm⟩
  have ri : ∀ (i : Nat) (s r : Int), RowOk ns (row4 (.scr ns) (.int i) (.int s) (.int r)) := fun i s r => ⟨i, s, r, rfl⟩
  simp [F__law_taken, startE, bindA, List.replicate, wp_bnd, wp_ret, wp_seq, wp_itS, wp_itM]
  by_cases c1 : 0 < r
  · simp [c1, wp_bnd, wp_ret, wp_seq, wp_itS, wp_itM, mod_pos hm, div_pos hm hm2, md, ri]
  · simp [c1, wp_bnd, wp_ret, wp_seq, wp_itS, wp_itM, mod_pos hm, div_pos hm hm2, md, ri]
    have ri' : ∀ s r : Int, RowOk ns (row4 (.scr ns) (.int (↑i + 1)) (.int s) (.int r)) := fun s r => ⟨i + 1, s, r, rfl⟩
    by_cases c2 : (ns.length : Int) < ↑i + 1
    · simp [c2, ri']
    · have hi : i < ns.length := by omega
      simp [c2, hi, wp_bnd, wp_ret, wp_seq, wp_itS, wp_itM, mod_pos hm, div_pos hm hm2]
      by_cases c3 : 1000000000000000000 ≤ ns[i]
      · simp [c3, wp_bnd, wp_ret, wp_seq, wp_itS, wp_itM, mod_pos hm, div_pos hm hm2, md, ri']
      · simp [c3, wp_bnd, wp_ret, wp_seq, wp_itS, wp_itM, mod_pos hm, div_pos hm hm2, md, ri']
theorem pick_ok (b : Draw T) {w : Wd} (hw : RowOk ns w) {xs : List D} (h1 : xs ≠ []) (h2 : xs.length ≤ 1000000) : wp (run T gl n (k + 2) 1760250341483036107627 [.obj 0, .lst xs]) w fun d w' => d ∈ xs ∧ RowOk ns w' := by
  rw [run_at b.pick rfl]
  have l1 : 0 < xs.length := by cases xs with
    | nil => exact absurd rfl h1
    | cons x l => simp
  simp [F__law_pick, startE, bindA, List.replicate, wp_bnd, wp_ret, wp_seq, wp_itS, wp_itM]
  refine wp_mono (taken_ok b hw (by omega) (by omega)) fun d w' ⟨r, e, r0, r1, rw'⟩ => ?_
  subst e
  have : r.toNat < xs.length := by omega
  simp [ix_lst_int r0, this, wp_ret, rw']
/-! the deeds -/
def DeedsOk (m : Int) (ds : List (Int × Int)) : Prop := (∀ q ∈ ds, 0 ≤ q.1 ∧ q.1 < m ∧ 0 ≤ q.2 ∧ q.2 ≤ 1) ∧ (ds.length : Int) ≤ 2 * m
/-- the stands that deeds set a switch to, in order -/
def onS (ds : List (Int × Int)) (s : Int) : List Int := (ds.filter fun q => decide (q.1 = s)).map (·.2)
theorem onS_app {f : List (Int × Int)} {s a v : Int} : onS (f ++ [(a, v)]) s = onS f s ++ if a = s then [v] else [] := by
  unfold onS
  rw [List.filter_append, List.map_append]
  by_cases h : a = s <;> simp [h]
/-- a switch is set not at all, there, or there and back -/
def AltOk (st : List Int) (ds : List (Int × Int)) : Prop := ∀ (s : Nat) (h : s < st.length), onS ds s = [] ∨ onS ds s = [1 - st[s]] ∨ onS ds s = [1 - st[s], st[s]]
/-- .. while some are left, and the stands are so -/
def AltW (st : List Int) (l : List Int) (f : List (Int × Int)) (sl : List Int) : Prop := ∀ (s : Nat) (h : s < st.length),
  (l.count (s : Int) ≤ 2 ∧ onS f s = [] ∧ sl[s]? = some st[s]) ∨ (l.count (s : Int) ≤ 1 ∧ onS f s = [1 - st[s]] ∧ sl[s]? = some (1 - st[s])) ∨ (l.count (s : Int) = 0 ∧ onS f s = [1 - st[s], st[s]] ∧ sl[s]? = some st[s])
theorem idx_ints2 {x : Int} {ns : List Int} (h : x ∈ ns) : ∃ j, j < ns.length ∧ ns[j]? = some x ∧ idxD (.lst (ns.map .int)) (.int x) = some (.int (j : Nat)) := by
  have h1 : ∃ j, j < ns.length ∧ ns[j]? = some x ∧ firstAt (.int x) (ns.map .int) = some j := by
    induction ns with
    | nil => cases h
    | cons y l ih =>
      rw [List.map_cons]
      unfold firstAt
      by_cases hy : y = x
      · refine ⟨0, by simp, by simp [hy], ?_⟩
        rw [if_pos (by show (y == x) = true; simpa using hy)]
      · have : x ∈ l := by
          rcases List.mem_cons.mp h with h | h
          · exact absurd h.symm hy
          · exact h
        obtain ⟨j, h2, h4, h3⟩ := ih this
        refine ⟨j + 1, by simp; omega, by simpa using h4, ?_⟩
        rw [if_neg (by show ¬ (y == x) = true; simpa using hy), h3]
        rfl
  obtain ⟨j, h2, h4, h3⟩ := h1
  refine ⟨j, h2, h4, ?_⟩
  unfold idxD
  simp only
  rw [h3, show D.ok dpt (.int x) = true from rfl, show D.ok dpt (.lst (ns.map .int)) = true from allOk_ints]
  rfl
theorem count_cut {l : List Int} {j : Nat} {s x : Int} (h : l[j]? = some s) : (l.take j ++ l.drop (j + 1)).count x + (if s = x then 1 else 0) = l.count x := by
  obtain ⟨hj, e⟩ := List.getElem?_eq_some_iff.mp h
  have h1 : l = l.take j ++ s :: l.drop (j + 1) := by rw [← e, List.getElem_cons_drop, List.take_append_drop]
  conv => rhs; rw [h1]
  rw [List.count_append, List.count_append, List.count_cons]
  by_cases c : s = x
  · simp [c]; omega
  · simp [c]
theorem AltW.turn {st l sl : List Int} {f : List (Int × Int)} (a : AltW st l f sl) {j s : Nat} (hs : s < st.length) (hsl : sl.length = st.length) (hj : l[j]? = some (s : Int)) (hx : s < sl.length) :
    AltW st (l.take j ++ l.drop (j + 1)) (f ++ [((s : Int), 1 - sl[s])]) (sl.set s (1 - sl[s])) := by
  intro i hi
  have hc := count_cut (x := (i : Int)) hj
  rw [onS_app]
  by_cases e : i = s
  · subst e
    rw [if_pos rfl] at hc
    have hcs : 1 ≤ l.count (i : Int) := by omega
    simp only [if_true, List.getElem?_set_self hx]
    have hg : sl[i]? = some sl[i] := List.getElem?_eq_getElem hx
    rcases a i hi with ⟨h1, h2, h3⟩ | ⟨h1, h2, h3⟩ | ⟨h1, h2, h3⟩
    · rw [hg] at h3
      have h3 := Option.some.inj h3
      refine .inr (.inl ⟨by omega, by rw [h2, h3]; rfl, by rw [h3]⟩)
    · rw [hg] at h3
      have h3 := Option.some.inj h3
      have e2 : 1 - (1 - st[i]) = st[i] := by omega
      refine .inr (.inr ⟨by omega, by rw [h2, h3, e2]; rfl, by rw [h3, e2]⟩)
    · omega
  · have e1 : ¬ ((s : Int) = (i : Int)) := fun z => e (by omega)
    rw [if_neg e1] at hc
    rw [if_neg e1, List.append_nil, List.getElem?_set_ne (Ne.symm e)]
    have hc : (l.take j ++ l.drop (j + 1)).count (i : Int) = l.count (i : Int) := by omega
    rw [hc]
    exact a i hi
theorem changes_ok (b : Draw T) (hn : 100 ≤ n) {w : Wd} (hw : RowOk ns w) {m : Nat} (hm1 : 1 ≤ m) (hm2 : m ≤ 8) {st : List Int} (hs : st.length = m) (hs2 : ∀ v ∈ st, 0 ≤ v ∧ v ≤ 1) :
    wp (run T gl n (k + 3) 29532100193130996830715733363 [.obj 0, .int m, .tup (st.map .int)]) w fun d w' => ∃ ds, d = .lst (ds.map pairD) ∧ DeedsOk m ds ∧ AltOk st ds ∧ RowOk ns w' := by
  rw [run_at b.changes rfl]
  simp [F__law_changes, startE, bindA, List.replicate, wp_bnd, wp_ret, wp_seq, wp_itS, wp_itM, rng_nat (show m ≤ 1000000 by omega)]
  refine wp_forL2 (fun dn e w' => RowOk ns w' ∧ ∃ (l : List Int) (x : Sl), e = [.fz (.obj 0), .fz (.int m), .fz (.tup (st.map .int)), x, .fz (.lst (l.map .int)), .ow (st.map .int), .ow [], .no] ∧ (∀ y ∈ l, 0 ≤ y ∧ y < m) ∧ l.length ≤ 2 * dn.length ∧ (∀ y ∈ l, y < dn.length) ∧ ∀ y, l.count y ≤ 2) ⟨hw, [], _, rfl, (fun _ h => nomatch h), Nat.le_refl _, (fun _ h => nomatch h), fun _ => by simp⟩ ?_ ?_
  · rintro dn i rr env w' hdn ⟨hw', l, x, rfl, hl, hl2, hl3, hl4⟩
    obtain ⟨rfl, hi⟩ := range_split hdn
    refine ⟨_, rfl, ?_⟩
    simp [wp_bnd, wp_ret, wp_seq, wp_itS, wp_itM]
    refine wp_mono (pick_ok b hw' (by simp) (by simp)) fun d w2 ⟨hd, hw2⟩ => ?_
    have : ∃ k : Int, d = .int k ∧ 0 ≤ k ∧ k ≤ 2 := by
      simp at hd
      rcases hd with rfl | rfl | rfl <;> exact ⟨_, rfl, by decide, by decide⟩
    obtain ⟨c, rfl, hc0, hc2⟩ := this
    simp at hl2 hl3
    simp [mul_one hc0 (by omega), wp_ret, wp_bnd]
    rw [add_lst (by simp; exact le_lim (by omega))]
    simp [wp_ret]
    refine ⟨hw2, l ++ List.replicate c.toNat (i : Int), by simp, ?_, ?_, ?_, ?_⟩
    · intro y hy
      rcases List.mem_append.mp hy with hy | hy
      · exact hl y hy
      · rw [List.eq_of_mem_replicate hy]; omega
    · simp; omega
    · intro y hy
      rcases List.mem_append.mp hy with hy | hy
      · have := hl3 y hy; omega
      · rw [List.eq_of_mem_replicate hy]; omega
    · intro y
      rw [List.count_append, List.count_replicate]
      by_cases c1 : (i : Int) = y
      · have : l.count y = 0 := List.count_eq_zero.mpr fun z => by have := hl3 y z; omega
        simp [c1, this]; omega
      · have := hl4 y
        simp [c1]; omega
  · rintro e w' ⟨hw', l, x, rfl, hl, hl2, hl3, hl4⟩
    simp at hl2
    simp [wp_bnd, wp_ret, wp_seq, wp_itS, wp_itM]
    refine wp_while (fun j e w' => RowOk ns w' ∧ ∃ (l : List Int) (f : List (Int × Int)) (sl : List Int) (x y : Sl), e = [.fz (.obj 0), .fz (.int m), .fz (.tup (st.map .int)), x, .fz (.lst (l.map .int)), .ow (sl.map .int), .ow (f.map pairD), y] ∧
      l.length = j ∧ (∀ y ∈ l, 0 ≤ y ∧ y < (m : Int)) ∧ sl.length = m ∧ (∀ v ∈ sl, 0 ≤ v ∧ v ≤ 1) ∧ (∀ q ∈ f, 0 ≤ q.1 ∧ q.1 < (m : Int) ∧ 0 ≤ q.2 ∧ q.2 ≤ 1) ∧ f.length + l.length ≤ 2 * m ∧ AltW st l f sl) ?_ n l.length _ _ (by omega) ⟨hw', l, [], st, _, _, rfl, rfl, hl, hs, hs2, (fun _ h => nomatch h), by simpa using hl2, fun s h => .inl ⟨hl4 _, rfl, List.getElem?_eq_getElem h⟩⟩
    rintro j env w2 ⟨hw2, l, f, sl, x, y, rfl, rfl, hl, hsl, hsl2, hf, htot, hal⟩
    by_cases he : l = []
    · subst he
      simp [wp_bnd, wp_ret, wp_seq, wp_itS, wp_itM]
      exact ⟨f, rfl, ⟨hf, by simp at htot; omega⟩, fun s h => (hal s h).elim (fun z => .inl z.2.1) fun z => z.elim (fun z => .inr (.inl z.2.1)) fun z => .inr (.inr z.2.1), hw2⟩
    · simp [wp_bnd, wp_ret, wp_seq, wp_itS, wp_itM, cmp_ne_nil (show D.ok dpt (.lst (l.map .int)) = true from allOk_ints), he]
      refine wp_mono (pick_ok b hw2 (by simpa using he) (by simp; omega)) fun d w3 ⟨hd, hw3⟩ => ?_
      obtain ⟨s, hs3, rfl⟩ := List.mem_map.mp hd
      obtain ⟨j, hj, hjs, hidx⟩ := idx_ints2 hs3
      obtain ⟨s0, s1⟩ := hl s hs3
      have hj' : j ≤ (l.map D.int).length := by simp; omega
      have hj2 : j + 1 ≤ (l.map D.int).length := by simp; omega
      have e1 := sl_take hj'
      have e2 := sl_drop hj2
      have es : s.toNat < sl.length := by omega
      have ev := hsl2 (sl[s.toNat]) (List.getElem_mem es)
      simp at e1 e2
      simp [hidx, e1, e2, wp_bnd, wp_ret, wp_seq, wp_itS, wp_itM]
      rw [add_lst (by simp; exact le_lim (by omega))]
      simp [wp_bnd, wp_ret, wp_seq, ix_lst_int s0, es]
      rw [putC_owI s0 (by simpa using es)]
      have lf : (f.map pairD).length < lim := by simp; exact lt_lim (by omega)
      simp [wp_bnd, wp_ret, wp_seq, ix_lst_int s0, es, appB_ok lf]
      refine ⟨l.length - 1, by omega, hw3, l.take j ++ l.drop (j + 1), f ++ [(s, 1 - sl[s.toNat])], sl.set s.toNat (1 - sl[s.toNat]), ⟨by simp, by rw [List.map_set], by simp [pairD]⟩, by simp; omega, ?_, by simp [hsl], ?_, ?_, by simp; omega, ?_⟩
      · intro y hy
        rcases List.mem_append.mp hy with hy | hy
        · exact hl y (List.mem_of_mem_take hy)
        · exact hl y (List.mem_of_mem_drop hy)
      · intro v hv
        rcases List.mem_or_eq_of_mem_set hv with hv | rfl
        · exact hsl2 v hv
        · omega
      · intro a b hab
        rcases List.mem_append.mp hab with hab | hab
        · exact hf (a, b) hab
        · rcases List.mem_singleton.mp hab with h
          cases h
          exact ⟨s0, s1, by omega, by omega⟩
      · have e5 : ((s.toNat : Nat) : Int) = s := by omega
        have := hal.turn (j := j) (s := s.toNat) (by omega) (by omega) (by rw [e5]; exact hjs) es
        rw [e5] at this
        exact this
theorem guard_snoc {s m : Int} {o v : Int} (h2 : o < m) (h3 : o ≠ s) (h4 : 0 ≤ v) (h5 : v ≤ 1) : ∀ {g : List (Int × Int)} {l : Int}, GuardOk s m l g → (∀ q ∈ g, q.1 < o) → l < o → GuardOk s m l (g ++ [(o, v)])
  | [], l, _, _, hl => ⟨hl, h2, h3, h4, h5, trivial⟩
  | p :: g, l, h, ha, _ => ⟨h.1, h.2.1, h.2.2.1, h.2.2.2.1, h.2.2.2.2.1, guard_snoc h2 h3 h4 h5 h.2.2.2.2.2 (fun q hq => ha q (.tail _ hq)) (ha p (.head _))⟩
/-- draws of 0 and 1 -/
theorem draws_ok (b : Draw T) {w : Wd} (hw : RowOk ns w) {m : Nat} {f : D → M (Option D)} (hf : ∀ (i : Nat) w, RowOk ns w → wp (f (.int i)) w fun o w' => ∃ r : Int, o = some (.int r) ∧ 0 ≤ r ∧ r ≤ 1 ∧ RowOk ns w') :
    wp (mapM f ((List.range m).map fun (i : Nat) => D.int (i : Int))) w fun ys w' => ∃ st : List Int, ys = st.map .int ∧ st.length = m ∧ (∀ v ∈ st, 0 ≤ v ∧ v ≤ 1) ∧ RowOk ns w' := by
  refine wp_mapL2 (fun dn ys w' => ∃ st : List Int, ys = st.map .int ∧ st.length = dn.length ∧ (∀ v ∈ st, 0 ≤ v ∧ v ≤ 1) ∧ RowOk ns w') ⟨[], rfl, rfl, (fun _ h => nomatch h), hw⟩ ?_ ?_
  · rintro dn i r ys w' hdn ⟨st, rfl, h1, h2, h3⟩
    refine wp_mono (hf i w' h3) fun o w2 ⟨r, e, r0, r1, hw2⟩ => ?_
    subst e
    refine ⟨st ++ [r], by simp, by simp [h1], fun v hv => ?_, hw2⟩
    rcases List.mem_append.mp hv with hv | hv
    · exact h2 v hv
    · rcases List.mem_singleton.mp hv with rfl; exact ⟨r0, r1⟩
  · rintro ys w' ⟨st, rfl, h1, h2, h3⟩
    exact ⟨st, rfl, by simpa using h1, h2, h3⟩
end VI

set_option Elab.async false
set_option linter.all false
set_option maxRecDepth 100000
set_option maxHeartbeats 2000000
namespace VI
open PySem
variable {T : Tbl} {gl : Nat → Option D} {n k : Nat} {ns : List Int}
abbrev dB : Ss := (.cons (.set 16 (.tup .nil)) (.cons (.for_ (.one 17) (.rng1 (.var 6)) (.cons (.set 18 (.ite (.or (.cmp .gt (.var 7) (.int 0)) (.cmp .gt (.call 450624087419674289726830 (.cons (.var 0) (.cons (.int 3) .nil))) (.int 0))) (.ix (.bor 9) (.var 17)) (.bin .sub (.int 1) (.ix (.bor 9) (.var 17))))) (.cons (.ite (.and (.cmp .ne (.var 17) (.var 14)) (.and (.cmp .eq (.call 450624087419674289726830 (.cons (.var 0) (.cons (.int 3) .nil))) (.int 0)) (.not (.and (.cmp .isin (.var 17) (.var 4)) (.cmp .eq (.var 18) (.ix (.var 3) (.var 17))))))) (.cons (.set 16 (.bin .add (.var 16) (.tup (.cons (.tup (.cons (.var 17) (.cons (.var 18) .nil))) .nil)))) .nil) .nil) .nil))) (.cons (.set 5 (.call 450624087419674289726830 (.cons (.var 0) (.cons (.var 10) .nil)))) (.cons (.ite (.and (.cmp .ne (.bor 13) (.lst .nil)) (.cmp .eq (.call 450624087419674289726830 (.cons (.var 0) (.cons (.int 3) .nil))) (.int 0))) (.cons (.appi 11 (.var 5) (.tup (.cons (.str ⟨#[119, 97, 105, 116]⟩) (.cons (.call 1760250341483036107627 (.cons (.var 0) (.cons (.bor 13) .nil))) .nil)))) .nil) .nil) (.cons (.appi 11 (.var 5) (.tup (.cons (.str ⟨#[115, 101, 116]⟩) (.cons (.var 14) (.cons (.var 15) (.cons (.var 16) .nil)))))) (.cons (.ite (.and (.cmp .lt (.blt .len (.bor 13)) (.var 12)) (.cmp .eq (.call 450624087419674289726830 (.cons (.var 0) (.cons (.int 2) .nil))) (.int 0))) (.cons (.app 13 (.bin .add (.bin .mul (.int 3) (.blt .len (.bor 13))) (.int 1))) (.cons (.appi 11 (.var 5) (.tup (.cons (.str ⟨#[116, 101, 108, 108]⟩) (.cons (.ix (.bor 13) (.neg (.int 1))) .nil)))) .nil)) .nil) (.cons (.put 9 (.var 14) (.var 15)) .nil)))))))
abbrev gB : Ss := (.cons (.set 18 (.ite (.or (.cmp .gt (.var 7) (.int 0)) (.cmp .gt (.call 450624087419674289726830 (.cons (.var 0) (.cons (.int 3) .nil))) (.int 0))) (.ix (.bor 9) (.var 17)) (.bin .sub (.int 1) (.ix (.bor 9) (.var 17))))) (.cons (.ite (.and (.cmp .ne (.var 17) (.var 14)) (.and (.cmp .eq (.call 450624087419674289726830 (.cons (.var 0) (.cons (.int 3) .nil))) (.int 0)) (.not (.and (.cmp .isin (.var 17) (.var 4)) (.cmp .eq (.var 18) (.ix (.var 3) (.var 17))))))) (.cons (.set 16 (.bin .add (.var 16) (.tup (.cons (.tup (.cons (.var 17) (.cons (.var 18) .nil))) .nil)))) .nil) .nil) .nil))
abbrev rB : Ss := (.cons (.appi 11 (.var 5) (.tup (.cons (.str ⟨#[115, 101, 116]⟩) (.cons (.var 14) (.cons (.var 15) (.cons (.var 16) .nil)))))) (.cons (.ite (.and (.cmp .lt (.blt .len (.bor 13)) (.var 12)) (.cmp .eq (.call 450624087419674289726830 (.cons (.var 0) (.cons (.int 2) .nil))) (.int 0))) (.cons (.app 13 (.bin .add (.bin .mul (.int 3) (.blt .len (.bor 13))) (.int 1))) (.cons (.appi 11 (.var 5) (.tup (.cons (.str ⟨#[116, 101, 108, 108]⟩) (.cons (.ix (.bor 13) (.neg (.int 1))) .nil)))) .nil)) .nil) (.cons (.put 9 (.var 14) (.var 15)) .nil)))
abbrev tB : Ss := (.cons (.ite (.and (.cmp .lt (.blt .len (.bor 13)) (.var 12)) (.cmp .eq (.call 450624087419674289726830 (.cons (.var 0) (.cons (.int 2) .nil))) (.int 0))) (.cons (.app 13 (.bin .add (.bin .mul (.int 3) (.blt .len (.bor 13))) (.int 1))) (.cons (.appi 11 (.var 5) (.tup (.cons (.str ⟨#[116, 101, 108, 108]⟩) (.cons (.ix (.bor 13) (.neg (.int 1))) .nil)))) .nil)) .nil) (.cons (.put 9 (.var 14) (.var 15)) .nil))
abbrev pB : Ss := (.cons (.put 9 (.var 14) (.var 15)) .nil)
abbrev wB : Ss := (.cons (.ite (.and (.cmp .ne (.bor 13) (.lst .nil)) (.cmp .eq (.call 450624087419674289726830 (.cons (.var 0) (.cons (.int 3) .nil))) (.int 0))) (.cons (.appi 11 (.var 5) (.tup (.cons (.str ⟨#[119, 97, 105, 116]⟩) (.cons (.call 1760250341483036107627 (.cons (.var 0) (.cons (.bor 13) .nil))) .nil)))) .nil) .nil) (.cons (.appi 11 (.var 5) (.tup (.cons (.str ⟨#[115, 101, 116]⟩) (.cons (.var 14) (.cons (.var 15) (.cons (.var 16) .nil)))))) (.cons (.ite (.and (.cmp .lt (.blt .len (.bor 13)) (.var 12)) (.cmp .eq (.call 450624087419674289726830 (.cons (.var 0) (.cons (.int 2) .nil))) (.int 0))) (.cons (.app 13 (.bin .add (.bin .mul (.int 3) (.blt .len (.bor 13))) (.int 1))) (.cons (.appi 11 (.var 5) (.tup (.cons (.str ⟨#[116, 101, 108, 108]⟩) (.cons (.ix (.bor 13) (.neg (.int 1))) .nil)))) .nil)) .nil) (.cons (.put 9 (.var 14) (.var 15)) .nil))))
abbrev wC : E := (.and (.cmp .ne (.bor 13) (.lst .nil)) (.cmp .eq (.call 450624087419674289726830 (.cons (.var 0) (.cons (.int 3) .nil))) (.int 0)))
abbrev wA : Ss := (.cons (.appi 11 (.var 5) (.tup (.cons (.str ⟨#[119, 97, 105, 116]⟩) (.cons (.call 1760250341483036107627 (.cons (.var 0) (.cons (.bor 13) .nil))) .nil)))) .nil)
section
variable (mo ha : Int) (st tw : List Int) (ds : List (Int × Int)) (m : Nat) (way ow sg : Int)
abbrev e21 (x5 : Sl) (sd : List Int) (rows : List (List Item)) (told : List Int) (x14 x15 x16 x17 x18 : Sl) : Env :=
  [.fz (.obj 0), .fz (.int mo), .fz (.int ha), .fz (.tup (st.map .int)), .fz (.lst (tw.map .int)), x5, .fz (.int m), .fz (.int way), .fz (.lst (ds.map pairD)), .ow (sd.map .int), .fz (.int ow), .ow2 (rows.map fun r => r.map Item.d), .fz (.int sg), .ow (told.map .int), x14, x15, x16, x17, x18, .no, .no]
end
/-- what a guard does not ask: the first stand of a switch that is set twice -/
def GdOk (st tw : List Int) (g : List (Int × Int)) : Prop := ∀ q ∈ g, ¬ (q.1 ∈ tw ∧ q.2 = st.getD q.1.toNat 0)
theorem guard_loop (b : Draw T) {w : Wd} (hw : RowOk ns w) {mo ha : Int} {st tw sd told : List Int} {ds : List (Int × Int)} {m : Nat} {way ow sg sw : Int} {rows : List (List Item)} {x5 x15 x17 x18 : Sl} (hst : st.length = m) (hsd : sd.length = m) (hsd2 : ∀ v ∈ sd, 0 ≤ v ∧ v ≤ 1) (hm : m ≤ 8) :
    wp (forL (.one 17) (execs ⟨run T gl n (k + 3), gl, n⟩ gB) ((List.range m).map fun (i : Nat) => D.int (i : Int)) (e21 mo ha st tw ds m way ow sg x5 sd rows told (.fz (.int sw)) x15 (.fz (.tup [])) x17 x18)) w fun fl w' => ∃ g y17 y18, fl = .nx (e21 mo ha st tw ds m way ow sg x5 sd rows told (.fz (.int sw)) x15 (.fz (.tup (g.map pairD))) y17 y18) ∧ GuardOk sw m (-1) g ∧ GdOk st tw g ∧ RowOk ns w' := by
  refine wp_forL2 (fun dn e w' => RowOk ns w' ∧ ∃ g y17 y18, e = e21 mo ha st tw ds m way ow sg x5 sd rows told (.fz (.int sw)) x15 (.fz (.tup (g.map pairD))) y17 y18 ∧ GuardOk sw m (-1) g ∧ GdOk st tw g ∧ (∀ q ∈ g, q.1 < dn.length) ∧ g.length ≤ dn.length) ⟨hw, [], _, _, rfl, trivial, (fun _ h => nomatch h), (fun _ h => nomatch h), Nat.le_refl _⟩ ?_ ?_
  · rintro dn i rr env w' hdn ⟨hw', g, y17, y18, rfl, hg, hgd, hg2, hg3⟩
    obtain ⟨rfl, hi⟩ := range_split hdn
    refine ⟨_, rfl, ?_⟩
    have i1 : i < sd.length := by omega
    have i2 : i < st.length := by omega
    simp at hg2 hg3
    simp [wp_bnd, wp_ret, wp_seq, wp_itS, wp_itM, i1]
    have hK : ∀ (K : D → Wd → Prop), (∀ x w2, RowOk ns w2 → 0 ≤ x → x ≤ 1 → K (.int x) w2) → wp (if 0 < way then ret (D.bl true) else bnd (run T gl n (k + 3) 450624087419674289726830 [.obj 0, .int 3]) fun x => lft (Option.map D.bl (D.cmp .gt x (.int 0)))) w' (condM (ret (.int sd[i])) (ret (.int (1 - sd[i]))) K) := by
      intro K hK
      have h1 := hsd2 sd[i] (List.getElem_mem i1)
      have k1 : ∀ w2, RowOk ns w2 → K (.int sd[i]) w2 := fun w2 h => hK _ w2 h h1.1 h1.2
      have k2 : ∀ w2, RowOk ns w2 → K (.int (1 - sd[i])) w2 := fun w2 h => hK _ w2 h (by omega) (by omega)
      by_cases c : 0 < way
      · simp [c, wp_ret, k1 w' hw']
      · simp [c, wp_bnd]
        refine wp_mono (taken_ok b hw' (by decide) (by decide)) fun d w2 ⟨r, e, r0, r1, hw2⟩ => ?_
        subst e
        simp [wp_ret, k1 w2 hw2, k2 w2 hw2]
    refine hK _ ?_
    intro x w2 hw2 x0 x1
    have keep : ∀ w3, RowOk ns w3 → RowOk ns w3 ∧ ∃ g', g.map pairD = g'.map pairD ∧ GuardOk sw m (-1) g' ∧ GdOk st tw g' ∧ (∀ a b : Int, (a, b) ∈ g' → a < (i : Int) + 1) ∧ g'.length ≤ i + 1 :=
      fun w3 h3 => ⟨h3, g, rfl, hg, hgd, fun a b h => by have := hg2 a b h; omega, by omega⟩
    by_cases c1 : (i : Int) = sw
    · simp [c1, wp_ret]
      have := keep w2 hw2
      rw [c1] at this
      exact this
    · simp [c1, wp_bnd, wp_itM]
      refine wp_mono (taken_ok b hw2 (by decide) (by decide)) fun d w3 ⟨r, e, r0, r1, hw3⟩ => ?_
      subst e
      have more : ¬ ((i : Int) ∈ tw ∧ x = st[i]) → RowOk ns w3 ∧ ∃ g', g.map pairD ++ [.tup [.int i, .int x]] = g'.map pairD ∧ GuardOk sw m (-1) g' ∧ GdOk st tw g' ∧ (∀ a b : Int, (a, b) ∈ g' → a < (i : Int) + 1) ∧ g'.length ≤ i + 1 := by
        intro nx
        refine ⟨hw3, g ++ [((i : Int), x)], by simp [pairD], guard_snoc (by omega) c1 x0 x1 hg (fun q hq => by have := hg2 q.1 q.2 hq; omega) (by omega), fun q hq => ?_, fun a b h => ?_, by simp; omega⟩
        · rcases List.mem_append.mp hq with hq | hq
          · exact hgd q hq
          · rcases List.mem_singleton.mp hq with rfl
            have e : st.getD ((i : Int)).toNat 0 = st[i] := by simp [i2]
            show ¬ ((i : Int) ∈ tw ∧ x = st.getD ((i : Int)).toNat 0)
            rw [e]; exact nx
        rcases List.mem_append.mp h with h | h
        · have := hg2 a b h; omega
        · rcases List.mem_singleton.mp h with h; cases h; omega
      have ad : ∀ y : D, D.bin .add (.tup (g.map pairD)) (.tup [y]) = some (.tup (g.map pairD ++ [y])) := fun y => add_tup (by simp; exact le_lim (by omega))
      by_cases c2 : r = 0
      · by_cases c3 : (i : Int) ∈ tw
        · by_cases c4 : x = st[i]
          · simp [c2, c3, c4, i2, in_ints, wp_ret, wp_bnd, wp_itM, wp_itS]
            exact keep w3 hw3
          · simp [c2, c3, c4, i2, in_ints, wp_ret, wp_bnd, wp_itM, wp_itS, ad]
            exact more (fun z => c4 z.2)
        · simp [c2, c3, i2, in_ints, wp_ret, wp_bnd, wp_itM, wp_itS, ad]
          exact more (fun z => c3 z.1)
      · simp [c2, wp_ret, wp_bnd, wp_itM, wp_itS]
        exact keep w3 hw3
  · rintro e w' ⟨hw', g, y17, y18, rfl, hg, hgd, hg2, hg3⟩
    exact ⟨g, y17, y18, rfl, hg, hgd, hw'⟩
/-- what the rows hold so far -/
structure RowsOk (m : Int) (ow : Nat) (cap : Nat) (rows : List (List Item)) : Prop where
  len : rows.length = ow
  it : ∀ r ∈ rows, ∀ i ∈ r, ItemOk m i
  tot : (rows.map List.length).sum ≤ cap
def addR (rows : List (List Item)) (j : Nat) (x : Item) : List (List Item) := rows.set j ((rows[j]?).getD [] ++ [x])
theorem sum_set {x : Item} : ∀ {rows : List (List Item)} {j : Nat}, j < rows.length → ((addR rows j x).map List.length).sum = (rows.map List.length).sum + 1
  | [], _, h => by simp at h
  | r :: rs, 0, h => by simp [addR]; omega
  | r :: rs, j + 1, h => by
    have := sum_set (x := x) (rows := rs) (j := j) (by simpa using h)
    unfold addR at *
    rw [List.set_cons_succ, List.getElem?_cons_succ, List.map_cons, List.sum_cons, List.map_cons, List.sum_cons, this]
    omega
theorem RowsOk.add {m : Int} {ow cap : Nat} {rows : List (List Item)} {j : Nat} {x : Item} (r : RowsOk m ow cap rows) (h : j < rows.length) (hx : ItemOk m x) : RowsOk m ow (cap + 1) (addR rows j x) := by
  refine ⟨by unfold addR; rw [List.length_set]; exact r.len, fun s hs i hi => ?_, by rw [sum_set h]; have := r.tot; omega⟩
  unfold addR at hs
  rcases List.mem_or_eq_of_mem_set hs with hs | rfl
  · exact r.it s hs i hi
  · rcases List.mem_append.mp hi with h2 | h2
    · rw [List.getElem?_eq_getElem h] at h2
      exact r.it _ (List.getElem_mem h) i h2
    · rcases List.mem_singleton.mp h2 with rfl; exact hx
/-- how many items of a kind -/
def cntR (f : Item → Bool) (rows : List (List Item)) : Nat := (rows.map fun r => r.countP f).sum
theorem cntR_add {f : Item → Bool} {x : Item} : ∀ {rows : List (List Item)} {j : Nat}, j < rows.length → cntR f (addR rows j x) = cntR f rows + if f x = true then 1 else 0
  | [], _, h => by simp at h
  | r :: rs, 0, h => by
    unfold cntR addR
    by_cases c : f x = true
    · simp [c]; omega
    · simp [c]
  | r :: rs, j + 1, h => by
    have := cntR_add (f := f) (x := x) (rows := rs) (j := j) (by simpa using h)
    unfold cntR addR at *
    rw [List.set_cons_succ, List.getElem?_cons_succ, List.map_cons, List.sum_cons, List.map_cons, List.sum_cons, this]
    omega
def isPut (s v : Int) : Item → Bool
  | .put s' v' _ => decide (s' = s) && decide (v' = v)
  | _ => false
def isTell (s : Int) : Item → Bool
  | .tell s' => decide (s' = s)
  | _ => false
/-- the rows, the deeds done so far, the signals told so far -/
structure RowsQ (m : Int) (ow cap : Nat) (st tw : List Int) (dn : List (Int × Int)) (told : List Int) (rows : List (List Item)) : Prop extends RowsOk m ow cap rows where
  pc : ∀ s v, cntR (isPut s v) rows = dn.count (s, v)
  tc : ∀ s, cntR (isTell s) rows = told.count s
  wt : ∀ r ∈ rows, ∀ s, Item.wait s ∈ r → s ∈ told
  gd : ∀ r ∈ rows, ∀ s v g, Item.put s v g ∈ r → GdOk st tw g
theorem mem_addR {rows : List (List Item)} {j : Nat} {x y : Item} (h : j < rows.length) {r : List Item} (hr : r ∈ addR rows j x) (hy : y ∈ r) : y = x ∨ ∃ r ∈ rows, y ∈ r := by
  unfold addR at hr
  rcases List.mem_or_eq_of_mem_set hr with hr | rfl
  · exact .inr ⟨r, hr, hy⟩
  · rcases List.mem_append.mp hy with h2 | h2
    · rw [List.getElem?_eq_getElem h] at h2
      exact .inr ⟨_, List.getElem_mem h, h2⟩
    · exact .inl (List.mem_singleton.mp h2)
section
variable {m : Int} {ow cap : Nat} {st tw told : List Int} {dn : List (Int × Int)} {rows : List (List Item)} {j : Nat}
theorem RowsQ.wait {s : Int} (r : RowsQ m ow cap st tw dn told rows) (h : j < rows.length) (hx : ItemOk m (.wait s)) (hs : s ∈ told) : RowsQ m ow (cap + 1) st tw dn told (addR rows j (.wait s)) := by
  refine ⟨r.toRowsOk.add h hx, fun a v => by rw [cntR_add h, r.pc]; simp [isPut], fun a => by rw [cntR_add h, r.tc]; simp [isTell], fun q hq a ha => ?_, fun q hq a v g ha => ?_⟩
  · rcases mem_addR h hq ha with e | ⟨q2, h2, h3⟩
    · cases e; exact hs
    · exact r.wt q2 h2 a h3
  · rcases mem_addR h hq ha with e | ⟨q2, h2, h3⟩
    · cases e
    · exact r.gd q2 h2 a v g h3
theorem RowsQ.put {s v : Int} {g : List (Int × Int)} (r : RowsQ m ow cap st tw dn told rows) (h : j < rows.length) (hx : ItemOk m (.put s v g)) (hg : GdOk st tw g) : RowsQ m ow (cap + 1) st tw (dn ++ [(s, v)]) told (addR rows j (.put s v g)) := by
  refine ⟨r.toRowsOk.add h hx, fun a b => ?_, fun a => by rw [cntR_add h, r.tc]; simp [isTell], fun q hq a ha => ?_, fun q hq a b g' ha => ?_⟩
  · rw [cntR_add h, r.pc, List.count_append]
    by_cases c1 : s = a
    · by_cases c2 : v = b
      · simp [isPut, c1, c2]
      · simp [isPut, c1, c2]
    · simp [isPut, c1]
  · rcases mem_addR h hq ha with e | ⟨q2, h2, h3⟩
    · cases e
    · exact r.wt q2 h2 a h3
  · rcases mem_addR h hq ha with e | ⟨q2, h2, h3⟩
    · cases e; exact hg
    · exact r.gd q2 h2 a b g' h3
theorem RowsQ.tell {s : Int} (r : RowsQ m ow cap st tw dn told rows) (h : j < rows.length) (hx : ItemOk m (.tell s)) : RowsQ m ow (cap + 1) st tw dn (told ++ [s]) (addR rows j (.tell s)) := by
  refine ⟨r.toRowsOk.add h hx, fun a v => by rw [cntR_add h, r.pc]; simp [isPut], fun a => ?_, fun q hq a ha => ?_, fun q hq a v g ha => ?_⟩
  · rw [cntR_add h, r.tc, List.count_append]
    by_cases c1 : s = a
    · simp [isTell, c1]
    · simp [isTell, c1]
  · rcases mem_addR h hq ha with e | ⟨q2, h2, h3⟩
    · cases e
    · exact List.mem_append_left _ (r.wt q2 h2 a h3)
  · rcases mem_addR h hq ha with e | ⟨q2, h2, h3⟩
    · cases e
    · exact r.gd q2 h2 a v g h3
theorem RowsQ.more {cap2 : Nat} (r : RowsQ m ow cap st tw dn told rows) (h : cap ≤ cap2) : RowsQ m ow cap2 st tw dn told rows :=
  ⟨⟨r.len, r.it, Nat.le_trans r.tot h⟩, r.pc, r.tc, r.wt, r.gd⟩
theorem RowsQ.cap_eq {cap2 : Nat} (r : RowsQ m ow cap st tw dn told rows) (h : cap = cap2) : RowsQ m ow cap2 st tw dn told rows := h ▸ r
end
/-- the signals told, in order -/
def TellSeq (told : List Int) : Prop := told = (List.range told.length).map fun (i : Nat) => 3 * (i : Int) + 1
theorem TellSeq.snoc {told : List Int} (h : TellSeq told) : TellSeq (told ++ [3 * (told.length : Int) + 1]) := by
  unfold TellSeq at *
  rw [List.length_append, List.length_singleton, List.range_succ, List.map_append, ← h]
  rfl
abbrev rowsD (rows : List (List Item)) : List (List D) := rows.map fun r => r.map Item.d
theorem rowAt_ok {rows : List (List Item)} {h : Int} (h0 : 0 ≤ h) (h1 : h.toNat < rows.length) : rowAt (rowsD rows) (.int h) = some (h.toNat, ((rows[h.toNat]?).getD []).map Item.d) := by
  rw [rowAt_int h0 (by simpa using h1)]
  simp [h1]
theorem appi_ok {rows : List (List Item)} {j : Nat} {x : Item} {env : Env} {m : Int} {ow cap : Nat} (r : RowsOk m ow cap rows) (h : j < rows.length) (hc : cap ≤ 1000) : appiB (rowsD rows) (j, ((rows[j]?).getD []).map Item.d) x.d env 11 = ret (.nx (env.set 11 (.ow2 (rowsD (addR rows j x))))) := by
  have hl : (((rows[j]?).getD []).map Item.d).length ≤ 1000 := by
    rw [List.getElem?_eq_getElem h, List.length_map]
    have := le_tot (List.getElem_mem h)
    have := r.tot
    simp
    omega
  rw [appiB_ok (lt_lim (Nat.le_trans hl (by decide)))]
  congr 3
  show Sl.ow2 _ = Sl.ow2 _
  congr 1
  unfold addR rowsD
  rw [List.map_set]
  simp
section
variable {mo ha : Int} {st tw sd told : List Int} {ds dn : List (Int × Int)} {m ow cap : Nat} {way sg sw sv h : Int} {rows : List (List Item)} {x5 x16 x17 x18 : Sl}
theorem put9 (hsd : sd.length = m) (hs : 0 ≤ sw ∧ sw < m) :
    putC (some (.ow (sd.map .int))) (e21 mo ha st tw ds m way ow sg x5 sd rows told (.fz (.int sw)) (.fz (.int sv)) x16 x17 x18) 9 (.int sw) (.int sv) = ret (.nx (e21 mo ha st tw ds m way ow sg x5 (sd.set sw.toNat sv) rows told (.fz (.int sw)) (.fz (.int sv)) x16 x17 x18)) := by
  have h2 : sw.toNat < (sd.map D.int).length := by simp; omega
  rw [putC_owI hs.1 h2, ← List.map_set]
  rfl
theorem app13 {x14 x15 : Sl} {v : Int} (h : told.length ≤ 2) : appB (told.map .int) (.int v) (e21 mo ha st tw ds m way ow sg x5 sd rows told x14 x15 x16 x17 x18) 13 = ret (.nx (e21 mo ha st tw ds m way ow sg x5 sd rows (told ++ [v]) x14 x15 x16 x17 x18)) := by
  rw [appB_ok (lt_lim (by simp; omega)), show told.map D.int ++ [D.int v] = (told ++ [v]).map .int by simp]
  rfl
theorem appi11 {x14 x15 : Sl} {x : Item} {j cap : Nat} (r : RowsOk m ow cap rows) (h : j < rows.length) (hc : cap ≤ 1000) : appiB (rowsD rows) (j, ((rows[j]?).getD []).map Item.d) x.d (e21 mo ha st tw ds m way ow sg x5 sd rows told x14 x15 x16 x17 x18) 11 = ret (.nx (e21 mo ha st tw ds m way ow sg x5 sd (addR rows j x) told x14 x15 x16 x17 x18)) := by
  rw [appi_ok r h hc]
  rfl
theorem tell_ok (b : Draw T) {w : Wd} (hw : RowOk ns w) (hsd : sd.length = m) (hs : 0 ≤ sw ∧ sw < m) (hsg : sg ≤ 2) (htv : ∀ s ∈ told, 0 ≤ s ∧ s ≤ 31)
    (hts : TellSeq told) (hr : RowsQ m ow (cap + told.length) st tw dn told rows) (hcap : cap ≤ 900) (h0 : 0 ≤ h) (h1 : h.toNat < rows.length) (ht2 : told.length ≤ 2) :
    wp (execs ⟨run T gl n (k + 3), gl, n⟩ tB (e21 mo ha st tw ds m way ow sg (.fz (.int h)) sd rows told (.fz (.int sw)) (.fz (.int sv)) x16 x17 x18)) w fun fl w' => ∃ rows' told', fl = .nx (e21 mo ha st tw ds m way ow sg (.fz (.int h)) (sd.set sw.toNat sv) rows' told' (.fz (.int sw)) (.fz (.int sv)) x16 x17 x18) ∧ RowOk ns w' ∧ (∀ s ∈ told', 0 ≤ s ∧ s ≤ 31) ∧ told'.length ≤ 2 ∧ TellSeq told' ∧ RowsQ m ow (cap + told'.length) st tw dn told' rows' := by
  by_cases c1 : (told.length : Int) < sg
  · simp [wp_bnd, wp_ret, wp_seq, wp_itS, wp_itM, c1]
    refine wp_mono (taken_ok b hw (by decide) (by decide)) fun d w1 ⟨r, e, r0, r1, hw1⟩ => ?_
    subst e
    by_cases c2 : r = 0
    · have hsm : smallI (told.length : Int) = true := by
        unfold smallI
        simp only [Bool.and_eq_true, decide_eq_true_eq]
        omega
      simp [c2, wp_bnd, wp_ret, wp_seq, wp_itS, wp_itM, mul_small hsm]
      refine wp_of_eq (app13 ht2) ?_
      have ht : ItemOk m (.tell (3 * (told.length : Int) + 1)) := ⟨by omega, by omega⟩
      simp [wp_bnd, wp_ret, wp_seq, wp_itS, wp_itM, ix_last, rowAt_ok h0 h1]
      refine wp_of_eq (appi11 (x := .tell (3 * (told.length : Int) + 1)) hr.toRowsOk h1 (by omega)) ?_
      simp [wp_bnd, wp_ret, wp_seq, wp_itS, wp_itM]
      refine wp_of_eq (put9 hsd hs) ?_
      simp [wp_bnd, wp_ret, wp_seq, wp_itS, wp_itM]
      refine ⟨_, told ++ [3 * (told.length : Int) + 1], ⟨rfl, by simp⟩, hw1, ?_, ?_, hts.snoc, (hr.tell h1 ht).cap_eq (by simp [Nat.add_assoc])⟩
      · intro s hs'
        rcases List.mem_append.mp hs' with h2 | h2
        · exact htv s h2
        · rcases List.mem_singleton.mp h2 with rfl; omega
      · simp; omega
    · simp [c2, wp_bnd, wp_ret, wp_seq, wp_itS, wp_itM]
      rw [put9 hsd hs]
      simp [wp_ret, wp_bnd, wp_seq]
      exact ⟨rows, told, ⟨rfl, rfl⟩, hw1, htv, ht2, hts, hr⟩
  · simp [wp_bnd, wp_ret, wp_seq, wp_itS, wp_itM, c1]
    rw [put9 hsd hs]
    simp [wp_ret, wp_bnd, wp_seq]
    exact ⟨rows, told, ⟨rfl, rfl⟩, hw, htv, ht2, hts, hr⟩
/-- from the set on -/
theorem set_ok (b : Draw T) {w : Wd} (hw : RowOk ns w) (hsd : sd.length = m) (hs : 0 ≤ sw ∧ sw < m ∧ 0 ≤ sv ∧ sv ≤ 1) (hsg : sg ≤ 2) (htv : ∀ s ∈ told, 0 ≤ s ∧ s ≤ 31) {g : List (Int × Int)} (hg : GuardOk sw m (-1) g) (hgd : GdOk st tw g)
    (hts : TellSeq told) (hr : RowsQ m ow (cap + told.length) st tw dn told rows) (hcap : cap ≤ 800) (h0 : 0 ≤ h) (h1 : h.toNat < rows.length) (ht2 : told.length ≤ 2) :
    wp (execs ⟨run T gl n (k + 3), gl, n⟩ rB (e21 mo ha st tw ds m way ow sg (.fz (.int h)) sd rows told (.fz (.int sw)) (.fz (.int sv)) (.fz (.tup (g.map pairD))) x17 x18)) w fun fl w' => ∃ rows' told', fl = .nx (e21 mo ha st tw ds m way ow sg (.fz (.int h)) (sd.set sw.toNat sv) rows' told' (.fz (.int sw)) (.fz (.int sv)) (.fz (.tup (g.map pairD))) x17 x18) ∧ RowOk ns w' ∧ (∀ s ∈ told', 0 ≤ s ∧ s ≤ 31) ∧ told'.length ≤ 2 ∧ TellSeq told' ∧ RowsQ m ow (cap + 1 + told'.length) st tw (dn ++ [(sw, sv)]) told' rows' := by
  have hx : ItemOk m (.put sw sv g) := ⟨hs.1, hs.2.1, hs.2.2.1, hs.2.2.2, hg⟩
  rw [show execs ⟨run T gl n (k + 3), gl, n⟩ rB = fun e => seqM (exec ⟨run T gl n (k + 3), gl, n⟩ (.appi 11 (.var 5) (.tup (.cons (.str ⟨#[115, 101, 116]⟩) (.cons (.var 14) (.cons (.var 15) (.cons (.var 16) .nil)))))) e) (execs ⟨run T gl n (k + 3), gl, n⟩ tB) from rfl]
  simp only [wp_seq]
  simp [wp_bnd, wp_ret, wp_itS, wp_itM, rowAt_ok h0 h1]
  refine wp_of_eq (appi11 (x := .put sw sv g) hr.toRowsOk h1 (by omega)) ?_
  have hr2 := hr.put h1 hx hgd
  show wp (execs ⟨run T gl n (k + 3), gl, n⟩ tB _) w _
  refine tell_ok (cap := cap + 1) b hw hsd ⟨hs.1, hs.2.1⟩ hsg htv hts ?_ (by omega) h0 (by rw [hr2.len]; rw [hr.len] at h1; exact h1) ht2
  have e : cap + told.length + 1 = cap + 1 + told.length := by omega
  exact hr2.cap_eq e
/-- one deed more -/
theorem deed_ok (b : Draw T) {w : Wd} (hw : RowOk ns w) {x15 x16 x17 x18 : Sl} (hst : st.length = m) (hsd : sd.length = m) (hsd2 : ∀ v ∈ sd, 0 ≤ v ∧ v ≤ 1) (hm : m ≤ 8) (how : 1 ≤ ow ∧ ow ≤ 4) (hsg : sg ≤ 2) (htv : ∀ s ∈ told, 0 ≤ s ∧ s ≤ 31) (ht2 : told.length ≤ 2)
    (hts : TellSeq told) (hr : RowsQ m ow (cap + told.length) st tw dn told rows) (hcap : cap ≤ 700) (hs : 0 ≤ sw ∧ sw < m ∧ 0 ≤ sv ∧ sv ≤ 1) :
    wp (execs ⟨run T gl n (k + 3), gl, n⟩ dB (e21 mo ha st tw ds m way ow sg x5 sd rows told (.fz (.int sw)) (.fz (.int sv)) x16 x17 x18)) w fun fl w' => ∃ y5 y14 y15 y16 y17 y18 sd' rows' told', fl = .nx (e21 mo ha st tw ds m way ow sg y5 sd' rows' told' y14 y15 y16 y17 y18) ∧ RowOk ns w' ∧ sd'.length = m ∧ (∀ v ∈ sd', 0 ≤ v ∧ v ≤ 1) ∧ (∀ s ∈ told', 0 ≤ s ∧ s ≤ 31) ∧ told'.length ≤ 2 ∧ TellSeq told' ∧ RowsQ m ow (cap + 2 + told'.length) st tw (dn ++ [(sw, sv)]) told' rows' := by
  simp [wp_bnd, wp_ret, wp_seq, wp_itS, wp_itM, rng_nat (show m ≤ 1000000 by omega)]
  refine wp_mono (guard_loop b hw hst hsd hsd2 hm) fun fl w1 ⟨g, y17, y18, e, hg, hgd, hw1⟩ => ?_
  subst e
  have hset : exec ⟨run T gl n (k + 3), gl, n⟩ (.set 5 (.call 450624087419674289726830 (.cons (.var 0) (.cons (.var 10) .nil)))) (e21 mo ha st tw ds m way ow sg x5 sd rows told (.fz (.int sw)) (.fz (.int sv)) (.fz (.tup (g.map pairD))) y17 y18) = bnd (run T gl n (k + 3) 450624087419674289726830 [.obj 0, .int ow]) fun d => ret (.nx (e21 mo ha st tw ds m way ow sg (.fz d) sd rows told (.fz (.int sw)) (.fz (.int sv)) (.fz (.tup (g.map pairD))) y17 y18)) := by
    simp
  show wp (seqM (exec ⟨run T gl n (k + 3), gl, n⟩ (.set 5 (.call 450624087419674289726830 (.cons (.var 0) (.cons (.var 10) .nil)))) (e21 mo ha st tw ds m way ow sg x5 sd rows told (.fz (.int sw)) (.fz (.int sv)) (.fz (.tup (g.map pairD))) y17 y18)) (execs ⟨run T gl n (k + 3), gl, n⟩ wB)) w1 _
  rw [hset]
  refine wp_seq.mpr (wp_bnd.mpr (wp_mono (taken_ok b hw1 (by omega) (by omega)) fun d w2 ⟨h, e, h0, h1, hw2⟩ => ?_))
  subst e
  have hh : h.toNat < rows.length := by rw [hr.len]; omega
  have fin : ∀ {w3 : Wd} {rows2 : List (List Item)}, RowOk ns w3 → RowsQ m ow (cap + 1 + told.length) st tw dn told rows2 → wp (execs ⟨run T gl n (k + 3), gl, n⟩ rB (e21 mo ha st tw ds m way ow sg (.fz (.int h)) sd rows2 told (.fz (.int sw)) (.fz (.int sv)) (.fz (.tup (g.map pairD))) y17 y18)) w3 fun fl w' => ∃ y5 y14 y15 y16 y17 y18 sd' rows' told', fl = .nx (e21 mo ha st tw ds m way ow sg y5 sd' rows' told' y14 y15 y16 y17 y18) ∧ RowOk ns w' ∧ sd'.length = m ∧ (∀ v ∈ sd', 0 ≤ v ∧ v ≤ 1) ∧ (∀ s ∈ told', 0 ≤ s ∧ s ≤ 31) ∧ told'.length ≤ 2 ∧ TellSeq told' ∧ RowsQ m ow (cap + 2 + told'.length) st tw (dn ++ [(sw, sv)]) told' rows' := fun {w3 rows2} hw3 hr3 =>
    wp_mono (set_ok (cap := cap + 1) b hw3 hsd hs hsg htv hg hgd hts hr3 (by omega) h0 (by rw [hr3.len]; omega) ht2) fun fl w4 ⟨rows', told', e, q1, q2, q3, q5, q4⟩ =>
      ⟨_, _, _, _, _, _, _, rows', told', e, q1, by simp [hsd], fun v hv => by
        rcases List.mem_or_eq_of_mem_set hv with hv | rfl
        · exact hsd2 v hv
        · exact hs.2.2, q2, q3, q5, q4⟩
  refine wp_ret.mpr ?_
  show wp (execs ⟨run T gl n (k + 3), gl, n⟩ wB (e21 mo ha st tw ds m way ow sg (.fz (.int h)) sd rows told (.fz (.int sw)) (.fz (.int sv)) (.fz (.tup (g.map pairD))) y17 y18)) w2 _
  have hcond : ∀ K : D → Wd → Prop, (∀ x w3, RowOk ns w3 → (x = true → told ≠ []) → K (.bl x) w3) → wp (ev ⟨run T gl n (k + 3), gl, n⟩ wC .t (e21 mo ha st tw ds m way ow sg (.fz (.int h)) sd rows told (.fz (.int sw)) (.fz (.int sv)) (.fz (.tup (g.map pairD))) y17 y18)) w2 K := by
    intro K hK
    simp [wp_bnd, wp_ret, wp_seq, wp_itS, wp_itM, cmp_ne_nil (show D.ok dpt (.lst (told.map .int)) = true from allOk_ints)]
    by_cases c : told = []
    · simp [c]
      exact wp_ret.mpr (hK false w2 hw2 (fun z => nomatch z))
    · simp [c, wp_bnd]
      refine wp_mono (taken_ok b hw2 (by decide) (by decide)) fun d w3 ⟨r, e, r0, r1, hw3⟩ => ?_
      subst e
      simp [wp_ret]
      exact hK _ w3 hw3 (fun _ => c)
  refine wp_seq.mpr (wp_itS.mpr (hcond _ fun x w3 hw3 hx => ?_))
  rw [condW_bl]
  cases x with
  | false =>
    rw [if_neg (by decide)]
    refine wp_ret.mpr ?_
    exact fin hw3 (hr.more (by omega))
  | true =>
    have hne := hx rfl
    have hwait : wp (execs ⟨run T gl n (k + 3), gl, n⟩ wA (e21 mo ha st tw ds m way ow sg (.fz (.int h)) sd rows told (.fz (.int sw)) (.fz (.int sv)) (.fz (.tup (g.map pairD))) y17 y18)) w3 fun fl w' => ∃ rows2, fl = .nx (e21 mo ha st tw ds m way ow sg (.fz (.int h)) sd rows2 told (.fz (.int sw)) (.fz (.int sv)) (.fz (.tup (g.map pairD))) y17 y18) ∧ RowOk ns w' ∧ RowsQ m ow (cap + 1 + told.length) st tw dn told rows2 := by
      simp [wp_bnd, wp_ret, wp_seq, wp_itS, wp_itM, rowAt_ok h0 hh]
      refine wp_mono (pick_ok b hw3 (by simpa using hne) (by simp; omega)) fun d w4 ⟨hd, hw4⟩ => ?_
      obtain ⟨s, hs', rfl⟩ := List.mem_map.mp hd
      refine wp_of_eq (appi11 (x := .wait s) hr.toRowsOk hh (by omega)) ?_
      have hr2 := hr.wait hh (htv s hs') hs'
      have e : cap + told.length + 1 = cap + 1 + told.length := by omega
      exact ⟨_, rfl, hw4, hr2.cap_eq e⟩
    rw [if_pos rfl]
    refine wp_mono hwait fun fl w4 ⟨rows2, e, hw4, hr4⟩ => ?_
    subst e
    exact fin hw4 hr4
end
end VI

set_option Elab.async false
set_option linter.all false
set_option maxRecDepth 100000
set_option maxHeartbeats 2000000
namespace VI
open PySem
variable {T : Tbl} {gl : Nat → Option D} {n k : Nat} {ns : List Int}
abbrev fB : Ss := (.frz [11] (.cons (.ret (.tup (.cons (.var 3) (.cons (.blt .tuple (.comp (.one 20) (.seq (.var 11)) .none (.blt .tuple (.var 20)))) .nil)))) .nil))
abbrev vB : Ss := (.cons (.ite (.and (.cmp .eq (.var 7) (.int 1)) (.cmp .gt (.var 10) (.int 1))) (.frz1 11 (.cons (.put 11 (.int 0) (.rev (.ix (.bor 11) (.int 0)))) .nil)) .nil) (.frz [11] (.cons (.ret (.tup (.cons (.var 3) (.cons (.blt .tuple (.comp (.one 20) (.seq (.var 11)) .none (.blt .tuple (.var 20)))) .nil)))) .nil)))
abbrev zB : Ss := (.cons (.for_ (.many [14, 15]) (.seq (.var 8)) (.cons (.set 16 (.tup .nil)) (.cons (.for_ (.one 17) (.rng1 (.var 6)) (.cons (.set 18 (.ite (.or (.cmp .gt (.var 7) (.int 0)) (.cmp .gt (.call 450624087419674289726830 (.cons (.var 0) (.cons (.int 3) .nil))) (.int 0))) (.ix (.bor 9) (.var 17)) (.bin .sub (.int 1) (.ix (.bor 9) (.var 17))))) (.cons (.ite (.and (.cmp .ne (.var 17) (.var 14)) (.and (.cmp .eq (.call 450624087419674289726830 (.cons (.var 0) (.cons (.int 3) .nil))) (.int 0)) (.not (.and (.cmp .isin (.var 17) (.var 4)) (.cmp .eq (.var 18) (.ix (.var 3) (.var 17))))))) (.cons (.set 16 (.bin .add (.var 16) (.tup (.cons (.tup (.cons (.var 17) (.cons (.var 18) .nil))) .nil)))) .nil) .nil) .nil))) (.cons (.set 5 (.call 450624087419674289726830 (.cons (.var 0) (.cons (.var 10) .nil)))) (.cons (.ite (.and (.cmp .ne (.bor 13) (.lst .nil)) (.cmp .eq (.call 450624087419674289726830 (.cons (.var 0) (.cons (.int 3) .nil))) (.int 0))) (.cons (.appi 11 (.var 5) (.tup (.cons (.str ⟨#[119, 97, 105, 116]⟩) (.cons (.call 1760250341483036107627 (.cons (.var 0) (.cons (.bor 13) .nil))) .nil)))) .nil) .nil) (.cons (.appi 11 (.var 5) (.tup (.cons (.str ⟨#[115, 101, 116]⟩) (.cons (.var 14) (.cons (.var 15) (.cons (.var 16) .nil)))))) (.cons (.ite (.and (.cmp .lt (.blt .len (.bor 13)) (.var 12)) (.cmp .eq (.call 450624087419674289726830 (.cons (.var 0) (.cons (.int 2) .nil))) (.int 0))) (.cons (.app 13 (.bin .add (.bin .mul (.int 3) (.blt .len (.bor 13))) (.int 1))) (.cons (.appi 11 (.var 5) (.tup (.cons (.str ⟨#[116, 101, 108, 108]⟩) (.cons (.ix (.bor 13) (.neg (.int 1))) .nil)))) .nil)) .nil) (.cons (.put 9 (.var 14) (.var 15)) .nil)))))))) (.cons (.ite (.and (.cmp .eq (.var 7) (.int 1)) (.cmp .gt (.var 10) (.int 1))) (.frz1 11 (.cons (.put 11 (.int 0) (.rev (.ix (.bor 11) (.int 0)))) .nil)) .nil) (.frz [11] (.cons (.ret (.tup (.cons (.var 3) (.cons (.blt .tuple (.comp (.one 20) (.seq (.var 11)) .none (.blt .tuple (.var 20)))) .nil)))) .nil))))
abbrev oB : Ss := (.cons (.for_ (.one 5) (.rng1 (.var 10)) (.cons (.app2 11) .nil)) (.cons (.par [(12, 0), (13, 1)] (.cons (.call 450624087419674289726830 (.cons (.var 0) (.cons (.int 3) .nil))) (.cons (.lst .nil) .nil))) (.cons (.for_ (.many [14, 15]) (.seq (.var 8)) (.cons (.set 16 (.tup .nil)) (.cons (.for_ (.one 17) (.rng1 (.var 6)) (.cons (.set 18 (.ite (.or (.cmp .gt (.var 7) (.int 0)) (.cmp .gt (.call 450624087419674289726830 (.cons (.var 0) (.cons (.int 3) .nil))) (.int 0))) (.ix (.bor 9) (.var 17)) (.bin .sub (.int 1) (.ix (.bor 9) (.var 17))))) (.cons (.ite (.and (.cmp .ne (.var 17) (.var 14)) (.and (.cmp .eq (.call 450624087419674289726830 (.cons (.var 0) (.cons (.int 3) .nil))) (.int 0)) (.not (.and (.cmp .isin (.var 17) (.var 4)) (.cmp .eq (.var 18) (.ix (.var 3) (.var 17))))))) (.cons (.set 16 (.bin .add (.var 16) (.tup (.cons (.tup (.cons (.var 17) (.cons (.var 18) .nil))) .nil)))) .nil) .nil) .nil))) (.cons (.set 5 (.call 450624087419674289726830 (.cons (.var 0) (.cons (.var 10) .nil)))) (.cons (.ite (.and (.cmp .ne (.bor 13) (.lst .nil)) (.cmp .eq (.call 450624087419674289726830 (.cons (.var 0) (.cons (.int 3) .nil))) (.int 0))) (.cons (.appi 11 (.var 5) (.tup (.cons (.str ⟨#[119, 97, 105, 116]⟩) (.cons (.call 1760250341483036107627 (.cons (.var 0) (.cons (.bor 13) .nil))) .nil)))) .nil) .nil) (.cons (.appi 11 (.var 5) (.tup (.cons (.str ⟨#[115, 101, 116]⟩) (.cons (.var 14) (.cons (.var 15) (.cons (.var 16) .nil)))))) (.cons (.ite (.and (.cmp .lt (.blt .len (.bor 13)) (.var 12)) (.cmp .eq (.call 450624087419674289726830 (.cons (.var 0) (.cons (.int 2) .nil))) (.int 0))) (.cons (.app 13 (.bin .add (.bin .mul (.int 3) (.blt .len (.bor 13))) (.int 1))) (.cons (.appi 11 (.var 5) (.tup (.cons (.str ⟨#[116, 101, 108, 108]⟩) (.cons (.ix (.bor 13) (.neg (.int 1))) .nil)))) .nil)) .nil) (.cons (.put 9 (.var 14) (.var 15)) .nil)))))))) (.cons (.ite (.and (.cmp .eq (.var 7) (.int 1)) (.cmp .gt (.var 10) (.int 1))) (.frz1 11 (.cons (.put 11 (.int 0) (.rev (.ix (.bor 11) (.int 0)))) .nil)) .nil) (.frz [11] (.cons (.ret (.tup (.cons (.var 3) (.cons (.blt .tuple (.comp (.one 20) (.seq (.var 11)) .none (.blt .tuple (.var 20)))) .nil)))) .nil))))))
section
variable {mo ha : Int} {st tw sd told : List Int} {ds dn : List (Int × Int)} {m ow : Nat} {way sg : Int} {rows : List (List Item)} {x5 x14 x15 x16 x17 x18 : Sl} {G : Glo}
abbrev e21f (mo ha : Int) (st tw : List Int) (ds : List (Int × Int)) (m : Nat) (way ow sg : Int) (x5 : Sl) (sd : List Int) (x11 : Sl) (told : List Int) (x14 x15 x16 x17 x18 : Sl) : Env :=
  [.fz (.obj 0), .fz (.int mo), .fz (.int ha), .fz (.tup (st.map .int)), .fz (.lst (tw.map .int)), x5, .fz (.int m), .fz (.int way), .fz (.lst (ds.map pairD)), .ow (sd.map .int), .fz (.int ow), x11, .fz (.int sg), .ow (told.map .int), x14, x15, x16, x17, x18, .no, .no]
theorem end_ok {x11 : Sl} {w : Wd} (h : x11.freeze = .fz (.lst ((rowsD rows).map .lst))) (hs : x11 ≠ .no) (hl : rows.length ≤ 1000) : wp (execs G fB (e21f mo ha st tw ds m way ow sg x5 sd x11 told x14 x15 x16 x17 x18)) w fun fl w' => fl = .rt (Prog.d ⟨st, rows⟩) ∧ w' = w := by
  have hf : frzO (some x11) (e21f mo ha st tw ds m way ow sg x5 sd x11 told x14 x15 x16 x17 x18) 11 = e21f mo ha st tw ds m way ow sg x5 sd (.fz (.lst ((rowsD rows).map .lst))) told x14 x15 x16 x17 x18 := by
    show List.set _ _ (x11.freeze) = _
    rw [h]
    rfl
  have hm : (rowsD rows).map D.lst = rows.map fun r => D.lst (r.map Item.d) := by simp
  simp [wp_bnd, wp_ret, wp_seq]
  rw [hf, hm]
  simp [wp_bnd, wp_ret, wp_seq]
  rw [mapM_pureL (h := fun r => some (rowD r)) fun r hr => by simp [rowD]]
  simp [le_lim (show rows.length ≤ 1000000 by omega), wp_ret, wp_bnd, Prog.d]
theorem rev_rows {cap : Nat} {r0 : List Item} {rs : List (List Item)} (hr : RowsQ m ow cap st tw dn told (r0 :: rs)) : RowsQ m ow cap st tw dn told (r0.reverse :: rs) := by
  refine ⟨⟨by simpa using hr.len, fun r h i hi => ?_, by have := hr.tot; simpa using this⟩, fun s v => ?_, fun s => ?_, fun r h s hs => ?_, fun r h s v g hs => ?_⟩
  · rcases List.mem_cons.mp h with rfl | h
    · exact hr.it r0 (.head _) i (by simpa using hi)
    · exact hr.it r (.tail _ h) i hi
  · rw [← hr.pc]; simp [cntR]
  · rw [← hr.tc]; simp [cntR]
  · rcases List.mem_cons.mp h with rfl | h
    · exact hr.wt r0 (.head _) s (by simpa using hs)
    · exact hr.wt r (.tail _ h) s hs
  · rcases List.mem_cons.mp h with rfl | h
    · exact hr.gd r0 (.head _) s v g (by simpa using hs)
    · exact hr.gd r (.tail _ h) s v g hs
theorem turn_ok {w : Wd} {cap : Nat} (hr : RowsQ m ow cap st tw dn told rows) (hm : m ≤ 8) (how : 1 ≤ ow ∧ ow ≤ 4) : wp (execs G vB (e21 mo ha st tw ds m way ow sg x5 sd rows told x14 x15 x16 x17 x18)) w fun fl w' => ∃ rows', fl = .rt (Prog.d ⟨st, rows'⟩) ∧ w' = w ∧ RowsQ m ow cap st tw dn told rows' := by
  have same : wp (execs G fB (e21 mo ha st tw ds m way ow sg x5 sd rows told x14 x15 x16 x17 x18)) w fun fl w' => ∃ rows', fl = .rt (Prog.d ⟨st, rows'⟩) ∧ w' = w ∧ RowsQ m ow cap st tw dn told rows' :=
    wp_mono (end_ok (x11 := .ow2 (rowsD rows)) rfl (fun z => nomatch z) (by rw [hr.len]; omega)) fun fl w' ⟨e, e2⟩ => ⟨rows, e, e2, hr⟩
  obtain ⟨r0, rs, e0⟩ : ∃ r0 rs, rows = r0 :: rs := by
    have := hr.len
    cases q : rows with
    | nil => rw [q] at this; simp at this; omega
    | cons a l => exact ⟨a, l, rfl⟩
  have rev : wp (execs G fB (e21f mo ha st tw ds m way ow sg x5 sd (.ow ((rowsD (r0.reverse :: rs)).map .lst)) told x14 x15 x16 x17 x18)) w fun fl w' => ∃ rows', fl = .rt (Prog.d ⟨st, rows'⟩) ∧ w' = w ∧ RowsQ m ow cap st tw dn told rows' :=
    wp_mono (end_ok (x11 := .ow ((rowsD (r0.reverse :: rs)).map .lst)) rfl (fun z => nomatch z) (by have := hr.len; rw [e0] at this; simp at this ⊢; omega)) fun fl w' ⟨e, e2⟩ => ⟨r0.reverse :: rs, e, e2, by
      subst e0
      exact rev_rows hr⟩
  rw [show execs G vB = fun e => seqM (exec G (.ite (.and (.cmp .eq (.var 7) (.int 1)) (.cmp .gt (.var 10) (.int 1))) (.frz1 11 (.cons (.put 11 (.int 0) (.rev (.ix (.bor 11) (.int 0)))) .nil)) .nil) e) (execs G fB) from rfl]
  simp only [wp_seq]
  by_cases c : way = 1 ∧ 1 < (ow : Int)
  · obtain ⟨rfl, c2⟩ := c
    subst e0
    have e : ((rowsD (r0.reverse :: rs)).map D.lst) = D.lst (r0.map Item.d).reverse :: rs.map (D.lst ∘ fun r => r.map Item.d) := by simp
    rw [e] at rev
    simp [c2, wp_bnd, wp_ret]
    rw [putC_owI (by decide) (by simp)]
    refine wp_seq.mpr (wp_ret.mpr (wp_ret.mpr ?_))
    exact rev
  · simp [wp_bnd, wp_ret]
    rw [if_neg c]
    exact wp_ret.mpr same
end
end VI

set_option Elab.async false
set_option linter.all false
set_option maxRecDepth 100000
set_option maxHeartbeats 2000000
namespace VI
open PySem
variable {T : Tbl} {gl : Nat → Option D} {n k : Nat} {ns : List Int}
/-- a program as it is drawn: its deeds, which are set twice, its signals -/
structure Drawn (mo ha : Int) (p : Prog) : Prop where
  ok : ProgOk p
  m : (p.start.length : Int) ≤ mo
  h : (p.rows.length : Int) ≤ ha
  how : ∃ (ds : List (Int × Int)) (tw told : List Int), RowsQ p.start.length p.rows.length 22 p.start tw ds told p.rows ∧ TellSeq told ∧ AltOk p.start ds ∧ (∀ q ∈ ds, 0 ≤ q.1 ∧ q.1 < (p.start.length : Int)) ∧ ∀ s : Nat, s < p.start.length → 1 < (ds.map (·.1)).count (s : Int) → (s : Int) ∈ tw
section
variable {mo ha : Int} {st tw : List Int} {ds : List (Int × Int)} {m ow : Nat} {way sg : Int} {x5 : Sl}
theorem loop_ok (b : Draw T) {w : Wd} (hw : RowOk ns w) (hst : st.length = m) (hst2 : ∀ v ∈ st, 0 ≤ v ∧ v ≤ 1) (hm0 : 1 ≤ m) (hm : m ≤ 5) (how : 1 ≤ ow ∧ ow ≤ 4) (hsg : sg ≤ 2) (hds : ∀ q ∈ ds, 0 ≤ q.1 ∧ q.1 < (m : Int) ∧ 0 ≤ q.2 ∧ q.2 ≤ 1) (hdl : ds.length ≤ 10) (hmo : (m : Int) ≤ mo) (hha : (ow : Int) ≤ ha) (halt : AltOk st ds) (htw : ∀ s : Nat, s < m → 1 < (ds.map (·.1)).count (s : Int) → (s : Int) ∈ tw) :
    wp (execs ⟨run T gl n (k + 3), gl, n⟩ zB (e21 mo ha st tw ds m way ow sg x5 st (List.replicate ow []) [] .no .no .no .no .no)) w fun fl w' => ∃ p : Prog, fl = .rt p.d ∧ Drawn mo ha p ∧ RowOk ns w' := by
  rw [show execs ⟨run T gl n (k + 3), gl, n⟩ zB = fun e => seqM (exec ⟨run T gl n (k + 3), gl, n⟩ (.for_ (.many [14, 15]) (.seq (.var 8)) dB) e) (execs ⟨run T gl n (k + 3), gl, n⟩ vB) from rfl]
  simp only [wp_seq]
  rw [show exec ⟨run T gl n (k + 3), gl, n⟩ (.for_ (.many [14, 15]) (.seq (.var 8)) dB) (e21 mo ha st tw ds m way ow sg x5 st (List.replicate ow []) [] .no .no .no .no .no) = forL (.many [14, 15]) (execs ⟨run T gl n (k + 3), gl, n⟩ dB) (ds.map pairD) (e21 mo ha st tw ds m way ow sg x5 st (List.replicate ow []) [] .no .no .no .no .no) from rfl]
  refine wp_forL2 (fun dn e w' => RowOk ns w' ∧ ∃ y5 y14 y15 y16 y17 y18 sd rows told, e = e21 mo ha st tw ds m way ow sg y5 sd rows told y14 y15 y16 y17 y18 ∧ sd.length = m ∧ (∀ v ∈ sd, 0 ≤ v ∧ v ≤ 1) ∧ (∀ s ∈ told, 0 ≤ s ∧ s ≤ 31) ∧ told.length ≤ 2 ∧ TellSeq told ∧ RowsQ m ow (2 * dn.length + told.length) st tw dn told rows) ?_ ?_ ?_
  · refine ⟨hw, _, _, _, _, _, _, st, List.replicate ow [], [], rfl, hst, hst2, (fun _ h => nomatch h), by simp, rfl, ⟨⟨by simp, fun r hr i hi => ?_, by simp⟩, fun s v => by simp [cntR], fun s => by simp [cntR], fun r hr s hs => ?_, fun r hr s v g hs => ?_⟩⟩
    · rw [(List.mem_replicate.mp hr).2] at hi
      cases hi
    · rw [(List.mem_replicate.mp hr).2] at hs
      cases hs
    · rw [(List.mem_replicate.mp hr).2] at hs
      cases hs
  · rintro dn q rr env w' hdn ⟨hw', y5, y14, y15, y16, y17, y18, sd, rows, told, rfl, h1, h2, h3, h4, hts, h5⟩
    have hq : q ∈ ds := by rw [← hdn]; simp
    have hl : dn.length ≤ 10 := by rw [← hdn] at hdl; simp at hdl; omega
    refine ⟨e21 mo ha st tw ds m way ow sg y5 sd rows told (.fz (.int q.1)) (.fz (.int q.2)) y16 y17 y18, rfl, ?_⟩
    have hd := deed_ok (gl := gl) (n := n) (k := k) (mo := mo) (ha := ha) (tw := tw) (ds := ds) (way := way) (x5 := y5) (x15 := y15) (x16 := y16) (x17 := y17) (x18 := y18) (cap := 2 * dn.length) b hw' hst h1 h2 (by omega) how hsg h3 h4 hts h5 (by omega) (hds q hq)
    refine wp_mono hd ?_
    rintro fl w2 ⟨z5, z14, z15, z16, z17, z18, sd', rows', told', e, g1, g2, g3, g4, g5, g7, g6⟩
    subst e
    refine ⟨g1, z5, z14, z15, z16, z17, z18, sd', rows', told', rfl, g2, g3, g4, g5, g7, ?_⟩
    rw [List.length_append]
    have e : 2 * dn.length + 2 + told'.length = 2 * (dn.length + [q].length) + told'.length := by simp; omega
    exact g6.cap_eq e
  · rintro e w' ⟨hw', y5, y14, y15, y16, y17, y18, sd, rows, told, rfl, h1, h2, h3, h4, hts, h5⟩
    have h6 := h5.more (cap2 := 22) (by omega)
    refine wp_mono (turn_ok h6 (by omega) how) fun fl w2 ⟨rows', e, e2, r⟩ => ?_
    subst e2
    have l1 := r.len
    have tt := r.tot
    refine ⟨⟨st, rows'⟩, e, ⟨⟨by rw [hst]; exact hm0, by rw [hst]; omega, hst2, by rw [l1]; omega, by rw [l1]; omega, ?_, by rw [hst]; exact r.it⟩, by rw [hst]; exact hmo, by rw [l1]; exact hha, ds, tw, told, ?_, hts, halt, ?_, ?_⟩, hw'⟩
    · show (rows'.map List.length).sum ≤ 24
      omega
    · show RowsQ (st.length : Int) rows'.length 22 st tw ds told rows'
      rw [hst, l1]; exact r
    · show ∀ q ∈ ds, 0 ≤ q.1 ∧ q.1 < (st.length : Int)
      rw [hst]
      exact fun q hq => ⟨(hds q hq).1, (hds q hq).2.1⟩
    · show ∀ s : Nat, s < st.length → _
      rw [hst]; exact htw
theorem rows_ok (b : Draw T) {w : Wd} (hw : RowOk ns w) (hst : st.length = m) (hst2 : ∀ v ∈ st, 0 ≤ v ∧ v ≤ 1) (hm0 : 1 ≤ m) (hm : m ≤ 5) (how : 1 ≤ ow ∧ ow ≤ 4) (hds : ∀ q ∈ ds, 0 ≤ q.1 ∧ q.1 < (m : Int) ∧ 0 ≤ q.2 ∧ q.2 ≤ 1) (hdl : ds.length ≤ 10) (hmo : (m : Int) ≤ mo) (hha : (ow : Int) ≤ ha) (halt : AltOk st ds) (htw : ∀ s : Nat, s < m → 1 < (ds.map (·.1)).count (s : Int) → (s : Int) ∈ tw) {Q : Flow → Wd → Prop} (hQ : ∀ (p : Prog) w', Drawn mo ha p → RowOk ns w' → Q (.rt p.d) w') :
    wp (forL (.one 5) (execs ⟨run T gl n (k + 3), gl, n⟩ (.cons (.app2 11) .nil)) ((List.range ow).map fun (i : Nat) => D.int (i : Int)) [.fz (.obj 0), .fz (.int mo), .fz (.int ha), .fz (.tup (st.map .int)), .fz (.lst (tw.map .int)), x5, .fz (.int m), .fz (.int way), .fz (.lst (ds.map pairD)), .ow (st.map .int), .fz (.int ow), .ow2 [], .no, .no, .no, .no, .no, .no, .no, .no, .no]) w (contW (execs ⟨run T gl n (k + 3), gl, n⟩ (.cons (.par [(12, 0), (13, 1)] (.cons (.call 450624087419674289726830 (.cons (.var 0) (.cons (.int 3) .nil))) (.cons (.lst .nil) .nil))) zB)) Q) := by
  refine wp_forL2 (fun dn e w' => RowOk ns w' ∧ ∃ y5, e = [.fz (.obj 0), .fz (.int mo), .fz (.int ha), .fz (.tup (st.map .int)), .fz (.lst (tw.map .int)), y5, .fz (.int m), .fz (.int way), .fz (.lst (ds.map pairD)), .ow (st.map .int), .fz (.int ow), .ow2 (List.replicate dn.length []), .no, .no, .no, .no, .no, .no, .no, .no, .no]) ⟨hw, _, rfl⟩ ?_ ?_
  · rintro dn i rr env w' hdn ⟨hw', y5, rfl⟩
    obtain ⟨rfl, hi⟩ := range_split hdn
    refine ⟨_, rfl, ?_⟩
    have hl : (List.replicate (List.range i).length ([] : List D)).length < lim := lt_lim (by simp; omega)
    simp [wp_bnd, wp_ret, wp_seq, app2C_ok (lt_lim (show (List.replicate i ([] : List D)).length ≤ 1000000 by simp; omega))]
    exact ⟨hw', by rw [List.replicate_succ']⟩
  · rintro e w' ⟨hw', y5, rfl⟩
    refine wp_seq.mpr ?_
    have hpar : exec ⟨run T gl n (k + 3), gl, n⟩ (.par [(12, 0), (13, 1)] (.cons (.call 450624087419674289726830 (.cons (.var 0) (.cons (.int 3) .nil))) (.cons (.lst .nil) .nil))) [.fz (.obj 0), .fz (.int mo), .fz (.int ha), .fz (.tup (st.map .int)), .fz (.lst (tw.map .int)), y5, .fz (.int m), .fz (.int way), .fz (.lst (ds.map pairD)), .ow (st.map .int), .fz (.int ow), .ow2 (List.replicate (List.range ow).length []), .no, .no, .no, .no, .no, .no, .no, .no, .no] =
        bnd (run T gl n (k + 3) 450624087419674289726830 [.obj 0, .int 3]) fun d => ret (.nx [.fz (.obj 0), .fz (.int mo), .fz (.int ha), .fz (.tup (st.map .int)), .fz (.lst (tw.map .int)), y5, .fz (.int m), .fz (.int way), .fz (.lst (ds.map pairD)), .ow (st.map .int), .fz (.int ow), .ow2 (List.replicate (List.range ow).length []), .fz d, .ow [], .no, .no, .no, .no, .no, .no, .no]) := by
      simp [bnd_bnd]
    show wp (exec ⟨run T gl n (k + 3), gl, n⟩ (.par [(12, 0), (13, 1)] (.cons (.call 450624087419674289726830 (.cons (.var 0) (.cons (.int 3) .nil))) (.cons (.lst .nil) .nil))) _) w' _
    rw [hpar]
    refine wp_bnd.mpr (wp_mono (taken_ok b hw' (by decide) (by decide)) ?_)
    rintro d w2 ⟨r, rfl, r0, r1, hw2⟩
    have hl := loop_ok (gl := gl) (n := n) (k := k) (mo := mo) (ha := ha) (tw := tw) (way := way) (sg := r) (x5 := y5) b hw2 hst hst2 hm0 hm how (by omega) hds hdl hmo hha halt htw
    have e : List.replicate (List.range ow).length ([] : List D) = rowsD (List.replicate ow []) := by simp
    rw [e]
    exact wp_ret.mpr (wp_mono hl fun fl w3 ⟨p, e, h1, h2⟩ => by subst e; exact hQ p w3 h1 h2)
end
theorem program_ok (b : Draw T) (hn : 100 ≤ n) {w : Wd} (hw : RowOk ns w) {mo ha : Int} (hmo : 1 ≤ mo ∧ mo ≤ 5) (hha : 1 ≤ ha ∧ ha ≤ 4) : wp (run T gl n (k + 4) 29532100193134667060542071149 [.obj 0, .int mo, .int ha]) w fun d w' => ∃ p : Prog, d = p.d ∧ Drawn mo ha p ∧ RowOk ns w' := by
  rw [run_at b.program rfl]
  simp [F__law_program, startE, bindA, List.replicate, wp_bnd, wp_ret, wp_seq, wp_itS, wp_itM]
  refine wp_mono (taken_ok b hw (by omega) (by omega)) fun d w1 ⟨m', e, m0, m1, hw1⟩ => ?_
  subst e
  simp [wp_bnd, wp_ret, wp_seq, wp_itS, wp_itM]
  refine wp_mono (taken_ok b hw1 (by decide) (by decide)) fun d w2 ⟨way, e, y0, y1, hw2⟩ => ?_
  subst e
  obtain ⟨m, rfl⟩ : ∃ m : Nat, m' = (m : Int) - 1 := ⟨(m' + 1).toNat, by omega⟩
  have em : (1 : Int) + ((m : Int) - 1) = m := by omega
  have hm : 1 ≤ m ∧ m ≤ 5 := by omega
  simp [em, wp_bnd, wp_ret, wp_seq, wp_itS, wp_itM, rng_nat (show m ≤ 1000000 by omega)]
  refine wp_shut (wp_bnd.mpr (wp_mono (draws_ok b hw2 fun i w hw => ?_) fun ys w3 ⟨st, e, hst, hst2, hw3⟩ => ?_))
  · simp [wp_bnd, wp_ret, wp_seq, wp_itS, wp_itM]
    refine wp_mono (taken_ok b hw (by decide) (by decide)) fun d w1 ⟨r, e, r0, r1, hw1⟩ => ?_
    subst e
    simp [wp_ret, hw1]
    omega
  subst e
  have hl1 : st.length ≤ lim := le_lim (by omega)
  simp [wp_bnd, wp_ret, wp_seq, wp_itS, wp_itM, hl1, rng_nat (show m ≤ 1000000 by omega)]
  refine wp_mono (changes_ok (k := k) b hn hw3 hm.1 (by omega) hst hst2) ?_
  rintro d w4 ⟨ds, rfl, hds, halt, hw4⟩
  obtain ⟨hd1, hd2⟩ := hds
  have hd3 : ds.length ≤ 10 := by omega
  have hdl : ds.length ≤ lim := le_lim (Nat.le_trans hd3 (by decide))
  simp [wp_bnd, wp_ret, wp_seq, wp_itS, wp_itM]
  rw [mapM_pureL (h := fun (i : Nat) => if decide ((1 : Int) < ((ds.map (·.1)).count (i : Int) : Nat)) = true then some (D.int (i : Int)) else none) fun i hi => by
    rw [mapM_pureL (h := fun q => some (D.int q.1)) fun q hq => by simp [pairD]]
    have e : (ds.map fun q => D.int q.1) = (ds.map (·.1)).map .int := by simp
    simp only [fm_some, e]
    simp [hdl]
    by_cases c : (1 : Int) < ((ds.map (·.1)).count (i : Int) : Nat) <;> simp [c]]
  rw [fm_filter]
  have htw : (List.filter (fun (i : Nat) => decide ((1 : Int) < ((ds.map (·.1)).count (i : Int) : Nat))) (List.range m)).map (fun (i : Nat) => D.int (i : Int)) = ((List.filter (fun (i : Nat) => decide ((1 : Int) < ((ds.map (·.1)).count (i : Int) : Nat))) (List.range m)).map fun (i : Nat) => (i : Int)).map .int := by simp
  have htl : (List.filter (fun (i : Nat) => decide ((1 : Int) < ((ds.map (·.1)).count (i : Int) : Nat))) (List.range m)).length ≤ lim := Nat.le_trans (List.length_filter_le _ _) (by simp; exact le_lim (by omega))
  have htm : ∀ s : Nat, s < m → 1 < (ds.map (·.1)).count (s : Int) → (s : Int) ∈ (List.filter (fun (i : Nat) => decide ((1 : Int) < ((ds.map (·.1)).count (i : Int) : Nat))) (List.range m)).map fun (i : Nat) => (i : Int) := fun s h1 h2 =>
    List.mem_map.mpr ⟨s, List.mem_filter.mpr ⟨List.mem_range.mpr h1, decide_eq_true (by omega)⟩, rfl⟩
  generalize (List.filter (fun (i : Nat) => decide ((1 : Int) < ((ds.map (·.1)).count (i : Int) : Nat))) (List.range m)) = tl at htw htl htm ⊢
  simp [htl, wp_ret]
  refine wp_mono (taken_ok b hw4 (by omega) (by omega)) ?_
  rintro d w5 ⟨o', rfl, o0, o1, hw5⟩
  obtain ⟨ow, rfl⟩ : ∃ ow : Nat, o' = (ow : Int) - 1 := ⟨(o' + 1).toNat, by omega⟩
  have eo : (1 : Int) + ((ow : Int) - 1) = ow := by omega
  simp [eo, wp_ret, rng_nat (show ow ≤ 1000000 by omega)]
  have hro := rows_ok (gl := gl) (n := n) (k := k) (mo := mo) (ha := ha) (st := st) (tw := tl.map fun (i : Nat) => (i : Int)) (ds := ds) (m := m) (ow := ow) (way := way) (x5 := .no) b hw5 hst hst2 hm.1 hm.2 (by omega) hd1 hd3 (by omega) (by omega) halt htm (Q := fun fl w' => wp (endF fl) w' fun d w' => ∃ p : Prog, d = p.d ∧ Drawn mo ha p ∧ RowOk ns w') fun p w' h1 h2 => wp_ret.mpr ⟨p, rfl, h1, h2⟩
  rw [← htw] at hro
  exact hro
end VI

set_option Elab.async false
set_option linter.all false
set_option maxRecDepth 100000
set_option maxHeartbeats 1000000
/-! a drawn program is straight -/
namespace VI
open PySem
theorem its_items : ∀ {rs : List (List Item)} {h : Nat}, (itsFrom h rs).map (·.2) = rs.flatten
  | [], _ => rfl
  | r :: rs, h => by
    unfold itsFrom
    rw [List.map_append, its_items, List.flatten_cons, List.map_map]
    congr 1
    show r.zipIdx.map (fun q => q.1) = r
    exact List.zipIdx_map_fst 0 r
theorem cntR_flat {f : Item → Bool} : ∀ {rs : List (List Item)}, cntR f rs = rs.flatten.countP f
  | [] => rfl
  | r :: rs => by
    have := cntR_flat (f := f) (rs := rs)
    unfold cntR at *
    rw [List.map_cons, List.sum_cons, List.flatten_cons, List.countP_append, this]
theorem tells_cnt {p : Prog} {s : Int} : p.tells.count s = cntR (isTell s) p.rows := by
  rw [cntR_flat, ← its_items (h := 0)]
  unfold Prog.tells Prog.its
  induction itsFrom 0 p.rows with
  | nil => rfl
  | cons q l ih =>
    obtain ⟨nm, it⟩ := q
    rw [List.filterMap_cons, List.map_cons, List.countP_cons, ← ih]
    cases it with
    | tell a => simp [tellOf, isTell, List.count_cons]
    | wait a => simp [tellOf, isTell]
    | put a v g => simp [tellOf, isTell]
theorem stands_cnt {p : Prog} {s v : Int} : (p.stands s).count v = cntR (isPut s v) p.rows := by
  rw [cntR_flat, ← its_items (h := 0)]
  unfold Prog.stands Prog.deeds Prog.its
  induction itsFrom 0 p.rows with
  | nil => rfl
  | cons q l ih =>
    obtain ⟨nm, it⟩ := q
    rw [List.filterMap_cons, List.map_cons, List.countP_cons, ← ih]
    cases it with
    | tell a => simp [deedOf, isPut]
    | wait a => simp [deedOf, isPut]
    | put a b g =>
      by_cases c1 : a = s
      · by_cases c2 : b = v
        · simp [deedOf, isPut, c1, c2]
        · simp [deedOf, isPut, c1, c2]
      · simp [deedOf, isPut, c1]
theorem onS_count {ds : List (Int × Int)} {s v : Int} : ds.count (s, v) = (onS ds s).count v := by
  unfold onS
  induction ds with
  | nil => rfl
  | cons q l ih =>
    obtain ⟨a, b⟩ := q
    rw [List.count_cons, List.filter_cons, ih]
    by_cases c1 : a = s
    · by_cases c2 : b = v <;> simp [c1, c2]
    · simp [c1]
theorem onS_len {ds : List (Int × Int)} {s : Int} : (ds.map (·.1)).count s = (onS ds s).length := by
  unfold onS
  induction ds with
  | nil => rfl
  | cons q l ih =>
    obtain ⟨a, b⟩ := q
    rw [List.map_cons, List.count_cons, List.filter_cons, ih]
    by_cases c1 : a = s <;> simp [c1]
theorem Drawn.straight {mo ha : Int} {p : Prog} (d : Drawn mo ha p) : p.bents = [] := by
  obtain ⟨ok, _, _, ds, tw, told, r, ts, al, dsk, htw⟩ := d
  unfold Prog.bents
  rw [List.filter_eq_nil_iff]
  rintro ⟨nm, it⟩ hq hb
  have io := its_ok ok hq
  obtain ⟨row, h1, h2⟩ := its_at hq
  have hrow : row ∈ p.rows := List.mem_of_getElem? h1
  have hit : it ∈ row := List.mem_of_getElem? h2
  have nd : told.Nodup := by
    rw [show told = _ from ts]
    refine List.Pairwise.map _ (fun a b (h : a ≠ b) e => ?_) (List.nodup_range (n := told.length))
    have e : 3 * (a : Int) + 1 = 3 * (b : Int) + 1 := e
    omega
  have t1 : ∀ s, p.tells.count s ≤ 1 := fun s => by rw [tells_cnt, r.tc]; exact List.nodup_iff_count.mp nd s
  have alt : ∀ s : Int, 0 ≤ s → s < (p.start.length : Int) → onS ds s = [] ∨ onS ds s = [1 - p.st s] ∨ onS ds s = [1 - p.st s, p.st s] := fun s h0 h1 => by
    have hs : s.toNat < p.start.length := by omega
    have := al s.toNat hs
    have e1 : ((s.toNat : Nat) : Int) = s := by omega
    have e2 : p.start[s.toNat] = p.st s := by unfold Prog.st; simp [hs]
    rw [e1, e2] at this
    exact this
  have sc : ∀ s v, (p.stands s).count v = (onS ds s).count v := fun s v => by rw [stands_cnt, r.pc, onS_count]
  cases it with
  | tell s =>
    have := t1 s
    simp only [bentB, decide_eq_true_eq] at hb
    omega
  | wait s =>
    have hs := r.wt row hrow s hit
    have h3 : 1 ≤ p.tells.count s := by rw [tells_cnt, r.tc]; exact List.one_le_count_iff.mpr hs
    have := t1 s
    have h4 : p.tells.count s = 1 := by omega
    simp [bentB, h4] at hb
  | put s v g =>
    obtain ⟨s0, s1, v0, v1, hg⟩ := io
    have hc : 1 ≤ (p.stands s).count v := by
      rw [stands_cnt, cntR_flat]
      have : (Item.put s v g) ∈ p.rows.flatten := List.mem_flatten.mpr ⟨row, hrow, hit⟩
      exact List.countP_pos_iff.mpr ⟨_, this, by simp [isPut]⟩
    simp only [bentB, Bool.or_eq_true, Bool.and_eq_true, decide_eq_true_eq, Bool.not_eq_true', decide_eq_false_iff_not, List.any_eq_true] at hb
    rcases hb with hb | ⟨h3, h4⟩ | ⟨pr, hpr, h3, h4⟩
    · rw [sc] at hb
      rcases alt s s0 s1 with e | e | e <;> rw [e] at hb
      · simp at hb
      · simp [List.count_cons] at hb
        split at hb <;> omega
      · simp [List.count_cons] at hb
        split at hb <;> split at hb <;> omega
    · have h5 : (p.stands s).count (1 - v) = 0 := List.count_eq_zero.mpr h4
      rw [sc] at h5 hc
      rcases alt s s0 s1 with e | e | e <;> rw [e] at h5 hc
      · simp at hc
      · have z : ¬ (1 - p.st s = v) := by omega
        simp [List.count_cons, z] at hc
      · rw [h3] at h5
        simp [List.count_cons] at h5
    · obtain ⟨g0, g1⟩ := guard_mem (by decide) hg pr hpr
      have h5 : 1 ≤ (p.stands pr.1).count pr.2 := List.one_le_count_iff.mpr h4
      rw [sc, h3] at h5
      have h6 : 1 < (ds.map (·.1)).count pr.1 := by
        rw [onS_len]
        rcases alt pr.1 g0 g1 with e | e | e <;> rw [e] at h5 ⊢
        · simp at h5
        · have z : ¬ (1 - p.st pr.1 = p.st pr.1) := by omega
          simp [List.count_cons, z] at h5
        · simp
      have e1 : ((pr.1.toNat : Nat) : Int) = pr.1 := by omega
      have h7 := htw pr.1.toNat (by omega) (by rw [e1]; exact h6)
      rw [e1] at h7
      exact r.gd row hrow s v g hit pr hpr ⟨h7, h3⟩
end VI

set_option Elab.async false
set_option linter.all false
set_option maxRecDepth 100000
set_option maxHeartbeats 2000000
namespace VI
open PySem
variable {T : Tbl} {gl : Nat → Option D} {n k : Nat} {ns : List Int}
abbrev e12 (m : Nat) (rows : List (List Item)) (x3 : Sl) (items : List Item) (x5 x6 x7 x8 x9 x10 : Sl) : Env :=
  [.fz (.obj 0), .fz (.int m), .fz (.tup (rows.map rowD)), x3, .fz (.tup (items.map Item.d)), x5, x6, x7, x8, x9, x10, .no]
theorem bguard_ok (b : Draw T) {w : Wd} (hw : RowOk ns w) {m : Nat} (hm : m ≤ 8) {rows : List (List Item)} {items : List Item} {x3 x5 x6 x7 : Sl} {kd sw : Int} {Q : Flow → Wd → Prop}
    (hQ : ∀ g y6 w', GuardOk sw m (-1) g → g.length ≤ 8 → RowOk ns w' → Q (.nx (e12 m rows x3 items x5 y6 x7 (.fz (.int kd)) (.fz (.int sw)) (.fz (.tup (g.map pairD))))) w') :
    wp (forL (.one 6) (execs ⟨run T gl n (k + 3), gl, n⟩ (.cons (.ite (.and (.cmp .ne (.var 6) (.var 9)) (.cmp .eq (.call 450624087419674289726830 (.cons (.var 0) (.cons (.int 4) .nil))) (.int 0))) (.cons (.set 10 (.bin .add (.var 10) (.tup (.cons (.tup (.cons (.var 6) (.cons (.call 450624087419674289726830 (.cons (.var 0) (.cons (.int 2) .nil))) .nil))) .nil)))) .nil) .nil) .nil))
      ((List.range m).map fun (i : Nat) => D.int (i : Int)) (e12 m rows x3 items x5 x6 x7 (.fz (.int kd)) (.fz (.int sw)) (.fz (.tup [])))) w Q := by
  refine wp_forL2 (fun dn e w' => RowOk ns w' ∧ ∃ g y6, e = e12 m rows x3 items x5 y6 x7 (.fz (.int kd)) (.fz (.int sw)) (.fz (.tup (g.map pairD))) ∧ GuardOk sw m (-1) g ∧ (∀ q ∈ g, q.1 < dn.length) ∧ g.length ≤ dn.length) ⟨hw, [], _, rfl, trivial, (fun _ h => nomatch h), Nat.le_refl _⟩ ?_ ?_
  · rintro dn i rr env w' hdn ⟨hw', g, y6, rfl, hg, hg2, hg3⟩
    obtain ⟨rfl, hi⟩ := range_split hdn
    simp at hg2 hg3
    refine ⟨_, rfl, ?_⟩
    have keep : ∀ w3, RowOk ns w3 → RowOk ns w3 ∧ ∃ g', g.map pairD = g'.map pairD ∧ GuardOk sw m (-1) g' ∧ (∀ a b : Int, (a, b) ∈ g' → a < (i : Int) + 1) ∧ g'.length ≤ i + 1 :=
      fun w3 h3 => ⟨h3, g, rfl, hg, fun a b h => by have := hg2 a b h; omega, by omega⟩
    simp [wp_bnd, wp_ret, wp_seq, wp_itS, wp_itM]
    by_cases c1 : (i : Int) = sw
    · simp [c1, wp_ret]
      have := keep w' hw'
      rw [c1] at this
      exact this
    · simp [c1, wp_bnd, wp_itM, wp_itS]
      refine wp_mono (taken_ok b hw' (by decide) (by decide)) ?_
      rintro d w2 ⟨r, rfl, r0, r1, hw2⟩
      by_cases c2 : r = 0
      · simp [c2, wp_bnd, wp_ret, wp_seq]
        refine wp_mono (taken_ok b hw2 (by decide) (by decide)) ?_
        rintro d w3 ⟨x, rfl, x0, x1, hw3⟩
        rw [add_tup (by simp; exact le_lim (by omega))]
        simp [wp_ret]
        refine ⟨hw3, g ++ [((i : Int), x)], by simp [pairD], guard_snoc (by omega) c1 x0 (by omega) hg (fun q hq => by have := hg2 q.1 q.2 hq; omega) (by omega), fun a b h => ?_, by simp; omega⟩
        rcases List.mem_append.mp h with h | h
        · have := hg2 a b h; omega
        · rcases List.mem_singleton.mp h with h; cases h; omega
      · simp [c2, wp_bnd, wp_ret, wp_seq]
        exact keep w2 hw2
  · rintro e w' ⟨hw', g, y6, rfl, hg, hg2, hg3⟩
    simp at hg3
    exact hQ g y6 w' hg (by omega) hw'
theorem bent_draw (b : Draw T) (lb : T.at_ 1760250341482800967284 = some F__law_bent) (hn : 100 ≤ n) {w : Wd} (hw : RowOk ns w) : wp (run T gl n (k + 4) 1760250341482800967284 [.obj 0]) w fun d w' => ∃ p : Prog, d = p.d ∧ ProgOk p ∧ RowOk ns w' := by
  rw [run_at lb rfl]
  simp [F__law_bent, startE, bindA, List.replicate, wp_bnd, wp_ret, wp_seq, wp_itS, wp_itM]
  refine wp_mono (taken_ok b hw (by decide) (by decide)) ?_
  rintro d w1 ⟨m', rfl, m0, m1, hw1⟩
  obtain ⟨m, rfl⟩ : ∃ m : Nat, m' = (m : Int) - 1 := ⟨(m' + 1).toNat, by omega⟩
  have em : (1 : Int) + ((m : Int) - 1) = m := by omega
  have hm : 1 ≤ m ∧ m ≤ 4 := by omega
  simp [em, wp_bnd, wp_ret, wp_seq, wp_itS, wp_itM]
  refine wp_mono (taken_ok b hw1 (by decide) (by decide)) ?_
  rintro d w2 ⟨h', rfl, h0, h1, hw2⟩
  obtain ⟨hc, rfl⟩ : ∃ m : Nat, h' = (m : Int) - 1 := ⟨(h' + 1).toNat, by omega⟩
  have eh : (1 : Int) + ((hc : Int) - 1) = hc := by omega
  have hhc : 1 ≤ hc ∧ hc ≤ 3 := by omega
  simp [eh, wp_bnd, wp_ret, rng_nat (show hc ≤ 1000000 by omega)]
  refine wp_forL2 (fun dn e w' => RowOk ns w' ∧ ∃ rows y3 y4 y5 y6 y7 y8 y9 y10, e = [.fz (.obj 0), .fz (.int m), .fz (.tup (rows.map rowD)), y3, y4, y5, y6, y7, y8, y9, y10, .no] ∧ rows.length = dn.length ∧ (∀ r ∈ rows, ∀ i ∈ r, ItemOk m i) ∧ (rows.map List.length).sum ≤ 3 * dn.length) ⟨hw2, [], _, _, _, _, _, _, _, _, rfl, rfl, (fun _ h => nomatch h), by simp⟩ ?_ ?_
  · rintro dn i rr env w' hdn ⟨hw', rows, y3, y4, y5, y6, y7, y8, y9, y10, rfl, hl, hit, htot⟩
    obtain ⟨rfl, hi⟩ := range_split hdn
    refine ⟨_, rfl, ?_⟩
    simp at hl htot
    simp [wp_bnd, wp_ret, wp_seq, wp_itS, wp_itM]
    refine wp_mono (taken_ok b hw' (by decide) (by decide)) ?_
    rintro d w3 ⟨t', rfl, t0, t1, hw3⟩
    obtain ⟨tc, rfl⟩ : ∃ m : Nat, t' = (m : Int) := ⟨t'.toNat, by omega⟩
    simp [wp_bnd, wp_ret, rng_nat (show tc ≤ 1000000 by omega)]
    refine wp_forL2 (fun dn e w' => RowOk ns w' ∧ ∃ items y5 y6 y7 y8 y9 y10, e = e12 m rows (.fz (.int i)) items y5 y6 y7 y8 y9 y10 ∧ items.length = dn.length ∧ ∀ x ∈ items, ItemOk m x) ⟨hw3, [], _, _, _, _, _, _, rfl, rfl, (fun _ h => nomatch h)⟩ ?_ ?_
    · rintro dn j rr env w4 hdn ⟨hw4, items, z5, z6, z7, z8, z9, z10, rfl, hil, hio⟩
      obtain ⟨rfl, hj⟩ := range_split hdn
      simp at hil
      refine ⟨_, rfl, ?_⟩
      simp [wp_bnd, wp_ret, wp_seq, wp_itS, wp_itM]
      refine wp_mono (taken_ok b hw4 (by decide) (by decide)) ?_
      rintro d w5 ⟨kd, rfl, k0, k1, hw5⟩
      refine wp_mono (taken_ok b hw5 (by omega) (by omega)) ?_
      rintro d w6 ⟨sw, rfl, s0, s1, hw6⟩
      simp [wp_bnd, wp_ret, rng_nat (show m ≤ 1000000 by omega)]
      refine bguard_ok b hw6 (by omega) ?_
      intro g y6 w7 hg hgl hw7
      simp [wp_bnd, wp_ret, wp_seq, wp_itS, wp_itM]
      refine wp_mono (taken_ok b hw7 (by decide) (by decide)) ?_
      rintro d w8 ⟨sv, rfl, v0, v1, hw8⟩
      have ad : ∀ x : Item, D.bin .add (.tup (items.map Item.d)) (.tup [x.d]) = some (.tup ((items ++ [x]).map Item.d)) := fun x => by
        rw [add_tup (by simp; exact le_lim (by omega))]; simp
      have fin : ∀ x : Item, ItemOk m x → ∀ y ∈ items ++ [x], ItemOk m y := fun x hx y hy => by
        rcases List.mem_append.mp hy with hy | hy
        · exact hio y hy
        · rcases List.mem_singleton.mp hy with rfl; exact hx
      by_cases c : 1 < kd
      · simp [c, wp_bnd, wp_ret]
        have := ad (.put sw sv g)
        simp only [Item.d] at this
        rw [this]
        simp [wp_ret]
        exact ⟨hw8, items ++ [.put sw sv g], by simp [Item.d], by simp [hil], fin (.put sw sv g) ⟨s0, s1, v0, by omega, hg⟩⟩
      · have : kd = 0 ∨ kd = 1 := by omega
        rcases this with rfl | rfl
        · simp [wp_bnd, wp_ret]
          refine wp_mono (taken_ok b hw8 (by decide) (by decide)) ?_
          rintro d w9 ⟨sg, rfl, g0, g1, hw9⟩
          have := ad (.tell sg)
          simp only [Item.d] at this
          rw [this]
          simp [wp_ret]
          exact ⟨hw9, items ++ [.tell sg], by simp [Item.d], by simp [hil], fin (.tell sg) ⟨g0, by omega⟩⟩
        · simp [wp_bnd, wp_ret]
          refine wp_mono (taken_ok b hw8 (by decide) (by decide)) ?_
          rintro d w9 ⟨sg, rfl, g0, g1, hw9⟩
          have := ad (.wait sg)
          simp only [Item.d] at this
          rw [this]
          simp [wp_ret]
          exact ⟨hw9, items ++ [.wait sg], by simp [Item.d], by simp [hil], fin (.wait sg) ⟨g0, by omega⟩⟩
    · rintro e w4 ⟨hw4, items, z5, z6, z7, z8, z9, z10, rfl, hil, hio⟩
      simp at hil
      simp [wp_bnd, wp_ret, wp_seq]
      rw [add_tup (by simp; exact le_lim (by omega))]
      simp [wp_ret]
      refine ⟨hw4, rows ++ [items], by simp [rowD], by simp [hl], fun r hr x hx => ?_, by simp; omega⟩
      rcases List.mem_append.mp hr with hr | hr
      · exact hit r hr x hx
      · rcases List.mem_singleton.mp hr with rfl; exact hio x hx
  · rintro e w' ⟨hw', rows, y3, y4, y5, y6, y7, y8, y9, y10, rfl, hl, hit, htot⟩
    simp at hl htot
    simp [wp_bnd, wp_ret, wp_seq, rng_nat (show m ≤ 1000000 by omega)]
    refine wp_shut (wp_bnd.mpr (wp_mono (draws_ok b hw' fun i w hw => ?_) ?_))
    · simp [wp_bnd, wp_ret]
      refine wp_mono (taken_ok b hw (by decide) (by decide)) ?_
      rintro d w1 ⟨r, rfl, r0, r1, hw1⟩
      simp [wp_ret, hw1]
      omega
    · rintro ys w3 ⟨st, rfl, hst, hst2, hw3⟩
      have hl1 : st.length ≤ lim := le_lim (by omega)
      simp [wp_bnd, wp_ret, hl1]
      refine ⟨⟨st, rows⟩, rfl, ⟨by show 1 ≤ st.length; omega, by show st.length ≤ 8; omega, hst2, by show 1 ≤ rows.length; omega, by show rows.length ≤ 4; omega, by show (rows.map List.length).sum ≤ 24; omega, by show ∀ r ∈ rows, ∀ i ∈ r, ItemOk st.length i; rw [hst]; exact hit⟩, hw3⟩
end VI

set_option Elab.async false
set_option linter.all false
set_option maxRecDepth 100000
set_option maxHeartbeats 1000000
/-! befores and hopeless deeds of a straight program: the program's own reckoning -/
namespace VI
open PySem
variable {T : Tbl} {gl : Nat → Option D} {n k : Nat}
abbrev Name := Nat × Nat
inductive Srt where | row | signal | turn | guard | bar
  deriving DecidableEq
def Srt.d : Srt → D
  | .row => .str ⟨#[114, 111, 119]⟩
  | .signal => .str ⟨#[115, 105, 103, 110, 97, 108]⟩
  | .turn => .str ⟨#[116, 117, 114, 110]⟩
  | .guard => .str ⟨#[103, 117, 97, 114, 100]⟩
  | .bar => .str ⟨#[98, 97, 114]⟩
abbrev Bef := Name × Name × Srt
def befD (b : Bef) : D := .tup [nameD b.1, nameD b.2.1, b.2.2.d]
def optD : Option Name → D
  | some a => nameD a
  | none => .non
@[simp] theorem isNon_name {a : Name} : isNon (nameD a) = false := nr rfl
@[simp] theorem isNon_opt {o : Option Name} : isNon (optD o) = o.isNone := by cases o <;> rfl
/-- the first deed that sets a switch to a stand -/
def Prog.chg (p : Prog) (s v : Int) : Option Name := (p.setters s v).head?.map (·.1)
def rowB (a : Name) : List Bef := if 0 < a.2 then [((a.1, a.2 - 1), a, .row)] else []
def Prog.sigB (p : Prog) (a : Name) (s : Int) : List Bef := (p.its.filter fun q => isTell s q.2).map fun q => (q.1, a, .signal)
def Prog.turnB (p : Prog) (a : Name) (s v : Int) : List Bef := if v = p.st s then (p.chg s (1 - v)).toList.map fun c => (c, a, .turn) else []
def Prog.guardB (p : Prog) (a : Name) (pr : Int × Int) : List Bef :=
  (if pr.2 = p.st pr.1 then [] else (p.chg pr.1 pr.2).toList.map fun c => (c, a, .guard)) ++
  (if pr.2 = p.st pr.1 ∨ (p.chg pr.1 pr.2).isSome = true then (p.chg pr.1 (1 - pr.2)).toList.map fun c => (a, c, .bar) else [])
def Prog.itemB (p : Prog) (q : Name × Item) : List Bef := rowB q.1 ++ match q.2 with
  | .tell _ => []
  | .wait s => p.sigB q.1 s
  | .put s v g => p.turnB q.1 s v ++ g.flatMap (p.guardB q.1)
/-- all befores, item by item -/
def Prog.bef (p : Prog) : List Bef := p.its.flatMap p.itemB
theorem deeds_setters {p : Prog} {s v : Int} : ((p.deeds s).filter fun x => decide (x.2 = v)).map (·.1) = (p.setters s v).map (·.1) := by
  unfold Prog.deeds Prog.setters
  induction p.its with
  | nil => rfl
  | cons q l ih =>
    obtain ⟨nm, it⟩ := q
    rw [List.filterMap_cons, List.filter_cons]
    cases it with
    | tell s' => simpa [deedOf] using ih
    | wait s' => simpa [deedOf] using ih
    | put s' v' g =>
      by_cases c1 : s' = s
      · by_cases c2 : v' = v
        · simp [deedOf, c1, c2]; simpa using ih
        · simp [deedOf, c1, c2]; simpa using ih
      · simp [deedOf, c1]; simpa using ih
theorem setters_one {p : Prog} (hs : p.bents = []) (s v : Int) : (p.setters s v).length ≤ 1 := by
  cases q : p.setters s v with
  | nil => simp
  | cons x l =>
    have hx : x ∈ p.setters s v := by rw [q]; exact .head _
    have hm := List.mem_filter.mp hx
    have hb : bentB p x.2 = false := by
      have := List.filter_eq_nil_iff.mp hs x hm.1
      simpa using this
    obtain ⟨nm, it⟩ := x
    cases it with
    | tell a => simp at hm
    | wait a => simp at hm
    | put a b g =>
      simp at hm
      obtain ⟨_, rfl, rfl⟩ := hm
      simp only [bentB, Bool.or_eq_false_iff, decide_eq_false_iff_not] at hb
      have := setters_len (p := p) (s := a) (v := b)
      rw [q] at this
      omega
theorem chg_list {p : Prog} (hs : p.bents = []) (s v : Int) : (p.setters s v).map (fun q => nameD q.1) = (p.chg s v).toList.map nameD := by
  have := setters_one hs s v
  unfold Prog.chg
  cases q : p.setters s v with
  | nil => rfl
  | cons x l =>
    rw [q] at this
    cases l with
    | nil => rfl
    | cons y l => simp at this
theorem chg_none {p : Prog} {s v : Int} : (p.chg s v).isNone = !decide (v ∈ p.stands s) := by
  rw [← setters_nil]
  unfold Prog.chg
  cases p.setters s v <;> rfl
/-- the deed that is taken back -/
theorem turn_some {p : Prog} (hs : p.bents = []) {a : Name} {s v : Int} {g : List (Int × Int)} (m : (a, Item.put s v g) ∈ p.its) (h : v = p.st s) : ∃ c, p.chg s (1 - v) = some c := by
  have hb : bentB p (.put s v g) = false := by
    have := List.filter_eq_nil_iff.mp hs _ m
    simpa using this
  simp only [bentB, Bool.or_eq_false_iff, Bool.and_eq_false_iff, decide_eq_false_iff_not, Bool.not_eq_false', decide_eq_true_eq] at hb
  rcases hb.2.1 with z | z
  · exact absurd h z
  · have := chg_none (p := p) (s := s) (v := 1 - v)
    rw [decide_eq_true z] at this
    cases q : p.chg s (1 - v) with
    | none => rw [q] at this; cases this
    | some c => exact ⟨c, rfl⟩
structure Bfs (T : Tbl) (gl : Nat → Option D) : Prop extends Base2 T gl where
  change : T.at_ 109299962373989 = some F_change
  guard_befores : T.at_ 8196828291124153386188233926003 = some F_guard_befores
  befores_in : T.at_ 464662417716764232083822 = some F_befores_in
  need_straight : T.at_ 8746478438066222438918977448052 = some F_need_straight
structure Bfh (T : Tbl) (gl : Nat → Option D) : Prop extends Bfs T gl where
  hopeless_in : T.at_ 126254541263184062104693102 = some F_hopeless_in
theorem ok_name {m : Nat} {a : Name} : D.ok (m + 1) (nameD a) = true := by
  show List.all _ _ = true
  simp
theorem change_ok (b : Bfs T gl) (p : Prog) (ok : ProgOk p) (s v : Int) : run T gl n (k + 3) 109299962373989 [p.d, .int s, .int v] = ret (optD (p.chg s v)) := by
  rw [run_at b.change rfl]
  simp [F_change, startE, bindA, List.replicate, deeds_on_ok b.toBase2 p ok]
  rw [mapM_pureL (h := fun x => if decide (x.2 = v) = true then some (nameD x.1) else none) fun x hx => by
    simp [deedP]
    by_cases c : x.2 = v <;> simp [c]]
  have hf : ((p.deeds s).filterMap fun x => if decide (x.2 = v) = true then some (nameD x.1) else none) = (p.setters s v).map fun q => nameD q.1 := by
    rw [fm_filter]
    have := congrArg (List.map nameD) (deeds_setters (p := p) (s := s) (v := v))
    rw [List.map_map, List.map_map] at this
    exact this
  have l1 : (p.setters s v).length ≤ lim := le_lim (Nat.le_trans (List.length_filter_le _ _) (Nat.le_trans (its_le ok) (by decide)))
  rw [hf]
  simp [l1, cmp_ne_nil ok_names]
  unfold Prog.chg
  cases p.setters s v with
  | nil => simp [optD]
  | cons x l => simp [optD]
/-- what is added item by item stays short -/
theorem guardB_le {p : Prog} {a : Name} {pr : Int × Int} : (p.guardB a pr).length ≤ 2 := by
  unfold Prog.guardB
  have h : ∀ o : Option Name, ∀ f : Name → Bef, (o.toList.map f).length ≤ 1 := fun o f => by cases o <;> simp
  have h1 := h (p.chg pr.1 pr.2) fun c => (c, a, .guard)
  have h2 := h (p.chg pr.1 (1 - pr.2)) fun c => (a, c, .bar)
  rw [List.length_append]
  split <;> split <;> (try simp only [List.length_nil]) <;> omega
theorem guards_le {p : Prog} {a : Name} : ∀ {g : List (Int × Int)}, (g.flatMap (p.guardB a)).length ≤ 2 * g.length
  | [] => by simp
  | pr :: g => by
    have := guards_le (p := p) (a := a) (g := g)
    have := guardB_le (p := p) (a := a) (pr := pr)
    rw [List.flatMap_cons, List.length_append, List.length_cons]
    omega
theorem guard_befores_ok (b : Bfs T gl) (p : Prog) (ok : ProgOk p) (hs : p.bents = []) {a : Name} {s v : Int} {g : List (Int × Int)} (m : (a, Item.put s v g) ∈ p.its) :
    run T gl n (k + 4) 8196828291124153386188233926003 [p.d, nameD a] = ret (.lst ((g.flatMap (p.guardB a)).map befD)) := by
  rw [run_at b.guard_befores rfl]
  obtain ⟨h1, h2, h3, h4, h5⟩ := its_ok ok m
  have hgl : g.length ≤ 8 := by have h6 : (g.length : Int) ≤ p.start.length - 1 - (-1) := guard_len (by omega) h5; have := ok.s2; omega
  have pd : p.d = .tup [.tup (p.start.map .int), .tup (p.rows.map rowD)] := rfl
  have d0 : ixM p.d (.int 0) = ret (.tup (p.start.map .int)) := by rw [pd]; simp
  have hat : run T gl n (k + 3) 29682851530105204 [p.d, nameD a] = ret (Item.d (.put s v g)) := item_at_ok (k := k + 2) b.toBase p m
  refine ret_of_wp fun w => ?_
  simp [F_guard_befores, startE, bindA, List.replicate, wp_bnd, wp_ret, wp_seq, hat, Item.d]
  refine wp_forL2 (fun dn e w' => w' = w ∧ ∃ x3 x4 x5 x6, e = [.fz p.d, .fz (nameD a), .ow ((dn.flatMap (p.guardB a)).map befD), x3, x4, x5, x6]) ⟨rfl, _, _, _, _, rfl⟩ ?_ ?_
  · rintro dn pr rr env w' hdn ⟨rfl, x3, x4, x5, x6, rfl⟩
    have hp : pr ∈ g := by rw [← hdn]; simp
    obtain ⟨g1, g2⟩ := guard_mem (by decide) h5 pr hp
    have hl : ((dn.flatMap (p.guardB a)).map befD).length ≤ 16 := by
      have := guards_le (p := p) (a := a) (g := dn)
      have h6 : (dn ++ pr :: rr).length = g.length := by rw [hdn]
      simp at h6
      rw [List.length_map]
      omega
    have l1 : ((dn.flatMap (p.guardB a)).map befD).length < lim := lt_lim (Nat.le_trans hl (by decide))
    have l2 : ∀ x : D, ((dn.flatMap (p.guardB a)).map befD ++ [x]).length < lim := fun x => lt_lim (by rw [List.length_append]; simp at hl ⊢; omega)
    refine ⟨_, rfl, ?_⟩
    simp [wp_seq, wp_bnd, wp_ret, pairD, change_ok b p ok, d0, st_ix g1 g2]
    have fin : (dn ++ [pr]).flatMap (p.guardB a) = dn.flatMap (p.guardB a) ++ p.guardB a pr := by simp
    have hgb : p.guardB a pr = (if pr.2 = p.st pr.1 then [] else (p.chg pr.1 pr.2).toList.map fun c => (c, a, .guard)) ++
      (if pr.2 = p.st pr.1 ∨ (p.chg pr.1 pr.2).isSome = true then (p.chg pr.1 (1 - pr.2)).toList.map fun c => (a, c, .bar) else []) := rfl
    rw [hgb]
    have e1 : ∀ o : Name, optD (some o) = nameD o := fun _ => rfl
    by_cases c : pr.2 = p.st pr.1
    · cases q1 : p.chg pr.1 pr.2 <;> cases q2 : p.chg pr.1 (1 - pr.2) <;> (rw [c] at q1 q2; simp [c, q1, q2, wp_seq, wp_bnd, wp_ret, wp_itS, e1, appB_ok l1, appB_ok (l2 _), d0, st_ix g1 g2, befD, Srt.d])
    · cases q1 : p.chg pr.1 pr.2 <;> cases q2 : p.chg pr.1 (1 - pr.2) <;> simp [c, wp_seq, wp_bnd, wp_ret, wp_itS, e1, appB_ok l1, appB_ok (l2 _), d0, st_ix g1 g2, befD, Srt.d]
  · rintro e w' ⟨rfl, x3, x4, x5, x6, rfl⟩
    simp [wp_ret, wp_bnd, wp_seq]
end VI

set_option Elab.async false
set_option linter.all false
set_option maxRecDepth 100000
set_option maxHeartbeats 1000000
/-! befores and hopeless deeds, further -/
namespace VI
open PySem
variable {T : Tbl} {gl : Nat → Option D} {n k : Nat}
theorem ok_pairs2 {m : Nat} {l : List (Int × Int)} : (l.map pairD).all (D.ok (m + 1)) = true := by
  induction l with
  | nil => rfl
  | cons x l ih =>
    rw [List.map_cons, List.all_cons, ih]
    show (List.all _ _ && true) = true
    simp
theorem ok_s {m : Nat} {x : Str} (h : PyData.strOk x = true) : D.ok m (.str x) = true := by cases m <;> exact h
theorem okw_tell {m : Nat} : D.ok m (.str ⟨#[116, 101, 108, 108]⟩) = true := ok_s (by decide +kernel)
theorem okw_wait {m : Nat} : D.ok m (.str ⟨#[119, 97, 105, 116]⟩) = true := ok_s (by decide +kernel)
theorem okw_set {m : Nat} : D.ok m (.str ⟨#[115, 101, 116]⟩) = true := ok_s (by decide +kernel)
theorem ok_item {m : Nat} {it : Item} : D.ok (m + 3) it.d = true := by
  cases it with
  | tell s => show List.all _ _ = true; simp [okw_tell]
  | wait s => show List.all _ _ = true; simp [okw_wait]
  | put s v g =>
    show List.all _ _ = true
    simp only [List.all_cons, List.all_nil, Bool.and_true, Bool.and_eq_true]
    exact ⟨okw_set, by simp, by simp, ok_pairs2⟩
theorem eqv_tell {it : Item} {s : Int} : D.cmp .eq it.d (.tup [.str ⟨#[116, 101, 108, 108]⟩, .int s]) = some (isTell s it) := by
  show D.cmpEq _ _ = _
  unfold D.cmpEq
  rw [show D.ok dpt it.d = true from ok_item (m := 9), show D.ok dpt (.tup [.str ⟨#[116, 101, 108, 108]⟩, .int s]) = true from ok_item (m := 9) (it := .tell s)]
  simp only [Bool.and_self, if_true, Option.some.injEq]
  cases it with
  | tell a =>
    show D.eqv (.tup _) (.tup _) = _
    simp only [D.eqv, D.eqvs, isTell, Bool.and_true]
    simp
    by_cases c : a = s <;> simp [c]
  | wait a =>
    show D.eqv (.tup _) (.tup _) = _
    simp only [D.eqv, D.eqvs, isTell, Bool.and_true]
    rfl
  | put a v g =>
    show D.eqv (.tup _) (.tup _) = _
    simp only [D.eqv, D.eqvs, isTell, Bool.and_true]
    rfl
theorem sigB_le {p : Prog} (ok : ProgOk p) {a : Name} {s : Int} : (p.sigB a s).length ≤ 24 := by
  unfold Prog.sigB
  rw [List.length_map]
  exact Nat.le_trans (List.length_filter_le _ _) (its_le ok)
theorem turnB_le {p : Prog} {a : Name} {s v : Int} : (p.turnB a s v).length ≤ 1 := by
  unfold Prog.turnB
  split
  · cases p.chg s (1 - v) <;> simp
  · simp
theorem rowB_le {a : Name} : (rowB a).length ≤ 1 := by
  unfold rowB
  split <;> simp
theorem guard8 {p : Prog} (ok : ProgOk p) {s v : Int} {g : List (Int × Int)} (io : ItemOk p.start.length (.put s v g)) : g.length ≤ 8 := by
  obtain ⟨h1, h2, h3, h4, h5⟩ := io
  have h6 : (g.length : Int) ≤ p.start.length - 1 - (-1) := guard_len (by omega) h5
  have := ok.s2
  omega
theorem itemB_le {p : Prog} (ok : ProgOk p) {q : Name × Item} (m : q ∈ p.its) : (p.itemB q).length ≤ 42 := by
  unfold Prog.itemB
  have io := its_ok ok m
  obtain ⟨a, it⟩ := q
  have := rowB_le (a := a)
  rw [List.length_append]
  cases it with
  | tell s => simp; omega
  | wait s => have := sigB_le ok (a := a) (s := s); simp only; omega
  | put s v g =>
    have h1 := turnB_le (p := p) (a := a) (s := s) (v := v)
    have h2 := guards_le (p := p) (a := a) (g := g)
    have h3 := guard8 ok io
    simp only [List.length_append]
    omega
theorem bef_pre {p : Prog} (ok : ProgOk p) : ∀ {l : List (Name × Item)}, (∀ q ∈ l, q ∈ p.its) → (l.flatMap p.itemB).length ≤ 42 * l.length
  | [], _ => by simp
  | q :: l, h => by
    have h1 := bef_pre ok (l := l) fun x hx => h x (.tail _ hx)
    have h2 := itemB_le ok (h q (.head _))
    rw [List.flatMap_cons, List.length_append, List.length_cons]
    omega
theorem bef_le {p : Prog} (ok : ProgOk p) : p.bef.length ≤ 1008 := by
  have := bef_pre ok (l := p.its) fun q h => h
  have := its_le ok
  unfold Prog.bef
  omega
/-! sorting them -/
theorem toPy_bef (b : Bef) : toPy (befD b) = .tuple [.tuple [.int b.1.1, .int b.1.2], .tuple [.int b.2.1.1, .int b.2.1.2], toPy b.2.2.d] := by
  unfold befD nameD
  simp only [toPy, toPys]
theorem alike_bef (a b : Bef) : PySem.W.alike (toPy (befD a)) (toPy (befD b)) = true := by
  rw [toPy_bef, toPy_bef]
  obtain ⟨_, _, s⟩ := a
  obtain ⟨_, _, t⟩ := b
  cases s <;> cases t <;> simp only [Srt.d, toPy, PySem.W.alike, PySem.W.alikeAll, Bool.and_self]
theorem ok_srt {m : Nat} {s : Srt} : D.ok m s.d = true := by cases s <;> exact ok_s (by decide +kernel)
theorem ok_bef {m : Nat} {b : Bef} : D.ok (m + 2) (befD b) = true := by
  show List.all _ _ = true
  simp only [List.all_cons, List.all_nil, Bool.and_true, Bool.and_eq_true]
  exact ⟨ok_name, ok_name, ok_srt⟩
theorem okSort_bef {l : List Bef} : okSortB (l.map befD) = true := by
  unfold okSortB
  simp only [Bool.and_eq_true, Bool.or_eq_true, List.all_eq_true, List.mem_map]
  refine ⟨?_, ?_, .inl ?_⟩
  · rintro _ ⟨b, _, rfl⟩; exact ok_bef (m := 10)
  · rintro _ ⟨a, _, rfl⟩ _ ⟨b, _, rfl⟩; exact alike_bef a b
  · rintro _ ⟨b, _, rfl⟩; rfl
theorem sorted_bef {l : List Bef} : bl1 .sorted (.lst (l.map befD)) = some (.lst (isortB ltD (l.map befD))) := by
  show sortD _ = _
  unfold sortD
  rw [if_pos okSort_bef]
/-- the sorted ones again are befores -/
theorem isort_bef {l : List Bef} : ∃ l' : List Bef, l'.Perm l ∧ isortB ltD (l.map befD) = l'.map befD := by
  have h := isortB_perm (lt := ltD) (l := l.map befD)
  have : ∀ {xs : List D} {l : List Bef}, xs.Perm (l.map befD) → ∃ l' : List Bef, l'.Perm l ∧ xs = l'.map befD := by
    intro xs
    induction xs with
    | nil =>
      intro l h
      have := h.length_eq
      simp at this
      exact ⟨[], by rw [List.length_eq_zero_iff.mp this.symm], rfl⟩
    | cons x xs ih =>
      intro l h
      have hx : x ∈ l.map befD := h.mem_iff.mp (.head _)
      obtain ⟨b, hb, rfl⟩ := List.mem_map.mp hx
      obtain ⟨l1, l2, rfl⟩ := List.append_of_mem hb
      have h2 : (l1 ++ b :: l2).Perm (b :: (l1 ++ l2)) := List.perm_middle
      have h3 : xs.Perm ((l1 ++ l2).map befD) := by
        have := h.trans (h2.map befD)
        rw [List.map_cons] at this
        exact this.cons_inv
      obtain ⟨l', p1, rfl⟩ := ih h3
      exact ⟨b :: l', (List.Perm.cons b p1).trans h2.symm, rfl⟩
  exact this h
/-- all befores, ascending -/
noncomputable def Prog.befs (p : Prog) : List Bef := Classical.choose (isort_bef (l := p.bef))
theorem befs_perm {p : Prog} : p.befs.Perm p.bef := (Classical.choose_spec (isort_bef (l := p.bef))).1
theorem befs_sort {p : Prog} : isortB ltD (p.bef.map befD) = p.befs.map befD := (Classical.choose_spec (isort_bef (l := p.bef))).2
abbrev wbB : Ss := (.cons (.ite (.cmp .eq (.ix (.var 3) (.int 0)) (.str ⟨#[119, 97, 105, 116]⟩)) (.cons (.for_ (.one 4) (.seq (.call 1797146899509936483699 (.cons (.var 0) .nil))) (.cons (.ite (.cmp .eq (.call 29682851530105204 (.cons (.var 0) (.cons (.var 4) .nil))) (.tup (.cons (.str ⟨#[116, 101, 108, 108]⟩) (.cons (.ix (.var 3) (.int 1)) .nil)))) (.cons (.app 1 (.tup (.cons (.var 4) (.cons (.var 2) (.cons (.str ⟨#[115, 105, 103, 110, 97, 108]⟩) .nil))))) .nil) .nil) .nil)) .nil) .nil) (.cons (.ite (.cmp .eq (.ix (.var 3) (.int 0)) (.str ⟨#[115, 101, 116]⟩)) (.cons (.ite (.cmp .eq (.ix (.var 3) (.int 2)) (.ix (.ix (.var 0) (.int 0)) (.ix (.var 3) (.int 1)))) (.cons (.app 1 (.tup (.cons (.call 109299962373989 (.cons (.var 0) (.cons (.ix (.var 3) (.int 1)) (.cons (.bin .sub (.int 1) (.ix (.var 3) (.int 2))) .nil)))) (.cons (.var 2) (.cons (.str ⟨#[116, 117, 114, 110]⟩) .nil))))) .nil) .nil) (.cons (.own 1 (.bin .add (.bor 1) (.call 8196828291124153386188233926003 (.cons (.var 0) (.cons (.var 2) .nil))))) .nil)) .nil) .nil))
abbrev sbB : Ss := (.cons (.ite (.cmp .eq (.ix (.var 3) (.int 0)) (.str ⟨#[115, 101, 116]⟩)) (.cons (.ite (.cmp .eq (.ix (.var 3) (.int 2)) (.ix (.ix (.var 0) (.int 0)) (.ix (.var 3) (.int 1)))) (.cons (.app 1 (.tup (.cons (.call 109299962373989 (.cons (.var 0) (.cons (.ix (.var 3) (.int 1)) (.cons (.bin .sub (.int 1) (.ix (.var 3) (.int 2))) .nil)))) (.cons (.var 2) (.cons (.str ⟨#[116, 117, 114, 110]⟩) .nil))))) .nil) .nil) (.cons (.own 1 (.bin .add (.bor 1) (.call 8196828291124153386188233926003 (.cons (.var 0) (.cons (.var 2) .nil))))) .nil)) .nil) .nil)
abbrev gbB : Ss := (.cons (.own 1 (.bin .add (.bor 1) (.call 8196828291124153386188233926003 (.cons (.var 0) (.cons (.var 2) .nil))))) .nil)

theorem befores_in_ok (b : Bfs T gl) (p : Prog) (ok : ProgOk p) (hs : p.bents = []) : run T gl n (k + 5) 464662417716764232083822 [p.d] = ret (.lst (p.befs.map befD)) := by
  rw [run_at b.befores_in rfl]
  have pd : p.d = .tup [.tup (p.start.map .int), .tup (p.rows.map rowD)] := rfl
  have d0 : ixM p.d (.int 0) = ret (.tup (p.start.map .int)) := by rw [pd]; simp
  refine ret_of_wp fun w => ?_
  simp [F_befores_in, startE, bindA, List.replicate, wp_bnd, wp_ret, wp_seq, all_items_ok b.toBase p ok]
  refine wp_forL2 (fun dn e w' => w' = w ∧ ∃ L x2 x3 x4, e = [.fz p.d, .ow L, x2, x3, x4] ∧ L = (dn.flatMap p.itemB).map befD) ⟨rfl, _, _, _, _, rfl, rfl⟩ ?_ ?_
  · rintro dn q rr env w' hdn ⟨rfl, L, x2, x3, x4, rfl, hL⟩
    have hq : q ∈ p.its := by rw [← hdn]; simp
    have hl : L.length ≤ 1008 := by
      have h1 := bef_pre ok (l := dn) fun x hx => by rw [← hdn]; simp [hx]
      have h2 := its_le ok
      rw [← hdn] at h2
      simp at h2
      rw [hL, List.length_map]
      omega
    have io := its_ok ok hq
    have fin : ((dn ++ [q]).flatMap p.itemB).map befD = L ++ (p.itemB q).map befD := by rw [hL]; simp
    have hat : run T gl n (k + 4) 29682851530105204 [p.d, nameD q.1] = ret q.2.d := item_at_ok (k := k + 3) b.toBase p hq
    obtain ⟨a, it⟩ := q
    simp only at hat
    clear hL
    -- behind the row's before
    have rest : ∀ X : List D, X.length ≤ 1010 → X = L ++ (rowB a).map befD →
        wp (execs ⟨run T gl n (k + 4), gl, n⟩ wbB [.fz p.d, .ow X, .fz (nameD a), .fz it.d, x4]) w' (fun fl w'' => match fl with
          | .nx e => w'' = w' ∧ ∃ L x2 x3 x4, e = [.fz p.d, .ow L, x2, x3, x4] ∧ L = ((dn ++ [(a, it)]).flatMap p.itemB).map befD
          | .bk e => False
          | .rt d => False) := by
      intro X hX fin2
      rw [fin]
      cases it with
      | tell s =>
        simp [wp_seq, wp_bnd, wp_ret, Item.d]
        rw [fin2]; simp [Prog.itemB]
      | wait s =>
        have fin3 : L ++ (p.itemB (a, .wait s)).map befD = X ++ (p.sigB a s).map befD := by rw [fin2]; simp [Prog.itemB]
        rw [fin3]
        simp [wp_seq, wp_bnd, wp_ret, wp_itS, Item.d, all_items_ok b.toBase p ok]
        refine wp_forL2 (fun dn2 e w2 => w2 = w' ∧ ∃ L2 x4, e = [.fz p.d, .ow L2, .fz (nameD a), .fz (.tup [.str ⟨#[119, 97, 105, 116]⟩, .int s]), x4] ∧ L2 = X ++ (dn2.filter fun q => isTell s q.2).map fun q => befD (q.1, a, Srt.signal)) ⟨rfl, _, _, rfl, by simp⟩ ?_ ?_
        · rintro dn2 q2 rr2 env w2 hdn2 ⟨rfl, L2, x4, rfl, hL2⟩
          have hq2 : q2 ∈ p.its := by rw [← hdn2]; simp
          have hat2 : run T gl n (k + 4) 29682851530105204 [p.d, nameD q2.1] = ret q2.2.d := item_at_ok (k := k + 3) b.toBase p hq2
          have hl2 : L2.length < lim := lt_lim (by
            have h1 := List.length_filter_le (fun (q : Name × Item) => isTell s q.2) dn2
            have h2 := its_le ok
            have h3 := congrArg List.length hdn2
            simp only [List.length_append, List.length_cons] at h3
            rw [hL2, List.length_append, List.length_map]
            have h4 : (List.filter (fun (q : (Nat × Nat) × Item) => isTell s q.snd) dn2).length ≤ dn2.length := h1
            omega)
          refine ⟨_, rfl, ?_⟩
          simp [wp_seq, wp_bnd, wp_ret, hat2, eqv_tell]
          cases c : isTell s q2.2 with
          | true =>
            simp [wp_ret, wp_bnd, appB_ok hl2]
            rw [hL2]
            simp [c, befD, Srt.d]
          | false =>
            simp [c, wp_ret]
            exact hL2
        · rintro e w2 ⟨rfl, L2, x4, rfl, hL2⟩
          simp [wp_seq, wp_bnd, wp_ret]
          rw [hL2]
          simp [Prog.sigB]
      | put s v g =>
        obtain ⟨h1, h2, h3, h4, h5⟩ := io
        have hg := guard_befores_ok (n := n) (k := k) b p ok hs hq
        have hgl := guards_le (p := p) (a := a) (g := g)
        have hg8 := guard8 ok (show ItemOk p.start.length (.put s v g) from ⟨h1, h2, h3, h4, h5⟩)
        have fin3 : L ++ (p.itemB (a, .put s v g)).map befD = X ++ ((p.turnB a s v).map befD ++ (g.flatMap (p.guardB a)).map befD) := by rw [fin2]; simp [Prog.itemB]
        rw [fin3]
        generalize hgs : (g.flatMap (p.guardB a)).map befD = gs at hg ⊢
        have hgs2 : gs.length ≤ 16 := by rw [← hgs, List.length_map]; omega
        simp [wp_seq, wp_bnd, wp_ret, Item.d, d0, st_ix h1 h2]
        by_cases c : v = p.st s
        · obtain ⟨cc, e1⟩ := turn_some hs hq c
          have hl2 : X.length < lim := lt_lim (by omega)
          have ech : run T gl n (k + 4) 109299962373989 [p.d, .int s, .int (1 - v)] = ret (nameD cc) := by
            have := change_ok (n := n) (k := k + 1) b p ok s (1 - v)
            rw [e1] at this
            exact this
          have et : (p.turnB a s v).map befD = [befD (cc, a, .turn)] := by unfold Prog.turnB; rw [if_pos c, e1]; rfl
          rw [et]
          rw [c] at ech
          simp [c, wp_seq, wp_bnd, wp_ret, ech, appB_ok hl2, hg]
          rw [add_lst (by rw [List.length_append]; exact le_lim (by simp; omega))]
          simp [wp_ret, befD, Srt.d]
        · have et : (p.turnB a s v).map befD = [] := by unfold Prog.turnB; rw [if_neg c]; rfl
          rw [et]
          simp [c, wp_seq, wp_bnd, wp_ret, hg]
          rw [add_lst (le_lim (by omega))]
          simp [wp_ret]
    refine ⟨_, rfl, ?_⟩
    simp [wp_seq, wp_bnd, wp_ret, hat]
    rw [show ixM (nameD a) (.int 1) = ret (.int (a.2 : Int)) by simp [nameD]]
    by_cases c : 0 < a.2
    · have e0 : (0 : Int) < (a.2 : Int) := by omega
      have hl2 : L.length < lim := lt_lim (by omega)
      have e1 : ((a.2 - 1 : Nat) : Int) = (a.2 : Int) - 1 := by omega
      have := rest (L ++ [.tup [.tup [.int a.1, .int ((a.2 : Int) - 1)], nameD a, .str ⟨#[114, 111, 119]⟩]]) (by simp; omega) (by
        unfold rowB
        rw [if_pos c]
        simp [befD, nameD, e1, Srt.d])
      simp only [nameD] at this
      simp [c, nameD, wp_seq, wp_bnd, wp_ret, appB_ok hl2]
      simp [wp_seq, wp_bnd, wp_ret] at this
      exact wp_seq.mp (wp_mono (wp_seq.mpr this) fun fl w2 h => by cases fl <;> first | exact h | exact h.elim)
    · have e0 : ¬ (0 : Int) < (a.2 : Int) := by omega
      have := rest L (by omega) (by unfold rowB; rw [if_neg c]; simp)
      simp only [nameD] at this
      simp [c, nameD, wp_seq, wp_bnd, wp_ret]
      simp [wp_seq, wp_bnd, wp_ret] at this
      exact wp_seq.mp (wp_mono (wp_seq.mpr this) fun fl w2 h => by cases fl <;> first | exact h | exact h.elim)
  · rintro e w' ⟨rfl, L, x2, x3, x4, rfl, hL⟩
    simp [wp_ret, wp_bnd, wp_seq]
    rw [hL, show p.its.flatMap p.itemB = p.bef from rfl, sorted_bef, befs_sort]
    simp [wp_ret]
end VI

set_option Elab.async false
set_option linter.all false
set_option maxRecDepth 100000
set_option maxHeartbeats 1000000
/-! hopeless deeds; the law's own befores -/
namespace VI
open PySem
variable {T : Tbl} {gl : Nat → Option D} {n k : Nat}
theorem need_straight_ok (b : Bfs T gl) (p : Prog) (ok : ProgOk p) (hs : p.bents = []) : run T gl n (k + 6) 8746478438066222438918977448052 [p.d] = ret .non := by
  rw [run_at b.need_straight rfl]
  simp [F_need_straight, startE, bindA, List.replicate, bent_ok b.toBase2 p ok, hs, firstD]
/-- a guard asks for what never is -/
def hopeB (p : Prog) : Item → Bool
  | .put _ _ g => g.any fun pr => !decide (pr.2 = p.st pr.1) && (p.chg pr.1 pr.2).isNone
  | _ => false
def Prog.hopes (p : Prog) : List (Name × Item) := p.its.filter fun q => hopeB p q.2
theorem guard_val {s m : Int} : ∀ {g : List (Int × Int)} {l : Int}, GuardOk s m l g → ∀ q ∈ g, 0 ≤ q.2 ∧ q.2 ≤ 1
  | p :: g, l, h, q, hq => by
    obtain ⟨a1, a2, a3, a4, a5, a6⟩ := h
    rcases List.mem_cons.mp hq with rfl | hq
    · exact ⟨a4, a5⟩
    · exact guard_val a6 q hq
theorem st_val {p : Prog} (ok : ProgOk p) {s : Int} (h : 0 ≤ s) (h2 : s < p.start.length) : 0 ≤ p.st s ∧ p.st s ≤ 1 := by
  unfold Prog.st
  have : s.toNat < p.start.length := by omega
  have e : p.start.getD s.toNat 0 = p.start[s.toNat] := by simp [this]
  rw [e]
  exact ok.sv _ (List.getElem_mem this)
theorem ints_isEmpty {α : Type} {l : List α} {f : α → D} : (l.map f).isEmpty = l.isEmpty := by cases l <;> rfl
theorem hopeless_in_ok (b : Bfh T gl) (p : Prog) (ok : ProgOk p) : run T gl n (k + 4) 126254541263184062104693102 [p.d] = ret (.lst (p.hopes.map fun q => nameD q.1)) := by
  rw [run_at b.hopeless_in rfl]
  have pd : p.d = .tup [.tup (p.start.map .int), .tup (p.rows.map rowD)] := rfl
  have d0 : ixM p.d (.int 0) = ret (.tup (p.start.map .int)) := by rw [pd]; simp
  refine ret_of_wp fun w => ?_
  simp [F_hopeless_in, startE, bindA, List.replicate, wp_bnd, wp_ret, wp_seq, all_items_ok b.toBase p ok]
  refine wp_forL2 (fun dn e w' => w' = w ∧ ∃ L x2 x3 x4 x5 x6, e = [.fz p.d, .ow L, x2, x3, x4, x5, x6] ∧ L = (dn.filter fun q => hopeB p q.2).map fun q => nameD q.1) ⟨rfl, _, _, _, _, _, _, rfl, rfl⟩ ?_ ?_
  · rintro dn q rr env w' hdn ⟨rfl, L, x2, x3, x4, x5, x6, rfl, hL⟩
    have hq : q ∈ p.its := by rw [← hdn]; simp
    have hl : L.length < lim := lt_lim (by
      have h1 := List.length_filter_le (fun (q : Name × Item) => hopeB p q.2) dn
      have h2 := its_le ok
      have h3 := congrArg List.length hdn
      simp only [List.length_append, List.length_cons] at h3
      rw [hL, List.length_map]
      have h4 : (List.filter (fun (q : (Nat × Nat) × Item) => hopeB p q.snd) dn).length ≤ dn.length := h1
      omega)
    have io := its_ok ok hq
    have hat : run T gl n (k + 3) 29682851530105204 [p.d, nameD q.1] = ret q.2.d := item_at_ok (k := k + 2) b.toBase p hq
    obtain ⟨a, it⟩ := q
    simp only at hat
    refine ⟨_, rfl, ?_⟩
    cases it with
    | tell s =>
      simp [wp_seq, wp_bnd, wp_ret, hat, Item.d]
      rw [hL]; simp [hopeB]
    | wait s =>
      simp [wp_seq, wp_bnd, wp_ret, hat, Item.d]
      rw [hL]; simp [hopeB]
    | put s v g =>
      obtain ⟨h1, h2, h3, h4, h5⟩ := io
      have hg8 := guard8 ok (show ItemOk p.start.length (.put s v g) from ⟨h1, h2, h3, h4, h5⟩)
      have d0' := d0
      simp [wp_seq, wp_bnd, wp_ret, hat, Item.d]
      rw [mapM_pureL (h := fun pr => if (!decide (pr.2 = p.st pr.1)) = true then some (.int pr.1) else none) fun pr hp => by
        obtain ⟨g1, g2⟩ := guard_mem (by decide) h5 pr hp
        simp [pairD, d0, st_ix g1 g2]
        by_cases c : pr.2 = p.st pr.1 <;> simp [c]]
      rw [fm_filter (f := fun (pr : Int × Int) => D.int pr.1)]
      have l1 : (g.filter fun pr => !decide (pr.2 = p.st pr.1)).length ≤ lim := le_lim (by have := List.length_filter_le (fun (pr : Int × Int) => !decide (pr.2 = p.st pr.1)) g; omega)
      simp [wp_seq, wp_bnd, wp_ret, l1]
      rw [mapM_pureL (h := fun pr => if (p.chg pr.1 pr.2).isNone = true then some (.int pr.1) else none) fun pr hp => by
        obtain ⟨hp1, hp2⟩ := List.mem_filter.mp hp
        obtain ⟨g1, g2⟩ := guard_mem (by decide) h5 pr hp1
        obtain ⟨v1, v2⟩ := guard_val h5 pr hp1
        obtain ⟨t1, t2⟩ := st_val ok g1 g2
        have hp2 : pr.2 ≠ p.st pr.1 := by simpa using hp2
        have e : 1 - p.st pr.1 = pr.2 := by omega
        simp [d0, st_ix g1 g2, change_ok b.toBfs p ok, e]
        cases p.chg pr.1 pr.2 <;> simp]
      rw [fm_filter (f := fun (pr : Int × Int) => D.int pr.1), List.filter_filter]
      have l2 : (g.filter fun pr => (p.chg pr.1 pr.2).isNone && !decide (pr.2 = p.st pr.1)).length ≤ lim := le_lim (by have := List.length_filter_le (fun (pr : Int × Int) => (p.chg pr.1 pr.2).isNone && !decide (pr.2 = p.st pr.1)) g; omega)
      have e3 : (g.filter fun pr => (p.chg pr.1 pr.2).isNone && !decide (pr.2 = p.st pr.1)).isEmpty = !(hopeB p (.put s v g)) := by
        unfold hopeB
        clear hq hdn hat h5 hg8 l1 l2
        induction g with
        | nil => rfl
        | cons x l ih =>
          rw [List.filter_cons]
          simp only [List.any_cons] at ih ⊢
          rw [Bool.and_comm]
          cases (!decide (x.2 = p.st x.1)) && (p.chg x.1 x.2).isNone
          · simpa using ih
          · rfl
      have oki : D.ok dpt (.lst ((g.filter fun pr => (p.chg pr.1 pr.2).isNone && !decide (pr.2 = p.st pr.1)).map fun pr => D.int pr.1)) = true := by
        show List.all _ _ = true
        rw [List.all_eq_true]
        intro x hx
        obtain ⟨y, _, rfl⟩ := List.mem_map.mp hx
        exact ok_int
      simp [wp_seq, wp_bnd, wp_ret, l2, cmp_ne_nil oki, ints_isEmpty, e3]
      cases c : hopeB p (.put s v g) with
      | true =>
        simp [wp_seq, wp_bnd, wp_ret, appB_ok hl]
        rw [hL]; simp [c]
      | false =>
        simp [wp_seq, wp_bnd, wp_ret]
        rw [hL]; simp [c]
  · rintro e w' ⟨rfl, L, x2, x3, x4, x5, x6, rfl, hL⟩
    simp [wp_ret, wp_bnd, wp_seq]
    rw [hL]; rfl
/-! the law's own -/
structure Lbf (T : Tbl) : Prop extends Nm T where
  befores : T.at_ 29532100193130712078696473971 = some F__law_befores
abbrev wbL : Ss := (.cons (.ite (.cmp .eq (.ix (.var 3) (.int 0)) (.str ⟨#[119, 97, 105, 116]⟩)) (.cons (.for_ (.many [6, 7]) (.seq (.call 450624087419648520054131 (.cons (.var 0) .nil))) (.cons (.ite (.cmp .eq (.ix (.ix (.ix (.var 0) (.int 1)) (.var 6)) (.var 7)) (.tup (.cons (.str ⟨#[116, 101, 108, 108]⟩) (.cons (.ix (.var 3) (.int 1)) .nil)))) (.cons (.app 1 (.tup (.cons (.tup (.cons (.var 6) (.cons (.var 7) .nil))) (.cons (.var 2) (.cons (.str ⟨#[115, 105, 103, 110, 97, 108]⟩) .nil))))) .nil) .nil) .nil)) .nil) .nil) (.cons (.ite (.and (.cmp .eq (.ix (.var 3) (.int 0)) (.str ⟨#[115, 101, 116]⟩)) (.cmp .eq (.ix (.var 3) (.int 2)) (.ix (.ix (.var 0) (.int 0)) (.ix (.var 3) (.int 1))))) (.cons (.app 1 (.tup (.cons (.ix (.call 115359766379435535990285682 (.cons (.var 0) (.cons (.ix (.var 3) (.int 1)) (.cons (.bin .sub (.int 1) (.ix (.var 3) (.int 2))) .nil)))) (.int 0)) (.cons (.var 2) (.cons (.str ⟨#[116, 117, 114, 110]⟩) .nil))))) .nil) .nil) (.cons (.for_ (.many [4, 5]) (.seq (.ite (.cmp .eq (.ix (.var 3) (.int 0)) (.str ⟨#[115, 101, 116]⟩)) (.ix (.var 3) (.int 3)) (.tup .nil))) (.cons (.par [(8, 0), (9, 0)] (.cons (.call 115359766379435535990285682 (.cons (.var 0) (.cons (.var 4) (.cons (.var 5) .nil)))) (.cons (.call 115359766379435535990285682 (.cons (.var 0) (.cons (.var 4) (.cons (.bin .sub (.int 1) (.var 5)) .nil)))) .nil))) (.cons (.ite (.cmp .ne (.var 5) (.ix (.ix (.var 0) (.int 0)) (.var 4))) (.cons (.own 1 (.bin .add (.bor 1) (.comp (.one 10) (.seq (.var 8)) .none (.tup (.cons (.var 10) (.cons (.var 2) (.cons (.str ⟨#[103, 117, 97, 114, 100]⟩) .nil))))))) .nil) .nil) (.cons (.ite (.or (.cmp .eq (.var 5) (.ix (.ix (.var 0) (.int 0)) (.var 4))) (.cmp .ne (.var 8) (.lst .nil))) (.cons (.own 1 (.bin .add (.bor 1) (.comp (.one 11) (.seq (.var 9)) .none (.tup (.cons (.var 2) (.cons (.var 11) (.cons (.str ⟨#[98, 97, 114]⟩) .nil))))))) .nil) .nil) .nil)))) .nil)))
abbrev sbL : Ss := (.cons (.ite (.and (.cmp .eq (.ix (.var 3) (.int 0)) (.str ⟨#[115, 101, 116]⟩)) (.cmp .eq (.ix (.var 3) (.int 2)) (.ix (.ix (.var 0) (.int 0)) (.ix (.var 3) (.int 1))))) (.cons (.app 1 (.tup (.cons (.ix (.call 115359766379435535990285682 (.cons (.var 0) (.cons (.ix (.var 3) (.int 1)) (.cons (.bin .sub (.int 1) (.ix (.var 3) (.int 2))) .nil)))) (.int 0)) (.cons (.var 2) (.cons (.str ⟨#[116, 117, 114, 110]⟩) .nil))))) .nil) .nil) (.cons (.for_ (.many [4, 5]) (.seq (.ite (.cmp .eq (.ix (.var 3) (.int 0)) (.str ⟨#[115, 101, 116]⟩)) (.ix (.var 3) (.int 3)) (.tup .nil))) (.cons (.par [(8, 0), (9, 0)] (.cons (.call 115359766379435535990285682 (.cons (.var 0) (.cons (.var 4) (.cons (.var 5) .nil)))) (.cons (.call 115359766379435535990285682 (.cons (.var 0) (.cons (.var 4) (.cons (.bin .sub (.int 1) (.var 5)) .nil)))) .nil))) (.cons (.ite (.cmp .ne (.var 5) (.ix (.ix (.var 0) (.int 0)) (.var 4))) (.cons (.own 1 (.bin .add (.bor 1) (.comp (.one 10) (.seq (.var 8)) .none (.tup (.cons (.var 10) (.cons (.var 2) (.cons (.str ⟨#[103, 117, 97, 114, 100]⟩) .nil))))))) .nil) .nil) (.cons (.ite (.or (.cmp .eq (.var 5) (.ix (.ix (.var 0) (.int 0)) (.var 4))) (.cmp .ne (.var 8) (.lst .nil))) (.cons (.own 1 (.bin .add (.bor 1) (.comp (.one 11) (.seq (.var 9)) .none (.tup (.cons (.var 2) (.cons (.var 11) (.cons (.str ⟨#[98, 97, 114]⟩) .nil))))))) .nil) .nil) .nil)))) .nil))
abbrev gbL : Ss := (.cons (.for_ (.many [4, 5]) (.seq (.ite (.cmp .eq (.ix (.var 3) (.int 0)) (.str ⟨#[115, 101, 116]⟩)) (.ix (.var 3) (.int 3)) (.tup .nil))) (.cons (.par [(8, 0), (9, 0)] (.cons (.call 115359766379435535990285682 (.cons (.var 0) (.cons (.var 4) (.cons (.var 5) .nil)))) (.cons (.call 115359766379435535990285682 (.cons (.var 0) (.cons (.var 4) (.cons (.bin .sub (.int 1) (.var 5)) .nil)))) .nil))) (.cons (.ite (.cmp .ne (.var 5) (.ix (.ix (.var 0) (.int 0)) (.var 4))) (.cons (.own 1 (.bin .add (.bor 1) (.comp (.one 10) (.seq (.var 8)) .none (.tup (.cons (.var 10) (.cons (.var 2) (.cons (.str ⟨#[103, 117, 97, 114, 100]⟩) .nil))))))) .nil) .nil) (.cons (.ite (.or (.cmp .eq (.var 5) (.ix (.ix (.var 0) (.int 0)) (.var 4))) (.cmp .ne (.var 8) (.lst .nil))) (.cons (.own 1 (.bin .add (.bor 1) (.comp (.one 11) (.seq (.var 9)) .none (.tup (.cons (.var 2) (.cons (.var 11) (.cons (.str ⟨#[98, 97, 114]⟩) .nil))))))) .nil) .nil) .nil)))) .nil)
abbrev giL : Ss := (.cons (.par [(8, 0), (9, 0)] (.cons (.call 115359766379435535990285682 (.cons (.var 0) (.cons (.var 4) (.cons (.var 5) .nil)))) (.cons (.call 115359766379435535990285682 (.cons (.var 0) (.cons (.var 4) (.cons (.bin .sub (.int 1) (.var 5)) .nil)))) .nil))) (.cons (.ite (.cmp .ne (.var 5) (.ix (.ix (.var 0) (.int 0)) (.var 4))) (.cons (.own 1 (.bin .add (.bor 1) (.comp (.one 10) (.seq (.var 8)) .none (.tup (.cons (.var 10) (.cons (.var 2) (.cons (.str ⟨#[103, 117, 97, 114, 100]⟩) .nil))))))) .nil) .nil) (.cons (.ite (.or (.cmp .eq (.var 5) (.ix (.ix (.var 0) (.int 0)) (.var 4))) (.cmp .ne (.var 8) (.lst .nil))) (.cons (.own 1 (.bin .add (.bor 1) (.comp (.one 11) (.seq (.var 9)) .none (.tup (.cons (.var 2) (.cons (.var 11) (.cons (.str ⟨#[98, 97, 114]⟩) .nil))))))) .nil) .nil) .nil)))
theorem lbefores_ok (b : Lbf T) (p : Prog) (ok : ProgOk p) (hs : p.bents = []) : run T gl n (k + 3) 29532100193130712078696473971 [p.d] = ret (.lst (p.befs.map befD)) := by
  rw [run_at b.befores rfl]
  have pd : p.d = .tup [.tup (p.start.map .int), .tup (p.rows.map rowD)] := rfl
  have d0 : ixM p.d (.int 0) = ret (.tup (p.start.map .int)) := by rw [pd]; simp
  have d1 : ixM p.d (.int 1) = ret (.tup (p.rows.map rowD)) := by rw [pd]; simp
  refine ret_of_wp fun w => ?_
  simp [F__law_befores, startE, bindA, List.replicate, wp_bnd, wp_ret, wp_seq, names_ok b.toNm p ok]
  refine wp_forL2 (fun dn e w' => w' = w ∧ ∃ L x2 x3 x4 x5 x6 x7 x8 x9, e = [.fz p.d, .ow L, x2, x3, x4, x5, x6, x7, x8, x9, .no, .no] ∧ L = (dn.flatMap p.itemB).map befD) ⟨rfl, _, _, _, _, _, _, _, _, _, rfl, rfl⟩ ?_ ?_
  · rintro dn q rr env w' hdn ⟨rfl, L, x2, x3, x4, x5, x6, x7, x8, x9, rfl, hL⟩
    have hq : q ∈ p.its := by rw [← hdn]; simp
    have hl : L.length ≤ 1008 := by
      have h1 := bef_pre ok (l := dn) fun x hx => by rw [← hdn]; simp [hx]
      have h2 := its_le ok
      rw [← hdn] at h2
      simp at h2
      rw [hL, List.length_map]
      omega
    have io := its_ok ok hq
    obtain ⟨row, r1, r2⟩ := its_at hq
    have fin : ((dn ++ [q]).flatMap p.itemB).map befD = L ++ (p.itemB q).map befD := by rw [hL]; simp
    obtain ⟨a, it⟩ := q
    have r1 : p.rows[a.1]? = some row := r1
    have r2 : row[a.2]? = some it := r2
    clear hL
    -- the guards' befores
    have grest : ∀ (X : List D) (s v : Int) (g : List (Int × Int)) (y6 y7 : Sl), it = .put s v g → X.length ≤ 1020 → wp (execs ⟨run T gl n (k + 2), gl, n⟩ gbL [.fz p.d, .ow X, .fz (nameD a), .fz (Item.d (.put s v g)), x4, x5, y6, y7, x8, x9, .no, .no]) w' (fun fl w'' => w'' = w' ∧ ∃ x4 x5 x8 x9, fl = .nx [.fz p.d, .ow (X ++ (g.flatMap (p.guardB a)).map befD), .fz (nameD a), .fz (Item.d (.put s v g)), x4, x5, y6, y7, x8, x9, .no, .no]) := by
      intro X s v g y6 y7 hit hX
      subst hit
      obtain ⟨h1, h2, h3, h4, h5⟩ := io
      have hg8 := guard8 ok (show ItemOk p.start.length (.put s v g) from ⟨h1, h2, h3, h4, h5⟩)
      simp [wp_seq, wp_bnd, wp_ret, Item.d]
      refine wp_forL2 (fun dn2 e w2 => w2 = w' ∧ ∃ L2 x4 x5 x8 x9, e = [.fz p.d, .ow L2, .fz (nameD a), .fz (Item.d (.put s v g)), x4, x5, y6, y7, x8, x9, .no, .no] ∧ L2 = X ++ (dn2.flatMap (p.guardB a)).map befD) ⟨rfl, _, _, _, _, _, rfl, by simp⟩ ?_ ?_
      · rintro dn2 pr rr2 env w2 hdn2 ⟨rfl, L2, x4, x5, x8, x9, rfl, hL2⟩
        have hp : pr ∈ g := by rw [← hdn2]; simp
        obtain ⟨g1, g2⟩ := guard_mem (by decide) h5 pr hp
        have hl2 : L2.length ≤ 1040 := by
          have := guards_le (p := p) (a := a) (g := dn2)
          have h6 := congrArg List.length hdn2
          simp only [List.length_append, List.length_cons] at h6
          rw [hL2, List.length_append, List.length_map]
          omega
        have fin4 : X ++ ((dn2 ++ [pr]).flatMap (p.guardB a)).map befD = L2 ++ (p.guardB a pr).map befD := by rw [hL2]; simp
        refine ⟨_, rfl, ?_⟩
        rw [fin4]
        have hgs : (p.guardB a pr).map befD = ((if pr.2 = p.st pr.1 then [] else (p.chg pr.1 pr.2).toList.map fun c => (c, a, Srt.guard)) ++
          (if pr.2 = p.st pr.1 ∨ (p.chg pr.1 pr.2).isSome = true then (p.chg pr.1 (1 - pr.2)).toList.map fun c => (a, c, Srt.bar) else [])).map befD := rfl
        generalize (p.guardB a pr).map befD = gs at hgs ⊢
        clear hL2 fin4 hX
        simp [wp_seq, wp_bnd, wp_ret, pairD, setter_ok b.toNm p ok, chg_list hs, d0, st_ix g1 g2]
        have okn : ∀ {x : Name}, D.ok dpt (.lst [nameD x]) = true := fun {x} => by show List.all _ _ = true; simp [ok_name]
        have ad1 : ∀ x : D, D.bin .add (.lst L2) (.lst [x]) = some (.lst (L2 ++ [x])) := fun x => add_lst (le_lim (by simp; omega))
        have ad0 : D.bin .add (.lst L2) (.lst []) = some (.lst L2) := by rw [add_lst (le_lim (by simp; omega)), List.append_nil]
        have ad2 : ∀ x y : D, D.bin .add (.lst (L2 ++ [x])) (.lst [y]) = some (.lst (L2 ++ [x] ++ [y])) := fun x y => add_lst (le_lim (by simp; omega))
        have ad3 : ∀ x : D, D.bin .add (.lst (L2 ++ [x])) (.lst []) = some (.lst (L2 ++ [x])) := fun x => by rw [add_lst (le_lim (by simp; omega)), List.append_nil]
        by_cases c : pr.2 = p.st pr.1
        · cases q1 : p.chg pr.1 pr.2 <;> cases q2 : p.chg pr.1 (1 - pr.2) <;> (rw [q1, q2] at hgs; rw [c] at q1 q2 hgs; simp [c] at hgs; subst hgs; simp [c, q1, q2, wp_seq, wp_bnd, wp_ret, wp_itS, mapM, d0, st_ix g1 g2, cmp_ne_nil okn, ad0, ad1, ad2, ad3, befD, Srt.d])
        · cases q1 : p.chg pr.1 pr.2 <;> cases q2 : p.chg pr.1 (1 - pr.2) <;> (rw [q1, q2] at hgs; simp [c] at hgs; subst hgs; simp [c, q1, q2, wp_seq, wp_bnd, wp_ret, wp_itS, mapM, d0, st_ix g1 g2, cmp_ne_nil okn, ad0, ad1, ad2, ad3, befD, Srt.d])
      · rintro e w2 ⟨rfl, L2, x4, x5, x8, x9, rfl, hL2⟩
        simp [wp_seq, wp_bnd, wp_ret, hL2, Item.d]
    -- behind the row's before
    have rest : ∀ X : List D, X.length ≤ 1010 → X = L ++ (rowB a).map befD →
        wp (execs ⟨run T gl n (k + 2), gl, n⟩ wbL [.fz p.d, .ow X, .fz (nameD a), .fz it.d, x4, x5, x6, x7, x8, x9, .no, .no]) w' (fun fl w'' => match fl with
          | .nx e => w'' = w' ∧ ∃ L x2 x3 x4 x5 x6 x7 x8 x9, e = [.fz p.d, .ow L, x2, x3, x4, x5, x6, x7, x8, x9, .no, .no] ∧ L = ((dn ++ [(a, it)]).flatMap p.itemB).map befD
          | .bk e => False
          | .rt d => False) := by
      intro X hX fin2
      rw [fin]
      cases it with
      | tell s =>
        simp [wp_seq, wp_bnd, wp_ret, wp_itS, Item.d, forL]
        rw [fin2]; simp [Prog.itemB]
      | wait s =>
        have fin3 : L ++ (p.itemB (a, .wait s)).map befD = X ++ (p.sigB a s).map befD := by rw [fin2]; simp [Prog.itemB]
        rw [fin3]
        simp [wp_seq, wp_bnd, wp_ret, wp_itS, Item.d, names_ok b.toNm p ok]
        refine wp_forL2 (fun dn2 e w2 => w2 = w' ∧ ∃ L2 x6 x7, e = [.fz p.d, .ow L2, .fz (nameD a), .fz (.tup [.str ⟨#[119, 97, 105, 116]⟩, .int s]), x4, x5, x6, x7, x8, x9, .no, .no] ∧ L2 = X ++ (dn2.filter fun q => isTell s q.2).map fun q => befD (q.1, a, Srt.signal)) ⟨rfl, _, _, _, rfl, by simp⟩ ?_ ?_
        · rintro dn2 q2 rr2 env w2 hdn2 ⟨rfl, L2, x6, x7, rfl, hL2⟩
          have hq2 : q2 ∈ p.its := by rw [← hdn2]; simp
          obtain ⟨row2, t1, t2⟩ := its_at hq2
          have hl2 : L2.length < lim := lt_lim (by
            have h1 := List.length_filter_le (fun (q : Name × Item) => isTell s q.2) dn2
            have h2 := its_le ok
            have h3 := congrArg List.length hdn2
            simp only [List.length_append, List.length_cons] at h3
            rw [hL2, List.length_append, List.length_map]
            have h4 : (List.filter (fun (q : (Nat × Nat) × Item) => isTell s q.snd) dn2).length ≤ dn2.length := h1
            omega)
          obtain ⟨nm2, it2⟩ := q2
          have t1 : p.rows[nm2.1]? = some row2 := t1
          have t2 : row2[nm2.2]? = some it2 := t2
          refine ⟨_, rfl, ?_⟩
          simp [wp_seq, wp_bnd, wp_ret, d1, t1, rowD, t2, eqv_tell]
          cases c : isTell s it2 with
          | true =>
            simp [wp_ret, wp_bnd, appB_ok hl2]
            rw [hL2]
            simp [c, befD, Srt.d, nameD]
          | false =>
            simp [c, wp_ret]
            exact hL2
        · rintro e w2 ⟨rfl, L2, x6, x7, rfl, hL2⟩
          simp [wp_seq, wp_bnd, wp_ret, wp_itS, forL]
          rw [hL2]
          simp [Prog.sigB]
      | put s v g =>
        have gr := fun X hX => grest X s v g x6 x7 rfl hX
        obtain ⟨h1, h2, h3, h4, h5⟩ := io
        have fin3 : L ++ (p.itemB (a, .put s v g)).map befD = X ++ ((p.turnB a s v).map befD ++ (g.flatMap (p.guardB a)).map befD) := by rw [fin2]; simp [Prog.itemB]
        rw [fin3]
        generalize hgs : (g.flatMap (p.guardB a)).map befD = gs at gr ⊢
        rw [show execs ⟨run T gl n (k + 2), gl, n⟩ wbL = fun e => seqM (exec ⟨run T gl n (k + 2), gl, n⟩ (.ite (.cmp .eq (.ix (.var 3) (.int 0)) (.str ⟨#[119, 97, 105, 116]⟩)) (.cons (.for_ (.many [6, 7]) (.seq (.call 450624087419648520054131 (.cons (.var 0) .nil))) (.cons (.ite (.cmp .eq (.ix (.ix (.ix (.var 0) (.int 1)) (.var 6)) (.var 7)) (.tup (.cons (.str ⟨#[116, 101, 108, 108]⟩) (.cons (.ix (.var 3) (.int 1)) .nil)))) (.cons (.app 1 (.tup (.cons (.tup (.cons (.var 6) (.cons (.var 7) .nil))) (.cons (.var 2) (.cons (.str ⟨#[115, 105, 103, 110, 97, 108]⟩) .nil))))) .nil) .nil) .nil)) .nil) .nil) e) (fun e => seqM (exec ⟨run T gl n (k + 2), gl, n⟩ (.ite (.and (.cmp .eq (.ix (.var 3) (.int 0)) (.str ⟨#[115, 101, 116]⟩)) (.cmp .eq (.ix (.var 3) (.int 2)) (.ix (.ix (.var 0) (.int 0)) (.ix (.var 3) (.int 1))))) (.cons (.app 1 (.tup (.cons (.ix (.call 115359766379435535990285682 (.cons (.var 0) (.cons (.ix (.var 3) (.int 1)) (.cons (.bin .sub (.int 1) (.ix (.var 3) (.int 2))) .nil)))) (.int 0)) (.cons (.var 2) (.cons (.str ⟨#[116, 117, 114, 110]⟩) .nil))))) .nil) .nil) e) (execs ⟨run T gl n (k + 2), gl, n⟩ gbL)) from rfl]
        simp only [wp_seq]
        have done : ∀ (Y : List D), Y.length ≤ 1020 → Y ++ gs = X ++ ((p.turnB a s v).map befD ++ gs) → wp (execs ⟨run T gl n (k + 2), gl, n⟩ gbL [.fz p.d, .ow Y, .fz (nameD a), .fz (Item.d (.put s v g)), x4, x5, x6, x7, x8, x9, .no, .no]) w' (fun fl w'' => match fl with
          | .nx e => w'' = w' ∧ ∃ L x2 x3 x4 x5 x6 x7 x8 x9, e = [.fz p.d, .ow L, x2, x3, x4, x5, x6, x7, x8, x9, .no, .no] ∧ L = X ++ ((p.turnB a s v).map befD ++ gs)
          | .bk e => False
          | .rt d => False) := fun Y hY e => wp_mono (gr Y hY) fun fl w2 ⟨e1, y4, y5, y8, y9, e2⟩ => by
            subst e2
            exact ⟨e1, _, _, _, _, _, _, _, _, _, rfl, e⟩
        simp [wp_bnd, wp_ret, Item.d, d0, st_ix h1 h2]
        by_cases c : v = p.st s
        · obtain ⟨cc, e1⟩ := turn_some hs hq c
          have hl2 : X.length < lim := lt_lim (by omega)
          have ech : run T gl n (k + 2) 115359766379435535990285682 [p.d, .int s, .int (1 - v)] = ret (.lst [nameD cc]) := by
            have := setter_ok (gl := gl) (n := n) (k := k) b.toNm p ok s (1 - v)
            rw [chg_list hs, e1] at this
            exact this
          have et : (p.turnB a s v).map befD = [befD (cc, a, .turn)] := by unfold Prog.turnB; rw [if_pos c, e1]; rfl
          have hd := done (X ++ [befD (cc, a, .turn)]) (by simp; omega) (by rw [et]; simp)
          rw [c] at ech
          simp only [Item.d, befD, Srt.d] at hd
          simp [c, wp_seq, wp_bnd, wp_ret, ech, appB_ok hl2] at hd ⊢
          exact hd
        · have et : (p.turnB a s v).map befD = [] := by unfold Prog.turnB; rw [if_neg c]; rfl
          have hd := done X (by omega) (by rw [et]; simp)
          simp only [Item.d] at hd
          simp [c, wp_seq, wp_bnd, wp_ret] at hd ⊢
          exact hd
    refine ⟨_, rfl, ?_⟩
    have x21 : ixM (nameD a) (.int 1) = ret (.int (a.2 : Int)) := by simp [nameD]
    have x20 : ixM (nameD a) (.int 0) = ret (.int (a.1 : Int)) := by simp [nameD]
    simp [wp_seq, wp_bnd, wp_ret, d1, x21, x20, r1, rowD, r2]
    by_cases c : 0 < a.2
    · have hl2 : L.length < lim := lt_lim (by omega)
      have e1 : ((a.2 - 1 : Nat) : Int) = (a.2 : Int) - 1 := by omega
      have := rest (L ++ [.tup [.tup [.int a.1, .int ((a.2 : Int) - 1)], nameD a, .str ⟨#[114, 111, 119]⟩]]) (by simp; omega) (by
        unfold rowB
        rw [if_pos c]
        simp [befD, nameD, e1, Srt.d])
      simp [c, wp_seq, wp_bnd, wp_ret, appB_ok hl2, x21, x20]
      simp [wp_seq, wp_bnd, wp_ret] at this
      exact wp_seq.mp (wp_mono (wp_seq.mpr this) fun fl w2 h => by cases fl <;> first | exact h | exact h.elim)
    · have := rest L (by omega) (by unfold rowB; rw [if_neg c]; simp)
      simp [c, wp_seq, wp_bnd, wp_ret]
      simp [wp_seq, wp_bnd, wp_ret] at this
      exact wp_seq.mp (wp_mono (wp_seq.mpr this) fun fl w2 h => by cases fl <;> first | exact h | exact h.elim)
  · rintro e w' ⟨rfl, L, x2, x3, x4, x5, x6, x7, x8, x9, rfl, hL⟩
    simp [wp_ret, wp_bnd, wp_seq]
    rw [hL, show p.its.flatMap p.itemB = p.bef from rfl, sorted_bef, befs_sort]
    simp [wp_ret]
end VI

set_option Elab.async false
set_option linter.all false
set_option maxRecDepth 100000
set_option maxHeartbeats 1000000
/-! the law's own hopeless deeds; the asked answers as data -/
namespace VI
open PySem
variable {T : Tbl} {gl : Nat → Option D} {n k : Nat}
structure Lhp (T : Tbl) : Prop extends Nm T where
  hopeless : T.at_ 7560217649441897463412357952371 = some F__law_hopeless
theorem setters_chg {p : Prog} {s v : Int} : (p.setters s v).isEmpty = (p.chg s v).isNone := by
  unfold Prog.chg
  cases p.setters s v <;> rfl
theorem lhopeless_ok (b : Lhp T) (p : Prog) (ok : ProgOk p) : run T gl n (k + 3) 7560217649441897463412357952371 [p.d] = ret (.lst (p.hopes.map fun q => nameD q.1)) := by
  rw [run_at b.hopeless rfl]
  have pd : p.d = .tup [.tup (p.start.map .int), .tup (p.rows.map rowD)] := rfl
  have d0 : ixM p.d (.int 0) = ret (.tup (p.start.map .int)) := by rw [pd]; simp
  have d1 : ixM p.d (.int 1) = ret (.tup (p.rows.map rowD)) := by rw [pd]; simp
  refine ret_of_wp fun w => ?_
  simp [F__law_hopeless, startE, bindA, List.replicate, wp_bnd, wp_ret, wp_seq, names_ok b.toNm p ok]
  refine wp_forL2 (fun dn e w' => w' = w ∧ ∃ L x2 x3 x4, e = [.fz p.d, .ow L, x2, x3, x4] ∧ L = (dn.filter fun q => hopeB p q.2).map fun q => nameD q.1) ⟨rfl, _, _, _, _, rfl, rfl⟩ ?_ ?_
  · rintro dn q rr env w' hdn ⟨rfl, L, x2, x3, x4, rfl, hL⟩
    have hq : q ∈ p.its := by rw [← hdn]; simp
    have hl : L.length < lim := lt_lim (by
      have h1 := List.length_filter_le (fun (q : Name × Item) => hopeB p q.2) dn
      have h2 := its_le ok
      have h3 := congrArg List.length hdn
      simp only [List.length_append, List.length_cons] at h3
      rw [hL, List.length_map]
      have h4 : (List.filter (fun (q : (Nat × Nat) × Item) => hopeB p q.snd) dn).length ≤ dn.length := h1
      omega)
    have io := its_ok ok hq
    obtain ⟨row, r1, r2⟩ := its_at hq
    obtain ⟨a, it⟩ := q
    have r1 : p.rows[a.1]? = some row := r1
    have r2 : row[a.2]? = some it := r2
    have x21 : ixM (nameD a) (.int 1) = ret (.int (a.2 : Int)) := by simp [nameD]
    have x20 : ixM (nameD a) (.int 0) = ret (.int (a.1 : Int)) := by simp [nameD]
    refine ⟨_, rfl, ?_⟩
    cases it with
    | tell s =>
      simp [wp_seq, wp_bnd, wp_ret, d1, x21, x20, r1, rowD, r2, Item.d]
      rw [hL]; simp [hopeB]
    | wait s =>
      simp [wp_seq, wp_bnd, wp_ret, d1, x21, x20, r1, rowD, r2, Item.d]
      rw [hL]; simp [hopeB]
    | put s v g =>
      obtain ⟨h1, h2, h3, h4, h5⟩ := io
      have hg8 := guard8 ok (show ItemOk p.start.length (.put s v g) from ⟨h1, h2, h3, h4, h5⟩)
      simp [wp_seq, wp_bnd, wp_ret, d1, x21, x20, r1, rowD, r2, Item.d]
      rw [mapM_pureL (h := fun pr => if (!decide (pr.2 = p.st pr.1) && (p.chg pr.1 pr.2).isNone) = true then some (pairD pr) else none) fun pr hp => by
        obtain ⟨g1, g2⟩ := guard_mem (by decide) h5 pr hp
        simp [pairD, d0, st_ix g1 g2, setter_ok b.toNm p ok, cmp_eq_nil ok_names, setters_chg]
        by_cases c : pr.2 = p.st pr.1
        · simp [c]
        · cases p.chg pr.1 pr.2 <;> simp [c]]
      rw [fm_filter]
      have l1 : (g.filter fun pr => !decide (pr.2 = p.st pr.1) && (p.chg pr.1 pr.2).isNone).length ≤ lim := le_lim (by have := List.length_filter_le (fun (pr : Int × Int) => !decide (pr.2 = p.st pr.1) && (p.chg pr.1 pr.2).isNone) g; omega)
      simp only [bnd_ret, List.length_map, decide_eq_true l1, guard_t, lft_some, shut_ret, wp_ret, wp_bnd, wp_seq, fin_v, evs_nil, ev_lst, List.length_nil, cmp_ne_nil ok_pairs, any_filter]
      simp
      rw [show (g.any fun pr => !decide (pr.2 = p.st pr.1) && (p.chg pr.1 pr.2).isNone) = hopeB p (.put s v g) from rfl]
      cases c : hopeB p (.put s v g) with
      | true =>
        simp [wp_seq, wp_bnd, wp_ret, appB_ok hl]
        rw [hL]; simp [c]
      | false =>
        simp [wp_seq, wp_bnd, wp_ret]
        rw [hL]; simp [c]
  · rintro e w' ⟨rfl, L, x2, x3, x4, rfl, hL⟩
    simp [wp_ret, wp_bnd, wp_seq]
    rw [hL]; rfl
/-! the program's own, as tuples -/
structure Bft (T : Tbl) (gl : Nat → Option D) : Prop extends Bfh T gl where
  befores : T.at_ 27696038348481907 = some F_befores
  hopeless : T.at_ 7525357083271983987 = some F_hopeless
theorem befores_ok (b : Bft T gl) (p : Prog) (ok : ProgOk p) (hs : p.bents = []) : run T gl n (k + 7) 27696038348481907 [p.d] = ret (.tup (p.befs.map befD)) := by
  rw [run_at b.befores rfl]
  simp [F_befores, startE, bindA, List.replicate, need_straight_ok b.toBfs p ok hs, befores_in_ok b.toBfs p ok hs]
theorem hopeless_ok (b : Bft T gl) (p : Prog) (ok : ProgOk p) (hs : p.bents = []) : run T gl n (k + 7) 7525357083271983987 [p.d] = ret (.tup (p.hopes.map fun q => nameD q.1)) := by
  rw [run_at b.hopeless rfl]
  simp [F_hopeless, startE, bindA, List.replicate, need_straight_ok b.toBfs p ok hs, hopeless_in_ok b.toBfh p ok]
theorem pl_name {m : Nat} {a : Name} : D.pl (m + 1) (nameD a) = true := by
  show (decide (2 ≤ 100000) && List.all _ _) = true
  simp only [List.all_cons, List.all_nil]
  cases m <;> rfl
theorem pl_s {m : Nat} {x : Str} (h : PyData.strOk x = true) : D.pl m (.str x) = true := by cases m <;> exact h
theorem pl_srt {m : Nat} {s : Srt} : D.pl m s.d = true := by cases s <;> exact pl_s (by decide +kernel)
theorem pl_bef {m : Nat} {b : Bef} : D.pl (m + 2) (befD b) = true := by
  show (decide (3 ≤ 100000) && List.all _ _) = true
  simp only [List.all_cons, List.all_nil, Bool.and_true, Bool.and_eq_true]
  exact ⟨decide_eq_true (by simp), pl_name, pl_name, pl_srt⟩
theorem befs_len {p : Prog} (ok : ProgOk p) : p.befs.length ≤ 1008 := by rw [befs_perm.length_eq]; exact bef_le ok
theorem pl_befs {m : Nat} {p : Prog} (ok : ProgOk p) : D.pl (m + 3) (.tup (p.befs.map befD)) = true := by
  show (decide (_ ≤ 100000) && List.all _ _) = true
  have := befs_len ok
  simp only [Bool.and_eq_true, decide_eq_true_eq, List.length_map, List.all_eq_true, List.mem_map]
  refine ⟨by omega, ?_⟩
  rintro _ ⟨b, _, rfl⟩
  exact pl_bef
theorem pl_names {m : Nat} {l : List (Name × Item)} (h : l.length ≤ 1000) : D.pl (m + 2) (.tup (l.map fun q => nameD q.1)) = true := by
  show (decide (_ ≤ 100000) && List.all _ _) = true
  simp only [Bool.and_eq_true, decide_eq_true_eq, List.length_map, List.all_eq_true, List.mem_map]
  refine ⟨by omega, ?_⟩
  rintro _ ⟨b, _, rfl⟩
  exact pl_name
theorem hopes_le {p : Prog} (ok : ProgOk p) : p.hopes.length ≤ 24 := Nat.le_trans (List.length_filter_le _ _) (its_le ok)
end VI

set_option Elab.async false
set_option linter.all false
set_option maxRecDepth 100000
set_option maxHeartbeats 1000000
/-! plain: ways along pairs, Warshall's closure, peeling, rings -/
namespace VI
section
variable {R : Name → Name → Prop} {S : Name → Prop}
/-- a way from x to a, what lies between in S -/
inductive Via (R : Name → Name → Prop) (S : Name → Prop) : Name → Name → Prop
  | one {x a} : R x a → Via R S x a
  | two {x m a} : S m → Via R S x m → Via R S m a → Via R S x a
theorem Via.mono {S' : Name → Prop} (h : ∀ m, S m → S' m) {x a : Name} (v : Via R S x a) : Via R S' x a := by
  induction v with
  | one r => exact .one r
  | two s _ _ i j => exact .two (h _ s) i j
/-- one more place to pass through -/
theorem via_step {m x a : Name} : Via R (fun k => S k ∨ k = m) x a ↔ Via R S x a ∨ (Via R S x m ∧ Via R S m a) := by
  constructor
  · intro v
    induction v with
    | one r => exact .inl (.one r)
    | two s _ _ i j =>
      rcases s with s | rfl
      · rcases i with i | ⟨i1, i2⟩
        · rcases j with j | ⟨j1, j2⟩
          · exact .inl (.two s i j)
          · exact .inr ⟨.two s i j1, j2⟩
        · rcases j with j | ⟨j1, j2⟩
          · exact .inr ⟨i1, .two s i2 j⟩
          · exact .inr ⟨i1, j2⟩
      · have i' : Via R S _ _ := i.elim id (·.1)
        have j' : Via R S _ _ := j.elim id (·.2)
        exact .inr ⟨i', j'⟩
  · rintro (v | ⟨v, u⟩)
    · exact v.mono fun _ h => .inl h
    · exact .two (.inr rfl) (v.mono fun _ h => .inl h) (u.mono fun _ h => .inl h)
theorem via_none {x a : Name} : Via R (fun _ => False) x a ↔ R x a := by
  constructor
  · intro v
    cases v with
    | one r => exact r
    | two s _ _ => exact s.elim
  · exact .one
/-- the last step of a way -/
theorem Via.last {x a : Name} (v : Via R S x a) : ∃ y, R y a ∧ (y = x ∨ Via R S x y) := by
  induction v with
  | one r => exact ⟨_, r, .inl rfl⟩
  | two s v _ _ j =>
    obtain ⟨y, h, e⟩ := j
    rcases e with rfl | e
    · exact ⟨_, h, .inr v⟩
    · exact ⟨y, h, .inr (.two s v e)⟩
theorem Via.first {x a : Name} (v : Via R S x a) : ∃ y, R x y ∧ (y = a ∨ Via R S y a) := by
  induction v with
  | one r => exact ⟨_, r, .inl rfl⟩
  | two s _ u i _ =>
    obtain ⟨y, h, e⟩ := i
    rcases e with rfl | e
    · exact ⟨_, h, .inr u⟩
    · exact ⟨y, h, .inr (.two s e u)⟩
abbrev Way (R : Name → Name → Prop) : Name → Name → Prop := Via R fun _ => True
theorem via_all {N : List Name} (h : ∀ x a, R x a → a ∈ N) {x a : Name} : Via R (· ∈ N) x a ↔ Way R x a := by
  constructor
  · exact fun v => v.mono fun _ _ => trivial
  · intro v
    induction v with
    | one r => exact .one r
    | two _ v _ i j =>
      obtain ⟨y, r, _⟩ := v.last
      exact .two (h _ _ r) i j
theorem Way.trans {x y z : Name} (h : Way R x y) (g : Way R y z) : Way R x z := .two trivial h g
/-! ### the closure, as it is reckoned -/
/-- what is ahead of each, one place more passed through -/
def warS (A : Name → List Name) (m a : Name) : List Name := if m ∈ A a then A a ++ (A m).filter (fun x => decide (x ∉ A a)) else A a
def war (A : Name → List Name) : List Name → Name → List Name
  | [] => A
  | m :: ms => war (warS A m) ms
theorem warS_mem {A : Name → List Name} (h : ∀ x a, x ∈ A a ↔ Via R S x a) {m x a : Name} : x ∈ warS A m a ↔ Via R (fun k => S k ∨ k = m) x a := by
  rw [via_step]
  unfold warS
  by_cases c : m ∈ A a
  · rw [if_pos c, List.mem_append, List.mem_filter, ← h, ← h, ← h]
    constructor
    · rintro (q | ⟨q, _⟩)
      · exact .inl q
      · exact .inr ⟨q, c⟩
    · rintro (q | ⟨q, _⟩)
      · exact .inl q
      · by_cases c2 : x ∈ A a
        · exact .inl c2
        · exact .inr ⟨q, decide_eq_true c2⟩
  · rw [if_neg c, ← h, ← h, ← h]
    constructor
    · exact .inl
    · rintro (q | ⟨_, q⟩)
      · exact q
      · exact absurd q c
theorem war_mem : ∀ {ms : List Name} {A : Name → List Name} {S : Name → Prop}, (∀ x a, x ∈ A a ↔ Via R S x a) → ∀ x a, x ∈ war A ms a ↔ Via R (fun k => S k ∨ k ∈ ms) x a
  | [], A, S, h, x, a => by
    show x ∈ A a ↔ _
    rw [h]
    constructor
    · exact fun v => v.mono fun _ s => .inl s
    · exact fun v => v.mono fun _ s => s.elim id fun z => nomatch z
  | m :: ms, A, S, h, x, a => by
    show x ∈ war (warS A m) ms a ↔ _
    rw [war_mem (fun x a => warS_mem h)]
    constructor
    · exact fun v => v.mono fun _ s => s.elim (fun s => s.elim .inl fun e => .inr (by rw [e]; exact .head _)) fun s => .inr (.tail _ s)
    · refine fun v => v.mono fun _ s => s.elim (fun s => .inl (.inl s)) fun s => ?_
      rcases List.mem_cons.mp s with e | s
      · exact .inl (.inr e)
      · exact .inr s
/-- how long it can become -/
theorem cnt_len {C : Nat} : ∀ {N l : List Name}, (∀ x ∈ l, x ∈ N) → (∀ x, l.count x ≤ C) → l.length ≤ N.length * C
  | [], l, h, _ => by
    cases l with
    | nil => simp
    | cons y l => exact nomatch h y (.head _)
  | n :: N, l, h, hc => by
    have h1 := cnt_len (N := N) (l := l.filter fun x => decide (x ≠ n)) (C := C) (fun x hx => by
      obtain ⟨hx1, hx2⟩ := List.mem_filter.mp hx
      rcases List.mem_cons.mp (h x hx1) with e | e
      · exact absurd e (of_decide_eq_true hx2)
      · exact e) (fun x => Nat.le_trans (List.Sublist.count_le _ List.filter_sublist) (hc x))
    have h2 : l.length = (l.filter fun x => decide (x ≠ n)).length + l.count n := by
      clear h hc h1
      induction l with
      | nil => rfl
      | cons y l ih =>
        rw [List.filter_cons, List.count_cons]
        by_cases c : y = n
        · subst c
          rw [if_neg (by simp), if_pos (by simp), List.length_cons]; omega
        · rw [if_pos (by simpa using c), if_neg (by simpa using c), List.length_cons, List.length_cons]; omega
    have := hc n
    rw [List.length_cons, Nat.add_mul, Nat.one_mul]
    omega
theorem warS_cnt {A : Name → List Name} {C : Nat} (h : ∀ a x, (A a).count x ≤ C) {m : Name} (a x : Name) : (warS A m a).count x ≤ C := by
  unfold warS
  split
  · rw [List.count_append]
    by_cases c : x ∈ A a
    · have : ((A m).filter fun x => decide (x ∉ A a)).count x = 0 := List.count_eq_zero.mpr fun z => by
        exact absurd c (of_decide_eq_true (List.mem_filter.mp z).2)
      have := h a x
      omega
    · have h1 : (A a).count x = 0 := List.count_eq_zero.mpr c
      have h2 : ((A m).filter fun x => decide (x ∉ A a)).count x ≤ (A m).count x := List.Sublist.count_le _ List.filter_sublist
      have := h m x
      omega
  · exact h a x
theorem warS_sub {A : Name → List Name} {N : List Name} (h : ∀ a, ∀ x ∈ A a, x ∈ N) {m : Name} (a : Name) : ∀ x ∈ warS A m a, x ∈ N := by
  intro x hx
  unfold warS at hx
  split at hx
  · rcases List.mem_append.mp hx with hx | hx
    · exact h a x hx
    · exact h m x (List.mem_filter.mp hx).1
  · exact h a x hx
end
/-! ### peeling, rings -/
section
variable {ps : List (Name × Name)}
abbrev Rel (ps : List (Name × Name)) (x a : Name) : Prop := (x, a) ∈ ps
/-- has one before it, among these -/
def hasB (ps : List (Name × Name)) (L : List Name) (a : Name) : Bool := ps.any fun q => decide (q.2 = a) && decide (q.1 ∈ L)
theorem hasB_iff {L : List Name} {a : Name} : hasB ps L a = true ↔ ∃ x, Rel ps x a ∧ x ∈ L := by
  unfold hasB
  rw [List.any_eq_true]
  constructor
  · rintro ⟨⟨x, b⟩, h, q⟩
    simp only [Bool.and_eq_true, decide_eq_true_eq] at q
    obtain ⟨rfl, q⟩ := q
    exact ⟨x, h, q⟩
  · rintro ⟨x, h, q⟩
    exact ⟨(x, a), h, by simp [q]⟩
def peel (ps : List (Name × Name)) (L : List Name) : List Name := L.filter fun a => hasB ps L a
def ends (ps : List (Name × Name)) (L : List Name) : List Name := L.filter fun a => !hasB ps L a
theorem peel_ends {L : List Name} : (L.filter fun a => decide (a ∉ ends ps L)) = peel ps L := by
  unfold peel
  refine List.filter_congr fun a ha => ?_
  unfold ends
  cases q : hasB ps L a with
  | true => simp [List.mem_filter, q]
  | false => simp [List.mem_filter, q, ha]
theorem peel_len {L : List Name} (h : ends ps L ≠ []) : (peel ps L).length < L.length := by
  unfold ends peel at *
  cases hl : L.filter (fun a => !hasB ps L a) with
  | nil => exact absurd hl h
  | cons x l =>
    have hx : x ∈ L.filter (fun a => !hasB ps L a) := by rw [hl]; exact .head _
    obtain ⟨h1, h2⟩ := List.mem_filter.mp hx
    exact List.length_filter_lt_length_iff_exists.mpr ⟨x, h1, by simpa using h2⟩
theorem peel_same {L : List Name} (h : ends ps L = []) : peel ps L = L := by
  unfold peel
  refine List.filter_eq_self.mpr fun a ha => ?_
  have := List.filter_eq_nil_iff.mp h a ha
  simpa using this
/-- what stays for ever -/
def Kept (ps : List (Name × Name)) (L : List Name) : Prop := ∀ a, Way (Rel ps) a a → a ∈ L
theorem kept_peel {L : List Name} (h : Kept ps L) : Kept ps (peel ps L) := fun a w => by
  refine List.mem_filter.mpr ⟨h a w, hasB_iff.mpr ?_⟩
  obtain ⟨y, r, e⟩ := w.last
  refine ⟨y, r, h y ?_⟩
  rcases e with rfl | e
  · exact w
  · exact Via.two trivial (.one r) e
/-- one stands behind the next, the last one behind the first -/
def ringB (ps : List (Name × Name)) (v : List Name) : Bool := (List.range v.length).all fun k => match (if k = 0 then v[v.length - 1]? else v[k - 1]?), v[k]? with
  | some x, some a => decide (Rel ps x a)
  | _, _ => false
theorem ringB_iff {v : List Name} : ringB ps v = true ↔ ∀ k, k < v.length → ∃ x a, (if k = 0 then v[v.length - 1]? else v[k - 1]?) = some x ∧ v[k]? = some a ∧ Rel ps x a := by
  unfold ringB
  rw [List.all_eq_true]
  constructor
  · intro h k hk
    have := h k (List.mem_range.mpr hk)
    split at this
    · rename_i x a e1 e2
      exact ⟨x, a, e1, e2, of_decide_eq_true this⟩
    · cases this
  · intro h k hk
    obtain ⟨x, a, e1, e2, r⟩ := h k (List.mem_range.mp hk)
    rw [e1, e2]
    exact decide_eq_true r
theorem ring_way {v : List Name} (h : ringB ps v = true) (hn : v ≠ []) : ∃ a ∈ v, Way (Rel ps) a a := by
  rw [ringB_iff] at h
  have hl : 0 < v.length := List.length_pos_iff.mpr hn
  -- from the first to each
  have fw : ∀ k (hk : k < v.length), 0 < k → Way (Rel ps) v[0] v[k] := by
    intro k
    induction k with
    | zero => intro _ h0; omega
    | succ k ih =>
      intro hk _
      obtain ⟨x, a, e1, e2, r⟩ := h (k + 1) hk
      rw [if_neg (by omega), Nat.add_sub_cancel, List.getElem?_eq_getElem (by omega)] at e1
      rw [List.getElem?_eq_getElem hk] at e2
      cases e1
      cases e2
      by_cases c : k = 0
      · subst c; exact .one r
      · exact Way.trans (ih (by omega) (by omega)) (.one r)
  obtain ⟨x, a, e1, e2, r⟩ := h 0 hl
  rw [if_pos rfl, List.getElem?_eq_getElem (by omega)] at e1
  rw [List.getElem?_eq_getElem hl] at e2
  cases e1
  cases e2
  refine ⟨v[0], List.getElem_mem _, ?_⟩
  by_cases c : v.length - 1 = 0
  · have e : v[v.length - 1]'(by omega) = v[0] := by congr 1
    rw [e] at r
    exact .one r
  · exact Way.trans (fw (v.length - 1) (by omega) (by omega)) (.one r)
/-- a line backwards: each next stands behind the one ahead of it -/
def Back (ps : List (Name × Name)) : List Name → Prop
  | [] => True
  | [_] => True
  | a :: b :: l => Rel ps b a ∧ Back ps (b :: l)
theorem back_at : ∀ {l : List Name}, Back ps l → ∀ k (h : k + 1 < l.length), Rel ps l[k + 1] l[k]
  | a :: b :: l, h, 0, _ => h.1
  | a :: b :: l, h, k + 1, hk => by
    have := back_at h.2 k (by simpa using hk)
    simpa using this
theorem back_app : ∀ {l : List Name} {x : Name}, Back ps l → (∀ y, l.getLast? = some y → Rel ps x y) → Back ps (l ++ [x])
  | [], x, _, _ => trivial
  | [a], x, _, h => ⟨h a rfl, trivial⟩
  | a :: b :: l, x, h, g => ⟨h.1, back_app h.2 fun y e => g y (by simpa using e)⟩
/-- the line from where it comes back to, turned round, is a ring -/
theorem ring_of {l : List Name} {x y : Name} {i : Nat} (hb : Back ps l) (hi : l[i]? = some x) (hy : l.getLast? = some y) (r : Rel ps x y) : ringB ps (l.drop i).reverse = true := by
  obtain ⟨hil, hix⟩ := List.getElem?_eq_some_iff.mp hi
  rw [ringB_iff]
  intro k hk
  rw [List.length_reverse, List.length_drop] at hk
  have e2 : ∀ j, j < l.length - i → (l.drop i).reverse[j]? = l[l.length - 1 - j]? := fun j hj => by
    rw [List.getElem?_reverse (by rw [List.length_drop]; exact hj), List.length_drop, List.getElem?_drop]
    congr 1
    omega
  rw [List.length_reverse, List.length_drop]
  by_cases c : k = 0
  · subst c
    rw [if_pos rfl, e2 _ (by omega), e2 _ hk]
    have e3 : l.length - 1 - (l.length - i - 1) = i := by omega
    rw [e3, hi]
    rw [List.getLast?_eq_getElem?] at hy
    exact ⟨x, y, rfl, by simpa using hy, r⟩
  · rw [if_neg c, e2 _ (by omega), e2 _ hk]
    have h1 : l.length - 1 - k + 1 < l.length := by omega
    have e4 : l.length - 1 - (k - 1) = l.length - 1 - k + 1 := by omega
    rw [e4]
    exact ⟨_, _, List.getElem?_eq_getElem h1, List.getElem?_eq_getElem (by omega), back_at hb _ h1⟩
end
end VI

set_option Elab.async false
set_option linter.all false
set_option maxRecDepth 100000
set_option maxHeartbeats 1000000
/-! rules for dicts; names and pairs in lists, dicts by names -/
namespace VI
open PySem
section
variable {G : Glo} {env : Env} {md : Md}
@[simp] theorem ev_dct {ks vs : Es} : ev G (.dct ks vs) md env = fin md (shut (bnd (evs G ks env) fun kd => bnd (evs G vs env) fun vd => lft (dctD kd vd))) := nr rfl
@[simp] theorem ev_get {d k x : E} : ev G (.get d k x) md env = fin md (bnd (bnd (ev G d .v env) fun d => lft (needD d)) fun d => bnd (ev G k .v env) fun k => bnd (ev G x .v env) fun x => lft (getD d k x)) := nr rfl
@[simp] theorem ev_skeys {d : E} : ev G (.skeys d) md env = fin md (bnd (ev G d .v env) fun d => lft ((needD d).bind keysD |>.bind sortD)) := nr rfl
@[simp] theorem ev_lvals {d : E} : ev G (.lvals d) md env = fin md (bnd (ev G d .v env) fun d => lft ((needD d).bind valsD)) := nr rfl
@[simp] theorem ev_ist {a : E} {b : Bool} : ev G (.ist a b) md env = bnd (ev G a .v env) fun x => lft ((isB b x).map .bl) := nr rfl
@[simp] theorem evI_keys {e : E} : evI G (.keys e) env = bnd (ev G e .v env) fun d => lft (keysD d) := by
  show bnd _ _ = bnd _ _
  congr 1
@[simp] theorem evI_vals {e : E} : evI G (.vals e) env = bnd (ev G e .v env) fun d => lft ((valsD d).bind seqL) := by
  show bnd _ _ = bnd _ _
  congr 1
  funext d
  cases d <;> rfl
end
@[simp] theorem lookB_od {d : List (D × D)} {e : Env} : lookB (.od d :: e) 0 = some (.dct d) := nr rfl
@[simp] theorem putKO_od {ds : List (D × D)} : putKO (some (.od ds)) = some () := nr rfl
@[simp] theorem frzO_od {ds : List (D × D)} {env : Env} {i : Nat} : frzO (some (.od ds)) env i = env.set i (.fz (.dct ds)) := nr rfl
@[simp] theorem ownD_dct {xs : List (D × D)} : ownD (.dct xs) = some (.od xs) := nr rfl
@[simp] theorem needD_dct {xs : List (D × D)} : needD (.dct xs) = some (.dct xs) := nr rfl
@[simp] theorem keysD_dct {xs : List (D × D)} : keysD (.dct xs) = some (xs.map (·.1)) := nr rfl
@[simp] theorem valsD_dct {xs : List (D × D)} : valsD (.dct xs) = some (.lst (xs.map (·.2))) := nr rfl
@[simp] theorem dctD_nil : dctD [] [] = some (.dct []) := nr rfl
@[simp] theorem isB_bl {b c : Bool} : isB b (.bl c) = some (b == c) := nr rfl
@[simp] theorem isNon_dct {b : List (D × D)} : isNon (.dct b) = false := nr rfl
@[simp] theorem rev_tup {xs : List D} : D.rev (.tup xs) = some (.tup xs.reverse) := nr rfl
theorem putC_od {kvs : List (D × D)} {env : Env} {i : Nat} {k v : D} (hk : D.key k = true) (hl : kvs.length < lim) : putC (some (.od kvs)) env i k v = ret (.nx (env.set i (.od (dput kvs k v)))) := by
  show (if (D.key k && decide (kvs.length < lim)) = true then _ else _) = _
  rw [hk, decide_eq_true hl]; rfl
theorem ixM_dct {kvs : List (D × D)} {k : D} (hk : D.key k = true) : ixM (.dct kvs) k = lft (dget kvs k) := by
  show lft (if D.key k = true then dget kvs k else none) = _
  rw [if_pos hk]
theorem getD_dct {kvs : List (D × D)} {k x : D} (hk : D.key k = true) : getD (.dct kvs) k x = some ((dget kvs k).getD x) := by
  show (if D.key k = true then some ((dget kvs k).getD x) else none) = _
  rw [if_pos hk]
theorem in_dct {kvs : List (D × D)} {xs : List D} (hk : D.key (.tup xs) = true) : D.cmp .isin (.tup xs) (.dct kvs) = some (dget kvs (.tup xs)).isSome := by
  show (if D.key (.tup xs) = true then some (dget kvs (.tup xs)).isSome else none) = _
  rw [if_pos hk]
/-! pictures in lists -/
theorem in_map {α : Type} [DecidableEq α] {f : α → D} (he : ∀ a b, D.eqv (f a) (f b) = decide (a = b)) (ho : ∀ a, D.ok 11 (f a) = true) {a : α} {l : List α} : D.cmp .isin (f a) (.lst (l.map f)) = some (decide (a ∈ l)) := by
  have h2 : D.ok dpt (.lst (l.map f)) = true := by
    show List.all _ _ = true
    rw [List.all_eq_true]
    intro x hx
    obtain ⟨y, _, rfl⟩ := List.mem_map.mp hx
    exact ho y
  have up : ∀ (n : Nat) (d : D), D.ok n d = true → D.ok (n + 1) d = true := by
    intro n
    induction n with
    | zero => intro d h; cases d <;> first | (cases h; done) | exact h
    | succ n ih =>
      intro d h
      cases d <;> first | (cases h; done) | exact h | skip
      · exact List.all_eq_true.mpr fun x hx => ih x (List.all_eq_true.mp h x hx)
      · exact List.all_eq_true.mpr fun x hx => ih x (List.all_eq_true.mp h x hx)
  have h1 : D.ok dpt (f a) = true := up 11 _ (ho a)
  have e : ∀ (x : D) (ys : List D), D.cmp .isin x (.lst ys) = D.inSeq x ys := fun x ys => by
    cases x <;> rfl
  rw [e]
  unfold D.inSeq
  rw [h1, h2]
  simp only [Bool.and_self, if_true, Option.some.injEq]
  clear h2 e
  induction l with
  | nil => rfl
  | cons y l ih =>
    rw [List.map_cons, List.any_cons, ih, he]
    by_cases h : y = a
    · subst h; simp
    · simp [h, Ne.symm h]
theorem nin_map {α : Type} [DecidableEq α] {f : α → D} (he : ∀ a b, D.eqv (f a) (f b) = decide (a = b)) (ho : ∀ a, D.ok 11 (f a) = true) {a : α} {l : List α} : D.cmp .notin (f a) (.lst (l.map f)) = some (!decide (a ∈ l)) := by
  have h : D.isIn (f a) (.lst (l.map f)) = some (decide (a ∈ l)) := in_map he ho
  show (D.isIn _ _).map not = _
  rw [h]; rfl
theorem eq_map {α : Type} [DecidableEq α] {f : α → D} (he : ∀ a b, D.eqv (f a) (f b) = decide (a = b)) (ho : ∀ a, D.ok dpt (f a) = true) {a b : α} : D.cmp .eq (f a) (f b) = some (decide (a = b)) := by
  show D.cmpEq _ _ = _
  unfold D.cmpEq
  rw [ho a, ho b, he]; rfl
theorem eqv_name {a b : Name} : D.eqv (nameD a) (nameD b) = decide (a = b) := by
  obtain ⟨a1, a2⟩ := a
  obtain ⟨b1, b2⟩ := b
  simp only [nameD, D.eqv, D.eqvs, Bool.and_true]
  rw [Bool.eq_iff_iff]
  simp
  omega
theorem key_name {a : Name} : D.key (nameD a) = true := rfl
def prD (q : Name × Name) : D := .tup [nameD q.1, nameD q.2]
theorem eqv_pr {a b : Name × Name} : D.eqv (prD a) (prD b) = decide (a = b) := by
  obtain ⟨a1, a2⟩ := a
  obtain ⟨b1, b2⟩ := b
  simp only [prD, D.eqv, D.eqvs, Bool.and_true, eqv_name]
  rw [Bool.eq_iff_iff]
  simp
theorem ok_pr {m : Nat} {q : Name × Name} : D.ok (m + 2) (prD q) = true := by
  show List.all _ _ = true
  simp [ok_name]
@[simp] theorem in_names {a : Name} {l : List Name} : D.cmp .isin (nameD a) (.lst (l.map nameD)) = some (decide (a ∈ l)) := (in_map (fun _ _ => eqv_name) fun _ => ok_name (m := 10)).trans (congrArg some (decide_eq_decide.mpr Iff.rfl))
@[simp] theorem nin_names {a : Name} {l : List Name} : D.cmp .notin (nameD a) (.lst (l.map nameD)) = some (!decide (a ∈ l)) := (nin_map (fun _ _ => eqv_name) fun _ => ok_name (m := 10)).trans (congrArg (fun b => some (!b)) (decide_eq_decide.mpr Iff.rfl))
@[simp] theorem eq_names {a b : Name} : D.cmp .eq (nameD a) (nameD b) = some (decide (a = b)) := eq_map (fun _ _ => eqv_name) fun _ => ok_name (m := 11)
theorem nin_prs {q : Name × Name} {l : List (Name × Name)} : D.cmp .notin (prD q) (.lst (l.map prD)) = some (!decide (q ∈ l)) := (nin_map (fun _ _ => eqv_pr) fun _ => ok_pr (m := 9)).trans (congrArg (fun b => some (!b)) (decide_eq_decide.mpr Iff.rfl))
theorem ok_namesL {m : Nat} {l : List Name} : D.ok (m + 2) (.lst (l.map nameD)) = true := by
  show List.all _ _ = true
  rw [List.all_eq_true]
  intro x hx
  obtain ⟨y, _, rfl⟩ := List.mem_map.mp hx
  exact ok_name
theorem ne_nilL {l : List Name} : D.cmp .ne (.lst (l.map nameD)) (.lst []) = some (!l.isEmpty) := by
  rw [cmp_ne_nil ok_namesL, ints_isEmpty]
theorem eq_nilL {l : List Name} : D.cmp .eq (.lst (l.map nameD)) (.lst []) = some l.isEmpty := by
  rw [cmp_eq_nil ok_namesL, ints_isEmpty]
/-! dicts by names -/
def nd (f : Name → D) (l : List Name) : List (D × D) := l.map fun a => (nameD a, f a)
theorem dget_nd {f : Name → D} {a : Name} {l : List Name} (h : a ∈ l) : dget (nd f l) (nameD a) = some (f a) := by
  unfold dget nd
  induction l with
  | nil => cases h
  | cons b l ih =>
    rw [List.map_cons]
    by_cases c : b = a
    · subst c
      rw [List.find?_cons_of_pos (by simp [eqv_name])]; rfl
    · rw [List.find?_cons_of_neg (by simp [eqv_name, c])]
      exact ih (by rcases List.mem_cons.mp h with e | e; exact absurd e.symm c; exact e)
theorem nd_any {f : Name → D} {a : Name} {l : List Name} : ((nd f l).any fun p => D.eqv p.1 (nameD a)) = decide (a ∈ l) := by
  unfold nd
  induction l with
  | nil => rfl
  | cons b l ih =>
    rw [List.map_cons, List.any_cons, ih, eqv_name]
    by_cases c : b = a
    · subst c; simp
    · simp [c, Ne.symm c]
theorem dput_nd {f : Name → D} {a : Name} {l : List Name} {v : D} (h : a ∈ l) : dput (nd f l) (nameD a) v = nd (fun b => if b = a then v else f b) l := by
  unfold dput
  rw [nd_any, if_pos (decide_eq_true h)]
  unfold nd
  rw [List.map_map]
  refine List.map_congr_left fun b _ => ?_
  show (if D.eqv (nameD b) (nameD a) = true then _ else _) = _
  rw [eqv_name]
  by_cases c : b = a <;> simp [c]
theorem dput_new {f : Name → D} {a : Name} {l : List Name} {v : D} (h : a ∉ l) (hv : f a = v) : dput (nd f l) (nameD a) v = nd f (l ++ [a]) := by
  unfold dput
  rw [nd_any, if_neg (by simpa using h)]
  unfold nd
  rw [List.map_append, ← hv]; rfl
theorem pairsL_nd {f : Name → D} : ∀ {l : List Name}, pairsL (l.map fun a => D.tup [nameD a, f a]) = some (nd f l)
  | [] => rfl
  | a :: l => by
    rw [List.map_cons]
    show (if D.key (nameD a) = true then (pairsL (l.map fun a => D.tup [nameD a, f a])).map ((nameD a, f a) :: ·) else none) = _
    rw [if_pos key_name, pairsL_nd]; rfl
theorem fold_nd {f : Name → D} : ∀ {l acc : List Name}, (acc ++ l).Nodup → (nd f l).foldl (fun a p => dput a p.1 p.2) (nd f acc) = nd f (acc ++ l)
  | [], acc, _ => by simp [nd]
  | a :: l, acc, h => by
    show (nd f l).foldl (fun a p => dput a p.1 p.2) (dput (nd f acc) (nameD a) (f a)) = _
    have ha : a ∉ acc := fun z => by
      have := (List.nodup_append.mp h).2.2 a z a (.head _)
      exact this rfl
    rw [dput_new ha rfl, fold_nd (by simpa using h)]
    simp
theorem dict_nd {f : Name → D} {l : List Name} (h : l.Nodup) : bl1 .dict (.lst (l.map fun a => D.tup [nameD a, f a])) = some (.dct (nd f l)) := by
  show (pairsL _).map _ = _
  rw [pairsL_nd]
  have := fold_nd (f := f) (l := l) (acc := []) (by simpa using h)
  show some (D.dct _) = _
  rw [show (nd f l).foldl (fun acc p => dput acc p.1 p.2) [] = nd f l from this]
theorem nd_congr {f g : Name → D} {l : List Name} (h : ∀ a ∈ l, f a = g a) : nd f l = nd g l := List.map_congr_left fun a ha => by rw [h a ha]
theorem nd_len {f : Name → D} {l : List Name} : (nd f l).length = l.length := List.length_map ..
/-! the names of a program -/
def Prog.nms (p : Prog) : List Name := p.its.map (·.1)
noncomputable def Prog.prs (p : Prog) : List (Name × Name) := p.befs.map fun b => (b.1, b.2.1)
theorem nms_map {p : Prog} : (p.its.map fun q => nameD q.1) = p.nms.map nameD := by unfold Prog.nms; rw [List.map_map]; rfl
theorem nms_le {p : Prog} (ok : ProgOk p) : p.nms.length ≤ 24 := by unfold Prog.nms; rw [List.length_map]; exact its_le ok
theorem its_nodup : ∀ {rs : List (List Item)} {h : Nat}, ((itsFrom h rs).map (·.1)).Nodup
  | [], _ => List.nodup_nil
  | r :: rs, h => by
    unfold itsFrom
    rw [List.map_append, List.map_map]
    refine List.nodup_append.mpr ⟨?_, its_nodup, fun a ha b hb e => ?_⟩
    · have e : (r.zipIdx.map ((fun (q : (Nat × Nat) × Item) => q.1) ∘ fun q => ((h, q.2), q.1))) = (List.range r.length).map fun i => (h, i) := by
        apply List.ext_getElem?
        intro i
        simp only [List.getElem?_map, List.getElem?_zipIdx, Function.comp]
        by_cases hi : i < r.length
        · rw [List.getElem?_eq_getElem hi, List.getElem?_eq_getElem (by simpa using hi)]
          simp
        · rw [List.getElem?_eq_none (by omega), List.getElem?_eq_none (by simp; omega)]
          rfl
      rw [e]
      exact List.Pairwise.map _ (fun a b hab z => hab (by injection z)) List.nodup_range
    · obtain ⟨q, hq, rfl⟩ := List.mem_map.mp ha
      obtain ⟨q2, hq2, rfl⟩ := List.mem_map.mp hb
      obtain ⟨r2, h1, _⟩ := its_mem hq2
      have : (q2.1.1) = h := by rw [← e]; rfl
      omega
theorem nms_nodup {p : Prog} : p.nms.Nodup := its_nodup
theorem mem_its : ∀ {rs : List (List Item)} {h i j : Nat} {r : List Item} {x : Item}, rs[i]? = some r → r[j]? = some x → ((h + i, j), x) ∈ itsFrom h rs
  | [], _, _, _, _, _, e, _ => by simp at e
  | r0 :: rs, h, 0, j, r, x, e, e2 => by
    simp at e
    subst e
    unfold itsFrom
    refine List.mem_append_left _ (List.mem_map.mpr ⟨(x, j), ?_, rfl⟩)
    exact List.mem_zipIdx_iff_getElem?.mpr (by simpa using e2)
  | r0 :: rs, h, i + 1, j, r, x, e, e2 => by
    unfold itsFrom
    refine List.mem_append_right _ ?_
    have := mem_its (h := h + 1) (i := i) (j := j) (rs := rs) (r := r) (x := x) (by simpa using e) e2
    rwa [show h + 1 + i = h + (i + 1) by omega] at this
theorem its_iff {p : Prog} {a : Name} {x : Item} : (a, x) ∈ p.its ↔ ∃ r, p.rows[a.1]? = some r ∧ r[a.2]? = some x := by
  constructor
  · exact its_at
  · rintro ⟨r, h1, h2⟩
    have := mem_its (h := 0) h1 h2
    rwa [Nat.zero_add] at this
theorem nms_iff {p : Prog} {a : Name} : a ∈ p.nms ↔ ∃ x, (a, x) ∈ p.its := by
  unfold Prog.nms
  rw [List.mem_map]
  constructor
  · rintro ⟨⟨b, x⟩, h, rfl⟩; exact ⟨x, h⟩
  · rintro ⟨x, h⟩; exact ⟨(a, x), h, rfl⟩
theorem chg_mem {p : Prog} {s v : Int} {c : Name} (h : p.chg s v = some c) : ∃ g, (c, Item.put s v g) ∈ p.its := by
  unfold Prog.chg at h
  obtain ⟨x, hx, rfl⟩ := Option.map_eq_some_iff.mp h
  have hm := List.mem_of_mem_head? (by simpa using hx) (l := p.setters s v)
  obtain ⟨h1, h2⟩ := List.mem_filter.mp hm
  obtain ⟨nm, it⟩ := x
  cases it with
  | tell a => simp at h2
  | wait a => simp at h2
  | put a b g =>
    simp at h2
    obtain ⟨rfl, rfl⟩ := h2
    exact ⟨g, h1⟩
theorem bef_nms {p : Prog} {b : Bef} (h : b ∈ p.bef) : b.1 ∈ p.nms ∧ b.2.1 ∈ p.nms := by
  obtain ⟨⟨a, it⟩, hq, hb⟩ := List.mem_flatMap.mp h
  have ha : a ∈ p.nms := nms_iff.mpr ⟨it, hq⟩
  have hc : ∀ {s v : Int} {c : Name}, c ∈ (p.chg s v).toList → c ∈ p.nms := fun {s v c} h => by
    obtain ⟨g, hg⟩ := chg_mem (by simpa using h)
    exact nms_iff.mpr ⟨_, hg⟩
  unfold Prog.itemB at hb
  rcases List.mem_append.mp hb with hb | hb
  · unfold rowB at hb
    split at hb
    · rename_i h0
      rcases List.mem_singleton.mp hb with rfl
      obtain ⟨r, h1, h2⟩ := its_iff.mp hq
      refine ⟨?_, ha⟩
      obtain ⟨h3, _⟩ := List.getElem?_eq_some_iff.mp h2
      have h4 : a.2 - 1 < r.length := by omega
      exact nms_iff.mpr ⟨r[a.2 - 1], its_iff.mpr ⟨r, h1, List.getElem?_eq_getElem h4⟩⟩
    · cases hb
  · cases it with
    | tell s => cases hb
    | wait s =>
      obtain ⟨q, hq2, rfl⟩ := List.mem_map.mp hb
      exact ⟨nms_iff.mpr ⟨q.2, (List.mem_filter.mp hq2).1⟩, ha⟩
    | put s v g =>
      rcases List.mem_append.mp hb with hb | hb
      · unfold Prog.turnB at hb
        split at hb
        · obtain ⟨c, hc2, rfl⟩ := List.mem_map.mp hb
          exact ⟨hc hc2, ha⟩
        · cases hb
      · obtain ⟨pr, _, hb⟩ := List.mem_flatMap.mp hb
        unfold Prog.guardB at hb
        rcases List.mem_append.mp hb with hb | hb
        · split at hb
          · cases hb
          · obtain ⟨c, hc2, rfl⟩ := List.mem_map.mp hb
            exact ⟨hc hc2, ha⟩
        · split at hb
          · obtain ⟨c, hc2, rfl⟩ := List.mem_map.mp hb
            exact ⟨ha, hc hc2⟩
          · cases hb
theorem prs_nms {p : Prog} {q : Name × Name} (h : q ∈ p.prs) : q.1 ∈ p.nms ∧ q.2 ∈ p.nms := by
  obtain ⟨b, hb, rfl⟩ := List.mem_map.mp h
  exact bef_nms (befs_perm.mem_iff.mp hb)
theorem prs_len {p : Prog} (ok : ProgOk p) : p.prs.length ≤ 1008 := by unfold Prog.prs; rw [List.length_map]; exact befs_len ok
theorem prs_map {p : Prog} : (p.befs.map fun b => D.tup [nameD b.1, nameD b.2.1]) = p.prs.map prD := by unfold Prog.prs; rw [List.map_map]; rfl
end VI

set_option Elab.async false
set_option linter.all false
set_option maxRecDepth 100000
set_option maxHeartbeats 1000000
/-! the closure of the befores, as the law reckons it -/
namespace VI
open PySem
variable {T : Tbl} {gl : Nat → Option D} {n k : Nat}
/-- what stands right ahead of each -/
noncomputable def Prog.pre (p : Prog) (a : Name) : List Name := (p.prs.filter fun q => decide (q.2 = a)).map (·.1)
/-- all that is ahead of each, however far -/
noncomputable def Prog.ahead (p : Prog) : Name → List Name := war p.pre p.nms
abbrev Prog.R (p : Prog) : Name → Name → Prop := Rel p.prs
theorem pre_iff {p : Prog} {x a : Name} : x ∈ p.pre a ↔ p.R x a := by
  unfold Prog.pre
  rw [List.mem_map]
  constructor
  · rintro ⟨⟨y, b⟩, h, rfl⟩
    obtain ⟨h1, h2⟩ := List.mem_filter.mp h
    have h2 : b = a := of_decide_eq_true h2
    rw [← h2]; exact h1
  · intro h
    exact ⟨(x, a), List.mem_filter.mpr ⟨h, by simp⟩, rfl⟩
theorem ahead_iff {p : Prog} {x a : Name} : x ∈ p.ahead a ↔ Way p.R x a := by
  unfold Prog.ahead
  rw [war_mem (R := p.R) (S := fun _ => False) fun x a => by rw [pre_iff, via_none]]
  rw [← via_all (N := p.nms) (R := p.R) fun x a h => (prs_nms h).2]
  constructor
  · exact fun v => v.mono fun _ s => s.elim False.elim id
  · exact fun v => v.mono fun _ s => .inr s
theorem pre_cnt {p : Prog} (ok : ProgOk p) (a x : Name) : (p.pre a).count x ≤ 1008 := by
  refine Nat.le_trans List.count_le_length ?_
  unfold Prog.pre
  rw [List.length_map]
  exact Nat.le_trans (List.length_filter_le _ _) (prs_len ok)
theorem pre_sub {p : Prog} (a : Name) : ∀ x ∈ p.pre a, x ∈ p.nms := fun x h => (prs_nms (pre_iff.mp h)).1
theorem warS_self {A : Name → List Name} {m : Name} : warS A m m = A m := by
  unfold warS
  split
  · have : (A m).filter (fun x => decide (x ∉ A m)) = [] := List.filter_eq_nil_iff.mpr fun x hx => by simpa using hx
    rw [this, List.append_nil]
  · rfl
structure Lah (T : Tbl) : Prop extends Lbf T where
  ahead : T.at_ 450624087419592802394468 = some F__law_ahead
def lstN (A : Name → List Name) (a : Name) : D := .lst ((A a).map nameD)
def MidP (A B : Name → List Name) (m : Name) (dn : List Name) : Prop := ∀ a, B a = if a ∈ dn then warS A m a else A a
def CntP (A : Name → List Name) : Prop := ∀ a x, (A a).count x ≤ 1008
def SubP (p : Prog) (A : Name → List Name) : Prop := ∀ a, ∀ x ∈ A a, x ∈ p.nms
def OutA (p : Prog) (w : Wd) (dn : List Name) (e : Env) (w' : Wd) : Prop := w' = w ∧ ∃ A x2 x5, e = [.fz p.d, .od (nd (lstN A) p.nms), x2, .fz (.lst (p.nms.map nameD)), .fz (.lst (p.prs.map prD)), x5, .no, .no, .no] ∧ A = war p.pre dn ∧ CntP A ∧ SubP p A
def InnA (p : Prog) (A : Name → List Name) (m : Name) (w : Wd) (dn2 : List Name) (e : Env) (w2 : Wd) : Prop := w2 = w ∧ ∃ B x5, e = [.fz p.d, .od (nd (lstN B) p.nms), .fz (nameD m), .fz (.lst (p.nms.map nameD)), .fz (.lst (p.prs.map prD)), x5, .no, .no, .no] ∧ MidP A B m dn2
theorem lahead_ok (b : Lah T) (p : Prog) (ok : ProgOk p) (hs : p.bents = []) : run T gl n (k + 4) 450624087419592802394468 [p.d] = ret (.dct (nd (lstN p.ahead) p.nms)) := by
  rw [run_at b.ahead rfl]
  refine ret_of_wp fun w => ?_
  have lb := befs_len ok
  have ln := nms_le ok
  have l1 : p.befs.length ≤ lim := le_lim (by omega)
  have l2 : p.prs.length ≤ lim := le_lim (by have := prs_len ok; omega)
  have l3 : p.nms.length ≤ lim := le_lim (by omega)
  simp [F__law_ahead, startE, bindA, List.replicate, wp_bnd, wp_ret, wp_seq, names_ok b.toNm p ok, nms_map, lbefores_ok b.toLbf p ok hs]
  rw [mapM_pureL (h := fun b => some (.tup [nameD b.1, nameD b.2.1])) fun b hb => by simp [befD]]
  simp [prs_map, l2, wp_bnd, wp_ret, wp_seq]
  rw [mapM_pureL (h := fun a => some (.tup [nameD a, lstN p.pre a])) fun a ha => by
    rw [mapM_pureL (h := fun q => if (decide (q.2 = a)) = true then some (nameD q.1) else none) fun q hq => by
      simp [prD]
      by_cases c : q.2 = a <;> simp [c]]
    rw [fm_filter]
    have e : ((p.prs.filter fun q => decide (q.2 = a)).map fun q => nameD q.1) = (p.pre a).map nameD := by unfold Prog.pre; rw [List.map_map]; rfl
    have e2 : (p.pre a).length ≤ lim := le_lim (by
      unfold Prog.pre
      rw [List.length_map]
      have := List.length_filter_le (fun (q : Name × Name) => decide (q.2 = a)) p.prs
      have := prs_len ok
      omega)
    rw [e]
    simp [e2, lstN]]
  simp [l3, wp_bnd, wp_ret, wp_seq, dict_nd nms_nodup]
  have bound : ∀ {A : Name → List Name} (a : Name), CntP A → SubP p A → (A a).length ≤ 24192 := fun {A} a h1 h2 => by
    have := cnt_len (N := p.nms) (l := A a) (C := 1008) (h2 a) (h1 a)
    have : p.nms.length * 1008 ≤ 24 * 1008 := Nat.mul_le_mul_right _ ln
    omega
  refine wp_forL2 (OutA p w) ⟨rfl, _, _, _, rfl, rfl, pre_cnt ok, pre_sub⟩ ?_ ?_
  · rintro dn m rr env w' hdn ⟨rfl, A, x2, x5, rfl, hA, hc, hsub⟩
    have hm : m ∈ p.nms := by rw [← hdn]; simp
    refine ⟨_, rfl, ?_⟩
    simp [wp_seq, wp_bnd, wp_ret]
    refine wp_forL2 (InnA p A m w') ⟨rfl, _, _, rfl, fun a => by simp⟩ ?_ ?_
    · rintro dn2 a rr2 env w2 hdn2 ⟨rfl, B, x5, rfl, hB⟩
      have ha : a ∈ p.nms := by rw [← hdn2]; simp
      have hna : a ∉ dn2 := fun z => by
        have h1 : (dn2 ++ a :: rr2).Nodup := by rw [hdn2]; exact nms_nodup
        exact (List.nodup_append.mp h1).2.2 a z a (.head _) rfl
      have eBa : B a = A a := by rw [hB, if_neg hna]
      have eBm : B m = A m := by
        rw [hB]
        split
        · exact warS_self
        · rfl
      refine ⟨_, rfl, ?_⟩
      simp [wp_seq, wp_bnd, wp_ret, ixM_dct key_name, dget_nd ha, lstN, eBa]
      by_cases c : m ∈ A a
      · have e1 : warS A m a = A a ++ (A m).filter (fun x => decide (x ∉ A a)) := if_pos c
        have hl1 := bound a hc hsub
        have hl2 : ((A m).filter (fun x => decide (x ∉ A a))).length ≤ 24192 := Nat.le_trans (List.length_filter_le _ _) (bound m hc hsub)
        simp [c, wp_seq, wp_bnd, wp_ret, ixM_dct key_name, dget_nd ha, dget_nd hm, lstN, eBa, eBm]
        rw [mapM_pureL (h := fun x => if (decide (x ∉ A a)) = true then some (nameD x) else none) fun x hx => by
          simp [ixM_dct key_name, dget_nd ha, lstN, eBa]
          by_cases c2 : x ∈ A a <;> simp [c2]]
        rw [fm_filter]
        have g1 : ((A m).filter (fun x => decide (x ∉ A a))).length ≤ lim := le_lim (by omega)
        simp only [bnd_ret, List.length_map, decide_eq_true g1, guard_t, lft_some, shut_ret, wp_ret, wp_bnd]
        rw [add_lst (by rw [List.length_map, List.length_map]; exact le_lim (by omega))]
        simp [wp_ret, wp_bnd]
        rw [putC_od key_name (by rw [nd_len]; exact lt_lim (by omega)), dput_nd ha]
        simp only [wp_ret]
        refine ⟨rfl, fun b => if b = a then warS A m a else B b, .fz (nameD a), ?_, fun b => ?_⟩
        · simp only [List.set_cons_zero, List.set_cons_succ]
          refine congrArg (fun x => [Sl.fz p.d, .od x, .fz (nameD m), .fz (.lst (p.nms.map nameD)), .fz (.lst (p.prs.map prD)), .fz (nameD a), .no, .no, .no]) (nd_congr fun b _ => ?_)
          unfold lstN
          by_cases c2 : b = a
          · subst c2
            simp [e1]
          · simp [c2]
        · by_cases c2 : b = a
          · subst c2; simp
          · simp [c2]; exact hB b
      · have e1 : warS A m a = A a := if_neg c
        simp [c, wp_ret]
        refine ⟨rfl, B, _, rfl, fun b => ?_⟩
        rw [hB]
        by_cases c2 : b = a
        · subst c2; simp [hna, e1]
        · simp [c2]
    · rintro e w2 ⟨rfl, B, x5, rfl, hB⟩
      have eB : ∀ a ∈ p.nms, B a = warS A m a := fun a ha => by rw [hB, if_pos ha]
      have eN : nd (lstN B) p.nms = nd (lstN (warS A m)) p.nms := nd_congr fun a ha => by unfold lstN; rw [eB a ha]
      rw [eN]
      refine ⟨rfl, warS A m, _, _, rfl, ?_, fun a x => warS_cnt hc a x, fun a x hx => warS_sub hsub a x hx⟩
      rw [hA]
      clear hA hc hsub hB eB hdn
      have : ∀ (dn : List Name) (A : Name → List Name), warS (war A dn) m = war A (dn ++ [m]) := by
        intro dn
        induction dn with
        | nil => intro A; rfl
        | cons d dn ih => intro A; exact ih (warS A d)
      exact this dn _
  · rintro e w' ⟨rfl, A, x2, x5, rfl, rfl, hc, hsub⟩
    simp [wp_ret, wp_bnd, wp_seq]
    rfl
end VI

set_option Elab.async false
set_option linter.all false
set_option maxRecDepth 100000
set_option maxHeartbeats 1000000
/-! the ring that the program finds -/
namespace VI
open PySem
variable {T : Tbl} {gl : Nat → Option D} {n k : Nat}
/-- those right before a, among L -/
def preIn (ps : List (Name × Name)) (L : List Name) (a : Name) : List Name := (ps.filter fun q => decide (q.2 = a) && decide (q.1 ∈ L)).map (·.1)
theorem preIn_iff {ps : List (Name × Name)} {L : List Name} {a x : Name} : x ∈ preIn ps L a ↔ Rel ps x a ∧ x ∈ L := by
  unfold preIn
  rw [List.mem_map]
  constructor
  · rintro ⟨⟨y, b⟩, h, rfl⟩
    obtain ⟨h1, h2⟩ := List.mem_filter.mp h
    simp only [Bool.and_eq_true, decide_eq_true_eq] at h2
    rw [← h2.1]; exact ⟨h1, h2.2⟩
  · intro h
    exact ⟨(x, a), List.mem_filter.mpr ⟨h.1, by simp [h.2]⟩, rfl⟩
theorem preIn_empty {ps : List (Name × Name)} {L : List Name} {a : Name} : (preIn ps L a).isEmpty = !hasB ps L a := by
  rw [Bool.eq_iff_iff]
  simp only [List.isEmpty_iff, Bool.not_eq_true', Bool.eq_false_iff, ne_eq, hasB_iff]
  constructor
  · rintro h ⟨x, h1, h2⟩
    have := preIn_iff.mpr ⟨h1, h2⟩
    rw [h] at this; cases this
  · intro h
    refine List.eq_nil_iff_forall_not_mem.mpr fun x hx => h ?_
    obtain ⟨h1, h2⟩ := preIn_iff.mp hx
    exact ⟨x, h1, h2⟩
theorem preIn_len {ps : List (Name × Name)} {L : List Name} {a : Name} : (preIn ps L a).length ≤ ps.length := by
  unfold preIn
  rw [List.length_map]
  exact List.length_filter_le _ _
theorem preIn_map {ps : List (Name × Name)} {L : List Name} {a : Name} : ((ps.filter fun q => decide (q.2 = a) && decide (q.1 ∈ L)).map fun q => nameD q.1) = (preIn ps L a).map nameD := by
  unfold preIn; rw [List.map_map]; rfl
theorem idx_names {x : Name} {l : List Name} (h : x ∈ l) : ∃ j, l[j]? = some x ∧ idxD (.lst (l.map nameD)) (nameD x) = some (.int (j : Nat)) := by
  have h1 : ∃ j, l[j]? = some x ∧ firstAt (nameD x) (l.map nameD) = some j := by
    induction l with
    | nil => cases h
    | cons y l ih =>
      rw [List.map_cons]
      unfold firstAt
      by_cases hy : y = x
      · subst hy
        exact ⟨0, rfl, by rw [if_pos (by simp [eqv_name])]⟩
      · obtain ⟨j, h2, h3⟩ := ih (by rcases List.mem_cons.mp h with e | e; exact absurd e.symm hy; exact e)
        refine ⟨j + 1, by simpa using h2, ?_⟩
        rw [if_neg (by simp [eqv_name, hy]), h3]; rfl
  obtain ⟨j, h2, h3⟩ := h1
  refine ⟨j, h2, ?_⟩
  show (if (D.ok dpt (nameD x) && D.ok dpt (.lst (l.map nameD))) = true then _ else _) = _
  rw [h3, show D.ok dpt (nameD x) = true from ok_name (m := 11), show D.ok dpt (.lst (l.map nameD)) = true from ok_namesL (m := 10)]
  rfl
structure Rgs (T : Tbl) (gl : Nat → Option D) : Prop extends Bfs T gl where
  ring_in : T.at_ 32204070246639982 = some F_ring_in
  ring : T.at_ 1919512167 = some F_ring
  shows : T.at_ 544998638928989210111591 = some F_shows_ring
structure LOk (p : Prog) (L : List Name) : Prop where
  sub : ∀ a ∈ L, a ∈ p.nms
  kept : Kept p.prs L
  few : L.length ≤ 24
theorem LOk.peel {p : Prog} {L : List Name} (h : LOk p L) : LOk p (peel p.prs L) :=
  ⟨fun a ha => h.sub a (List.mem_filter.mp ha).1, kept_peel h.kept, Nat.le_trans (List.length_filter_le _ _) h.few⟩
/-- what the program's ring is -/
def RingP (p : Prog) : Option (List Name) → Prop
  | none => ∀ a, ¬ Way p.R a a
  | some v => v ≠ [] ∧ (∀ a ∈ v, a ∈ p.nms) ∧ v.length ≤ 24 ∧ ringB p.prs v = true
def ringD : Option (List Name) → D
  | none => .non
  | some v => .tup (v.map nameD)
@[simp] theorem isNon_ring {o : Option (List Name)} : isNon (ringD o) = o.isNone := by cases o <;> rfl
theorem RingP.iff {p : Prog} {o : Option (List Name)} (h : RingP p o) : o.isSome = true ↔ ∃ a ∈ p.nms, Way p.R a a := by
  cases o with
  | none =>
    constructor
    · intro z; cases z
    · rintro ⟨a, _, w⟩; exact absurd w (h a)
  | some v =>
    constructor
    · intro _
      obtain ⟨a, ha, w⟩ := ring_way h.2.2.2 h.1
      exact ⟨a, h.2.1 a ha, w⟩
    · intro _; rfl
def PeelI (p : Prog) (w : Wd) (j : Nat) (e : Env) (w' : Wd) : Prop := w' = w ∧ ∃ (L : List Name) (g : Bool) (x5 : Sl), e = [.fz p.d, .fz (.lst (p.prs.map prD)), .no, .fz (.lst (L.map nameD)), .fz (.bl g), x5, .no, .no, .no, .no, .no] ∧ LOk p L ∧ (g = false → ends p.prs L = []) ∧ j = if g = true then L.length + 1 else 0
def LineI (p : Prog) (L : List Name) (w : Wd) (j : Nat) (e : Env) (w' : Wd) : Prop := w' = w ∧ ∃ (l : List Name) (x4 x5 x6 : Sl), e = [.fz p.d, .fz (.lst (p.prs.map prD)), .ow (l.map nameD), .fz (.lst (L.map nameD)), x4, x5, x6, .no, .no, .no, .no] ∧ l ≠ [] ∧ l.Nodup ∧ (∀ a ∈ l, a ∈ L) ∧ Back p.prs l ∧ j = L.length + 1 - l.length
theorem cont_mono {k : Env → M Flow} {Q R : Flow → Wd → Prop} {fl : Flow} {w : Wd} (h : contW k Q fl w) (g : ∀ fl w, Q fl w → R fl w) : contW k R fl w := by
  cases fl with
  | nx e => exact wp_mono h g
  | rt d => exact g _ _ h
  | bk e => exact g _ _ h
theorem nodup_le {l L : List Name} (h : l.Nodup) (s : ∀ a ∈ l, a ∈ L) : l.length ≤ L.length := h.length_le_of_subset s
abbrev lineB : Ss := (.cons (.own 2 (.lst (.cons (.ix (.var 3) (.int 0)) .nil))) (.cons (.while_ (.bl true) (.cons (.set 6 (.ix (.comp (.many [7, 8]) (.seq (.var 1)) (.some (.and (.cmp .eq (.var 8) (.ix (.bor 2) (.neg (.int 1)))) (.cmp .isin (.var 7) (.var 3)))) (.var 7)) (.int 0))) (.cons (.ite (.cmp .isin (.var 6) (.bor 2)) (.cons (.ret (.blt .tuple (.rev (.sl (.bor 2) (.some (.idx (.bor 2) (.var 6))) .none)))) .nil) .nil) (.cons (.app 2 (.var 6)) .nil)))) .nil))
/-- the walk back, once all have one before them -/
theorem line_ok {p : Prog} (ok : ProgOk p) (hn : 100 ≤ n) {L : List Name} (h : LOk p L) (he : ends p.prs L = []) (hne : L ≠ []) (x4 x5 : Sl) (w : Wd) :
    wp (execs ⟨run T gl n (k + 5), gl, n⟩ lineB [.fz p.d, .fz (.lst (p.prs.map prD)), .no, .fz (.lst (L.map nameD)), x4, x5, .no, .no, .no, .no, .no]) w fun fl w' => w' = w ∧ ∃ v, fl = .rt (ringD (some v)) ∧ RingP p (some v) := by
  have lp := prs_len ok
  cases L with
  | nil => exact absurd rfl hne
  | cons a0 L0 =>
    generalize hL : a0 :: L0 = L at *
    have ha0 : a0 ∈ L := by rw [← hL]; exact .head _
    have e0 : D.ix (.lst (L.map nameD)) (.int 0) = some (nameD a0) := by rw [← hL, List.map_cons, ix_lst_0]; rfl
    simp [wp_seq, wp_bnd, wp_ret, e0]
    refine wp_while (LineI p L w) ?_ n (L.length + 1 - 1) _ w (by have := h.few; omega) ⟨rfl, [a0], _, _, _, rfl, by simp, by simp, fun a ha => by rcases List.mem_singleton.mp ha with rfl; exact ha0, trivial, rfl⟩
    rintro j e w' ⟨rfl, l, y4, y5, y6, rfl, l1, l2, l3, l4, rfl⟩
    have lle := nodup_le l2 l3
    obtain ⟨l0, y, rfl⟩ : ∃ l0 y, l = l0 ++ [y] := ⟨l.dropLast, l.getLast l1, (List.dropLast_concat_getLast l1).symm⟩
    have hyL : y ∈ L := l3 y (by simp)
    have hpy : hasB p.prs L y = true := by
      have := List.filter_eq_nil_iff.mp he y hyL
      simpa using this
    obtain ⟨x, xs, hx⟩ : ∃ x xs, preIn p.prs L y = x :: xs := by
      cases q : preIn p.prs L y with
      | nil =>
        have := preIn_empty (ps := p.prs) (L := L) (a := y)
        rw [q, hpy] at this; cases this
      | cons x xs => exact ⟨x, xs, rfl⟩
    obtain ⟨rx, xL⟩ := preIn_iff.mp (show x ∈ preIn p.prs L y by rw [hx]; exact .head _)
    have lm : ((l0 ++ [y]).map nameD) = l0.map nameD ++ [nameD y] := by simp
    have elast : D.ix (.lst ((l0 ++ [y]).map nameD)) (.int (-1)) = some (nameD y) := by rw [lm]; exact ix_last
    have epre : (preIn p.prs L y).length ≤ lim := le_lim (by have := preIn_len (ps := p.prs) (L := L) (a := y); omega)
    generalize hl : l0 ++ [y] = l at *
    simp [wp_ret]
    simp only [wp_seq, wp_bnd, wp_ret]
    rw [mapM_pureL (h := fun q => if (decide (q.2 = y) && decide (q.1 ∈ L)) = true then some (nameD q.1) else none) fun q hq => by
      simp [prD, elast]
      by_cases c1 : q.2 = y <;> by_cases c2 : q.1 ∈ L <;> simp [c1, c2]]
    rw [fm_filter, preIn_map]
    have e3 : ixM (.lst ((preIn p.prs L y).map nameD)) (.int 0) = ret (nameD x) := by rw [hx]; simp
    simp only [bnd_ret, List.length_map, decide_eq_true epre, guard_t, lft_some, shut_ret, wp_ret, e3]
    by_cases c : x ∈ l
    · obtain ⟨i, hi, hidx⟩ := idx_names c
      have hil : i ≤ (l.map nameD).length := by
        obtain ⟨z, _⟩ := List.getElem?_eq_some_iff.mp hi
        rw [List.length_map]; omega
      simp [wp_seq, wp_bnd, wp_ret, c, hidx, sl_drop hil]
      refine ⟨(l.drop i).reverse, ?_, ?_, ?_, ?_, ?_⟩
      · show _ = D.tup _
        rw [List.map_reverse, List.map_drop]
      · intro z
        have := congrArg List.length z
        obtain ⟨z2, _⟩ := List.getElem?_eq_some_iff.mp hi
        simp at this
        omega
      · intro a ha
        exact h.sub a (l3 a (List.mem_of_mem_drop (List.mem_reverse.mp ha)))
      · have := h.few
        simp
        omega
      · exact ring_of l4 hi (by rw [← hl]; simp) rx
    · have hl3 : (l.map nameD).length < lim := lt_lim (by rw [List.length_map]; have := h.few; omega)
      have hnd : (l ++ [x]).Nodup := by
        refine List.nodup_append.mpr ⟨l2, by simp, fun a ha b hb e => c ?_⟩
        rcases List.mem_singleton.mp hb with rfl
        rw [← e]; exact ha
      have hsub : ∀ a ∈ l ++ [x], a ∈ L := fun a ha => by
        rcases List.mem_append.mp ha with ha | ha
        · exact l3 a ha
        · rcases List.mem_singleton.mp ha with rfl; exact xL
      have hle2 := nodup_le hnd hsub
      simp [wp_seq, wp_bnd, wp_ret, c, appB_ok hl3]
      rw [List.length_append, List.length_singleton] at hle2
      refine ⟨L.length + 1 - (l ++ [x]).length, by simp; omega, rfl, l ++ [x], y4, y5, .fz (nameD x), by simp, by simp, hnd, hsub, back_app l4 fun z hz => ?_, rfl⟩
      have : z = y := by
        rw [← hl] at hz
        simpa using hz.symm
      rw [this]; exact rx
theorem ring_in_ok (b : Rgs T gl) (p : Prog) (ok : ProgOk p) (hs : p.bents = []) (hn : 100 ≤ n) (w : Wd) : wp (run T gl n (k + 6) 32204070246639982 [p.d]) w fun d w' => w' = w ∧ ∃ o, d = ringD o ∧ RingP p o := by
  rw [run_at b.ring_in rfl]
  have lp := prs_len ok
  have ln := nms_le ok
  have l2 : p.prs.length ≤ lim := le_lim (by omega)
  simp [F_ring_in, startE, bindA, List.replicate, wp_bnd, wp_ret, wp_seq, befores_in_ok b.toBfs p ok hs, all_items_ok b.toBase p ok, nms_map]
  rw [mapM_pureL (h := fun b => some (.tup [nameD b.1, nameD b.2.1])) fun b hb => by simp [befD]]
  simp [prs_map, l2, wp_bnd, wp_ret, wp_seq]
  refine wp_while (PeelI p w) ?_ n (p.nms.length + 1) _ w (by omega) ⟨rfl, p.nms, true, _, rfl, ⟨fun a ha => ha, fun a v => ?_, ln⟩, (fun z => by cases z), rfl⟩
  · rintro j e w' ⟨rfl, L, g, x5, rfl, hL, hg, rfl⟩
    cases g with
    | false =>
      have he := hg rfl
      simp [wp_ret, wp_seq, wp_bnd]
      rw [eq_nilL]
      by_cases c : L = []
      · subst c
        simp [wp_ret, wp_seq, wp_bnd]
        exact ⟨none, rfl, fun a v => nomatch hL.kept a v⟩
      · have c2 : L.isEmpty = false := by cases L <;> first | (exact absurd rfl c) | rfl
        simp [c2, wp_ret, wp_seq, wp_bnd]
        have := line_ok (T := T) (gl := gl) (k := k) ok hn hL he c (.fz (.bl false)) x5 w'
        simp [wp_ret, wp_seq, wp_bnd] at this
        refine wp_mono this fun a w2 h => wp_mono h fun fl w3 h2 => cont_mono h2 ?_
        rintro fl w4 ⟨rfl, v, rfl, hv⟩
        exact wp_ret.mpr ⟨rfl, some v, rfl, hv⟩
    | true =>
      simp [wp_ret, wp_seq, wp_bnd]
      rw [mapM_pureL (h := fun a => if (!hasB p.prs L a) = true then some (nameD a) else none) fun a ha => by
        rw [mapM_pureL (h := fun q => if (decide (q.2 = a) && decide (q.1 ∈ L)) = true then some (nameD q.1) else none) fun q hq => by
          simp [prD]
          by_cases c1 : q.2 = a <;> by_cases c2 : q.1 ∈ L <;> simp [c1, c2]]
        rw [fm_filter, preIn_map]
        have epre : (preIn p.prs L a).length ≤ lim := le_lim (by have := preIn_len (ps := p.prs) (L := L) (a := a); omega)
        simp [epre, eq_nilL, preIn_empty]
        cases hasB p.prs L a <;> simp]
      rw [fm_filter, show (L.filter fun a => !hasB p.prs L a) = ends p.prs L from rfl]
      have hfew := hL.few
      have e1 : (ends p.prs L).length ≤ lim := le_lim (by have : (ends p.prs L).length ≤ L.length := List.length_filter_le _ _; omega)
      have e2 : (peel p.prs L).length ≤ lim := le_lim (by have : (peel p.prs L).length ≤ L.length := List.length_filter_le _ _; omega)
      simp only [bnd_ret, List.length_map, decide_eq_true e1, guard_t, lft_some, shut_ret, wp_ret]
      rw [mapM_pureL (h := fun a => if (decide (a ∉ ends p.prs L)) = true then some (nameD a) else none) fun a ha => by
        by_cases c : a ∈ ends p.prs L <;> simp [c]]
      rw [fm_filter, peel_ends]
      simp only [bnd_ret, List.length_map, decide_eq_true e2, guard_t, lft_some, shut_ret, wp_ret, ne_nilL, Option.map_some]
      by_cases c : ends p.prs L = []
      · refine ⟨0, by omega, rfl, peel p.prs L, false, _, by rw [c]; rfl, hL.peel, fun _ => by rw [peel_same c]; exact c, rfl⟩
      · have hl := peel_len c
        have c2 : (ends p.prs L).isEmpty = false := by cases q : ends p.prs L <;> first | (exact absurd q c) | rfl
        exact ⟨(peel p.prs L).length + 1, by omega, rfl, peel p.prs L, true, _, by rw [c2]; rfl, hL.peel, (fun z => by cases z), rfl⟩
  · obtain ⟨y, r, _⟩ := v.last
    exact (prs_nms r).2
theorem ring_ok (b : Rgs T gl) (p : Prog) (ok : ProgOk p) (hs : p.bents = []) (hn : 100 ≤ n) (w : Wd) : wp (run T gl n (k + 7) 1919512167 [p.d]) w fun d w' => w' = w ∧ ∃ o, d = ringD o ∧ RingP p o := by
  rw [run_at b.ring rfl]
  simp [F_ring, startE, bindA, List.replicate, wp_bnd, wp_ret, wp_seq, need_straight_ok b.toBfs p ok hs]
  refine wp_mono (ring_in_ok (k := k) b p ok hs hn w) ?_
  rintro d w' ⟨rfl, o, rfl, h⟩
  exact ⟨rfl, o, rfl, h⟩
end VI

set_option Elab.async false
set_option linter.all false
set_option maxRecDepth 100000
set_option maxHeartbeats 1000000
/-! shows_ring, is_vector: values that may be rings -/
namespace VI
open PySem
variable {T : Tbl} {gl : Nat → Option D} {n k : Nat}
/-- ints and bools -/
def isIB : D → Bool
  | .int _ => true
  | .bl _ => true
  | _ => false
def isI : D → Bool
  | .int _ => true
  | _ => false
/-- what a judged value may hold -/
def ElB : D → Bool
  | .non => true
  | .lst xs => xs.all isIB
  | .tup xs => xs.all isIB && decide (xs.length ≤ 1000)
  | _ => false
/-- what may be judged -/
def VlB : D → Bool
  | .tup vs => vs.all ElB && decide (vs.length ≤ 1000)
  | .fn _ => false
  | .obj _ => false
  | .scr _ => false
  | _ => true
def asNm (p : Prog) : D → Option Name
  | .tup [.int i, .int j] => if 0 ≤ i ∧ 0 ≤ j ∧ (i.toNat, j.toNat) ∈ p.nms then some (i.toNat, j.toNat) else none
  | _ => none
def asNms (p : Prog) : List D → Option (List Name)
  | [] => some []
  | d :: ds => match asNm p d, asNms p ds with
    | some a, some l => some (a :: l)
    | _, _ => none
theorem asNm_some {p : Prog} {d : D} {a : Name} : asNm p d = some a ↔ d = nameD a ∧ a ∈ p.nms := by
  constructor
  · intro h
    unfold asNm at h
    split at h
    · rename_i i j
      split at h
      · rename_i c
        cases h
        refine ⟨?_, c.2.2⟩
        unfold nameD
        have h1 : ((i.toNat : Nat) : Int) = i := by omega
        have h2 : ((j.toNat : Nat) : Int) = j := by omega
        rw [h1, h2]
      · cases h
    · cases h
  · rintro ⟨rfl, h⟩
    unfold asNm nameD
    simp [h]
theorem asNms_some {p : Prog} : ∀ {ds : List D} {l : List Name}, asNms p ds = some l ↔ ds = l.map nameD ∧ ∀ a ∈ l, a ∈ p.nms
  | [], l => by
    unfold asNms
    constructor
    · intro h; cases h; exact ⟨rfl, fun a h => (nomatch h)⟩
    · rintro ⟨h, _⟩
      cases l with
      | nil => rfl
      | cons a l => cases h
  | d :: ds, l => by
    unfold asNms
    constructor
    · intro h
      split at h
      · rename_i a l' h1 h2
        cases h
        obtain ⟨rfl, ha⟩ := asNm_some.mp h1
        obtain ⟨rfl, hl⟩ := asNms_some.mp h2
        refine ⟨rfl, fun b hb => ?_⟩
        rcases List.mem_cons.mp hb with rfl | hb
        · exact ha
        · exact hl b hb
      · cases h
    · rintro ⟨h, hl⟩
      cases l with
      | nil => cases h
      | cons a l =>
        injection h with h1 h2
        rw [asNm_some.mpr ⟨h1, hl a (.head _)⟩, asNms_some.mpr ⟨h2, fun b hb => hl b (.tail _ hb)⟩]
theorem asNms_none {p : Prog} : ∀ {ds : List D}, (asNms p ds).isSome = ds.all fun d => (asNm p d).isSome
  | [] => rfl
  | d :: ds => by
    unfold asNms
    rw [List.all_cons, ← asNms_none]
    cases asNm p d <;> cases asNms p ds <;> rfl
theorem eqvs_len : ∀ {xs ys : List D}, D.eqvs xs ys = true → xs.length = ys.length
  | [], [], _ => rfl
  | x :: xs, y :: ys, h => by
    rw [D.eqvs, Bool.and_eq_true] at h
    rw [List.length_cons, List.length_cons, eqvs_len h.2]
  | [], _ :: _, h => by simp [D.eqvs] at h
  | _ :: _, [], h => by simp [D.eqvs] at h
theorem eqvs_ints {i j : Int} : ∀ {xs : List D}, D.eqvs [.int i, .int j] xs = true → xs.all isI = true → xs = [.int i, .int j]
  | [], h, _ => nomatch eqvs_len h
  | [_], h, _ => nomatch eqvs_len h
  | _ :: _ :: _ :: _, h, _ => nomatch eqvs_len h
  | [x, y], h, hi => by
    simp only [List.all_cons, List.all_nil, Bool.and_true, Bool.and_eq_true] at hi
    cases x <;> first | (exact absurd hi.1 Bool.false_ne_true) | skip
    cases y <;> first | (exact absurd hi.2 Bool.false_ne_true) | skip
    rw [D.eqvs, D.eqvs, D.eqvs] at h
    simp [D.eqv] at h
    rw [h.1, h.2]
theorem eqv_nameI {a : Name} {xs : List D} (h : D.eqv (nameD a) (.tup xs) = true) (hi : xs.all isI = true) : .tup xs = nameD a := by
  unfold nameD at h ⊢
  rw [D.eqv] at h
  rw [eqvs_ints h hi]
theorem ib_ok {m : Nat} {d : D} (h : isIB d = true) : D.ok m d = true := by
  cases d <;> first | exact ok_int | exact ok_bl | (exact absurd h Bool.false_ne_true)
theorem ibs_ok {m : Nat} {xs : List D} (h : xs.all isIB = true) : D.ok (m + 1) (.lst xs) = true ∧ D.ok (m + 1) (.tup xs) = true := by
  have : xs.all (D.ok m) = true := List.all_eq_true.mpr fun x hx => ib_ok (List.all_eq_true.mp h x hx)
  exact ⟨this, this⟩
theorem el_ok {m : Nat} {d : D} (h : ElB d = true) : D.ok (m + 1) d = true := by
  cases d <;> first | exact ok_non | (exact absurd h Bool.false_ne_true) | skip
  · rename_i xs
    simp only [ElB, Bool.and_eq_true] at h
    exact (ibs_ok h.1).2
  · rename_i xs
    exact (ibs_ok h).1
theorem vl_ok {m : Nat} {vs : List D} (h : VlB (.tup vs) = true) : D.ok (m + 2) (.tup vs) = true := by
  simp only [VlB, Bool.and_eq_true] at h
  exact List.all_eq_true.mpr fun x hx => el_ok (List.all_eq_true.mp h.1 x hx)
theorem nin_any {x : D} {l : List Name} (h : D.ok dpt x = true) : D.cmp .notin x (.lst (l.map nameD)) = some (!l.any fun a => D.eqv (nameD a) x) := by
  have e : D.isIn x (.lst (l.map nameD)) = D.inSeq x (l.map nameD) := by cases x <;> rfl
  show (D.isIn _ _).map not = _
  rw [e]
  unfold D.inSeq
  rw [h, show D.ok dpt (.lst (l.map nameD)) = true from ok_namesL (m := 10)]
  simp [List.any_map]
  rfl
theorem is_in_bl (h : T.at_ 452907198830 = some F_is_in) (v : Bool) (lo hi : Int) : run T gl n (k + 1) 452907198830 [.bl v, .int lo, .int hi] = ret (.bl false) := by
  rw [run_at h rfl]
  simp [F_is_in, startE, bindA, isTys, D.isTy, List.replicate]
/-- in 0 .. 99, no bool -/
def inB : D → Bool
  | .int i => decide (0 ≤ i) && decide (i ≤ 99)
  | _ => false
theorem is_in_ib (h : T.at_ 452907198830 = some F_is_in) {d : D} (hd : isIB d = true) : run T gl n (k + 1) 452907198830 [d, .int 0, .int 99] = ret (.bl (inB d)) := by
  cases d <;> first | (exact absurd hd Bool.false_ne_true) | skip
  · exact is_in_bl h _ _ _
  · exact is_in_ok h _ _ _
theorem nms_small {p : Prog} (ok : ProgOk p) {a : Name} (h : a ∈ p.nms) : a.1 < 4 ∧ a.2 < 24 := by
  obtain ⟨x, hx⟩ := nms_iff.mp h
  obtain ⟨r, h1, h2⟩ := its_at hx
  obtain ⟨l1, _⟩ := List.getElem?_eq_some_iff.mp h1
  obtain ⟨l2, _⟩ := List.getElem?_eq_some_iff.mp h2
  have l1 : a.1 < p.rows.length := l1
  have l2 : a.2 < r.length := l2
  have := ok.r2
  have h3 := le_tot (List.mem_of_getElem? h1)
  have := ok.tot
  exact ⟨by omega, by omega⟩
/-- the program's question of one item -/
theorem one_bad {p : Prog} (ok : ProgOk p) {xs : List D} (h : xs.all isIB = true) : ((!(xs.filter fun x => !inB x).isEmpty) || !(p.nms.any fun a => D.eqv (nameD a) (.tup xs))) = (asNm p (.tup xs)).isNone := by
  cases q : asNm p (.tup xs) with
  | some a =>
    obtain ⟨e, ha⟩ := asNm_some.mp q
    obtain ⟨h1, h2⟩ := nms_small ok ha
    have e2 : xs = [.int a.1, .int a.2] := by
      unfold nameD at e
      injection e
    subst e2
    have i1 : inB (.int (a.1 : Int)) = true := by simp [inB]; omega
    have i2 : inB (.int (a.2 : Int)) = true := by simp [inB]; omega
    have : (p.nms.any fun b => D.eqv (nameD b) (.tup [.int a.1, .int a.2])) = true := List.any_eq_true.mpr ⟨a, ha, by rw [show D.tup [.int (a.1 : Int), .int a.2] = nameD a from rfl, eqv_name]; simp⟩
    rw [this]
    simp [i1, i2]
  | none =>
    by_cases c : (xs.filter fun x => !inB x).isEmpty = true
    · have hi : xs.all isI = true := List.all_eq_true.mpr fun x hx => by
        have := List.filter_eq_nil_iff.mp (List.isEmpty_iff.mp c) x hx
        cases x <;> first | rfl | (simp [inB] at this; done)
      have : (p.nms.any fun b => D.eqv (nameD b) (.tup xs)) = false := by
        rw [List.any_eq_false]
        intro a ha z
        have e := eqv_nameI z hi
        rw [asNm_some.mpr ⟨e, ha⟩] at q
        cases q
      rw [this]; simp
    · simp only [Bool.not_eq_true] at c
      rw [c]; rfl
/-- shows_ring's answer where there is a ring -/
noncomputable def shB (p : Prog) : D → Bool
  | .tup vs => !vs.isEmpty && match asNms p vs with
    | some l => ringB p.prs l
    | none => false
  | _ => false
theorem ix_prev {l : List Name} {i : Nat} (h : i < l.length) : D.ix (.tup (l.map nameD)) (.int ((i : Int) - 1)) = (if i = 0 then l[l.length - 1]? else l[i - 1]?).map nameD := by
  show L2.atI _ _ = _
  by_cases c : i = 0
  · subst c
    rw [if_pos rfl]
    unfold L2.atI L2.ixN
    rw [if_neg (by omega), if_pos (by rw [List.length_map]; omega)]
    show (l.map nameD)[(((0 : Nat) : Int) - 1 + ((l.map nameD).length : Int)).toNat]? = _
    rw [List.length_map, List.getElem?_map]
    congr 2
    omega
  · rw [if_neg c]
    have e : ((i : Int) - 1) = ((i - 1 : Nat) : Int) := by omega
    rw [e, atI_nat, List.getElem?_map]
/-- the places where no before stands -/
def gapK (ps : List (Name × Name)) (v : List Name) (i : Nat) : Bool := match (if i = 0 then v[v.length - 1]? else v[i - 1]?), v[i]? with
  | some x, some a => !decide ((x, a) ∈ ps)
  | _, _ => true
theorem gap_ring {ps : List (Name × Name)} {v : List Name} : ((List.range v.length).filter (gapK ps v)).isEmpty = ringB ps v := by
  unfold ringB
  have : ∀ (l : List Nat), (l.filter (gapK ps v)).isEmpty = l.all fun k => match (if k = 0 then v[v.length - 1]? else v[k - 1]?), v[k]? with
    | some x, some a => decide (Rel ps x a)
    | _, _ => false := by
    intro l
    induction l with
    | nil => rfl
    | cons i l ih =>
      rw [List.filter_cons, List.all_cons, ← ih]
      unfold gapK
      cases (if i = 0 then v[v.length - 1]? else v[i - 1]?) with
      | none => simp
      | some x => cases v[i]? with
        | none => simp
        | some a =>
          by_cases c : (x, a) ∈ ps
          · have c2 : Rel ps x a := c
            simp [c, c2]
          · have c2 : ¬ Rel ps x a := c
            simp [c, c2]
  exact this _
/-- (v[i - 1], v[i]) is no before -/
theorem gap_ev {ps : List (Name × Name)} {v : List Name} {i : Nat} (h : i < v.length) :
    ∃ x a, (if i = 0 then v[v.length - 1]? else v[i - 1]?) = some x ∧ v[i]? = some a ∧ D.ix (.tup (v.map nameD)) (.int ((i : Int) - 1)) = some (nameD x) ∧ D.ix (.tup (v.map nameD)) (.int (i : Int)) = some (nameD a) ∧
      D.cmp .notin (.tup [nameD x, nameD a]) (.lst (ps.map prD)) = some (gapK ps v i) := by
  have h1 : ∃ x, (if i = 0 then v[v.length - 1]? else v[i - 1]?) = some x := by
    by_cases c : i = 0
    · rw [if_pos c]; exact ⟨_, List.getElem?_eq_getElem (by omega)⟩
    · rw [if_neg c]; exact ⟨_, List.getElem?_eq_getElem (by omega)⟩
  obtain ⟨x, hx⟩ := h1
  refine ⟨x, v[i], hx, List.getElem?_eq_getElem h, ?_, ?_, ?_⟩
  · rw [ix_prev h, hx]; rfl
  · rw [ix_tup_nat, List.getElem?_map, List.getElem?_eq_getElem h]; rfl
  · have := nin_prs (q := (x, v[i])) (l := ps)
    unfold gapK
    rw [hx, List.getElem?_eq_getElem h]
    exact this
end VI

set_option Elab.async false
set_option linter.all false
set_option maxRecDepth 100000
set_option maxHeartbeats 1000000
/-! shows_ring, is_vector as laws -/
namespace VI
open PySem
variable {T : Tbl} {gl : Nat → Option D} {n k : Nat}
theorem eq_nilT {vs : List D} (h : D.ok dpt (.tup vs) = true) : D.cmp .eq (.tup vs) (.tup []) = some vs.isEmpty := by
  show D.cmpEq _ _ = _
  unfold D.cmpEq
  rw [h, show D.ok dpt (.tup []) = true from rfl]
  cases vs with
  | nil => rfl
  | cons x xs => rw [show D.eqv (.tup (x :: xs)) (.tup []) = false from by rw [D.eqv, D.eqvs.eq_def]]; rfl
theorem asNm_ntup {p : Prog} {d : D} (h : ∀ xs, d ≠ .tup xs) : asNm p d = none := by
  cases d <;> first | rfl | exact absurd rfl (h _)
theorem asNms_no {p : Prog} {ds : List D} {d : D} (h : d ∈ ds) (e : asNm p d = none) : asNms p ds = none := by
  have := asNms_none (p := p) (ds := ds)
  have h2 : (ds.all fun d => (asNm p d).isSome) = false := by
    rw [List.all_eq_false]
    exact ⟨d, h, by rw [e]; simp⟩
  rw [h2] at this
  cases q : asNms p ds with
  | none => rfl
  | some l => rw [q] at this; cases this
theorem shB_no {p : Prog} {vs : List D} {d : D} (h : d ∈ vs) (e : asNm p d = none) : shB p (.tup vs) = false := by
  show (!vs.isEmpty && match asNms p vs with | some l => ringB p.prs l | none => false) = false
  rw [asNms_no h e]; simp
def ShI (p : Prog) (vs : List D) (w : Wd) (dn : List D) (e : Env) (w' : Wd) : Prop := w' = w ∧ ∃ x3, e = [.fz p.d, .fz (.tup vs), .fz (.lst (p.nms.map nameD)), x3, .no, .no, .no, .no] ∧ ∀ y ∈ dn, (asNm p y).isSome = true
def HasR (p : Prog) : Prop := ∃ a ∈ p.nms, Way p.R a a
theorem shows_ok (b : Rgs T gl) (p : Prog) (ok : ProgOk p) (hs : p.bents = []) (hn : 100 ≤ n) {g : Bool} (hg : g = true ↔ HasR p) {d : D} (hd : VlB d = true) : run T gl n (k + 7) 544998638928989210111591 [p.d, d] = ret (.bl (if g = true then shB p d else isNon d)) := by
  rw [run_at b.shows rfl]
  have lp := prs_len ok
  have ln := nms_le ok
  have l2 : p.prs.length ≤ lim := le_lim (by omega)
  refine ret_of_wp fun w => ?_
  simp [F_shows_ring, startE, bindA, List.replicate, wp_bnd, wp_ret, wp_seq, wp_itS, need_straight_ok b.toBfs p ok hs]
  refine wp_mono (ring_in_ok (k := k) b p ok hs hn w) ?_
  rintro _ w' ⟨rfl, o, rfl, ho⟩
  have hw := RingP.iff ho
  have hgo : g = o.isSome := by rw [Bool.eq_iff_iff, hg, hw]; rfl
  rw [hgo]
  cases o with
  | none => simp [wp_bnd, wp_ret, wp_seq, ringD, condW]
  | some v =>
    simp only [Option.isSome_some, if_true]
    by_cases ht : ∃ vs, d = .tup vs
    · obtain ⟨vs, rfl⟩ := ht
      have o1 := vl_ok (m := 10) hd
      have e0 := eq_nilT o1
      simp only [VlB, Bool.and_eq_true, decide_eq_true_eq] at hd
      obtain ⟨hv, hl⟩ := hd
      cases vs with
      | nil => simp [wp_bnd, wp_ret, wp_seq, ringD, condW, wp_itS, e0]; rfl
      | cons v0 vr =>
        generalize hvs : v0 :: vr = vs at *
        have hne : vs.isEmpty = false := by rw [← hvs]; rfl
        rw [hne] at e0
        simp [wp_bnd, wp_ret, wp_seq, ringD, condW, wp_itS, e0, all_items_ok b.toBase p ok, nms_map]
        refine wp_forL (ShI p vs w') ⟨rfl, _, rfl, fun y h => nomatch h⟩ ?_ ?_
        · rintro dn x env w2 hx ⟨rfl, x3, rfl, hdn⟩
          refine ⟨_, rfl, ?_⟩
          have hex := List.all_eq_true.mp hv x hx
          by_cases hxt : ∃ xs, x = .tup xs
          · obtain ⟨xs, rfl⟩ := hxt
            simp only [ElB, Bool.and_eq_true, decide_eq_true_eq] at hex
            obtain ⟨h1, h2⟩ := hex
            have f1 : (xs.filter fun x => !inB x).length ≤ lim := le_lim (by have := List.length_filter_le (fun x => !inB x) xs; omega)
            have f2 : D.ok dpt (.lst (xs.filter fun x => !inB x)) = true := (ibs_ok (m := 11) (List.all_eq_true.mpr fun y hy => List.all_eq_true.mp h1 y (List.mem_filter.mp hy).1)).1
            have f3 := nin_any (x := .tup xs) (l := p.nms) ((ibs_ok (m := 11) h1).2)
            have f4 := one_bad ok h1
            simp [wp_bnd, wp_ret, wp_seq, condW, wp_itS]
            rw [mapM_pure (g := fun y => if (!inB y) = true then some ((fun z => z) y) else none) fun y hy => by
              simp [is_in_ib b.is_in (List.all_eq_true.mp h1 y hy)]
              cases inB y <;> simp]
            rw [fm_filter, List.map_id']
            simp only [bnd_ret, decide_eq_true f1, guard_t, lft_some, shut_ret, wp_ret, wp_bnd, wp_seq, fin_v, evs_nil, ev_lst, List.length_nil, cmp_ne_nil f2]
            generalize (xs.filter fun x => !inB x).isEmpty = q1 at f4 ⊢
            generalize (p.nms.any fun a => (nameD a).eqv (.tup xs)) = q2 at f3 f4
            simp [f3, wp_ret, wp_bnd, wp_seq]
            cases q3 : asNm p (.tup xs) with
            | none =>
              rw [q3] at f4
              have := shB_no hx q3
              cases q1 <;> cases q2 <;> simp_all
            | some a =>
              rw [q3] at f4
              have f4 : (!q1 || !q2) = false := f4
              have : ShI p vs w2 (dn ++ [.tup xs]) [.fz p.d, .fz (.tup vs), .fz (.lst (p.nms.map nameD)), .fz (.tup xs), .no, .no, .no, .no] w2 := ⟨rfl, _, rfl, fun y hy => by
                rcases List.mem_append.mp hy with h | h
                · exact hdn y h
                · rcases List.mem_singleton.mp h with rfl
                  rw [q3]; rfl⟩
              cases q1 <;> cases q2 <;> first | (exact absurd f4 (by decide)) | simpa using this
          · have hne : isTys x [.tuple] = some false := by
              cases x <;> first | (exact absurd ⟨_, rfl⟩ hxt) | rfl | (exact absurd hex Bool.false_ne_true)
            have := shB_no hx (asNm_ntup (p := p) fun xs e => hxt ⟨xs, e⟩)
            simp [wp_bnd, wp_ret, wp_seq, condW, wp_itS, hne, this]
        · rintro e w2 ⟨rfl, x3, rfl, hall⟩
          have hl1 : (asNms p vs).isSome = true := by rw [asNms_none, List.all_eq_true]; exact hall
          cases hn1 : asNms p vs with
          | none => rw [hn1] at hl1; cases hl1
          | some l =>
            obtain ⟨e1, hln⟩ := asNms_some.mp hn1
            have hsh : shB p (.tup vs) = ringB p.prs l := by
              show (!vs.isEmpty && match asNms p vs with | some l => ringB p.prs l | none => false) = _
              rw [hn1, hne]; rfl
            rw [hsh]
            clear hsh hn1 hall hl1 e0 o1 hv hvs hne
            subst e1
            rw [List.length_map] at hl
            simp [wp_bnd, wp_ret, wp_seq, befores_in_ok b.toBfs p ok hs]
            rw [mapM_pureL (h := fun b => some (.tup [nameD b.1, nameD b.2.1])) fun b hb => by simp [befD]]
            simp [prs_map, l2, wp_bnd, wp_ret, wp_seq, rng_nat (Nat.le_trans hl (by decide))]
            rw [mapM_pureL (h := fun i => if gapK p.prs l i = true then some (.int (i : Int)) else none) fun i hi => by
              obtain ⟨x, a, g1, g2, g3, g4, g5⟩ := gap_ev (ps := p.prs) (v := l) (List.mem_range.mp hi)
              simp [g3, g4, g5]
              cases gapK p.prs l i <;> simp]
            rw [fm_filter]
            have f1 : ((List.range l.length).filter (gapK p.prs l)).length ≤ lim := le_lim (by have := List.length_filter_le (gapK p.prs l) (List.range l.length); rw [List.length_range] at this; omega)
            have f2 : D.ok dpt (.lst (((List.range l.length).filter (gapK p.prs l)).map fun (i : Nat) => D.int (i : Int))) = true := List.all_eq_true.mpr fun y hy => by
              obtain ⟨i, _, rfl⟩ := List.mem_map.mp hy
              exact ok_int
            simp only [bnd_ret, List.length_map, decide_eq_true f1, guard_t, lft_some, shut_ret, wp_ret, wp_bnd, wp_seq, cmp_eq_nil f2, ints_isEmpty, gap_ring, Option.map_some]
            trivial
    · have hne : isTys d [.tuple] = some false := by
        cases d <;> first | (exact absurd ⟨_, rfl⟩ ht) | rfl | (exact absurd hd Bool.false_ne_true)
      have hsh : shB p d = false := by
        cases d <;> first | (exact absurd ⟨_, rfl⟩ ht) | rfl
      simp [wp_bnd, wp_ret, wp_seq, ringD, condW, wp_itS, hne, hsh]
end VI

set_option Elab.async false
set_option linter.all false
set_option maxRecDepth 100000
set_option maxHeartbeats 1000000
/-! is_vector; the law's own judging of a value -/
namespace VI
open PySem
variable {T : Tbl} {gl : Nat → Option D} {n k : Nat}
def vecB (xs : List D) : Bool := decide (xs.length = 2) && xs.all isI
theorem vec_ok (h : T.at_ 1935415718257144480841600492400498 = some F__law_is_vector) {xs : List D} (h1 : xs.all isIB = true) (h2 : xs.length ≤ 1000) : run T gl n (k + 1) 1935415718257144480841600492400498 [.tup xs, .int 2] = ret (.bl (vecB xs)) := by
  rw [run_at h rfl]
  by_cases c : xs.length = 2
  · have c2 : ((xs.length : Nat) : Int) = 2 := by omega
    simp [F__law_is_vector, startE, bindA, List.replicate, c2, c]
    rw [mapM_pure (g := fun y => if (!isI y) = true then some ((fun z => z) y) else none) fun y hy => by
      have := List.all_eq_true.mp h1 y hy
      cases y <;> first | (exact absurd this Bool.false_ne_true) | skip
      · simp [isTys, D.isTy, isI]
      · simp [isTys, D.isTy, isI]]
    rw [fm_filter, List.map_id']
    have f1 : (xs.filter fun x => !isI x).length ≤ lim := le_lim (by have := List.length_filter_le (fun x => !isI x) xs; omega)
    have f2 : D.ok dpt (.lst (xs.filter fun x => !isI x)) = true := (ibs_ok (m := 11) (List.all_eq_true.mpr fun y hy => List.all_eq_true.mp h1 y (List.mem_filter.mp hy).1)).1
    simp only [bnd_ret, decide_eq_true f1, guard_t, lft_some, shut_ret, cmp_eq_nil f2]
    have : (xs.filter fun x => !isI x).isEmpty = xs.all isI := by
      rw [Bool.eq_iff_iff]
      simp
    unfold vecB
    rw [this, c]
    simp
  · have c2 : ¬ ((xs.length : Nat) : Int) = 2 := by omega
    simp [F__law_is_vector, startE, bindA, List.replicate, c2, c, vecB]
theorem two_bad {p : Prog} {xs : List D} (h : xs.all isIB = true) : ((p.nms.any fun a => D.eqv (nameD a) (.tup xs)) && vecB xs) = (asNm p (.tup xs)).isSome := by
  cases q : asNm p (.tup xs) with
  | some a =>
    obtain ⟨e, ha⟩ := asNm_some.mp q
    have : (p.nms.any fun b => D.eqv (nameD b) (.tup xs)) = true := List.any_eq_true.mpr ⟨a, ha, by rw [e, eqv_name]; simp⟩
    rw [this]
    unfold nameD at e
    injection e with e
    rw [e]; rfl
  | none =>
    cases c : vecB xs with
    | false => simp
    | true =>
      unfold vecB at c
      simp only [Bool.and_eq_true] at c
      have : (p.nms.any fun b => D.eqv (nameD b) (.tup xs)) = false := by
        rw [List.any_eq_false]
        intro a ha z
        have e := eqv_nameI z c.2
        rw [asNm_some.mpr ⟨e, ha⟩] at q
        cases q
      rw [this]; rfl
/-- an item among the names, as a tuple -/
def nmB (p : Prog) : D → Bool
  | .tup xs => p.nms.any fun a => D.eqv (nameD a) (.tup xs)
  | _ => false
def vcB : D → Bool
  | .tup xs => vecB xs
  | _ => false
theorem asNm_two {p : Prog} {d : D} (h : ElB d = true) : (nmB p d && vcB d) = (asNm p d).isSome := by
  cases d <;> first | rfl | (exact absurd h Bool.false_ne_true) | skip
  rename_i xs
  simp only [ElB, Bool.and_eq_true] at h
  exact two_bad h.1
theorem asNms_two {p : Prog} {ds : List D} (h : ds.all ElB = true) : (ds.all (nmB p) && ds.all vcB) = (asNms p ds).isSome := by
  rw [asNms_none]
  induction ds with
  | nil => rfl
  | cons d ds ih =>
    simp only [List.all_cons, Bool.and_eq_true] at h ⊢
    rw [← ih h.2, ← asNm_two h.1]
    cases nmB p d <;> cases vcB d <;> cases ds.all (nmB p) <;> rfl
theorem shut_flt {xs : List D} {f : D → Bool} (h : xs.length ≤ 1000) : shut (lft (guardO (decide ((xs.filter f).length ≤ lim)) (some (D.lst (xs.filter f))))) = ret (.lst (xs.filter f)) := by
  have f1 : (xs.filter f).length ≤ lim := le_lim (by have := List.length_filter_le f xs; omega)
  simp only [decide_eq_true f1, guard_t, lft_some, shut_ret]
theorem eq_flt {xs : List D} {f : D → Bool} (h : D.ok dpt (.lst xs) = true) : D.cmp .eq (.lst (xs.filter fun y => !f y)) (.lst []) = some (xs.all f) := by
  have h2 : D.ok dpt (.lst (xs.filter fun y => !f y)) = true := List.all_eq_true.mpr fun y hy => List.all_eq_true.mp (show xs.all (D.ok 11) = true from h) y (List.mem_filter.mp hy).1
  rw [cmp_eq_nil h2]
  congr 1
  rw [Bool.eq_iff_iff]
  simp
abbrev goodB (rest : Ss) : Ss := (.cons (.set 11 (.isn (.var 8))) (.cons (.ite (.var 4) (.cons (.set 11 (.and (.isi (.var 8) [.tuple]) (.and (.cmp .ne (.var 8) (.tup .nil)) (.cmp .eq (.comp (.one 12) (.seq (.var 8)) (.some (.or (.not (.isi (.var 12) [.tuple])) (.cmp .notin (.var 12) (.var 10)))) (.var 12)) (.lst .nil))))) (.cons (.set 11 (.and (.var 11) (.cmp .eq (.comp (.one 12) (.seq (.var 8)) (.some (.not (.call 1935415718257144480841600492400498 (.cons (.var 12) (.cons (.int 2) .nil))))) (.var 12)) (.lst .nil)))) (.cons (.set 11 (.and (.var 11) (.cmp .eq (.comp (.one 16) (.rng1 (.blt .len (.var 8))) (.some (.cmp .notin (.tup (.cons (.ix (.var 8) (.bin .sub (.var 16) (.int 1))) (.cons (.ix (.var 8) (.var 16)) .nil))) (.var 9))) (.var 16)) (.lst .nil)))) .nil))) .nil) rest))
theorem good_ok (h : T.at_ 1935415718257144480841600492400498 = some F__law_is_vector) {p : Prog} (ok : ProgOk p) {d : D} (hd : VlB d = true) {g : Bool} {s0 s1 s2 s3 s5 s6 s7 x11 : Sl} {rest : Ss} :
    execs ⟨run T gl n (k + 1), gl, n⟩ (goodB rest) [s0, s1, s2, s3, .fz (.bl g), s5, s6, s7, .fz d, .fz (.lst (p.prs.map prD)), .fz (.lst (p.nms.map nameD)), x11, .no, .no, .no, .no, .no] = execs ⟨run T gl n (k + 1), gl, n⟩ rest [s0, s1, s2, s3, .fz (.bl g), s5, s6, s7, .fz d, .fz (.lst (p.prs.map prD)), .fz (.lst (p.nms.map nameD)), .fz (.bl (if g = true then shB p d else isNon d)), .no, .no, .no, .no, .no] := by
  cases g with
  | false => simp
  | true =>
    by_cases ht : ∃ vs, d = .tup vs
    · obtain ⟨vs, rfl⟩ := ht
      have o1 := vl_ok (m := 10) hd
      have e0 := eq_nilT o1
      simp only [VlB, Bool.and_eq_true, decide_eq_true_eq] at hd
      obtain ⟨hv, hl⟩ := hd
      have e1 : D.cmp .ne (.tup vs) (.tup []) = some (!vs.isEmpty) := by
        show (D.cmp .eq (.tup vs) (.tup [])).map not = _
        rw [e0]; rfl
      have o2 : D.ok dpt (.lst vs) = true := o1
      have m1 : mapM (fun x => iteM (iteM (bnd (lft (Option.map D.bl (isTys x [Ty.tuple]))) fun x => lft (Option.map (fun b => D.bl !b) (toB x))) (ret (D.bl true)) (lft (Option.map D.bl (D.cmp Cop.notin x (D.lst (List.map nameD p.nms)))))) (ret (some x)) (ret none)) vs = ret (vs.filter fun y => !nmB p y) := by
        rw [mapM_pure (g := fun y => if (!nmB p y) = true then some ((fun z => z) y) else none) fun y hy => by
          have hey := List.all_eq_true.mp hv y hy
          by_cases hyt : ∃ ys, y = .tup ys
          · obtain ⟨ys, rfl⟩ := hyt
            simp only [ElB, Bool.and_eq_true, decide_eq_true_eq] at hey
            have f3 := nin_any (x := .tup ys) (l := p.nms) ((ibs_ok (m := 11) hey.1).2)
            rw [show (p.nms.any fun a => (nameD a).eqv (.tup ys)) = nmB p (.tup ys) from rfl] at f3
            simp [f3]
            cases nmB p (.tup ys) <;> simp
          · have hne : isTys y [.tuple] = some false := by
              cases y <;> first | (exact absurd ⟨_, rfl⟩ hyt) | rfl | (exact absurd hey Bool.false_ne_true)
            have : nmB p y = false := by
              cases y <;> first | (exact absurd ⟨_, rfl⟩ hyt) | rfl
            simp [hne, this]]
        rw [fm_filter, List.map_id']
      simp [e1, m1, shut_flt hl]
      cases vs with
      | nil => simp [shB]
      | cons v0 vr =>
        generalize hvs : v0 :: vr = vs at *
        have hne : ¬ vs = [] := by rw [← hvs]; simp
        have hne2 : vs.isEmpty = false := by rw [← hvs]; rfl
        have q0 := eq_flt (f := nmB p) o2
        cases c1 : vs.all (nmB p) with
        | false =>
          have hz : shB p (.tup vs) = false := by
            show (!vs.isEmpty && match asNms p vs with | some l => ringB p.prs l | none => false) = false
            have := asNms_two (p := p) hv
            rw [c1] at this
            cases q : asNms p vs with
            | none => simp
            | some l => rw [q] at this; cases this
          rw [c1] at q0
          simp [hz, hne, q0]
        | true =>
          rw [c1] at q0
          simp [hne, q0]
          rw [mapM_pure (g := fun y => if (!vcB y) = true then some ((fun z => z) y) else none) fun y hy => by
            have hey := List.all_eq_true.mp hv y hy
            have hny := List.all_eq_true.mp c1 y hy
            by_cases hyt : ∃ ys, y = .tup ys
            · obtain ⟨ys, rfl⟩ := hyt
              simp only [ElB, Bool.and_eq_true, decide_eq_true_eq] at hey
              simp [vec_ok h hey.1 hey.2, vcB]
              cases vecB ys <;> simp
            · cases y <;> first | (exact absurd ⟨_, rfl⟩ hyt) | (exact absurd hny Bool.false_ne_true)]
          rw [fm_filter, List.map_id']
          have q2 := eq_flt (f := vcB) o2
          have h12 := asNms_two (p := p) hv
          rw [c1] at h12
          cases c2 : vs.all vcB with
          | false =>
            have hz : shB p (.tup vs) = false := by
              show (!vs.isEmpty && match asNms p vs with | some l => ringB p.prs l | none => false) = false
              rw [c2] at h12
              cases q : asNms p vs with
              | none => simp
              | some l => rw [q] at h12; cases h12
            rw [c2] at q2
            simp [shut_flt hl, q2, hz]
          | true =>
            rw [c2] at h12 q2
            simp [shut_flt hl, q2]
            cases q : asNms p vs with
            | none => rw [q] at h12; cases h12
            | some l =>
              obtain ⟨e3, hln⟩ := asNms_some.mp q
              have hsh : shB p (.tup vs) = ringB p.prs l := by
                show (!vs.isEmpty && match asNms p vs with | some l => ringB p.prs l | none => false) = _
                rw [q, hne2]; rfl
              rw [hsh]
              clear hsh q c1 c2 h12 e0 e1 m1 o1 o2 hv hvs hne hne2 q0 q2
              subst e3
              rw [List.length_map] at hl
              simp [rng_nat (Nat.le_trans hl (by decide))]
              rw [mapM_pureL (h := fun i => if gapK p.prs l i = true then some (.int (i : Int)) else none) fun i hi => by
                obtain ⟨x, a, g1, g2, g3, g4, g5⟩ := gap_ev (ps := p.prs) (v := l) (List.mem_range.mp hi)
                simp [g3, g4, g5]
                cases gapK p.prs l i <;> simp]
              rw [fm_filter]
              have f1 : ((List.range l.length).filter (gapK p.prs l)).length ≤ lim := le_lim (by have := List.length_filter_le (gapK p.prs l) (List.range l.length); rw [List.length_range] at this; omega)
              have f2 : D.ok dpt (.lst (((List.range l.length).filter (gapK p.prs l)).map fun (i : Nat) => D.int (i : Int))) = true := List.all_eq_true.mpr fun y hy => by
                obtain ⟨i, _, rfl⟩ := List.mem_map.mp hy
                exact ok_int
              simp only [bnd_ret, List.length_map, decide_eq_true f1, guard_t, lft_some, shut_ret, cmp_eq_nil f2, ints_isEmpty, gap_ring, Option.map_some]
              simp
    · have hne : isTys d [.tuple] = some false := by
        cases d <;> first | (exact absurd ⟨_, rfl⟩ ht) | rfl | (exact absurd hd Bool.false_ne_true)
      have hsh : shB p d = false := by
        cases d <;> first | (exact absurd ⟨_, rfl⟩ ht) | rfl
      simp [hne, hsh]
end VI

set_option Elab.async false
set_option linter.all false
set_option maxRecDepth 100000
set_option maxHeartbeats 1000000
/-! the law's line and its values -/
namespace VI
open PySem
variable {T : Tbl} {gl : Nat → Option D} {n k : Nat}
theorem tsl_take {xs : List D} {j : Nat} (h : j ≤ xs.length) : D.sl (.tup xs) none (some (j : Int)) = some (.tup (xs.take j)) := by
  have h2 := sl_take h
  injection h2 with h2
  injection h2 with h2
  show some (D.tup _) = _
  rw [← h2]
theorem tsl_drop {xs : List D} {j : Nat} (h : j ≤ xs.length) : D.sl (.tup xs) (some (j : Int)) none = some (.tup (xs.drop j)) := by
  have h2 := sl_drop h
  injection h2 with h2
  injection h2 with h2
  show some (D.tup _) = _
  rw [← h2]
/-- the line that the law judges with -/
noncomputable def lineN (p : Prog) : Option (List Name) → List Name
  | some v => v
  | none => match p.prs with
    | q :: _ => [q.1, q.2]
    | [] => [(0, 0)]
theorem lineN_len {p : Prog} {o : Option (List Name)} (h : RingP p o) : (lineN p o).length ≤ 24 ∧ 1 ≤ (lineN p o).length := by
  cases o with
  | some v =>
    refine ⟨h.2.2.1, ?_⟩
    show 1 ≤ v.length
    have := h.1
    cases v with
    | nil => exact absurd rfl this
    | cons a v => simp
  | none =>
    unfold lineN
    cases p.prs <;> simp
theorem ok_prs {m : Nat} {l : List (Name × Name)} : D.ok (m + 3) (.lst (l.map prD)) = true := by
  show List.all _ _ = true
  rw [List.all_eq_true]
  intro x hx
  obtain ⟨y, _, rfl⟩ := List.mem_map.mp hx
  exact ok_pr
theorem setline_ok {G : Glo} {p : Prog} {o : Option (List Name)} {s0 s1 s2 s3 s4 s6 s7 s8 s10 s11 s12 s13 s14 s15 s16 : Sl} {rest : Ss} :
    execs G (.cons (.set 6 (.ite (.notn (.var 5)) (.var 5) (.ite (.cmp .ne (.var 9) (.lst .nil)) (.ix (.var 9) (.int 0)) (.tup (.cons (.tup (.cons (.int 0) (.cons (.int 0) .nil))) .nil))))) rest) [s0, s1, s2, s3, s4, .fz (ringD o), s6, s7, s8, .fz (.lst (p.prs.map prD)), s10, s11, s12, s13, s14, s15, s16] = execs G rest [s0, s1, s2, s3, s4, .fz (ringD o), .fz (.tup ((lineN p o).map nameD)), s7, s8, .fz (.lst (p.prs.map prD)), s10, s11, s12, s13, s14, s15, s16] := by
  cases o with
  | some v => simp [ringD, lineN]
  | none =>
    have e0 : D.cmp .ne (.lst (p.prs.map prD)) (.lst []) = some (!p.prs.isEmpty) := by rw [cmp_ne_nil (ok_prs (m := 9)), ints_isEmpty]
    cases q : p.prs with
    | nil =>
      rw [q] at e0
      simp only [List.map_nil] at e0
      simp [ringD, lineN, q, e0]
      rfl
    | cons a l =>
      rw [q] at e0
      have e0 : D.cmp .ne (.lst (.tup [nameD a.1, nameD a.2] :: l.map prD)) (.lst []) = some true := e0
      simp [ringD, lineN, q, e0, prD]
def baseN (d : D) (L : List D) : List D := [d, .non, .tup [], .lst L, .tup L.reverse, .tup L.tail, .tup (L ++ L), .tup (L.tail ++ L.take 1), .tup (L ++ L.take 1), .int 3, .dct [], .tup [.tup [.int 9, .int 9]], .tup [.non], .tup [.tup [.int 0, .bl true]]]
def lstOf (a : Name) : D := .lst [.int a.1, .int a.2]
def valsN (d : D) (nms v : List Name) : List D := baseN d (v.map nameD) ++ nms.map (fun a => D.tup [nameD a]) ++ [.tup (v.map lstOf), .tup [.tup [.int 0, .int 0, .int 0]]]
theorem vals_ok {G : Glo} {nms v : List Name} (hv : v.length ≤ 24 ∧ 1 ≤ v.length) (hn : nms.length ≤ 24) {d : D} {s0 s1 s2 s3 s4 s7 s8 s9 s11 : Sl} {rest : Ss} :
    execs G (.cons (.set 7 (.lst (.cons (.var 5) (.cons .non (.cons (.tup .nil) (.cons (.blt .list (.var 6)) (.cons (.rev (.var 6)) (.cons (.sl (.var 6) (.some (.int 1)) .none) (.cons (.bin .add (.var 6) (.var 6)) (.cons (.bin .add (.sl (.var 6) (.some (.int 1)) .none) (.sl (.var 6) .none (.some (.int 1)))) .nil)))))))))) (.cons (.set 7 (.bin .add (.var 7) (.lst (.cons (.bin .add (.var 6) (.sl (.var 6) .none (.some (.int 1)))) (.cons (.int 3) (.cons (.dct .nil .nil) (.cons (.tup (.cons (.tup (.cons (.int 9) (.cons (.int 9) .nil))) .nil)) (.cons (.tup (.cons .non .nil)) (.cons (.tup (.cons (.tup (.cons (.int 0) (.cons (.bl true) .nil))) .nil)) .nil))))))))) (.cons (.set 7 (.bin .add (.bin .add (.var 7) (.comp (.one 12) (.seq (.var 10)) .none (.tup (.cons (.var 12) .nil)))) (.lst (.cons (.blt .tuple (.comp (.one 12) (.seq (.var 6)) .none (.blt .list (.var 12)))) (.cons (.tup (.cons (.tup (.cons (.int 0) (.cons (.int 0) (.cons (.int 0) .nil)))) .nil)) .nil))))) rest))) [s0, s1, s2, s3, s4, .fz d, .fz (.tup (v.map nameD)), s7, s8, s9, .fz (.lst (nms.map nameD)), s11, .no, .no, .no, .no, .no] = execs G rest [s0, s1, s2, s3, s4, .fz d, .fz (.tup (v.map nameD)), .fz (.lst (valsN d nms v)), s8, s9, .fz (.lst (nms.map nameD)), s11, .no, .no, .no, .no, .no] := by
  have l1 : 1 ≤ (v.map nameD).length := by rw [List.length_map]; exact hv.2
  have b1 : ∀ {xs ys : List D}, xs.length ≤ 1000 → ys.length ≤ 1000 → D.bin .add (.tup xs) (.tup ys) = some (.tup (xs ++ ys)) := fun h1 h2 => add_tup (le_lim (by omega))
  have b2 : ∀ {xs ys : List D}, xs.length ≤ 1000 → ys.length ≤ 1000 → D.bin .add (.lst xs) (.lst ys) = some (.lst (xs ++ ys)) := fun h1 h2 => add_lst (le_lim (by omega))
  have c0 : (v.map nameD).length ≤ 1000 := by rw [List.length_map]; omega
  have c1 : (v.map nameD).tail.length ≤ 1000 := by rw [List.length_tail]; omega
  have c2 : ((v.map nameD).take 1).length ≤ 1000 := by rw [List.length_take]; omega
  have t1 := tsl_take l1
  have t2 := tsl_drop l1
  simp only [Int.natCast_one, List.drop_one] at t1 t2
  have a1 := b1 c0 c0
  have a2 := b1 c1 c2
  have a3 := b1 c0 c2
  have d1 : nms.length ≤ lim := le_lim (by omega)
  have d2 : v.length ≤ lim := le_lim (by omega)
  have d3 : 8 ≤ lim := le_lim (by decide)
  have d4 : 6 ≤ lim := le_lim (by decide)
  have d5 : 3 ≤ lim := le_lim (by decide)
  have d6 : 2 ≤ lim := le_lim (by decide)
  generalize hL : v.map nameD = L at *
  have ab : D.bin .add (.lst [d, .non, .tup [], .lst L, .tup L.reverse, .tup L.tail, .tup (L ++ L), .tup (L.tail ++ L.take 1)]) (.lst [.tup (L ++ L.take 1), .int 3, .dct [], .tup [.tup [.int 9, .int 9]], .tup [.non], .tup [.tup [.int 0, .bl true]]]) = some (.lst (baseN d L)) := b2 (by simp) (by simp)
  have bl : (baseN d L).length = 14 := rfl
  have hvn : valsN d nms v = baseN d L ++ nms.map (fun a => D.tup [nameD a]) ++ [.tup (v.map lstOf), .tup [.tup [.int 0, .int 0, .int 0]]] := by rw [← hL]; rfl
  rw [hvn]
  clear hvn
  simp [t1, t2, a1, a2, a3, d3, d4, d5, d6, ab]
  generalize baseN d L = B at *
  rw [mapM_pureL (h := fun a => some (.tup [nameD a])) fun a ha => by simp]
  rw [List.filterMap_eq_map']
  simp only [bnd_ret, List.length_map, decide_eq_true d1, guard_t, lft_some, shut_ret]
  rw [b2 (by omega) (by rw [List.length_map]; omega)]
  simp only [← hL]
  rw [mapM_pureL (h := fun a => some (lstOf a)) fun a ha => by simp [nameD, lstOf]]
  rw [List.filterMap_eq_map']
  simp [d2, List.length_map]
  rw [b2 (by rw [List.length_append, List.length_map]; omega) (by simp)]
  simp
theorem el_name {a : Name} : ElB (nameD a) = true := rfl
theorem vl_names {l : List Name} (h : l.length ≤ 1000) : VlB (.tup (l.map nameD)) = true := by
  show (List.all _ _ && decide _) = true
  rw [List.length_map, decide_eq_true h, Bool.and_true, List.all_eq_true]
  intro x hx
  obtain ⟨a, _, rfl⟩ := List.mem_map.mp hx
  exact el_name
theorem vals_vl {p : Prog} {o : Option (List Name)} {v : List Name} (ho : RingP p o) (hv : v.length ≤ 24) : ∀ x ∈ valsN (ringD o) p.nms v, VlB x = true := by
  have e1 : (v.map nameD).reverse = v.reverse.map nameD := by simp
  have e2 : (v.map nameD).tail = v.tail.map nameD := by simp
  have e3 : v.map nameD ++ v.map nameD = (v ++ v).map nameD := by simp
  have e4 : (v.map nameD).tail ++ (v.map nameD).take 1 = (v.tail ++ v.take 1).map nameD := by simp
  have e5 : v.map nameD ++ (v.map nameD).take 1 = (v ++ v.take 1).map nameD := by simp
  have t1 : (v.take 1).length ≤ 1 := by rw [List.length_take]; omega
  have t2 : v.tail.length ≤ 24 := by rw [List.length_tail]; omega
  intro x hx
  unfold valsN at hx
  rcases List.mem_append.mp hx with hx | hx
  · rcases List.mem_append.mp hx with hx | hx
    · unfold baseN at hx
      rw [e1, e2, e3, ← e2, e4, e5] at hx
      simp only [List.mem_cons, List.not_mem_nil, or_false] at hx
      rcases hx with rfl | rfl | rfl | rfl | rfl | rfl | rfl | rfl | rfl | rfl | rfl | rfl | rfl | rfl
      · cases o with
        | none => rfl
        | some u => exact vl_names (Nat.le_trans ho.2.2.1 (by decide))
      · rfl
      · rfl
      · rfl
      · exact vl_names (by rw [List.length_reverse]; omega)
      · rw [e2]; exact vl_names (by omega)
      · exact vl_names (by rw [List.length_append]; omega)
      · exact vl_names (by rw [List.length_append]; omega)
      · exact vl_names (by rw [List.length_append]; omega)
      all_goals rfl
    · obtain ⟨a, _, rfl⟩ := List.mem_map.mp hx
      rfl
  · simp only [List.mem_cons, List.not_mem_nil, or_false] at hx
    rcases hx with rfl | rfl
    · show (List.all _ _ && decide _) = true
      rw [List.length_map, decide_eq_true (show v.length ≤ 1000 by omega), Bool.and_true, List.all_eq_true]
      intro x hx
      obtain ⟨a, _, rfl⟩ := List.mem_map.mp hx
      rfl
    · rfl
theorem shB_ring {p : Prog} {v : List Name} (h : RingP p (some v)) : shB p (.tup (v.map nameD)) = true := by
  show (!(v.map nameD).isEmpty && match asNms p (v.map nameD) with | some l => ringB p.prs l | none => false) = true
  rw [asNms_some.mpr ⟨rfl, h.2.1⟩]
  have := h.1
  cases v with
  | nil => exact absurd rfl this
  | cons a v => exact (Bool.and_eq_true _ _).mpr ⟨rfl, h.2.2.2⟩
end VI

set_option Elab.async false
set_option linter.all false
set_option maxRecDepth 100000
set_option maxHeartbeats 4000000
/-! law k08: its own text, the table of its defs -/
namespace VI
open PySem L2
def top (i : Nat) : Stmt := PySem.Challenge.pw_handguards_k08_whole_rings_judged.main.body.getD i (.Pass ⟨0, 0, 0, 0⟩)
/-- 0 _law_script, 1 _law_row, 2 _law_program_here, 3 _law_ahead_here, 4 _law_ringed, 5 _law_base, 6 _law_line, 7 _law_values, 8 _law_value, 9 _law_pairs, 10 _law_names_here, 11 _law_good, 12 _law_name, 13 _law_one, 14 _law_other, 15 _law_sort, 16 _law_k -/
def F_law : FnI := ⟨1, 17, [false], (.cons (.newo 1 (.cons (.var 0) (.cons (.int 0) (.cons (.int 10008) (.cons (.int 0) .nil))))) (.cons (.set 2 (.call 29532100193134667060542071149 (.cons (.var 1) (.cons (.int 5) (.cons (.int 2) .nil))))) (.cons (.par [(9, 0), (10, 0)] (.cons (.comp (.many [13, 14, 15]) (.seq (.call 29532100193130712078696473971 (.cons (.var 2) .nil))) .none (.tup (.cons (.var 13) (.cons (.var 14) .nil)))) (.cons (.call 450624087419648520054131 (.cons (.var 2) .nil)) .nil))) (.cons (.set 3 (.call 450624087419592802394468 (.cons (.var 2) .nil))) (.cons (.set 4 (.cmp .ne (.comp (.one 12) (.seq (.var 10)) (.some (.cmp .isin (.var 12) (.ix (.var 3) (.var 12)))) (.var 12)) (.lst .nil))) (.cons (.set 5 (.call 1919512167 (.cons (.var 2) .nil))) (.cons (.set 6 (.ite (.notn (.var 5)) (.var 5) (.ite (.cmp .ne (.var 9) (.lst .nil)) (.ix (.var 9) (.int 0)) (.tup (.cons (.tup (.cons (.int 0) (.cons (.int 0) .nil))) .nil))))) (.cons (.set 7 (.lst (.cons (.var 5) (.cons .non (.cons (.tup .nil) (.cons (.blt .list (.var 6)) (.cons (.rev (.var 6)) (.cons (.sl (.var 6) (.some (.int 1)) .none) (.cons (.bin .add (.var 6) (.var 6)) (.cons (.bin .add (.sl (.var 6) (.some (.int 1)) .none) (.sl (.var 6) .none (.some (.int 1)))) .nil)))))))))) (.cons (.set 7 (.bin .add (.var 7) (.lst (.cons (.bin .add (.var 6) (.sl (.var 6) .none (.some (.int 1)))) (.cons (.int 3) (.cons (.dct .nil .nil) (.cons (.tup (.cons (.tup (.cons (.int 9) (.cons (.int 9) .nil))) .nil)) (.cons (.tup (.cons .non .nil)) (.cons (.tup (.cons (.tup (.cons (.int 0) (.cons (.bl true) .nil))) .nil)) .nil))))))))) (.cons (.set 7 (.bin .add (.bin .add (.var 7) (.comp (.one 12) (.seq (.var 10)) .none (.tup (.cons (.var 12) .nil)))) (.lst (.cons (.blt .tuple (.comp (.one 12) (.seq (.var 6)) .none (.blt .list (.var 12)))) (.cons (.tup (.cons (.tup (.cons (.int 0) (.cons (.int 0) (.cons (.int 0) .nil)))) .nil)) .nil))))) (.cons (.for_ (.one 8) (.seq (.var 7)) (.cons (.set 11 (.isn (.var 8))) (.cons (.ite (.var 4) (.cons (.set 11 (.and (.isi (.var 8) [.tuple]) (.and (.cmp .ne (.var 8) (.tup .nil)) (.cmp .eq (.comp (.one 12) (.seq (.var 8)) (.some (.or (.not (.isi (.var 12) [.tuple])) (.cmp .notin (.var 12) (.var 10)))) (.var 12)) (.lst .nil))))) (.cons (.set 11 (.and (.var 11) (.cmp .eq (.comp (.one 12) (.seq (.var 8)) (.some (.not (.call 1935415718257144480841600492400498 (.cons (.var 12) (.cons (.int 2) .nil))))) (.var 12)) (.lst .nil)))) (.cons (.set 11 (.and (.var 11) (.cmp .eq (.comp (.one 16) (.rng1 (.blt .len (.var 8))) (.some (.cmp .notin (.tup (.cons (.ix (.var 8) (.bin .sub (.var 16) (.int 1))) (.cons (.ix (.var 8) (.var 16)) .nil))) (.var 9))) (.var 16)) (.lst .nil)))) .nil))) .nil) (.cons (.ite (.not (.call 450624087419592869768037 (.cons (.call 544998638928989210111591 (.cons (.var 2) (.cons (.var 8) .nil))) (.cons (.var 11) .nil)))) (.cons (.ret (.bl false)) .nil) .nil) .nil)))) (.cons (.ret (.and (.cmp .eq (.notn (.var 5)) (.var 4)) (.ist (.call 544998638928989210111591 (.cons (.var 2) (.cons (.var 5) .nil))) true))) .nil))))))))))))⟩
def tab : Tab := [⟨⟨#[105, 115, 95, 105, 110]⟩, top 5, F_is_in, [⟨#[118, 97, 108, 117, 101]⟩, ⟨#[108, 101, 97, 115, 116]⟩, ⟨#[109, 111, 115, 116]⟩]⟩,
  ⟨⟨#[105, 115, 95, 103, 117, 97, 114, 100]⟩, top 11, F_is_guard, [⟨#[118, 97, 108, 117, 101]⟩, ⟨#[115, 119, 105, 116, 99, 104]⟩, ⟨#[109, 97, 110, 121]⟩, ⟨#[108, 97, 115, 116]⟩, ⟨#[112, 97, 105, 114]⟩]⟩,
  ⟨⟨#[105, 115, 95, 105, 116, 101, 109]⟩, top 12, F_is_item, [⟨#[118, 97, 108, 117, 101]⟩, ⟨#[109, 97, 110, 121]⟩]⟩,
  ⟨⟨#[110, 101, 101, 100, 95, 112, 114, 111, 103, 114, 97, 109]⟩, top 13, F_need_program, [⟨#[112, 114, 111, 103, 114, 97, 109]⟩, ⟨#[115, 116, 97, 114, 116]⟩, ⟨#[114, 111, 119, 115]⟩, ⟨#[104, 97, 110, 100]⟩, ⟨#[114, 111, 119]⟩, ⟨#[105, 110, 100, 101, 120]⟩, ⟨#[105, 116, 101, 109]⟩, ⟨#[111, 110, 101]⟩]⟩,
  ⟨⟨#[97, 108, 108, 95, 105, 116, 101, 109, 115]⟩, top 14, F_all_items, [⟨#[112, 114, 111, 103, 114, 97, 109]⟩, ⟨#[102, 111, 117, 110, 100]⟩, ⟨#[104, 97, 110, 100]⟩, ⟨#[114, 111, 119]⟩, ⟨#[105, 110, 100, 101, 120]⟩]⟩,
  ⟨⟨#[105, 116, 101, 109, 95, 97, 116]⟩, top 15, F_item_at, [⟨#[112, 114, 111, 103, 114, 97, 109]⟩, ⟨#[110, 97, 109, 101]⟩]⟩,
  ⟨⟨#[100, 101, 101, 100, 115, 95, 111, 110]⟩, top 16, F_deeds_on, [⟨#[112, 114, 111, 103, 114, 97, 109]⟩, ⟨#[115, 119, 105, 116, 99, 104]⟩, ⟨#[102, 111, 117, 110, 100]⟩, ⟨#[110, 97, 109, 101]⟩, ⟨#[105, 116, 101, 109]⟩]⟩,
  ⟨⟨#[115, 105, 103, 110, 97, 108, 115, 95, 111, 102]⟩, top 17, F_signals_of, [⟨#[112, 114, 111, 103, 114, 97, 109]⟩, ⟨#[107, 105, 110, 100]⟩, ⟨#[110, 97, 109, 101]⟩]⟩,
  ⟨⟨#[105, 115, 95, 98, 101, 110, 116]⟩, top 19, F_is_bent, [⟨#[112, 114, 111, 103, 114, 97, 109]⟩, ⟨#[110, 97, 109, 101]⟩, ⟨#[105, 116, 101, 109]⟩, ⟨#[115, 116, 97, 110, 100, 115]⟩, ⟨#[115, 119, 105, 116, 99, 104]⟩, ⟨#[115, 116, 97, 110, 100]⟩, ⟨#[111, 116, 104, 101, 114]⟩, ⟨#[111, 110, 101]⟩]⟩,
  ⟨⟨#[98, 101, 110, 116]⟩, top 20, F_bent, [⟨#[112, 114, 111, 103, 114, 97, 109]⟩, ⟨#[102, 111, 117, 110, 100]⟩, ⟨#[110, 97, 109, 101]⟩]⟩,
  ⟨⟨#[110, 101, 101, 100, 95, 115, 116, 114, 97, 105, 103, 104, 116]⟩, top 21, F_need_straight, [⟨#[112, 114, 111, 103, 114, 97, 109]⟩]⟩,
  ⟨⟨#[99, 104, 97, 110, 103, 101]⟩, top 22, F_change, [⟨#[112, 114, 111, 103, 114, 97, 109]⟩, ⟨#[115, 119, 105, 116, 99, 104]⟩, ⟨#[115, 116, 97, 110, 100]⟩, ⟨#[102, 111, 117, 110, 100]⟩, ⟨#[110, 97, 109, 101]⟩, ⟨#[116, 104, 101, 114, 101]⟩]⟩,
  ⟨⟨#[103, 117, 97, 114, 100, 95, 98, 101, 102, 111, 114, 101, 115]⟩, top 23, F_guard_befores, [⟨#[112, 114, 111, 103, 114, 97, 109]⟩, ⟨#[110, 97, 109, 101]⟩, ⟨#[102, 111, 117, 110, 100]⟩, ⟨#[115, 119, 105, 116, 99, 104]⟩, ⟨#[115, 116, 97, 110, 100]⟩, ⟨#[109, 97, 107, 101, 114]⟩, ⟨#[116, 97, 107, 101, 114]⟩]⟩,
  ⟨⟨#[98, 101, 102, 111, 114, 101, 115, 95, 105, 110]⟩, top 24, F_befores_in, [⟨#[112, 114, 111, 103, 114, 97, 109]⟩, ⟨#[102, 111, 117, 110, 100]⟩, ⟨#[110, 97, 109, 101]⟩, ⟨#[105, 116, 101, 109]⟩, ⟨#[111, 116, 104, 101, 114]⟩]⟩,
  ⟨⟨#[114, 105, 110, 103, 95, 105, 110]⟩, top 25, F_ring_in, [⟨#[112, 114, 111, 103, 114, 97, 109]⟩, ⟨#[112, 97, 105, 114, 115]⟩, ⟨#[108, 105, 110, 101]⟩, ⟨#[108, 101, 102, 116]⟩, ⟨#[103, 111, 105, 110, 103]⟩, ⟨#[101, 110, 100, 115]⟩, ⟨#[97, 104, 101, 97, 100]⟩, ⟨#[111, 110, 101]⟩, ⟨#[111, 116, 104, 101, 114]⟩, ⟨#[115, 111, 114, 116]⟩, ⟨#[110, 97, 109, 101]⟩]⟩,
  ⟨⟨#[114, 105, 110, 103]⟩, top 26, F_ring, [⟨#[112, 114, 111, 103, 114, 97, 109]⟩]⟩,
  ⟨⟨#[115, 104, 111, 119, 115, 95, 114, 105, 110, 103]⟩, top 27, F_shows_ring, [⟨#[112, 114, 111, 103, 114, 97, 109]⟩, ⟨#[118, 97, 108, 117, 101]⟩, ⟨#[110, 97, 109, 101, 115]⟩, ⟨#[111, 110, 101]⟩, ⟨#[112, 97, 105, 114, 115]⟩, ⟨#[111, 116, 104, 101, 114]⟩, ⟨#[115, 111, 114, 116]⟩, ⟨#[107]⟩]⟩,
  ⟨⟨#[95, 108, 97, 119, 95, 116, 97, 107, 101, 110]⟩, top 29, F__law_taken, [⟨#[95, 108, 97, 119, 95, 114, 111, 119]⟩, ⟨#[95, 108, 97, 119, 95, 109, 97, 110, 121]⟩, ⟨#[95, 108, 97, 119, 95, 99, 101, 108, 108]⟩, ⟨#[95, 108, 97, 119, 95, 102, 111, 117, 110, 100]⟩]⟩,
  ⟨⟨#[95, 108, 97, 119, 95, 112, 105, 99, 107]⟩, top 30, F__law_pick, [⟨#[95, 108, 97, 119, 95, 114, 111, 119]⟩, ⟨#[95, 108, 97, 119, 95, 116, 104, 105, 110, 103, 115]⟩]⟩,
  ⟨⟨#[95, 108, 97, 119, 95, 99, 104, 97, 110, 103, 101, 115]⟩, top 31, F__law_changes, [⟨#[95, 108, 97, 119, 95, 114, 111, 119]⟩, ⟨#[95, 108, 97, 119, 95, 109, 97, 110, 121]⟩, ⟨#[95, 108, 97, 119, 95, 115, 116, 97, 114, 116]⟩, ⟨#[95, 108, 97, 119, 95, 115, 119, 105, 116, 99, 104]⟩, ⟨#[95, 108, 97, 119, 95, 108, 101, 102, 116]⟩, ⟨#[95, 108, 97, 119, 95, 115, 116, 97, 110, 100, 115]⟩, ⟨#[95, 108, 97, 119, 95, 102, 111, 117, 110, 100]⟩, ⟨#[95, 108, 97, 119, 95, 115, 112, 111, 116]⟩]⟩,
  ⟨⟨#[95, 108, 97, 119, 95, 112, 114, 111, 103, 114, 97, 109]⟩, top 32, F__law_program, [⟨#[95, 108, 97, 119, 95, 114, 111, 119]⟩, ⟨#[95, 108, 97, 119, 95, 109, 111, 115, 116]⟩, ⟨#[95, 108, 97, 119, 95, 104, 97, 110, 100, 115]⟩, ⟨#[95, 108, 97, 119, 95, 115, 116, 97, 114, 116]⟩, ⟨#[95, 108, 97, 119, 95, 116, 119, 105, 99, 101]⟩, ⟨#[95, 108, 97, 119, 95, 104, 97, 110, 100]⟩, ⟨#[95, 108, 97, 119, 95, 109, 97, 110, 121]⟩, ⟨#[95, 108, 97, 119, 95, 119, 97, 121]⟩, ⟨#[95, 108, 97, 119, 95, 100, 101, 101, 100, 115]⟩, ⟨#[95, 108, 97, 119, 95, 115, 116, 97, 110, 100, 115]⟩, ⟨#[95, 108, 97, 119, 95, 111, 119, 110, 101, 114, 115]⟩, ⟨#[95, 108, 97, 119, 95, 114, 111, 119, 115]⟩, ⟨#[95, 108, 97, 119, 95, 115, 105, 103, 110, 97, 108, 115]⟩, ⟨#[95, 108, 97, 119, 95, 116, 111, 108, 100]⟩, ⟨#[95, 108, 97, 119, 95, 115, 119, 105, 116, 99, 104]⟩, ⟨#[95, 108, 97, 119, 95, 115, 116, 97, 110, 100]⟩, ⟨#[95, 108, 97, 119, 95, 103, 117, 97, 114, 100]⟩, ⟨#[95, 108, 97, 119, 95, 111, 116, 104, 101, 114]⟩, ⟨#[95, 108, 97, 119, 95, 119, 105, 115, 104]⟩, ⟨#[95, 108, 97, 119, 95, 107]⟩, ⟨#[95, 108, 97, 119, 95, 111, 110, 101]⟩]⟩,
  ⟨⟨#[95, 108, 97, 119, 95, 110, 97, 109, 101, 115]⟩, top 33, F__law_names, [⟨#[95, 108, 97, 119, 95, 112, 114, 111, 103, 114, 97, 109, 95, 104, 101, 114, 101]⟩, ⟨#[95, 108, 97, 119, 95, 102, 111, 117, 110, 100]⟩, ⟨#[95, 108, 97, 119, 95, 104, 97, 110, 100]⟩, ⟨#[95, 108, 97, 119, 95, 107]⟩]⟩,
  ⟨⟨#[95, 108, 97, 119, 95, 115, 101, 116, 116, 101, 114]⟩, top 34, F__law_setter, [⟨#[95, 108, 97, 119, 95, 112, 114, 111, 103, 114, 97, 109, 95, 104, 101, 114, 101]⟩, ⟨#[95, 108, 97, 119, 95, 115, 119, 105, 116, 99, 104]⟩, ⟨#[95, 108, 97, 119, 95, 115, 116, 97, 110, 100]⟩, ⟨#[95, 108, 97, 119, 95, 102, 111, 117, 110, 100]⟩, ⟨#[95, 108, 97, 119, 95, 104, 97, 110, 100]⟩, ⟨#[95, 108, 97, 119, 95, 107]⟩, ⟨#[95, 108, 97, 119, 95, 105, 116, 101, 109]⟩]⟩,
  ⟨⟨#[95, 108, 97, 119, 95, 98, 101, 102, 111, 114, 101, 115]⟩, top 35, F__law_befores, [⟨#[95, 108, 97, 119, 95, 112, 114, 111, 103, 114, 97, 109, 95, 104, 101, 114, 101]⟩, ⟨#[95, 108, 97, 119, 95, 102, 111, 117, 110, 100]⟩, ⟨#[95, 108, 97, 119, 95, 110, 97, 109, 101]⟩, ⟨#[95, 108, 97, 119, 95, 105, 116, 101, 109]⟩, ⟨#[95, 108, 97, 119, 95, 115, 119, 105, 116, 99, 104]⟩, ⟨#[95, 108, 97, 119, 95, 115, 116, 97, 110, 100]⟩, ⟨#[95, 108, 97, 119, 95, 104, 97, 110, 100]⟩, ⟨#[95, 108, 97, 119, 95, 107]⟩, ⟨#[95, 108, 97, 119, 95, 109, 97, 107, 101, 114, 115]⟩, ⟨#[95, 108, 97, 119, 95, 116, 97, 107, 101, 114, 115]⟩, ⟨#[95, 108, 97, 119, 95, 109, 97, 107, 101, 114]⟩, ⟨#[95, 108, 97, 119, 95, 116, 97, 107, 101, 114]⟩]⟩,
  ⟨⟨#[95, 108, 97, 119, 95, 97, 104, 101, 97, 100]⟩, top 36, F__law_ahead, [⟨#[95, 108, 97, 119, 95, 112, 114, 111, 103, 114, 97, 109, 95, 104, 101, 114, 101]⟩, ⟨#[95, 108, 97, 119, 95, 97, 104, 101, 97, 100, 95, 104, 101, 114, 101]⟩, ⟨#[95, 108, 97, 119, 95, 109, 105, 100, 100, 108, 101]⟩, ⟨#[95, 108, 97, 119, 95, 110, 97, 109, 101, 115, 95, 104, 101, 114, 101]⟩, ⟨#[95, 108, 97, 119, 95, 112, 97, 105, 114, 115]⟩, ⟨#[95, 108, 97, 119, 95, 110, 97, 109, 101]⟩, ⟨#[95, 108, 97, 119, 95, 111, 110, 101]⟩, ⟨#[95, 108, 97, 119, 95, 111, 116, 104, 101, 114]⟩, ⟨#[95, 108, 97, 119, 95, 115, 111, 114, 116]⟩]⟩,
  ⟨⟨#[95, 108, 97, 119, 95, 105, 115, 95, 118, 101, 99, 116, 111, 114]⟩, top 37, F__law_is_vector, [⟨#[95, 108, 97, 119, 95, 118, 97, 108, 117, 101]⟩, ⟨#[95, 108, 97, 119, 95, 115, 105, 122, 101]⟩, ⟨#[95, 108, 97, 119, 95, 120]⟩]⟩,
  ⟨⟨#[95, 108, 97, 119, 95, 97, 108, 105, 107, 101]⟩, top 38, F__law_alike, [⟨#[95, 108, 97, 119, 95, 102, 111, 117, 110, 100]⟩, ⟨#[95, 108, 97, 119, 95, 100, 117, 101]⟩, ⟨#[95, 108, 97, 119, 95, 107]⟩]⟩,
  ⟨⟨#[108, 97, 119]⟩, top 39, F_law, [⟨#[95, 108, 97, 119, 95, 115, 99, 114, 105, 112, 116]⟩, ⟨#[95, 108, 97, 119, 95, 114, 111, 119]⟩, ⟨#[95, 108, 97, 119, 95, 112, 114, 111, 103, 114, 97, 109, 95, 104, 101, 114, 101]⟩, ⟨#[95, 108, 97, 119, 95, 97, 104, 101, 97, 100, 95, 104, 101, 114, 101]⟩, ⟨#[95, 108, 97, 119, 95, 114, 105, 110, 103, 101, 100]⟩, ⟨#[95, 108, 97, 119, 95, 98, 97, 115, 101]⟩, ⟨#[95, 108, 97, 119, 95, 108, 105, 110, 101]⟩, ⟨#[95, 108, 97, 119, 95, 118, 97, 108, 117, 101, 115]⟩, ⟨#[95, 108, 97, 119, 95, 118, 97, 108, 117, 101]⟩, ⟨#[95, 108, 97, 119, 95, 112, 97, 105, 114, 115]⟩, ⟨#[95, 108, 97, 119, 95, 110, 97, 109, 101, 115, 95, 104, 101, 114, 101]⟩, ⟨#[95, 108, 97, 119, 95, 103, 111, 111, 100]⟩, ⟨#[95, 108, 97, 119, 95, 110, 97, 109, 101]⟩, ⟨#[95, 108, 97, 119, 95, 111, 110, 101]⟩, ⟨#[95, 108, 97, 119, 95, 111, 116, 104, 101, 114]⟩, ⟨#[95, 108, 97, 119, 95, 115, 111, 114, 116]⟩, ⟨#[95, 108, 97, 119, 95, 107]⟩]⟩]
def tabI : Tbl := [(452907198830, F_is_in), (7598521894259749476, F_is_guard), (29681726182942061, F_is_item), (34165931398695334765290217837, F_need_program), (1797146899509936483699, F_all_items), (29682851530105204, F_item_at), (7234299858547339118, F_deeds_on), (545016506659300467240806, F_signals_of), (29681726064520820, F_is_bent), (1650814580, F_bent), (8746478438066222438918977448052, F_need_straight), (109299962373989, F_change), (8196828291124153386188233926003, F_guard_befores), (464662417716764232083822, F_befores_in), (32204070246639982, F_ring_in), (1919512167, F_ring), (544998638928989210111591, F_shows_ring), (450624087419674289726830, F__law_taken), (1760250341483036107627, F__law_pick), (29532100193130996830715733363, F__law_changes), (29532100193134667060542071149, F__law_program), (450624087419648520054131, F__law_names), (115359766379435535990285682, F__law_setter), (29532100193130712078696473971, F__law_befores), (450624087419592802394468, F__law_ahead), (1935415718257144480841600492400498, F__law_is_vector), (450624087419592869768037, F__law_alike), (7102839, F_law)]
def cons : List (Str × VI.D) := [(⟨#[77, 79, 83, 84, 95, 72, 65, 78, 68, 83]⟩, VI.D.int 4), (⟨#[77, 79, 83, 84, 95, 73, 84, 69, 77, 83]⟩, VI.D.int 24), (⟨#[77, 79, 83, 84, 95, 83, 87, 73, 84, 67, 72, 69, 83]⟩, VI.D.int 8), (⟨#[77, 79, 83, 84, 95, 83, 73, 71, 78, 65, 76]⟩, VI.D.int 31)]
theorem tab_ok : okT tab cons = true := by decide +kernel
theorem cs_ok : cons.all (fun p => match glOf cons (codeOf p.1), p.2 with
    | some (.int i), .int j => decide (i = j)
    | some (.str i), .str j => decide (i = j)
    | _, _ => false) = true := by decide +kernel
theorem tbl_eq : tblOf tab = tabI := by rfl
end VI

set_option Elab.async false
set_option linter.all false
set_option maxRecDepth 100000
set_option maxHeartbeats 1000000
namespace VI
open PySem
def nn : Nat := 1000
def kk : Nat := 20
def lawE : En := tab.getLast (by exact fun z => nomatch z)
theorem l8draw : Draw tabI := ⟨rfl, rfl, rfl, rfl⟩
theorem l8base : Base tabI (glOf cons) := ⟨rfl, rfl, rfl, rfl, rfl, rfl, rfl, rfl, rfl, rfl⟩
theorem l8rgs : Rgs tabI (glOf cons) := { toBase := l8base, deeds_on := rfl, signals := rfl, is_bent := rfl, bent := rfl, change := rfl, guard_befores := rfl, befores_in := rfl, need_straight := rfl, ring_in := rfl, ring := rfl, shows := rfl }
theorem l8nm : Nm tabI := ⟨rfl, rfl⟩
/-- a law's start: the row of draws -/
theorem says_of {T : Tbl} {gl : Nat → Option D} {n k : Nat} {ns : List Int} {c : Int} {F : FnI} {ss : Ss} (hF : T.at_ 7102839 = some F) (hp : F.ps = 1) (hb : F.bw = [false]) (hn : 2 ≤ F.ns) (hbd : F.body = .cons (.newo 1 (.cons (.var 0) (.cons (.int 0) (.cons (.int c) (.cons (.int 0) .nil))))) ss)
    (h : wp (execs ⟨run T gl n k, gl, n⟩ ss (.fz (.scr ns) :: .fz (.obj 0) :: List.replicate (F.ns - 2) .no)) (row4 (.scr ns) (.int 0) (.int c) (.int 0)) fun fl _ => fl = .rt (.bl true)) : ∃ w, run T gl n (k + 1) 7102839 [.scr ns] [] = .ok (.bl true) w := by
  have e0 : startE F [.scr ns] = .fz (.scr ns) :: .no :: List.replicate (F.ns - 2) .no := by
    unfold startE
    rw [hb]
    obtain ⟨m, hm⟩ : ∃ m, F.ns = m + 2 := ⟨F.ns - 2, by omega⟩
    rw [hm]
    rfl
  suffices h : wp (run T gl n (k + 1) 7102839 [.scr ns]) [] fun d _ => d = .bl true by
    have := h.out
    unfold wp0 at this
    cases q : run T gl n (k + 1) 7102839 [.scr ns] [] with
    | ok d w => rw [q] at this; cases this; exact ⟨w, rfl⟩
    | exn c f w => rw [q] at this; exact this.elim
    | no => rw [q] at this; exact this.elim
  rw [run_at hF (by rw [hp]; rfl), e0, hbd]
  refine wp_bnd.mpr ?_
  have hnew : exec ⟨run T gl n k, gl, n⟩ (.newo 1 (.cons (.var 0) (.cons (.int 0) (.cons (.int c) (.cons (.int 0) .nil))))) (.fz (.scr ns) :: .no :: List.replicate (F.ns - 2) .no) [] = .ok (.nx (.fz (.scr ns) :: .fz (.obj 0) :: List.replicate (F.ns - 2) .no)) (row4 (.scr ns) (.int 0) (.int c) (.int 0)) := by
    rw [ex_newo]
    simp [bnd, ret, lft, row4]
  refine wp_seq.mpr ⟨?_⟩
  unfold wp0
  rw [hnew]
  refine wp_mono h fun fl w2 e => ?_
  subst e
  exact wp_ret.mpr rfl
noncomputable def ringedB (p : Prog) : Bool := !(p.nms.filter fun a => decide (a ∈ p.ahead a)).isEmpty
theorem ringedB_iff {p : Prog} : ringedB p = true ↔ HasR p := by
  unfold ringedB HasR
  constructor
  · intro h
    cases q : p.nms.filter fun a => decide (a ∈ p.ahead a) with
    | nil => rw [q] at h; cases h
    | cons a l =>
      have : a ∈ p.nms.filter fun a => decide (a ∈ p.ahead a) := by rw [q]; exact .head _
      obtain ⟨h1, h2⟩ := List.mem_filter.mp this
      exact ⟨a, h1, ahead_iff.mp (of_decide_eq_true h2)⟩
  · rintro ⟨a, h1, h2⟩
    have : a ∈ p.nms.filter fun a => decide (a ∈ p.ahead a) := List.mem_filter.mpr ⟨h1, decide_eq_true (ahead_iff.mpr h2)⟩
    cases q : p.nms.filter fun a => decide (a ∈ p.ahead a) with
    | nil => rw [q] at this; cases this
    | cons a l => rfl
def tail6 : Ss := (.cons (.set 6 (.ite (.notn (.var 5)) (.var 5) (.ite (.cmp .ne (.var 9) (.lst .nil)) (.ix (.var 9) (.int 0)) (.tup (.cons (.tup (.cons (.int 0) (.cons (.int 0) .nil))) .nil))))) (.cons (.set 7 (.lst (.cons (.var 5) (.cons .non (.cons (.tup .nil) (.cons (.blt .list (.var 6)) (.cons (.rev (.var 6)) (.cons (.sl (.var 6) (.some (.int 1)) .none) (.cons (.bin .add (.var 6) (.var 6)) (.cons (.bin .add (.sl (.var 6) (.some (.int 1)) .none) (.sl (.var 6) .none (.some (.int 1)))) .nil)))))))))) (.cons (.set 7 (.bin .add (.var 7) (.lst (.cons (.bin .add (.var 6) (.sl (.var 6) .none (.some (.int 1)))) (.cons (.int 3) (.cons (.dct .nil .nil) (.cons (.tup (.cons (.tup (.cons (.int 9) (.cons (.int 9) .nil))) .nil)) (.cons (.tup (.cons .non .nil)) (.cons (.tup (.cons (.tup (.cons (.int 0) (.cons (.bl true) .nil))) .nil)) .nil))))))))) (.cons (.set 7 (.bin .add (.bin .add (.var 7) (.comp (.one 12) (.seq (.var 10)) .none (.tup (.cons (.var 12) .nil)))) (.lst (.cons (.blt .tuple (.comp (.one 12) (.seq (.var 6)) .none (.blt .list (.var 12)))) (.cons (.tup (.cons (.tup (.cons (.int 0) (.cons (.int 0) (.cons (.int 0) .nil)))) .nil)) .nil))))) (.cons (.for_ (.one 8) (.seq (.var 7)) (.cons (.set 11 (.isn (.var 8))) (.cons (.ite (.var 4) (.cons (.set 11 (.and (.isi (.var 8) [.tuple]) (.and (.cmp .ne (.var 8) (.tup .nil)) (.cmp .eq (.comp (.one 12) (.seq (.var 8)) (.some (.or (.not (.isi (.var 12) [.tuple])) (.cmp .notin (.var 12) (.var 10)))) (.var 12)) (.lst .nil))))) (.cons (.set 11 (.and (.var 11) (.cmp .eq (.comp (.one 12) (.seq (.var 8)) (.some (.not (.call 1935415718257144480841600492400498 (.cons (.var 12) (.cons (.int 2) .nil))))) (.var 12)) (.lst .nil)))) (.cons (.set 11 (.and (.var 11) (.cmp .eq (.comp (.one 16) (.rng1 (.blt .len (.var 8))) (.some (.cmp .notin (.tup (.cons (.ix (.var 8) (.bin .sub (.var 16) (.int 1))) (.cons (.ix (.var 8) (.var 16)) .nil))) (.var 9))) (.var 16)) (.lst .nil)))) .nil))) .nil) (.cons (.ite (.not (.call 450624087419592869768037 (.cons (.call 544998638928989210111591 (.cons (.var 2) (.cons (.var 8) .nil))) (.cons (.var 11) .nil)))) (.cons (.ret (.bl false)) .nil) .nil) .nil)))) (.cons (.ret (.and (.cmp .eq (.notn (.var 5)) (.var 4)) (.ist (.call 544998638928989210111591 (.cons (.var 2) (.cons (.var 5) .nil))) true))) .nil))))))
/-- the law's question of one value -/
def askS : Ss := (.cons (.ite (.not (.call 450624087419592869768037 (.cons (.call 544998638928989210111591 (.cons (.var 2) (.cons (.var 8) .nil))) (.cons (.var 11) .nil)))) (.cons (.ret (.bl false)) .nil) .nil) .nil)
def retS : Ss := (.cons (.ret (.and (.cmp .eq (.notn (.var 5)) (.var 4)) (.ist (.call 544998638928989210111591 (.cons (.var 2) (.cons (.var 5) .nil))) true))) .nil)
theorem tail_ok {p : Prog} (ok : ProgOk p) (hs : p.bents = []) {o : Option (List Name)} (ho : RingP p o) {s0 s1 s3 : Sl} (w : Wd) :
    wp (execs ⟨run tabI (glOf cons) nn 19, glOf cons, nn⟩ tail6 [s0, s1, .fz p.d, s3, .fz (.bl (ringedB p)), .fz (ringD o), .no, .no, .no, .fz (.lst (p.prs.map prD)), .fz (.lst (p.nms.map nameD)), .no, .no, .no, .no, .no, .no]) w fun fl _ => fl = .rt (.bl true) := by
  have hl := lineN_len ho
  unfold tail6
  rw [setline_ok, vals_ok hl (nms_le ok)]
  rw [show execs ⟨run tabI (glOf cons) nn 19, glOf cons, nn⟩ (.cons (.for_ (.one 8) (.seq (.var 7)) (.cons (.set 11 (.isn (.var 8))) (.cons (.ite (.var 4) (.cons (.set 11 (.and (.isi (.var 8) [.tuple]) (.and (.cmp .ne (.var 8) (.tup .nil)) (.cmp .eq (.comp (.one 12) (.seq (.var 8)) (.some (.or (.not (.isi (.var 12) [.tuple])) (.cmp .notin (.var 12) (.var 10)))) (.var 12)) (.lst .nil))))) (.cons (.set 11 (.and (.var 11) (.cmp .eq (.comp (.one 12) (.seq (.var 8)) (.some (.not (.call 1935415718257144480841600492400498 (.cons (.var 12) (.cons (.int 2) .nil))))) (.var 12)) (.lst .nil)))) (.cons (.set 11 (.and (.var 11) (.cmp .eq (.comp (.one 16) (.rng1 (.blt .len (.var 8))) (.some (.cmp .notin (.tup (.cons (.ix (.var 8) (.bin .sub (.var 16) (.int 1))) (.cons (.ix (.var 8) (.var 16)) .nil))) (.var 9))) (.var 16)) (.lst .nil)))) .nil))) .nil) (.cons (.ite (.not (.call 450624087419592869768037 (.cons (.call 544998638928989210111591 (.cons (.var 2) (.cons (.var 8) .nil))) (.cons (.var 11) .nil)))) (.cons (.ret (.bl false)) .nil) .nil) .nil)))) (.cons (.ret (.and (.cmp .eq (.notn (.var 5)) (.var 4)) (.ist (.call 544998638928989210111591 (.cons (.var 2) (.cons (.var 5) .nil))) true))) .nil)) = fun e => seqM (exec ⟨run tabI (glOf cons) nn 19, glOf cons, nn⟩ (.for_ (.one 8) (.seq (.var 7)) (goodB askS)) e) (execs ⟨run tabI (glOf cons) nn 19, glOf cons, nn⟩ retS) from rfl]
  have hsh : ∀ {d : D}, VlB d = true → run tabI (glOf cons) nn 19 544998638928989210111591 [p.d, d] = ret (.bl (if ringedB p = true then shB p d else isNon d)) := fun hd => shows_ok (k := 12) l8rgs p ok hs (by decide) ringedB_iff hd
  have hvl := vals_vl ho hl.1
  have hal : ∀ b : Bool, run tabI (glOf cons) nn 19 450624087419592869768037 [.bl b, .bl b] = ret (.bl true) := fun b => alike_refl (T := tabI) (gl := glOf cons) (n := nn) (k := 17) rfl 1 (.bl b) (by decide) rfl
  simp only [wp_seq]
  rw [show exec ⟨run tabI (glOf cons) nn 19, glOf cons, nn⟩ (.for_ (.one 8) (.seq (.var 7)) (goodB askS)) [s0, s1, .fz p.d, s3, .fz (.bl (ringedB p)), .fz (ringD o), .fz (.tup ((lineN p o).map nameD)), .fz (.lst (valsN (ringD o) p.nms (lineN p o))), .no, .fz (.lst (p.prs.map prD)), .fz (.lst (p.nms.map nameD)), .no, .no, .no, .no, .no, .no] = forL (.one 8) (execs ⟨run tabI (glOf cons) nn 19, glOf cons, nn⟩ (goodB askS)) (valsN (ringD o) p.nms (lineN p o)) [s0, s1, .fz p.d, s3, .fz (.bl (ringedB p)), .fz (ringD o), .fz (.tup ((lineN p o).map nameD)), .fz (.lst (valsN (ringD o) p.nms (lineN p o))), .no, .fz (.lst (p.prs.map prD)), .fz (.lst (p.nms.map nameD)), .no, .no, .no, .no, .no, .no] from rfl]
  generalize hV : valsN (ringD o) p.nms (lineN p o) = V at *
  refine wp_forL (fun _ e _ => ∃ x8 x11, e = [s0, s1, .fz p.d, s3, .fz (.bl (ringedB p)), .fz (ringD o), .fz (.tup ((lineN p o).map nameD)), .fz (.lst V), x8, .fz (.lst (p.prs.map prD)), .fz (.lst (p.nms.map nameD)), x11, .no, .no, .no, .no, .no]) ⟨_, _, rfl⟩ ?_ ?_
  · rintro dn x env w2 hx ⟨x8, x11, rfl⟩
    refine ⟨_, rfl, ?_⟩
    have hg := good_ok (T := tabI) (gl := glOf cons) (n := nn) (k := 18) rfl ok (hvl x hx) (g := ringedB p) (s0 := s0) (s1 := s1) (s2 := .fz p.d) (s3 := s3) (s5 := .fz (ringD o)) (s6 := .fz (.tup ((lineN p o).map nameD))) (s7 := .fz (.lst V)) (x11 := x11) (rest := askS)
    simp only [List.set]
    rw [hg]
    unfold askS
    simp [hsh (hvl x hx), hal, wp_ret]
  · rintro e w2 ⟨x8, x11, rfl⟩
    have hgo : ringedB p = o.isSome := by rw [Bool.eq_iff_iff, ringedB_iff, RingP.iff ho]; rfl
    have hd : VlB (ringD o) = true := by
      cases o with
      | none => rfl
      | some u => exact vl_names (Nat.le_trans ho.2.2.1 (by decide))
    unfold retS
    cases o with
    | none =>
      have := hsh hd
      rw [hgo] at this ⊢
      simp [this, ringD, wp_ret] at this ⊢
      simp [this, wp_ret]
    | some v =>
      have := hsh hd
      rw [hgo] at this ⊢
      have h2 := shB_ring ho
      simp [ringD, h2] at this ⊢
      simp [this, wp_ret]
theorem says_law : Says tab cons nn kk := by
  intro ns _
  rw [tbl_eq]
  refine says_of (k := 19) (F := F_law) (c := 10008) (ss := .cons (.set 2 (.call 29532100193134667060542071149 (.cons (.var 1) (.cons (.int 5) (.cons (.int 2) .nil))))) (.cons (.par [(9, 0), (10, 0)] (.cons (.comp (.many [13, 14, 15]) (.seq (.call 29532100193130712078696473971 (.cons (.var 2) .nil))) .none (.tup (.cons (.var 13) (.cons (.var 14) .nil)))) (.cons (.call 450624087419648520054131 (.cons (.var 2) .nil)) .nil))) (.cons (.set 3 (.call 450624087419592802394468 (.cons (.var 2) .nil))) (.cons (.set 4 (.cmp .ne (.comp (.one 12) (.seq (.var 10)) (.some (.cmp .isin (.var 12) (.ix (.var 3) (.var 12)))) (.var 12)) (.lst .nil))) (.cons (.set 5 (.call 1919512167 (.cons (.var 2) .nil))) tail6))))) rfl rfl rfl (by decide) rfl ?_
  have hw0 : RowOk ns (row4 (.scr ns) (.int 0) (.int 10008) (.int 0)) := ⟨0, 10008, 0, rfl⟩
  simp [wp_seq, wp_bnd, wp_ret, F_law, List.replicate]
  refine wp_mono (program_ok (gl := glOf cons) (k := 15) (n := nn) l8draw (by decide) hw0 (by decide) (by decide)) ?_
  rintro d w1 ⟨p, rfl, dr, hw1⟩
  have lb := lbefores_ok (gl := glOf cons) (n := nn) (k := 16) (T := tabI) { toNm := l8nm, befores := rfl } p dr.ok dr.straight
  have la := lahead_ok (gl := glOf cons) (n := nn) (k := 15) (T := tabI) { toNm := l8nm, befores := rfl, ahead := rfl } p dr.ok dr.straight
  have lnm := names_ok (gl := glOf cons) (n := nn) (k := 18) (T := tabI) l8nm p dr.ok
  have lp := prs_len dr.ok
  have ln := nms_le dr.ok
  have lbl := befs_len dr.ok
  have l2 : p.prs.length ≤ lim := le_lim (by omega)
  simp only [Nat.reduceAdd] at lb la lnm
  rw [nms_map] at lnm
  simp [lb, lnm, wp_bnd, wp_ret, wp_seq]
  rw [mapM_pureL (h := fun b => some (.tup [nameD b.1, nameD b.2.1])) fun b hb => by simp [befD]]
  simp [prs_map, l2, la, wp_bnd, wp_ret, wp_seq]
  rw [mapM_pureL (h := fun a => if (decide (a ∈ p.ahead a)) = true then some (nameD a) else none) fun a ha => by
    simp [ixM_dct key_name, dget_nd ha, lstN]
    by_cases c : a ∈ p.ahead a <;> simp [c]]
  rw [fm_filter]
  have e1 : (p.nms.filter fun a => decide (a ∈ p.ahead a)).length ≤ lim := le_lim (by have := List.length_filter_le (fun a => decide (a ∈ p.ahead a)) p.nms; omega)
  simp only [bnd_ret, List.length_map, decide_eq_true e1, guard_t, lft_some, shut_ret, wp_ret, wp_bnd, wp_seq, ne_nilL, Option.map_some]
  rw [show (!(p.nms.filter fun a => decide (a ∈ p.ahead a)).isEmpty) = ringedB p from rfl]
  refine wp_mono (ring_ok (k := 12) l8rgs p dr.ok dr.straight (by decide) w1) ?_
  rintro _ w2 ⟨rfl, o, rfl, ho⟩
  exact tail_ok dr.ok dr.straight ho _
end VI

set_option Elab.async false
set_option linter.all false
set_option maxRecDepth 100000
set_option maxHeartbeats 4000000
namespace VI
open PySem PySem.Spec PyProof.Rows L2
abbrev fnH : List He.DefD := tab.map En.dd
abbrev faH : List He.Fa := faOf tab cons
abbrev R : PySem.W.OpenRow := PySem.W.OpenLaw.row PySem.Challenge.rw_handguards_k08_whole_rings_judged
def hk : PySem.W.Hook := He.hookD 4 faH fnH
def ob (s : PySem.W.SharedT) : He.AlD := He.obsDG 4 faH fnH (HandSHeadRun.getT s)
theorem ob_eq (s : PySem.W.SharedT) : ob s = hk.obs s.abs := He.obsDG_eq (HandSHeadRun.getT_eq s)
theorem runH (w : World) : HandSHeadRun.RunEq R (PySem.W.view R.prog [39]) hk ob 4000 [("HandError" : PySem.Str), ("BadProgram" : PySem.Str), ("NotStraight" : PySem.Str), ("is_in" : PySem.Str), ("MOST_SWITCHES" : PySem.Str), ("MOST_HANDS" : PySem.Str), ("MOST_ITEMS" : PySem.Str), ("MOST_SIGNAL" : PySem.Str), ("is_guard" : PySem.Str), ("is_item" : PySem.Str), ("need_program" : PySem.Str), ("all_items" : PySem.Str), ("item_at" : PySem.Str), ("deeds_on" : PySem.Str), ("signals_of" : PySem.Str), ("is_bent" : PySem.Str), ("bent" : PySem.Str), ("need_straight" : PySem.Str), ("change" : PySem.Str), ("guard_befores" : PySem.Str), ("befores_in" : PySem.Str), ("ring_in" : PySem.Str), ("ring" : PySem.Str), ("shows_ring" : PySem.Str), ("_law_taken" : PySem.Str), ("_law_pick" : PySem.Str), ("_law_changes" : PySem.Str), ("_law_program" : PySem.Str), ("_law_names" : PySem.Str), ("_law_setter" : PySem.Str), ("_law_befores" : PySem.Str), ("_law_ahead" : PySem.Str), ("_law_is_vector" : PySem.Str), ("_law_alike" : PySem.Str)] w := by
  intro os
  kernel_rfl
theorem factsH {P : Program} {w : World} {K : PySem.W.Frag} {h : Heap} {mg : Str → Option Value} {f : Addr} (X : K.In h) (G : h.Ns mainGlobals mg) (hfa : mg ("law" : Str) = some (.ref f)) (c : He.SaysD faH fnH K) :
    ∃ fd : FuncData, (∀ (s : Shared) (v : Value), BindsTo s fd ⟨[v], []⟩ [("_law_script", v)]) ∧ ∀ base : Heap, K.In base → base.Ns mainGlobals mg → FnOk P w K mg base (CXA P) (kk + 2) f fd ["_law_script"] (spOf ⟨K, w, fun _ => .none, fun _ => ""⟩ ⟨run (tblOf tab) (glOf cons) nn kk, glOf cons, nn⟩ (codeOf "law") [false]) := by
  have hd : Hd tab cons (VI.Pm.mk K w (fun _ => .none) (fun _ => "")).K mg := hd_of tab_ok cs_ok X G c
  have he : (lawE : En) ∈ tab := List.getLast_mem (l := tab) (by exact fun z => nomatch z)
  obtain ⟨fd, F, _⟩ := law_ok (P := P) (Pm := VI.Pm.mk K w (fun _ => .none) (fun _ => "")) (base := h) nn kk tab_ok hd he
  have e := hfa.symm.trans (hd.mgs lawE he)
  cases e
  have b := FunD.bindsA (ps := ["_law_script"]) F fun _ _ _ _ _ _ us hl => match us, hl with | [_], _ => rfl
  refine ⟨fd, fun s v => b s [v] rfl, fun base _ _ => ?_⟩
  obtain ⟨fd2, F2, ok⟩ := law_ok (P := P) (Pm := VI.Pm.mk K w (fun _ => .none) (fun _ => "")) (base := base) nn kk tab_ok hd he
  have e2 : fd2 = fd := funD_same F F2
  subst e2
  exact ok
end VI
open PySem PySem.W PySem.Calls PyProof.Rows
theorem PySem.Challenge.cw_handguards_k08_whole_rings_judged_holds : PySem.Challenge.rw_handguards_k08_whole_rings_judged.Holds := by
  w_on; o_law
  refine HandSHeadRun.head_any (r := OpenLaw.row PySem.Challenge.rw_handguards_k08_whole_rings_judged) (q := view (OpenLaw.row PySem.Challenge.rw_handguards_k08_whole_rings_judged).prog [39]) (H := VI.hk) (ob := VI.ob) (M := 4000) (loose := [("HandError" : PySem.Str), ("BadProgram" : PySem.Str), ("NotStraight" : PySem.Str), ("is_in" : PySem.Str), ("MOST_SWITCHES" : PySem.Str), ("MOST_HANDS" : PySem.Str), ("MOST_ITEMS" : PySem.Str), ("MOST_SIGNAL" : PySem.Str), ("is_guard" : PySem.Str), ("is_item" : PySem.Str), ("need_program" : PySem.Str), ("all_items" : PySem.Str), ("item_at" : PySem.Str), ("deeds_on" : PySem.Str), ("signals_of" : PySem.Str), ("is_bent" : PySem.Str), ("bent" : PySem.Str), ("need_straight" : PySem.Str), ("change" : PySem.Str), ("guard_befores" : PySem.Str), ("befores_in" : PySem.Str), ("ring_in" : PySem.Str), ("ring" : PySem.Str), ("shows_ring" : PySem.Str), ("_law_taken" : PySem.Str), ("_law_pick" : PySem.Str), ("_law_changes" : PySem.Str), ("_law_program" : PySem.Str), ("_law_names" : PySem.Str), ("_law_setter" : PySem.Str), ("_law_befores" : PySem.Str), ("_law_ahead" : PySem.Str), ("_law_is_vector" : PySem.Str), ("_law_alike" : PySem.Str)]) (d := HandSHeadRun.topDef (OpenLaw.row PySem.Challenge.rw_handguards_k08_whole_rings_judged).prog 39) (kwd := []) VI.ob_eq
    (by kernel_rfl) (fun s => by kernel_rfl) VI.runH (by kernel_rfl) (by kernel_rfl) (by kernel_rfl) (by rfl) (by first | assumption | decide +kernel) (by decide +kernel) ⟨rfl, rfl, rfl, rfl, rfl, by decide +kernel⟩ ?hw ?hc
  case hw => w_witness2
  case hc =>
    refine L2.walk_ofE (l := PySem.Challenge.rw_handguards_k08_whole_rings_judged) (n := 63) (k := VI.kk + 2) (x := "_law_script") (CX := VI.CXA (PySem.Challenge.rw_handguards_k08_whole_rings_judged).prog) rfl (by decide) (by kernel_rfl) ⟨rfl, by decide, by decide⟩ ?F VI.cxa_never
    intro w mg fa h Y G hmg0
    obtain ⟨K, KX, c⟩ := Y
    have hmg : mg ("law" : PySem.Str) = some (.ref fa) := by
      have e : (HandSHeadRun.topDef (OpenLaw.row PySem.Challenge.rw_handguards_k08_whole_rings_judged).prog 39).name = ("law" : PySem.Str) := by kernel_rfl
      rw [← e]
      exact hmg0
    obtain ⟨fd, hb, hF⟩ := VI.factsH (P := (PySem.Challenge.rw_handguards_k08_whole_rings_judged).prog) (w := w) KX G hmg c
    exact ⟨K, fd, _, KX, hb, fun H a ns hl _ hS => VI.law_sp rfl VI.says_law hl hS, hF⟩
