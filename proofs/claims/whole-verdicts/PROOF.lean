import PyProof.Rows.All
import Wide.All
import OpenK.AllK
import Wide.FinOn
import HandS.Conv
import HandS.DictComp
import HandS.DictTup
import HandS.EndTab
import HandS.ExcField
import HandS.ExcInit
import HandS.ExcIs
import HandS.ForExc
import HandS.ForMost
import HandS.Head0
import HandS.Head1
import HandS.Head2
import HandS.HeadEnd
import HandS.HeadHook1
import HandS.HeadHook2
import HandS.HeadHook3
import HandS.HeadHook4
import HandS.HeadWalk
import HandS.IsInst
import HandS.Lambda
import HandS.Set
import HandS.SetFor
import HandS.SetKeys
import HandS.Strs
import HandS.Style
import KE.GoesEnum
import KE.KDictCopyH
import KE.KDictDisplayH
import KE.KDictKeyed
import KE.KDictSum
import KE.KExcIs
import KE.SortData
import PyProof.EnumMake
import PyProof.ListStr
import PyProof.Transfer
import PySem.Challenge.RW_flagclause_k04_whole_verdicts
set_option Elab.async false
set_option linter.all false
set_option maxRecDepth 100000
set_option maxHeartbeats 4000000
/-! Dicts whose keys are literals, tuples (text, bool). -/
namespace Fk
open PySem PySem.Spec PyProof.Rows L2
abbrev Lt := Str × Bool
/-- a literal's own tuple -/
def litT (l : Lt) : HO := .tup [.str l.1, .bl l.2]
def leafs (l : Lt) : List Leaf := [.text l.1, .num (if l.2 then 1 else 0)]
theorem leafs_inj {a b : Lt} (h : leafs a = leafs b) : a = b := by
  obtain ⟨x, s⟩ := a
  obtain ⟨y, t⟩ := b
  simp only [leafs, List.cons.injEq, Leaf.text.injEq, Leaf.num.injEq, and_true] at h
  obtain ⟨rfl, h⟩ := h
  cases s <;> cases t <;> simp at h <;> rfl
/-- a key, where its tuple stands, a value -/
abbrev LE := Lt × Addr × V
abbrev RowR (p : LE) (q : List Leaf × Addr × Value) : Prop := q.1 = leafs p.1 ∧ q.2.1 = p.2.1 ∧ RelV p.2.2 q.2.2
/-- a dict with literals as keys -/
def ldO (P : Program) (w : World) (a : Addr) (xs : List LE) : HO := .ext fun h => xs.length ≤ sizeLine ∧ (a == sysModules) = false ∧ ∃ ys : List (List Leaf × Addr × Value), Paired RowR xs ys ∧
  ∃ o es ep, h.get? a = some o ∧ o.ExactDict ∧ o.data = .dict es ep ∧ es.toList = ys.map (entryOfKey (tupleKind (leafKind P w))) ∧ (ys.map (·.1)).Nodup
def KeysAt (H : Hp) (xs : List LE) : Prop := ∀ x ∈ xs, H x.2.1 = some (litT x.1)
section
variable {P : Program} {w : World} {H : Hp} {h : Heap} {a : Addr} {xs : List LE}
theorem ld_ok (z : xs.length ≤ sizeLine) (hd : (a == sysModules) = false) {ys : List (List Leaf × Addr × Value)} (r : Paired RowR xs ys) {o : Obj} {es : Array DictEntry} {ep : Nat} (h1 : h.get? a = some o) (h2 : o.ExactDict) (h3 : o.data = .dict es ep)
    (h4 : es.toList = ys.map (entryOfKey (tupleKind (leafKind P w)))) (h5 : (ys.map (·.1)).Nodup) : ObjOk P w H h a (ldO P w a xs) :=
  ⟨⟨z, hd, ys, r, o, es, ep, h1, h2, h3, h4, h5⟩, ⟨o, h1⟩, fun h1 h2 ⟨z, hd, ys, r, o, es, ep, e1, e2⟩ k => ⟨z, hd, ys, r, o, es, ep, k o e1, e2⟩⟩
/-- a literal's tuple is a key -/
theorem lkey_of {l : Lt} (ok : HOk P w H h) (e : H a = some (litT l)) : (tupleKind (leafKind P w)).is h (leafs l) a := by
  obtain ⟨_, its, r, o, h1, h2, n, h3⟩ := (show ObjOk P w H h a (.tup [.str l.1, .bl l.2]) from ok a _ e)
  refine ⟨o, its.toArray, n, h1, h2, h3, ?_⟩
  cases r with
  | cons r1 r =>
    cases r with
    | cons r2 r =>
      cases r
      obtain ⟨t, rfl⟩ := r1
      obtain rfl : _ = Value.bool l.2 := r2
      have e1 : (leafKind P w).is (.text l.1) (.str l.1 t) = true := by
        show (l.1 == l.1) = true
        simp
      have e2 : (leafKind P w).is (.num (if l.2 then 1 else 0)) (.bool l.2) = true := by cases l.2 <;> rfl
      exact .cons e1 (.cons e2 .nil)
theorem ld_of (ok : HOk P w H h) (e : Rd H a (ldO P w a xs)) (k : KeysAt H xs) : xs.length ≤ sizeLine ∧ (a == sysModules) = false ∧ ∃ ys, Paired RowR xs ys ∧ h.DictOfH (tupleKind (leafKind P w)) a ys := by
  obtain ⟨⟨z, hd, ys, r, o, es, ep, h1, h2, h3, h4, h5⟩, _⟩ := (show ObjOk P w H h a (ldO P w a xs) from rd_of ok e)
  refine ⟨z, hd, ys, r, o, es, ep, h1, h2, h3, h4, fun x hx => ?_, h5⟩
  have all : ∀ {l : List LE} {m : List (List Leaf × Addr × Value)}, Paired RowR l m → KeysAt H l → ∀ x ∈ m, (tupleKind (leafKind P w)).is h x.1 x.2.1 := by
    intro l m q
    induction q with
    | nil => intro _ x hx; exact nomatch hx
    | @cons p q ps qs hq t ih =>
      intro k x hx
      rcases List.mem_cons.mp hx with e | hx
      · subst e
        rw [hq.1, hq.2.1]
        exact lkey_of ok (k p (by simp))
      · exact ih (fun y hy => k y (by simp [hy])) x hx
  exact all r k x hx
end
/-! ### look-ups -/
def lval (xs : List LE) (l : Lt) : Option V := (xs.find? fun x => decide (x.1 = l)).map (·.2.2)
theorem lval_nil (l : Lt) : lval [] l = none := rfl
theorem lval_cons (x : LE) (xs : List LE) (l : Lt) : lval (x :: xs) l = if x.1 = l then some x.2.2 else lval xs l := by
  unfold lval
  rw [List.find?_cons]
  by_cases e : x.1 = l
  · simp [e]
  · simp [e]
theorem row_val {xs : List LE} {ys : List (List Leaf × Addr × Value)} (r : Paired RowR xs ys) (l : Lt) : RelO (lval xs l) ((atKey ys (leafs l)).map (·.2)) := by
  induction r with
  | nil => exact trivial
  | @cons p q ps qs hq t ih =>
    rw [lval_cons]
    obtain ⟨h1, h2, h3⟩ := hq
    by_cases e : p.1 = l
    · rw [if_pos e]
      have : atKey (q :: qs) (leafs l) = some q.2 := by
        unfold atKey
        rw [List.find?_cons]
        simp [h1, e]
      rw [this]
      exact h3
    · rw [if_neg e]
      have : atKey (q :: qs) (leafs l) = atKey qs (leafs l) := by
        unfold atKey
        rw [List.find?_cons]
        have hne : ¬ leafs p.1 = leafs l := fun z => e (leafs_inj z)
        simp [h1, hne]
      rw [this]
      exact ih
/-- the store: in its place, or at the end -/
def lput (xs : List LE) (l : Lt) (b : Addr) (v : V) : List LE := if (lval xs l).isSome then xs.map (fun x => if x.1 = l then (x.1, x.2.1, v) else x) else xs ++ [(l, b, v)]
theorem lput_new {xs : List LE} {l : Lt} {b : Addr} {v : V} (h : lval xs l = none) : lput xs l b v = xs ++ [(l, b, v)] := by
  unfold lput
  rw [h]
  rfl
theorem length_lput (xs : List LE) (l : Lt) (b : Addr) (v : V) : (lput xs l b v).length ≤ xs.length + 1 := by
  unfold lput
  split
  · simp
  · simp
theorem lval_map (l j : Lt) (v : V) : ∀ xs : List LE, lval (xs.map fun x => if x.1 = l then (x.1, x.2.1, v) else x) j = (lval xs j).map fun u => if j = l then v else u
  | [] => rfl
  | x :: xs => by
    rw [List.map_cons, lval_cons, lval_cons, lval_map l j v xs]
    by_cases e : x.1 = l
    · rw [if_pos e]
      by_cases e2 : x.1 = j
      · rw [if_pos e2, if_pos e2]
        have : j = l := e2.symm.trans e
        simp [this]
      · rw [if_neg e2, if_neg e2]
    · rw [if_neg e]
      by_cases e2 : x.1 = j
      · rw [if_pos e2]
        have : ¬ j = l := fun z => e (e2.trans z)
        simp [this, e2]
      · rw [if_neg e2, if_neg e2]
theorem lval_append (xs ys : List LE) (j : Lt) : lval (xs ++ ys) j = (lval xs j).or (lval ys j) := by
  unfold lval
  rw [List.find?_append]
  cases xs.find? fun x => decide (x.1 = j) <;> rfl
theorem lval_lput (xs : List LE) (l j : Lt) (b : Addr) (v : V) : lval (lput xs l b v) j = if j = l then some v else lval xs j := by
  unfold lput
  cases h : lval xs l with
  | some u =>
    show lval (xs.map _) j = _
    rw [lval_map]
    by_cases e : j = l
    · subst e; rw [h]; simp
    · rw [if_neg e]
      cases lval xs j <;> simp [e]
  | none =>
    show lval (xs ++ [(l, b, v)]) j = _
    rw [lval_append, lval_cons]
    by_cases e : j = l
    · subst e; rw [h]; simp
    · have e' : ¬ l = j := fun z => e z.symm
      simp only [e', e, if_false, lval_nil]
      cases lval xs j <;> rfl
theorem row_put {xs : List LE} {ys : List (List Leaf × Addr × Value)} (r : Paired RowR xs ys) (l : Lt) (b : Addr) {v : V} {u : Value} (rv : RelV v u) : Paired RowR (lput xs l b v) (storedH ys (leafs l) b u) := by
  have ha : (atKey ys (leafs l)).isSome = (lval xs l).isSome := by
    have := (row_val r l).isSome_eq
    rw [Option.isSome_map] at this
    exact this.symm
  have rep : ∀ {xs : List LE} {ys : List (List Leaf × Addr × Value)}, Paired RowR xs ys → Paired RowR (xs.map fun x => if x.1 = l then (x.1, x.2.1, v) else x) (ys.map (putAt (leafs l) u)) := by
    intro xs ys r
    induction r with
    | nil => exact .nil
    | @cons p q ps qs hq t ih =>
      obtain ⟨h1, h2, h3⟩ := hq
      refine .cons ?_ ih
      show RowR (if p.1 = l then (p.1, p.2.1, v) else p) (if q.1 = leafs l then (q.1, q.2.1, u) else q)
      by_cases e : p.1 = l
      · rw [if_pos e, if_pos (by rw [h1, e])]
        exact ⟨h1, h2, rv⟩
      · rw [if_neg e, if_neg (by rw [h1]; exact fun z => e (leafs_inj z))]
        exact ⟨h1, h2, h3⟩
  have app : ∀ {xs : List LE} {ys : List (List Leaf × Addr × Value)}, Paired RowR xs ys → Paired RowR (xs ++ [(l, b, v)]) (ys ++ [(leafs l, b, u)]) := by
    intro xs ys r
    induction r with
    | nil => exact .cons ⟨rfl, rfl, rv⟩ .nil
    | cons hq t ih => exact .cons hq ih
  unfold lput storedH
  rw [ha]
  split
  · exact rep r
  · exact app r
theorem keys_lput {H : Hp} {xs : List LE} {l : Lt} {b : Addr} {v : V} (k : KeysAt H xs) (hb : H b = some (litT l)) : KeysAt H (lput xs l b v) := by
  intro x hx
  unfold lput at hx
  split at hx
  · obtain ⟨y, hy, rfl⟩ := List.mem_map.mp hx
    split
    · exact k y hy
    · exact k y hy
  · rcases List.mem_append.mp hx with hx | hx
    · exact k x hx
    · simp at hx
      subst hx
      exact hb
theorem KeysAt.keep {H H' : Hp} {xs : List LE} (k : KeysAt H xs) (s : ∀ b ys, H b = some (.tup ys) → H' b = some (.tup ys)) : KeysAt H' xs := fun x hx => s _ _ (k x hx)
/-! ### the operations -/
/-- at a: the dict xs, its keys' tuples stand -/
def LdAt (P : Program) (w : World) (H : Hp) (a : Addr) (xs : List LE) : Prop := Rd H a (ldO P w a xs) ∧ KeysAt H xs
section
variable {X : Cx} {pins : List (Addr × Obj)} {σ : L2.St} {H : Hp} {s : Shared} {a b : Addr} {v : V} {l : Lt} {xs : List LE} {u r : Value} {A : Around} {E : Value → Shared → Prop}
theorem ld_getItem {Q : Value → Shared → Prop} (hu : A.units + 1 < cLine) (I : Inv X pins σ H s) (g : LdAt X.prog X.w H a xs) (hb : H b = some (litT l)) (hv : lval xs l = some v) (h : ∀ w' s', Inv X pins σ H s' → L2.RelV v w' → Q w' s') :
    wpAny (model X.prog X.w) A (getItem (.ref a) (.ref b)) Q E s := by
  obtain ⟨z, hd, ys, rel, dd⟩ := ld_of I.hok g.1 g.2
  obtain ⟨w', hw, rw'⟩ := RelO.some_of (v := v) (o := (atKey ys (leafs l)).map (·.2)) (by rw [← hv]; exact row_val rel l)
  obtain ⟨p, hp, hp2⟩ := Option.map_eq_some_iff.mp hw
  refine wpAny_getItem_heap (tupleKind_room_in1 hu) (lkey_of I.hok hb) dd hp ?_
  rw [hp2]
  exact h w' _ (I.tok _) rw'
theorem ld_in {Q : Value → Shared → Prop} (hu : A.units + 1 < cLine) (I : Inv X pins σ H s) (g : LdAt X.prog X.w H a xs) (hb : H b = some (litT l)) (h : ∀ s', Inv X pins σ H s' → Q (.bool (lval xs l).isSome) s') :
    wpAny (model X.prog X.w) A (compareOp .In (.ref b) (.ref a)) Q E s := by
  obtain ⟨z, hd, ys, rel, dd⟩ := ld_of I.hok g.1 g.2
  refine wpAny_in_heap (tupleKind_room_in1 hu) (lkey_of I.hok hb) hd dd ?_
  have q := (row_val rel l).isSome_eq
  rw [Option.isSome_map] at q
  rw [← q]
  exact h _ (I.tok _)
theorem ld_notIn {Q : Value → Shared → Prop} (hu : A.units + 1 < cLine) (I : Inv X pins σ H s) (g : LdAt X.prog X.w H a xs) (hb : H b = some (litT l)) (h : ∀ s', Inv X pins σ H s' → Q (.bool (!(lval xs l).isSome)) s') :
    wpAny (model X.prog X.w) A (compareOp .NotIn (.ref b) (.ref a)) Q E s := by
  obtain ⟨z, hd, ys, rel, dd⟩ := ld_of I.hok g.1 g.2
  refine wpAny_notIn_heap (tupleKind_room_in1 hu) (lkey_of I.hok hb) hd dd ?_
  have q := (row_val rel l).isSome_eq
  rw [Option.isSome_map] at q
  rw [← q]
  exact h _ (I.tok _)
theorem mut_ld {P : Program} {w : World} : Mut (some (ldO P w a xs)) := True.intro
theorem ld_setItem {Q : Unit → Shared → Prop} (hu : A.units + 1 < cLine) (I : Inv X pins σ H s) (e : H a = some (ldO X.prog X.w a xs)) (k : KeysAt H xs) (hb : H b = some (litT l)) (hl : xs.length < sizeLine) (rv : L2.RelV v r)
    (h : ∀ s', Inv X pins σ (upd H a (ldO X.prog X.w a (lput xs l b v))) s' → Q () s') :
    wpAny (model X.prog X.w) A (setItem (.ref a) (.ref b) r) Q E s := by
  obtain ⟨z, hd, ys, rel, dd⟩ := ld_of I.hok (.inl e) k
  have hz : ys.length ≤ sizeLine := by rw [← Paired.length rel]; exact z
  have hl' : (lput xs l b v).length ≤ sizeLine := by have := length_lput xs l b v; omega
  refine wpAny_setItem_heap (hsz := hz) (tupleKind_room_in1 hu) (lkey_of I.hok hb) dd fun h' dd' hs => h _ ?_
  obtain ⟨q, es, ep, hq, h2, h3, h4, _, h5⟩ := dd'
  exact d_write I (by rw [e]; exact mut_ld) hs ⟨q, hq⟩ (ld_ok hl' hd (row_put rel l b rv) hq h2 h3 h4 h5)
theorem ld_dictSet {Q : Unit → Shared → Prop} (hu : A.units < cLine) (I : Inv X pins σ H s) (e : H a = some (ldO X.prog X.w a xs)) (k : KeysAt H xs) (hb : H b = some (litT l)) (hl : xs.length < sizeLine) (rv : L2.RelV v r)
    (h : ∀ s', Inv X pins σ (upd H a (ldO X.prog X.w a (lput xs l b v))) s' → Q () s') :
    wpAny (model X.prog X.w) A (dictSet a (.ref b) r) Q E s := by
  obtain ⟨z, hd, ys, rel, dd⟩ := ld_of I.hok (.inl e) k
  have hz : ys.length ≤ sizeLine := by rw [← Paired.length rel]; exact z
  have hl' : (lput xs l b v).length ≤ sizeLine := by have := length_lput xs l b v; omega
  refine wpAny_dictSet_heap (hsz := hz) hu (lkey_of I.hok hb) dd fun h' dd' hs => h _ ?_
  obtain ⟨q, es, ep, hq, h2, h3, h4, _, h5⟩ := dd'
  exact d_write I (by rw [e]; exact mut_ld) hs ⟨q, hq⟩ (ld_ok hl' hd (row_put rel l b rv) hq h2 h3 h4 h5)
theorem ld_get2 {d : V} {Q : Value → Shared → Prop} (hu : A.units + 1 < cLine) (I : Inv X pins σ H s) (g : LdAt X.prog X.w H a xs) (hb : H b = some (litT l)) (rd : L2.RelV d r) (h : ∀ w' s', Inv X pins σ H s' → L2.RelV ((lval xs l).getD d) w' → Q w' s') :
    wpAny (model X.prog X.w) A (call (.builtin "dict.get") [.ref a, .ref b, r]) Q E s := by
  obtain ⟨z, hd, ys, rel, dd⟩ := ld_of I.hok g.1 g.2
  exact call_meetsIn PySem.F.slot_dict_get dd.typeIs PySem.F.entry_dict_get (PySem.F.args_dict_get_3 _ _ _) (meetsH_dict_get_default (tupleKind (leafKind X.prog X.w)) a b hd r) ⟨tupleKind_room_in1 hu, leafs l, ys, lkey_of I.hok hb, dd, h _ _ (I.tok _) ((row_val rel l).getD rd)⟩
theorem ld_get1 {Q : Value → Shared → Prop} (hu : A.units + 1 < cLine) (I : Inv X pins σ H s) (g : LdAt X.prog X.w H a xs) (hb : H b = some (litT l)) (h : ∀ w' s', Inv X pins σ H s' → L2.RelV ((lval xs l).getD .non) w' → Q w' s') :
    wpAny (model X.prog X.w) A (call (.builtin "dict.get") [.ref a, .ref b]) Q E s := by
  obtain ⟨z, hd, ys, rel, dd⟩ := ld_of I.hok g.1 g.2
  exact call_meetsIn PySem.F.slot_dict_get dd.typeIs PySem.F.entry_dict_get (PySem.F.args_dict_get_2 _ _) (meetsH_dict_get (tupleKind (leafKind X.prog X.w)) a b hd) ⟨tupleKind_room_in1 hu, leafs l, ys, lkey_of I.hok hb, dd, h _ _ (I.tok _) ((row_val rel l).getD rfl)⟩
theorem ld_type (I : Inv X pins σ H s) (g : LdAt X.prog X.w H a xs) : s.TypeIs (.ref a) "dict" ∧ ∀ b, Value.ref a = .ref b → ∃ ob, s.heap.get? b = some ob ∧ ob.dict = none := by
  obtain ⟨z, hd, ys, rel, dd⟩ := ld_of I.hok g.1 g.2
  refine ⟨dd.typeIs, fun b q => ?_⟩
  cases q
  obtain ⟨ob, _, _, h1, h2, _⟩ := dd
  exact ⟨ob, h1, h2.2.1⟩
end
theorem ld_empty {P : Program} {w : World} {H : Hp} (h : Heap) (hb : sysModules < h.objs.size) : ObjOk P w H (h.push { cls := .type "dict", data := .dict #[] }) h.objs.size (ldO P w h.objs.size []) :=
  ld_ok (Nat.zero_le _) (beq_eq_false_iff_ne.mpr (Ne.symm (Nat.ne_of_lt hb))) .nil (Heap.get?_push_size _ rfl) ⟨rfl, rfl, rfl⟩ rfl rfl List.nodup_nil
/-! ### readings and rules -/
section
/-- d[y] -/
def tLGet (P : Program) (w : World) (td ty : TE) : TE := fun σ H Q => td σ H fun x H1 => ty σ H1 fun y H2 => ∃ a b l xs v, x = .ref a ∧ y = .ref b ∧ LdAt P w H2 a xs ∧ H2 b = some (litT l) ∧ lval xs l = some v ∧ Q v H2
def tLIn (P : Program) (w : World) (ty td : TE) : TE := fun σ H Q => ty σ H fun y H1 => td σ H1 fun x H2 => ∃ a b l xs, x = .ref a ∧ y = .ref b ∧ LdAt P w H2 a xs ∧ H2 b = some (litT l) ∧ Q (.bl (lval xs l).isSome) H2
def tLNotIn (P : Program) (w : World) (ty td : TE) : TE := fun σ H Q => ty σ H fun y H1 => td σ H1 fun x H2 => ∃ a b l xs, x = .ref a ∧ y = .ref b ∧ LdAt P w H2 a xs ∧ H2 b = some (litT l) ∧ Q (.bl (!(lval xs l).isSome)) H2
def sLPut (P : Program) (w : World) (td ty tv : TE) : TS := fun D σ H => tv σ H fun v H1 => td σ H1 fun x H2 => ty σ H2 fun y H3 => ∃ a b l xs, x = .ref a ∧ y = .ref b ∧ H3 a = some (ldO P w a xs) ∧ KeysAt H3 xs ∧ H3 b = some (litT l) ∧ xs.length < sizeLine ∧
  D.nx σ (upd H3 a (ldO P w a (lput xs l b v)))
def tLGet1 (P : Program) (w : World) (td ty : TE) : TE := fun σ H Q => td σ H fun x H1 => ∃ a xs, x = .ref a ∧ LdAt P w H1 a xs ∧ ty σ H1 fun y H2 => ∃ b l xs, y = .ref b ∧ LdAt P w H2 a xs ∧ H2 b = some (litT l) ∧ Q ((lval xs l).getD .non) H2
def tLGet2 (P : Program) (w : World) (td ty tx : TE) : TE := fun σ H Q => td σ H fun x H1 => ∃ a xs, x = .ref a ∧ LdAt P w H1 a xs ∧ ty σ H1 fun y H2 => tx σ H2 fun z H3 => ∃ b l xs, y = .ref b ∧ LdAt P w H3 a xs ∧ H3 b = some (litT l) ∧ Q ((lval xs l).getD z) H3
variable {X : Cx} {o i e f value : Expr} {pos pos' tpos apos cpos : Pos} {td ty tv tx : TE}
theorem pe_lget (hu : X.A.units + 1 < cLine) (ho : PE X o td) (hi : PE X i ty) (hs : NoSl i) : PE X (.Subscript o i pos) (tLGet X.prog X.w td ty) := by
  refine ⟨fun pins s σ H Q I h => ?_⟩
  refine subD_of PySem.F.slot_dict_getitem.lookup hs (thn (ho.run pins s σ H _ I h) fun u s1 ⟨x, H1, I1, rx, q1⟩ => thn (hi.run pins s1 σ H1 _ I1 q1) fun iv s2 ⟨y, H2, I2, ry, a, b, l, xs, v, ex, ey, g, hb, hv, q2⟩ => ?_)
  subst ex ey
  obtain rfl : u = Value.ref a := rx
  obtain rfl : iv = Value.ref b := ry
  exact ⟨(ld_type I2 g).1, ld_getItem hu I2 g hb hv fun w' s3 I3 rw' => ⟨v, H2, I3, rw', q2⟩⟩
theorem pc_lin (hu : X.A.units + 1 < cLine) (hi : PE X i ty) (ho : PE X o td) : PC X .In i o (tLIn X.prog X.w ty td) := by
  refine ⟨fun pins s σ H Q I h => ?_⟩
  refine thn (hi.run pins s σ H _ I h) fun iv s1 ⟨y, H1, I1, ry, q1⟩ => thn (ho.run pins s1 σ H1 _ I1 q1) fun u s2 ⟨x, H2, I2, rx, a, b, l, xs, ex, ey, g, hb, q2⟩ => ?_
  subst ex ey
  obtain rfl : u = Value.ref a := rx
  obtain rfl : iv = Value.ref b := ry
  exact ld_in hu I2 g hb fun s3 I3 => ⟨.bl _, H2, I3, rfl, q2⟩
theorem pc_lnotin (hu : X.A.units + 1 < cLine) (hi : PE X i ty) (ho : PE X o td) : PC X .NotIn i o (tLNotIn X.prog X.w ty td) := by
  refine ⟨fun pins s σ H Q I h => ?_⟩
  refine thn (hi.run pins s σ H _ I h) fun iv s1 ⟨y, H1, I1, ry, q1⟩ => thn (ho.run pins s1 σ H1 _ I1 q1) fun u s2 ⟨x, H2, I2, rx, a, b, l, xs, ex, ey, g, hb, q2⟩ => ?_
  subst ex ey
  obtain rfl : u = Value.ref a := rx
  obtain rfl : iv = Value.ref b := ry
  exact ld_notIn hu I2 g hb fun s3 I3 => ⟨.bl _, H2, I3, rfl, q2⟩
theorem ps_lput (hu : X.A.units + 1 < cLine) (ho : PE X o td) (hi : PE X i ty) (hv : PE X value tv) (hs : swapsWith value (some (.Subscript o i pos')) pos.line X.env = pure false) :
    PS X (.Assign [.Subscript o i pos'] value pos) (sLPut X.prog X.w td ty tv) := by
  refine ⟨fun pins s σ H D I h => ?_⟩
  refine wpAny_Assign_Subscript (thn (hv.run pins s σ H _ I h) fun r s1 ⟨v, H1, I1, rv, q1⟩ => thn (ho.run pins s1 σ H1 _ I1 q1) fun u s2 ⟨x, H2, I2, rx, q2⟩ => thn (hi.run pins s2 σ H2 _ I2 q2) fun iv s3 ⟨y, H3, I3, ry, a, b, l, xs, ex, ey, g, k, hb, hl, q3⟩ => ?_) hs
  subst ex ey
  obtain rfl : u = Value.ref a := rx
  obtain rfl : iv = Value.ref b := ry
  exact ld_setItem hu I3 g k hb hl rv fun s4 I4 => ⟨σ, _, I4, q3⟩
theorem pe_lget1 (hu : X.A.units + 1 < cLine) (ho : PE X o td) (he : PE X e ty) (m : M1 X o "get" apos e cpos) : PE X (.Call (.Attribute o "get" apos) [e] [] cpos) (tLGet1 X.prog X.w td ty) := by
  refine ⟨fun pins s σ H Q I h => ?_⟩
  refine wpAny_Call_method m.base m.few m.line PySem.F.plainAttrs_dict PySem.F.slot_dict_get PySem.F.type_dict_get (thn (ho.run pins s σ H _ I h) fun u s1 ⟨x, H1, I1, rx, a, xs, ex, d, q1⟩ => ?_)
  subst ex
  obtain rfl : u = Value.ref a := rx
  obtain ⟨t1, t2⟩ := ld_type I1 d
  refine ⟨t1, t2, ?_⟩
  rw [m.trees]
  refine Calls.callWith_builtin rfl (Calls.evalArgs_plain (Calls.spliced_cons (thn (he.run pins s1 σ H1 _ I1 q1) fun iv s2 ⟨y, H2, I2, ry, b, l, xs, ey, g, hb, q2⟩ => Calls.spliced_nil ?_)))
  subst ey
  obtain rfl : iv = Value.ref b := ry
  exact ld_get1 hu I2 g hb fun w' s3 I3 rw' => ⟨_, H2, I3, rw', q2⟩
theorem pe_lget2 (hu : X.A.units + 1 < cLine) (ho : PE X o td) (he : PE X e ty) (hf : PE X f tx) (m : M2 X o "get" apos e f cpos) : PE X (.Call (.Attribute o "get" apos) [e, f] [] cpos) (tLGet2 X.prog X.w td ty tx) := by
  refine ⟨fun pins s σ H Q I h => ?_⟩
  refine wpAny_Call_method m.base m.few m.line PySem.F.plainAttrs_dict PySem.F.slot_dict_get PySem.F.type_dict_get (thn (ho.run pins s σ H _ I h) fun u s1 ⟨x, H1, I1, rx, a, xs, ex, d, q1⟩ => ?_)
  subst ex
  obtain rfl : u = Value.ref a := rx
  obtain ⟨t1, t2⟩ := ld_type I1 d
  refine ⟨t1, t2, ?_⟩
  rw [m.trees]
  refine Calls.callWith_builtin rfl (Calls.evalArgs_plain (Calls.spliced_cons (thn (he.run pins s1 σ H1 _ I1 q1) fun iv s2 ⟨y, H2, I2, ry, q2⟩ =>
    Calls.spliced_cons (thn (hf.run pins s2 σ H2 _ I2 q2) fun fv s3 ⟨z, H3, I3, rz, b, l, xs, ey, g, hb, q3⟩ => Calls.spliced_nil ?_))))
  subst ey
  obtain rfl : iv = Value.ref b := ry
  exact ld_get2 hu I3 g hb rz fun w' s4 I4 rw' => ⟨_, H3, I4, rw', q3⟩
/-- {} -/
def tLNew (P : Program) (w : World) : TE := fun _ H Q => ∀ p, H p = none → Q (.ref p) (upd H p (ldO P w p []))
theorem pe_lnew : PE X (.Dict [] [] pos) (tLNew X.prog X.w) := ⟨fun pins s σ H Q I h =>
  wpAny_Dict_empty ⟨.ref s.heap.objs.size, _, I.laid (a := s.heap.objs.size) (o := ldO X.prog X.w s.heap.objs.size []) (t' := s.toks) (fun _ _ q => Heap.get?_push_of_some _ q) (Nat.le_refl _) (ld_empty s.heap I.big), rfl, h _ (I.hok.fresh (Nat.le_refl _))⟩⟩
/-- {k: v} -/
def tLOne (P : Program) (w : World) (tk tv : TE) : TE := fun σ H Q => ∀ p, H p = none → tk σ (upd H p (ldO P w p [])) fun y H1 => tv σ H1 fun v H2 => H2 p = some (ldO P w p []) ∧ ∃ b l, y = .ref b ∧ H2 b = some (litT l) ∧ Q (.ref p) (upd H2 p (ldO P w p [(l, b, v)]))
/-- a display of one pair -/
theorem pe_lone {k value : Expr} {tk : TE} (hu : X.A.units < cLine) (hk : PE X k tk) (hv : PE X value tv) : PE X (.Dict [some k] [value] pos) (tLOne X.prog X.w tk tv) := by
  refine ⟨fun pins s σ H Q I q => ?_⟩
  have hn := I.hok.fresh (Nat.le_refl s.heap.objs.size)
  have I1 := I.laid (a := s.heap.objs.size) (o := ldO X.prog X.w s.heap.objs.size []) (h' := s.heap.push { cls := .type "dict", data := .dict #[] }) (t' := s.toks) (fun _ _ q => Heap.get?_push_of_some _ q) (Nat.le_refl _) (ld_empty s.heap I.big)
  have sh := zip_pairTrees [some k] [value] X.env pos rfl rfl
  rw [arm_eval_Dict, sh, dictDisplay_pairs (pairTrees [some k] [value] X.env pos) (by intro z; cases z) (by show 1 < 17; decide)]
  refine wpAny_bind (wpAny_standAt (wpAny_bind (wpAny_subDictH (knd := tupleKind (leafKind X.prog X.w)) (Q := fun d s' => wpAny (model X.prog X.w) X.A (pure (Value.ref d)) (EP X pins σ Q) X.xe s') hu (by show 1 ≤ 15; decide) ?_)))
  refine pairTrees_cons_walk (thn (hk.run pins _ σ _ _ I1 (q _ hn)) fun kv s2 ⟨y, H2, I2, ry, q2⟩ => thn (hv.run pins s2 σ H2 _ I2 q2) fun vv s3 ⟨v, H3, I3, rv, e, b, l, ey, hb, q3⟩ => pairTrees_nil_walk ?_)
  subst ey
  obtain rfl : kv = Value.ref b := ry
  obtain ⟨z, hd, ys, r0, dd⟩ := ld_of I3.hok (.inl e) (fun x hx => nomatch hx)
  cases r0
  refine ⟨[(leafs l, b, vv)], ⟨rfl, rfl, lkey_of I3.hok hb, trivial⟩, dd, fun h' tk dd' hs => wpAny_pure ?_⟩
  obtain ⟨ob, es, ep, hq, h2, h3, h4, _, h5⟩ := dd'
  have I4 : Inv X pins σ (upd H3 s.heap.objs.size (ldO X.prog X.w s.heap.objs.size [(l, b, v)])) { s3 with heap := h', toks := tk } :=
    d_write I3 (by rw [e]; exact mut_ld) hs ⟨ob, hq⟩ (ld_ok (by show 1 ≤ sizeLine; rw [sizeLine_eq]; decide) hd (.cons ⟨rfl, rfl, rv⟩ .nil) hq h2 h3 h4 h5)
  exact ⟨.ref s.heap.objs.size, _, I4, rfl, q3⟩
end
end Fk
/-! Walks of dicts keyed by literals; dict comprehensions that make such dicts. -/
namespace Fk
open PySem PySem.Spec PyProof.Rows L2
section
variable {X : Cx} {pins : List (Addr × Obj)} {σ : L2.St} {H : Hp} {s : Shared} {d : Addr} {o : Obj}
theorem frzL {xs : List LE} (I : Inv X pins σ H s) (h : H d = some (.frz o (ldO X.prog X.w d xs))) :
    (d == sysModules) = false ∧ s.heap.get? d = some o ∧ o.ExactDict ∧ ∃ (es : Array DictEntry) (ep : Nat), o.data = .dict es ep ∧ es.size = xs.length ∧
      ∀ (i : Nat) (x : LE), xs[i]? = some x → ∃ en : DictEntry, es[i]? = some en ∧ en.key = .ref x.2.1 ∧ L2.RelV x.2.2 en.val := by
  obtain ⟨hd, ⟨z, hs, ys, pr, o', es, ep, ho, hx, hdt, he, _⟩, _⟩ := I.hok d _ h
  rw [hd] at ho
  cases ho
  refine ⟨hs, hd, hx, es, ep, hdt, ?_, fun i x e => ?_⟩
  · have l1 : es.size = ys.length := size_of_entries he
    have l2 : xs.length = ys.length := Paired.length pr
    omega
  · obtain ⟨b, hb, e1, e2, e3⟩ := paired_get pr e
    have q := entry_at he i
    rw [hb] at q
    exact ⟨_, q, by rw [← e2]; rfl, e3⟩
end
/-- the keys of the locked dict at d: their own tuples -/
def ItKL (P : Program) (w : World) (d : Addr) (o : Obj) (xs : List LE) : It :=
  ⟨fun i H => H d = some (.frz o (ldO P w d xs)) ∧ i < xs.length, fun i H x H' => H' = H ∧ ∃ e : LE, xs[i]? = some e ∧ x = .ref e.2.1, fun i H => H d = some (.frz o (ldO P w d xs)) ∧ xs.length ≤ i⟩
/-- the pairs, each a new tuple -/
def ItIL (P : Program) (w : World) (d : Addr) (o : Obj) (xs : List LE) : It :=
  ⟨fun i H => H d = some (.frz o (ldO P w d xs)) ∧ i < xs.length, fun i H x H' => ∃ (T : Addr) (e : LE), xs[i]? = some e ∧ x = .ref T ∧ H T = none ∧ H' = upd H T (.tup [.ref e.2.1, e.2.2]), fun i H => H d = some (.frz o (ldO P w d xs)) ∧ xs.length ≤ i⟩
section
variable {P : Program} {w : World} {K : PySem.W.Frag} {tg : Expr} {d : Addr} {o : Obj} {es : Array DictEntry} {ep : Nat}
theorem turn_keysL {xs : List LE} (it : Addr) (hod : o.data = .dict es ep) : Turn P w K tg (ItKL P w d o xs) [it] it (fun i h => h.IsKeyIter it d i xs.length ep) where
  mem := by simp
  obj := fun i h st b hb => by
    have e : b = it := by simpa using hb
    subst e
    obtain ⟨oi, e, c, dd⟩ := st
    exact ⟨oi, e, fun v z => by rw [dd] at z; cases z⟩
  keep := fun i h h' st k => st.at fun oi e => k it (by simp) oi e
  item := by
    intro X hP hw hK hc i pins s σ H E I hf st hg
    subst hP hw hK
    obtain ⟨hd, hi⟩ := hg
    obtain ⟨f0, f1, f2, f3, f4, f5⟩ := hf it (by simp)
    obtain ⟨hs, hgd, hx, es', ep', hdt, hsz, ent⟩ := frzL I hd
    obtain ⟨rfl, rfl⟩ := dict_ep hod hdt
    obtain ⟨x, hkv⟩ : ∃ p, xs[i]? = some p := ⟨xs[i], List.getElem?_eq_getElem hi⟩
    obtain ⟨en, hen, hkey, _⟩ := ent i x hkv
    refine next_key_item st hgd hdt hsz hen fun h' st' sb => ?_
    have I1 : Inv X pins σ H { s with heap := h' } := I.turned (t' := s.toks) (fun b ob hb e => (sb.2 b hb).trans e) f0 f1 f3 f4 f5
    obtain ⟨oi, e, c, dd⟩ := id st'
    exact ⟨en.key, rfl, go_of (s := { s with heap := h' }) e c dd (by decide) ⟨.ref x.2.1, H, I1, hkey, ⟨rfl, x, hkv, rfl⟩, st', fun b hb => (hf b hb).1⟩⟩
  done := by
    intro X hP hw hK hc i pins s σ H E I hf st hg
    subst hP hw hK
    obtain ⟨hd, hi⟩ := hg
    obtain ⟨f0, f1, f2, f3, f4, f5⟩ := hf it (by simp)
    obtain ⟨hs, hgd, hx, es', ep', hdt, hsz, ent⟩ := frzL I hd
    obtain ⟨rfl, rfl⟩ := dict_ep hod hdt
    exact next_key_end (I.ok.hd hc) st hgd hdt hsz hi fun h' eb => ⟨rfl, I.turned (t' := s.toks) (fun b ob hb e => eb b ob hb e) f0 f1 f3 f4 f5⟩
  self := fun A i s Q E st h => by
    refine wpAny_pyIter_slot st.typeIs F.slot_dict_keyiterator_iter (wpAny_call_entry F.slot_dict_keyiterator_iter st.typeIs F.entry_dict_keyiterator_iter ?_ (F.args_dict_keyiterator_iter_1 _))
    show wpAny _ _ (ret (.ref it)) _ _ s
    exact wpAny_pure ⟨_, rfl, "dict_keyiterator", _, st.typeIs, F.slot_dict_keyiterator_next.lookup, h⟩
theorem turn_itemsL {xs : List LE} {elts : List Expr} {kk : Nat} {tpos : Pos} (it : Addr) (hod : o.data = .dict es ep) :
    Turn P w K (.Tuple elts kk tpos) (ItIL P w d o xs) [it] it (fun i h => ∃ ok ov, IsItemIter h it d i xs.length ep ok ov) where
  mem := by simp
  obj := fun i h st b hb => by
    have e : b = it := by simpa using hb
    subst e
    obtain ⟨ok, ov, e⟩ := st
    exact ⟨_, e, fun v z => nomatch z⟩
  keep := fun i h h' st k => let ⟨ok, ov, e⟩ := st; ⟨ok, ov, k it (by simp) _ e⟩
  item := by
    intro X hP hw hK hc i pins s σ H E I hf st hg
    subst hP hw hK
    obtain ⟨hd, hi⟩ := hg
    obtain ⟨hs, hgd, hx, es', ep', hdt, hsz, ent⟩ := frzL I hd
    obtain ⟨rfl, rfl⟩ := dict_ep hod hdt
    obtain ⟨x, hkv⟩ : ∃ p, xs[i]? = some p := ⟨xs[i], List.getElem?_eq_getElem hi⟩
    obtain ⟨en, hen, hkey, hval⟩ := ent i x hkv
    obtain ⟨ok, ov, he⟩ := st
    rw [← hsz] at he
    have hlt : it < s.heap.objs.size := Heap.lt_size he
    have hi' : i < es'.size := by omega
    have hen' : es'[i] = en := by
      rw [Array.getElem?_eq_getElem hi'] at hen
      exact Option.some.inj hen
    refine DT.nextI he ⟨o, hgd, hx, hdt⟩ hi' fun h' ho hT hz hk => ?_
    refine ⟨_, rfl, wpAny_letOwnedTupleGo_items (s := { s with heap := h' }) ho fun h'' he' sb => ?_⟩
    have hT2 : h''.get? s.heap.objs.size = some { cls := .type "tuple", data := .seq #[es'[i].key, es'[i].val] } := (sb.2 _ (Nat.ne_of_gt hlt)).trans hT
    rw [hen', hkey] at hT2
    have new : ObjOk X.prog X.w (upd H s.heap.objs.size (.tup [.ref x.2.1, x.2.2])) h'' s.heap.objs.size (.tup [.ref x.2.1, x.2.2]) :=
      ⟨by show 2 ≤ sizeLine; decide, [.ref x.2.1, en.val], .cons rfl (.cons hval .nil), ⟨_, hT2, rfl, _, rfl⟩⟩
    have I1 : Inv X pins σ (upd H s.heap.objs.size (.tup [.ref x.2.1, x.2.2])) { s with heap := h'' } :=
      I.turnedNew (t' := s.toks) (ch := [it]) (fun b ob hb e => (sb.2 b (by simpa using hb)).trans (hk b ob (by simpa using hb) e)) hf (Nat.le_refl _) new
    refine ⟨.ref s.heap.objs.size, _, I1, rfl, ⟨_, x, hkv, rfl, I.hok.fresh (Nat.le_refl _), rfl⟩, ⟨es'[i].key, es'[i].val, ?_⟩, fun b hb => ?_⟩
    · rw [← hsz]; exact he'
    · have e : b = it := by simpa using hb
      rw [e, upd_ne (Nat.ne_of_lt hlt)]
      exact (hf it (by simp)).1
  done := by
    intro X hP hw hK hc i pins s σ H E I hf st hg
    subst hP hw hK
    obtain ⟨hd, hi⟩ := hg
    obtain ⟨f0, f1, f2, f3, f4, f5⟩ := hf it (by simp)
    obtain ⟨hs, hgd, hx, es', ep', hdt, hsz, ent⟩ := frzL I hd
    obtain ⟨rfl, rfl⟩ := dict_ep hod hdt
    obtain ⟨ok, ov, he⟩ := st
    rw [← hsz] at he
    exact DT.endI (I.ok.hd hc) he ⟨o, hgd, hx, hdt⟩ (by omega) fun h' eb => ⟨rfl, I.turned (t' := s.toks) (fun b ob hb e => eb b ob hb e) f0 f1 f3 f4 f5⟩
  self := fun A i s Q E st h => let ⟨_, _, e⟩ := st; PySem.W.kcp_self e h
end
/-- for k in d, the dict locked -/
def iKL (P : Program) (w : World) (td : TE) : TI := fun σ H R => td σ H fun x H1 => ∃ d o xs, x = .ref d ∧ H1 d = some (.frz o (ldO P w d xs)) ∧ R (ItKL P w d o xs) H1
def iIL (P : Program) (w : World) (td : TE) : TI := fun σ H R => td σ H fun x H1 => ∃ d o xs, x = .ref d ∧ H1 d = some (.frz o (ldO P w d xs)) ∧ R (ItIL P w d o xs) H1
section
variable {X : Cx} {tg e : Expr} {td : TE} {apos cpos : Pos}
theorem pi_keysL (he : PE X e td) : PI X tg e (iKL X.prog X.w td) := by
  refine ⟨fun pins s σ H R I h => ?_⟩
  refine thn (he.run pins s σ H _ I h) fun u s1 ⟨x, H1, I1, rx, d, o, xs, ex, hd, q⟩ => ?_
  subst ex
  obtain rfl : u = Value.ref d := rx
  obtain ⟨hs, hgd, hx, es, ep, hdt, hsz, ent⟩ := frzL I1 hd
  refine iter_keys hs hgd hx hdt (pi_one (tk := s1.toks) I1 _ (turn_keysL _ hdt) ⟨_, Heap.get?_push_size _ rfl, rfl, ?_⟩ q)
  rw [hsz] <;> rfl
theorem pi_itemsL {elts : List Expr} {kk : Nat} {tpos : Pos} (he : PE X e td) (hbase : attributeBase e "items" X.env (eval e X.env) = eval e X.env := by rfl) (hline : (apos.endLine == cpos.line) = true := by rfl) :
    PI X (.Tuple elts kk tpos) (.Call (.Attribute e "items" apos) [] [] cpos) (iIL X.prog X.w td) := by
  refine ⟨fun pins s σ H R I h => ?_⟩
  refine wpAny_Call_method (T := "dict") (id := "dict.items") hbase rfl hline F.plainAttrs_dict F.slot_dict_items F.type_dict_items (thn (he.run pins s σ H _ I h) fun u s1 ⟨x, H1, I1, rx, d, o, xs, ex, hd, q⟩ => ?_)
  subst ex
  obtain rfl : u = Value.ref d := rx
  obtain ⟨hs, hgd, hx, es, ep, hdt, hsz, ent⟩ := frzL I1 hd
  have raw : DT.Raw s1.heap d es ep := ⟨o, hgd, hx, hdt⟩
  refine ⟨raw.typeIs, fun b q => ?_, ?_⟩
  · cases q
    exact ⟨o, hgd, hx.2.1⟩
  have I2 : Inv X pins σ H1 { s1 with heap := s1.heap.push { cls := .type "dict_items", data := .fields #[.ref d] } } := I1.kept (t' := s1.toks) fun b ob q => Heap.get?_push_of_some _ q
  have fin : wpAny (model X.prog X.w) X.A (pyIter (.ref s1.heap.objs.size)) (PIE X pins σ (.Tuple elts kk tpos) R) X.xe { s1 with heap := s1.heap.push { cls := .type "dict_items", data := .fields #[.ref d] } } := by
    refine DT.iterI (d := d) ⟨_, Heap.get?_push_size _ rfl, rfl, rfl⟩ (raw.push _) (pi_one (tk := s1.toks) I2 _ (turn_itemsL _ hdt) ⟨.none, .none, ?_⟩ q)
    rw [← hsz]
    exact Heap.get?_push_size _ rfl
  show wpAny _ _ (callWith cpos (.builtin "dict.items") [.ref d] [] []) _ X.xe s1
  exact method_meetsIn F.slot_dict_items F.entry_dict_items rfl (PySem.evalArgs_none ⟨rfl, raw.typeIs, F.args_dict_items_1 _, _, DT.meetsItems hs, raw, fin⟩)
end
end Fk
/-! Dict comprehensions whose keys are literals: one clause, two clauses. -/
namespace Fk
open PySem PySem.Spec PyProof.Rows L2
section
variable {X : Cx}
/-- {k: v for target in iter if ..}, keys literals: D the new dict -/
def tDcL (P : Program) (w : World) (wi : TI) (g : TG) (tt : TT) (tk tv : TE) (vs : List Nat) : TE := fun σ H Q => wi σ H fun J H1 => ∀ D, H1 D = none → ∃ W : Nat → Nat → Hp → Prop, (∃ m, W 0 m (upd H1 D (ldO P w D []))) ∧ ∀ i m H, W i m H →
  (J.stop i H ∧ Q (.ref D) H) ∨ (J.go i H ∧ ∃ Nx : Hp → Prop, (∀ H', Nx H' → ∃ m', m' < m ∧ W (i + 1) m' H') ∧ ∀ x H', J.yld i H x H' → g x (wipe σ vs) H' fun σ2 H2 => wipe σ2 vs = wipe σ vs ∧ tt σ2 H2 fun b H3 =>
    if b = true then tk σ2 H3 fun y H4 => tv σ2 H4 fun z H5 => ∃ xs b l, y = .ref b ∧ H5 D = some (ldO P w D xs) ∧ KeysAt H5 xs ∧ H5 b = some (litT l) ∧ xs.length < sizeLine ∧ Nx (upd H5 D (ldO P w D (lput xs l b z))) else Nx H3)
theorem ldc_core {pins : List (Addr × Obj)} {s : Shared} {σ : L2.St} {H : Hp} {Q : VK} {kx vx tg iter : Expr} {ifs : List Expr} {scope : Scope} {own : List (Str × Nat)} {pos pos' : Pos} {wi : TI} {g : TG} {tt : TT} {tk tv : TE} {use : Option (Value → Sem Unit)} {Qf : Value → Shared → Prop}
    (hu : X.A.units < cLine) (hc : X.calm = true) (hN : X.N.Nodup) (I : Inv X pins σ H s) (hi : PI X tg iter wi) (ok : BlkOk X.N X.env.scope scope own)
    (hg : ∀ (s : Shared) (H : Hp) (C : Addr) (cl : List (Str × Addr)) (fp : List Addr), PG (X.blk s H scope (compEnvC scope cl C X.env) fp) tg g) (ht : ∀ (s : Shared) (H : Hp) (C : Addr) (cl : List (Str × Addr)) (fp : List Addr), PTs (X.blk s H scope (compEnvC scope cl C X.env) fp) ifs tt)
    (hk : ∀ (s : Shared) (H : Hp) (C : Addr) (cl : List (Str × Addr)) (fp : List Addr), PE (X.blk s H scope (compEnvC scope cl C X.env) fp) kx tk)
    (he : ∀ (s : Shared) (H : Hp) (C : Addr) (cl : List (Str × Addr)) (fp : List Addr), PE (X.blk s H scope (compEnvC scope cl C X.env) fp) vx tv) (hs : ∀ x, foldedSetIterable iter X.env x = pure x)
    (h : tDcL X.prog X.w wi g tt tk tv (own.map (·.2)) σ H Q)
    (hRR : ∀ D C s' m H', Inv X pins σ H' s' → Q (.ref D) H' → s'.heap.Ns C m → FpOk X pins H' C → compPost (model X.prog X.w) X.A X.xe use Qf (.ref D) C (.ok .next) s') :
    wpAny (model X.prog X.w) X.A (comprehension (.DictComp kx vx [⟨tg, iter, ifs, 0⟩] scope pos) scope X.env pos' newDict false (eval iter X.env) use) Qf X.xe s := by
  have hfree : ∀ y ∈ scope.names, y.2 = .free → ∃ c, X.env.cells.lookup y.1 = some c := fun y hy e => by
    rcases ok.free y hy e with k | k
    · exact I.ok.has _ (.inl k)
    · exact I.ok.has _ (.inr k)
  refine wpAny_comprehension_free (use := use) rfl hs (closure_ok hfree) ok.kind (fun y hy e => by rw [ok.uniq y hy, e])
    (thn (hi.run pins s σ H _ I h) fun xv s1 hx => thn hx fun itv s2 h2 => ?_)
  obtain ⟨it, fp, tn, J, H2, e, I2, T, st2, f2, q⟩ := h2
  subst e
  refine wpAny_newObj_type (newEnv_comp ?_)
  generalize hD : s2.heap.objs.size = D
  have hDn : H2 D = none := I2.hok.fresh (Nat.le_of_eq hD)
  obtain ⟨W, ⟨m0, w0⟩, turn⟩ := q D hDn
  -- the new list
  generalize hs3 : ({ s2 with heap := s2.heap.push { cls := .type "dict", data := .dict #[] } } : Shared) = s3
  have I3 : Inv X pins σ (upd H2 D (ldO X.prog X.w D [])) s3 := by
    rw [← hs3]
    refine I2.laid (t' := s2.toks) (fun b o e => Heap.get?_push_of_some _ e) (Nat.le_of_eq hD) ?_
    rw [← hD]
    exact ld_empty s2.heap I2.big
  have h3 : s3.heap = s2.heap.push { cls := .type "dict", data := .dict #[] } := by rw [← hs3]
  have sz : ∀ b ∈ fp, b < s2.heap.objs.size := fun b hb => by
    obtain ⟨o, e, _⟩ := T.obj _ _ st2 b hb
    exact Heap.lt_size e
  have f3 : ∀ b ∈ fp, FpOk X pins (upd H2 D (ldO X.prog X.w D [])) b ∧ b < s3.heap.objs.size := fun b hb => by
    have hlt := sz b hb
    refine ⟨⟨?_, (f2 b hb).2⟩, by rw [h3, Heap.size_push]; exact Nat.lt_succ_of_lt hlt⟩
    rw [upd_ne (by rw [← hD]; exact Nat.ne_of_lt hlt)]
    exact (f2 b hb).1
  have st3 : tn 0 s3.heap := T.keep _ _ _ st2 fun b _ o e => by rw [h3]; exact Heap.get?_push_of_some _ e
  have I4 := block_start I3 ok hN f3
  have pg := hg s3 (upd H2 D (ldO X.prog X.w D [])) s3.heap.objs.size (cellsFrom (s3.heap.objs.size + 1) scope.names (cloFrom X.env.cells scope.names [])) fp
  have pt := ht s3 (upd H2 D (ldO X.prog X.w D [])) s3.heap.objs.size (cellsFrom (s3.heap.objs.size + 1) scope.names (cloFrom X.env.cells scope.names [])) fp
  have pk := hk s3 (upd H2 D (ldO X.prog X.w D [])) s3.heap.objs.size (cellsFrom (s3.heap.objs.size + 1) scope.names (cloFrom X.env.cells scope.names [])) fp
  have pe := he s3 (upd H2 D (ldO X.prog X.w D [])) s3.heap.objs.size (cellsFrom (s3.heap.objs.size + 1) scope.names (cloFrom X.env.cells scope.names [])) fp
  show codeAny _ _ (.compStart (.DictComp kx vx [⟨tg, iter, ifs, 0⟩] scope pos) 0 (.ref it) (.ref D) (compEnvC scope (cellsFrom (s3.heap.objs.size + 1) scope.names (cloFrom X.env.cells scope.names [])) s3.heap.objs.size X.env)) (compPost (model X.prog X.w) X.A X.xe use Qf (.ref D) s3.heap.objs.size) { s3 with heap := pushCells (s3.heap.push { cls := .type "dict", data := .dict #[] }) scope.names }
  have nfp : ∀ b ∈ fp, (upd H2 D (ldO X.prog X.w D [])) b = none := fun b hb => (f3 b hb).1.1
  generalize hce : compEnvC scope (cellsFrom (s3.heap.objs.size + 1) scope.names (cloFrom X.env.cells scope.names [])) s3.heap.objs.size X.env = ce at I4 pg pt pk pe ⊢
  have cL : ce.locals = s3.heap.objs.size := by subst hce; rfl
  generalize hH3 : upd H2 D (ldO X.prog X.w D []) = H3 at I3 I4 pg pt pk pe w0 nfp f3
  generalize hs4 : ({ s3 with heap := pushCells (s3.heap.push { cls := .type "dict", data := .dict #[] }) scope.names } : Shared) = s4 at I4 ⊢
  have st4 : tn 0 s4.heap := T.keep _ _ _ st3 fun b _ o e => by rw [← hs4]; exact pushCells_keeps _ _ _ _ (Heap.get?_push_of_some _ e)
  have stat : ∀ {σ' : L2.St} {H' : Hp} {s' : Shared}, Inv (X.blk s3 H3 scope ce fp) [] σ' H' s' → (∀ b ∈ fp, H' b = none) → ∀ b ∈ fp, FpOk (X.blk s3 H3 scope ce fp) [] H' b := fun {σ' H' s'} I' hn b hb =>
    ⟨hn b hb, (I'.ok.exf b hb).1, I'.ok.exfs b hb, .inl hb, fun x c e => (I'.ok.exf b hb).2 x c e, fun p hp => absurd (show p ∈ ([] : List (Addr × Obj)) ++ [] from hp) (by simp)⟩
  have loop : codeAny (model X.prog X.w) X.A (.compLoop (.DictComp kx vx [⟨tg, iter, ifs, 0⟩] scope pos) 0 (.ref it) (.ref D) ce) (compPost (model X.prog X.w) X.A X.xe use Qf (.ref D) s3.heap.objs.size) s4 := by
    refine compLoop_anyD (fun n s' => ∃ i H', Inv (X.blk s3 H3 scope ce fp) [] (wipe σ (own.map (·.2))) H' s' ∧ tn i s'.heap ∧ (∀ b ∈ fp, H' b = none) ∧ W i n H') ?_ m0 ⟨0, H3, I4, st4, nfp, w0⟩
    rintro n s5 ⟨i, H5, I5, st5, n5, w5⟩
    rcases turn i n H5 w5 with ⟨stop, qq⟩ | ⟨go, Nx, hNx, step⟩
    · have td := T.done (X.blk s3 H3 scope ce fp) rfl rfl rfl hc i [] s5 _ H5 (fun _ _ => False) I5 (stat I5 n5) st5 stop
      refine thnF td fun r s6 ⟨hr, I6⟩ => ?_
      subst hr
      -- back in the def's context
      have I7 : Inv X pins σ H5 s6 := I3.call' (ch := fp) I6.os I6.base I6.hok I6.bare fun b hb => ⟨(f3 b hb).1.2.2.2.1, (f3 b hb).1.2.1, (f3 b hb).1.2.2.2.2.1, (f3 b hb).1.2.2.2.2.2⟩
      have nC : H5 s3.heap.objs.size = none := by
        have z : H5 ce.locals = none := I6.free
        rw [cL] at z
        exact z
      obtain ⟨m, hn, _⟩ := I6.loc
      have hn : s6.heap.Ns ce.locals m := hn
      rw [cL] at hn
      exact hRR D s3.heap.objs.size s6 m H5 I7 qq hn (I3.fpOk (Nat.le_refl _) nC)
    · have ti := T.item (X.blk s3 H3 scope ce fp) rfl rfl rfl hc i [] s5 _ H5 (fun _ _ => False) I5 (stat I5 n5) st5 go
      refine thnF ti fun r s6 ⟨u, hr, h6⟩ => ?_
      subst hr
      refine thnF h6 fun _ s7 ⟨x, H7, I7, r7, y7, st7, n7⟩ => ?_
      have I7' := I7.pinned (stat I7 n7) (T.obj _ _ st7)
      refine thnF (pg.run _ s7 _ H7 x u _ I7' r7 (step x H7 y7)) fun _ s8 ⟨σ8, H8, I8, hw8, q8⟩ => ?_
      refine thnF (pt.run _ s8 σ8 H8 _ I8 q8) fun b s9 ⟨H9, I9, q9⟩ => ?_
      -- the turn's end
      have fin : ∀ {s' : Shared} {H' : Hp}, Inv (X.blk s3 H3 scope ce fp) ([] ++ pinsAt fp s7.heap) σ8 H' s' → Nx H' → ∃ m, m < n ∧ ∃ i H', Inv (X.blk s3 H3 scope ce fp) [] (wipe σ (own.map (·.2))) H' s' ∧ tn i s'.heap ∧ (∀ b ∈ fp, H' b = none) ∧ W i m H' := fun {s' H'} I' nx => by
        obtain ⟨m', hm, w'⟩ := hNx H' nx
        have pin' : ∀ b ∈ fp, ∀ o, s7.heap.get? b = some o → s'.heap.get? b = some o ∧ H' b = none := fun b hb o e =>
          let z := I'.pin (b, o) (List.mem_append_right _ (List.mem_append_right _ (mem_pinsAt hb e)))
          ⟨z.1, z.2.1⟩
        have hl : (wipe σ (own.map (·.2))).length = σ8.length := by rw [← hw8, wipe_length]
        refine ⟨m', hm, i + 1, H', (I'.unpinned (pins := [])).weak hl (fun j v e => ?_), T.keep _ _ _ st7 fun b hb o e => (pin' b hb o e).1, fun b hb => ?_, w'⟩
        · rw [← hw8] at e
          exact (wipe_some e).1
        · obtain ⟨o, e, _⟩ := T.obj _ _ st7 b hb
          exact (pin' b hb o e).2
      cases b with
      | false =>
        simp only [Bool.false_eq_true, if_false] at q9 ⊢
        exact fin I9 q9
      | true =>
        simp only [if_true] at q9 ⊢
        refine thnF (pk.run _ s9 σ8 H9 _ I9 q9) fun z s10 ⟨yk, H10, I10, r10, q10⟩ => ?_
        refine thnF (pe.run _ s10 σ8 H10 _ I10 q10) fun z2 s11 ⟨yv, H11, I11, r11, xs, b, l, ek, hD11, hk11, hb11, hz11, nx⟩ => ?_
        subst ek
        obtain rfl : z = Value.ref b := r10
        exact ld_dictSet (X := X.blk s3 H3 scope ce fp) hu I11 hD11 hk11 hb11 hz11 r11 fun s12 I12 => fin I12 nx
  exact codeAny_compStart_dict loop (T.self X.A 0 _ _ _ st4 loop)
/-- as a value -/
theorem pe_dcL {kx vx tg iter : Expr} {ifs : List Expr} {scope : Scope} {own : List (Str × Nat)} {pos : Pos} {wi : TI} {g : TG} {tt : TT} {tk tv : TE} (hu : X.A.units < cLine) (hc : X.calm = true) (hN : X.N.Nodup) (hi : PI X tg iter wi) (ok : BlkOk X.N X.env.scope scope own)
    (hg : ∀ (s : Shared) (H : Hp) (C : Addr) (cl : List (Str × Addr)) (fp : List Addr), PG (X.blk s H scope (compEnvC scope cl C X.env) fp) tg g) (ht : ∀ (s : Shared) (H : Hp) (C : Addr) (cl : List (Str × Addr)) (fp : List Addr), PTs (X.blk s H scope (compEnvC scope cl C X.env) fp) ifs tt)
    (hk : ∀ (s : Shared) (H : Hp) (C : Addr) (cl : List (Str × Addr)) (fp : List Addr), PE (X.blk s H scope (compEnvC scope cl C X.env) fp) kx tk)
    (he : ∀ (s : Shared) (H : Hp) (C : Addr) (cl : List (Str × Addr)) (fp : List Addr), PE (X.blk s H scope (compEnvC scope cl C X.env) fp) vx tv) (hs : ∀ x, foldedSetIterable iter X.env x = pure x := by intro _; rfl) :
    PE X (.DictComp kx vx [⟨tg, iter, ifs, 0⟩] scope pos) (tDcL X.prog X.w wi g tt tk tv (own.map (·.2))) := by
  refine ⟨fun pins s σ H Q I h => ?_⟩
  rw [arm_eval_DictComp]
  refine ldc_core hu hc hN I hi ok hg ht hk he hs h fun D C s' m H' I' q hn f => ⟨m, hn, fun h'' sb => ?_⟩
  obtain ⟨f0, f1, f2, f3, f4, f5⟩ := f
  exact ⟨.ref D, H', I'.turned (t' := s'.toks) (fun b o hb e => (sb.2 b hb).trans e) f0 f1 f3 f4 f5, rfl, q⟩
end
theorem compTurn2D_out (kx vx t0 i0 t1 i1 : Expr) (ifs0 ifs1 : List Expr) (scope : Scope) (pos : Pos) (it : Value) (D : Addr) (env : Env) :
    compTurn (.DictComp kx vx [⟨t0, i0, ifs0, 0⟩, ⟨t1, i1, ifs1, 0⟩] scope pos) 0 it (.ref D) env = (do
      standAt i0.pos
      match ← pyNext it with
      | none => pure (.done .next)
      | some v =>
        letOwnedTupleGo t0 it v
        assign t0 env v
        let mut ok := true
        for c in ifs0 do
          if ok then ok ← isTrue c env (eval c env)
        if ok then
          let x ← eval i1 env
          standAt i1.pos
          let x ← foldedSetIterable i1 env x
          let _ ← runOwn (.compStart (.DictComp kx vx [⟨t0, i0, ifs0, 0⟩, ⟨t1, i1, ifs1, 0⟩] scope pos) 1 (← holding [x] (pyIter x)) (.ref D) env) env
        again (.compLoop (.DictComp kx vx [⟨t0, i0, ifs0, 0⟩, ⟨t1, i1, ifs1, 0⟩] scope pos) 0 it (.ref D) env)) := by rfl
theorem compTurn2D_in (kx vx t0 i0 t1 i1 : Expr) (ifs0 ifs1 : List Expr) (scope : Scope) (pos : Pos) (it : Value) (D : Addr) (env : Env) :
    compTurn (.DictComp kx vx [⟨t0, i0, ifs0, 0⟩, ⟨t1, i1, ifs1, 0⟩] scope pos) 1 it (.ref D) env = (do
      standAt i1.pos
      match ← pyNext it with
      | none => pure (.done .next)
      | some v =>
        letOwnedTupleGo t1 it v
        assign t1 env v
        let mut ok := true
        for c in ifs1 do
          if ok then ok ← isTrue c env (eval c env)
        if ok then
          (do
            let kv ← eval kx env
            let vv ← holding [kv] (eval vx env)
            standAt { kx.pos with endLine := vx.pos.endLine, endCol := vx.pos.endCol }
            holding [kv, vv] (dictSet D kv vv))
        again (.compLoop (.DictComp kx vx [⟨t0, i0, ifs0, 0⟩, ⟨t1, i1, ifs1, 0⟩] scope pos) 1 it (.ref D) env)) := by rfl

section
variable {prog : Program} {w : World} {A : Around} {R : Result → Shared → Prop} {s : Shared} {kx vx t0 i0 t1 i1 : Expr} {ifs0 ifs1 : List Expr} {scope : Scope} {pos : Pos} {it : Value} {D : Addr} {env : Env}
/-- the loop of the first clause -/
theorem compLoop2D_out (hs : ∀ x, foldedSetIterable i1 env x = pure x) (I : Nat → Shared → Prop)
    (turn : ∀ n s, I n s → wpAny (model prog w) A (pyNext it) (fun r s₁ => match r with
      | none => R (.ok .next) s₁
      | some v => wpAny (model prog w) A (letOwnedTupleGo t0 it v) (fun _ s₁' => wpAny (model prog w) A (assign t0 env v) (fun _ s₂ =>
          wpAny (model prog w) A (forIn ifs0 true fun c r => if r = true then do let ok ← isTrue c env (eval c env); pure (ForInStep.yield ok) else pure (ForInStep.yield r)) (fun ok s₃ =>
            if ok = true then wpAny (model prog w) A (eval i1 env) (fun x s₄ => wpAny (model prog w) A (pyIter x) (fun it1 s₅ =>
              codeAny (model prog w) A (.compStart (.DictComp kx vx [⟨t0, i0, ifs0, 0⟩, ⟨t1, i1, ifs1, 0⟩] scope pos) 1 it1 (.ref D) env) (fun r s' => match r with
                | .ok _ => ∃ m, m < n ∧ I m s'
                | .error _ => False) s₅) (notedBy (model prog w) A env fun e s' => R (.error e) s') s₄) (notedBy (model prog w) A env fun e s' => R (.error e) s') s₃
            else ∃ m, m < n ∧ I m s₃) (notedBy (model prog w) A env fun e s' => R (.error e) s') s₂) (notedBy (model prog w) A env fun e s' => R (.error e) s') s₁') (notedBy (model prog w) A env fun e s' => R (.error e) s') s₁) (notedBy (model prog w) A env fun e s' => R (.error e) s') s)
    (n : Nat) (h : I n s) :
    codeAny (model prog w) A (.compLoop (.DictComp kx vx [⟨t0, i0, ifs0, 0⟩, ⟨t1, i1, ifs1, 0⟩] scope pos) 0 it (.ref D) env) R s := by
  refine codeAny_loop rfl I (fun n s hI => ?_) n h
  show wpAny _ A ((compTurn (.DictComp kx vx [⟨t0, i0, ifs0, 0⟩, ⟨t1, i1, ifs1, 0⟩] scope pos) 0 it (.ref D) env).onRaise (fun x => do noteFrame x env; theTreesLotGoes x)) _ _ s
  refine wpAny_noted ?_
  rw [compTurn2D_out]
  refine wpAny_bind (wpAny_standAt (wpAny_bind (wpAny_mono (turn n s hI) (fun r s₁ h₁ => ?_) fun _ _ h' => h')))
  cases r with
  | none => exact wpAny_pure h₁
  | some v =>
    refine wpAny_bind (wpAny_mono h₁ (fun _ s₁' h₁' => ?_) fun _ _ h' => h')
    refine wpAny_bind (wpAny_mono h₁' (fun _ s₂ h₂ => wpAny_bind (wpAny_mono h₂ (fun ok s₃ h₃ => ?_) fun _ _ h' => h')) fun _ _ h' => h')
    cases ok with
    | false => exact wpAny_pure ⟨rfl, h₃⟩
    | true =>
      refine wpAny_bind (wpAny_mono h₃ (fun x s₄ h₄ => ?_) fun _ _ h' => h')
      refine wpAny_bind (wpAny_standAt (wpAny_bind (wpAny_of_eq (hs x) (wpAny_bind (wpAny_holding (wpAny_mono h₄ (fun it1 s₅ h₅ => ?_) fun _ _ h' => h'))))))
      refine wpAny_bind (wpAny_runOwn ?_)
      rw [Around.mark_none]
      refine codeAny_mono h₅ fun r s' hr => ?_
      cases r with
      | ok f =>
        first
          | exact wpAny_pure ⟨rfl, hr⟩
          | exact wpAny_bind (wpAny_pure (wpAny_pure ⟨rfl, hr⟩))
      | error e => exact hr.elim
/-- the loop of the second -/
theorem compLoop2D_in (I : Nat → Shared → Prop)
    (turn : ∀ n s, I n s → wpAny (model prog w) A (pyNext it) (fun r s₁ => match r with
      | none => R (.ok .next) s₁
      | some v => wpAny (model prog w) A (letOwnedTupleGo t1 it v) (fun _ s₁' => wpAny (model prog w) A (assign t1 env v) (fun _ s₂ =>
          wpAny (model prog w) A (forIn ifs1 true fun c r => if r = true then do let ok ← isTrue c env (eval c env); pure (ForInStep.yield ok) else pure (ForInStep.yield r)) (fun ok s₃ =>
            if ok = true then wpAny (model prog w) A (eval kx env) (fun kv s₄ => wpAny (model prog w) A (eval vx env) (fun vv s₅ =>
              wpAny (model prog w) A (dictSet D kv vv) (fun _ s₆ => ∃ m, m < n ∧ I m s₆) (notedBy (model prog w) A env fun e s' => R (.error e) s') s₅) (notedBy (model prog w) A env fun e s' => R (.error e) s') s₄) (notedBy (model prog w) A env fun e s' => R (.error e) s') s₃
            else ∃ m, m < n ∧ I m s₃) (notedBy (model prog w) A env fun e s' => R (.error e) s') s₂) (notedBy (model prog w) A env fun e s' => R (.error e) s') s₁') (notedBy (model prog w) A env fun e s' => R (.error e) s') s₁) (notedBy (model prog w) A env fun e s' => R (.error e) s') s)
    (n : Nat) (h : I n s) :
    codeAny (model prog w) A (.compLoop (.DictComp kx vx [⟨t0, i0, ifs0, 0⟩, ⟨t1, i1, ifs1, 0⟩] scope pos) 1 it (.ref D) env) R s := by
  refine codeAny_loop rfl I (fun n s hI => ?_) n h
  show wpAny _ A ((compTurn (.DictComp kx vx [⟨t0, i0, ifs0, 0⟩, ⟨t1, i1, ifs1, 0⟩] scope pos) 1 it (.ref D) env).onRaise (fun x => do noteFrame x env; theTreesLotGoes x)) _ _ s
  refine wpAny_noted ?_
  rw [compTurn2D_in]
  refine wpAny_bind (wpAny_standAt (wpAny_bind (wpAny_mono (turn n s hI) (fun r s₁ h₁ => ?_) fun _ _ h' => h')))
  cases r with
  | none => exact wpAny_pure h₁
  | some v =>
    refine wpAny_bind (wpAny_mono h₁ (fun _ s₁' h₁' => ?_) fun _ _ h' => h')
    refine wpAny_bind (wpAny_mono h₁' (fun _ s₂ h₂ => wpAny_bind (wpAny_mono h₂ (fun ok s₃ h₃ => ?_) fun _ _ h' => h')) fun _ _ h' => h')
    cases ok with
    | false => exact wpAny_pure ⟨rfl, h₃⟩
    | true =>
      exact wpAny_bind (wpAny_bind (wpAny_mono h₃ (fun kv s₄ h₄ => wpAny_bind (wpAny_holding (wpAny_mono h₄ (fun vv s₅ h₅ => wpAny_bind (wpAny_standAt (wpAny_holding (wpAny_mono h₅ (fun _ s₆ h₆ => wpAny_pure ⟨rfl, h₆⟩) fun _ _ h' => h')))) fun _ _ h' => h'))) fun _ _ h' => h'))
/-- the second clause's start -/
theorem compStart1D_ok (h0 : codeAny (model prog w) A (.compLoop (.DictComp kx vx [⟨t0, i0, ifs0, 0⟩, ⟨t1, i1, ifs1, 0⟩] scope pos) 1 it (.ref D) env) R s)
    (h : wpAny (model prog w) A (pyIter it) (fun it' s' => codeAny (model prog w) A (.compLoop (.DictComp kx vx [⟨t0, i0, ifs0, 0⟩, ⟨t1, i1, ifs1, 0⟩] scope pos) 1 it' (.ref D) env) R s')
      (notedBy (model prog w) A env fun x s' => R (.error x) s') s) :
    codeAny (model prog w) A (.compStart (.DictComp kx vx [⟨t0, i0, ifs0, 0⟩, ⟨t1, i1, ifs1, 0⟩] scope pos) 1 it (.ref D) env) R s := by
  refine codeAny_of_tree ?_
  show wpAny _ _ ((compStart (.DictComp kx vx [⟨t0, i0, ifs0, 0⟩, ⟨t1, i1, ifs1, 0⟩] scope pos) 1 it (.ref D) env).onRaise (fun x => do noteFrame x env; standAt theWindowsPlace)) _ _ s
  refine wpAny_notedAt ?_
  unfold compStart
  show wpAny _ _ (ask >>= _) _ _ s
  refine wpAny_bind (wpAny_askSetting (wpAny_ite ?_))
  split
  · first
      | exact wpAny_bind (wpAny_pure (wpAny_pure (And.intro rfl h0)))
      | exact wpAny_pure (And.intro rfl h0)
  · first
      | exact wpAny_bind (wpAny_rule (wpAny_bind (wpAny_standAt (wpAny_bind (wpAny_mono h (fun it' s' h' => wpAny_pure (And.intro rfl h')) fun _ _ x => x)))))
      | (refine wpAny_bind (wpAny_rule ?_); show wpAny _ _ (standAt i1.pos >>= _) _ _ s; exact wpAny_bind (wpAny_standAt (wpAny_bind (wpAny_mono h (fun it' s' h' => wpAny_pure (And.intro rfl h')) fun _ _ x => x))))
end

section
variable {X : Cx}
/-- [elt for tg in iter if .. for tg1 in iter1 if ..]: behind the first clause's store and tests the second source's own loop, from which Nx is reached. vs: the block's names; vs1: those of the second target -/
def tDcL2 (P : Program) (w : World) (wi : TI) (g : TG) (tt : TT) (wi1 : TI) (g1 : TG) (tt1 : TT) (tk tv : TE) (vs vs1 : List Nat) : TE := fun σ H Q => wi σ H fun J H1 => ∀ D, H1 D = none → ∃ W : Nat → Nat → Hp → Prop, (∃ m, W 0 m (upd H1 D (ldO P w D []))) ∧ ∀ i m H, W i m H →
  (J.stop i H ∧ Q (.ref D) H) ∨ (J.go i H ∧ ∃ Nx : Hp → Prop, (∀ H', Nx H' → ∃ m', m' < m ∧ W (i + 1) m' H') ∧ ∀ x H', J.yld i H x H' → g x (wipe σ vs) H' fun σ2 H2 => wipe σ2 vs = wipe σ vs ∧ tt σ2 H2 fun b H3 =>
    if b = true then wi1 σ2 H3 fun J1 H4 => ∃ W1 : Nat → Nat → Hp → Prop, (∃ m, W1 0 m H4) ∧ ∀ j k H, W1 j k H →
      (J1.stop j H ∧ Nx H) ∨ (J1.go j H ∧ ∃ Nx1 : Hp → Prop, (∀ H', Nx1 H' → ∃ k', k' < k ∧ W1 (j + 1) k' H') ∧ ∀ x H', J1.yld j H x H' → g1 x (wipe σ2 vs1) H' fun σ3 H5 => wipe σ3 vs1 = wipe σ2 vs1 ∧ tt1 σ3 H5 fun b H6 =>
        if b = true then tk σ3 H6 fun y H7 => tv σ3 H7 fun z H8 => ∃ xs b l, y = .ref b ∧ H8 D = some (ldO P w D xs) ∧ KeysAt H8 xs ∧ H8 b = some (litT l) ∧ xs.length < sizeLine ∧ Nx1 (upd H8 D (ldO P w D (lput xs l b z))) else Nx1 H6)
    else Nx H3)
theorem ldc2_core {pins : List (Addr × Obj)} {s : Shared} {σ : L2.St} {H : Hp} {Q : VK} {kx vx tg iter tg1 iter1 : Expr} {ifs ifs1 : List Expr} {scope : Scope} {own : List (Str × Nat)} {vs1 : List Nat} {pos pos' : Pos} {wi wi1 : TI} {g g1 : TG} {tt tt1 : TT} {tk tv : TE} {use : Option (Value → Sem Unit)} {Qf : Value → Shared → Prop}
    (hu : X.A.units < cLine) (hc : X.calm = true) (hN : X.N.Nodup) (I : Inv X pins σ H s) (hi : PI X tg iter wi) (ok : BlkOk X.N X.env.scope scope own) (hv : ∀ i ∈ vs1, i ∈ own.map (·.2))
    (hg : ∀ (s : Shared) (H : Hp) (C : Addr) (cl : List (Str × Addr)) (fp : List Addr), PG (X.blk s H scope (compEnvC scope cl C X.env) fp) tg g) (ht : ∀ (s : Shared) (H : Hp) (C : Addr) (cl : List (Str × Addr)) (fp : List Addr), PTs (X.blk s H scope (compEnvC scope cl C X.env) fp) ifs tt)
    (hk : ∀ (s : Shared) (H : Hp) (C : Addr) (cl : List (Str × Addr)) (fp : List Addr), PE (X.blk s H scope (compEnvC scope cl C X.env) fp) kx tk)
    (he : ∀ (s : Shared) (H : Hp) (C : Addr) (cl : List (Str × Addr)) (fp : List Addr), PE (X.blk s H scope (compEnvC scope cl C X.env) fp) vx tv) (hs : ∀ x, foldedSetIterable iter X.env x = pure x)
    (hi1 : ∀ (s : Shared) (H : Hp) (C : Addr) (cl : List (Str × Addr)) (fp : List Addr), PI (X.blk s H scope (compEnvC scope cl C X.env) fp) tg1 iter1 wi1)
    (hg1 : ∀ (s : Shared) (H : Hp) (C : Addr) (cl : List (Str × Addr)) (fp : List Addr), PG (X.blk s H scope (compEnvC scope cl C X.env) fp) tg1 g1)
    (ht1 : ∀ (s : Shared) (H : Hp) (C : Addr) (cl : List (Str × Addr)) (fp : List Addr), PTs (X.blk s H scope (compEnvC scope cl C X.env) fp) ifs1 tt1)
    (hs1 : ∀ env x, foldedSetIterable iter1 env x = pure x)
    (h : tDcL2 X.prog X.w wi g tt wi1 g1 tt1 tk tv (own.map (·.2)) vs1 σ H Q)
    (hRR : ∀ D C s' m H', Inv X pins σ H' s' → Q (.ref D) H' → s'.heap.Ns C m → FpOk X pins H' C → compPost (model X.prog X.w) X.A X.xe use Qf (.ref D) C (.ok .next) s') :
    wpAny (model X.prog X.w) X.A (comprehension (.DictComp kx vx [⟨tg, iter, ifs, 0⟩, ⟨tg1, iter1, ifs1, 0⟩] scope pos) scope X.env pos' newDict false (eval iter X.env) use) Qf X.xe s := by
  have hfree : ∀ y ∈ scope.names, y.2 = .free → ∃ c, X.env.cells.lookup y.1 = some c := fun y hy e => by
    rcases ok.free y hy e with k | k
    · exact I.ok.has _ (.inl k)
    · exact I.ok.has _ (.inr k)
  refine wpAny_comprehension_free (use := use) rfl hs (closure_ok hfree) ok.kind (fun y hy e => by rw [ok.uniq y hy, e])
    (thn (hi.run pins s σ H _ I h) fun xv s1 hx => thn hx fun itv s2 h2 => ?_)
  obtain ⟨it, fp, tn, J, H2, e, I2, T, st2, f2, q⟩ := h2
  subst e
  refine wpAny_newObj_type (newEnv_comp ?_)
  generalize hD : s2.heap.objs.size = D
  have hDn : H2 D = none := I2.hok.fresh (Nat.le_of_eq hD)
  obtain ⟨W, ⟨m0, w0⟩, turn⟩ := q D hDn
  -- the new list
  generalize hs3 : ({ s2 with heap := s2.heap.push { cls := .type "dict", data := .dict #[] } } : Shared) = s3
  have I3 : Inv X pins σ (upd H2 D (ldO X.prog X.w D [])) s3 := by
    rw [← hs3]
    refine I2.laid (t' := s2.toks) (fun b o e => Heap.get?_push_of_some _ e) (Nat.le_of_eq hD) ?_
    rw [← hD]
    exact ld_empty s2.heap I2.big
  have h3 : s3.heap = s2.heap.push { cls := .type "dict", data := .dict #[] } := by rw [← hs3]
  have sz : ∀ b ∈ fp, b < s2.heap.objs.size := fun b hb => by
    obtain ⟨o, e, _⟩ := T.obj _ _ st2 b hb
    exact Heap.lt_size e
  have f3 : ∀ b ∈ fp, FpOk X pins (upd H2 D (ldO X.prog X.w D [])) b ∧ b < s3.heap.objs.size := fun b hb => by
    have hlt := sz b hb
    refine ⟨⟨?_, (f2 b hb).2⟩, by rw [h3, Heap.size_push]; exact Nat.lt_succ_of_lt hlt⟩
    rw [upd_ne (by rw [← hD]; exact Nat.ne_of_lt hlt)]
    exact (f2 b hb).1
  have st3 : tn 0 s3.heap := T.keep _ _ _ st2 fun b _ o e => by rw [h3]; exact Heap.get?_push_of_some _ e
  have I4 := block_start I3 ok hN f3
  have pg := hg s3 (upd H2 D (ldO X.prog X.w D [])) s3.heap.objs.size (cellsFrom (s3.heap.objs.size + 1) scope.names (cloFrom X.env.cells scope.names [])) fp
  have pt := ht s3 (upd H2 D (ldO X.prog X.w D [])) s3.heap.objs.size (cellsFrom (s3.heap.objs.size + 1) scope.names (cloFrom X.env.cells scope.names [])) fp
  have pk := hk s3 (upd H2 D (ldO X.prog X.w D [])) s3.heap.objs.size (cellsFrom (s3.heap.objs.size + 1) scope.names (cloFrom X.env.cells scope.names [])) fp
  have pe := he s3 (upd H2 D (ldO X.prog X.w D [])) s3.heap.objs.size (cellsFrom (s3.heap.objs.size + 1) scope.names (cloFrom X.env.cells scope.names [])) fp
  have pi1 := hi1 s3 (upd H2 D (ldO X.prog X.w D [])) s3.heap.objs.size (cellsFrom (s3.heap.objs.size + 1) scope.names (cloFrom X.env.cells scope.names [])) fp
  have pg1 := hg1 s3 (upd H2 D (ldO X.prog X.w D [])) s3.heap.objs.size (cellsFrom (s3.heap.objs.size + 1) scope.names (cloFrom X.env.cells scope.names [])) fp
  have pt1 := ht1 s3 (upd H2 D (ldO X.prog X.w D [])) s3.heap.objs.size (cellsFrom (s3.heap.objs.size + 1) scope.names (cloFrom X.env.cells scope.names [])) fp
  show codeAny _ _ (.compStart (.DictComp kx vx [⟨tg, iter, ifs, 0⟩, ⟨tg1, iter1, ifs1, 0⟩] scope pos) 0 (.ref it) (.ref D) (compEnvC scope (cellsFrom (s3.heap.objs.size + 1) scope.names (cloFrom X.env.cells scope.names [])) s3.heap.objs.size X.env)) (compPost (model X.prog X.w) X.A X.xe use Qf (.ref D) s3.heap.objs.size) { s3 with heap := pushCells (s3.heap.push { cls := .type "dict", data := .dict #[] }) scope.names }
  have nfp : ∀ b ∈ fp, (upd H2 D (ldO X.prog X.w D [])) b = none := fun b hb => (f3 b hb).1.1
  generalize hce : compEnvC scope (cellsFrom (s3.heap.objs.size + 1) scope.names (cloFrom X.env.cells scope.names [])) s3.heap.objs.size X.env = ce at I4 pg pt pk pe pi1 pg1 pt1 ⊢
  have cL : ce.locals = s3.heap.objs.size := by subst hce; rfl
  generalize hH3 : upd H2 D (ldO X.prog X.w D []) = H3 at I3 I4 pg pt pk pe pi1 pg1 pt1 w0 nfp f3
  generalize hs4 : ({ s3 with heap := pushCells (s3.heap.push { cls := .type "dict", data := .dict #[] }) scope.names } : Shared) = s4 at I4 ⊢
  have st4 : tn 0 s4.heap := T.keep _ _ _ st3 fun b _ o e => by rw [← hs4]; exact pushCells_keeps _ _ _ _ (Heap.get?_push_of_some _ e)
  have stat : ∀ {σ' : L2.St} {H' : Hp} {s' : Shared}, Inv (X.blk s3 H3 scope ce fp) [] σ' H' s' → (∀ b ∈ fp, H' b = none) → ∀ b ∈ fp, FpOk (X.blk s3 H3 scope ce fp) [] H' b := fun {σ' H' s'} I' hn b hb =>
    ⟨hn b hb, (I'.ok.exf b hb).1, I'.ok.exfs b hb, .inl hb, fun x c e => (I'.ok.exf b hb).2 x c e, fun p hp => absurd (show p ∈ ([] : List (Addr × Obj)) ++ [] from hp) (by simp)⟩
  have loop : codeAny (model X.prog X.w) X.A (.compLoop (.DictComp kx vx [⟨tg, iter, ifs, 0⟩, ⟨tg1, iter1, ifs1, 0⟩] scope pos) 0 (.ref it) (.ref D) ce) (compPost (model X.prog X.w) X.A X.xe use Qf (.ref D) s3.heap.objs.size) s4 := by
    refine compLoop2D_out (hs1 ce) (fun n s' => ∃ i H', Inv (X.blk s3 H3 scope ce fp) [] (wipe σ (own.map (·.2))) H' s' ∧ tn i s'.heap ∧ (∀ b ∈ fp, H' b = none) ∧ W i n H') ?_ m0 ⟨0, H3, I4, st4, nfp, w0⟩
    rintro n s5 ⟨i, H5, I5, st5, n5, w5⟩
    rcases turn i n H5 w5 with ⟨stop, qq⟩ | ⟨go, Nx, hNx, step⟩
    · have td := T.done (X.blk s3 H3 scope ce fp) rfl rfl rfl hc i [] s5 _ H5 (fun _ _ => False) I5 (stat I5 n5) st5 stop
      refine thnF td fun r s6 ⟨hr, I6⟩ => ?_
      subst hr
      -- back in the def's context
      have I7 : Inv X pins σ H5 s6 := I3.call' (ch := fp) I6.os I6.base I6.hok I6.bare fun b hb => ⟨(f3 b hb).1.2.2.2.1, (f3 b hb).1.2.1, (f3 b hb).1.2.2.2.2.1, (f3 b hb).1.2.2.2.2.2⟩
      have nC : H5 s3.heap.objs.size = none := by
        have z : H5 ce.locals = none := I6.free
        rw [cL] at z
        exact z
      obtain ⟨m, hn, _⟩ := I6.loc
      have hn : s6.heap.Ns ce.locals m := hn
      rw [cL] at hn
      exact hRR D s3.heap.objs.size s6 m H5 I7 qq hn (I3.fpOk (Nat.le_refl _) nC)
    · have ti := T.item (X.blk s3 H3 scope ce fp) rfl rfl rfl hc i [] s5 _ H5 (fun _ _ => False) I5 (stat I5 n5) st5 go
      refine thnF ti fun r s6 ⟨u, hr, h6⟩ => ?_
      subst hr
      refine thnF h6 fun _ s7 ⟨x, H7, I7, r7, y7, st7, n7⟩ => ?_
      have I7' := I7.pinned (stat I7 n7) (T.obj _ _ st7)
      refine thnF (pg.run _ s7 _ H7 x u _ I7' r7 (step x H7 y7)) fun _ s8 ⟨σ8, H8, I8, hw8, q8⟩ => ?_
      refine thnF (pt.run _ s8 σ8 H8 _ I8 q8) fun b s9 ⟨H9, I9, q9⟩ => ?_
      -- the turn's end, from any slots that know what the block knew at its start
      have fin : ∀ {σ9 : L2.St} {s' : Shared} {H' : Hp}, Inv (X.blk s3 H3 scope ce fp) ([] ++ pinsAt fp s7.heap) σ9 H' s' → (wipe σ (own.map (·.2))).length = σ9.length → (∀ (j : Nat) v, (wipe σ (own.map (·.2)))[j]? = some (some v) → σ9[j]? = some (some v)) → Nx H' →
          ∃ m, m < n ∧ ∃ i H', Inv (X.blk s3 H3 scope ce fp) [] (wipe σ (own.map (·.2))) H' s' ∧ tn i s'.heap ∧ (∀ b ∈ fp, H' b = none) ∧ W i m H' := fun {σ9 s' H'} I' hl hk nx => by
        obtain ⟨m', hm, w'⟩ := hNx H' nx
        have pin' : ∀ b ∈ fp, ∀ o, s7.heap.get? b = some o → s'.heap.get? b = some o ∧ H' b = none := fun b hb o e =>
          let z := I'.pin (b, o) (List.mem_append_right _ (List.mem_append_right _ (mem_pinsAt hb e)))
          ⟨z.1, z.2.1⟩
        refine ⟨m', hm, i + 1, H', (I'.unpinned (pins := [])).weak hl hk, T.keep _ _ _ st7 fun b hb o e => (pin' b hb o e).1, fun b hb => ?_, w'⟩
        obtain ⟨o, e, _⟩ := T.obj _ _ st7 b hb
        exact (pin' b hb o e).2
      have hl8 : (wipe σ (own.map (·.2))).length = σ8.length := by rw [← hw8, wipe_length]
      have hk8 : ∀ (j : Nat) v, (wipe σ (own.map (·.2)))[j]? = some (some v) → σ8[j]? = some (some v) := fun j v e => by
        rw [← hw8] at e
        exact (wipe_some e).1
      have hk9 : ∀ (j : Nat) v, (wipe σ (own.map (·.2)))[j]? = some (some v) → (wipe σ8 vs1)[j]? = some (some v) := fun j v e => by
        rw [← hw8] at e
        obtain ⟨e1, e2⟩ := wipe_some e
        rw [wipe_out fun z => e2 (hv j z)]
        exact e1
      cases b with
      | false =>
        simp only [Bool.false_eq_true, if_false] at q9 ⊢
        exact fin I9 hl8 hk8 q9
      | true =>
        simp only [if_true] at q9 ⊢
        refine thnF (pi1.run _ s9 σ8 H9 _ I9 q9) fun xv s10 hx => thnF hx fun itv s11 h11 => ?_
        obtain ⟨it1, fp1, tn1, J1, H11, e1, I11, T1, st11, f11, W1, ⟨m1, w1⟩, turn1⟩ := h11
        subst e1
        -- the inner loop
        have stat1 : ∀ {H' : Hp}, (∀ b ∈ fp1, H' b = none) → ∀ b ∈ fp1, FpOk (X.blk s3 H3 scope ce fp) ([] ++ pinsAt fp s7.heap) H' b := fun hn b hb => ⟨hn b hb, (f11 b hb).2⟩
        have loop1 : codeAny (model X.prog X.w) X.A (.compLoop (.DictComp kx vx [⟨tg, iter, ifs, 0⟩, ⟨tg1, iter1, ifs1, 0⟩] scope pos) 1 (.ref it1) (.ref D) ce)
            (fun r s' => match r with
              | .ok _ => ∃ m, m < n ∧ ∃ i H', Inv (X.blk s3 H3 scope ce fp) [] (wipe σ (own.map (·.2))) H' s' ∧ tn i s'.heap ∧ (∀ b ∈ fp, H' b = none) ∧ W i m H'
              | .error _ => False) s11 := by
          refine compLoop2D_in (fun k s' => ∃ j H', Inv (X.blk s3 H3 scope ce fp) ([] ++ pinsAt fp s7.heap) (wipe σ8 vs1) H' s' ∧ tn1 j s'.heap ∧ (∀ b ∈ fp1, H' b = none) ∧ W1 j k H') ?_ m1 ⟨0, H11, I11.weak (wipe_length _ _) (fun j v e => (wipe_some e).1), st11, fun b hb => (f11 b hb).1, w1⟩
          rintro k s12 ⟨j, H12, I12, st12, n12, w12⟩
          rcases turn1 j k H12 w12 with ⟨stop1, nx1⟩ | ⟨go1, Nx1, hNx1, step1⟩
          · refine thnF (T1.done (X.blk s3 H3 scope ce fp) rfl rfl rfl hc j _ s12 (wipe σ8 vs1) H12 (fun _ _ => False) I12 (stat1 n12) st12 stop1) fun r s13 ⟨hr, I13⟩ => ?_
            subst hr
            exact fin I13 (hl8.trans (wipe_length σ8 vs1).symm) hk9 nx1
          · refine thnF (T1.item (X.blk s3 H3 scope ce fp) rfl rfl rfl hc j _ s12 (wipe σ8 vs1) H12 (fun _ _ => False) I12 (stat1 n12) st12 go1) fun r s13 ⟨u1, hr, h13⟩ => ?_
            subst hr
            refine thnF h13 fun _ s14 ⟨x1, H14, I14, r14, y14, st14, n14⟩ => ?_
            have I14' := I14.pinned (stat1 n14) (T1.obj _ _ st14)
            refine thnF (pg1.run _ s14 (wipe σ8 vs1) H14 x1 u1 _ I14' r14 (step1 x1 H14 y14)) fun _ s15 ⟨σ15, H15, I15, hw15, q15⟩ => ?_
            refine thnF (pt1.run _ s15 σ15 H15 _ I15 q15) fun b1 s16 ⟨H16, I16, q16⟩ => ?_
            have fin1 : ∀ {s' : Shared} {H' : Hp}, Inv (X.blk s3 H3 scope ce fp) (([] ++ pinsAt fp s7.heap) ++ pinsAt fp1 s14.heap) σ15 H' s' → Nx1 H' → ∃ m, m < k ∧ ∃ j H', Inv (X.blk s3 H3 scope ce fp) ([] ++ pinsAt fp s7.heap) (wipe σ8 vs1) H' s' ∧ tn1 j s'.heap ∧ (∀ b ∈ fp1, H' b = none) ∧ W1 j m H' := fun {s' H'} I' nx => by
              obtain ⟨m', hm, w'⟩ := hNx1 H' nx
              have pin' : ∀ b ∈ fp1, ∀ o, s14.heap.get? b = some o → s'.heap.get? b = some o ∧ H' b = none := fun b hb o e =>
                let z := I'.pin (b, o) (List.mem_append_right _ (List.mem_append_right _ (mem_pinsAt hb e)))
                ⟨z.1, z.2.1⟩
              refine ⟨m', hm, j + 1, H', I'.unpinned.weak (by rw [← hw15, wipe_length]) (fun j v e => by rw [← hw15] at e; exact (wipe_some e).1), T1.keep _ _ _ st14 fun b hb o e => (pin' b hb o e).1, fun b hb => ?_, w'⟩
              obtain ⟨o, e, _⟩ := T1.obj _ _ st14 b hb
              exact (pin' b hb o e).2
            cases b1 with
            | false =>
              simp only [Bool.false_eq_true, if_false] at q16 ⊢
              exact fin1 I16 q16
            | true =>
              simp only [if_true] at q16 ⊢
              refine thnF (pk.run _ s16 σ15 H16 _ I16 q16) fun z s17 ⟨yk, H17, I17, r17, q17⟩ => ?_
              refine thnF (pe.run _ s17 σ15 H17 _ I17 q17) fun z2 s18 ⟨yv, H18, I18, r18, xs, b, l, ek, hD18, hk18, hb18, hz18, nx⟩ => ?_
              subst ek
              obtain rfl : z = Value.ref b := r17
              exact ld_dictSet (X := X.blk s3 H3 scope ce fp) hu I18 hD18 hk18 hb18 hz18 r18 fun s19 I19 => fin1 I19 nx
        exact compStart1D_ok loop1 (T1.self X.A 0 _ _ _ st11 loop1)
  exact codeAny_compStart_dict loop (T.self X.A 0 _ _ _ st4 loop)
/-- as a value -/
theorem pe_dcL2 {kx vx tg iter tg1 iter1 : Expr} {ifs ifs1 : List Expr} {scope : Scope} {own : List (Str × Nat)} {vs1 : List Nat} {pos : Pos} {wi wi1 : TI} {g g1 : TG} {tt tt1 : TT} {tk tv : TE} (hu : X.A.units < cLine) (hc : X.calm = true) (hN : X.N.Nodup) (hi : PI X tg iter wi) (ok : BlkOk X.N X.env.scope scope own) (hv : ∀ i ∈ vs1, i ∈ own.map (·.2))
    (hg : ∀ (s : Shared) (H : Hp) (C : Addr) (cl : List (Str × Addr)) (fp : List Addr), PG (X.blk s H scope (compEnvC scope cl C X.env) fp) tg g) (ht : ∀ (s : Shared) (H : Hp) (C : Addr) (cl : List (Str × Addr)) (fp : List Addr), PTs (X.blk s H scope (compEnvC scope cl C X.env) fp) ifs tt)
    (hi1 : ∀ (s : Shared) (H : Hp) (C : Addr) (cl : List (Str × Addr)) (fp : List Addr), PI (X.blk s H scope (compEnvC scope cl C X.env) fp) tg1 iter1 wi1)
    (hg1 : ∀ (s : Shared) (H : Hp) (C : Addr) (cl : List (Str × Addr)) (fp : List Addr), PG (X.blk s H scope (compEnvC scope cl C X.env) fp) tg1 g1) (ht1 : ∀ (s : Shared) (H : Hp) (C : Addr) (cl : List (Str × Addr)) (fp : List Addr), PTs (X.blk s H scope (compEnvC scope cl C X.env) fp) ifs1 tt1)
    (hk : ∀ (s : Shared) (H : Hp) (C : Addr) (cl : List (Str × Addr)) (fp : List Addr), PE (X.blk s H scope (compEnvC scope cl C X.env) fp) kx tk)
    (he : ∀ (s : Shared) (H : Hp) (C : Addr) (cl : List (Str × Addr)) (fp : List Addr), PE (X.blk s H scope (compEnvC scope cl C X.env) fp) vx tv) (hs : ∀ x, foldedSetIterable iter X.env x = pure x := by intro _; rfl) (hs1 : ∀ env x, foldedSetIterable iter1 env x = pure x := by intro _ _; rfl) :
    PE X (.DictComp kx vx [⟨tg, iter, ifs, 0⟩, ⟨tg1, iter1, ifs1, 0⟩] scope pos) (tDcL2 X.prog X.w wi g tt wi1 g1 tt1 tk tv (own.map (·.2)) vs1) := by
  refine ⟨fun pins s σ H Q I h => ?_⟩
  rw [arm_eval_DictComp]
  refine ldc2_core hu hc hN I hi ok hv hg ht hk he hs hi1 hg1 ht1 hs1 h fun D C s' m H' I' q hn f => ⟨m, hn, fun h'' sb => ?_⟩
  obtain ⟨f0, f1, f2, f3, f4, f5⟩ := f
  exact ⟨.ref D, H', I'.turned (t' := s'.toks) (fun b o hb e => (sb.2 b hb).trans e) f0 f1 f3 f4 f5, rfl, q⟩
end
end Fk
/-! sorted(..) of lists of data, of dicts keyed by literals. -/
namespace Fk
open PySem PySem.Spec PyProof.Rows L2
section
variable {β : Type}
/-- items that can be sorted: what they are as values, as data -/
structure SortB (K : PySem.W.Frag) (H : Hp) (bs : List β) (f : β → V) (enc : β → PyData) : Prop where
  dp : ∀ b ∈ bs, Dp K H (f b) (enc b)
  al : PySem.W.AllAlike (bs.map enc)
  so : PySem.W.Sortable (bs.map enc)
  sz : bs.length ≤ sizeLine
  de : ∀ b ∈ bs, (enc b).depth ≤ 16
theorem each_of {X : Cx} {pins : List (Addr × Obj)} {σ : L2.St} {H : Hp} {s : Shared} (I : Inv X pins σ H s) {f : β → V} {enc : β → PyData} :
    ∀ {bs : List β} {vs : List Value}, Vals (bs.map f) vs → (∀ b ∈ bs, Dp X.K H (f b) (enc b)) → PySem.W.EachIs (fun v b => L2.RelV (f b) v) vs bs ∧ PySem.W.EachIs (fun v b => ∃ as, Reads s.heap v (enc b) as) vs bs
  | [], [], _, _ => ⟨.nil, .nil⟩
  | [], _ :: _, r, _ => by cases r
  | _ :: _, [], r, _ => by cases r
  | b :: bs, v :: vs, r, h => by
    cases r with
    | cons r1 r2 =>
      obtain ⟨e1, e2⟩ := each_of I (f := f) (enc := enc) r2 fun c hc => h c (by simp [hc])
      exact ⟨.cons r1 e1, .cons (Dp.reads I _ _ _ (h b (by simp)) r1) e2⟩
theorem vals_each {f : β → V} : ∀ {vs : List Value} {bs : List β}, PySem.W.EachIs (fun v b => L2.RelV (f b) v) vs bs → Vals (bs.map f) vs
  | _, _, .nil => .nil
  | _, _, .cons r t => .cons r (vals_each t)
variable {X : Cx}
/-- the list just made is sorted -/
theorem sort_new {pins : List (Addr × Obj)} {σ : L2.St} {H : Hp} {s : Shared} {vs : List Value} {bs : List β} {f : β → V} {enc : β → PyData} {Q : VK} {E : Value → Shared → Prop} (hu : X.A.units + 100 < cLine) (I : Inv X pins σ H s) (rv : Vals (bs.map f) vs) (B : SortB X.K H bs f enc)
    (q : ∀ p, H p = none → Q (.ref p) (upd H p (.lst ((bs.mergeSort (PySem.W.dataLe false enc)).map f)))) :
    wpAny (model X.prog X.w) X.A.in1 (call (.builtin "list.sort") [.ref s.heap.objs.size]) (fun _ s' => EP X pins σ Q (.ref s.heap.objs.size) s') E { s with heap := s.heap.push (seqObj "list" vs.toArray 0) } := by
  have I1 : Inv X pins σ H { s with heap := s.heap.push (seqObj "list" vs.toArray 0) } := I.kept (t' := s.toks) fun b o e => Heap.get?_push_of_some _ e
  have hoL : (s.heap.push (seqObj "list" vs.toArray 0)).get? s.heap.objs.size = some (seqObj "list" vs.toArray 0) := Heap.get?_push_size _ rfl
  obtain ⟨e1, e2⟩ := each_of I rv B.dp
  have e3 : PySem.W.EachIs (fun v b => ∃ as, Reads (s.heap.push (seqObj "list" vs.toArray 0)) v (enc b) as ∧ s.heap.objs.size ∉ as) vs bs := PySem.W.EachIs.mono (fun v b ⟨as, r⟩ =>
    ⟨as, PyProof.Rows.Reads.keeps (fun b o e => Heap.get?_push_of_some _ e) r, fun z => by
      obtain ⟨o, ho⟩ := PyProof.On.reads_mem_get r _ z
      exact absurd (Heap.lt_size ho) (Nat.lt_irrefl _)⟩) e2
  refine PySem.W.list_sort_data (s := { s with heap := s.heap.push (seqObj "list" vs.toArray 0) }) (A := X.A.in1) hoL e1 e3 B.al B.so B.sz (fun b hb => ?_) fun out hol hout => ?_
  · have h1 := B.de b hb
    show X.A.units + 1 + 1 + (enc b).depth < cLine
    omega
  obtain ⟨c, hc⟩ := PyProof.Rows.sortedHeap_at (vs := vs) (out := out.toArray) hoL
  have hlen : ((bs.mergeSort (PySem.W.dataLe false enc)).map f).length ≤ sizeLine := by
    rw [List.length_map, List.length_mergeSort]
    exact B.sz
  refine ⟨.ref s.heap.objs.size, _, I.laid (t' := s.toks) (o := .lst ((bs.mergeSort (PySem.W.dataLe false enc)).map f)) (fun b u e => ?_) (Nat.le_refl _) ⟨hlen, out, c, vals_each hout, hc⟩, rfl, q _ (I.hok.fresh (Nat.le_refl _))⟩
  have hb : b < s.heap.objs.size := Heap.lt_size e
  show (sortedHeap (s.heap.push (seqObj "list" vs.toArray 0)) s.heap.objs.size vs out.toArray).get? b = some u
  rw [PyProof.Rows.sortedHeap_old (Nat.ne_of_lt hb) (by rw [size_push']; exact Nat.lt_succ_of_lt hb)]
  exact Heap.get?_push_of_some _ e
/-- sorted(xs), a list of data -/
def rSortB (K : PySem.W.Frag) : List V → Hp → VK → Prop := fun xs H Q => ∃ (a : Addr) (γ : Type) (bs : List γ) (f : γ → V) (enc : γ → PyData), xs = [.ref a] ∧ SqL K H a (bs.map f) ∧ SortB K H bs f enc ∧
  ∀ p, H p = none → Q (.ref p) (upd H p (.lst ((bs.mergeSort (PySem.W.dataLe false enc)).map f)))
theorem cr_sortB (hu : X.A.units + 100 < cLine) : CallR X (.builtin "sorted") (rSortB X.K) := by
  intro pins s σ H vs us Q I r h
  obtain ⟨a, γ, bs, f, enc, rfl, hs, B, q⟩ := h
  obtain ⟨its, rv, hl, hz⟩ := I.list hs
  rw [Vals.ref1 r]
  obtain ⟨e1, e2⟩ := each_of I rv B.dp
  refine PySem.W.sorted_data hl.isList e1 e2 B.al B.so B.sz (fun b hb => ?_) fun out hol hout => ?_
  · have h1 := B.de b hb
    omega
  obtain ⟨c, hc⟩ := PyProof.Rows.sortedAll_at s.heap its out.toArray
  have hlen : ((bs.mergeSort (PySem.W.dataLe false enc)).map f).length ≤ sizeLine := by
    rw [List.length_map, List.length_mergeSort]
    exact B.sz
  exact ⟨.ref _, _, I.laid (t' := s.toks) (o := .lst ((bs.mergeSort (PySem.W.dataLe false enc)).map f)) (fun _ _ => PyProof.Rows.sortedAll_old) (Nat.le_succ _) ⟨hlen, out, c, vals_each hout, hc⟩, rfl, q _ (I.hok.fresh (Nat.le_succ _))⟩
theorem dp_lit {K : PySem.W.Frag} {H : Hp} {b : Addr} {l : Lt} (h : H b = some (litT l)) : Dp K H (.ref b) (.tuple [.str l.1, .bool l.2]) := .tup (.inl (.inl h)) (.cons (.str _) (.cons (.bl _) .nil))
/-- a literal as data -/
def litD (l : Lt) : PyData := .tuple [.str l.1, .bool l.2]
theorem alike_lit (a b : Lt) : PySem.W.alike (litD a) (litD b) = true := rfl
theorem sortB_lits {K : PySem.W.Frag} {H : Hp} {bs : List (Lt × Addr)} (h : ∀ b ∈ bs, H b.2 = some (litT b.1)) (hz : bs.length ≤ sizeLine) : SortB K H bs (fun b => V.ref b.2) (fun b => litD b.1) where
  dp b hb := dp_lit (h b hb)
  al := PySem.W.AllAlike.of fun a b => alike_lit a.1 b.1
  so := PySem.W.Sortable.tuples fun b => ⟨_, _, rfl⟩
  sz := hz
  de b hb := by
    show PyData.depth (litD b.1) ≤ 16
    simp [litD, PyData.depth, PyData.depthAll]
/-- sorted(d), d a dict keyed by literals: a list of its keys' tuples -/
def rSortLd (P : Program) (w : World) : List V → Hp → VK → Prop := fun vs H Q => ∃ (a : Addr) (xs : List LE), vs = [.ref a] ∧ LdAt P w H a xs ∧
  ∀ p, H p = none → Q (.ref p) (upd H p (.lst (((xs.map fun x => (x.1, x.2.1)).mergeSort (PySem.W.dataLe false fun b : Lt × Addr => litD b.1)).map fun b => V.ref b.2)))
theorem cr_sortLd (hc : X.calm = true) (hu : X.A.units + 100 < cLine) : CallR X (.builtin "sorted") (rSortLd X.prog X.w) := by
  intro pins s σ H vs us Q I r h
  obtain ⟨a, xs, rfl, g, q⟩ := h
  rw [Vals.ref1 r]
  obtain ⟨z, lo, ys, rel, o, es, ep, h1, h2, h3, h4, h5, h6⟩ := ld_of I.hok g.1 g.2
  have hes : es.size = xs.length := by
    have l1 : es.size = ys.length := size_of_entries h4
    have l2 : xs.length = ys.length := Paired.length rel
    omega
  refine Calls.call_function_entry PyProof.Rows.kind_sorted PyProof.Rows.plain_sorted PyProof.Rows.entry_sorted (PyProof.Rows.args_sorted1 _) ?_
  unfold Builtin.«sorted»
  refine wpAny_bind (m := checkCount "sorted" 1 1 _) (wpAny_pure ?_)
  refine wpAny_bind (PySem.W.kdu_collect (A := X.A.in1) (kdl_raw (prog := X.prog) (w := X.w) (o := o) (es := es) (ep := ep) lo h2 h3) (I.ok.hd hc) h1 (by omega) fun h' tk acc hk hacc => ?_)
  have I1 : Inv X pins σ H { s with heap := h', toks := tk } := I.kept hk
  have rv : Vals ((xs.map fun x => (x.1, x.2.1)).map fun b : Lt × Addr => V.ref b.2) acc.toList := by
    rw [List.map_map]
    refine vals_of_at (by rw [List.length_map, ← hes, ← hacc.1, Array.length_toList]) fun j x u e1 e2 => ?_
    rw [Array.getElem?_toList] at e2
    obtain ⟨en, e3, e4⟩ := hacc.2 j u e2
    rw [List.getElem?_map] at e1
    cases ex : xs[j]? with
    | none => rw [ex] at e1; cases e1
    | some y =>
      rw [ex] at e1
      cases e1
      obtain ⟨b, hb, f1, f2, f3⟩ := paired_get rel ex
      have e5 := entry_at h4 j
      rw [hb, e3] at e5
      cases Option.some.inj e5
      show u = Value.ref y.2.1
      rw [e4, ← f2]
      rfl
  have hal : acc.toList.length ≤ sizeLine := by rw [Array.length_toList, hacc.1]; omega
  refine wpAny_bind (wpAny_newList ?_ hal)
  have B : SortB X.K H (xs.map fun x => (x.1, x.2.1)) (fun b : Lt × Addr => V.ref b.2) (fun b => litD b.1) := sortB_lits (fun b hb => by
    obtain ⟨x, hx, rfl⟩ := List.mem_map.mp hb
    exact g.2 x hx) (by rw [List.length_map]; exact z)
  have key := sort_new (E := X.xe) (Q := Q) hu I1 rv B q
  refine wpAny_bind (wpAny_holding (wpAny_mono key (fun _ s' x => ?_) fun _ _ e => e))
  exact wpAny_pure ⟨_, rfl, x⟩
end
end Fk
/-! Sets of texts made of a list or a tuple; their length; sorted(set(..)). -/
namespace Fk
open PySem PySem.Spec PyProof.Rows L2
/-! ### what a set of texts is -/
def keyX (e : Int × Value) : Str := match e.2 with | .str k _ => k | _ => Str.empty
def GoodX (w : World) (e : Int × Value) : Prop := ∃ k tk, e.2 = Value.str k tk ∧ e.1 = hashStr w k
theorem strK_is (P : Program) (w : World) (k : Str) (tk : Tok) : (strKind P w).is k (.str k tk) = true := by show (k == k) = true; simp

/-- the set of ints at a: S its members, n their number; its table rises and can be walked -/
def SetX (w : World) (h : Heap) (a : Addr) (S : Str → Bool) (n : Nat) : Prop :=
  ∃ o es ep t, h.get? a = some o ∧ o.ExactSet ∧ o.data = .set es ep t ∧ (∀ e ∈ es.toList, GoodX w e) ∧ (es.toList.map keyX).Nodup ∧ (∀ k, S k = true ↔ k ∈ es.toList.map keyX) ∧
    es.size < scanBound ∧ t.fits es.size = true ∧ es.size = n ∧ Ris t.place.toList ∧ (w.params.followText "set-order" = true ∨ t.led = true)

section
variable {P : Program} {w : World} {h h' : Heap} {a : Addr} {S : Str → Bool} {n : Nat}

theorem SetX.at (R : SetX w h a S n) (k : ∀ o, h.get? a = some o → h'.get? a = some o) : SetX w h' a S n := by
  obtain ⟨o, es, ep, t, ho, r⟩ := R
  exact ⟨o, es, ep, t, k o ho, r⟩
theorem SetX.lt (R : SetX w h a S n) : a < h.objs.size := by
  obtain ⟨o, es, ep, t, ho, r⟩ := R
  exact Heap.lt_size ho
theorem SetX.congr {S' : Str → Bool} (R : SetX w h a S n) (e : ∀ k, S' k = S k) : SetX w h a S' n := by
  have q : S' = S := funext e
  rw [q]; exact R
theorem goodX_elems {l : List (Int × Value)} (g : ∀ e ∈ l, GoodX w e) : ElemsOf (strKind P w) l := fun e he => by
  obtain ⟨k, tk, h1, h2⟩ := g e he
  exact ⟨⟨k, by rw [h1]; exact strK_is P w k tk, h2⟩, by rw [h1] <;> rfl⟩
theorem goodX_is {P : Program} {e : Int × Value} (g : GoodX w e) (k : Str) : (strKind P w).is k e.2 = true ↔ keyX e = k := by
  obtain ⟨k0, tk, h1, _⟩ := g
  unfold keyX
  rw [h1]
  show (Value.isStrOf k (.str k0 tk) = true) ↔ k0 = k
  simp only [Value.isStrOf, beq_iff_eq]
theorem goodX_mem {l : List (Int × Value)} (g : ∀ e ∈ l, GoodX w e) (k : Str) : k ∈ l.map keyX ↔ ∃ e ∈ l, (strKind P w).is k e.2 = true := by
  rw [List.mem_map]
  constructor
  · rintro ⟨e, he, q⟩
    exact ⟨e, he, (goodX_is (g e he) k).2 q⟩
  · rintro ⟨e, he, q⟩
    exact ⟨e, he, (goodX_is (g e he) k).1 q⟩
theorem SetX.setOf (R : SetX w h a S n) : h.SetOf (strKind P w) a S n := by
  obtain ⟨o, es, ep, t, ho, hx, hd, g, nd, hm, hb, hf, hn, _⟩ := R
  exact ⟨o, es, ep, t, ho, hx, hd, goodX_elems g, fun k => (hm k).trans (goodX_mem g k), hb, hf, hn⟩
end

section
variable {P : Program} {w : World} {A : Around} {E : Value → Shared → Prop} {s : Shared} {a : Addr} {S : Str → Bool} {n : Nat}

/-! ### add -/
theorem setX_add_tail {g : Bool → Sem Unit} (hg : ∀ (b : Bool) (s₁ : Shared) (Q' : Unit → Shared → Prop), Q' () s₁ → wpAny (model P w) A (g b) Q' E s₁)
    {o : Obj} {es : Array (Int × Value)} {ep : Nat} {t : SetTable} (ho : s.heap.get? a = some o) (hex : o.ExactSet) (hd : o.data = .set es ep t)
    {es1 : Array (Int × Value)} {t2 : SetTable} {S' : Str → Bool} (g1 : ∀ e ∈ es1.toList, GoodX w e) (nd1 : (es1.toList.map keyX).Nodup) (m1 : ∀ k, S' k = true ↔ k ∈ es1.toList.map keyX)
    (hb1 : es1.size < scanBound) (hf2 : t2.fits es1.size = true) (hr : Ris t2.place.toList) (hl : w.params.followText "set-order" = true ∨ t2.led = true) {wasDummy : Bool} {R : Option Bool → Shared → Prop}
    (hR : ∀ h', Heap.SameBut a s.heap h' → SetX w h' a S' es1.size → R (some true) { s with heap := h' }) :
    wpAny (model P w) A (do
        storeSet a es1 t2
        if (!wasDummy && t2.tooFull) = true then do
            g (relayAll t2 es1 (SetTable.grown es1.size)).2.2
            storeSet a (relayAll t2 es1 (SetTable.grown es1.size)).1 (relayAll t2 es1 (SetTable.grown es1.size)).2.1
            pure (some true)
          else pure (some true)) R E s := by
  refine wpAny_bind (wpAny_storeSet_of ho hd ?_ (fits_of_scanBound hb1))
  have ho1 := store_at (es' := es1) (t' := t2) ho hd
  have sb1 := Heap.SameBut.update s.heap a (Obj.putSet es1 t2)
  split
  · have pm := relayAll_perm t2 es1 (SetTable.grown es1.size)
    have hf3 := relayAll_fits t2 es1 (SetTable.grown es1.size)
    have hr3 := relayAll_ris t2 es1 (SetTable.grown es1.size)
    have hl3 := relayAll_led t2 es1 (SetTable.grown es1.size)
    generalize relayAll t2 es1 (SetTable.grown es1.size) = Z at pm hf3 hr3 hl3 ⊢
    obtain ⟨es2, t3, gave⟩ := Z
    dsimp only at pm hf3 hr3 hl3 ⊢
    have hsz : es2.size = es1.size := by rw [← Array.length_toList, pm.length_eq, Array.length_toList]
    have hb2 : es2.size < scanBound := by rw [hsz]; exact hb1
    refine wpAny_bind (hg _ _ _ ?_)
    refine wpAny_bind (wpAny_storeSet_of ho1 rfl ?_ (fits_of_scanBound hb2))
    have ho2 := store_at (es' := es2) (t' := t3) ho1 rfl
    refine wpAny_pure (hR _ (sb1.trans (Heap.SameBut.update _ a _)) ?_)
    exact ⟨_, es2, _, t3, ho2, hex, rfl, fun e he => g1 e (pm.mem_iff.mp he), (pm.map keyX).nodup_iff.mpr nd1, fun k => (m1 k).trans (pm.map keyX).mem_iff.symm, hb2, hf3, hsz, hr3,
      hl.imp id fun z => by rw [hl3]; exact z⟩
  · exact wpAny_pure (hR _ sb1 ⟨_, es1, _, t2, ho1, hex, rfl, g1, nd1, m1, hb1, hf2, rfl, hr, hl⟩)

theorem setX_add_hashed {k : Str} {tk : Tok} {Q : Bool → Shared → Prop} (R : SetX w s.heap a S n) (room : n + 1 < scanBound)
    (hQ : ∀ h', Heap.SameBut a s.heap h' → SetX w h' a (fun j => S j || decide (j = k)) (if S k = true then n else n + 1) → Q (!S k) { s with heap := h' }) :
    wpAny (model P w) A (setAddHashed a (.str k tk) ((strKind P w).hash k)) Q E s := by
  obtain ⟨o, es, ep, t, ho, hex, hd, g, nd, hm, hb, hf, hn, hr, hl⟩ := R
  have hkey : (strKind P w).is k (.str k tk) = true := strK_is P w k tk
  have hsc : (Value.str k tk).scannable = true := rfl
  have hel : ElemsOf (strKind P w) es.toList := goodX_elems g
  unfold setAddHashed setAddHashedIn
  refine wpAny_holding (wpAny_bind (wpAny_setState_of ho hd hf ?_))
  dsimp only
  rw [byScan_of hsc hb hel]
  simp only [↓reduceIte]
  unfold setAddByScan
  refine wpAny_bind ?_
  refine wpAny_bind (wpAny_rule ?_)
  refine wpAny_bind (wpAny_setScan_of hkey ho hd hf hel ?_)
  cases hfi : List.findIdx? (fun e => (strKind P w).is k e.2) es.toList with
  | some j =>
    dsimp only
    obtain ⟨hj, pj, _⟩ := List.findIdx?_eq_some_iff_getElem.mp hfi
    have hSk : S k = true := (hm k).2 ((goodX_mem (P := P) (w := w) g k).2 ⟨es.toList[j], List.getElem_mem hj, pj⟩)
    refine wpAny_pure (wpAny_pure ?_)
    have q := hQ s.heap (Heap.SameBut.refl a s.heap) ⟨o, es, ep, t, ho, hex, hd, g, nd, fun i => by
      rw [Bool.or_eq_true, decide_eq_true_eq, ← hm i]
      exact ⟨fun z => z.elim id (fun e => e ▸ hSk), .inl⟩, hb, hf, by rw [if_pos hSk]; exact hn, hr, hl⟩
    rw [hSk] at q
    exact q
  | none =>
    dsimp only
    have hnk : k ∉ es.toList.map keyX := fun z => by
      obtain ⟨e, he, q⟩ := (goodX_mem (P := P) (w := w) g k).1 z
      have c := List.findIdx?_eq_none_iff.mp hfi e he
      rw [q] at c
      cases c
    have hSk : S k = false := by
      cases q : S k with
      | false => rfl
      | true => exact absurd ((hm k).1 q) hnk
    have hgw : ∀ (b : Bool) {s₁ : Shared} {Q' : Unit → Shared → Prop}, Q' () s₁ → wpAny (model P w) A (match b with | true => rule "set.scan.the-table-gave-way" | false => pure ()) Q' E s₁ :=
      fun b s₁ Q' q => by cases b <;> first | exact wpAny_pure q | exact wpAny_rule q
    have pm := layNew_perm t es ((strKind P w).hash k) (.str k tk)
    have hf1 := layNew_fits t es ((strKind P w).hash k) (.str k tk)
    have hr1 := layNew_ris t es ((strKind P w).hash k) (.str k tk) hr
    have hl1 := layNew_led t es ((strKind P w).hash k) (.str k tk)
    generalize layNew t es ((strKind P w).hash k) (.str k tk) = Z at pm hf1 hr1 hl1 ⊢
    obtain ⟨es1, t1, wasDummy, gave⟩ := Z
    dsimp only at pm hf1 hr1 hl1 ⊢
    rw [Array.toList_push] at pm
    have pc : es1.toList.Perm (((strKind P w).hash k, Value.str k tk) :: es.toList) := pm.trans (List.perm_append_singleton _ _)
    have pk : (es1.toList.map keyX).Perm (k :: es.toList.map keyX) := pc.map keyX
    have g1 : ∀ e ∈ es1.toList, GoodX w e := fun e he => by
      rcases List.mem_cons.mp (pc.mem_iff.mp he) with z | z
      · rw [z]; exact ⟨k, tk, rfl, rfl⟩
      · exact g e z
    have nd1 : (es1.toList.map keyX).Nodup := pk.nodup_iff.mpr (List.nodup_cons.mpr ⟨hnk, nd⟩)
    have m1 : ∀ i, (S i || decide (i = k)) = true ↔ i ∈ es1.toList.map keyX := fun i => by
      rw [Bool.or_eq_true, decide_eq_true_eq, hm i, pk.mem_iff, List.mem_cons]
      exact Or.comm
    have hsz : es1.size = n + 1 := by rw [← Array.length_toList, pc.length_eq, List.length_cons, Array.length_toList, hn]
    have hb1 : es1.size < scanBound := by rw [hsz]; exact room
    have hled : w.params.followText "set-order" = true ∨ t1.led = true := hl.imp id fun z => by rw [hl1]; exact z
    have fin : ∀ h', Heap.SameBut a s.heap h' → SetX w h' a (fun j => S j || decide (j = k)) es1.size → Q true { s with heap := h' } := fun h' sb r => by
      have q := hQ h' sb
      rw [hSk] at q
      rw [hsz] at r
      exact q r
    refine wpAny_bind (hgw _ ?_)
    split
    · refine wpAny_bind ?_
      rw [hashByValue_scannable 8 hsc]
      refine wpAny_pure ?_
      refine setX_add_tail ?_ ho hex hd g1 nd1 m1 hb1 ?_ ?_ ?_ ?_
      · intro b s₁ Q' q; cases b <;> first | exact wpAny_pure q | exact wpAny_rule q
      · first | (split <;> first | exact hf1 | exact SetTable.fits_plain_off hf1) | exact hf1
      · first | (split <;> exact hr1) | exact hr1
      · first | (split <;> exact hled) | exact hled
      · intro h' sb r; dsimp only; exact wpAny_pure (fin h' sb r)
    · refine wpAny_bind (wpAny_pure ?_)
      simp only [↓reduceIte]
      refine setX_add_tail ?_ ho hex hd g1 nd1 m1 hb1 hf1 hr1 hled ?_
      · intro b s₁ Q' q; cases b <;> first | exact wpAny_pure q | exact wpAny_rule q
      · intro h' sb r; dsimp only; exact wpAny_pure (fin h' sb r)

end
/-! ### set(t) of a list, a tuple of texts -/
theorem setX_new_at {w : World} {h : Heap} {a : Addr} {ns : List Str} (ho : h.get? a = some { cls := .type "set", dict := none, data := .set #[] 0 (.fresh 0 0 (!w.params.followText "set-order")) }) : SetX w h a (fun j => decide (j ∈ ns.take 0)) 0 :=
  ⟨_, #[], 0, _, ho, ⟨rfl, rfl, rfl⟩, rfl, (fun e he => by simp at he), (by simp), (fun k => by simp), (by decide), (by rfl), rfl, List.Pairwise.nil, by
    show _ ∨ (!w.params.followText "set-order") = true
    cases w.params.followText "set-order"
    · exact .inr rfl
    · exact .inl rfl⟩
section
variable {P : Program} {w : World} {A : Around} {E : Value → Shared → Prop} {s : Shared}
theorem set_update_txts {I : Addr} {fp wr : List Addr} {G : Array GenState → Array GenState → Prop} {n : Nat} {Pv : Nat → Value → Prop} {St : Nat → Shared → Prop} {R : Result → Shared → Prop}
    (W : WalksS P w A.in1 I fp wr G n Pv St) (S : Addr) (hSf : S ∉ fp) (ns : List Str) (hn : n = ns.length) (hb : ns.length + 1 < scanBound) (hval : ∀ i v, Pv i v → ∃ k t, ns[i]? = some k ∧ v = .str k t) :
    ∀ (k i : Nat) (s : Shared), n - i = k → i ≤ n → St i s → (∃ c, c ≤ i ∧ SetX w s.heap S (fun j => decide (j ∈ ns.take i)) c) →
      (∀ s' c, Moved (S :: wr) G s s' → c ≤ n → SetX w s'.heap S (fun j => decide (j ∈ ns)) c → R (.ok (.ret .none)) s') →
      codeAny (model P w) A (.builtin "set.update.loop" ⟨[.ref S, .ref I], []⟩) R s := by
  have hSw : S ∉ wr := fun h => hSf (W.sub _ h)
  have hsub : ∀ b ∈ wr, b ∈ S :: wr := fun b hb => List.mem_cons_of_mem _ hb
  intro k
  induction k with
  | zero =>
    intro i s hk' hi hst ⟨c, hc, hS⟩ hR
    have hin : i = n := by omega
    subst hin
    refine codeAny_builtin F.entry_set_update_loop ?_
    rw [Around.under_plainId F.plain_set_update_loop _]
    show wpAny _ A.in1 (pyNext (.ref I) >>= _) _ _ s
    refine wpAny_bind (W.done s _ _ hst fun s' hm => ?_)
    show wpAny _ A.in1 (ret Value.none) _ _ s'
    have e : ns.take i = ns := List.take_of_length_le (by omega)
    rw [e] at hS
    exact wpAny_pure (hR s' c (hm.mono hsub) hc (hS.at fun o e => hm.heap S o hSw e))
  | succ k ih =>
    intro i s hk' hi hst ⟨c, hc, hS⟩ hR
    have hlt : i < n := by omega
    refine codeAny_builtin F.entry_set_update_loop ?_
    rw [Around.under_plainId F.plain_set_update_loop _]
    show wpAny _ A.in1 (pyNext (.ref I) >>= _) _ _ s
    refine wpAny_bind (W.item i s _ _ hlt hst fun v s' hP hst' hm => ?_)
    obtain ⟨z, t, hz, rfl⟩ := hval i v hP
    have hS' : SetX w s'.heap S (fun j => decide (j ∈ ns.take i)) c := hS.at fun o e => hm.heap S o hSw e
    show wpAny _ A.in1 (holding [Value.str z t] (setAdd S (.str z t)) >>= _) _ _ s'
    refine wpAny_bind (wpAny_holding ?_)
    unfold setAdd
    refine wpAny_holding ?_
    refine wpAny_bind ((strKind P w).pyHash (k := z) (strK_is _ _ _ _) ?_)
    refine setX_add_hashed (s := { s' with toks := s'.toks + 1 }) hS' (by omega) fun h' hsb hS2 => ?_
    have hS3 : SetX w h' S (fun j => decide (j ∈ ns.take (i + 1))) (if decide (z ∈ ns.take i) = true then c else c + 1) := hS2.congr fun j => by
      rw [List.take_add_one, hz]
      simp [List.mem_append]
    have hc3 : (if decide (z ∈ ns.take i) = true then c else c + 1) ≤ i + 1 := by
      split <;> omega
    refine wpAny_pure ⟨plainId_quiet F.plain_set_update_loop _, ih (i + 1) _ (by omega) hlt (W.frame _ s' _ _ hst' (Nat.le_succ _) fun b hb o e => ?_) ⟨_, hc3, hS3⟩ fun s'' c2 hm'' hc'' hS'' => ?_⟩
    · rw [hsb.2 b (fun h : b = S => hSf (by rw [← h]; exact hb))]; exact e
    · refine hR s'' c2 (Moved.trans W.gtrans ((hm.mono hsub).then_heap (Nat.le_succ _) fun b o hb e => ?_) hm'') hc'' hS''
      rw [hsb.2 b (fun h : b = S => hb (by rw [h]; exact List.mem_cons_self))]; exact e

set_option maxRecDepth 100000 in
set_option maxHeartbeats 3200000 in
theorem call_set_gen {T Ti : String} (hsls : isSubtype (.type T) (.type "set") = pure false) (hslf : isSubtype (.type T) (.type "frozenset") = pure false) (hne : (Value.type T == Value.type "dict") = false) {l : Addr} {items : Array Value} (ns : List Str) {Q : Value → Shared → Prop} (hh : A.handled = none) (hl : ∃ o n, s.heap.get? l = some o ∧ o.cls = .type T ∧ o.data = .seq items n) (hpi : ∀ (A1 : Around) (E1 : Value → Shared → Prop) (Q1 : Value → Shared → Prop) (s1 : Shared), s1.heap.get? l = s.heap.get? l → Q1 (.ref s1.heap.objs.size) { s1 with heap := s1.heap.push { cls := .type Ti, data := .fields #[.ref l, .int 0 0] } } → wpAny (model P w) A1 (pyIter (.ref l)) Q1 E1 s1) (hwk : ∀ (A1 : Around) (I : Addr), A1.handled = none → l ≠ I → ∃ St, Walks P w A1 I [I, l] [I] items.size (fun i v => items[i]? = some v) St ∧ ∀ h : Heap, h.get? I = some { cls := .type Ti, data := .fields #[.ref l, .int 0 0] } → h.get? l = s.heap.get? l → St 0 h) (hit : StrsAre items.toList ns) (hb : ns.length + 1 < scanBound)
    (h : ∀ (h' : Heap) (tk c : Nat), SetX w h' s.heap.objs.size (fun j => decide (j ∈ ns)) c → c ≤ ns.length → (∀ b o, s.heap.get? b = some o → h'.get? b = some o) → Q (.ref s.heap.objs.size) { s with heap := h', toks := tk }) :
    wpAny (model P w) A (call (.type "set") [.ref l]) Q E s := by
  have hisz : items.size = ns.length := by
    have q := StrsAre.length hit
    rw [Array.length_toList] at q
    exact q
  obtain ⟨c, tl, hmro⟩ := F.called_set.mro
  have hmade := F.called_set.made
  have hsub := F.called_set.sub
  refine wpAny_call (codeAny_of_tree ?_)
  show wpAny _ _ (callAny (.type "set") _) _ _ _
  refine wpAny_pure ⟨Code.quiet_builtin _ (by decide +kernel), codeAny_builtin F.entry_type_call ?_⟩
  rw [Around.under_plain (weight_type_call_type "set" [.ref l] []) rfl]
  have h1 := F.called_set.notType
  have h2 := F.called_set.canCreate
  have hct := F.typeCall_set_1 (.ref l)
  repeat (any_goals (first | assumption | wp_step))

  refine codeAny_mono (code_set_led1 (.ref l) (E := E) (Q₁ := fun obj s₁ => obj = .ref s.heap.objs.size ∧ s₁ = { s with heap := s.heap.push { cls := .type "set", dict := none, data := .set #[] 0 (.fresh 0 0 (!w.params.followText "set-order")) } }) ⟨rfl, rfl⟩) fun r s₁ hr => ?_
  cases r with
  | error e => exact hr
  | ok fl =>
    cases fl with
    | ret obj =>
      obtain ⟨rfl, rfl⟩ := hr
      have hS : (s.heap.push { cls := .type "set", dict := none, data := .set #[] 0 (.fresh 0 0 (!w.params.followText "set-order")) }).get? s.heap.objs.size = some { cls := .type "set", dict := none, data := .set #[] 0 (.fresh 0 0 (!w.params.followText "set-order")) } := Heap.get?_push_size _ rfl
      have hT : Shared.TypeIs { s with heap := s.heap.push { cls := .type "set", dict := none, data := .set #[] 0 (.fresh 0 0 (!w.params.followText "set-order")) } } (.ref s.heap.objs.size) "set" := ⟨_, hS, rfl⟩
      have hli := F.called_set.init.lookup
      have hbi := F.called_set.init.bind (.ref s.heap.objs.size)
      repeat (any_goals (first | assumption | wp_step))

      refine codeAny_mono (codeAny_call_builtin (R := wants (fun r s₂ => r = .none ∧ ∃ h' tk c, s₂ = { s with heap := h', toks := tk } ∧ SetX w h' s.heap.objs.size (fun j => decide (j ∈ ns)) c ∧ c ≤ ns.length ∧
          (∀ b o, s.heap.get? b = some o → h'.get? b = some o)) E) F.called_set.init.plain F.entry_set_init (check_set_init_1 hT ?_)) fun r₂ s₂ hr₂ => ?_
      · obtain ⟨ol, nl, hol, hcl, hdl⟩ := hl
        obtain ⟨ocls, odict, odata, oslots⟩ := ol
        simp only at hcl hdl
        subst hcl; subst hdl
        have hol' : (s.heap.push { cls := .type "set", dict := none, data := .set #[] 0 (.fresh 0 0 (!w.params.followText "set-order")) }).get? l = some { cls := .type T, dict := odict, data := .seq items nl, slots := oslots } := Heap.get?_push_of_some _ hol
        unfold Builtin.«set.__init__» noKeywords Builtin.Frozenset.updateFrom
        generalize hPI : pyIter = PI
        wp_walk
        subst hPI

        refine hpi _ _ _ _ (hol'.trans hol.symm) ?_
        refine wpAny_bind (wpAny_runValue ?_)
        have hlS : l < s.heap.objs.size := Heap.lt_size hol
        have hh3 : A.in1.in1.in1.handled = none := by simp [hh]
        have hz1 : (s.heap.push { cls := .type "set", dict := none, data := .set #[] 0 (.fresh 0 0 (!w.params.followText "set-order")) }).objs.size = s.heap.objs.size + 1 := Heap.size_push ..
        have hneI : l ≠ (s.heap.push { cls := .type "set", dict := none, data := .set #[] 0 (.fresh 0 0 (!w.params.followText "set-order")) }).objs.size := by
          rw [Heap.size_push]; exact Nat.ne_of_lt (Nat.lt_succ_of_lt hlS)
        have hSf : s.heap.objs.size ∉ [(s.heap.push { cls := .type "set", dict := none, data := .set #[] 0 (.fresh 0 0 (!w.params.followText "set-order")) }).objs.size, l] := by
          rw [Heap.size_push]; simp only [List.mem_cons, List.mem_singleton, List.not_mem_nil, or_false, not_or]
          exact ⟨Nat.ne_of_lt (Nat.lt_succ_self _), Nat.ne_of_gt hlS⟩
        have hval : ∀ (i : Nat) (v : Value), items[i]? = some v → ∃ k t, ns[i]? = some k ∧ v = .str k t := fun i v hv => by
          have hi : i < ns.length := by rw [← hisz]; exact (Array.getElem?_eq_some_iff.mp hv).1
          obtain ⟨t, e⟩ := SS.strs_at hit i v (by rw [Array.getElem?_toList]; exact hv)
          refine ⟨ns[i], t, List.getElem?_eq_getElem hi, ?_⟩
          rw [e, List.getD_eq_getElem?_getD, List.getElem?_eq_getElem hi] <;> rfl
        obtain ⟨Stt, Wk, st0⟩ := hwk _ _ hh3 hneI
        refine set_update_txts Wk.toS s.heap.objs.size
          hSf ns hisz hb hval (items.size - 0) 0 _ (by omega) (Nat.zero_le _)
          (st0 _ (Heap.get?_push_size _ rfl) ((Heap.get?_push_of_some _ hol').trans hol.symm)) ?hS0 ?hR
        case hS0 =>
          have hget : ((s.heap.push { cls := .type "set", dict := none, data := .set #[] 0 (.fresh 0 0 (!w.params.followText "set-order")) }).push { cls := .type Ti, data := .fields #[.ref l, .int 0 0] }).get? s.heap.objs.size
              = some { cls := .type "set", dict := none, data := .set #[] 0 (.fresh 0 0 (!w.params.followText "set-order")) } := Heap.get?_push_of_some _ hS
          exact ⟨0, Nat.le_refl 0, setX_new_at hget⟩
        case hR =>
          intro s' c' hm hc' hS'
          obtain ⟨h', g2, d', tk', os'⟩ := s'
          have eg : g2 = s.gens := hm.gens
          have ed : d' = s.drawn := hm.drawn
          have eo : os' = s.os := hm.os
          subst eg; subst ed; subst eo
          show wpAny _ _ _ _ _ _
          refine wpAny_pure ?_
          show wpAny _ _ (ret Value.none) _ _ _
          rw [hisz] at hc'
          refine wpAny_pure ⟨rfl, h', tk', c', rfl, hS', hc', fun b o e => ?_⟩
          have hb0 : b < s.heap.objs.size := Heap.lt_size e
          have hb1 : b ≠ s.heap.objs.size := Nat.ne_of_lt hb0
          have hb2 : b ≠ (s.heap.push { cls := .type "set", dict := none, data := .set #[] 0 (.fresh 0 0 (!w.params.followText "set-order")) }).objs.size := by
            rw [Heap.size_push]; exact Nat.ne_of_lt (Nat.lt_succ_of_lt hb0)
          exact hm.heap b o (by simp only [List.mem_cons, List.mem_singleton, List.not_mem_nil, or_false, not_or]; exact ⟨hb1, hb2⟩) (Heap.get?_push_of_some _ (Heap.get?_push_of_some _ e))

      · cases r₂ with
        | error e => exact hr₂
        | ok fl₂ =>
          cases fl₂ with
          | ret r =>
            obtain ⟨rfl, h', tk, c', rfl, hS', hc', hk'⟩ := hr₂
            repeat (any_goals (first | assumption | wp_step))
            exact h _ _ _ hS' hc' hk'
          | _ => exact hr₂.elim
    | _ => exact hr.elim

theorem call_set_lst {l : Addr} {items : Array Value} (ns : List Str) {Q : Value → Shared → Prop} (hh : A.handled = none) (hl : s.heap.IsList l items) (hit : StrsAre items.toList ns) (hb : ns.length + 1 < scanBound)
    (h : ∀ (h' : Heap) (tk c : Nat), SetX w h' s.heap.objs.size (fun j => decide (j ∈ ns)) c → c ≤ ns.length → (∀ b o, s.heap.get? b = some o → h'.get? b = some o) → Q (.ref s.heap.objs.size) { s with heap := h', toks := tk }) :
    wpAny (model P w) A (call (.type "set") [.ref l]) Q E s := by
  obtain ⟨ol, hol, hcl, nl, hdl⟩ := hl
  exact call_set_gen (T := "list") (Ti := "list_iterator") F.sub_list_set F.sub_list_frozenset (by decide) ns hh ⟨ol, nl, hol, hcl, hdl⟩ (fun A1 E1 Q1 s1 e q => wpAny_pyIter_list (items := items) ⟨ol, e.trans hol, hcl, nl, hdl⟩ q)
    (fun A1 I h0 hne => ⟨_, Walks.list h0 I l hne items, fun h hi e => ⟨⟨_, hi, rfl, rfl⟩, ⟨ol, e.trans hol, hcl, nl, hdl⟩⟩⟩) hit hb h
theorem call_set_tup {l : Addr} {items : Array Value} (ns : List Str) {Q : Value → Shared → Prop} (hh : A.handled = none) (hl : s.heap.IsTuple l items) (hit : StrsAre items.toList ns) (hb : ns.length + 1 < scanBound)
    (h : ∀ (h' : Heap) (tk c : Nat), SetX w h' s.heap.objs.size (fun j => decide (j ∈ ns)) c → c ≤ ns.length → (∀ b o, s.heap.get? b = some o → h'.get? b = some o) → Q (.ref s.heap.objs.size) { s with heap := h', toks := tk }) :
    wpAny (model P w) A (call (.type "set") [.ref l]) Q E s := by
  obtain ⟨ol, hol, hcl, nl, hdl⟩ := hl
  exact call_set_gen (T := "tuple") (Ti := "tuple_iterator") F.sub_tuple_set F.sub_tuple_frozenset (by decide) ns hh ⟨ol, nl, hol, hcl, hdl⟩ (fun A1 E1 Q1 s1 e q => wpAny_pyIter_tuple (items := items) ⟨ol, e.trans hol, hcl, nl, hdl⟩ q)
    (fun A1 I h0 hne => ⟨_, Walks.tuple h0 I l hne items, fun h hi e => ⟨⟨_, hi, rfl, rfl⟩, ⟨ol, e.trans hol, hcl, nl, hdl⟩⟩⟩) hit hb h

end
end Fk
/-! Sets of texts as things of the heap: set(xs), len(set), sorted(set). -/
namespace Fk
open PySem PySem.Spec PyProof.Rows L2
theorem perm_of_nodup {α : Type} [DecidableEq α] : ∀ {l m : List α}, l.Nodup → m.Nodup → (∀ x, x ∈ l ↔ x ∈ m) → l.length = m.length
  | [], m, _, _, h => by
    cases m with
    | nil => rfl
    | cons a m => exact absurd ((h a).mpr (by simp)) (by simp)
  | a :: l, m, hl, hm, h => by
    obtain ⟨h1, h2⟩ := List.nodup_cons.mp hl
    have ha : a ∈ m := (h a).mp (by simp)
    have key := perm_of_nodup (l := l) (m := m.erase a) h2 (hm.erase a) fun x => by
      rw [hm.mem_erase_iff]
      constructor
      · intro hx
        exact ⟨fun e => h1 (e ▸ hx), (h x).mp (by simp [hx])⟩
      · rintro ⟨hne, hx⟩
        rcases List.mem_cons.mp ((h x).mpr hx) with e | e
        · exact absurd e hne
        · exact e
    rw [List.length_erase_of_mem ha] at key
    have := List.length_pos_of_mem ha
    simp only [List.length_cons]
    omega
/-- the set of the texts of ns at a, n of them -/
def setO (w : World) (a : Addr) (ns : List Str) (n : Nat) : HO := .ext fun h => SetX w h a (fun j => decide (j ∈ ns)) n
section
variable {X : Cx} {pins : List (Addr × Obj)} {σ : L2.St} {H : Hp} {s : Shared} {a : Addr} {ns : List Str} {n : Nat}
theorem setO_ok {P : Program} {w : World} {h : Heap} (R : SetX w h a (fun j => decide (j ∈ ns)) n) : ObjOk P w H h a (setO w a ns n) :=
  ⟨R, let ⟨o, _, _, _, ho, _⟩ := R; ⟨o, ho⟩, fun _ _ r k => r.at k⟩
theorem setO_at (I : Inv X pins σ H s) (e : H a = some (setO X.w a ns n)) : SetX X.w s.heap a (fun j => decide (j ∈ ns)) n := by
  obtain ⟨R, _⟩ := (show ObjOk X.prog X.w H s.heap a (setO X.w a ns n) from I.hok a _ e)
  exact R
/-- the number of members, where none is twice -/
theorem setX_count {w : World} {h : Heap} (R : SetX w h a (fun j => decide (j ∈ ns)) n) : (∃ ks : List Str, ks.Nodup ∧ (∀ k, k ∈ ks ↔ k ∈ ns) ∧ ks.length = n) := by
  obtain ⟨o, es, ep, t, ho, hx, hd, g, nd, hm, hb, hf, hn, _⟩ := R
  refine ⟨es.toList.map keyX, nd, fun k => ?_, by rw [List.length_map, Array.length_toList]; exact hn⟩
  rw [← hm k]
  simp
def rSetOf (K : PySem.W.Frag) (w : World) : List V → Hp → VK → Prop := fun xs H Q => ∃ (p : Addr) (ns : List Str), xs = [.ref p] ∧ (SqL K H p (ns.map V.str) ∨ SqT K H p (ns.map V.str)) ∧ ns.length ≤ 100 ∧
  ∀ q c, H q = none → (∃ ks : List Str, ks.Nodup ∧ (∀ k, k ∈ ks ↔ k ∈ ns) ∧ ks.length = c) → Q (.ref q) (upd H q (setO w q ns c))
theorem cr_setOf (hc : X.calm = true) : CallR X (.type "set") (rSetOf X.K X.w) := by
  intro pins s σ H xs us Q I r h
  obtain ⟨p, ns, rfl, hs, hl, q⟩ := h
  rw [Vals.ref1 r]
  have hb : ns.length + 1 < scanBound := by unfold scanBound; omega
  have fin : ∀ (h' : Heap) (tk c : Nat), SetX X.w h' s.heap.objs.size (fun j => decide (j ∈ ns)) c → c ≤ ns.length → (∀ b o, s.heap.get? b = some o → h'.get? b = some o) → EP X pins σ Q (.ref s.heap.objs.size) { s with heap := h', toks := tk } := fun h' tk c R _ hk =>
    ⟨.ref s.heap.objs.size, _, I.laid (t' := tk) (o := setO X.w s.heap.objs.size ns c) hk (Nat.le_refl _) (setO_ok R), rfl, q _ c (I.hok.fresh (Nat.le_refl _)) (setX_count R)⟩
  rcases hs with hs | hs
  · obtain ⟨its, rv, pl, _⟩ := I.list hs
    exact call_set_lst ns (I.ok.hd hc) pl.isList (by simpa using strsAre_of rv) hb fin
  · obtain ⟨its, rv, pl, _⟩ := I.tuple hs
    exact call_set_tup ns (I.ok.hd hc) pl (by simpa using strsAre_of rv) hb fin
def rLenSet (w : World) : List V → Hp → VK → Prop := fun xs H Q => ∃ (p : Addr) (ns : List Str) (c : Nat), xs = [.ref p] ∧ H p = some (setO w p ns c) ∧ c ≤ 1000 ∧ Q (.int (c : Nat)) H
theorem cr_lenSet : CallR X (.builtin "len") (rLenSet X.w) := by
  intro pins s σ H xs us Q I r h
  obtain ⟨p, ns, c, rfl, hp, hl, q⟩ := h
  rw [Vals.ref1 r]
  obtain ⟨o, es, ep, t, ho, hex, hd, g, nd, hm, hb, hf, hn, _⟩ := setO_at I hp
  exact call_len_set ho hex hd hf (by rw [hn]; omega) ⟨.int c, H, I.tok _, ⟨_, by rw [hn]⟩, q⟩
theorem inv_same {s1 : Shared} (I : Inv X pins σ H s) (k : ∀ b o, s.heap.get? b = some o → s1.heap.get? b = some o) (g : s1.gens = s.gens) (o : s1.os = s.os) : Inv X pins σ H s1 := by
  have J : Inv X pins σ H { s with heap := s1.heap, gens := s1.gens, drawn := s1.drawn, toks := s1.toks } :=
    I.call (ch := []) (Un.kept k) (I.hok.kept k) (by rw [g]; exact I.bare) (fun _ z => nomatch z)
  have e : s1 = { s with heap := s1.heap, gens := s1.gens, drawn := s1.drawn, toks := s1.toks } := by
    cases s1
    cases s
    cases o
    rfl
  rw [e]
  exact J
def txtOf : Value → Str
  | .str x _ => x
  | _ => Str.empty
theorem vals_txt : ∀ vs : List Value, (∀ v ∈ vs, ∃ k tk, v = Value.str k tk) → Vals ((vs.map txtOf).map V.str) vs
  | [], _ => .nil
  | v :: vs, h => by
    obtain ⟨k, tk, rfl⟩ := h v (by simp)
    exact .cons ⟨tk, rfl⟩ (vals_txt vs fun u hu => h u (by simp [hu]))
/-- sorted(set of texts): a list of the members -/
def rSortSet (w : World) : List V → Hp → VK → Prop := fun xs H Q => ∃ (p : Addr) (ns : List Str) (c : Nat), xs = [.ref p] ∧ H p = some (setO w p ns c) ∧
  ∀ (ys : List Str) (l : Addr), ys.Nodup → (∀ k, k ∈ ys ↔ k ∈ ns) → H l = none → Q (.ref l) (upd H l (.lst (ys.map V.str)))
theorem cr_sortSet (hc : X.calm = true) (hu : X.A.units + 100 < cLine) : CallR X (.builtin "sorted") (rSortSet X.w) := by
  intro pins s σ H xs us Q I r h
  obtain ⟨p, ns, c, rfl, hp, q⟩ := h
  rw [Vals.ref1 r]
  obtain ⟨o, es, ep, t, ho, hex, hd, g, nd, hm, hb, hf, hn, hr, hl⟩ := setO_at I hp
  refine Calls.call_function_entry PyProof.Rows.kind_sorted PyProof.Rows.plain_sorted PyProof.Rows.entry_sorted (PyProof.Rows.args_sorted1 _) ?_
  unfold Builtin.«sorted»
  refine wpAny_bind (m := checkCount "sorted" 1 1 _) (wpAny_pure ?_)
  refine wpAny_bind (collect_set (A := X.A.in1) (I.ok.hd hc) ⟨o, ho, hex.1, hd⟩ hf hb hr hl fun s1 vs k1 hz g1 o1 pm => ?_)
  have hlen : vs.length ≤ sizeLine := by
    rw [pm.length_eq, List.length_map, Array.length_toList, sizeLine_eq]
    unfold scanBound at hb
    omega
  have I1 : Inv X pins σ H s1 := inv_same I k1 g1 o1
  have hstr : ∀ v ∈ vs, ∃ k tk, v = Value.str k tk := fun v hv => by
    obtain ⟨e, he, rfl⟩ := List.mem_map.mp (pm.mem_iff.mp hv)
    obtain ⟨k, tk, h1, _⟩ := g e he
    exact ⟨k, tk, h1⟩
  have rv : Vals ((vs.map txtOf).map V.str) vs := vals_txt vs hstr
  have pk : (vs.map txtOf).Perm (es.toList.map keyX) := by
    have q := pm.map txtOf
    rw [List.map_map] at q
    refine q.trans (List.Perm.of_eq (List.map_congr_left fun e he => ?_))
    obtain ⟨k, tk, h1, _⟩ := g e he
    show txtOf e.2 = keyX e
    unfold keyX txtOf
    rw [h1]
  refine wpAny_bind (wpAny_newList ?_ hlen)
  have B : SortB X.K H (vs.map txtOf) V.str PyData.str := ⟨fun b _ => .str b, PySem.W.AllAlike.of fun _ _ => rfl, PySem.W.Sortable.others fun b => ⟨(by intro z; cases z), fun xs z => by cases z⟩, by rw [List.length_map]; exact hlen, fun b _ => by show 0 ≤ 16; omega⟩
  have key := sort_new (E := X.xe) (Q := Q) hu I1 rv B fun l hn => q _ l ((List.mergeSort_perm _ _).nodup_iff.mpr (pk.nodup_iff.mpr nd)) (fun k => by
    rw [(List.mergeSort_perm _ _).mem_iff, pk.mem_iff, ← hm k]
    simp) hn
  refine wpAny_bind (wpAny_holding (wpAny_mono key (fun _ s' x => ?_) fun _ _ e => e))
  exact wpAny_pure ⟨_, rfl, x⟩
end
end Fk
/-! The package's own errors: a base's __init__ called by name, isinstance of an error that has fields. -/
namespace Fk
open PySem PySem.Spec PyProof.Rows L2
/-- what is asked of a class that inherits its __init__ from ValueError, to call C.__init__(self, ..) -/
structure BaseI (K : PySem.W.Frag) (C : Addr) : Prop where
  sp : PySem.W.specialIn K (.ref C) "__getattribute__" = some (some (.builtin "type.__getattribute__"))
  rd : PySem.W.readsIn K C (.type "type") = true
  fd : PySem.W.findCls K (.ref C) (.type "type") "__init__" = some (.val (.builtin "ValueError.__init__"))
section
variable {X : Cx} {x : Str} {C : Addr} {e : Expr} {es : List Expr} {ta : TA} {p1 p2 pos : Pos}
/-- C.__init__(self, ..) -/
theorem pe_baseinit {pl : Sem Bool} (hg : Gl X x) (hm : X.mg x = some (.ref C)) (B : BaseI X.K C) (ha : PA X (e :: es) ta) (hdb : (x == ("__debug__" : Str)) = false := by decide)
    (hc : eval (.Call (.Attribute (.Name x p1) "__init__" p2) (e :: es) [] pos) X.env = (do
      let ov ← eval (.Name x p1) X.env
      standAt p2.atName
      let (f, first) ← holding [ov] (getMethod ov "__init__" pl)
      callWith pos f first (backTo pos (starEach (e :: es) X.env)) (backToKw pos (keywordEach [] X.env))) := by rfl)
    (he : starEach (e :: es) X.env = (false, eval e X.env) :: starEach es X.env := by rfl) (hpl : (backTo pos (starEach es X.env)).any (·.1) = false := by rfl) :
    PE X (.Call (.Attribute (.Name x p1) "__init__" p2) (e :: es) [] pos) (tVeI X.K ta) := by
  refine ⟨fun pins s σ H Q I h => ?_⟩
  refine PySem.W.methodCall_KW (ld_glob I hg hm ?_ hdb) hc
  refine PySem.W.method_cls I.kIn B.sp (PySem.W.cls_value I.kIn B.rd B.fd (by rfl) ?_)
  show wpAny _ _ (callWith pos (Value.builtin "ValueError.__init__") [] (backTo pos (starEach (e :: es) X.env)) []) _ _ _
  refine PyProof.Rows.callWith_method1 (thn (ha.run pos pins _ σ H _ (I.tok _) h) fun us s1 ⟨vs, H1, I1, r1, a, D, ws, ev, hl, T, ea, q⟩ => ?_) he hpl
  subst ev
  cases r1 with
  | @cons _ u0 _ ur ra rw' =>
    obtain rfl : u0 = Value.ref a := ra
    have hlen : ur.length ≤ sizeLine := by
      rw [← Paired.length rw', sizeLine_eq]
      omega
    exact oinit_ok T I1 ea hlen fun s' J => ⟨.non, H1, J, rfl, q⟩
/-- isinstance(e, c), e an error with a dict of its own -/
theorem call_isED {a D dd : Addr} {oe : Obj} {pn : List (Addr × Obj)} (C : ExcC X.K D) (hz : Zc (.ref D) (some dd) oe) (hf : ∃ vs, oe.data = .fields vs) :
    CallR (X.suite a ((a, oe) :: pn)) (.builtin "isinstance") (fun xs H Q => (∃ fs, H dd = some (.xd fs)) ∧ rIsE X.K D a xs H Q) := by
  intro pins s σ H xs us Q I r h
  obtain ⟨⟨fs, hd⟩, c, cv, b, rfl, hcv, e, q⟩ := h
  cases r with
  | cons rx rr =>
    cases rr with
    | cons rt rr =>
      cases rr
      cases rx
      have ec := hcv _ rt
      subst ec
      obtain ⟨hget, _⟩ := I.pin (a, oe) (List.mem_append.mpr (.inl List.mem_cons_self))
      obtain ⟨vs, hv⟩ := hf
      obtain ⟨mA, ⟨od, es, ep, e1, e2⟩, _⟩ := (show ObjOk X.prog X.w H s.heap dd (.xd fs) from I.hok dd _ hd)
      have J : PySem.W.InstAt s.heap a oe D (some od) := by
        obtain ⟨oc, odd, oda, osl⟩ := oe
        obtain ⟨h1, h2⟩ := hz
        dsimp only at h1 h2 hv
        subst h1 h2 hv
        exact ⟨hget, rfl, rfl, e1⟩
      have hcl : (PySem.W.clsIn X.K D).isSome = true := by
        obtain ⟨cd, hc, _⟩ := PySem.W.any_some C.hd
        rw [hc]
        rfl
      exact PySem.W.kia_one (PySem.W.kitx_exc (od := some od) hcl C.hg C.hk C.hs C.ha C.hn C.ht C.hm) I.kIn J e (fun z => nomatch z) fun tk => ⟨.bl b, H, I.kept (t' := tk) fun _ _ z => z, rfl, q⟩
end
end Fk
/-! Mathematics for law_k04: literals, chains, 2-SAT; core Lean alone. -/
namespace Fc
variable {α : Type}
abbrev Lit (α : Type) := α × Bool
def neg (l : Lit α) : Lit α := (l.1, !l.2)
theorem neg_neg (l : Lit α) : neg (neg l) = l := by
  cases l with
  | mk a b => simp [neg]
theorem neg_inj {x y : Lit α} (h : neg x = neg y) : x = y := by
  rw [← neg_neg x, ← neg_neg y, h]
abbrev Cls (α : Type) := List (Lit α × Lit α)
/-- a step of some clause -/
def Edge (cs : Cls α) (x y : Lit α) : Prop := ∃ c ∈ cs, (neg c.1 = x ∧ c.2 = y) ∨ (neg c.2 = x ∧ c.1 = y)
theorem Edge.contra {cs : Cls α} {x y : Lit α} (h : Edge cs x y) : Edge cs (neg y) (neg x) := by
  obtain ⟨c, hc, h⟩ := h
  rcases h with ⟨h1, h2⟩ | ⟨h1, h2⟩
  · exact ⟨c, hc, .inr ⟨by rw [h2], by rw [← h1, neg_neg]⟩⟩
  · exact ⟨c, hc, .inl ⟨by rw [h2], by rw [← h1, neg_neg]⟩⟩
/-- paths by their number of steps -/
inductive Pth (cs : Cls α) : Lit α → Lit α → Nat → Prop
  | nil (x : Lit α) : Pth cs x x 0
  | cons {x y z : Lit α} {k : Nat} : Edge cs x y → Pth cs y z k → Pth cs x z (k + 1)
theorem Pth.trans {cs : Cls α} {x y z : Lit α} {j k : Nat} (a : Pth cs x y j) (b : Pth cs y z k) : Pth cs x z (j + k) := by
  induction a with
  | nil x => rw [Nat.zero_add]; exact b
  | cons e _ ih => rw [Nat.succ_add]; exact .cons e (ih b)
theorem Pth.snoc {cs : Cls α} {x y z : Lit α} {k : Nat} (a : Pth cs x y k) (e : Edge cs y z) : Pth cs x z (k + 1) := a.trans (.cons e (.nil z))
theorem Pth.contra {cs : Cls α} {x y : Lit α} {k : Nat} (a : Pth cs x y k) : Pth cs (neg y) (neg x) k := by
  induction a with
  | nil x => exact .nil _
  | cons e _ ih => exact ih.snoc e.contra
theorem Pth.last {cs : Cls α} {x z : Lit α} : ∀ {k : Nat}, Pth cs x z (k + 1) → ∃ y, Pth cs x y k ∧ Edge cs y z
  | 0, .cons e (.nil _) => ⟨_, .nil _, e⟩
  | k + 1, .cons e a => by
    obtain ⟨y, p, f⟩ := Pth.last a
    exact ⟨y, .cons e p, f⟩
def Reach (cs : Cls α) (x y : Lit α) : Prop := ∃ k, Pth cs x y k
theorem Reach.refl {cs : Cls α} (x : Lit α) : Reach cs x x := ⟨0, .nil x⟩
theorem Reach.trans {cs : Cls α} {x y z : Lit α} (a : Reach cs x y) (b : Reach cs y z) : Reach cs x z := by
  obtain ⟨j, a⟩ := a
  obtain ⟨k, b⟩ := b
  exact ⟨_, a.trans b⟩
theorem Reach.edge {cs : Cls α} {x y : Lit α} (e : Edge cs x y) : Reach cs x y := ⟨1, .cons e (.nil y)⟩
theorem Reach.contra {cs : Cls α} {x y : Lit α} (a : Reach cs x y) : Reach cs (neg y) (neg x) := by
  obtain ⟨k, a⟩ := a
  exact ⟨k, a.contra⟩
/-- from y's contrary to x, x's contrary to y -/
theorem Reach.flip {cs : Cls α} {x y : Lit α} (a : Reach cs (neg y) x) : Reach cs (neg x) y := by
  have := a.contra
  rwa [neg_neg] at this
/-! ### sets of names -/
def val (S : α → Bool) (l : Lit α) : Prop := S l.1 = l.2
def Sat (cs : Cls α) (S : α → Bool) : Prop := ∀ c ∈ cs, val S c.1 ∨ val S c.2
theorem val_neg {S : α → Bool} {l : Lit α} : val S (neg l) ↔ ¬ val S l := by
  unfold val neg
  cases h : S l.1 <;> cases h2 : l.2 <;> simp
theorem Sat.edge {cs : Cls α} {S : α → Bool} (h : Sat cs S) {x y : Lit α} (e : Edge cs x y) (v : val S x) : val S y := by
  obtain ⟨c, hc, q⟩ := e
  rcases q with ⟨h1, h2⟩ | ⟨h1, h2⟩
  · rcases h c hc with a | a
    · rw [← h1, val_neg] at v; exact absurd a v
    · rw [← h2]; exact a
  · rcases h c hc with a | a
    · rw [← h2]; exact a
    · rw [← h1, val_neg] at v; exact absurd a v
theorem Sat.pth {cs : Cls α} {S : α → Bool} (h : Sat cs S) {x y : Lit α} {k : Nat} (p : Pth cs x y k) (v : val S x) : val S y := by
  induction p with
  | nil _ => exact v
  | cons e _ ih => exact ih (h.edge e v)
theorem Sat.reach {cs : Cls α} {S : α → Bool} (h : Sat cs S) {x y : Lit α} (p : Reach cs x y) (v : val S x) : val S y := by
  obtain ⟨k, p⟩ := p
  exact h.pth p v
/-- no name is both forced and forbidden -/
def Free (cs : Cls α) (names : List α) : Prop := ∀ n ∈ names, ¬ (Reach cs (n, false) (n, true) ∧ Reach cs (n, true) (n, false))
/-- a set of literals that is closed and without contraries -/
structure Good (cs : Cls α) (T : Lit α → Prop) : Prop where
  closed : ∀ x y, T x → Reach cs x y → T y
  cons : ∀ x, T x → ¬ T (neg x)
theorem Good.start {cs : Cls α} {L : List (Lit α)} (h : ∀ a ∈ L, ∀ b ∈ L, ¬ Reach cs a (neg b)) : Good cs (fun y => ∃ a ∈ L, Reach cs a y) where
  closed := fun x y ⟨a, ha, r⟩ q => ⟨a, ha, r.trans q⟩
  cons := fun x ⟨a, ha, r⟩ ⟨b, hb, q⟩ => by
    have q' := q.contra
    rw [neg_neg] at q'
    exact h a ha b hb (r.trans q')
theorem Good.add {cs : Cls α} {T : Lit α → Prop} (g : Good cs T) {x : Lit α} (h1 : ¬ Reach cs x (neg x)) (h2 : ¬ T (neg x)) : Good cs (fun y => T y ∨ Reach cs x y) where
  closed := fun y z h q => by
    rcases h with h | h
    · exact .inl (g.closed y z h q)
    · exact .inr (h.trans q)
  cons := fun y h q => by
    rcases h with h | h
    · rcases q with q | q
      · exact g.cons y h q
      · -- x leads to y's contrary, T y: y leads to x's contrary
        have r := q.contra
        rw [neg_neg] at r
        exact h2 (g.closed _ _ h r)
    · rcases q with q | q
      · have r := h.contra
        exact h2 (g.closed _ _ q r)
      · have r := q.contra
        rw [neg_neg] at r
        exact h1 (h.trans r)
theorem Good.decide {cs : Cls α} {names : List α} (hF : Free cs names) : ∀ (l : List α), (∀ n ∈ l, n ∈ names) → ∀ T : Lit α → Prop, Good cs T → ∃ T' : Lit α → Prop, Good cs T' ∧ (∀ x, T x → T' x) ∧ ∀ n ∈ l, T' (n, true) ∨ T' (n, false)
  | [], _, T, g => ⟨T, g, fun _ h => h, fun n hn => by cases hn⟩
  | n :: l, hl, T, g => by
    have hn : n ∈ names := hl n (by simp)
    have hl' : ∀ m ∈ l, m ∈ names := fun m hm => hl m (by simp [hm])
    have key : ∃ T1 : Lit α → Prop, Good cs T1 ∧ (∀ x, T x → T1 x) ∧ (T1 (n, true) ∨ T1 (n, false)) := by
      by_cases c1 : T (n, true)
      · exact ⟨T, g, fun _ h => h, .inl c1⟩
      · by_cases c2 : T (n, false)
        · exact ⟨T, g, fun _ h => h, .inr c2⟩
        · by_cases c3 : Reach cs (n, true) (n, false)
          · have c4 : ¬ Reach cs (n, false) (n, true) := fun q => hF n hn ⟨q, c3⟩
            exact ⟨_, g.add (x := (n, false)) c4 c1, fun _ h => .inl h, .inr (.inr (Reach.refl _))⟩
          · exact ⟨_, g.add (x := (n, true)) c3 c2, fun _ h => .inl h, .inl (.inr (Reach.refl _))⟩
    obtain ⟨T1, g1, s1, d1⟩ := key
    obtain ⟨T2, g2, s2, d2⟩ := Good.decide hF l hl' T1 g1
    refine ⟨T2, g2, fun x h => s2 x (s1 x h), fun m hm => ?_⟩
    rcases List.mem_cons.mp hm with rfl | hm
    · exact d1.imp (s2 _) (s2 _)
    · exact d2 m hm
/-- the clauses speak of names alone -/
def Over (cs : Cls α) (names : List α) : Prop := ∀ c ∈ cs, c.1.1 ∈ names ∧ c.2.1 ∈ names
/-- 2-SAT: literals of which none leads to the contrary of one can all be made true -/
theorem extend {cs : Cls α} {names : List α} (hO : Over cs names) (hF : Free cs names) {L : List (Lit α)} (h : ∀ a ∈ L, ∀ b ∈ L, ¬ Reach cs a (neg b)) : ∃ S : α → Bool, Sat cs S ∧ ∀ a ∈ L, val S a := by
  obtain ⟨T, g, s, d⟩ := Good.decide hF names (fun _ h => h) _ (Good.start h)
  classical
  let S : α → Bool := fun n => Decidable.decide (T (n, true))
  have hv : ∀ x : Lit α, T x → val S x := fun x hx => by
    obtain ⟨n, b⟩ := x
    cases b with
    | true => exact decide_eq_true hx
    | false => exact decide_eq_false fun q => g.cons _ hx q
  refine ⟨S, fun c hc => ?_, fun a ha => hv a (s a ⟨a, ha, Reach.refl a⟩)⟩
  have hn := (hO c hc).1
  have : T c.1 ∨ T (neg c.1) := by
    obtain ⟨⟨n, b⟩, y⟩ := c
    cases b with
    | true => exact d n hn
    | false => exact (d n hn).symm
  rcases this with t | t
  · exact .inl (hv _ t)
  · exact .inr (hv _ (g.closed _ _ t (Reach.edge ⟨c, hc, .inl ⟨rfl, rfl⟩⟩)))
theorem sat_iff {cs : Cls α} {names : List α} (hO : Over cs names) : (∃ S, Sat cs S) ↔ Free cs names := by
  constructor
  · rintro ⟨S, hS⟩ n _ ⟨h1, h2⟩
    cases e : S n with
    | true => have := hS.reach h2 (show S n = true from e); rw [val] at this; simp [e] at this
    | false => have := hS.reach h1 (show S n = false from e); rw [val] at this; simp [e] at this
  · intro hF
    obtain ⟨S, hS, _⟩ := extend hO hF (L := []) (by simp)
    exact ⟨S, hS⟩
/-- the given names can be completed -/
theorem given_iff {cs : Cls α} {names : List α} (hO : Over cs names) (hF : Free cs names) (G : List α) : (∃ S, Sat cs S ∧ ∀ a ∈ G, S a = true) ↔ ¬ ∃ a ∈ G, ∃ b ∈ G, Reach cs (a, true) (b, false) := by
  constructor
  · rintro ⟨S, hS, hG⟩ ⟨a, ha, b, hb, r⟩
    have := hS.reach r (show S a = true from hG a ha)
    rw [val, hG b hb] at this
    cases this
  · intro h
    obtain ⟨S, hS, hL⟩ := extend hO hF (L := G.map fun a => (a, true)) (by
      intro a ha b hb r
      obtain ⟨x, hx, rfl⟩ := List.mem_map.mp ha
      obtain ⟨y, hy, rfl⟩ := List.mem_map.mp hb
      exact h ⟨x, hx, y, hy, r⟩)
    exact ⟨S, hS, fun a ha => hL (a, true) (List.mem_map.mpr ⟨a, ha, rfl⟩)⟩
/-- a name that is not given is in every completion | in none: by chains -/
theorem forced_iff {cs : Cls α} {names : List α} (hO : Over cs names) (hF : Free cs names) {G : List α} (hG : ¬ ∃ a ∈ G, ∃ b ∈ G, Reach cs (a, true) (b, false)) (n : α) (t : Bool) :
    (∀ S, Sat cs S → (∀ a ∈ G, S a = true) → S n = t) ↔ ((∃ a ∈ G, Reach cs (a, true) (n, t)) ∨ Reach cs (n, !t) (n, t)) := by
  constructor
  · intro h
    apply Classical.byContradiction
    intro hn
    have hn1 : ∀ a ∈ G, ¬ Reach cs (a, true) (n, t) := fun a ha r => hn (.inl ⟨a, ha, r⟩)
    have hn2 : ¬ Reach cs (n, !t) (n, t) := fun r => hn (.inr r)
    obtain ⟨S, hS, hL⟩ := extend hO hF (L := (n, !t) :: G.map fun a => (a, true)) (by
      intro a ha b hb r
      rcases List.mem_cons.mp ha with rfl | ha
      · rcases List.mem_cons.mp hb with rfl | hb
        · simp [neg] at r; exact hn2 (by cases t <;> simpa using r)
        · obtain ⟨y, hy, rfl⟩ := List.mem_map.mp hb
          have := r.contra
          simp [neg] at this
          exact hn1 y hy this
      · obtain ⟨x, hx, rfl⟩ := List.mem_map.mp ha
        rcases List.mem_cons.mp hb with rfl | hb
        · simp [neg] at r; exact hn1 x hx r
        · obtain ⟨y, hy, rfl⟩ := List.mem_map.mp hb
          exact hG ⟨x, hx, y, hy, r⟩)
    have h1 := h S hS fun a ha => hL (a, true) (by simp [ha])
    have h2 : S n = !t := hL (n, !t) (by simp)
    rw [h1] at h2
    cases t <;> cases h2
  · rintro (⟨a, ha, r⟩ | r) S hS hA
    · exact hS.reach r (show S a = true from hA a ha)
    · apply Classical.byContradiction
      intro q
      have q' : S n = !t := by cases t <;> simpa using q
      exact q (hS.reach r (show val S (n, !t) from q'))
end Fc
/-! Chains: shortest, first in list order; breadth-first searches. Core Lean alone. -/
namespace Fc
variable {α : Type}
/-! ### orders -/
structure StrictTotal {β : Type} (lt : β → β → Bool) : Prop where
  irrefl : ∀ a, lt a a = false
  trans : ∀ a b c, lt a b = true → lt b c = true → lt a c = true
  tri : ∀ a b, lt a b = false → lt b a = false → a = b
section
variable {β : Type} {lt : β → β → Bool}
theorem StrictTotal.asymm (h : StrictTotal lt) {a b : β} (x : lt a b = true) : lt b a = false := by
  cases q : lt b a with
  | false => rfl
  | true => have := h.trans _ _ _ x q; rw [h.irrefl] at this; cases this
/-- not less is transitive -/
theorem StrictTotal.le_trans (h : StrictTotal lt) {a b c : β} (x : lt b a = false) (y : lt c b = false) : lt c a = false := by
  cases q : lt c a with
  | false => rfl
  | true =>
    cases r : lt a b with
    | true => have := h.trans _ _ _ q r; rw [y] at this; cases this
    | false =>
      have e := h.tri _ _ r x
      rw [e] at q
      rw [q] at y
      cases y
variable [DecidableEq β]
def lexlt (lt : β → β → Bool) : List β → List β → Bool
  | [], [] => false
  | [], _ :: _ => true
  | _ :: _, [] => false
  | x :: xs, y :: ys => if x = y then lexlt lt xs ys else lt x y
theorem lexlt_cons_same (x : β) (xs ys : List β) : lexlt lt (x :: xs) (x :: ys) = lexlt lt xs ys := by
  simp [lexlt]
theorem lexlt_irrefl : ∀ l : List β, lexlt lt l l = false
  | [] => rfl
  | x :: xs => by rw [lexlt_cons_same]; exact lexlt_irrefl xs
theorem lexlt_trans (h : StrictTotal lt) : ∀ a b c : List β, lexlt lt a b = true → lexlt lt b c = true → lexlt lt a c = true
  | [], [], _, x, _ => by cases x
  | [], _ :: _, [], _, y => by cases y
  | [], _ :: _, _ :: _, _, _ => rfl
  | _ :: _, [], _, x, _ => by cases x
  | _ :: _, _ :: _, [], _, y => by cases y
  | a :: as, b :: bs, c :: cs, x, y => by
    simp only [lexlt] at x y ⊢
    by_cases e1 : a = b
    · subst e1
      rw [if_pos rfl] at x
      by_cases e2 : a = c
      · subst e2
        rw [if_pos rfl] at y ⊢
        exact lexlt_trans h as bs cs x y
      · rw [if_neg e2] at y ⊢
        exact y
    · rw [if_neg e1] at x
      by_cases e2 : b = c
      · subst e2
        rw [if_neg e1]
        exact x
      · rw [if_neg e2] at y
        have z := h.trans _ _ _ x y
        by_cases e3 : a = c
        · subst e3
          rw [h.irrefl] at z
          cases z
        · rw [if_neg e3]
          exact z
theorem lexlt_tri (h : StrictTotal lt) : ∀ a b : List β, lexlt lt a b = false → lexlt lt b a = false → a = b
  | [], [], _, _ => rfl
  | [], _ :: _, x, _ => by cases x
  | _ :: _, [], _, y => by cases y
  | a :: as, b :: bs, x, y => by
    simp only [lexlt] at x y
    by_cases e : a = b
    · subst e
      rw [if_pos rfl] at x y
      rw [lexlt_tri h as bs x y]
    · rw [if_neg e] at x
      rw [if_neg (fun q => e q.symm)] at y
      exact absurd (h.tri _ _ x y) e
theorem lexlt_total (h : StrictTotal lt) : StrictTotal (lexlt lt) := ⟨lexlt_irrefl, lexlt_trans h, lexlt_tri h⟩
/-- by the length, then in list order -/
def clt (lt : β → β → Bool) (a b : List β) : Bool := if a.length = b.length then lexlt lt a b else decide (a.length < b.length)
theorem clt_total (h : StrictTotal lt) : StrictTotal (clt lt) where
  irrefl a := by unfold clt; rw [if_pos rfl]; exact lexlt_irrefl a
  trans a b c x y := by
    unfold clt at *
    by_cases e1 : a.length = b.length
    · rw [if_pos e1] at x
      by_cases e2 : b.length = c.length
      · rw [if_pos e2] at y
        rw [if_pos (e1.trans e2)]
        exact lexlt_trans h a b c x y
      · rw [if_neg e2] at y
        rw [if_neg (fun q => e2 (e1.symm.trans q))]
        have := of_decide_eq_true y
        exact decide_eq_true (by omega)
    · rw [if_neg e1] at x
      have x' := of_decide_eq_true x
      by_cases e2 : b.length = c.length
      · rw [if_neg (fun q => e1 (q.trans e2.symm))]
        exact decide_eq_true (by omega)
      · rw [if_neg e2] at y
        have y' := of_decide_eq_true y
        rw [if_neg (by omega)]
        exact decide_eq_true (by omega)
  tri a b x y := by
    unfold clt at *
    by_cases e : a.length = b.length
    · rw [if_pos e] at x
      rw [if_pos e.symm] at y
      exact lexlt_tri h a b x y
    · rw [if_neg e] at x
      rw [if_neg (fun q => e q.symm)] at y
      have x' := of_decide_eq_false x
      have y' := of_decide_eq_false y
      omega
theorem lexlt_append_same (v : β) : ∀ a b : List β, a.length = b.length → lexlt lt (a ++ [v]) (b ++ [v]) = lexlt lt a b
  | [], [], _ => by simp [lexlt]
  | [], _ :: _, h => by simp at h
  | _ :: _, [], h => by simp at h
  | x :: xs, y :: ys, h => by
    simp only [List.cons_append, lexlt]
    rw [lexlt_append_same v xs ys (by simpa using h)]
end
/-! ### chains -/
inductive IsPath (cs : Cls α) : Lit α → Lit α → List (Lit α) → Prop
  | one (x : Lit α) : IsPath cs x x [x]
  | cons {x y g : Lit α} {c : List (Lit α)} : Edge cs x y → IsPath cs y g c → IsPath cs x g (x :: c)
theorem IsPath.ne {cs : Cls α} {s g : Lit α} {c : List (Lit α)} (h : IsPath cs s g c) : ∃ r, c = s :: r := by
  cases h with
  | one => exact ⟨[], rfl⟩
  | cons e p => exact ⟨_, rfl⟩
theorem IsPath.pth {cs : Cls α} {s g : Lit α} {c : List (Lit α)} (h : IsPath cs s g c) : ∃ k, Pth cs s g k ∧ c.length = k + 1 := by
  induction h with
  | one x => exact ⟨0, .nil x, rfl⟩
  | cons e _ ih =>
    obtain ⟨k, p, hl⟩ := ih
    exact ⟨k + 1, .cons e p, by simp [hl]⟩
theorem Pth.path {cs : Cls α} {s g : Lit α} {k : Nat} (h : Pth cs s g k) : ∃ c, IsPath cs s g c ∧ c.length = k + 1 := by
  induction h with
  | nil x => exact ⟨_, .one x, rfl⟩
  | cons e _ ih =>
    obtain ⟨c, p, hl⟩ := ih
    exact ⟨_, .cons e p, by simp [hl]⟩
theorem IsPath.reach {cs : Cls α} {s g : Lit α} {c : List (Lit α)} (h : IsPath cs s g c) : Reach cs s g := by
  obtain ⟨k, p, _⟩ := h.pth
  exact ⟨k, p⟩
theorem Reach.path {cs : Cls α} {s g : Lit α} (h : Reach cs s g) : ∃ c, IsPath cs s g c := by
  obtain ⟨k, p⟩ := h
  obtain ⟨c, q, _⟩ := p.path
  exact ⟨c, q⟩
theorem IsPath.snoc {cs : Cls α} {s u v : Lit α} {c : List (Lit α)} (h : IsPath cs s u c) (e : Edge cs u v) : IsPath cs s v (c ++ [v]) := by
  induction h with
  | one x => exact .cons e (.one v)
  | cons f _ ih => exact .cons f (ih e)
theorem IsPath.last {cs : Cls α} {s u : Lit α} {c : List (Lit α)} (h : IsPath cs s u c) : c.getLast? = some u := by
  induction h with
  | one x => rfl
  | cons f p ih =>
    obtain ⟨r, rfl⟩ := p.ne
    rw [List.getLast?_cons_cons]
    exact ih
/-- a chain of two or more literals, its end taken away -/
theorem IsPath.unsnoc {cs : Cls α} {s v : Lit α} {c : List (Lit α)} (h : IsPath cs s v c) : (c = [v] ∧ s = v) ∨ ∃ u b, IsPath cs s u b ∧ Edge cs u v ∧ c = b ++ [v] := by
  induction h with
  | one x => exact .inl ⟨rfl, rfl⟩
  | @cons x y g c e p ih =>
    rcases ih with ⟨rfl, rfl⟩ | ⟨u, b, p', e', rfl⟩
    · exact .inr ⟨x, [x], .one x, e, rfl⟩
    · exact .inr ⟨u, x :: b, .cons e p', e', rfl⟩
/-- the distance -/
def IsDist (cs : Cls α) (x g : Lit α) (k : Nat) : Prop := Pth cs x g k ∧ ∀ j, Pth cs x g j → k ≤ j
theorem IsDist.unique {cs : Cls α} {x g : Lit α} {j k : Nat} (a : IsDist cs x g j) (b : IsDist cs x g k) : j = k := Nat.le_antisymm (a.2 _ b.1) (b.2 _ a.1)
theorem IsDist.self {cs : Cls α} (x : Lit α) : IsDist cs x x 0 := ⟨.nil x, fun _ _ => Nat.zero_le _⟩
theorem IsDist.zero {cs : Cls α} {x g : Lit α} (h : IsDist cs x g 0) : x = g := by
  cases h.1
  rfl
theorem Reach.dist {cs : Cls α} {x g : Lit α} (h : Reach cs x g) : ∃ k, IsDist cs x g k := by
  obtain ⟨k, p⟩ := h
  induction k using Nat.strongRecOn with
  | ind k ih =>
    by_cases c : ∃ j, j < k ∧ Pth cs x g j
    · obtain ⟨j, hj, q⟩ := c
      exact ih j hj q
    · exact ⟨k, p, fun j q => Nat.le_of_not_lt fun hl => c ⟨j, hl, q⟩⟩
theorem IsDist.contra {cs : Cls α} {x g : Lit α} {k : Nat} (h : IsDist cs (neg g) x k) : IsDist cs (neg x) g k := by
  refine ⟨by have := h.1.contra; rwa [neg_neg] at this, fun j q => h.2 j ?_⟩
  have := q.contra
  rwa [neg_neg] at this
theorem IsDist.contra_iff {cs : Cls α} {x g : Lit α} {k : Nat} : IsDist cs (neg g) (neg x) k ↔ IsDist cs x g k := by
  constructor
  · intro h
    have := h.contra
    rwa [neg_neg] at this
  · intro h
    have h' : IsDist cs (neg (neg x)) g k := by rw [neg_neg]; exact h
    exact IsDist.contra h'
/-- a literal at k + 1 stands behind one at k -/
theorem IsDist.pred {cs : Cls α} {s v : Lit α} {k : Nat} (h : IsDist cs s v (k + 1)) : ∃ u, IsDist cs s u k ∧ Edge cs u v := by
  obtain ⟨u, p, e⟩ := h.1.last
  refine ⟨u, ⟨p, fun j q => ?_⟩, e⟩
  have := h.2 _ (q.snoc e)
  omega
theorem IsDist.below {cs : Cls α} {s v : Lit α} : ∀ {d : Nat}, IsDist cs s v d → ∀ j, j ≤ d → ∃ u, IsDist cs s u j
  | 0, h, j, hj => by
    have e : j = 0 := by omega
    exact ⟨v, by rw [e]; exact h⟩
  | d + 1, h, j, hj => by
    by_cases e : j = d + 1
    · exact ⟨v, by rw [e]; exact h⟩
    · obtain ⟨u, hu, _⟩ := h.pred
      exact hu.below j (by omega)
/-- the other end's first step -/
theorem IsDist.first {cs : Cls α} {x g : Lit α} {k : Nat} (h : IsDist cs x g (k + 1)) : ∃ y, Edge cs x y ∧ IsDist cs y g k := by
  cases h.1 with
  | @cons _ y _ _ e p =>
    refine ⟨y, e, p, fun j q => ?_⟩
    have := h.2 _ (.cons e q)
    omega
section
variable [DecidableEq α] {lt : Lit α → Lit α → Bool} (hlt : StrictTotal lt)
/-- the shortest chain, the first in list order -/
def Best (lt : Lit α → Lit α → Bool) (cs : Cls α) (s g : Lit α) (c : List (Lit α)) : Prop := IsPath cs s g c ∧ ∀ c', IsPath cs s g c' → clt lt c' c = false
include hlt in
theorem Best.unique {cs : Cls α} {s g : Lit α} {c c' : List (Lit α)} (a : Best lt cs s g c) (b : Best lt cs s g c') : c = c' := (clt_total hlt).tri _ _ (b.2 _ a.1) (a.2 _ b.1)
theorem Best.dist {cs : Cls α} {s g : Lit α} {c : List (Lit α)} (a : Best lt cs s g c) {k : Nat} (h : IsDist cs s g k) : c.length = k + 1 := by
  obtain ⟨j, p, hl⟩ := a.1.pth
  obtain ⟨c', q, hl'⟩ := h.1.path
  have h1 := h.2 _ p
  have h2 := a.2 _ q
  unfold clt at h2
  by_cases e : c'.length = c.length
  · omega
  · rw [if_neg e] at h2
    have := of_decide_eq_false h2
    omega
theorem clt_len {a b : List (Lit α)} (h : b.length < a.length) : clt lt a b = false := by
  unfold clt
  rw [if_neg (by omega)]
  exact decide_eq_false (by omega)
theorem clt_eq {a b : List (Lit α)} (h : a.length = b.length) : clt lt a b = lexlt lt a b := by
  unfold clt
  rw [if_pos h]
theorem Best.nil {cs : Cls α} (g : Lit α) : Best lt cs g g [g] := by
  refine ⟨.one g, fun c' h => ?_⟩
  cases h with
  | one => unfold clt; rw [if_pos rfl]; exact lexlt_irrefl _
  | cons e p =>
    obtain ⟨r, rfl⟩ := p.ne
    exact clt_len (by simp)
/-- one step nearer, to the least literal that is nearer -/
theorem Best.step {cs : Cls α} {x y g : Lit α} {k : Nat} {c : List (Lit α)} (hx : IsDist cs x g (k + 1)) (e : Edge cs x y) (hy : IsDist cs y g k) (least : ∀ z, Edge cs x z → IsDist cs z g k → lt z y = false) (b : Best lt cs y g c) : Best lt cs x g (x :: c) := by
  refine ⟨.cons e b.1, fun c' h => ?_⟩
  have hc : c.length = k + 1 := b.dist hy
  obtain ⟨j, p, hl⟩ := h.pth
  have hj := hx.2 _ p
  cases h with
  | one => simp at hl; omega
  | @cons _ z _ c'' e' p' =>
    by_cases hlen : (x :: c'').length = (x :: c).length
    · rw [clt_eq hlen, lexlt_cons_same]
      have hlen' : c''.length = c.length := by simpa using hlen
      obtain ⟨j', q', hl'⟩ := p'.pth
      have hz : IsDist cs z g k := by
        have : j' = k := by omega
        subst this
        refine ⟨q', fun i q => ?_⟩
        have := hx.2 _ (.cons e' q)
        omega
      obtain ⟨r, rfl⟩ := b.1.ne
      obtain ⟨r', rfl⟩ := p'.ne
      simp only [lexlt]
      by_cases ez : z = y
      · subst ez
        rw [if_pos rfl]
        have := b.2 _ p'
        rw [clt_eq hlen', lexlt_cons_same] at this
        exact this
      · rw [if_neg ez]
        exact least z e' hz
    · exact clt_len (by simp at hlen hl ⊢; omega)
/-- the literals of a walk towards the goal: what the rest of a best chain makes of it -/
def Towards (lt : Lit α → Lit α → Bool) (cs : Cls α) (s g : Lit α) (p : List (Lit α)) (x : Lit α) : Prop := ∀ c, Best lt cs x g c → Best lt cs s g (p ++ c)
theorem Towards.start {cs : Cls α} {s g : Lit α} : Towards lt cs s g [] s := fun _ h => h
theorem Towards.more {cs : Cls α} {s g x y : Lit α} {k : Nat} {p : List (Lit α)} (t : Towards lt cs s g p x) (hx : IsDist cs x g (k + 1)) (e : Edge cs x y) (hy : IsDist cs y g k) (least : ∀ z, Edge cs x z → IsDist cs z g k → lt z y = false) : Towards lt cs s g (p ++ [x]) y := fun c h => by
  have := t _ (Best.step hx e hy least h)
  rwa [List.append_assoc]
theorem Towards.done {cs : Cls α} {s g : Lit α} {p : List (Lit α)} (t : Towards lt cs s g p g) : Best lt cs s g (p ++ [g]) := t _ (Best.nil g)
include hlt in
/-- behind one: the chain to v by the least chain to a literal before it -/
theorem Best.behind {cs : Cls α} {s u v : Lit α} {k : Nat} {b : List (Lit α)} (hv : IsDist cs s v (k + 1)) (hu : IsDist cs s u k) (e : Edge cs u v) (hb : Best lt cs s u b) (least : ∀ u' b', IsDist cs s u' k → Edge cs u' v → Best lt cs s u' b' → lexlt lt b' b = false)
    (ex : ∀ u', IsDist cs s u' k → ∃ b', Best lt cs s u' b') : Best lt cs s v (b ++ [v]) := by
  refine ⟨hb.1.snoc e, fun c' h => ?_⟩
  have hbl : b.length = k + 1 := hb.dist hu
  obtain ⟨j, p, hl⟩ := h.pth
  have hj := hv.2 _ p
  rcases h.unsnoc with ⟨rfl, rfl⟩ | ⟨u', b1, p', e', rfl⟩
  · have := hv.2 _ (.nil _); omega
  · by_cases hlen : (b1 ++ [v]).length = (b ++ [v]).length
    · have hlen' : b1.length = b.length := by simpa using hlen
      rw [clt_eq hlen, lexlt_append_same v _ _ hlen']
      obtain ⟨j', q', hl'⟩ := p'.pth
      have hu' : IsDist cs s u' k := by
        have : j' = k := by omega
        subst this
        refine ⟨q', fun i q => ?_⟩
        have := hv.2 _ (q.snoc e')
        omega
      obtain ⟨b', hb'⟩ := ex u' hu'
      have h1 := hb'.2 _ p'
      have hb'l := hb'.dist hu'
      rw [clt_eq (by omega)] at h1
      exact (lexlt_total hlt).le_trans (least u' b' hu' e' hb') h1
    · exact clt_len (by simp at hlen hl ⊢; omega)
/-! ### the least of several -/
def BestOf (lt : Lit α → Lit α → Bool) (cs : Cls α) (P : Lit α → Lit α → Prop) (c : List (Lit α)) : Prop := (∃ s g, P s g ∧ IsPath cs s g c) ∧ ∀ s g c', P s g → IsPath cs s g c' → clt lt c' c = false
theorem Best.of {cs : Cls α} {s g : Lit α} {c : List (Lit α)} (h : Best lt cs s g c) : BestOf lt cs (fun x y => x = s ∧ y = g) c := ⟨⟨s, g, ⟨rfl, rfl⟩, h.1⟩, fun x y c' ⟨e1, e2⟩ p => h.2 _ (by rw [← e1, ← e2]; exact p)⟩
include hlt in
theorem BestOf.unique {cs : Cls α} {P : Lit α → Lit α → Prop} {c c' : List (Lit α)} (a : BestOf lt cs P c) (b : BestOf lt cs P c') : c = c' := by
  obtain ⟨⟨s, g, hp, hc⟩, h⟩ := a
  obtain ⟨⟨s', g', hp', hc'⟩, h'⟩ := b
  exact (clt_total hlt).tri _ _ (h' _ _ _ hp hc) (h _ _ _ hp' hc')
include hlt in
theorem BestOf.pick {cs : Cls α} {P : Lit α → Lit α → Prop} {cands : List (List (Lit α))} (h1 : ∀ c ∈ cands, ∃ s g, P s g ∧ IsPath cs s g c) (h2 : ∀ s g c', P s g → IsPath cs s g c' → ∃ c ∈ cands, clt lt c' c = false)
    {c0 : List (Lit α)} (m : c0 ∈ cands) (l : ∀ c ∈ cands, clt lt c c0 = false) : BestOf lt cs P c0 := by
  refine ⟨h1 _ m, fun s g c' hp hc => ?_⟩
  obtain ⟨c, hc1, hc2⟩ := h2 s g c' hp hc
  exact (clt_total hlt).le_trans (l c hc1) hc2
end
end Fc
/-! Breadth-first searches as folds over what is visited. Core Lean alone. -/
namespace Fc
variable {α : Type}
section
variable {κ β : Type} [DecidableEq κ]
def keysOf (F : List (κ × β)) : List κ := F.map (·.1)
/-- a new key is added, a known one is passed over -/
def addNew (F : List (κ × β)) (p : κ × β) : List (κ × β) := if p.1 ∈ keysOf F then F else F ++ [p]
/-- what a run over ps adds -/
def news (F : List (κ × β)) : List (κ × β) → List (κ × β)
  | [] => []
  | p :: ps => if p.1 ∈ keysOf F then news F ps else p :: news (F ++ [p]) ps
theorem fold_addNew : ∀ (ps F : List (κ × β)), ps.foldl addNew F = F ++ news F ps
  | [], F => by simp [news]
  | p :: ps, F => by
    rw [List.foldl_cons, fold_addNew ps]
    unfold addNew
    by_cases h : p.1 ∈ keysOf F
    · simp only [news, if_pos h]
    · simp only [news, if_neg h]
      simp
theorem keysOf_append (F G : List (κ × β)) : keysOf (F ++ G) = keysOf F ++ keysOf G := by simp [keysOf]
theorem news_not : ∀ (ps F : List (κ × β)) (q : κ × β), q ∈ news F ps → q.1 ∉ keysOf F
  | [], _, _, h => by cases h
  | p :: ps, F, q, h => by
    simp only [news] at h
    by_cases c : p.1 ∈ keysOf F
    · rw [if_pos c] at h
      exact news_not ps F q h
    · rw [if_neg c] at h
      rcases List.mem_cons.mp h with rfl | h
      · exact c
      · intro z
        exact news_not ps _ q h (by rw [keysOf_append]; exact List.mem_append.mpr (.inl z))
theorem news_nodup : ∀ (ps F : List (κ × β)), (keysOf (news F ps)).Nodup
  | [], _ => List.nodup_nil
  | p :: ps, F => by
    simp only [news]
    by_cases c : p.1 ∈ keysOf F
    · rw [if_pos c]; exact news_nodup ps F
    · rw [if_neg c]
      refine List.nodup_cons.mpr ⟨fun z => ?_, news_nodup ps _⟩
      obtain ⟨q, hq, e⟩ := List.mem_map.mp z
      exact news_not ps _ q hq (by rw [keysOf_append]; exact List.mem_append.mpr (.inr (by simp [keysOf, e])))
/-- the first of its key -/
theorem news_first : ∀ (ps F : List (κ × β)) (q : κ × β), q ∈ news F ps → ∃ pre post, ps = pre ++ q :: post ∧ q.1 ∉ keysOf pre
  | [], _, _, h => by cases h
  | p :: ps, F, q, h => by
    simp only [news] at h
    by_cases c : p.1 ∈ keysOf F
    · rw [if_pos c] at h
      have hq := news_not ps F q h
      obtain ⟨pre, post, rfl, hn⟩ := news_first ps F q h
      refine ⟨p :: pre, post, rfl, fun z => ?_⟩
      rcases List.mem_cons.mp z with e | z
      · exact hq (by rw [e]; exact c)
      · exact hn z
    · rw [if_neg c] at h
      rcases List.mem_cons.mp h with rfl | h
      · exact ⟨[], ps, rfl, by simp [keysOf]⟩
      · have hq := news_not ps _ q h
        obtain ⟨pre, post, rfl, hn⟩ := news_first ps _ q h
        refine ⟨p :: pre, post, rfl, fun z => ?_⟩
        rcases List.mem_cons.mp z with e | z
        · exact hq (by rw [keysOf_append]; exact List.mem_append.mpr (.inr (by simp [keysOf, e])))
        · exact hn z
theorem news_has : ∀ (ps F : List (κ × β)) (q : κ × β), q ∈ ps → q.1 ∉ keysOf F → q.1 ∈ keysOf (news F ps)
  | [], _, _, h, _ => by cases h
  | p :: ps, F, q, h, hn => by
    simp only [news]
    by_cases c : p.1 ∈ keysOf F
    · rw [if_pos c]
      rcases List.mem_cons.mp h with rfl | h
      · exact absurd c hn
      · exact news_has ps F q h hn
    · rw [if_neg c]
      by_cases e : q.1 = p.1
      · simp [keysOf, e]
      · rcases List.mem_cons.mp h with rfl | h
        · exact absurd rfl e
        · have := news_has ps (F ++ [p]) q h (by
            rw [keysOf_append]
            intro z
            rcases List.mem_append.mp z with z | z
            · exact hn z
            · exact e (by simpa [keysOf] using z))
          simp only [keysOf, List.map_cons, List.mem_cons]
          exact .inr this
end
theorem nodup_le {κ : Type} [DecidableEq κ] : ∀ {l m : List κ}, l.Nodup → (∀ x ∈ l, x ∈ m) → l.length ≤ m.length
  | [], _, _, _ => Nat.zero_le _
  | x :: l, m, h, hs => by
    obtain ⟨h1, h2⟩ := List.nodup_cons.mp h
    have hx : x ∈ m := hs x (by simp)
    have := nodup_le (l := l) (m := m.erase x) h2 fun y hy => by
      have : y ≠ x := fun e => h1 (e ▸ hy)
      exact (List.mem_erase_of_ne this).mpr (hs y (by simp [hy]))
    rw [List.length_erase_of_mem hx] at this
    have := List.length_pos_of_mem hx
    simp only [List.length_cons]
    omega
/-! ### distances -/
section
variable [DecidableEq α]
/-- behind k levels: F tells the literals up to k, L those at k -/
structure InvD (cs : Cls α) (s : Lit α) (k : Nat) (F : List (Lit α × Nat)) (L : List (Lit α)) : Prop where
  nd : (keysOf F).Nodup
  tell : ∀ v d, (v, d) ∈ F ↔ d ≤ k ∧ IsDist cs s v d
  lev : ∀ v, v ∈ L ↔ IsDist cs s v k
def visD (succs : Lit α → List (Lit α)) (k : Nat) (L : List (Lit α)) : List (Lit α × Nat) := L.flatMap fun u => (succs u).map fun v => (v, k + 1)
theorem InvD.start (cs : Cls α) (s : Lit α) : InvD cs s 0 [(s, 0)] [s] where
  nd := by simp [keysOf]
  tell v d := by
    constructor
    · intro h
      simp at h
      obtain ⟨rfl, rfl⟩ := h
      exact ⟨Nat.le_refl _, IsDist.self _⟩
    · rintro ⟨h, q⟩
      have : d = 0 := by omega
      subst this
      simp [q.zero]
  lev v := by
    constructor
    · intro h
      simp at h
      subst h
      exact IsDist.self _
    · intro q
      simp [q.zero]
theorem InvD.known {cs : Cls α} {s : Lit α} {k : Nat} {F : List (Lit α × Nat)} {L : List (Lit α)} (I : InvD cs s k F L) {v : Lit α} : v ∈ keysOf F ↔ ∃ d, d ≤ k ∧ IsDist cs s v d := by
  constructor
  · intro h
    obtain ⟨⟨u, d⟩, hp, rfl⟩ := List.mem_map.mp h
    exact ⟨d, (I.tell _ _).mp hp⟩
  · rintro ⟨d, h⟩
    exact List.mem_map.mpr ⟨(v, d), (I.tell _ _).mpr h, rfl⟩
theorem IsDist.next {cs : Cls α} {s u v : Lit α} {k : Nat} (hu : IsDist cs s u k) (e : Edge cs u v) (hn : ¬ ∃ d, d ≤ k ∧ IsDist cs s v d) : IsDist cs s v (k + 1) := by
  obtain ⟨d, hd⟩ : ∃ d, IsDist cs s v d := Reach.dist ⟨_, hu.1.snoc e⟩
  have h1 := hd.2 _ (hu.1.snoc e)
  have : d = k + 1 := by
    apply Classical.byContradiction
    intro q
    exact hn ⟨d, by omega, hd⟩
  rw [← this]; exact hd
theorem InvD.step {cs : Cls α} {s : Lit α} {k : Nat} {F : List (Lit α × Nat)} {L : List (Lit α)} {succs : Lit α → List (Lit α)} (I : InvD cs s k F L) (hs : ∀ x y, y ∈ succs x ↔ Edge cs x y) :
    InvD cs s (k + 1) (F ++ news F (visD succs k L)) ((news F (visD succs k L)).map (·.1)) := by
  have val : ∀ v d, (v, d) ∈ visD succs k L → d = k + 1 ∧ ∃ u ∈ L, Edge cs u v := fun v d h => by
    obtain ⟨u, hu, h⟩ := List.mem_flatMap.mp h
    obtain ⟨v', hv, e⟩ := List.mem_map.mp h
    cases e
    exact ⟨rfl, u, hu, (hs _ _).mp hv⟩
  have new1 : ∀ v d, (v, d) ∈ news F (visD succs k L) → d = k + 1 ∧ IsDist cs s v (k + 1) := fun v d h => by
    have hn := news_not _ _ _ h
    obtain ⟨pre, post, e, _⟩ := news_first _ _ _ h
    have hm : (v, d) ∈ visD succs k L := by rw [e]; simp
    obtain ⟨hd, u, hu, he⟩ := val v d hm
    exact ⟨hd, ((I.lev u).mp hu).next he fun z => hn (I.known.mpr z)⟩
  have new2 : ∀ v, IsDist cs s v (k + 1) → v ∈ keysOf (news F (visD succs k L)) := fun v hv => by
    obtain ⟨u, hu, e⟩ := hv.pred
    refine news_has _ _ (v, k + 1) (List.mem_flatMap.mpr ⟨u, (I.lev u).mpr hu, List.mem_map.mpr ⟨v, (hs _ _).mpr e, rfl⟩⟩) fun z => ?_
    obtain ⟨d, hd, hd2⟩ := I.known.mp z
    have := hd2.unique hv
    omega
  refine ⟨?_, fun v d => ?_, fun v => ?_⟩
  · rw [keysOf_append]
    refine List.nodup_append.mpr ⟨I.nd, news_nodup _ _, fun a ha b hb e => ?_⟩
    obtain ⟨q, hq, rfl⟩ := List.mem_map.mp hb
    exact news_not _ _ _ hq (e ▸ ha)
  · rw [List.mem_append]
    constructor
    · rintro (h | h)
      · obtain ⟨h1, h2⟩ := (I.tell _ _).mp h
        exact ⟨by omega, h2⟩
      · obtain ⟨rfl, h2⟩ := new1 v d h
        exact ⟨Nat.le_refl _, h2⟩
    · rintro ⟨h1, h2⟩
      by_cases c : d = k + 1
      · subst c
        right
        obtain ⟨⟨v', d'⟩, hq, e⟩ := List.mem_map.mp (new2 v h2)
        cases e
        obtain ⟨rfl, _⟩ := new1 _ _ hq
        exact hq
      · left
        exact (I.tell _ _).mpr ⟨by omega, h2⟩
  · constructor
    · intro h
      obtain ⟨⟨v', d⟩, hq, rfl⟩ := List.mem_map.mp h
      exact (new1 _ _ hq).2
    · intro h
      exact new2 v h
theorem InvD.done {cs : Cls α} {s : Lit α} {k : Nat} {F : List (Lit α × Nat)} (I : InvD cs s k F []) (v : Lit α) (d : Nat) : (v, d) ∈ F ↔ IsDist cs s v d := by
  constructor
  · intro h
    exact ((I.tell _ _).mp h).2
  · intro h
    refine (I.tell _ _).mpr ⟨?_, h⟩
    apply Classical.byContradiction
    intro q
    obtain ⟨u, hu⟩ := h.below k (by omega)
    have := (I.lev u).mpr hu
    cases this
/-- the literals of the names -/
def litsOf (names : List α) : List (Lit α) := names.flatMap fun n => [(n, false), (n, true)]
theorem mem_litsOf {names : List α} {l : Lit α} : l ∈ litsOf names ↔ l.1 ∈ names := by
  obtain ⟨n, b⟩ := l
  unfold litsOf
  rw [List.mem_flatMap]
  constructor
  · rintro ⟨m, hm, h⟩
    simp at h
    rcases h with ⟨rfl, _⟩ | ⟨rfl, _⟩ <;> exact hm
  · intro h
    refine ⟨n, h, ?_⟩
    cases b <;> simp
theorem litsOf_length : ∀ names : List α, (litsOf names).length = 2 * names.length
  | [] => rfl
  | n :: ns => by
    show ([(n, false), (n, true)] ++ litsOf ns).length = _
    rw [List.length_append, litsOf_length ns]
    simp
    omega
theorem Over.edge {cs : Cls α} {names : List α} (h : Over cs names) {x y : Lit α} (e : Edge cs x y) : x.1 ∈ names ∧ y.1 ∈ names := by
  obtain ⟨c, hc, e⟩ := e
  obtain ⟨h1, h2⟩ := h c hc
  rcases e with ⟨rfl, rfl⟩ | ⟨rfl, rfl⟩
  · exact ⟨h1, h2⟩
  · exact ⟨h2, h1⟩
theorem Over.pth {cs : Cls α} {names : List α} (h : Over cs names) {x y : Lit α} {k : Nat} (p : Pth cs x y k) (hx : x.1 ∈ names) : y.1 ∈ names := by
  induction p with
  | nil _ => exact hx
  | cons e _ ih => exact ih (h.edge e).2
/-- the search ends: each round adds, or is the last one -/
theorem bfs_less {F N : List (Lit α × β)} {L : List γ} {L' : List δ} {names : List α} (hn : (keysOf (F ++ N)).Nodup) (hs : ∀ v ∈ keysOf (F ++ N), v.1 ∈ names) (hL : L ≠ []) (hl : L'.length = N.length) :
    (2 * names.length - (F ++ N).length) + (if L'.length = 0 then 0 else 1) < (2 * names.length - F.length) + (if L.length = 0 then 0 else 1) := by
  have h1 : (keysOf (F ++ N)).length ≤ (litsOf names).length := nodup_le hn fun v hv => mem_litsOf.mpr (hs v hv)
  rw [litsOf_length] at h1
  have h2 : (keysOf (F ++ N)).length = F.length + N.length := by simp [keysOf]
  have h3 : L.length ≠ 0 := fun e => hL (List.length_eq_zero_iff.mp e)
  rw [if_neg h3, List.length_append, hl]
  by_cases c : N.length = 0
  · rw [if_pos c]; omega
  · rw [if_neg c]; omega
end
/-! ### chains -/
section
variable [DecidableEq α] {lt : Lit α → Lit α → Bool} (hlt : StrictTotal lt)
structure InvC (lt : Lit α → Lit α → Bool) (cs : Cls α) (s : Lit α) (k : Nat) (F : List (Lit α × List (Lit α))) (L : List (List (Lit α))) : Prop where
  nd : (keysOf F).Nodup
  tell : ∀ v c, (v, c) ∈ F ↔ ∃ d, d ≤ k ∧ IsDist cs s v d ∧ Best lt cs s v c
  has : ∀ v d, d ≤ k → IsDist cs s v d → v ∈ keysOf F
  lev : ∀ c, c ∈ L ↔ ∃ v, IsDist cs s v k ∧ Best lt cs s v c
/-- what a level visits: L its chains in list order -/
def visOf (succs : Lit α → List (Lit α)) (c : List (Lit α)) : List (Lit α × List (Lit α)) := match c.getLast? with
  | some u => (succs u).map fun v => (v, c ++ [v])
  | none => []
def visC (succs : Lit α → List (Lit α)) (L : List (List (Lit α))) : List (Lit α × List (Lit α)) := L.flatMap (visOf succs)
theorem InvC.start (cs : Cls α) (s : Lit α) : InvC lt cs s 0 [(s, [s])] [[s]] where
  nd := by simp [keysOf]
  tell v c := by
    constructor
    · intro h
      simp at h
      obtain ⟨rfl, rfl⟩ := h
      exact ⟨0, Nat.le_refl _, IsDist.self _, Best.nil _⟩
    · rintro ⟨d, h, q, b⟩
      have : d = 0 := by omega
      subst this
      have e := q.zero
      subst e
      cases b.1 with
      | one => simp
      | cons e p =>
        have hl := b.dist (IsDist.self s)
        obtain ⟨r, rfl⟩ := p.ne
        simp at hl
  has v d h q := by
    have : d = 0 := by omega
    subst this
    simp [keysOf, q.zero]
  lev c := by
    constructor
    · intro h
      simp at h
      subst h
      exact ⟨s, IsDist.self _, Best.nil _⟩
    · rintro ⟨v, q, b⟩
      have e := q.zero
      subst e
      cases b.1 with
      | one => simp
      | cons e p =>
        have hl := b.dist (IsDist.self s)
        obtain ⟨r, rfl⟩ := p.ne
        simp at hl
theorem InvC.known {cs : Cls α} {s : Lit α} {k : Nat} {F : List (Lit α × List (Lit α))} {L : List (List (Lit α))} (I : InvC lt cs s k F L) {v : Lit α} : v ∈ keysOf F ↔ ∃ d, d ≤ k ∧ IsDist cs s v d := by
  constructor
  · intro h
    obtain ⟨⟨u, c⟩, hp, rfl⟩ := List.mem_map.mp h
    obtain ⟨d, h1, h2, _⟩ := (I.tell _ _).mp hp
    exact ⟨d, h1, h2⟩
  · rintro ⟨d, h1, h2⟩
    exact I.has v d h1 h2
include hlt in
theorem InvC.best {cs : Cls α} {s : Lit α} {k : Nat} {F : List (Lit α × List (Lit α))} {L : List (List (Lit α))} (I : InvC lt cs s k F L) {v : Lit α} {d : Nat} (hd : d ≤ k) (h : IsDist cs s v d) : ∃ c, Best lt cs s v c := by
  obtain ⟨⟨u, c⟩, hp, rfl⟩ := List.mem_map.mp (I.has v d hd h)
  obtain ⟨_, _, _, b⟩ := (I.tell _ _).mp hp
  exact ⟨c, b⟩
include hlt in
theorem InvC.step {cs : Cls α} {s : Lit α} {k : Nat} {F : List (Lit α × List (Lit α))} {L L' : List (List (Lit α))} {succs : Lit α → List (Lit α)} (I : InvC lt cs s k F L) (hs : ∀ x y, y ∈ succs x ↔ Edge cs x y)
    (hp : ∀ c, c ∈ L' ↔ c ∈ L) (ho : L'.Pairwise fun a b => lexlt lt b a = false) :
    InvC lt cs s (k + 1) (F ++ news F (visC succs L')) ((news F (visC succs L')).map (·.2)) := by
  have val : ∀ v c, (v, c) ∈ visC succs L' → ∃ b u, b ∈ L' ∧ IsDist cs s u k ∧ Best lt cs s u b ∧ Edge cs u v ∧ c = b ++ [v] := fun v c h => by
    obtain ⟨b, hb, h⟩ := List.mem_flatMap.mp h
    obtain ⟨u, hu, bu⟩ := (I.lev b).mp ((hp b).mp hb)
    unfold visOf at h
    rw [bu.1.last] at h
    obtain ⟨v', hv, e⟩ := List.mem_map.mp h
    cases e
    exact ⟨b, u, hb, hu, bu, (hs _ _).mp hv, rfl⟩
  have put : ∀ b u v, b ∈ L' → Best lt cs s u b → Edge cs u v → (v, b ++ [v]) ∈ visOf succs b := fun b u v hb bu e => by
    unfold visOf
    rw [bu.1.last]
    exact List.mem_map.mpr ⟨v, (hs _ _).mpr e, rfl⟩
  have mono : (visC succs L').Pairwise fun p q => lexlt lt q.2.dropLast p.2.dropLast = false := by
    have self : ∀ c : List (Lit α), ∀ x ∈ visOf succs c, x.2.dropLast = c := fun c x hx => by
      unfold visOf at hx
      cases e : c.getLast? with
      | none => rw [e] at hx; cases hx
      | some u =>
        rw [e] at hx
        obtain ⟨v, _, rfl⟩ := List.mem_map.mp hx
        simp
    refine List.pairwise_flatMap.mpr ⟨fun c _ => ?_, ho.imp fun {a b} h x hx y hy => ?_⟩
    · refine List.pairwise_iff_forall_sublist.mpr fun {x y} hsub => ?_
      rw [self c x (hsub.subset (by simp)), self c y (hsub.subset (by simp))]
      exact lexlt_irrefl c
    · rw [self a x hx, self b y hy]
      exact h
  have new1 : ∀ v c, (v, c) ∈ news F (visC succs L') → IsDist cs s v (k + 1) ∧ Best lt cs s v c := fun v c h => by
    have hn := news_not _ _ _ h
    obtain ⟨pre, post, e, hf⟩ := news_first _ _ _ h
    have hm : (v, c) ∈ visC succs L' := by rw [e]; simp
    obtain ⟨b, u, hb, hu, bu, he, rfl⟩ := val v c hm
    have hv : IsDist cs s v (k + 1) := hu.next he fun z => hn (I.known.mpr z)
    refine ⟨hv, Best.behind hlt hv hu he bu (fun u' b' hu' e' bu' => ?_) fun u' hu' => I.best hlt (Nat.le_refl k) hu'⟩
    have hb' : b' ∈ L' := (hp _).mpr ((I.lev _).mpr ⟨u', hu', bu'⟩)
    have hin : (v, b' ++ [v]) ∈ visC succs L' := List.mem_flatMap.mpr ⟨b', hb', put b' u' v hb' bu' e'⟩
    rw [e] at hin mono
    rcases List.mem_append.mp hin with m | m
    · exact absurd (List.mem_map.mpr ⟨_, m, rfl⟩) hf
    · rcases List.mem_cons.mp m with m | m
      · have := (Prod.mk.inj m).2
        rw [List.append_cancel_right this]
        exact lexlt_irrefl b
      · have h3 := (List.pairwise_append.mp mono).2.1
        have h4 := (List.pairwise_cons.mp h3).1 _ m
        simpa using h4
  have new2 : ∀ v, IsDist cs s v (k + 1) → v ∈ keysOf (news F (visC succs L')) := fun v hv => by
    obtain ⟨u, hu, e⟩ := hv.pred
    obtain ⟨b, bu⟩ := I.best hlt (Nat.le_refl k) hu
    have hb : b ∈ L' := (hp _).mpr ((I.lev _).mpr ⟨u, hu, bu⟩)
    refine news_has _ _ (v, b ++ [v]) (List.mem_flatMap.mpr ⟨b, hb, put b u v hb bu e⟩) fun z => ?_
    obtain ⟨d, hd, hd2⟩ := I.known.mp z
    have := hd2.unique hv
    omega
  refine ⟨?_, fun v c => ?_, fun v d hd h => ?_, fun c => ?_⟩
  · rw [keysOf_append]
    refine List.nodup_append.mpr ⟨I.nd, news_nodup _ _, fun a ha b hb e => ?_⟩
    obtain ⟨q, hq, rfl⟩ := List.mem_map.mp hb
    exact news_not _ _ _ hq (e ▸ ha)
  · rw [List.mem_append]
    constructor
    · rintro (h | h)
      · obtain ⟨d, h1, h2⟩ := (I.tell _ _).mp h
        exact ⟨d, by omega, h2⟩
      · obtain ⟨h1, h2⟩ := new1 v c h
        exact ⟨k + 1, Nat.le_refl _, h1, h2⟩
    · rintro ⟨d, h1, h2, h3⟩
      by_cases c1 : d = k + 1
      · subst c1
        right
        obtain ⟨⟨v', c'⟩, hq, e⟩ := List.mem_map.mp (new2 v h2)
        cases e
        have := (new1 _ _ hq).2.unique hlt h3
        subst this
        exact hq
      · left
        exact (I.tell _ _).mpr ⟨d, by omega, h2, h3⟩
  · rw [keysOf_append, List.mem_append]
    by_cases c1 : d = k + 1
    · subst c1
      exact .inr (new2 v h)
    · exact .inl (I.has v d (by omega) h)
  · constructor
    · intro h
      obtain ⟨⟨v, c'⟩, hq, rfl⟩ := List.mem_map.mp h
      exact ⟨v, new1 _ _ hq⟩
    · rintro ⟨v, hv, b⟩
      obtain ⟨⟨v', c'⟩, hq, e⟩ := List.mem_map.mp (new2 v hv)
      cases e
      have := (new1 _ _ hq).2.unique hlt b
      subst this
      exact List.mem_map.mpr ⟨_, hq, rfl⟩
include hlt in
theorem InvC.done {cs : Cls α} {s : Lit α} {k : Nat} {F : List (Lit α × List (Lit α))} (I : InvC lt cs s k F []) (v : Lit α) : (∀ c, (v, c) ∈ F ↔ Best lt cs s v c) ∧ (v ∈ keysOf F ↔ Reach cs s v) := by
  have none_at : ∀ u, ¬ IsDist cs s u k := fun u hu => by
    obtain ⟨c, b⟩ := I.best hlt (Nat.le_refl k) hu
    have := (I.lev c).mpr ⟨u, hu, b⟩
    cases this
  have near : ∀ d, IsDist cs s v d → d ≤ k := fun d h => by
    apply Classical.byContradiction
    intro q
    obtain ⟨u, hu⟩ := h.below k (by omega)
    exact none_at u hu
  refine ⟨fun c => ⟨fun h => ?_, fun h => ?_⟩, fun h => ?_, fun h => ?_⟩
  · obtain ⟨_, _, _, b⟩ := (I.tell _ _).mp h
    exact b
  · obtain ⟨d, hd⟩ := h.1.reach.dist
    exact (I.tell _ _).mpr ⟨d, near d hd, hd, h⟩
  · obtain ⟨d, _, hd⟩ := I.known.mp h
    exact ⟨d, hd.1⟩
  · obtain ⟨d, hd⟩ := h.dist
    exact I.has v d (near d hd) hd
end
end Fc
/-! The text by places, the facts of the top, defs with their promises. -/
namespace Fk
open PySem PySem.Spec PyProof.Rows L2
def top (i : Nat) : Stmt := PySem.Challenge.pw_flagclause_k04_whole_verdicts.main.body.getD i (.Pass ⟨0, 0, 0, 0⟩)
abbrev sLetters : Str := "abcdefghijklmnopqrstuvwxyz"
abbrev clWords : List Str := ["needs", "excludes", "either"]
/-- names that are the built-ins', constants of the package -/
structure Txt (K : PySem.W.Frag) (mg : Str → Option Value) : Prop where
  b_len : mg "len" = none
  b_isinstance : mg "isinstance" = none
  b_all : mg "all" = none
  b_sorted : mg "sorted" = none
  b_set : mg "set" = none
  b_tuple : mg "tuple" = none
  b_list : mg "list" = none
  b_dict : mg "dict" = none
  b_int : mg "int" = none
  b_str : mg "str" = none
  b_bool : mg "bool" = none
  b_enumerate : mg "enumerate" = none
  b_range : mg "range" = none
  b_ValueError : mg "ValueError" = none
  c_LETTERS : ∃ t, mg "LETTERS" = some (.str sLetters t)
  c_HYPHEN : ∃ t, mg "HYPHEN" = some (.str "-" t)
  c_MAX_NAME_LENGTH : ∃ t, mg "MAX_NAME_LENGTH" = some (.int 12 t)
  c_MAX_OPTIONS : ∃ t, mg "MAX_OPTIONS" = some (.int 12 t)
  c_MAX_CLAUSES : ∃ t, mg "MAX_CLAUSES" = some (.int 60 t)
  c_MAX_POSITIONALS : ∃ t, mg "MAX_POSITIONALS" = some (.int 9 t)
  c_MAX_INTEGER : ∃ t, mg "MAX_INTEGER" = some (.int 9999 t)
  c_MAX_CHOICES : ∃ t, mg "MAX_CHOICES" = some (.int 8 t)
  c_MAX_WORD_LENGTH : ∃ t, mg "MAX_WORD_LENGTH" = some (.int 12 t)
  c_CLAUSE_WORDS : ∃ a, mg "CLAUSE_WORDS" = some (.ref a) ∧ ∀ H : Hp, SqT K H a (clWords.map V.str)
section
variable {X : Cx} {x : Str} {pos : Pos}
theorem pe_cS {z : Str} (h : ∃ t, X.mg x = some (.str z t)) (hg : Gl X x := by rfl) (hd : (x == ("__debug__" : Str)) = false := by decide) : PE X (.Name x pos) (tC (.str z)) := by
  obtain ⟨t, h⟩ := h
  exact pe_glob hg h ⟨_, rfl⟩ hd
theorem pe_cI {z : Int} (h : ∃ t, X.mg x = some (.int z t)) (hg : Gl X x := by rfl) (hd : (x == ("__debug__" : Str)) = false := by decide) : PE X (.Name x pos) (tC (.int z)) := by
  obtain ⟨t, h⟩ := h
  exact pe_glob hg h ⟨_, rfl⟩ hd
/-- a constant object -/
def tCA (K : PySem.W.Frag) (xs : List V) : TE := fun _ H Q => ∀ a, (∀ H : Hp, SqT K H a xs) → Q (.ref a) H
theorem pe_cA {xs : List V} (h : ∃ a, X.mg x = some (.ref a) ∧ ∀ H : Hp, SqT X.K H a xs) (hg : Gl X x := by rfl) (hd : (x == ("__debug__" : Str)) = false := by decide) : PE X (.Name x pos) (tCA X.K xs) := by
  obtain ⟨a, h, hs⟩ := h
  exact ⟨fun pins s σ H Q I q => (pe_glob (v := .ref a) hg h rfl hd).run pins s σ H Q I (q a hs)⟩
end
/-- len of a list, of a tuple -/
def rLenS (K : PySem.W.Frag) : List V → Hp → VK → Prop := fun xs H Q => ∃ p ys, xs = [.ref p] ∧ (SqL K H p ys ∨ SqT K H p ys) ∧ Q (.int ys.length) H
/-! ### defs that stand -/
/-- a def of the module -/
structure FunM (K : PySem.W.Frag) (mg : Str → Option Value) (x : Str) (st : Stmt) (f : Addr) (fd : FuncData) : Prop where
  fn : Fun K x x st f fd
  mg : mg x = some (.ref f)
/-- a def with its promise -/
structure Dn (P : Program) (w : World) (K : PySem.W.Frag) (mg : Str → Option Value) (base : Heap) (CX : CXT) (k : Nat) (x : Str) (f : Addr) (fd : FuncData) (ps : List Str) (sp : Sp) : Prop where
  ok : FnOk P w K mg base CX k f fd ps sp
  mg : mg x = some (.ref f)
  kp : PySem.W.keepIn K (.ref f) = true
  bi : Binds K fd ps []
/-- a method with its promise -/
structure Mt (P : Program) (w : World) (K : PySem.W.Frag) (mg : Str → Option Value) (base : Heap) (CX : CXT) (k : Nat) (C : Addr) (x : Str) (f : Addr) (fd : FuncData) (ps : List Str) (sp : Sp) : Prop where
  ok : FnOk P w K mg base CX k f fd ps sp
  cl : L2.Cls K C
  me : Meth K C x f
  bi : Binds K fd ps []
section
variable {K : PySem.W.Frag} {mg : Str → Option Value} {x q : Str} {st : Stmt} {f : Addr} {fd : FuncData}
theorem b_1 {a : Str} (F : Fun K x q st f fd) (h : ∀ (kV doc pm : Value) (an : Option Addr) (cdv ct : Value) (us : List Value), us.length = [a].length → bindArgs (PySem.W.fnOf x q (defArgs st) (defBody st) (defScope st) .none kV doc pm an cdv ct) ⟨us, []⟩ = pure ([a].zip us)) : Binds K fd [a] [] := F.binds h
end
section
variable {K : PySem.W.Frag} {H H' : Hp}
theorem ifT {c : Bool} {A B : Prop} (h : c = true) (a : A) : if c = true then A else B := by rw [if_pos h]; exact a
theorem ifF {c : Bool} {A B : Prop} (h : c = false) (b : B) : if c = true then A else B := by rw [h, if_neg Bool.false_ne_true]; exact b
theorem ifB {c : Bool} {A B : Prop} (a : c = true → A) (b : c = false → B) : if c = true then A else B := by
  cases c with
  | true => exact iteT (a rfl)
  | false => exact iteF (b rfl)
theorem map_get {α β : Type} {f : α → β} {l : List α} {i : Nat} {y : β} (h : (l.map f)[i]? = some y) : ∃ x, l[i]? = some x ∧ y = f x := by
  rw [List.getElem?_map] at h
  cases e : l[i]? with
  | none => rw [e] at h; cases h
  | some x => rw [e] at h; exact ⟨x, rfl, (Option.some.inj h).symm⟩
theorem mem_of_get {α : Type} {l : List α} {i : Nat} {x : α} (h : l[i]? = some x) : x ∈ l := List.mem_of_getElem? h
theorem lt_of_get {α : Type} {l : List α} {i : Nat} {x : α} (h : l[i]? = some x) : i < l.length := (List.getElem?_eq_some_iff.mp h).1
theorem take_more {α : Type} {l : List α} {i : Nat} {x : α} (h : l[i]? = some x) : l.take (i + 1) = l.take i ++ [x] := by
  rw [List.take_add_one, h]
  rfl
theorem same_upd {a : Addr} {o : HO} (h : H a = none) : Same H (upd H a o) := fun b p e => by
  rw [upd_ne (ne_of_none e h)]
  exact e
theorem Same.upd {a : Addr} {o : HO} (s : Same H H') (h : H a = none) : Same H (upd H' a o) := fun b p e => by
  rw [upd_ne (ne_of_none e h)]
  exact s b p e
theorem Same.none {a : Addr} (s : Same H H') (h : H' a = .none) : H a = .none := s.free h
theorem sz (n : Nat) (h : n ≤ 1000) : n < sizeLine := small1000 h
theorem hu1_of {A : Around} {k : Nat} (hr : Room k A) : A.units + 100 < cLine := by have := hr.un; omega
theorem szl' {n : Nat} (h : n ≤ 1000) : n ≤ sizeLine := Nat.le_of_lt (small1000 h)
theorem sz0 : 0 ≤ sizeLine := szl' (by decide)
theorem sz1 : 1 ≤ sizeLine := szl' (by decide)
theorem sz2 : 2 ≤ sizeLine := szl' (by decide)
theorem sz3 : 3 ≤ sizeLine := szl' (by decide)
theorem sz4 : 4 ≤ sizeLine := szl' (by decide)
theorem szl {n : Nat} (h : n ≤ 1000) : n ≤ sizeLine := Nat.le_of_lt (small1000 h)
end
end Fk
/-! The checks of a grammar. -/
namespace Fk
open PySem PySem.Spec PyProof.Rows L2
section
variable {P : Program} {w : World} {K : PySem.W.Frag} {mg : Str → Option Value} {base : Heap}
abbrev s_is_integer : Stmt := (top 21)
abbrev n_is_integer : List Str := ["value", "low", "high"]
theorem sc_is_integer : FnScope ["value", "low", "high"] ["value", "low", "high"] (defScope s_is_integer) := ⟨rfl, rfl, rfl, by decide +kernel, rfl, by decide +kernel, by decide +kernel⟩
-- slots: value 0, low 1, high 2
def spIsInt : Sp := fun vs H Q _ => ∃ a lo hi : Int, vs = [.int a, .int lo, .int hi] ∧ lo ≤ a ∧ a ≤ hi ∧ Q (.bl true) H
theorem ok_is_integer {f : Addr} {fd : FuncData} (F : FunM K mg "is_integer" s_is_integer f fd) (T : Txt K mg) : Dn P w K mg base CX0 1 "is_integer" f fd ["value", "low", "high"] spIsInt := by
  refine ⟨F.fn.ok sc_is_integer (fun vs H Q E h => ?_) (fun cdv A outer s H vs Q E hr h => ?_), F.mg, F.fn.kp, (F.fn.binds fun _ _ _ _ _ _ us hl => match us, hl with | [_, _, _], _ => rfl)⟩
  · obtain ⟨a, lo, hi, rfl, _⟩ := h
    rfl
  · obtain ⟨a, lo, hi, rfl, h1, h2, q⟩ := h
    refine ⟨_, (pss_one (ps_ret (pe_and (pe_callB call_isi (by rfl) T.b_isinstance (by decide +kernel) (pa_cons (pv 0) (pa_cons (pe_bltn (v := .ty "int") (by rfl) T.b_int (by decide +kernel) rfl) pa_nil))) (pe_and (pe_not (pe_callB call_isi (by rfl) T.b_isinstance (by decide +kernel) (pa_cons (pv 0) (pa_cons (pe_bltn (v := .ty "bool") (by rfl) T.b_bool (by decide +kernel) rfl) pa_nil)))) (pe_one (pe_chain op_le op_le (pv 1) (pv 0) (pv 2))))))), ?_⟩
    refine ⟨_, rfl, _, _, .type "int", .type "int", true, rfl, .ty _, .base (.int a), kit_ty (by decide +kernel), _, rfl, iteT ?_⟩
    refine ⟨_, rfl, _, _, .type "int", .type "bool", false, rfl, .ty _, .base (.int a), kit_ty (by decide +kernel), _, rfl, _, rfl, iteT ?_⟩
    refine ⟨_, rfl, _, rfl, _, _, rfl, rfl, _, rfl, ?_⟩
    refine ifT (decide_eq_true h1) ⟨_, rfl, _, _, rfl, rfl, ?_⟩
    show Q (.bl (decide (a ≤ hi))) H
    rw [decide_eq_true h2]
    exact q
/-! ### texts -/
def okNames : List Str := ["sign", "key", "raw", "a", "b-c", "quiet", "z", "longest-name", "x--y", "m", "key-file", "up"]
def chWords : List Str := ["fast", "slow", "a", "abcdefghijkl"]
def okShorts : List Str := ["a", "b", "c", "d", "e", "f", "g", "h", "i", "j", "k", "l"]
def nameB (z : Str) : Bool := decide (1 ≤ z.length) && decide (z.length ≤ 12) && decide (z.cps[0]? ≠ some 45) && decide (z.cps.toList.getLast? ≠ some 45) && z.cps.toList.all (fun c => decide (c ∈ (sLetters ++ ("-" : Str)).cps.toList))
theorem names_ok : ∀ z ∈ okNames, nameB z = true := by decide +kernel
def wordB (z : Str) : Bool := decide (1 ≤ z.length) && decide (z.length ≤ 12) && z.cps.toList.all (fun c => decide (c ∈ sLetters.cps.toList))
theorem words_ok : ∀ z ∈ chWords, wordB z = true := by decide +kernel
def shortB (z : Str) : Bool := decide (z.length ≤ 1) && z.cps.toList.all (fun c => decide (c ∈ sLetters.cps.toList))
theorem shorts_ok : ∀ z ∈ okShorts, shortB z = true := by decide +kernel
/-- a list of truths made sign by sign -/
theorem lc_str {z : Str} {g : TG} {tt : TT} {te : TE} {vs : List Nat} {σ : L2.St} {H1 : Hp} {D : Addr} {Qd : Hp → Prop} (Pv : Nat → Hp → Prop) (h0 : Pv 0 (upd H1 D (.lst [])))
    (hs : ∀ i c H, z.cps.toList[i]? = some c → Pv i H → g (.str ⟨#[c]⟩) (wipe σ vs) H fun σ2 H2 => wipe σ2 vs = wipe σ vs ∧ tt σ2 H2 fun b H3 =>
      if b = true then te σ2 H3 fun y H4 => ∃ acc, H4 D = some (.lst acc) ∧ acc.length < sizeLine ∧ Pv (i + 1) (upd H4 D (.lst (acc ++ [y]))) else Pv (i + 1) H3) (hd : ∀ H, Pv z.cps.toList.length H → Qd H) :
    ∃ W : Nat → Nat → Hp → Prop, (∃ m, W 0 m (upd H1 D (.lst []))) ∧ ∀ i m H, W i m H →
      ((Its z).stop i H ∧ Qd H) ∨ ((Its z).go i H ∧ ∃ Nx : Hp → Prop, (∀ H', Nx H' → ∃ m', m' < m ∧ W (i + 1) m' H') ∧ ∀ x H', (Its z).yld i H x H' → g x (wipe σ vs) H' fun σ2 H2 => wipe σ2 vs = wipe σ vs ∧ tt σ2 H2 fun b H3 =>
        if b = true then te σ2 H3 fun y H4 => ∃ acc, H4 D = some (.lst acc) ∧ acc.length < sizeLine ∧ Nx (upd H4 D (.lst (acc ++ [y]))) else Nx H3) := by
  refine ⟨fun i m H => Pv i H ∧ i + m = z.cps.toList.length, ⟨_, h0, Nat.zero_add _⟩, fun i m H ⟨p, e⟩ => ?_⟩
  by_cases c : i < z.cps.size
  · refine .inr ⟨c, Pv (i + 1), fun H' q => ⟨m - 1, ?_, q, ?_⟩, fun x H' ⟨e1, ch, e2, e3⟩ => ?_⟩
    · have := Array.length_toList (xs := z.cps); omega
    · have := Array.length_toList (xs := z.cps); omega
    · subst e1; subst e3
      exact hs i ch _ (by simpa using e2) p
  · refine .inl ⟨Nat.le_of_not_lt c, hd _ ?_⟩
    have := Array.length_toList (xs := z.cps)
    have e4 : i = z.cps.toList.length := by omega
    rw [← e4]; exact p
theorem all_rep (n : Nat) : (List.replicate n true).all id = true := by simp
theorem rep_more (n : Nat) : (List.replicate n true).map V.bl ++ [V.bl true] = (List.replicate (n + 1) true).map V.bl := by
  rw [List.replicate_succ', List.map_append]
  rfl
/-- all but the new list is as it was -/
theorem same_put {H H' : Hp} {D : Addr} {o : HO} (s : Same H H') (hD : H D = none) : Same H (upd H' D o) := fun b p e => by
  rw [upd_ne (ne_of_none e hD)]
  exact s b p e
abbrev s_is_name : Stmt := (top 22)
abbrev n_is_name : List Str := ["value", "character"]
theorem sc_is_name : FnScope ["value", "character"] ["value"] (defScope s_is_name) := ⟨rfl, rfl, rfl, by decide +kernel, rfl, by decide +kernel, by decide +kernel⟩
-- slots: value 0, character 1
def spStrT (l : List Str) : Sp := fun vs H Q _ => ∃ z : Str, vs = [.str z] ∧ z ∈ l ∧ ∀ H', Same H H' → Q (.bl true) H'
theorem ok_is_name {f : Addr} {fd : FuncData} (F : FunM K mg "is_name" s_is_name f fd) (T : Txt K mg) : Dn P w K mg base CX0 1 "is_name" f fd ["value"] (spStrT okNames) := by
  refine ⟨F.fn.ok sc_is_name (fun vs H Q E h => ?_) (fun cdv A outer s H vs Q E hr h => ?_), F.mg, F.fn.kp, (F.fn.binds fun _ _ _ _ _ _ us hl => match us, hl with | [_], _ => rfl)⟩
  · obtain ⟨a, rfl, _⟩ := h
    rfl
  · obtain ⟨z, rfl, hz, q⟩ := h
    have e := names_ok z hz
    simp only [nameB, Bool.and_eq_true, decide_eq_true_eq] at e
    obtain ⟨⟨⟨⟨e1, e2⟩, e3⟩, e4⟩, e5⟩ := e
    refine ⟨_, (pss_cons (ps_if (PW.pt (pw_or (pt_not (pt_val (pe_callB call_isi (by rfl) T.b_isinstance (by decide +kernel) (pa_cons (pv 0) (pa_cons (pe_bltn (v := .ty "str") (by rfl) T.b_str (by decide +kernel) rfl) pa_nil))))) (pw_or1 (pt_not (pt_chain op_le op_le pe_int (pe_callB call_len_str (by rfl) T.b_len (by decide +kernel) (pa_cons (pv 0) pa_nil)) (pe_cI T.c_MAX_NAME_LENGTH)))))) (pss_one (ps_ret pe_bl)) pss_nil)
      (pss_cons (ps_if (PW.pt (pw_or (pt_cmpR op_eq (pe_ix ix_str (pv 0) pe_int (fun _ _ => rfl)) (pe_cS T.c_HYPHEN) (nomark _)) (pw_or1 (pt_cmpR op_eq (pe_ix ix_str (pv 0) (pe_un un_neg pe_int) (fun _ _ => rfl)) (pe_cS T.c_HYPHEN) (nomark _))))) (pss_one (ps_ret pe_bl)) pss_nil)
      (pss_one (ps_ret (pe_callB (cr_all rfl) (by rfl) T.b_all (by decide +kernel) (pa_cons (pe_lc (own := [("character", 1)]) (by rfl) sc_is_name.nd (pi_str (pv 0)) (blkOk_by (own := [("character", 1)]) (N := n_is_name) (sc := defScope s_is_name) (by decide +kernel)) (fun _ _ _ _ _ => (pg_name (i := 1) sc_is_name.nd rfl (by first | exact Or.inl rfl | exact Or.inr rfl))) (fun _ _ _ _ _ => pts_nil) (fun _ _ _ _ _ => (pe_cmpR op_in_sign (pv 1) (pe_op op_add_str (pe_cS T.c_LETTERS) (pe_cS T.c_HYPHEN)) rfl))) pa_nil)))))), ?_⟩
    refine ⟨_, rfl, _, _, .type "str", .type "str", true, rfl, .ty _, .base (.str z), kit_ty (by decide +kernel), _, rfl, iteF ?_⟩
    refine ⟨_, rfl, _, rfl, szl (by omega), _, _, rfl, rfl, _, rfl, ifT (decide_eq_true (by omega)) ⟨_, _, rfl, rfl, _, rfl, ?_⟩⟩
    refine ifF (by rw [decide_eq_true (by omega)]; rfl) ?_
    obtain ⟨c0, h0⟩ : ∃ c, z.cps[0]? = some c := by
      have : 0 < z.cps.size := e1
      exact ⟨_, Array.getElem?_eq_getElem this⟩
    obtain ⟨c1, h1⟩ : ∃ c, z.cps.toList.getLast? = some c := by
      cases e : z.cps.toList.getLast? with
      | none =>
        have := List.getLast?_eq_none_iff.mp e
        have l : z.length = z.cps.toList.length := by simp [Str.length]
        rw [this] at l
        simp at l; omega
      | some c => exact ⟨c, rfl⟩
    refine ⟨_, rfl, z, 0, c0, rfl, rfl, szl (by omega), atI_nat (j := 0) (by simpa using h0), rfl, _, rfl, ?_⟩
    refine ifF (decide_eq_false fun q => e3 ?_) ?_
    · rw [h0]
      have e : (⟨#[c0]⟩ : Str) = ⟨#[45]⟩ := V.str.inj q
      simpa using e
    refine ⟨_, rfl, _, rfl, z, -1, c1, rfl, rfl, szl (by omega), ?_, rfl, _, rfl, ?_⟩
    · rw [← List.dropLast_concat_getLast (List.ne_nil_of_length_pos (by rw [Array.length_toList]; exact e1) : z.cps.toList ≠ [])]
      rw [List.getLast?_eq_some_getLast (List.ne_nil_of_length_pos (by rw [Array.length_toList]; exact e1) : z.cps.toList ≠ [])] at h1
      rw [← Option.some.inj h1]
      exact atI_last _ _
    refine ifF (decide_eq_false fun q => e4 ?_) ?_
    · rw [h1]
      have e : (⟨#[c1]⟩ : Str) = ⟨#[45]⟩ := V.str.inj q
      simpa using e
    refine ⟨_, rfl, _, rfl, fun D hD => ?_⟩
    refine lc_str (z := z) (fun i H' => Same H H' ∧ H' D = some (.lst ((List.replicate i true).map V.bl))) ⟨same_upd hD, upd_same⟩ ?_ ?_
    · rintro i c H' hc ⟨s1, hd⟩
      have hi : i < 12 := by
        have := lt_of_get hc
        rw [Array.length_toList] at this
        exact Nat.lt_of_lt_of_le this e2
      refine ⟨rfl, _, rfl, _, _, rfl, rfl, (by decide), _, _, rfl, rfl, ?_⟩
      have hm := List.all_eq_true.mp e5 _ (mem_of_get hc)
      refine ⟨_, hd, sz _ (by simp; omega), same_put s1 hD, ?_⟩
      rw [upd_same, ← rep_more]
      exact congrArg (fun x => some (HO.lst (_ ++ [V.bl x]))) hm
    · rintro H' ⟨s1, hd⟩
      refine ⟨D, _, rfl, .of hd, ?_⟩
      show Q (.bl _) H'
      rw [all_rep]
      exact q H' s1
abbrev s_is_short_name : Stmt := (top 23)
abbrev n_is_short_name : List Str := ["value", "character"]
theorem sc_is_short_name : FnScope ["value", "character"] ["value"] (defScope s_is_short_name) := ⟨rfl, rfl, rfl, by decide +kernel, rfl, by decide +kernel, by decide +kernel⟩
-- slots: value 0, character 1
theorem ok_is_short_name {f : Addr} {fd : FuncData} (F : FunM K mg "is_short_name" s_is_short_name f fd) (T : Txt K mg) : Dn P w K mg base CX0 1 "is_short_name" f fd ["value"] (spStrT ("" :: okShorts)) := by
  refine ⟨F.fn.ok sc_is_short_name (fun vs H Q E h => ?_) (fun cdv A outer s H vs Q E hr h => ?_), F.mg, F.fn.kp, (F.fn.binds fun _ _ _ _ _ _ us hl => match us, hl with | [_], _ => rfl)⟩
  · obtain ⟨a, rfl, _⟩ := h
    rfl
  · obtain ⟨z, rfl, hz, q⟩ := h
    have e : shortB z = true := by
      rcases List.mem_cons.mp hz with z1 | z1
      · rw [z1]; decide +kernel
      · exact shorts_ok z z1
    simp only [shortB, Bool.and_eq_true, decide_eq_true_eq] at e
    obtain ⟨e1, e5⟩ := e
    refine ⟨_, (pss_one (ps_ret (pe_and (pe_callB call_isi (by rfl) T.b_isinstance (by decide +kernel) (pa_cons (pv 0) (pa_cons (pe_bltn (v := .ty "str") (by rfl) T.b_str (by decide +kernel) rfl) pa_nil))) (pe_and (pe_cmpR op_le (pe_callB call_len_str (by rfl) T.b_len (by decide +kernel) (pa_cons (pv 0) pa_nil)) pe_int (nomark _)) (pe_one (pe_callB (cr_all rfl) (by rfl) T.b_all (by decide +kernel) (pa_cons (pe_lc (own := [("character", 1)]) (by rfl) sc_is_short_name.nd (pi_str (pv 0)) (blkOk_by (own := [("character", 1)]) (N := n_is_short_name) (sc := defScope s_is_short_name) (by decide +kernel)) (fun _ _ _ _ _ => (pg_name (i := 1) sc_is_short_name.nd rfl (by first | exact Or.inl rfl | exact Or.inr rfl))) (fun _ _ _ _ _ => pts_nil) (fun _ _ _ _ _ => (pe_cmpR op_in_sign (pv 1) (pe_cS T.c_LETTERS) rfl))) pa_nil))))))), ?_⟩
    refine ⟨_, rfl, _, _, .type "str", .type "str", true, rfl, .ty _, .base (.str z), kit_ty (by decide +kernel), _, rfl, iteT ?_⟩
    refine ⟨_, rfl, _, rfl, szl (by omega), _, _, rfl, rfl, _, rfl, ifT (decide_eq_true (by omega)) ?_⟩
    refine ⟨_, rfl, _, rfl, fun D hD => ?_⟩
    refine lc_str (z := z) (fun i H' => Same H H' ∧ H' D = some (.lst ((List.replicate i true).map V.bl))) ⟨same_upd hD, upd_same⟩ ?_ ?_
    · rintro i c H' hc ⟨s1, hd⟩
      have hi : i < 1 := by
        have := lt_of_get hc
        rw [Array.length_toList] at this
        exact Nat.lt_of_lt_of_le this e1
      refine ⟨rfl, _, rfl, _, _, rfl, rfl, ?_⟩
      have hm := List.all_eq_true.mp e5 _ (mem_of_get hc)
      refine ⟨_, hd, sz _ (by simp; omega), same_put s1 hD, ?_⟩
      rw [upd_same, ← rep_more]
      exact congrArg (fun x => some (HO.lst (_ ++ [V.bl x]))) hm
    · rintro H' ⟨s1, hd⟩
      refine ⟨D, _, rfl, .of hd, ?_⟩
      show Q (.bl _) H'
      rw [all_rep]
      exact q H' s1
abbrev s_is_choice_word : Stmt := (top 24)
abbrev n_is_choice_word : List Str := ["value", "character"]
theorem sc_is_choice_word : FnScope ["value", "character"] ["value"] (defScope s_is_choice_word) := ⟨rfl, rfl, rfl, by decide +kernel, rfl, by decide +kernel, by decide +kernel⟩
-- slots: value 0, character 1
theorem ok_is_choice_word {f : Addr} {fd : FuncData} (F : FunM K mg "is_choice_word" s_is_choice_word f fd) (T : Txt K mg) : Dn P w K mg base CX0 1 "is_choice_word" f fd ["value"] (spStrT chWords) := by
  refine ⟨F.fn.ok sc_is_choice_word (fun vs H Q E h => ?_) (fun cdv A outer s H vs Q E hr h => ?_), F.mg, F.fn.kp, (F.fn.binds fun _ _ _ _ _ _ us hl => match us, hl with | [_], _ => rfl)⟩
  · obtain ⟨a, rfl, _⟩ := h
    rfl
  · obtain ⟨z, rfl, hz, q⟩ := h
    have e := words_ok z hz
    simp only [wordB, Bool.and_eq_true, decide_eq_true_eq] at e
    obtain ⟨⟨e1, e2⟩, e5⟩ := e
    refine ⟨_, (pss_cons (ps_if (PW.pt (pw_or (pt_not (pt_val (pe_callB call_isi (by rfl) T.b_isinstance (by decide +kernel) (pa_cons (pv 0) (pa_cons (pe_bltn (v := .ty "str") (by rfl) T.b_str (by decide +kernel) rfl) pa_nil))))) (pw_or1 (pt_not (pt_chain op_le op_le pe_int (pe_callB call_len_str (by rfl) T.b_len (by decide +kernel) (pa_cons (pv 0) pa_nil)) (pe_cI T.c_MAX_WORD_LENGTH)))))) (pss_one (ps_ret pe_bl)) pss_nil)
      (pss_one (ps_ret (pe_callB (cr_all rfl) (by rfl) T.b_all (by decide +kernel) (pa_cons (pe_lc (own := [("character", 1)]) (by rfl) sc_is_choice_word.nd (pi_str (pv 0)) (blkOk_by (own := [("character", 1)]) (N := n_is_choice_word) (sc := defScope s_is_choice_word) (by decide +kernel)) (fun _ _ _ _ _ => (pg_name (i := 1) sc_is_choice_word.nd rfl (by first | exact Or.inl rfl | exact Or.inr rfl))) (fun _ _ _ _ _ => pts_nil) (fun _ _ _ _ _ => (pe_cmpR op_in_sign (pv 1) (pe_cS T.c_LETTERS) rfl))) pa_nil))))), ?_⟩
    refine ⟨_, rfl, _, _, .type "str", .type "str", true, rfl, .ty _, .base (.str z), kit_ty (by decide +kernel), _, rfl, iteF ?_⟩
    refine ⟨_, rfl, _, rfl, szl (by omega), _, _, rfl, rfl, _, rfl, ifT (decide_eq_true (by omega)) ⟨_, _, rfl, rfl, _, rfl, ?_⟩⟩
    refine ifF (by rw [decide_eq_true (by omega)]; rfl) ?_
    refine ⟨_, rfl, _, rfl, fun D hD => ?_⟩
    refine lc_str (z := z) (fun i H' => Same H H' ∧ H' D = some (.lst ((List.replicate i true).map V.bl))) ⟨same_upd hD, upd_same⟩ ?_ ?_
    · rintro i c H' hc ⟨s1, hd⟩
      have hi : i < 12 := by
        have := lt_of_get hc
        rw [Array.length_toList] at this
        exact Nat.lt_of_lt_of_le this e2
      refine ⟨rfl, _, rfl, _, _, rfl, rfl, ?_⟩
      have hm := List.all_eq_true.mp e5 _ (mem_of_get hc)
      refine ⟨_, hd, sz _ (by simp; omega), same_put s1 hD, ?_⟩
      rw [upd_same, ← rep_more]
      exact congrArg (fun x => some (HO.lst (_ ++ [V.bl x]))) hm
    · rintro H' ⟨s1, hd⟩
      refine ⟨D, _, rfl, .of hd, ?_⟩
      show Q (.bl _) H'
      rw [all_rep]
      exact q H' s1
/-! ### kinds, options -/
inductive KdAt (H : Hp) : V → Prop
  | non : KdAt H .non
  | word {p : Addr} (h : H p = some (.tup [.str "word"])) : KdAt H (.ref p)
  | int {p : Addr} {lo hi : Int} (h : H p = some (.tup [.str "int", .int lo, .int hi])) (h1 : -9999 ≤ lo) (h2 : lo ≤ hi) (h3 : hi ≤ 9999) : KdAt H (.ref p)
  | ch {p q : Addr} {ws : List Str} (h : H p = some (.tup [.str "choice", .ref q])) (hq : H q = some (.tup (ws.map V.str))) (h1 : 1 ≤ ws.length) (h4 : ws.length ≤ 4) (h2 : ws.Nodup) (h3 : ∀ z ∈ ws, z ∈ chWords) : KdAt H (.ref p)
theorem KdAt.same {H H' : Hp} {v : V} (s : Same H H') (k : KdAt H v) : KdAt H' v := by
  cases k with
  | non => exact .non
  | word h => exact .word (s _ _ h)
  | int h a b c => exact .int (s _ _ h) a b c
  | ch h hq a b c d => exact .ch (s _ _ h) (s _ _ hq) a b c d
def spKind : Sp := fun vs H Q _ => ∃ v, vs = [v] ∧ KdAt H v ∧ ∀ H', Same H H' → Q (.bl true) H'
theorem dp_texts {H : Hp} : ∀ ws : List Str, DpAll K H (ws.map V.str) (ws.map PyData.str)
  | [] => .nil
  | z :: r => .cons (.str z) (dp_texts r)
/-- data that can be compared, no deeper than n -/
structure Sh (n : Nat) (d : PyData) : Prop where
  lay : d.canLay0 = true
  dep : d.depth ≤ n
theorem lay_all : ∀ {ds : List PyData}, (∀ d ∈ ds, d.canLay0 = true) → PyData.canLayAll0 ds = true
  | [], _ => by simp only [PyData.canLayAll0]
  | d :: r, h => by simp only [PyData.canLayAll0, h d List.mem_cons_self, lay_all (ds := r) fun e m => h e (List.mem_cons_of_mem _ m), Bool.and_self]
theorem dep_all {n : Nat} : ∀ {ds : List PyData}, (∀ d ∈ ds, d.depth ≤ n) → PyData.depthAll ds ≤ n
  | [], _ => by simp [PyData.depthAll]
  | d :: r, h => by
    have h1 := h d List.mem_cons_self
    have h2 := dep_all (ds := r) fun e m => h e (List.mem_cons_of_mem _ m)
    simp only [PyData.depthAll]
    omega
theorem Sh.list {n : Nat} {ds : List PyData} (h : ∀ d ∈ ds, Sh n d) : Sh (n + 1) (.list ds) where
  lay := by simp only [PyData.canLay0]; exact lay_all fun d m => (h d m).lay
  dep := by simp only [PyData.depth]; have := dep_all fun d m => (h d m).dep; omega
theorem Sh.tuple {n : Nat} {ds : List PyData} (h : ∀ d ∈ ds, Sh n d) : Sh (n + 1) (.tuple ds) where
  lay := by simp only [PyData.canLay0]; exact lay_all fun d m => (h d m).lay
  dep := by simp only [PyData.depth]; have := dep_all fun d m => (h d m).dep; omega
theorem Sh.str {n : Nat} {z : Str} (h : PyData.strOk z = true) : Sh n (.str z) := ⟨by simpa only [PyData.canLay0] using h, by simp [PyData.depth]⟩
theorem Sh.int {n : Nat} {z : Int} : Sh n (.int z) := ⟨by simp only [PyData.canLay0], by simp [PyData.depth]⟩
theorem Sh.bool {n : Nat} {z : Bool} : Sh n (.bool z) := ⟨by simp only [PyData.canLay0], by simp [PyData.depth]⟩
theorem Sh.ok {n : Nat} {d : PyData} (h : Sh n d) (hn : n ≤ 64 := by decide) : SeqAt.shaped d = true := by
  show (d.canLay0 && decide (d.depth ≤ 64)) = true
  rw [h.lay, decide_eq_true (Nat.le_trans h.dep hn)]
  rfl
theorem nil_all {p : PyData → Prop} : ∀ d ∈ ([] : List PyData), p d := fun _ h => nomatch h
theorem cons_all {p : PyData → Prop} {d : PyData} {ds : List PyData} (h : p d) (r : ∀ e ∈ ds, p e) : ∀ e ∈ d :: ds, p e := fun e m => by
  rcases List.mem_cons.mp m with z | z
  · rw [z]; exact h
  · exact r e z
theorem ch_lay : ∀ z ∈ chWords, PyData.strOk z = true := by decide +kernel
theorem sh_word : SeqAt.shaped (.tuple [.str "word"]) = true := (Sh.tuple (n := 0) (cons_all (Sh.str (by decide +kernel)) nil_all)).ok
abbrev s_is_kind : Stmt := (top 25)
abbrev n_is_kind : List Str := ["value", "low", "high", "words", "word"]
theorem sc_is_kind : FnScope ["value", "low", "high", "words", "word"] ["value"] (defScope s_is_kind) := ⟨rfl, rfl, rfl, by decide +kernel, rfl, by decide +kernel, by decide +kernel⟩
-- slots: value 0, low 1, high 2, words 3, word 4
theorem ok_is_kind {f f1 f2 : Addr} {fd fd1 fd2 : FuncData} (F : FunM K mg "is_kind" s_is_kind f fd) (T : Txt K mg) (D_is_integer : Dn P w K mg base CX0 1 "is_integer" f1 fd1 ["value", "low", "high"] spIsInt)
    (D_is_choice_word : Dn P w K mg base CX0 1 "is_choice_word" f2 fd2 ["value"] (spStrT chWords)) : Dn P w K mg base CX0 2 "is_kind" f fd ["value"] spKind := by
  refine ⟨F.fn.ok sc_is_kind (fun vs H Q E h => ?_) (fun cdv A outer s H vs Q E hr h => ?_), F.mg, F.fn.kp, (F.fn.binds fun _ _ _ _ _ _ us hl => match us, hl with | [_], _ => rfl)⟩
  · obtain ⟨a, rfl, _⟩ := h
    rfl
  · obtain ⟨v, rfl, hk, q⟩ := h
    refine ⟨_, (pss_cons (ps_if (PW.pt (pw_or (pt_cmp (pc_isN (pv 0)) (by rfl)) (pw_or1 (pt_cmpR (op_eqD hr.units) (pv 0) (pe_tup (pa_cons pe_str pa_nil)) (nomark _))))) (pss_one (ps_ret pe_bl)) pss_nil)
      (pss_cons (ps_if (PW.pt (pw_or (pt_not (pt_val (pe_callB call_isi (by rfl) T.b_isinstance (by decide +kernel) (pa_cons (pv 0) (pa_cons (pe_bltn (v := .ty "tuple") (by rfl) T.b_tuple (by decide +kernel) rfl) pa_nil))))) (pw_or1 (pt_cmpR op_eq (pe_callB call_len_seq (by rfl) T.b_len (by decide +kernel) (pa_cons (pv 0) pa_nil)) pe_int (nomark _))))) (pss_one (ps_ret pe_bl)) pss_nil)
      (pss_cons (ps_if (PW.pt (pw_and (pt_cmpR op_eq (pe_ix ix_tup (pv 0) pe_int (fun _ _ => rfl)) pe_str (nomark _)) (pw_and1 (pt_cmpR op_eq (pe_callB call_len_seq (by rfl) T.b_len (by decide +kernel) (pa_cons (pv 0) pa_nil)) pe_int (nomark _))))) (pss_cons (ps_asg (pe_slice sl_tup (pv 0) (po_some pe_int) po_none) (pg_tup rfl (pgs_cons (pg_name (i := 1) sc_is_kind.nd rfl (by first | exact Or.inl rfl | exact Or.inr rfl)) (pgs_cons (pg_name (i := 2) sc_is_kind.nd rfl (by first | exact Or.inl rfl | exact Or.inr rfl)) pgs_nil))))
      (pss_one (ps_ret (pe_and (pe_call D_is_integer.ok (hr.mono (by decide)) rfl D_is_integer.mg D_is_integer.kp D_is_integer.bi .nil pass0 (pa_cons (pv 1) (pa_cons (pe_un un_neg (pe_cI T.c_MAX_INTEGER)) (pa_cons (pe_cI T.c_MAX_INTEGER) pa_nil)))) (pe_one (pe_call D_is_integer.ok (hr.mono (by decide)) rfl D_is_integer.mg D_is_integer.kp D_is_integer.bi .nil pass0 (pa_cons (pv 2) (pa_cons (pv 1) (pa_cons (pe_cI T.c_MAX_INTEGER) pa_nil))))))))) pss_nil)
      (pss_cons (ps_if (PW.pt (pw_and (pt_cmpR op_eq (pe_ix ix_tup (pv 0) pe_int (fun _ _ => rfl)) pe_str (nomark _)) (pw_and (pt_cmpR op_eq (pe_callB call_len_seq (by rfl) T.b_len (by decide +kernel) (pa_cons (pv 0) pa_nil)) pe_int (nomark _)) (pw_and1 (pt_val (pe_callB call_isi (by rfl) T.b_isinstance (by decide +kernel) (pa_cons (pe_ix ix_tup (pv 0) pe_int (fun _ _ => rfl)) (pa_cons (pe_bltn (v := .ty "tuple") (by rfl) T.b_tuple (by decide +kernel) rfl) pa_nil)))))))) (pss_cons (ps_set (i := 3) sc_is_kind.nd rfl (by first | exact Or.inl rfl | exact Or.inr rfl) (pe_ix ix_tup (pv 0) pe_int (fun _ _ => rfl)))
      (pss_one (ps_ret (pe_and (pe_chain op_le op_le pe_int (pe_callB call_len_seq (by rfl) T.b_len (by decide +kernel) (pa_cons (pv 3) pa_nil)) (pe_cI T.c_MAX_CHOICES)) (pe_and (pe_callB (cr_all rfl) (by rfl) T.b_all (by decide +kernel) (pa_cons (pe_lc (own := [("word", 4)]) (by rfl) sc_is_kind.nd (pi_tup (pv 3)) (blkOk_by (own := [("word", 4)]) (N := n_is_kind) (sc := defScope s_is_kind) (by decide +kernel)) (fun _ _ _ _ _ => (pg_name (i := 4) sc_is_kind.nd rfl (by first | exact Or.inl rfl | exact Or.inr rfl))) (fun _ _ _ _ _ => pts_nil) (fun _ _ _ _ _ => (pe_call D_is_choice_word.ok (hr.mono (by decide)) rfl D_is_choice_word.mg D_is_choice_word.kp D_is_choice_word.bi .nil pass0 (pa_cons (pv 4) pa_nil)))) pa_nil)) (pe_one (pe_cmpR op_eq (pe_callB cr_lenSet (by rfl) T.b_len (by decide +kernel) (pa_cons (pe_callTy (cr_setOf rfl) (by rfl) T.b_set (by decide +kernel) (pa_cons (pv 3) pa_nil)) pa_nil)) (pe_callB call_len_seq (by rfl) T.b_len (by decide +kernel) (pa_cons (pv 3) pa_nil)) (nomark _)))))))) pss_nil)
      (pss_one (ps_ret pe_bl)))))), ?_⟩
    cases hk with
    | non => exact ⟨_, rfl, _, rfl, iteT (iteT (q H (Same.refl H)))⟩
    | @word p h =>
      refine ⟨_, rfl, _, rfl, ifF (decide_eq_false (by intro z; cases z)) ⟨_, rfl, szl (by decide), fun t ht => ?_⟩⟩
      refine ⟨_, _, .tup (.of (same_upd ht _ _ h)) (.cons (.str _) .nil), .tup (.of upd_same) (.cons (.str _) .nil), sh_word, sh_word, _, rfl, ?_⟩
      refine ifT (by decide +kernel) ?_
      exact q _ (same_upd ht)
    | @int p lo hi h h1 h2 h3 =>
      refine ⟨_, rfl, _, rfl, ifF (decide_eq_false (by intro z; cases z)) ⟨_, rfl, szl (by decide), fun t ht => ?_⟩⟩
      have s1 := same_upd (H := H) (o := .tup [.str "word"]) ht
      refine ⟨_, _, .tup (.of (s1 _ _ h)) (.cons (.str _) (.cons (.int _) (.cons (.int _) .nil))), .tup (.of upd_same) (.cons (.str _) .nil), (Sh.tuple (n := 0) (cons_all (Sh.str (by decide +kernel)) (cons_all .int (cons_all .int nil_all)))).ok, sh_word, _, rfl, ifB (fun _ => q _ s1) fun _ => ?_⟩
      have h' := s1 _ _ h
      refine ⟨_, rfl, _, _, .type "tuple", .type "tuple", true, rfl, .ty _, .base (.tup h'), kit_ty (by decide +kernel), _, rfl, iteF ?_⟩
      refine ⟨_, rfl, _, _, rfl, .inr (.of h'), rfl, _, rfl, ifF (decide_eq_false (by intro z; have z := V.int.inj z; simp at z)) ?_⟩
      refine ⟨_, rfl, _, _, _, _, rfl, rfl, .of h', rfl, rfl, _, rfl, ifT (by decide +kernel) ?_⟩
      refine ⟨_, rfl, _, _, rfl, .inr (.of h'), rfl, _, rfl, ifT (by rfl) ?_⟩
      refine ⟨_, rfl, _, rfl, _, _, rfl, .of h', (by show ¬ (HT.sIx 3 0 (some 1) = 0 ∧ HT.sIx 3 3 none = 3); decide), fun u hu => ?_⟩
      refine ⟨_, _, rfl, .of upd_same, rfl, _, _, rfl, _, _, rfl, rfl, ?_⟩
      have s2 := same_put (o := .tup (cutV [V.str "int", .int lo, .int hi] (some 1) none)) s1 (s1.free hu)
      refine ⟨_, rfl, _, rfl, lo, -9999, 9999, rfl, h1, by omega, _, rfl, iteT ?_⟩
      refine ⟨_, rfl, _, rfl, hi, lo, 9999, rfl, h2, h3, ?_⟩
      exact q _ s2
    | @ch p a ws h hq h1 h4 h2 h3 =>
      refine ⟨_, rfl, _, rfl, ifF (decide_eq_false (by intro z; cases z)) ⟨_, rfl, szl (by decide), fun t ht => ?_⟩⟩
      have s1 := same_upd (H := H) (o := .tup [.str "word"]) ht
      refine ⟨_, _, .tup (.of (s1 _ _ h)) (.cons (.str _) (.cons (.tup (.of (s1 _ _ hq)) (dp_texts ws)) .nil)), .tup (.of upd_same) (.cons (.str _) .nil), ?_, sh_word, _, rfl, ifB (fun _ => q _ s1) fun _ => ?_⟩
      · refine (Sh.tuple (n := 1) (cons_all (Sh.str (by decide +kernel)) (cons_all (Sh.tuple fun d m => ?_) nil_all))).ok
        obtain ⟨z, m', rfl⟩ := List.mem_map.mp m
        exact Sh.str (ch_lay z (h3 z m'))
      have h' := s1 _ _ h
      have hq' := s1 _ _ hq
      refine ⟨_, rfl, _, _, .type "tuple", .type "tuple", true, rfl, .ty _, .base (.tup h'), kit_ty (by decide +kernel), _, rfl, iteF ?_⟩
      refine ⟨_, rfl, _, _, rfl, .inr (.of h'), rfl, _, rfl, ifF (decide_eq_false (by intro z; have z := V.int.inj z; simp at z)) ?_⟩
      refine ⟨_, rfl, _, _, _, _, rfl, rfl, .of h', rfl, rfl, _, rfl, ifF (by decide +kernel) (iteF ?_)⟩
      refine ⟨_, rfl, _, _, _, _, rfl, rfl, .of h', rfl, rfl, _, rfl, ifT (by decide +kernel) ?_⟩
      refine ⟨_, rfl, _, _, rfl, .inr (.of h'), rfl, _, rfl, ifT (by rfl) ?_⟩
      refine ⟨_, rfl, _, _, _, _, rfl, rfl, .of h', rfl, _, _, .type "tuple", .type "tuple", true, rfl, .ty _, .base (.tup hq'), kit_ty (by decide +kernel), _, rfl, iteT ?_⟩
      refine ⟨_, rfl, _, _, _, _, rfl, rfl, .of h', rfl, ?_⟩
      refine ⟨_, rfl, _, _, rfl, .inr (.of hq'), _, _, rfl, rfl, _, rfl, ifT (decide_eq_true (by rw [List.length_map]; omega)) ⟨_, _, rfl, rfl, _, rfl, ?_⟩⟩
      refine ifT (decide_eq_true (by rw [List.length_map]; omega)) ?_
      refine ⟨_, rfl, a, rfl, ⟨_, .of hq'⟩, fun D hD => ?_⟩
      refine lc_tup (K := K) (a := a) (xs := ws.map V.str) (fun i H' => Same _ H' ∧ H' D = some (.lst ((List.replicate i true).map V.bl))) ⟨same_upd hD, upd_same⟩ (fun i H' _ p => .of (p.1 _ _ hq')) ?_ ?_
      · rintro i y H' hy ⟨s2, hd⟩
        obtain ⟨z, hz, rfl⟩ := map_get hy
        refine ⟨rfl, _, rfl, z, rfl, h3 z (mem_of_get hz), fun H2 s3 => ?_⟩
        have := lt_of_get hz
        refine ⟨_, s3 _ _ hd, sz _ (by simp; omega), same_put (s2.trans s3) hD, ?_⟩
        rw [upd_same, ← rep_more]
      · rintro H' ⟨s2, hd⟩
        refine ⟨D, _, rfl, .of hd, _, rfl, ?_⟩
        rw [all_rep]
        refine iteT ?_
        refine ⟨_, rfl, a, ws, rfl, .inr (.of (s2 _ _ hq')), by omega, fun u c hu hc => ?_⟩
        obtain ⟨ks, n1, n2, n3⟩ := hc
        have e : c = ws.length := by rw [← n3]; exact perm_of_nodup n1 h2 n2
        subst e
        refine ⟨u, ws, _, rfl, upd_same, by omega, ?_⟩
        have s4 := same_put (o := setO w u ws ws.length) s2 (s2.free hu)
        refine ⟨_, rfl, _, _, rfl, .inr (.of (s4 _ _ hq')), rfl, ?_⟩
        rw [List.length_map, decide_eq_true rfl]
        exact q _ (s1.trans s4)
end
end Fk
/-! enumerate over a tuple; other small rules. -/
namespace PySem
open Sem (wp)
set_option maxHeartbeats 1000000 in
theorem fk_meets_enum {v : Value} {o : Obj} {H : Heap → Prop} (B : Begins v o H) :
    Meets (Builtin.«enumerate.__new__» ⟨[.type "enumerate", v], []⟩) (fun _ R s => H s.heap ∧
      R (.ok (.ret (.ref (s.heap.push o).objs.size))) { s with heap := (s.heap.push o).push { cls := .type "enumerate", data := .fields #[.none, .bool false, .ref s.heap.objs.size, rawInt 0, .none, .none] } }) :=
  .of_wp fun prog w A R s h => by
    obtain ⟨hp, g, d, tk, os⟩ := s
    obtain ⟨h1, h⟩ := h
    have hsub := sub_enumerate
    have q1 : ∀ {A' : Around} {E : Value → Shared → Prop} {Q : Value → Shared → Prop}, Q (.ref hp.objs.size) ⟨hp.push o, g, d, tk, os⟩ → wpAny (model prog w) A' (pyIter v) Q E ⟨hp, g, d, tk, os⟩ :=
      fun q => B.iter prog w _ _ ⟨hp, g, d, tk, os⟩ _ h1 q
    wp_walk using q1
    refine wpAny_stack_any fun st => wpAny_pure ?_
    split
    · rename_i c _ _ _ _ _
      cases (c == Value.type "enumerate")
      all_goals
        wp_walk using q1
        exact ⟨_, rfl, h⟩
    · wp_walk using q1
      exact ⟨_, rfl, h⟩
theorem fk_enum {prog : Program} {w : World} {A : Around} {E : Value → Shared → Prop} {s : Shared} {v : Value} {o : Obj} {H : Heap → Prop} {Q : Value → Shared → Prop} (B : Begins v o H) (h1 : H s.heap)
    (h : ∀ h', IsEnum h' (s.heap.objs.size + 1) s.heap.objs.size 0 .none → h'.get? s.heap.objs.size = some o → (∀ b o, s.heap.get? b = some o → h'.get? b = some o) → Q (.ref (s.heap.objs.size + 1)) { s with heap := h' }) :
    wpAny (model prog w) A (call (.type "enumerate") [v]) Q E s := by
  refine callType_new F.called_enumerate (by decide) (F.typeCall_enumerate_1 _) (F.newCall_enumerate_1 _) (fun obj => F.args_object_init_2 obj _) F.entry_enumerate_new (fk_meets_enum B) ⟨h1, ?_⟩
  have hz : (s.heap.push o).objs.size = s.heap.objs.size + 1 := Heap.size_push ..
  show _ ∧ _
  rw [hz]
  have he : IsEnum ((s.heap.push o).push { cls := .type "enumerate", data := .fields #[.none, .bool false, .ref s.heap.objs.size, rawInt 0, .none, .none] }) (s.heap.objs.size + 1) s.heap.objs.size 0 .none := by
    have e := Heap.get?_push_size (s.heap.push o) (o := { cls := .type "enumerate", data := .fields #[.none, .bool false, .ref s.heap.objs.size, rawInt 0, .none, .none] }) rfl
    rw [hz] at e
    exact e
  exact ⟨⟨_, he, rfl⟩, h _ he (Heap.get?_push_of_some _ (Heap.get?_push_size _ B.free)) fun b o x => Heap.get?_push_of_some _ (Heap.get?_push_of_some _ x)⟩
end PySem
namespace Fk
open PySem PySem.Spec PyProof.Rows L2
/-- the tuple at a, each item in a new pair with its place -/
def IteT (K : PySem.W.Frag) (a : Addr) (xs : List V) : It :=
  ⟨fun i H => SqT K H a xs ∧ i < xs.length, fun i H v H' => ∃ T x, v = .ref T ∧ H T = none ∧ H' = upd H T (.tup [.int (i : Nat), x]) ∧ xs[i]? = some x, fun i H => SqT K H a xs ∧ xs.length ≤ i⟩
theorem turn_enumT {P : Program} {w : World} {K : PySem.W.Frag} {elts : List Expr} {kk : Nat} {tpos : Pos} {xs : List V} (a e it : Addr) :
    Turn P w K (.Tuple elts kk tpos) (IteT K a xs) [e, it] e (fun i h => (∃ old, IsEnum h e it ((i : Nat) : Int) old) ∧ h.IsTupleIter it a i ∧ e ≠ it ∧ a ≠ it ∧ e ≠ a) where
  mem := by simp
  obj := fun i h st b hb => by
    obtain ⟨⟨old, he⟩, ⟨o, ho, hc, hd⟩, _⟩ := st
    have z : b = e ∨ b = it := by simpa using hb
    rcases z with z | z
    · subst z; exact ⟨_, he, fun v q => nomatch q⟩
    · subst z; exact ⟨o, ho, fun v q => by rw [hd] at q; cases q⟩
  keep := fun i h h' st k => ⟨⟨st.1.choose, k e (by simp) _ st.1.choose_spec⟩, st.2.1.at fun o q => k it (by simp) o q, st.2.2⟩
  item := by
    intro X hP hw hK hc i pins s σ H E I hf st hg
    subst hP hw hK
    obtain ⟨⟨old, he⟩, hit, hne, hai, hea⟩ := st
    obtain ⟨hq, hlt⟩ := hg
    have hx : xs[i]? = some xs[i] := List.getElem?_eq_getElem hlt
    obtain ⟨its, rv, p, hz⟩ := I.tuple hq
    obtain ⟨u, hu, ru⟩ := rv.get hx
    have hl := rv.length
    have hel : e < s.heap.objs.size := Heap.lt_size he
    have hil : it < s.heap.objs.size := by obtain ⟨_, q, _⟩ := hit; exact Heap.lt_size q
    have D := Draws.tuple (prog := X.prog) (w := X.w) (A := X.A.in1) (I.ok.hd hc) it a hai its.toArray
    refine wpAny_pyNext_enum_itemD D he ⟨hit, show s.heap.IsTuple a its.toArray from p⟩ (by simp; omega) hne (by simp [hne, hea]) fun x h' tk hx' ho hst' hT hsz hk => ?_
    have hxu : x = u := by
      rw [List.getElem?_toArray, hu] at hx'
      exact (Option.some.inj hx').symm
    subst hxu
    refine ⟨_, rfl, wpAny_letOwnedTupleGo_enum (s := { s with heap := h', toks := tk + 1 }) ho fun h'' he' sb => ?_⟩
    have hT2 : h''.get? s.heap.objs.size = some { cls := .type "tuple", data := .seq #[.int i tk, x] } := (sb.2 _ (Nat.ne_of_gt hel)).trans hT
    have new : ObjOk X.prog X.w (upd H s.heap.objs.size (.tup [.int (i : Nat), xs[i]])) h'' s.heap.objs.size (.tup [.int (i : Nat), xs[i]]) :=
      ⟨by show 2 ≤ sizeLine; decide, [.int i tk, x], .cons ⟨_, rfl⟩ (.cons ru .nil), ⟨_, hT2, rfl, _, rfl⟩⟩
    have I1 : Inv X pins σ (upd H s.heap.objs.size (.tup [.int (i : Nat), xs[i]])) { s with heap := h'', toks := tk + 1 } :=
      I.turnedNew (ch := [e, it]) (fun b ob hb q => (sb.2 b (fun z => hb (by simp [z]))).trans (hk b ob (fun z => hb (by simp [z])) (fun z => hb (by simp [z])) q)) hf (Nat.le_refl _) new
    refine ⟨.ref s.heap.objs.size, _, I1, rfl, ⟨_, xs[i], rfl, I.hok.fresh (Nat.le_refl _), rfl, hx⟩, ⟨⟨x, ?_⟩, hst'.1.at fun o q => (sb.2 it (Ne.symm hne)).trans q, hne, hai, hea⟩, fun b hb => ?_⟩
    · have e1 : ((i + 1 : Nat) : Int) = (i : Int) + 1 := by omega
      rw [e1]
      exact he'
    · have hb' : b < s.heap.objs.size := by
        have z : b = e ∨ b = it := by simpa using hb
        rcases z with z | z
        · subst z; exact hel
        · subst z; exact hil
      rw [upd_ne (Nat.ne_of_lt hb')]
      exact (hf b hb).1
  done := by
    intro X hP hw hK hc i pins s σ H E I hf st hg
    subst hP hw hK
    obtain ⟨⟨old, he⟩, hit, hne, hai, hea⟩ := st
    obtain ⟨hq, hx⟩ := hg
    obtain ⟨its, rv, p, hz⟩ := I.tuple hq
    obtain ⟨f0, f1, f2, f3, f4, f5⟩ := hf it (by simp)
    have hl := rv.length
    have hT : s.TypeIs (.ref e) "enumerate" := ⟨_, he, rfl⟩
    unfold pyNext
    refine wpAny_bind (wpAny_attempt (wpAny_callSpecial?_slot (name := Str.ofString "__next__") hT F.slot_enumerate_next
      (wpAny_call_entry F.slot_enumerate_next hT F.entry_enumerate_next ?_ (F.args_enumerate_next_1 _))))
    show wpAny _ _ (field (.ref e) 2 >>= _) _ _ _
    refine wpAny_bind (wpAny_field he rfl (x := .ref it) rfl ?_)
    refine wpAny_bind (wpAny_nextOf_tuple_end (I.ok.hd hc) hit (show s.heap.IsTuple a its.toArray from p) (by simp; omega) fun h' x he' hx' => ?_)
    obtain ⟨o, ho, hcc⟩ := hx'
    refine wpAny_bind (wpAny_isInstance (T := "StopIteration") (b := true) ⟨o, ho, hcc⟩ isSubtype_stop ?_)
    exact wpAny_pure ⟨rfl, I.turned (t' := s.toks) (fun b o hb q => he' b o hb q) f0 f1 f3 f4 f5⟩
  self := fun A i s Q E st h => wpAny_pyIter_enum st.1.choose_spec h
def iEnumT (K : PySem.W.Frag) (ta : TA) : TI := fun σ H R => ta σ H fun vs H1 => ∃ a xs, vs = [.ref a] ∧ SqT K H1 a xs ∧ R (IteT K a xs) H1
theorem pi_enumT {X : Cx} {e : Expr} {ta : TA} {p pos tpos : Pos} {elts : List Expr} {kk : Nat} (hg : Gl X "enumerate") (hm : X.mg "enumerate" = none) (ha : PA X [e] ta) (hs : starEach [e] X.env = [(false, eval e X.env)] := by rfl) :
    PI X (.Tuple elts kk tpos) (.Call (.Name "enumerate" p) [e] [] pos) (iEnumT X.K ta) := by
  refine ⟨fun pins s σ H R I h => ?_⟩
  refine Call_ (ld_blt I hg hm boot_enumerate (PyProof.Rows.callWith_type1 (thn (ha.run pos pins s σ H _ I h) fun us s1 ⟨vs, H1, I1, r1, q1⟩ => ?_) hs rfl))
  obtain ⟨a, xs, ex, hq, q⟩ := q1
  subst ex
  cases r1 with
  | cons r rr =>
    cases rr
    cases r
    obtain ⟨its, rv, p', hz⟩ := I1.tuple hq
    have hal : a < s1.heap.objs.size := by
      obtain ⟨o, ho, _⟩ := show s1.heap.IsTuple a its.toArray from p'
      exact Heap.lt_size ho
    refine fk_enum (begins_tuple a its.toArray) p' fun h' he hit hk => wpAny_pyIter_enum he ?_
    have I2 : Inv X pins σ H1 { s1 with heap := h' } := I1.kept (t' := s1.toks) hk
    refine ⟨s1.heap.objs.size + 1, [s1.heap.objs.size + 1, s1.heap.objs.size], _, _, H1, rfl, I2, turn_enumT a (s1.heap.objs.size + 1) s1.heap.objs.size, ⟨⟨.none, he⟩, ⟨_, hit, rfl, rfl⟩, Nat.succ_ne_self _, Nat.ne_of_lt hal, Ne.symm (Nat.ne_of_lt (Nat.lt_succ_of_lt hal))⟩, fun b hb => ?_, q⟩
    have z : b = s1.heap.objs.size + 1 ∨ b = s1.heap.objs.size := by simpa using hb
    have hle : s1.heap.objs.size ≤ b := by
      rcases z with z | z
      · rw [z]; exact Nat.le_add_right _ _
      · rw [z]; exact Nat.le_refl _
    exact I1.fpOk hle (I1.hok.fresh hle)
/-- the turns of enumerate over a tuple -/
theorem for_enumT {K : PySem.W.Frag} {a : Addr} {xs : List V} {g : TG} {tb : TS} {D : Ends} {σ : L2.St} {H : Hp} (Pv : Nat → L2.St → Hp → Prop) (h0 : Pv 0 σ H) (hl : ∀ i σ H, i ≤ xs.length → Pv i σ H → SqT K H a xs)
    (hs : ∀ i x σ H T, xs[i]? = some x → H T = none → Pv i σ H → g (.ref T) σ (upd H T (.tup [.int (i : Nat), x])) fun σ2 H2 => tb { D with nx := Pv (i + 1), ct := Pv (i + 1), bk := D.nx } σ2 H2) (hd : ∀ σ H, Pv xs.length σ H → D.nx σ H) :
    ∃ W : Nat → Nat → L2.St → Hp → Prop, (∃ m, W 0 m σ H) ∧ ∀ i m σ H, W i m σ H →
      ((IteT K a xs).stop i H ∧ D.nx σ H) ∨ ((IteT K a xs).go i H ∧ ∃ N : L2.St → Hp → Prop, (∀ σ' H', N σ' H' → ∃ m', m' < m ∧ W (i + 1) m' σ' H') ∧ ∀ x H', (IteT K a xs).yld i H x H' → g x σ H' fun σ2 H2 => tb { D with nx := N, ct := N, bk := D.nx } σ2 H2) := by
  refine ⟨fun i m σ H => Pv i σ H ∧ i + m = xs.length, ⟨_, h0, Nat.zero_add _⟩, fun i m σ H ⟨p, e⟩ => ?_⟩
  by_cases c : i < xs.length
  · refine .inr ⟨⟨hl i σ H (by omega) p, c⟩, Pv (i + 1), fun σ' H' q => ⟨m - 1, by omega, q, by omega⟩, fun x H' ⟨T, y, e1, e2, e3, e4⟩ => ?_⟩
    subst e1; subst e3
    exact hs i y σ H T e4 e2 p
  · have e4 : i = xs.length := by omega
    subst e4
    exact .inl ⟨⟨hl _ σ H (Nat.le_refl _) p, Nat.le_refl _⟩, hd _ _ p⟩
end Fk
/-! The checks of options, clauses, whole grammars. -/
namespace Fk
open PySem PySem.Spec PyProof.Rows L2
/-- an option: where it stands, its name, its letter, its kind -/
structure OE where
  p : Addr
  n : Str
  s : Str
  k : V
structure OptAt (H : Hp) (e : OE) : Prop where
  at_ : H e.p = some (.tup [.str e.n, .str e.s, e.k])
  kd : KdAt H e.k
  nm : e.n ∈ okNames
  sh : e.s ∈ ("" : Str) :: okShorts
theorem OptAt.same {H H' : Hp} {e : OE} (s : Same H H') (o : OptAt H e) : OptAt H' e := ⟨s _ _ o.at_, o.kd.same s, o.nm, o.sh⟩
section
variable {P : Program} {w : World} {K : PySem.W.Frag} {mg : Str → Option Value} {base : Heap}
abbrev s_is_option : Stmt := (top 26)
abbrev n_is_option : List Str := ["value", "name", "short_name", "kind"]
theorem sc_is_option : FnScope ["value", "name", "short_name", "kind"] ["value"] (defScope s_is_option) := ⟨rfl, rfl, rfl, by decide +kernel, rfl, by decide +kernel, by decide +kernel⟩
-- slots: value 0, name 1, short_name 2, kind 3
def spOption : Sp := fun vs H Q _ => ∃ e : OE, vs = [.ref e.p] ∧ OptAt H e ∧ ∀ H', Same H H' → Q (.bl true) H'
theorem ok_is_option {f f1 f2 f3 : Addr} {fd fd1 fd2 fd3 : FuncData} (F : FunM K mg "is_option" s_is_option f fd) (T : Txt K mg) (D_is_name : Dn P w K mg base CX0 1 "is_name" f1 fd1 ["value"] (spStrT okNames))
    (D_is_short_name : Dn P w K mg base CX0 1 "is_short_name" f2 fd2 ["value"] (spStrT ("" :: okShorts))) (D_is_kind : Dn P w K mg base CX0 2 "is_kind" f3 fd3 ["value"] spKind) : Dn P w K mg base CX0 3 "is_option" f fd ["value"] spOption := by
  refine ⟨F.fn.ok sc_is_option (fun vs H Q E h => ?_) (fun cdv A outer s H vs Q E hr h => ?_), F.mg, F.fn.kp, (F.fn.binds fun _ _ _ _ _ _ us hl => match us, hl with | [_], _ => rfl)⟩
  · obtain ⟨a, rfl, _⟩ := h
    rfl
  · obtain ⟨e, rfl, o, q⟩ := h
    have h := o.at_
    refine ⟨_, (pss_cons (ps_if (PW.pt (pw_or (pt_not (pt_val (pe_callB call_isi (by rfl) T.b_isinstance (by decide +kernel) (pa_cons (pv 0) (pa_cons (pe_bltn (v := .ty "tuple") (by rfl) T.b_tuple (by decide +kernel) rfl) pa_nil))))) (pw_or1 (pt_cmpR op_ne (pe_callB call_len_seq (by rfl) T.b_len (by decide +kernel) (pa_cons (pv 0) pa_nil)) pe_int (nomark _))))) (pss_one (ps_ret pe_bl)) pss_nil)
      (pss_cons (ps_asg (pv 0) (pg_tup rfl (pgs_cons (pg_name (i := 1) sc_is_option.nd rfl (by first | exact Or.inl rfl | exact Or.inr rfl)) (pgs_cons (pg_name (i := 2) sc_is_option.nd rfl (by first | exact Or.inl rfl | exact Or.inr rfl)) (pgs_cons (pg_name (i := 3) sc_is_option.nd rfl (by first | exact Or.inl rfl | exact Or.inr rfl)) pgs_nil)))))
      (pss_one (ps_ret (pe_and (pe_call D_is_name.ok (hr.mono (by decide)) rfl D_is_name.mg D_is_name.kp D_is_name.bi .nil pass0 (pa_cons (pv 1) pa_nil)) (pe_and (pe_call D_is_short_name.ok (hr.mono (by decide)) rfl D_is_short_name.mg D_is_short_name.kp D_is_short_name.bi .nil pass0 (pa_cons (pv 2) pa_nil)) (pe_one (pe_call D_is_kind.ok (hr.mono (by decide)) rfl D_is_kind.mg D_is_kind.kp D_is_kind.bi .nil pass0 (pa_cons (pv 3) pa_nil))))))))), ?_⟩
    refine ⟨_, rfl, _, _, .type "tuple", .type "tuple", true, rfl, .ty _, .base (.tup h), kit_ty (by decide +kernel), _, rfl, iteF ?_⟩
    refine ⟨_, rfl, _, _, rfl, .inr (.of h), rfl, _, rfl, ifF (by rfl) ?_⟩
    refine ⟨_, rfl, _, _, rfl, .of h, rfl, _, _, rfl, _, _, rfl, _, _, rfl, rfl, ?_⟩
    refine ⟨_, rfl, e.n, rfl, o.nm, fun H1 s1 => ⟨_, rfl, iteT ?_⟩⟩
    refine ⟨_, rfl, e.s, rfl, o.sh, fun H2 s2 => ⟨_, rfl, iteT ?_⟩⟩
    refine ⟨_, rfl, e.k, rfl, o.kd.same (s1.trans s2), fun H3 s3 => ?_⟩
    exact q _ ((s1.trans s2).trans s3)
theorem not_take {α β : Type} {f : α → β} {l : List α} {i : Nat} {x : α} (nd : (l.map f).Nodup) (h : l[i]? = some x) : f x ∉ (l.take i).map f := fun m => by
  obtain ⟨y, hy, e⟩ := List.mem_map.mp m
  have q : (l.take (i + 1)).map f = (l.take i).map f ++ [f x] := by rw [take_more h, List.map_append]; rfl
  have nd2 : ((l.take (i + 1)).map f).Nodup := by
    rw [List.map_take]
    exact nd.sublist (List.take_sublist _ _)
  rw [q] at nd2
  have := (List.nodup_append.mp nd2).2.2 _ m _ (List.mem_singleton_self _)
  exact this rfl
abbrev s_check_options : Stmt := (top 27)
abbrev n_check_options : List Str := ["options", "names", "short_names", "index", "option"]
theorem sc_check_options : FnScope ["options", "names", "short_names", "index", "option"] ["options"] (defScope s_check_options) := ⟨rfl, rfl, rfl, by decide +kernel, rfl, by decide +kernel, by decide +kernel⟩
-- slots: options 0, names 1, short_names 2, index 3, option 4
/-- the options of a grammar -/
structure OptsOk (es : List OE) : Prop where
  pos : 1 ≤ es.length
  most : es.length ≤ 7
  nd : (es.map (·.n)).Nodup
  sd : ∀ (i j : Nat) (e e' : OE), es[i]? = some e → es[j]? = some e' → i ≠ j → e.s ≠ "" → e.s ≠ e'.s
def spOptions : Sp := fun vs H Q _ => ∃ (o : Addr) (es : List OE), vs = [.ref o] ∧ H o = some (.tup (es.map fun e => V.ref e.p)) ∧ (∀ e ∈ es, OptAt H e) ∧ OptsOk es ∧ ∀ H', Same H H' → Q .non H'
theorem ok_check_options {f f1 : Addr} {fd fd1 : FuncData} (F : FunM K mg "check_options" s_check_options f fd) (T : Txt K mg) (D_is_option : Dn P w K mg base CX0 3 "is_option" f1 fd1 ["value"] spOption) :
    Dn P w K mg base CX0 4 "check_options" f fd ["options"] spOptions := by
  refine ⟨F.fn.ok sc_check_options (fun vs H Q E h => ?_) (fun cdv A outer s H vs Q E hr h => ?_), F.mg, F.fn.kp, (F.fn.binds fun _ _ _ _ _ _ us hl => match us, hl with | [_], _ => rfl)⟩
  · obtain ⟨a, es, rfl, _⟩ := h
    rfl
  · obtain ⟨o, es, rfl, ho, hes, ok, q⟩ := h
    have hu := hu_of hr
    refine ⟨_, (pss_cons (ps_if (PW.pt (pw_or (pt_not (pt_val (pe_callB call_isi (by rfl) T.b_isinstance (by decide +kernel) (pa_cons (pv 0) (pa_cons (pe_bltn (v := .ty "tuple") (by rfl) T.b_tuple (by decide +kernel) rfl) pa_nil))))) (pw_or1 (pt_cmpR op_eq (pe_callB call_len_seq (by rfl) T.b_len (by decide +kernel) (pa_cons (pv 0) pa_nil)) pe_int (nomark _))))) (pss_one ps_never) pss_nil)
      (pss_cons (ps_par (i := 1) (j := 2) (by rfl) sc_check_options.nd rfl rfl (by decide) rfl rfl (pa_cons pe_dnewK (pa_cons pe_dnewK pa_nil)) (by rfl))
      (pss_one (ps_for PassesOwn.never rfl (pi_enumT (by rfl) T.b_enumerate (pa_cons (pv 0) pa_nil)) (pg_tup rfl (pgs_cons (pg_name (i := 3) sc_check_options.nd rfl (by first | exact Or.inl rfl | exact Or.inr rfl)) (pgs_cons (pg_name (i := 4) sc_check_options.nd rfl (by first | exact Or.inl rfl | exact Or.inr rfl)) pgs_nil))) (pss_cons (ps_if (PW.pt (pw_or (pt_cmpR op_eq (pv 3) (pe_cI T.c_MAX_OPTIONS) (nomark _)) (pw_or (pt_not (pt_val (pe_call D_is_option.ok (hr.mono (by decide)) rfl D_is_option.mg D_is_option.kp D_is_option.bi .nil pass0 (pa_cons (pv 4) pa_nil)))) (pw_or (pt_cmp (pc_din hu (pe_ix ix_tup (pv 4) pe_int (fun _ _ => rfl)) (pv 1)) (by rfl)) (pw_or1 (pt_cmp (pc_din hu (pe_ix ix_tup (pv 4) pe_int (fun _ _ => rfl)) (pv 2)) (by rfl))))))) (pss_one ps_never) pss_nil)
      (pss_cons (ps_dput hu (pv 1) (pe_ix ix_tup (pv 4) pe_int (fun _ _ => rfl)) pe_bl rfl)
      (pss_one (ps_if (pt_cmpR op_ne (pe_ix ix_tup (pv 4) pe_int (fun _ _ => rfl)) pe_str (nomark _)) (pss_one (ps_dput hu (pv 2) (pe_ix ix_tup (pv 4) pe_int (fun _ _ => rfl)) pe_bl rfl)) pss_nil)))))))), ?_⟩
    refine ⟨_, rfl, _, _, .type "tuple", .type "tuple", true, rfl, .ty _, .base (.tup ho), kit_ty (by decide +kernel), _, rfl, iteF ?_⟩
    refine ⟨_, rfl, _, _, rfl, .inr (.of ho), rfl, _, rfl, ifF (decide_eq_false (by intro z; have z := V.int.inj z; have := ok.pos; simp at z; simp [z] at this)) ?_⟩
    intro d1 hd1 d2 hd2
    have n12 : d1 ≠ d2 := ne_of_none upd_same hd2
    have hd2' : H d2 = none := (same_upd hd1).free hd2
    refine ⟨_, _, rfl, ?_⟩
    refine ⟨_, rfl, o, _, rfl, .of (same_put (same_upd hd1) hd2' _ _ ho), ?_⟩
    refine for_enumT (K := K) (a := o) (xs := es.map fun e => V.ref e.p) (fun i σ H' => ∃ (v1 v2 : Option V) (kn ks : List (Key × V)), σ = [some (.ref o), some (.ref d1), some (.ref d2), v1, v2] ∧ Same H H' ∧ H' d1 = some (.dK kn) ∧ H' d2 = some (.dK ks) ∧
        kn.length ≤ i ∧ ks.length ≤ i ∧ (∀ z : Str, (valV kn (Sum.inr z)).isSome → z ∈ (es.take i).map (·.n)) ∧ (∀ z : Str, (valV ks (Sum.inr z)).isSome → z ≠ "" ∧ z ∈ (es.take i).map (·.s)))
      ⟨_, _, [], [], rfl, same_put (same_upd hd1) hd2', by rw [upd_ne n12, upd_same], upd_same, Nat.le_refl _, Nat.le_refl _, fun z h => by simp [valV_nil] at h, fun z h => by simp [valV_nil] at h⟩
      (fun i σ H' _ ⟨_, _, _, _, _, s1, _⟩ => .of (s1 _ _ ho)) ?_ ?_
    · rintro i y σ H' t hy ht ⟨v1, v2, kn, ks, rfl, s1, h1, h2, l1, l2, m1, m2⟩
      obtain ⟨e, he, rfl⟩ := map_get hy
      have hi := lt_of_get he
      have hm := ok.most
      have s2 := same_put (o := .tup [.int (i : Nat), .ref e.p]) s1 (s1.free ht)
      have s2' := same_put (o := .tup [.int (i : Nat), .ref e.p]) (Same.refl H') ht
      have oe := (hes e (mem_of_get he)).same s2
      refine ⟨_, _, rfl, .of upd_same, rfl, _, _, rfl, _, _, rfl, rfl, ?_⟩
      refine ⟨_, rfl, rfl, _, rfl, ifF (decide_eq_false (by intro z; have z := V.int.inj z; omega)) ?_⟩
      refine ⟨_, rfl, e, rfl, oe, fun H2 s3 => ⟨_, rfl, iteF ?_⟩⟩
      have h1' := s3 _ _ (s2' _ _ h1)
      have h2' := s3 _ _ (s2' _ _ h2)
      have oa := s3 _ _ oe.at_
      have nn : (valV kn (Sum.inr e.n : Key)).isSome = false := by
        cases hh : (valV kn (Sum.inr e.n : Key)).isSome with
        | false => rfl
        | true => exact absurd (m1 _ hh) (not_take ok.nd he)
      have ns : (valV ks (Sum.inr e.s : Key)).isSome = false := by
        cases hh : (valV ks (Sum.inr e.s : Key)).isSome with
        | false => rfl
        | true =>
          obtain ⟨z1, z2⟩ := m2 _ hh
          obtain ⟨e', z3, z4⟩ := List.mem_map.mp z2
          obtain ⟨j, hj, z5⟩ := List.getElem_of_mem z3
          rw [List.length_take] at hj
          rw [List.getElem_take] at z5
          have z6 : es[j]? = some e' := by rw [← z5]; exact List.getElem?_eq_getElem _
          exact absurd z4.symm (ok.sd i j e e' he z6 (by omega) z1)
      refine ⟨_, rfl, _, _, _, _, rfl, rfl, .of oa, rfl, _, rfl, d1, _, rfl, DGet.k (k := Sum.inr e.n) h1', _, rfl, ifF nn ?_⟩
      refine ⟨_, rfl, _, _, _, _, rfl, rfl, .of oa, rfl, _, rfl, d2, _, rfl, DGet.k (k := Sum.inr e.s) h2', _, rfl, ifF ns ?_⟩
      refine ⟨_, rfl, _, rfl, _, _, _, _, rfl, rfl, .of oa, rfl, d1, _, rfl, DPut.k (k := Sum.inr e.n) h1' (sz _ (by omega)), ?_⟩
      have e12 : e.p ≠ d1 := ne_of oa h1' (by intro z; cases z)
      have e22 : e.p ≠ d2 := ne_of oa h2' (by intro z; cases z)
      have tk := take_more he
      have s4 : Same H (upd H2 d1 (.dK (putK kn (Sum.inr e.n) (.bl true)))) := same_put (s2.trans s3) hd1
      have g1 : ∀ z : Str, (valV (putK kn (Sum.inr e.n : Key) (V.bl true)) (Sum.inr z)).isSome → z ∈ (es.take (i + 1)).map (·.n) := fun z hz => by
        rw [valV_put] at hz
        rw [tk, List.map_append, List.mem_append]
        by_cases c : (Sum.inr z : Key) = Sum.inr e.n
        · have c' := Sum.inr.inj c
          exact .inr (by simp [c'])
        · rw [if_neg c] at hz
          exact .inl (m1 z hz)
      have g2 : ∀ z : Str, (valV ks (Sum.inr z : Key)).isSome → z ≠ "" ∧ z ∈ (es.take (i + 1)).map (·.s) := fun z hz => by
        rw [tk, List.map_append, List.mem_append]
        exact ⟨(m2 z hz).1, .inl (m2 z hz).2⟩
      have l1' := length_putK kn (Sum.inr e.n : Key) (V.bl true)
      have l2' := length_putK ks (Sum.inr e.s : Key) (V.bl true)
      refine ⟨_, rfl, _, _, _, _, rfl, rfl, .of ((upd_ne e12).trans oa), rfl, rfl, _, rfl, ifB (fun c => ?_) (fun c => ?_)⟩
      · refine ⟨_, rfl, _, rfl, _, _, _, _, rfl, rfl, .of ((upd_ne e12).trans oa), rfl, d2, _, rfl, DPut.k (k := Sum.inr e.s) ((upd_ne n12.symm).trans h2') (sz _ (by omega)), ?_⟩
        refine ⟨_, _, _, _, rfl, same_put s4 hd2', (upd_ne n12).trans upd_same, upd_same, by omega, by omega, g1, fun z hz => ?_⟩
        rw [valV_put] at hz
        by_cases c2 : (Sum.inr z : Key) = Sum.inr e.s
        · have c' := Sum.inr.inj c2
          refine ⟨fun z0 => ?_, ?_⟩
          · rw [← c', z0] at c
            simp at c
          · rw [tk, List.map_append, List.mem_append]
            exact .inr (by simp [c'])
        · rw [if_neg c2] at hz
          exact g2 z hz
      · exact ⟨_, _, _, _, rfl, s4, upd_same, (upd_ne n12.symm).trans h2', by omega, by omega, g1, g2⟩
    · rintro σ H' ⟨v1, v2, kn, ks, rfl, s1, _⟩
      exact q _ s1
/-! ### clauses -/
structure CE where
  p : Addr
  w : Str
  a : Str
  b : Str
def ClsAt (H : Hp) (c : CE) : Prop := H c.p = some (.tup [.str c.w, .str c.a, .str c.b])
theorem inV_str (a : Str) : ∀ ns : List Str, inV (.str a) (ns.map V.str) = decide (a ∈ ns)
  | [] => by simp [inV]
  | n :: r => by
    have ih := inV_str a r
    have e : inV (.str a) ((n :: r).map V.str) = ((n == a) || inV (.str a) (r.map V.str)) := rfl
    rw [e, ih]
    by_cases c : a = n
    · subst c; simp
    · have c' : ¬ n = a := fun z => c z.symm
      simp [c, c']
theorem flat_strs : ∀ ns : List Str, (ns.map V.str).all flatV = true
  | [] => rfl
  | n :: r => by
    show (true && (r.map V.str).all flatV) = true
    rw [flat_strs r]
    rfl
abbrev s_is_clause : Stmt := (top 28)
abbrev n_is_clause : List Str := ["names", "clause", "part"]
theorem sc_is_clause : FnScope ["names", "clause", "part"] ["names", "clause"] (defScope s_is_clause) := ⟨rfl, rfl, rfl, by decide +kernel, rfl, by decide +kernel, by decide +kernel⟩
-- slots: names 0, clause 1, part 2
def spClause (K : PySem.W.Frag) : Sp := fun vs H Q _ => ∃ (l : Addr) (ns : List Str) (c : CE), vs = [.ref l, .ref c.p] ∧ H l = some (.lst (ns.map V.str)) ∧ ClsAt H c ∧ c.w ∈ clWords ∧ c.a ∈ ns ∧ c.b ∈ ns ∧ ∀ H', Same H H' → Q (.bl true) H'
theorem ok_is_clause {f : Addr} {fd : FuncData} (F : FunM K mg "is_clause" s_is_clause f fd) (T : Txt K mg) : Dn P w K mg base CX0 1 "is_clause" f fd ["names", "clause"] (spClause K) := by
  refine ⟨F.fn.ok sc_is_clause (fun vs H Q E h => ?_) (fun cdv A outer s H vs Q E hr h => ?_), F.mg, F.fn.kp, (F.fn.binds fun _ _ _ _ _ _ us hl => match us, hl with | [_, _], _ => rfl)⟩
  · obtain ⟨a, _, _, rfl, _⟩ := h
    rfl
  · obtain ⟨l, ns, c, rfl, hl, hc, w1, w2, w3, q⟩ := h
    have hc' : H c.p = some (.tup [.str c.w, .str c.a, .str c.b]) := hc
    refine ⟨_, (pss_cons (ps_if (PW.pt (pw_or (pt_not (pt_val (pe_callB call_isi (by rfl) T.b_isinstance (by decide +kernel) (pa_cons (pv 1) (pa_cons (pe_bltn (v := .ty "tuple") (by rfl) T.b_tuple (by decide +kernel) rfl) pa_nil))))) (pw_or (pt_cmpR op_ne (pe_callB call_len_seq (by rfl) T.b_len (by decide +kernel) (pa_cons (pv 1) pa_nil)) pe_int (nomark _)) (pw_or1 (pt_not (pt_val (pe_callB (cr_all rfl) (by rfl) T.b_all (by decide +kernel) (pa_cons (pe_lc (own := [("part", 2)]) (by rfl) sc_is_clause.nd (pi_tup (pv 1)) (blkOk_by (own := [("part", 2)]) (N := n_is_clause) (sc := defScope s_is_clause) (by decide +kernel)) (fun _ _ _ _ _ => (pg_name (i := 2) sc_is_clause.nd rfl (by first | exact Or.inl rfl | exact Or.inr rfl))) (fun _ _ _ _ _ => pts_nil) (fun _ _ _ _ _ => (pe_callB (show CallR _ (.builtin "isinstance") (rIsi K) from call_isi) (by rfl) T.b_isinstance (by decide +kernel) (pa_cons (pv 2) (pa_cons (pe_bltn (v := .ty "str") (by rfl) T.b_str (by decide +kernel) rfl) pa_nil))))) pa_nil)))))))) (pss_one (ps_ret pe_bl)) pss_nil)
      (pss_one (ps_ret (pe_and (pe_cmpR op_in_seq (pe_ix ix_tup (pv 1) pe_int (fun _ _ => rfl)) (pe_cA T.c_CLAUSE_WORDS) (by rfl)) (pe_and (pe_cmpR op_in_seq (pe_ix ix_tup (pv 1) pe_int (fun _ _ => rfl)) (pv 0) (by rfl)) (pe_one (pe_cmpR op_in_seq (pe_ix ix_tup (pv 1) pe_int (fun _ _ => rfl)) (pv 0) (by rfl)))))))), ?_⟩
    refine ⟨_, rfl, _, _, .type "tuple", .type "tuple", true, rfl, .ty _, .base (.tup hc'), kit_ty (by decide +kernel), _, rfl, iteF ?_⟩
    refine ⟨_, rfl, _, _, rfl, .inr (.of hc'), rfl, _, rfl, ifF (by rfl) ?_⟩
    refine ⟨_, rfl, c.p, rfl, ⟨_, .of hc'⟩, fun D hD => ?_⟩
    refine lc_tup (K := K) (a := c.p) (xs := [.str c.w, .str c.a, .str c.b]) (fun i H' => Same H H' ∧ H' D = some (.lst ((List.replicate i true).map V.bl))) ⟨same_upd hD, upd_same⟩ (fun i H' _ p => .of (p.1 _ _ hc')) ?_ ?_
    · rintro i y H' hy ⟨s2, hd⟩
      obtain ⟨z, rfl⟩ : ∃ z, y = V.str z := by
        rcases List.mem_cons.mp (mem_of_get hy) with z | z
        · exact ⟨_, z⟩
        · rcases List.mem_cons.mp z with z | z
          · exact ⟨_, z⟩
          · exact ⟨_, List.mem_singleton.mp z⟩
      have := lt_of_get hy
      simp at this
      refine ⟨rfl, _, rfl, _, _, .type "str", .type "str", true, rfl, .ty _, .base (.str z), kit_ty (by decide +kernel), ?_⟩
      exact ⟨_, hd, sz _ (by simp; omega), same_put s2 hD, by rw [upd_same, ← rep_more]⟩
    · rintro H' ⟨s2, hd⟩
      refine ⟨D, _, rfl, .of hd, _, rfl, ?_⟩
      rw [all_rep]
      refine iteF ?_
      have h' := s2 _ _ hc'
      refine ⟨_, rfl, _, _, _, _, rfl, rfl, .of h', rfl, fun a hs => ⟨a, _, rfl, .inr (hs _), rfl, flat_strs _, _, rfl, ifT ?_ ?_⟩⟩
      · show inV _ _ = true
        rw [inV_str, decide_eq_true w1]
      refine ⟨_, rfl, _, _, _, _, rfl, rfl, .of h', rfl, _, rfl, l, _, rfl, .inl (.of (s2 _ _ hl)), rfl, flat_strs _, _, rfl, ifT ?_ ?_⟩
      · show inV _ _ = true
        rw [inV_str, decide_eq_true w2]
      refine ⟨_, rfl, _, _, _, _, rfl, rfl, .of h', rfl, _, rfl, l, _, rfl, .inl (.of (s2 _ _ hl)), rfl, flat_strs _, ?_⟩
      show Q (.bl (inV _ _)) _
      rw [inV_str, decide_eq_true w3]
      exact q _ s2
/-- a grammar -/
structure GrAt (H : Hp) (g : Addr) (es : List OE) (cs : List CE) : Prop where
  ex : ∃ (o p c : Addr) (lo hi : Int), H g = some (.tup [.ref o, .ref p, .ref c]) ∧ H o = some (.tup (es.map fun e => V.ref e.p)) ∧ H p = some (.tup [.int lo, .int hi]) ∧ 0 ≤ lo ∧ lo ≤ hi ∧ hi ≤ 9 ∧ H c = some (.tup (cs.map fun c => V.ref c.p))
  os : ∀ e ∈ es, OptAt H e
  oo : OptsOk es
  cl : ∀ c ∈ cs, ClsAt H c
  cw : ∀ c ∈ cs, c.w ∈ clWords ∧ c.a ∈ es.map (·.n) ∧ c.b ∈ es.map (·.n)
  cm : cs.length ≤ 9
theorem GrAt.same {H H' : Hp} {g : Addr} {es : List OE} {cs : List CE} (s : Same H H') (G : GrAt H g es cs) : GrAt H' g es cs where
  ex := by
    obtain ⟨o, p, c, lo, hi, a1, a2, a3, a4, a5, a6, a7⟩ := G.ex
    exact ⟨o, p, c, lo, hi, s _ _ a1, s _ _ a2, s _ _ a3, a4, a5, a6, s _ _ a7⟩
  os := fun e m => (G.os e m).same s
  oo := G.oo
  cl := fun c m => s _ _ (G.cl c m)
  cw := G.cw
  cm := G.cm
abbrev s_check_grammar : Stmt := (top 29)
abbrev n_check_grammar : List Str := ["grammar", "options", "positionals", "clauses", "is_pair", "names", "option", "index", "clause"]
theorem sc_check_grammar : FnScope ["grammar", "options", "positionals", "clauses", "is_pair", "names", "option", "index", "clause"] ["grammar"] (defScope s_check_grammar) := ⟨rfl, rfl, rfl, by decide +kernel, rfl, by decide +kernel, by decide +kernel⟩
-- slots: grammar 0, options 1, positionals 2, clauses 3, is_pair 4, names 5, option 6, index 7, clause 8
def spGr : Sp := fun vs H Q _ => ∃ (g : Addr) (es : List OE) (cs : List CE), vs = [.ref g] ∧ GrAt H g es cs ∧ ∀ H', Same H H' → Q .non H'
theorem ok_check_grammar {f f1 f2 f3 : Addr} {fd fd1 fd2 fd3 : FuncData} (F : FunM K mg "check_grammar" s_check_grammar f fd) (T : Txt K mg) (D_check_options : Dn P w K mg base CX0 4 "check_options" f1 fd1 ["options"] spOptions)
    (D_is_integer : Dn P w K mg base CX0 1 "is_integer" f2 fd2 ["value", "low", "high"] spIsInt) (D_is_clause : Dn P w K mg base CX0 1 "is_clause" f3 fd3 ["names", "clause"] (spClause K)) : Dn P w K mg base CX0 5 "check_grammar" f fd ["grammar"] spGr := by
  refine ⟨F.fn.ok sc_check_grammar (fun vs H Q E h => ?_) (fun cdv A outer s H vs Q E hr h => ?_), F.mg, F.fn.kp, (F.fn.binds fun _ _ _ _ _ _ us hl => match us, hl with | [_], _ => rfl)⟩
  · obtain ⟨a, _, _, rfl, _⟩ := h
    rfl
  · obtain ⟨g, es, cs, rfl, G, q⟩ := h
    obtain ⟨o, p, c, lo, hi, a1, a2, a3, a4, a5, a6, a7⟩ := G.ex
    refine ⟨_, (pss_cons (ps_if (PW.pt (pw_or (pt_not (pt_val (pe_callB call_isi (by rfl) T.b_isinstance (by decide +kernel) (pa_cons (pv 0) (pa_cons (pe_bltn (v := .ty "tuple") (by rfl) T.b_tuple (by decide +kernel) rfl) pa_nil))))) (pw_or1 (pt_cmpR op_ne (pe_callB call_len_seq (by rfl) T.b_len (by decide +kernel) (pa_cons (pv 0) pa_nil)) pe_int (nomark _))))) (pss_one ps_never) pss_nil)
      (pss_cons (ps_asg (pv 0) (pg_tup rfl (pgs_cons (pg_name (i := 1) sc_check_grammar.nd rfl (by first | exact Or.inl rfl | exact Or.inr rfl)) (pgs_cons (pg_name (i := 2) sc_check_grammar.nd rfl (by first | exact Or.inl rfl | exact Or.inr rfl)) (pgs_cons (pg_name (i := 3) sc_check_grammar.nd rfl (by first | exact Or.inl rfl | exact Or.inr rfl)) pgs_nil)))))
      (pss_cons (ps_expr (pe_call D_check_options.ok (hr.mono (by decide)) rfl D_check_options.mg D_check_options.kp D_check_options.bi .nil pass0 (pa_cons (pv 1) pa_nil)))
      (pss_cons (ps_set (i := 4) sc_check_grammar.nd rfl (by first | exact Or.inl rfl | exact Or.inr rfl) (pe_and (pe_callB call_isi (by rfl) T.b_isinstance (by decide +kernel) (pa_cons (pv 2) (pa_cons (pe_bltn (v := .ty "tuple") (by rfl) T.b_tuple (by decide +kernel) rfl) pa_nil))) (pe_one (pe_cmpR op_eq (pe_callB call_len_seq (by rfl) T.b_len (by decide +kernel) (pa_cons (pv 2) pa_nil)) pe_int (nomark _)))))
      (pss_cons (ps_if (PW.pt (pw_or (pt_not (pt_val (pv 4))) (pw_or1 (pt_not (pt_val (pe_call D_is_integer.ok (hr.mono (by decide)) rfl D_is_integer.mg D_is_integer.kp D_is_integer.bi .nil pass0 (pa_cons (pe_ix ix_tup (pv 2) pe_int (fun _ _ => rfl)) (pa_cons pe_int (pa_cons (pe_cI T.c_MAX_POSITIONALS) pa_nil))))))))) (pss_one ps_never) pss_nil)
      (pss_cons (ps_if (pt_not (pt_val (pe_call D_is_integer.ok (hr.mono (by decide)) rfl D_is_integer.mg D_is_integer.kp D_is_integer.bi .nil pass0 (pa_cons (pe_ix ix_tup (pv 2) pe_int (fun _ _ => rfl)) (pa_cons (pe_ix ix_tup (pv 2) pe_int (fun _ _ => rfl)) (pa_cons (pe_cI T.c_MAX_POSITIONALS) pa_nil)))))) (pss_one ps_never) pss_nil)
      (pss_cons (ps_if (pt_not (pt_val (pe_callB call_isi (by rfl) T.b_isinstance (by decide +kernel) (pa_cons (pv 3) (pa_cons (pe_bltn (v := .ty "tuple") (by rfl) T.b_tuple (by decide +kernel) rfl) pa_nil))))) (pss_one ps_never) pss_nil)
      (pss_cons (ps_setLc (i := 5) (own := [("option", 6)]) (by rfl) sc_check_grammar.nd rfl rfl (sw_true rfl rfl rfl (by decide +kernel)) (pi_tup (pv 1)) (blkOk_by (own := [("option", 6)]) (N := n_check_grammar) (sc := defScope s_check_grammar) (by decide +kernel)) (fun _ _ _ _ _ => (pg_name (i := 6) sc_check_grammar.nd rfl (by first | exact Or.inl rfl | exact Or.inr rfl))) (fun _ _ _ _ _ => pts_nil) (fun _ _ _ _ _ => (pe_ix (show IxR _ (rIxT K) from ix_tup) (pv 6) pe_int (fun _ _ => rfl))))
      (pss_one (ps_for PassesOwn.never rfl (pi_enumT (by rfl) T.b_enumerate (pa_cons (pv 3) pa_nil)) (pg_tup rfl (pgs_cons (pg_name (i := 7) sc_check_grammar.nd rfl (by first | exact Or.inl rfl | exact Or.inr rfl)) (pgs_cons (pg_name (i := 8) sc_check_grammar.nd rfl (by first | exact Or.inl rfl | exact Or.inr rfl)) pgs_nil))) (pss_one (ps_if (PW.pt (pw_or (pt_cmpR op_eq (pv 7) (pe_cI T.c_MAX_CLAUSES) (nomark _)) (pw_or1 (pt_not (pt_val (pe_call D_is_clause.ok (hr.mono (by decide)) rfl D_is_clause.mg D_is_clause.kp D_is_clause.bi .nil pass0 (pa_cons (pv 5) (pa_cons (pv 8) pa_nil)))))))) (pss_one ps_never) pss_nil)))))))))))), ?_⟩
    refine ⟨_, rfl, _, _, .type "tuple", .type "tuple", true, rfl, .ty _, .base (.tup a1), kit_ty (by decide +kernel), _, rfl, iteF ?_⟩
    refine ⟨_, rfl, _, _, rfl, .inr (.of a1), rfl, _, rfl, ifF (by rfl) ?_⟩
    refine ⟨_, rfl, _, _, rfl, .of a1, rfl, _, _, rfl, _, _, rfl, _, _, rfl, rfl, ?_⟩
    refine ⟨_, rfl, o, es, rfl, a2, G.os, G.oo, fun H1 s1 => ?_⟩
    have b3 := s1 _ _ a3
    have b7 := s1 _ _ a7
    refine ⟨_, rfl, _, _, .type "tuple", .type "tuple", true, rfl, .ty _, .base (.tup b3), kit_ty (by decide +kernel), _, rfl, iteT ?_⟩
    refine ⟨_, rfl, _, _, rfl, .inr (.of b3), rfl, ?_⟩
    refine ⟨_, rfl, _, rfl, iteF ?_⟩
    refine ⟨_, rfl, _, _, _, _, rfl, rfl, .of b3, rfl, lo, 0, 9, rfl, a4, by omega, _, rfl, iteF ?_⟩
    refine ⟨_, rfl, _, _, _, _, rfl, rfl, .of b3, rfl, _, rfl, _, _, _, _, rfl, rfl, .of b3, rfl, hi, lo, 9, rfl, a5, a6, _, rfl, iteF ?_⟩
    refine ⟨_, rfl, _, _, .type "tuple", .type "tuple", true, rfl, .ty _, .base (.tup b7), kit_ty (by decide +kernel), _, rfl, iteF ?_⟩
    refine ⟨_, rfl, o, rfl, ⟨_, .of (s1 _ _ a2)⟩, fun D hD => ?_⟩
    refine lc_tup (K := K) (a := o) (xs := es.map fun e => V.ref e.p) (fun i H' => Same H1 H' ∧ H' D = some (.lst (((es.take i).map (·.n)).map V.str))) ⟨same_upd hD, upd_same⟩ (fun i H' _ p => .of (p.1 _ _ (s1 _ _ a2))) ?_ ?_
    · rintro i y H' hy ⟨s2, hd⟩
      obtain ⟨e, he, rfl⟩ := map_get hy
      have oe := ((G.os e (mem_of_get he)).same (s1.trans s2)).at_
      have hi := lt_of_get he
      have hm := G.oo.most
      refine ⟨rfl, _, rfl, _, _, _, _, rfl, rfl, .of oe, rfl, _, hd, sz _ (by simp; omega), same_put s2 hD, ?_⟩
      rw [upd_same, take_more he, List.map_append, List.map_append]
      rfl
    · rintro H' ⟨s2, hd⟩
      rw [List.length_map, List.take_length] at hd
      have s3 := s1.trans s2
      refine ⟨_, rfl, c, _, rfl, .of (s3 _ _ a7), ?_⟩
      refine for_enumT (K := K) (a := c) (xs := cs.map fun e => V.ref e.p) (fun i σ H2 => ∃ v1 v2 : Option V, σ = [some (.ref g), some (.ref o), some (.ref p), some (.ref c), some (.bl true), some (.ref D), none, v1, v2] ∧ Same H' H2)
        ⟨_, _, rfl, Same.refl _⟩ (fun i σ H2 _ ⟨_, _, _, s4⟩ => .of (s4 _ _ (s3 _ _ a7))) ?_ ?_
      · rintro i y σ H2 t hy ht ⟨v1, v2, rfl, s4⟩
        obtain ⟨e, he, rfl⟩ := map_get hy
        have hi := lt_of_get he
        have hm := G.cm
        have s5 := same_put (o := .tup [.int (i : Nat), .ref e.p]) s4 (s4.free ht)
        obtain ⟨w1, w2, w3⟩ := G.cw e (mem_of_get he)
        refine ⟨_, _, rfl, .of upd_same, rfl, _, _, rfl, _, _, rfl, rfl, ?_⟩
        refine ⟨_, rfl, rfl, _, rfl, ifF (decide_eq_false (by intro z; have z := V.int.inj z; omega)) ?_⟩
        refine ⟨_, rfl, _, rfl, D, es.map (·.n), e, rfl, s5 _ _ hd, s5 _ _ (s3 _ _ (G.cl e (mem_of_get he))), w1, w2, w3, fun H3 s6 => ⟨_, rfl, iteF ?_⟩⟩
        exact ⟨_, _, rfl, s5.trans s6⟩
      · rintro σ H2 ⟨_, _, _, s4⟩
        exact q _ (s3.trans s4)
abbrev s_names_of : Stmt := (top 30)
abbrev n_names_of : List Str := ["grammar", "option"]
theorem sc_names_of : FnScope ["grammar", "option"] ["grammar"] (defScope s_names_of) := ⟨rfl, rfl, rfl, by decide +kernel, rfl, by decide +kernel, by decide +kernel⟩
-- slots: grammar 0, option 1
def spNames : Sp := fun vs H Q _ => ∃ (g : Addr) (es : List OE) (cs : List CE), vs = [.ref g] ∧ GrAt H g es cs ∧ ∀ H' p, Same H H' → H p = none → H' p = some (.lst ((es.map (·.n)).map V.str)) → Q (.ref p) H'
theorem ok_names_of {f : Addr} {fd : FuncData} (F : FunM K mg "names_of" s_names_of f fd) : Dn P w K mg base CX0 1 "names_of" f fd ["grammar"] spNames := by
  refine ⟨F.fn.ok sc_names_of (fun vs H Q E h => ?_) (fun cdv A outer s H vs Q E hr h => ?_), F.mg, F.fn.kp, (F.fn.binds fun _ _ _ _ _ _ us hl => match us, hl with | [_], _ => rfl)⟩
  · obtain ⟨a, _, _, rfl, _⟩ := h
    rfl
  · obtain ⟨g, es, cs, rfl, G, q⟩ := h
    obtain ⟨o, p, c, lo, hi, a1, a2, _⟩ := G.ex
    refine ⟨_, (pss_one (ps_ret (pe_lc (own := [("option", 1)]) (by rfl) sc_names_of.nd (pi_tup (pe_ix ix_tup (pv 0) pe_int (fun _ _ => rfl))) (blkOk_by (own := [("option", 1)]) (N := n_names_of) (sc := defScope s_names_of) (by decide +kernel)) (fun _ _ _ _ _ => (pg_name (i := 1) sc_names_of.nd rfl (by first | exact Or.inl rfl | exact Or.inr rfl))) (fun _ _ _ _ _ => pts_nil) (fun _ _ _ _ _ => (pe_ix (show IxR _ (rIxT K) from ix_tup) (pv 1) pe_int (fun _ _ => rfl)))))), ?_⟩
    refine ⟨_, rfl, _, _, _, _, rfl, rfl, .of a1, rfl, o, rfl, ⟨_, .of a2⟩, fun D hD => ?_⟩
    refine lc_tup (K := K) (a := o) (xs := es.map fun e => V.ref e.p) (fun i H' => Same H H' ∧ H' D = some (.lst (((es.take i).map (·.n)).map V.str))) ⟨same_upd hD, upd_same⟩ (fun i H' _ p => .of (p.1 _ _ a2)) ?_ ?_
    · rintro i y H' hy ⟨s2, hd⟩
      obtain ⟨e, he, rfl⟩ := map_get hy
      have oe := ((G.os e (mem_of_get he)).same s2).at_
      have hi := lt_of_get he
      have hm := G.oo.most
      refine ⟨rfl, _, rfl, _, _, _, _, rfl, rfl, .of oe, rfl, _, hd, sz _ (by simp; omega), same_put s2 hD, ?_⟩
      rw [upd_same, take_more he, List.map_append, List.map_append]
      rfl
    · rintro H' ⟨s2, hd⟩
      rw [List.length_map, List.take_length] at hd
      exact q _ D s2 hD hd
end
end Fk
/-! A list or a tuple, walked. -/
namespace Fk
open PySem PySem.Spec PyProof.Rows L2
def SqB (K : PySem.W.Frag) (H : Hp) (a : Addr) (xs : List V) : Prop := SqL K H a xs ∨ SqT K H a xs
theorem same_seqT {K : PySem.W.Frag} {H H' : Hp} {a : Addr} {xs : List V} (s : Same H H') (h : SqT K H a xs) : SqT K H' a xs := by
  rcases h with h | h
  · rcases h with h | ⟨o, h⟩
    · exact .inl (.inl (s _ _ h))
    · exact .inl (.inr ⟨o, s _ _ h⟩)
  · exact .inr h
theorem SqB.same {K : PySem.W.Frag} {H H' : Hp} {a : Addr} {xs : List V} (s : Same H H') (h : SqB K H a xs) : SqB K H' a xs := h.imp (fun h => s.seq h) (fun h => same_seqT s h)
/-- what stays of it, whichever it is -/
def KeepB (K : PySem.W.Frag) (a : Addr) (xs : List V) (H H' : Hp) : Prop := (SqL K H a xs → SqL K H' a xs) ∧ (SqT K H a xs → SqT K H' a xs)
theorem KeepB.of {K : PySem.W.Frag} {a : Addr} {xs : List V} {H H' : Hp} (s : Same H H') : KeepB K a xs H H' := ⟨fun h => s.seq h, fun h => same_seqT s h⟩
def iSeq (K : PySem.W.Frag) (tl : TE) : TI := fun σ H R => tl σ H fun x H1 => ∃ a, x = .ref a ∧ (((∃ xs, SqL K H1 a xs) ∧ R (Itl K a) H1) ∨ ((∃ xs, SqT K H1 a xs) ∧ R (Itt K a) H1))
theorem pi_seq {X : Cx} {tg l : Expr} {tl : TE} (hl : PE X l tl) : PI X tg l (iSeq X.K tl) := by
  refine ⟨fun pins s σ H R I h => thn (hl.run pins s σ H _ I h) fun v s1 ⟨x, H1, I1, r1, a, e, q⟩ => ?_⟩
  subst e
  cases r1
  have fp : ∀ b ∈ [s1.heap.objs.size], FpOk X pins H1 b := fun b hb => by
    have e := List.mem_singleton.mp hb
    subst e
    exact I1.fpOk (Nat.le_refl _) (I1.hok.fresh (Nat.le_refl _))
  rcases q with ⟨⟨xs, hq⟩, q⟩ | ⟨⟨xs, hq⟩, q⟩
  · obtain ⟨its, rv, p, hz⟩ := I1.list hq
    exact wpAny_pyIter_list p.isList ⟨s1.heap.objs.size, [s1.heap.objs.size], _, _, H1, rfl, I1.kept (t' := s1.toks) fun b o e => Heap.get?_push_of_some _ e, turn_list a _, ⟨_, Heap.get?_push_size _ rfl, rfl, rfl⟩, fp, q⟩
  · obtain ⟨its, rv, p, hz⟩ := I1.tuple hq
    exact wpAny_pyIter_tuple (show s1.heap.IsTuple a its.toArray from p) ⟨s1.heap.objs.size, [s1.heap.objs.size], _, _, H1, rfl, I1.kept (t' := s1.toks) fun b o e => Heap.get?_push_of_some _ e, turn_tuple a _, ⟨_, Heap.get?_push_size _ rfl, rfl, rfl⟩, fp, q⟩
theorem for_seq {K : PySem.W.Frag} {a : Addr} {xs : List V} {g : TG} {tb : TS} {D : Ends} {σ : L2.St} {H : Hp} (hq : SqB K H a xs) (Pv : Nat → L2.St → Hp → Prop) (h0 : Pv 0 σ H) (hl : ∀ i σ H', i ≤ xs.length → Pv i σ H' → KeepB K a xs H H')
    (hs : ∀ i x σ H, xs[i]? = some x → Pv i σ H → g x σ H fun σ2 H2 => tb { D with nx := Pv (i + 1), ct := Pv (i + 1), bk := D.nx } σ2 H2) (hd : ∀ σ H, Pv xs.length σ H → D.nx σ H) :
    ((∃ xs, SqL K H a xs) ∧ ∃ W : Nat → Nat → L2.St → Hp → Prop, (∃ m, W 0 m σ H) ∧ ∀ i m σ H, W i m σ H →
      ((Itl K a).stop i H ∧ D.nx σ H) ∨ ((Itl K a).go i H ∧ ∃ N : L2.St → Hp → Prop, (∀ σ' H', N σ' H' → ∃ m', m' < m ∧ W (i + 1) m' σ' H') ∧ ∀ x H', (Itl K a).yld i H x H' → g x σ H' fun σ2 H2 => tb { D with nx := N, ct := N, bk := D.nx } σ2 H2)) ∨
    ((∃ xs, SqT K H a xs) ∧ ∃ W : Nat → Nat → L2.St → Hp → Prop, (∃ m, W 0 m σ H) ∧ ∀ i m σ H, W i m σ H →
      ((Itt K a).stop i H ∧ D.nx σ H) ∨ ((Itt K a).go i H ∧ ∃ N : L2.St → Hp → Prop, (∀ σ' H', N σ' H' → ∃ m', m' < m ∧ W (i + 1) m' σ' H') ∧ ∀ x H', (Itt K a).yld i H x H' → g x σ H' fun σ2 H2 => tb { D with nx := N, ct := N, bk := D.nx } σ2 H2)) := by
  rcases hq with h | h
  · exact .inl ⟨⟨_, h⟩, for_list Pv h0 (fun i σ H' hi p => (hl i σ H' hi p).1 h) hs hd⟩
  · exact .inr ⟨⟨_, h⟩, for_tup Pv h0 (fun i σ H' hi p => (hl i σ H' hi p).2 h) hs hd⟩
theorem lc_seq {K : PySem.W.Frag} {a : Addr} {xs : List V} {g : TG} {tt : TT} {te : TE} {vs : List Nat} {σ : L2.St} {H1 : Hp} {Qd : Addr → Hp → Prop} (hq : SqB K H1 a xs) (Pv : Addr → Nat → Hp → Prop) (h0 : ∀ D, H1 D = none → Pv D 0 (upd H1 D (.lst []))) (hl : ∀ D i H, H1 D = none → i ≤ xs.length → Pv D i H → KeepB K a xs H1 H)
    (hs : ∀ D i x H, H1 D = none → xs[i]? = some x → Pv D i H → g x (wipe σ vs) H fun σ2 H2 => wipe σ2 vs = wipe σ vs ∧ tt σ2 H2 fun b H3 =>
      if b = true then te σ2 H3 fun y H4 => ∃ acc, H4 D = some (.lst acc) ∧ acc.length < sizeLine ∧ Pv D (i + 1) (upd H4 D (.lst (acc ++ [y]))) else Pv D (i + 1) H3) (hd : ∀ D H, H1 D = none → Pv D xs.length H → Qd D H) :
    ((∃ xs, SqL K H1 a xs) ∧ ∀ D, H1 D = none → ∃ W : Nat → Nat → Hp → Prop, (∃ m, W 0 m (upd H1 D (.lst []))) ∧ ∀ i m H, W i m H →
      ((Itl K a).stop i H ∧ Qd D H) ∨ ((Itl K a).go i H ∧ ∃ Nx : Hp → Prop, (∀ H', Nx H' → ∃ m', m' < m ∧ W (i + 1) m' H') ∧ ∀ x H', (Itl K a).yld i H x H' → g x (wipe σ vs) H' fun σ2 H2 => wipe σ2 vs = wipe σ vs ∧ tt σ2 H2 fun b H3 =>
        if b = true then te σ2 H3 fun y H4 => ∃ acc, H4 D = some (.lst acc) ∧ acc.length < sizeLine ∧ Nx (upd H4 D (.lst (acc ++ [y]))) else Nx H3)) ∨
    ((∃ xs, SqT K H1 a xs) ∧ ∀ D, H1 D = none → ∃ W : Nat → Nat → Hp → Prop, (∃ m, W 0 m (upd H1 D (.lst []))) ∧ ∀ i m H, W i m H →
      ((Itt K a).stop i H ∧ Qd D H) ∨ ((Itt K a).go i H ∧ ∃ Nx : Hp → Prop, (∀ H', Nx H' → ∃ m', m' < m ∧ W (i + 1) m' H') ∧ ∀ x H', (Itt K a).yld i H x H' → g x (wipe σ vs) H' fun σ2 H2 => wipe σ2 vs = wipe σ vs ∧ tt σ2 H2 fun b H3 =>
        if b = true then te σ2 H3 fun y H4 => ∃ acc, H4 D = some (.lst acc) ∧ acc.length < sizeLine ∧ Nx (upd H4 D (.lst (acc ++ [y]))) else Nx H3)) := by
  rcases hq with h | h
  · exact .inl ⟨⟨_, h⟩, fun D hD => lc_list (Pv D) (h0 D hD) (fun i H' hi p => (hl D i H' hD hi p).1 h) (hs D · · · hD) (hd D · hD)⟩
  · exact .inr ⟨⟨_, h⟩, fun D hD => lc_tup (Pv D) (h0 D hD) (fun i H' hi p => (hl D i H' hD hi p).2 h) (hs D · · · hD) (hd D · hD)⟩
/-! ### a block's turns, whatever its body -/
section
variable {K : PySem.W.Frag} {H0 : Hp} {Qd : Hp → Prop} {B : V → Hp → (Hp → Prop) → Prop}
theorem wk_list {a : Addr} {xs : List V} (Pv : Nat → Hp → Prop) (h0 : Pv 0 H0) (hl : ∀ i H, i ≤ xs.length → Pv i H → SqL K H a xs) (hs : ∀ i x H, xs[i]? = some x → Pv i H → B x H (Pv (i + 1))) (hd : ∀ H, Pv xs.length H → Qd H) :
    ∃ W : Nat → Nat → Hp → Prop, (∃ m, W 0 m H0) ∧ ∀ i m H, W i m H → ((Itl K a).stop i H ∧ Qd H) ∨ ((Itl K a).go i H ∧ ∃ N : Hp → Prop, (∀ H', N H' → ∃ m', m' < m ∧ W (i + 1) m' H') ∧ ∀ x H', (Itl K a).yld i H x H' → B x H' N) := by
  refine ⟨fun i m H => Pv i H ∧ i + m = xs.length, ⟨_, h0, Nat.zero_add _⟩, fun i m H ⟨p, e⟩ => ?_⟩
  by_cases c : i < xs.length
  · have q := hl i H (Nat.le_of_lt c) p
    refine .inr ⟨⟨xs, xs[i], q, List.getElem?_eq_getElem c⟩, Pv (i + 1), fun H' q => ⟨m - 1, by omega, q, by omega⟩, fun x H' ⟨e1, e2⟩ => ?_⟩
    subst e1
    exact hs i x _ (e2 xs q) p
  · have e4 : i = xs.length := by omega
    subst e4
    exact .inl ⟨⟨xs, hl _ H (Nat.le_refl _) p, Nat.le_refl _⟩, hd _ p⟩
theorem wk_tup {a : Addr} {xs : List V} (Pv : Nat → Hp → Prop) (h0 : Pv 0 H0) (hl : ∀ i H, i ≤ xs.length → Pv i H → SqT K H a xs) (hs : ∀ i x H, xs[i]? = some x → Pv i H → B x H (Pv (i + 1))) (hd : ∀ H, Pv xs.length H → Qd H) :
    ∃ W : Nat → Nat → Hp → Prop, (∃ m, W 0 m H0) ∧ ∀ i m H, W i m H → ((Itt K a).stop i H ∧ Qd H) ∨ ((Itt K a).go i H ∧ ∃ N : Hp → Prop, (∀ H', N H' → ∃ m', m' < m ∧ W (i + 1) m' H') ∧ ∀ x H', (Itt K a).yld i H x H' → B x H' N) := by
  refine ⟨fun i m H => Pv i H ∧ i + m = xs.length, ⟨_, h0, Nat.zero_add _⟩, fun i m H ⟨p, e⟩ => ?_⟩
  by_cases c : i < xs.length
  · have q := hl i H (Nat.le_of_lt c) p
    refine .inr ⟨⟨xs, xs[i], q, List.getElem?_eq_getElem c⟩, Pv (i + 1), fun H' q => ⟨m - 1, by omega, q, by omega⟩, fun x H' ⟨e1, e2⟩ => ?_⟩
    subst e1
    exact hs i x _ (e2 xs q) p
  · have e4 : i = xs.length := by omega
    subst e4
    exact .inl ⟨⟨xs, hl _ H (Nat.le_refl _) p, Nat.le_refl _⟩, hd _ p⟩
variable {P : Program} {w : World} {d : Addr} {o : Obj} {xs : List LE}
theorem wk_keysL (Pv : Nat → Hp → Prop) (h0 : Pv 0 H0) (hl : ∀ i H, i ≤ xs.length → Pv i H → H d = some (.frz o (ldO P w d xs))) (hs : ∀ i (e : LE) H, xs[i]? = some e → Pv i H → B (.ref e.2.1) H (Pv (i + 1))) (hd : ∀ H, Pv xs.length H → Qd H) :
    ∃ W : Nat → Nat → Hp → Prop, (∃ m, W 0 m H0) ∧ ∀ i m H, W i m H → ((ItKL P w d o xs).stop i H ∧ Qd H) ∨ ((ItKL P w d o xs).go i H ∧ ∃ N : Hp → Prop, (∀ H', N H' → ∃ m', m' < m ∧ W (i + 1) m' H') ∧ ∀ x H', (ItKL P w d o xs).yld i H x H' → B x H' N) := by
  refine ⟨fun i m H => Pv i H ∧ i + m = xs.length, ⟨_, h0, Nat.zero_add _⟩, fun i m H ⟨p, e⟩ => ?_⟩
  by_cases c : i < xs.length
  · refine .inr ⟨⟨hl i H (Nat.le_of_lt c) p, c⟩, Pv (i + 1), fun H' q => ⟨m - 1, by omega, q, by omega⟩, fun x H' ⟨e1, y, e2, e3⟩ => ?_⟩
    subst e1; subst e3
    exact hs i y _ e2 p
  · have e4 : i = xs.length := by omega
    subst e4
    exact .inl ⟨⟨hl _ H (Nat.le_refl _) p, Nat.le_refl _⟩, hd _ p⟩
theorem wk_itemsL (Pv : Nat → Hp → Prop) (h0 : Pv 0 H0) (hl : ∀ i H, i ≤ xs.length → Pv i H → H d = some (.frz o (ldO P w d xs))) (hs : ∀ i (e : LE) H T, xs[i]? = some e → H T = none → Pv i H → B (.ref T) (upd H T (.tup [.ref e.2.1, e.2.2])) (Pv (i + 1))) (hd : ∀ H, Pv xs.length H → Qd H) :
    ∃ W : Nat → Nat → Hp → Prop, (∃ m, W 0 m H0) ∧ ∀ i m H, W i m H → ((ItIL P w d o xs).stop i H ∧ Qd H) ∨ ((ItIL P w d o xs).go i H ∧ ∃ N : Hp → Prop, (∀ H', N H' → ∃ m', m' < m ∧ W (i + 1) m' H') ∧ ∀ x H', (ItIL P w d o xs).yld i H x H' → B x H' N) := by
  refine ⟨fun i m H => Pv i H ∧ i + m = xs.length, ⟨_, h0, Nat.zero_add _⟩, fun i m H ⟨p, e⟩ => ?_⟩
  by_cases c : i < xs.length
  · refine .inr ⟨⟨hl i H (Nat.le_of_lt c) p, c⟩, Pv (i + 1), fun H' q => ⟨m - 1, by omega, q, by omega⟩, fun x H' ⟨T, y, e2, e3, e5, e6⟩ => ?_⟩
    subst e3; subst e6
    exact hs i y _ T e2 e5 p
  · have e4 : i = xs.length := by omega
    subst e4
    exact .inl ⟨⟨hl _ H (Nat.le_refl _) p, Nat.le_refl _⟩, hd _ p⟩
end
end Fk
/-! The order of literals, of chains, of pairs (length, chain): the data's order is the mathematics' order. -/
namespace Fk
open PySem PySem.Spec PyProof.Rows L2
open Fc (StrictTotal lexlt clt)
def slt (a b : Str) : Bool := decide (a.cps.toList < b.cps.toList)
def llt (a b : Lt) : Bool := if a.1 = b.1 then (!a.2 && b.2) else slt a.1 b.1
theorem str_ext {a b : Str} (h : a.cps.toList = b.cps.toList) : a = b := by
  cases a; cases b
  simpa using h
theorem slt_total : StrictTotal slt where
  irrefl a := decide_eq_false (List.lt_irrefl _)
  trans a b c h1 h2 := decide_eq_true (List.lt_trans (of_decide_eq_true h1) (of_decide_eq_true h2))
  tri a b h1 h2 := str_ext (List.le_antisymm (List.not_lt.mp (of_decide_eq_false h2)) (List.not_lt.mp (of_decide_eq_false h1)))
theorem llt_total : StrictTotal llt where
  irrefl a := by simp [llt]
  trans a b c h1 h2 := by
    unfold llt at *
    by_cases e1 : a.1 = b.1
    · rw [if_pos e1] at h1
      by_cases e2 : b.1 = c.1
      · rw [if_pos e2] at h2
        rw [if_pos (e1.trans e2)]
        cases ha : a.2 <;> cases hb : b.2 <;> cases hc : c.2 <;> simp [ha, hb, hc] at h1 h2 ⊢
      · rw [if_neg e2] at h2
        rw [if_neg (fun z => e2 (e1.symm.trans z)), e1]
        exact h2
    · rw [if_neg e1] at h1
      by_cases e2 : b.1 = c.1
      · rw [if_neg (fun z => e1 (z.trans e2.symm)), ← e2]
        exact h1
      · rw [if_neg e2] at h2
        have h3 := slt_total.trans _ _ _ h1 h2
        rw [if_neg (fun z => by rw [z, slt_total.irrefl] at h3; cases h3)]
        exact h3
  tri a b h1 h2 := by
    unfold llt at *
    by_cases e1 : a.1 = b.1
    · rw [if_pos e1] at h1
      rw [if_pos e1.symm] at h2
      have : a.2 = b.2 := by cases ha : a.2 <;> cases hb : b.2 <;> simp [ha, hb] at h1 h2 ⊢
      exact Prod.ext e1 this
    · rw [if_neg e1] at h1
      rw [if_neg (fun z => e1 z.symm)] at h2
      exact absurd (slt_total.tri _ _ h1 h2) e1
theorem eqv_str (a b : Str) : PyData.eqv (.str a) (.str b) = decide (a = b) := by
  show (a == b) = _
  by_cases c : a = b
  · subst c; simp
  · simp [c]
theorem eqv_bool (a b : Bool) : PyData.eqv (.bool a) (.bool b) = decide (a = b) := by
  show (a == b) = _
  cases a <;> cases b <;> rfl
theorem eqv_int (a b : Int) : PyData.eqv (.int a) (.int b) = decide (a = b) := by
  show (a == b) = _
  by_cases c : a = b
  · subst c; simp
  · simp [c]
theorem eqv_lit (a b : Lt) : PyData.eqv (litD a) (litD b) = decide (a = b) := by
  show (PyData.eqv (.str a.1) (.str b.1) && (PyData.eqv (.bool a.2) (.bool b.2) && true)) = _
  rw [eqv_str, eqv_bool, Bool.and_true]
  by_cases c : a = b
  · subst c; simp
  · rw [decide_eq_false c]
    by_cases c1 : a.1 = b.1
    · have c2 : ¬ a.2 = b.2 := fun z => c (Prod.ext c1 z)
      simp [c1, c2]
    · simp [c1]
theorem lt_lit (a b : Lt) : PySem.W.dataLt (litD a) (litD b) = llt a b := by
  have h := PySem.W.dataLt_pair (x := .str a.1) (y := .bool a.2) (x' := .str b.1) (y' := .bool b.2) (by simp [PySem.W.alike]) (by simp [PySem.W.alike])
  show PySem.W.dataLt (.tuple [.str a.1, .bool a.2]) (.tuple [.str b.1, .bool b.2]) = _
  rw [h, eqv_str, eqv_bool, PySem.W.dataLt_bool, PySem.W.dataLt_str]
  unfold llt slt
  by_cases c : a.1 = b.1
  · rw [if_pos c, if_pos (decide_eq_true c)]
    cases a.2 <;> cases b.2 <;> simp [b2i]
  · rw [if_neg c, if_neg (by simp [c])]
/-- a chain as data -/
def chD (c : List Lt) : PyData := .list (c.map litD)
theorem lt_rows : ∀ a b : List Lt, PySem.W.rowLt (a.map litD) (b.map litD) = lexlt llt a b
  | [], [] => by
    have e : PySem.W.rowLt [] [] = false := PyProof.Rows.lex_irrefl _
    simpa [lexlt] using e
  | [], y :: ys => by
    have e : PySem.W.rowLt [] (litD y :: ys.map litD) = true := by
      unfold PySem.W.rowLt
      rw [PySem.W.toks_all_cons]
      simp only [PySem.W.keyToksAll]
      rw [PyProof.Rows.lex_diff (O := PyProof.Rows.itemOrd) (by simp)]
      rfl
    simpa [lexlt] using e
  | x :: xs, [] => by
    have e : PySem.W.rowLt (litD x :: xs.map litD) [] = false := by
      unfold PySem.W.rowLt
      rw [PySem.W.toks_all_cons]
      simp only [PySem.W.keyToksAll]
      rw [PyProof.Rows.lex_diff (O := PyProof.Rows.itemOrd) (by simp)]
      rfl
    simpa [lexlt] using e
  | x :: xs, y :: ys => by
    have h := PySem.W.dataLt_cons (alike_lit x y) (xs.map litD) (ys.map litD)
    rw [eqv_lit, lt_lit] at h
    have ih := lt_rows xs ys
    show PyProof.Rows.lexLt PyProof.Rows.itemOrd (PySem.W.keyToksAll (litD x :: xs.map litD)) (PySem.W.keyToksAll (litD y :: ys.map litD)) = lexlt llt (x :: xs) (y :: ys)
    rw [h]
    by_cases c : x = y
    · rw [if_pos (decide_eq_true c), show lexlt llt (x :: xs) (y :: ys) = if x = y then lexlt llt xs ys else llt x y from rfl, if_pos c]
      exact ih
    · rw [if_neg (by simp [c]), show lexlt llt (x :: xs) (y :: ys) = if x = y then lexlt llt xs ys else llt x y from rfl, if_neg c]
theorem lt_chain (a b : List Lt) : PySem.W.dataLt (chD a) (chD b) = lexlt llt a b := by
  show PySem.W.dataLt (.list (a.map litD)) (.list (b.map litD)) = _
  rw [PySem.W.dataLt_list]
  exact lt_rows a b
theorem eqv_rows : ∀ a b : List Lt, PyData.eqvAll (a.map litD) (b.map litD) = decide (a = b)
  | [], [] => rfl
  | [], _ :: _ => rfl
  | _ :: _, [] => rfl
  | x :: xs, y :: ys => by
    show (PyData.eqv (litD x) (litD y) && PyData.eqvAll (xs.map litD) (ys.map litD)) = _
    rw [eqv_lit, eqv_rows xs ys]
    by_cases c : x = y <;> by_cases d : xs = ys <;> simp [c, d]
theorem eqv_chain (a b : List Lt) : PyData.eqv (chD a) (chD b) = decide (a = b) := eqv_rows a b
theorem alike_lits : ∀ a b : List Lt, PySem.W.alikeAll (a.map litD) (b.map litD) = true
  | [], _ => by simp [PySem.W.alikeAll]
  | _ :: _, [] => by simp [PySem.W.alikeAll]
  | x :: xs, y :: ys => by
    show (PySem.W.alike (litD x) (litD y) && PySem.W.alikeAll (xs.map litD) (ys.map litD)) = true
    rw [alike_lit, alike_lits xs ys]
    rfl
theorem alike_ch (a b : List Lt) : PySem.W.alike (chD a) (chD b) = true := alike_lits a b
/-- (length, chain) as data -/
def lcD (c : List Lt) : PyData := .tuple [.int c.length, chD c]
theorem alike_lc (a b : List Lt) : PySem.W.alike (lcD a) (lcD b) = true := by
  show (true && (PySem.W.alike (chD a) (chD b) && true)) = true
  rw [alike_ch]
  rfl
theorem lt_lc (a b : List Lt) : PySem.W.dataLt (lcD a) (lcD b) = clt llt a b := by
  have h := PySem.W.dataLt_pair (x := .int a.length) (y := chD a) (x' := .int b.length) (y' := chD b) (by simp [PySem.W.alike]) (alike_ch a b)
  show PySem.W.dataLt (.tuple [.int a.length, chD a]) (.tuple [.int b.length, chD b]) = _
  rw [h, eqv_int, PySem.W.dataLt_int, lt_chain, eqv_chain]
  unfold clt
  by_cases c : a.length = b.length
  · rw [if_pos c, if_pos (decide_eq_true (by rw [c]))]
    by_cases d : a = b
    · subst d
      rw [if_pos (decide_eq_true rfl), Fc.lexlt_irrefl]
    · rw [if_neg (by simp [d])]
  · rw [if_neg c, if_neg (by simp; omega)]
    by_cases e : a.length < b.length
    · rw [decide_eq_true e, decide_eq_true (by omega)]
    · rw [decide_eq_false e, decide_eq_false (by omega)]
/-! ### sorted lists -/
section
variable {β : Type} {enc : β → PyData}
theorem sorted_by (l : List β) : (l.mergeSort (PySem.W.dataLe false enc)).Pairwise (fun a b => PySem.W.dataLt (enc b) (enc a) = false) := by
  have h := PySem.W.sort_pairwise (PySem.W.sortLe_total (PyProof.Rows.listOrd PyProof.Rows.itemOrd) false fun b => PySem.W.keyToks (enc b)) l
  refine List.Pairwise.imp (fun {a b} e => ?_) h
  have e' : (!PySem.W.dataLt (enc b) (enc a)) = true := e
  cases q : PySem.W.dataLt (enc b) (enc a) with
  | false => rfl
  | true => rw [q] at e'; cases e'
theorem mem_sorted {l : List β} {x : β} : x ∈ l.mergeSort (PySem.W.dataLe false enc) ↔ x ∈ l := (List.mergeSort_perm l _).mem_iff
theorem len_sorted (l : List β) : (l.mergeSort (PySem.W.dataLe false enc)).length = l.length := List.length_mergeSort l
theorem sortB_of {K : PySem.W.Frag} {H : Hp} {bs : List β} {f : β → V} (dp : ∀ b ∈ bs, Dp K H (f b) (enc b)) (al : ∀ a b, PySem.W.alike (enc a) (enc b) = true) (so : PySem.W.Sortable (bs.map enc)) (hz : bs.length ≤ sizeLine) (de : ∀ b ∈ bs, (enc b).depth ≤ 16) : SortB K H bs f enc where
  dp := dp
  al := PySem.W.AllAlike.of al
  so := so
  sz := hz
  de := de
end
end Fk
/-! Names, literals, the graph's making. -/
namespace Fk
open PySem PySem.Spec PyProof.Rows L2
section
variable {P : Program} {w : World} {K : PySem.W.Frag} {mg : Str → Option Value} {base : Heap}
abbrev s_check_names : Stmt := (top 31)
abbrev n_check_names : List Str := ["grammar", "names", "known", "name"]
theorem sc_check_names : FnScope ["grammar", "names", "known", "name"] ["grammar", "names"] (defScope s_check_names) := ⟨rfl, rfl, rfl, by decide +kernel, rfl, by decide +kernel, by decide +kernel⟩
-- slots: grammar 0, names 1, known 2, name 3
def spCheckNames (K : PySem.W.Frag) : Sp := fun vs H Q _ => ∃ (g a : Addr) (es : List OE) (cs : List CE) (ns : List Str), vs = [.ref g, .ref a] ∧ GrAt H g es cs ∧ SqB K H a (ns.map V.str) ∧ (∀ n ∈ ns, n ∈ es.map (·.n)) ∧ ∀ H', Same H H' → Q .non H'
theorem ok_check_names {f f1 : Addr} {fd fd1 : FuncData} (F : FunM K mg "check_names" s_check_names f fd) (T : Txt K mg) (D_names_of : Dn P w K mg base CX0 1 "names_of" f1 fd1 ["grammar"] spNames) : Dn P w K mg base CX0 2 "check_names" f fd ["grammar", "names"] (spCheckNames K) := by
  refine ⟨F.fn.ok sc_check_names (fun vs H Q E h => ?_) (fun cdv A outer s H vs Q E hr h => ?_), F.mg, F.fn.kp, (F.fn.binds fun _ _ _ _ _ _ us hl => match us, hl with | [_, _], _ => rfl)⟩
  · obtain ⟨a, _, _, _, _, rfl, _⟩ := h
    rfl
  · obtain ⟨g, a, es, cs, ns, rfl, G, hq, hn, q⟩ := h
    refine ⟨_, (pss_cons (ps_set (i := 2) sc_check_names.nd rfl (by first | exact Or.inl rfl | exact Or.inr rfl) (pe_call D_names_of.ok (hr.mono (by decide)) rfl D_names_of.mg D_names_of.kp D_names_of.bi .nil pass0 (pa_cons (pv 0) pa_nil)))
      (pss_one (ps_for PassesOwn.never rfl (pi_seq (pv 1)) (pg_name (i := 3) sc_check_names.nd rfl (by first | exact Or.inl rfl | exact Or.inr rfl)) (pss_one (ps_if (PW.pt (pw_or (pt_not (pt_val (pe_callB call_isi (by rfl) T.b_isinstance (by decide +kernel) (pa_cons (pv 3) (pa_cons (pe_bltn (v := .ty "str") (by rfl) T.b_str (by decide +kernel) rfl) pa_nil))))) (pw_or1 (pt_cmpR op_notIn_seq (pv 3) (pv 2) (by rfl))))) (pss_one ps_never) pss_nil))))), ?_⟩
    refine ⟨_, rfl, g, es, cs, rfl, G, fun H1 p s1 hp h1 => ?_⟩
    refine ⟨_, rfl, a, rfl, ?_⟩
    refine for_seq (xs := ns.map V.str) (hq.same s1) (fun i σ H' => ∃ v : Option V, σ = [some (.ref g), some (.ref a), some (.ref p), v] ∧ Same H1 H') ⟨_, rfl, Same.refl _⟩ (fun i σ H' _ ⟨_, _, s2⟩ => KeepB.of s2) ?_ ?_
    · rintro i y σ H' hy ⟨v, rfl, s2⟩
      obtain ⟨n, he, rfl⟩ := map_get hy
      refine ⟨_, rfl, _, _, .type "str", .type "str", true, rfl, .ty _, .base (.str n), kit_ty (by decide +kernel), _, rfl, iteF ?_⟩
      refine ⟨_, rfl, _, rfl, p, _, rfl, .inl (.of (s2 _ _ h1)), rfl, flat_strs _, _, rfl, ifF ?_ ?_⟩
      · show (!inV _ _) = false
        rw [inV_str, decide_eq_true (hn n (mem_of_get he))]
        rfl
      · exact ⟨_, rfl, s2⟩
    · rintro σ H' ⟨v, rfl, s2⟩
      exact q _ (s1.trans s2)
/-! ### literals -/
abbrev s_negate : Stmt := (top 33)
abbrev n_negate : List Str := ["literal", "name", "truth"]
theorem sc_negate : FnScope ["literal", "name", "truth"] ["literal"] (defScope s_negate) := ⟨rfl, rfl, rfl, by decide +kernel, rfl, by decide +kernel, by decide +kernel⟩
-- slots: literal 0, name 1, truth 2
def spNeg : Sp := fun vs H Q _ => ∃ (a : Addr) (l : Lt), vs = [.ref a] ∧ H a = some (litT l) ∧ ∀ p H', H p = none → Same H H' → H' p = some (litT (Fc.neg l)) → Q (.ref p) H'
theorem ok_negate {f : Addr} {fd : FuncData} (F : FunM K mg "negate" s_negate f fd) : Dn P w K mg base CX0 1 "negate" f fd ["literal"] spNeg := by
  refine ⟨F.fn.ok sc_negate (fun vs H Q E h => ?_) (fun cdv A outer s H vs Q E hr h => ?_), F.mg, F.fn.kp, (F.fn.binds fun _ _ _ _ _ _ us hl => match us, hl with | [_], _ => rfl)⟩
  · obtain ⟨a, _, rfl, _⟩ := h
    rfl
  · obtain ⟨a, l, rfl, h, q⟩ := h
    refine ⟨_, (pss_cons (ps_asg (pv 0) (pg_tup rfl (pgs_cons (pg_name (i := 1) sc_negate.nd rfl (by first | exact Or.inl rfl | exact Or.inr rfl)) (pgs_cons (pg_name (i := 2) sc_negate.nd rfl (by first | exact Or.inl rfl | exact Or.inr rfl)) pgs_nil))))
      (pss_one (ps_ret (pe_tup (pa_cons (pv 1) (pa_cons (pe_not (pv 2)) pa_nil)))))), ?_⟩
    exact ⟨_, rfl, a, _, rfl, .of h, rfl, _, _, rfl, _, _, rfl, rfl, _, rfl, ⟨_, rfl, _, rfl, sz2, fun p hp => q p _ hp (same_upd hp) upd_same⟩⟩
def lit1 (c : CE) : Lt := if c.w = "needs" then (c.a, false) else (c.a, decide (c.w = "either"))
def lit2 (c : CE) : Lt := if c.w = "needs" then (c.b, true) else (c.b, decide (c.w = "either"))
def clsOf (cs : List CE) : Fc.Cls Str := cs.map fun c => (lit1 c, lit2 c)
theorem dec_w (a b : Str) : decide (V.str a = V.str b) = decide (a = b) := by
  by_cases c : a = b
  · subst c; simp
  · rw [decide_eq_false c, decide_eq_false (fun z => c (V.str.inj z))]
abbrev s_literals_of : Stmt := (top 34)
abbrev n_literals_of : List Str := ["clause", "word", "first", "second"]
theorem sc_literals_of : FnScope ["clause", "word", "first", "second"] ["clause"] (defScope s_literals_of) := ⟨rfl, rfl, rfl, by decide +kernel, rfl, by decide +kernel, by decide +kernel⟩
-- slots: clause 0, word 1, first 2, second 3
def spLits : Sp := fun vs H Q _ => ∃ c : CE, vs = [.ref c.p] ∧ ClsAt H c ∧ ∀ t a b H', Same H H' → H t = none → H a = none → H b = none → H' t = some (.tup [.ref a, .ref b]) → H' a = some (litT (lit1 c)) → H' b = some (litT (lit2 c)) → Q (.ref t) H'
theorem ok_literals_of {f : Addr} {fd : FuncData} (F : FunM K mg "literals_of" s_literals_of f fd) : Dn P w K mg base CX0 1 "literals_of" f fd ["clause"] spLits := by
  refine ⟨F.fn.ok sc_literals_of (fun vs H Q E h => ?_) (fun cdv A outer s H vs Q E hr h => ?_), F.mg, F.fn.kp, (F.fn.binds fun _ _ _ _ _ _ us hl => match us, hl with | [_], _ => rfl)⟩
  · obtain ⟨c, rfl, _⟩ := h
    rfl
  · obtain ⟨c, rfl, h, q⟩ := h
    refine ⟨_, (pss_cons (ps_asg (pv 0) (pg_tup rfl (pgs_cons (pg_name (i := 1) sc_literals_of.nd rfl (by first | exact Or.inl rfl | exact Or.inr rfl)) (pgs_cons (pg_name (i := 2) sc_literals_of.nd rfl (by first | exact Or.inl rfl | exact Or.inr rfl)) (pgs_cons (pg_name (i := 3) sc_literals_of.nd rfl (by first | exact Or.inl rfl | exact Or.inr rfl)) pgs_nil)))))
      (pss_cons (ps_if (pt_cmpR op_eq (pv 1) pe_str (nomark _)) (pss_one (ps_ret (pe_tup (pa_cons (pe_tup (pa_cons (pv 2) (pa_cons pe_bl pa_nil))) (pa_cons (pe_tup (pa_cons (pv 3) (pa_cons pe_bl pa_nil))) pa_nil))))) pss_nil)
      (pss_one (ps_ret (pe_tup (pa_cons (pe_tup (pa_cons (pv 2) (pa_cons (pe_cmpR op_eq (pv 1) pe_str (nomark _)) pa_nil))) (pa_cons (pe_tup (pa_cons (pv 3) (pa_cons (pe_cmpR op_eq (pv 1) pe_str (nomark _)) pa_nil))) pa_nil))))))), ?_⟩
    refine ⟨_, rfl, _, _, rfl, .of h, rfl, _, _, rfl, _, _, rfl, _, _, rfl, rfl, ?_⟩
    refine ⟨_, rfl, rfl, _, rfl, ifB (fun e => ?_) (fun e => ?_)⟩
    · rw [dec_w] at e
      have e := of_decide_eq_true e
      refine ⟨_, rfl, sz2, fun a ha => ⟨_, rfl, sz2, fun b hb => ⟨sz2, fun t ht => ?_⟩⟩⟩
      have s1 := same_upd (H := H) (o := .tup [.str c.a, .bl false]) ha
      have s2 := same_upd (o := .tup [.str c.b, .bl true]) hb
      have s3 := same_upd (o := .tup [.ref a, .ref b]) ht
      refine q t a b _ ((s1.trans s2).trans s3) (s1.free (s2.free ht)) ha (s1.free hb) upd_same ?_ ?_
      · exact s3 _ _ (s2 _ _ (by rw [upd_same]; simp [lit1, litT, e]))
      · exact s3 _ _ (by rw [upd_same]; simp [lit2, litT, e])
    · rw [dec_w] at e
      have e := of_decide_eq_false e
      refine ⟨_, rfl, _, rfl, rfl, sz2, fun a ha => ⟨_, rfl, _, rfl, rfl, sz2, fun b hb => ⟨sz2, fun t ht => ?_⟩⟩⟩
      have s1 := same_upd (H := H) (o := .tup [.str c.a, .bl (decide (V.str c.w = V.str "either"))]) ha
      have s2 := same_upd (o := .tup [.str c.b, .bl (decide (V.str c.w = V.str "either"))]) hb
      have s3 := same_upd (o := .tup [.ref a, .ref b]) ht
      refine q t a b _ ((s1.trans s2).trans s3) (s1.free (s2.free ht)) ha (s1.free hb) upd_same ?_ ?_
      · exact s3 _ _ (s2 _ _ (by rw [upd_same, dec_w]; simp [lit1, litT, e]))
      · exact s3 _ _ (by rw [upd_same, dec_w]; simp [lit2, litT, e])
end
end Fk
/-! The graph's making. -/
namespace Fk
open PySem PySem.Spec PyProof.Rows L2
open Fc (neg Edge)
section
variable {P : Program} {w : World} {K : PySem.W.Frag} {mg : Str → Option Value} {base : Heap}
def rowsOf (ls : List Lt) (kx : Lt → Addr) (v : Lt → V) : List LE := ls.map fun l => (l, kx l, v l)
theorem lval_rows (ls : List Lt) (kx : Lt → Addr) (v : Lt → V) (m : Lt) : lval (rowsOf ls kx v) m = if m ∈ ls then some (v m) else none := by
  induction ls with
  | nil => simp [rowsOf, lval_nil]
  | cons l r ih =>
    show lval ((l, kx l, v l) :: rowsOf r kx v) m = _
    rw [lval_cons, ih]
    by_cases c : l = m
    · subst c; simp
    · have c' : ¬ m = l := fun z => c z.symm
      simp [c, c']
theorem rows_congr {ls : List Lt} {kx kx' : Lt → Addr} {v v' : Lt → V} (h : ∀ l ∈ ls, kx l = kx' l ∧ v l = v' l) : rowsOf ls kx v = rowsOf ls kx' v' := by
  unfold rowsOf
  refine List.map_congr_left fun l m => ?_
  rw [(h l m).1, (h l m).2]
theorem rows_len (ls : List Lt) (kx : Lt → Addr) (v : Lt → V) : (rowsOf ls kx v).length = ls.length := by rw [rowsOf, List.length_map]
theorem rows_app (ls : List Lt) (l : Lt) (kx : Lt → Addr) (v : Lt → V) : rowsOf (ls ++ [l]) kx v = rowsOf ls kx v ++ [(l, kx l, v l)] := by simp [rowsOf]
/-- a dict of dicts, built since H0 -/
structure EdgesAt (P : Program) (w : World) (H0 H : Hp) (D : Addr) (ls : List Lt) (kx d : Lt → Addr) (ct : Lt → List LE) : Prop where
  s : Same H0 H
  nD : H0 D = none
  tb : H D = some (ldO P w D (rowsOf ls kx fun l => .ref (d l)))
  ky : ∀ l ∈ ls, H (kx l) = some (litT l)
  dt : ∀ l ∈ ls, H (d l) = some (ldO P w (d l) (ct l))
  ck : ∀ l ∈ ls, KeysAt H (ct l)
  inj : ∀ l ∈ ls, ∀ m ∈ ls, d l = d m → l = m
  ne : ∀ l ∈ ls, d l ≠ D
  nw : ∀ l ∈ ls, H0 (d l) = none
theorem EdgesAt.same {H0 H H' : Hp} {D : Addr} {ls : List Lt} {kx d : Lt → Addr} {ct : Lt → List LE} (s : Same H H') (E : EdgesAt P w H0 H D ls kx d ct) : EdgesAt P w H0 H' D ls kx d ct where
  s := E.s.trans s
  nD := E.nD
  tb := s _ _ E.tb
  ky := fun l m => s _ _ (E.ky l m)
  dt := fun l m => s _ _ (E.dt l m)
  ck := fun l m => (E.ck l m).keep fun b ys h => s _ _ h
  inj := E.inj
  ne := E.ne
  nw := E.nw
theorem EdgesAt.keys {H0 H : Hp} {D : Addr} {ls : List Lt} {kx d : Lt → Addr} {ct : Lt → List LE} (E : EdgesAt P w H0 H D ls kx d ct) : KeysAt H (rowsOf ls kx fun l => .ref (d l)) := fun x m => by
  obtain ⟨l, hl, rfl⟩ := List.mem_map.mp m
  exact E.ky l hl
theorem lit_ne_ld {H : Hp} {a b : Addr} {l : Lt} {xs : List LE} (h1 : H a = some (litT l)) (h2 : H b = some (ldO P w b xs)) : a ≠ b := fun z => by
  rw [z, h2] at h1
  cases h1
/-- a key that is new, with a new dict -/
theorem EdgesAt.add {H0 H : Hp} {D p q : Addr} {ls : List Lt} {kx d : Lt → Addr} {ct : Lt → List LE} {l : Lt} (E : EdgesAt P w H0 H D ls kx d ct) (hl : l ∉ ls) (hp : H p = some (litT l)) (hq : H q = some (ldO P w q [])) (nq : H0 q = none) (neq : ∀ m ∈ ls, q ≠ d m) (nqD : q ≠ D) :
    EdgesAt P w H0 (upd H D (ldO P w D (lput (rowsOf ls kx fun l => .ref (d l)) l p (.ref q)))) D (ls ++ [l]) (fun m => if m = l then p else kx m) (fun m => if m = l then q else d m) (fun m => if m = l then [] else ct m) := by
  have kp : ∀ b ys, H b = some (HO.tup ys) → (upd H D (ldO P w D (lput (rowsOf ls kx fun l => .ref (d l)) l p (.ref q)))) b = some (.tup ys) := fun b ys h => by
    rw [upd_ne (fun z => by rw [z, E.tb] at h; cases h)]
    exact h
  have old : ∀ m ∈ ls, m ≠ l := fun m hm z => hl (z ▸ hm)
  refine ⟨same_put E.s E.nD, E.nD, ?_, fun m hm => ?_, fun m hm => ?_, fun m hm => ?_, fun m hm n hn e => ?_, fun m hm => ?_, fun m hm => ?_⟩
  · rw [upd_same, lput_new (by rw [lval_rows, if_neg hl]), rows_app]
    simp only [if_pos]
    rw [rows_congr (kx' := fun m => if m = l then p else kx m) (v' := fun m => V.ref (if m = l then q else d m)) (fun m hm => by simp [old m hm])]
  · rcases List.mem_append.mp hm with z | z
    · simp only [if_neg (old m z)]
      exact kp _ _ (E.ky m z)
    · have z := List.mem_singleton.mp z
      subst z
      simp only [if_pos]
      exact kp _ _ hp
  · rcases List.mem_append.mp hm with z | z
    · simp only [if_neg (old m z)]
      rw [upd_ne (E.ne m z)]
      exact E.dt m z
    · have z := List.mem_singleton.mp z
      subst z
      simp only [if_pos]
      rw [upd_ne nqD]
      exact hq
  · rcases List.mem_append.mp hm with z | z
    · simp only [if_neg (old m z)]
      exact (E.ck m z).keep kp
    · have z := List.mem_singleton.mp z
      subst z
      simp only [if_pos]
      exact fun x hx => nomatch hx
  · rcases List.mem_append.mp hm with z | z <;> rcases List.mem_append.mp hn with y | y
    · simp only [if_neg (old m z), if_neg (old n y)] at e
      exact E.inj m z n y e
    · have y := List.mem_singleton.mp y
      subst y
      simp only [if_neg (old m z), if_pos] at e
      exact absurd e.symm (neq m z)
    · have z := List.mem_singleton.mp z
      subst z
      simp only [if_neg (old n y), if_pos] at e
      exact absurd e (neq n y)
    · rw [List.mem_singleton.mp z, List.mem_singleton.mp y]
  · rcases List.mem_append.mp hm with z | z
    · simp only [if_neg (old m z)]
      exact E.ne m z
    · have z := List.mem_singleton.mp z
      subst z
      simp only [if_pos]
      exact nqD
  · rcases List.mem_append.mp hm with z | z
    · simp only [if_neg (old m z)]
      exact E.nw m z
    · have z := List.mem_singleton.mp z
      subst z
      simp only [if_pos]
      exact nq
/-- one of the dicts gets a key -/
theorem EdgesAt.put {H0 H : Hp} {D b : Addr} {ls : List Lt} {kx d : Lt → Addr} {ct : Lt → List LE} {m y : Lt} {v : V} (E : EdgesAt P w H0 H D ls kx d ct) (hm : m ∈ ls) (hb : H b = some (litT y)) :
    EdgesAt P w H0 (upd H (d m) (ldO P w (d m) (lput (ct m) y b v))) D ls kx d (fun l => if l = m then lput (ct m) y b v else ct l) := by
  have kp : ∀ c ys, H c = some (HO.tup ys) → (upd H (d m) (ldO P w (d m) (lput (ct m) y b v))) c = some (.tup ys) := fun c ys h => by
    rw [upd_ne (fun z => by rw [z, E.dt m hm] at h; cases h)]
    exact h
  refine ⟨same_put E.s (E.nw m hm), E.nD, ?_, fun l hl => kp _ _ (E.ky l hl), fun l hl => ?_, fun l hl => ?_, E.inj, E.ne, E.nw⟩
  · rw [upd_ne (E.ne m hm).symm]
    exact E.tb
  · by_cases c : l = m
    · subst c
      simp only [if_pos]
      exact upd_same
    · simp only [if_neg c]
      rw [upd_ne fun z => c (E.inj l hl m hm z)]
      exact E.dt l hl
  · by_cases c : l = m
    · subst c
      simp only [if_pos]
      exact keys_lput ((E.ck l hl).keep kp) (kp _ _ hb)
    · simp only [if_neg c]
      exact (E.ck l hl).keep kp
/-- what the successors of a literal look like -/
structure SuccAt (H : Hp) (q : Addr) (bs : List (Lt × Addr)) (cl : Fc.Cls Str) (l : Lt) : Prop where
  at_ : H q = some (.lst (bs.map fun b => V.ref b.2))
  ky : ∀ b ∈ bs, H b.2 = some (litT b.1)
  mem : ∀ y, y ∈ bs.map (·.1) ↔ Edge cl l y
  ord : bs.Pairwise fun a b => llt b.1 a.1 = false
  sz : bs.length ≤ 18
theorem SuccAt.same {H H' : Hp} {q : Addr} {bs : List (Lt × Addr)} {cl : Fc.Cls Str} {l : Lt} (s : Same H H') (S : SuccAt H q bs cl l) : SuccAt H' q bs cl l := ⟨s _ _ S.at_, fun b m => s _ _ (S.ky b m), S.mem, S.ord, S.sz⟩
structure GraphAt (P : Program) (w : World) (C : Addr) (H : Hp) (x : Addr) (ns : List Str) (cl : Fc.Cls Str) : Prop where
  ex : ∃ (dx d : Addr) (xs : List LE) (qa : Lt → Addr) (bs : Lt → List (Lt × Addr)), H x = some (.ins C dx [("successors", .ref d)]) ∧ H d = some (ldO P w d xs) ∧ KeysAt H xs ∧ ∀ l : Lt, l.1 ∈ ns → lval xs l = some (.ref (qa l)) ∧ SuccAt H (qa l) (bs l) cl l
  ov : Fc.Over cl ns
  nz : ns.length ≤ 7
  nok : ∀ n ∈ ns, n ∈ okNames
theorem GraphAt.same {C : Addr} {H H' : Hp} {x : Addr} {ns : List Str} {cl : Fc.Cls Str} (s : Same H H') (G : GraphAt P w C H x ns cl) : GraphAt P w C H' x ns cl where
  ex := by
    obtain ⟨dx, d, xs, qa, bs, h1, h2, h3, h4⟩ := G.ex
    exact ⟨dx, d, xs, qa, bs, s _ _ h1, s _ _ h2, h3.keep fun b ys h => s _ _ h, fun l hl => ⟨(h4 l hl).1, (h4 l hl).2.same s⟩⟩
  ov := G.ov
  nz := G.nz
  nok := G.nok
def SameX (x : Addr) (H H' : Hp) : Prop := ∀ b o, b ≠ x → H b = some o → H' b = some o
/-- what the class of graphs needs -/
structure ClsG (K : PySem.W.Frag) (mg : Str → Option Value) (C : Addr) : Prop where
  cl : L2.Cls K C
  nS : NoAttr K C "successors"
  mgC : mg "ImplicationGraph" = some (.ref C)
def spGInit (P : Program) (w : World) (C : Addr) : Sp := fun vs H Q _ => ∃ (x dx nl ct : Addr) (ns : List Str) (cs : List CE), vs = [.ref x, .ref nl, .ref ct] ∧ H x = some (.ins C dx []) ∧ H nl = some (.lst (ns.map V.str)) ∧ H ct = some (.tup (cs.map fun c => V.ref c.p)) ∧
  (∀ c ∈ cs, ClsAt H c ∧ c.a ∈ ns ∧ c.b ∈ ns) ∧ ns.Nodup ∧ (∀ n ∈ ns, n ∈ okNames) ∧ ns.length ≤ 7 ∧ cs.length ≤ 9 ∧ ∀ H', SameX x H H' → GraphAt P w C H' x ns (clsOf cs) → Q .non H'
abbrev s_ImplicationGraph_init : Stmt := (inClass (top 35) 0)
abbrev n_ImplicationGraph_init : List Str := ["self", "names", "clauses", "edges", "name", "truth", "clause", "left", "right", "literal"]
theorem sc_ImplicationGraph_init : FnScope ["self", "names", "clauses", "edges", "name", "truth", "clause", "left", "right", "literal"] ["self", "names", "clauses"] (defScope s_ImplicationGraph_init) := ⟨rfl, rfl, rfl, by decide +kernel, rfl, by decide +kernel, by decide +kernel⟩
-- slots: self 0, names 1, clauses 2, edges 3, name 4, truth 5, clause 6, left 7, right 8, literal 9
theorem lits_more {ns : List Str} {i : Nat} {n : Str} (h : ns[i]? = some n) : Fc.litsOf (ns.take (i + 1)) = Fc.litsOf (ns.take i) ++ [false, true].map fun b => ((n, b) : Lt) := by
  rw [take_more h]
  simp [Fc.litsOf]
theorem lits_nodup : ∀ {ns : List Str}, ns.Nodup → (Fc.litsOf ns).Nodup
  | [], _ => List.nodup_nil
  | n :: r, h => by
    have h1 := List.nodup_cons.mp h
    have e : Fc.litsOf (n :: r) = (n, false) :: (n, true) :: Fc.litsOf r := rfl
    rw [e, List.nodup_cons, List.nodup_cons]
    have k : ∀ b, ((n, b) : Lt) ∉ Fc.litsOf r := fun b m => h1.1 (Fc.mem_litsOf.mp m)
    refine ⟨fun m => ?_, k true, lits_nodup h1.2⟩
    rcases List.mem_cons.mp m with z | z
    · have := congrArg Prod.snd z
      cases this
    · exact k false z
theorem lval_isSome : ∀ (xs : List LE) (y : Lt), (lval xs y).isSome = true ↔ y ∈ xs.map (·.1)
  | [], y => by simp [lval_nil]
  | x :: r, y => by
    rw [lval_cons]
    have ih := lval_isSome r y
    by_cases c : x.1 = y
    · simp [c]
    · have c' : ¬ y = x.1 := fun z => c z.symm
      rw [if_neg c, ih]
      simp [c']
theorem put_has {ct : Lt → List LE} {l m y z : Lt} {b : Addr} {v : V} : (lval (if l = m then lput (ct m) z b v else ct l) y).isSome = true ↔ (lval (ct l) y).isSome = true ∨ (l = m ∧ y = z) := by
  by_cases c : l = m
  · subst c
    rw [if_pos rfl, lval_lput]
    by_cases d : y = z
    · simp [d]
    · simp [d]
  · rw [if_neg c]
    simp [c]
theorem put_len {ct : Lt → List LE} {l m z : Lt} {b : Addr} {v : V} {n : Nat} (h : ∀ l, (ct l).length ≤ n) : (if l = m then lput (ct m) z b v else ct l).length ≤ n + 1 := by
  have h1 := h l
  have h2 := h m
  have h3 := length_lput (ct m) z b v
  split <;> omega
theorem edge_app (a b : Fc.Cls Str) (x y : Lt) : Edge (a ++ b) x y ↔ Edge a x y ∨ Edge b x y := by
  unfold Edge
  constructor
  · rintro ⟨c, m, h⟩
    rcases List.mem_append.mp m with m | m
    · exact .inl ⟨c, m, h⟩
    · exact .inr ⟨c, m, h⟩
  · rintro (⟨c, m, h⟩ | ⟨c, m, h⟩)
    · exact ⟨c, List.mem_append_left _ m, h⟩
    · exact ⟨c, List.mem_append_right _ m, h⟩
theorem edge_one (a b x y : Lt) : Edge [(a, b)] x y ↔ (x = neg a ∧ y = b) ∨ (x = neg b ∧ y = a) := by
  unfold Edge
  constructor
  · rintro ⟨c, m, h⟩
    have m := List.mem_singleton.mp m
    subst m
    rcases h with ⟨h1, h2⟩ | ⟨h1, h2⟩
    · exact .inl ⟨h1.symm, h2.symm⟩
    · exact .inr ⟨h1.symm, h2.symm⟩
  · rintro (⟨h1, h2⟩ | ⟨h1, h2⟩)
    · exact ⟨_, List.mem_singleton_self _, .inl ⟨h1.symm, h2.symm⟩⟩
    · exact ⟨_, List.mem_singleton_self _, .inr ⟨h1.symm, h2.symm⟩⟩
theorem lit1_fst (c : CE) : (lit1 c).1 = c.a := by unfold lit1; split <;> rfl
theorem lit2_fst (c : CE) : (lit2 c).1 = c.b := by unfold lit2; split <;> rfl
theorem over_cls {cs : List CE} {ns : List Str} (h : ∀ c ∈ cs, c.a ∈ ns ∧ c.b ∈ ns) : Fc.Over (clsOf cs) ns := fun c m => by
  obtain ⟨d, m', rfl⟩ := List.mem_map.mp m
  exact ⟨by rw [lit1_fst]; exact (h d m').1, by rw [lit2_fst]; exact (h d m').2⟩
theorem ok_g_init {f f1 f2 C : Addr} {fd fd1 fd2 : FuncData} (F : Fun K "__init__" "ImplicationGraph.__init__" s_ImplicationGraph_init f fd) (T : Txt K mg) (TG : ClsG K mg C) (D_negate : Dn P w K mg base CX0 1 "negate" f1 fd1 ["literal"] spNeg)
    (D_literals_of : Dn P w K mg base CX0 1 "literals_of" f2 fd2 ["clause"] spLits) : FnOk P w K mg base CX0 2 f fd ["self", "names", "clauses"] (spGInit P w C) := by
  refine F.ok sc_ImplicationGraph_init (fun vs H Q E h => ?_) (fun cdv A outer s H vs Q E hr h => ?_)
  · obtain ⟨_, _, _, _, _, _, rfl, _⟩ := h
    rfl
  · obtain ⟨x, dx, nl, ct, ns, cs, rfl, hx, hn, hc, hcs, nd, nok, l7, l9, q⟩ := h
    have hu := hu_of hr
    refine ⟨_, (pss_cons (ps_set (i := 3) sc_ImplicationGraph_init.nd rfl (by first | exact Or.inl rfl | exact Or.inr rfl) (pe_dcL2 (own := [("name", 4), ("truth", 5)]) (vs1 := [5]) hr.units0 (by rfl) sc_ImplicationGraph_init.nd (pi_list (pv 1)) (blkOk_by (own := [("name", 4), ("truth", 5)]) (N := n_ImplicationGraph_init) (sc := defScope s_ImplicationGraph_init) (by decide +kernel)) (by decide) (fun _ _ _ _ _ => (pg_name (i := 4) sc_ImplicationGraph_init.nd rfl (by first | exact Or.inl rfl | exact Or.inr rfl))) (fun _ _ _ _ _ => pts_nil) (fun _ _ _ _ _ => (show PI _ _ _ (iTup K _) from (pi_tup (pe_tup (pa_cons pe_bl (pa_cons pe_bl pa_nil)))))) (fun _ _ _ _ _ => (pg_name (i := 5) sc_ImplicationGraph_init.nd rfl (by first | exact Or.inl rfl | exact Or.inr rfl))) (fun _ _ _ _ _ => pts_nil) (fun _ _ _ _ _ => (pe_tup (pa_cons (pv 4) (pa_cons (pv 5) pa_nil)))) (fun _ _ _ _ _ => (show PE _ _ (tLNew P w) from pe_lnew))))
      (pss_cons (ps_for PassesOwn.never rfl (pi_tup (pv 2)) (pg_name (i := 6) sc_ImplicationGraph_init.nd rfl (by first | exact Or.inl rfl | exact Or.inr rfl)) (pss_cons (ps_asg (pe_call D_literals_of.ok (hr.mono (by decide)) rfl D_literals_of.mg D_literals_of.kp D_literals_of.bi .nil pass0 (pa_cons (pv 6) pa_nil)) (pg_tup rfl (pgs_cons (pg_name (i := 7) sc_ImplicationGraph_init.nd rfl (by first | exact Or.inl rfl | exact Or.inr rfl)) (pgs_cons (pg_name (i := 8) sc_ImplicationGraph_init.nd rfl (by first | exact Or.inl rfl | exact Or.inr rfl)) pgs_nil))))
      (pss_cons (ps_lput hu (pe_lget hu (pv 3) (pe_call D_negate.ok (hr.mono (by decide)) rfl D_negate.mg D_negate.kp D_negate.bi .nil pass0 (pa_cons (pv 7) pa_nil)) (by intro _ _; rfl)) (pv 8) pe_bl rfl)
      (pss_one (ps_lput hu (pe_lget hu (pv 3) (pe_call D_negate.ok (hr.mono (by decide)) rfl D_negate.mg D_negate.kp D_negate.bi .nil pass0 (pa_cons (pv 8) pa_nil)) (by intro _ _; rfl)) (pv 7) pe_bl rfl)))))
      (pss_one (ps_fld (pv 0) (pe_lock (pe_dcL (own := [("literal", 9)]) hr.units0 (by rfl) sc_ImplicationGraph_init.nd (pi_keysL (pv 3)) (blkOk_by (own := [("literal", 9)]) (N := n_ImplicationGraph_init) (sc := defScope s_ImplicationGraph_init) (by decide +kernel)) (fun _ _ _ _ _ => (pg_name (i := 9) sc_ImplicationGraph_init.nd rfl (by first | exact Or.inl rfl | exact Or.inr rfl))) (fun _ _ _ _ _ => pts_nil) (fun _ _ _ _ _ => (pv 9)) (fun _ _ _ _ _ => (pe_callB (show CallR _ (.builtin "sorted") (rSortLd P w) from (cr_sortLd rfl (hu1_of hr))) (by rfl) T.b_sorted (by decide +kernel) (pa_cons (show PE _ _ (tLGet P w _ _) from (pe_lget hu (pv 3) (pv 9) (by intro _ _; rfl))) pa_nil))))) rfl)))), ?_⟩
    refine ⟨_, rfl, nl, rfl, ⟨_, .of hn⟩, fun D hD => ?_⟩
    refine wk_list (K := K) (a := nl) (xs := ns.map V.str) (fun i H' => ∃ kx d c2, EdgesAt P w H H' D (Fc.litsOf (ns.take i)) kx d c2 ∧ ∀ l, c2 l = [])
      ⟨fun _ => 0, fun _ => 0, fun _ => [], ⟨same_upd hD, hD, upd_same, (fun _ h => nomatch h), (fun _ h => nomatch h), (fun _ h => nomatch h), (fun _ h => nomatch h), (fun _ h => nomatch h), (fun _ h => nomatch h)⟩, fun _ => rfl⟩
      (fun i H' _ ⟨_, _, _, E, _⟩ => .of (E.s _ _ hn)) ?_ ?_
    · rintro i y H' hy ⟨kx, d, c2, E, e0⟩
      obtain ⟨n, hi, rfl⟩ := map_get hy
      refine ⟨rfl, sz2, fun t ht => ⟨t, rfl, ⟨_, .of upd_same⟩, ?_⟩⟩
      refine wk_tup (K := K) (a := t) (xs := [false, true].map V.bl) (fun j H2 => ∃ kx d c2, EdgesAt P w H H2 D (Fc.litsOf (ns.take i) ++ ([false, true].take j).map fun b => ((n, b) : Lt)) kx d c2 ∧ (∀ l, c2 l = []) ∧ H2 t = some (.tup ([false, true].map V.bl)))
        ⟨kx, d, c2, by simpa using E.same (same_upd ht), e0, upd_same⟩ (fun j H2 _ ⟨_, _, _, _, _, h⟩ => .of h) ?_ ?_
      · rintro j z H2 hz ⟨kx, d, c2, E, e0, h2⟩
        obtain ⟨b, hb, rfl⟩ := map_get hz
        refine ⟨rfl, _, rfl, _, rfl, sz2, fun p hp q hq => ?_⟩
        have s2 := same_upd (o := .tup [.str n, .bl b]) hp
        have s3 := same_upd (o := ldO P w q []) hq
        have E2 := E.same s2
        have E3 := E2.same s3
        have hl : ((n, b) : Lt) ∉ Fc.litsOf (ns.take i) ++ ([false, true].take j).map fun b => ((n, b) : Lt) := fun m => by
          rcases List.mem_append.mp m with m | m
          · have m := Fc.mem_litsOf.mp m
            exact not_take (f := id) (by simpa using nd) hi (by simpa using m)
          · exact not_take (f := fun b => ((n, b) : Lt)) (by simp) hb m
        have len : (rowsOf (Fc.litsOf (ns.take i) ++ ([false, true].take j).map fun b => ((n, b) : Lt)) kx fun l => V.ref (d l)).length < sizeLine := by
          refine sz _ ?_
          rw [rowsOf, List.length_map, List.length_append, Fc.litsOf_length, List.length_map, List.length_take, List.length_take]
          simp
          omega
        have E4 := E3.add (p := p) (q := q) hl (s3 _ _ upd_same) upd_same (E2.s.free hq) (fun m hm z => by have := E2.dt m hm; rw [← z, hq] at this; cases this) (fun z => by have := E2.tb; rw [← z, hq] at this; cases this)
        refine ⟨_, p, (n, b), rfl, E3.tb, E3.keys, s3 _ _ upd_same, len, ?_⟩
        refine ⟨fun m => if m = ((n, b) : Lt) then p else kx m, fun m => if m = ((n, b) : Lt) then q else d m, fun m => if m = ((n, b) : Lt) then [] else c2 m, ?_, ?_, ?_⟩
        · rw [take_more hb, List.map_append, ← List.append_assoc]
          exact E4
        · intro l
          simp [e0]
        · rw [upd_ne (fun z => by have := s3 _ _ (s2 _ _ h2); rw [z, E3.tb] at this; cases this)]
          exact s3 _ _ (s2 _ _ h2)
      · rintro H2 ⟨kx, d, c2, E, e0, h2⟩
        refine ⟨kx, d, c2, ?_, e0⟩
        rw [lits_more hi]
        exact E
    · rintro H' ⟨kx, d, c2, E, e0⟩
      rw [List.length_map, List.take_length] at E
      refine ⟨_, rfl, ct, rfl, ⟨_, .of (E.s _ _ hc)⟩, ?_⟩
      refine for_tup (K := K) (a := ct) (xs := cs.map fun c => V.ref c.p) (fun i σ H2 => ∃ (v6 v7 v8 : Option V) (c2 : Lt → List LE), σ = [some (.ref x), some (.ref nl), some (.ref ct), some (.ref D), none, none, v6, v7, v8, none] ∧ EdgesAt P w H H2 D (Fc.litsOf ns) kx d c2 ∧
          (∀ l y, (lval (c2 l) y).isSome = true ↔ Edge (clsOf (cs.take i)) l y) ∧ ∀ l, (c2 l).length ≤ 2 * i)
        ⟨_, _, _, c2, rfl, E, fun l y => by rw [e0]; simp [lval_nil, clsOf, Edge], fun l => by rw [e0]; simp⟩ (fun i σ H2 _ ⟨_, _, _, _, _, E, _⟩ => .of (E.s _ _ hc)) ?_ ?_
      · rintro i y σ H2 hy ⟨v6, v7, v8, c2, rfl, E, he, hlen⟩
        obtain ⟨c, hi, rfl⟩ := map_get hy
        have hil := lt_of_get hi
        obtain ⟨g1, g2, g3⟩ := hcs c (mem_of_get hi)
        refine ⟨_, rfl, c, rfl, E.s _ _ g1, fun t a b H3 s3 nt na nb ht ha hb => ?_⟩
        refine ⟨_, _, rfl, .of ht, rfl, _, _, rfl, _, _, rfl, rfl, ?_⟩
        have m1 : neg (lit1 c) ∈ Fc.litsOf ns := Fc.mem_litsOf.mpr (by show (lit1 c).1 ∈ ns; rw [lit1_fst]; exact g2)
        have m2 : neg (lit2 c) ∈ Fc.litsOf ns := Fc.mem_litsOf.mpr (by show (lit2 c).1 ∈ ns; rw [lit2_fst]; exact g3)
        refine ⟨_, rfl, _, rfl, a, lit1 c, rfl, ha, fun p1 H4 n4 s4 h4 => ?_⟩
        have E4 := (E.same s3).same s4
        refine ⟨D, p1, _, _, _, rfl, rfl, ⟨.inl E4.tb, E4.keys⟩, h4, by rw [lval_rows, if_pos m1], ?_⟩
        refine ⟨_, rfl, _, b, lit2 c, _, rfl, rfl, E4.dt _ m1, E4.ck _ m1, s4 _ _ hb, sz _ (by have := hlen (neg (lit1 c)); have := l9; omega), ?_⟩
        have E5 := E4.put (y := lit2 c) (v := .bl true) m1 (s4 _ _ hb)
        have kp : ∀ c' ys, H4 c' = some (HO.tup ys) → (upd H4 (d (neg (lit1 c))) (ldO P w (d (neg (lit1 c))) (lput (c2 (neg (lit1 c))) (lit2 c) b (.bl true)))) c' = some (.tup ys) := fun c' ys h => by
          rw [upd_ne (fun z => by rw [z, E4.dt _ m1] at h; cases h)]
          exact h
        refine ⟨_, rfl, _, rfl, b, lit2 c, rfl, kp _ _ (s4 _ _ hb), fun p2 H6 n6 s6 h6 => ?_⟩
        have E6 := E5.same s6
        refine ⟨D, p2, _, _, _, rfl, rfl, ⟨.inl E6.tb, E6.keys⟩, h6, by rw [lval_rows, if_pos m2], ?_⟩
        have len2 := fun l => put_len (l := l) (m := neg (lit1 c)) (z := lit2 c) (b := b) (v := .bl true) hlen
        refine ⟨_, rfl, _, a, lit1 c, _, rfl, rfl, E6.dt _ m2, E6.ck _ m2, s6 _ _ (kp _ _ (s4 _ _ ha)), sz _ (by have := len2 (neg (lit2 c)); have := l9; omega), ?_⟩
        have E7 := E6.put (y := lit1 c) (v := .bl true) m2 (s6 _ _ (kp _ _ (s4 _ _ ha)))
        refine ⟨_, _, _, _, rfl, E7, fun l y => ?_, fun l => put_len (n := 2 * i + 1) len2⟩
        have cl : clsOf (cs.take (i + 1)) = clsOf (cs.take i) ++ [(lit1 c, lit2 c)] := by
          rw [take_more hi]
          simp [clsOf]
        rw [put_has (ct := fun l => if l = neg (lit1 c) then lput (c2 (neg (lit1 c))) (lit2 c) b (.bl true) else c2 l), put_has, he, cl, edge_app, edge_one, or_assoc]
      · rintro σ H2 ⟨v6, v7, v8, c2, rfl, E, he, hlen⟩
        rw [List.length_map, List.take_length] at he
        rw [List.length_map] at hlen
        refine ⟨D, _, E.tb, trivial, fun od => ?_⟩
        have hDn : ∀ b o, H b = some o → b ≠ D := fun b o e z => by rw [z, hD] at e; cases e
        have kp : ∀ b o, H2 b = some o → b ≠ D → (upd H2 D (.frz od (ldO P w D (rowsOf (Fc.litsOf ns) kx fun l => .ref (d l))))) b = some o := fun b o e z => (upd_ne z).trans e
        refine ⟨_, rfl, D, od, _, rfl, upd_same, fun D2 hD2 => ?_⟩
        have n2 : ∀ b o, H2 b = some o → b ≠ D2 := fun b o e z => by
          by_cases c : D2 = D
          · rw [c, upd_same] at hD2; cases hD2
          · rw [upd_ne c, ← z, e] at hD2; cases hD2
        have kyD : ∀ l ∈ Fc.litsOf ns, kx l ≠ D := fun l hl => lit_ne_ld (E.ky l hl) E.tb
        refine wk_keysL (P := P) (w := w) (d := D) (o := od) (xs := rowsOf (Fc.litsOf ns) kx fun l => .ref (d l))
          (fun j H3 => ∃ (qa : Lt → Addr) (bs : Lt → List (Lt × Addr)), Same (upd H2 D (.frz od (ldO P w D (rowsOf (Fc.litsOf ns) kx fun l => .ref (d l))))) H3 ∧ H3 D2 = some (ldO P w D2 (rowsOf ((Fc.litsOf ns).take j) kx fun l => .ref (qa l))) ∧ ∀ l ∈ (Fc.litsOf ns).take j, SuccAt H3 (qa l) (bs l) (clsOf cs) l)
          ⟨fun _ => 0, fun _ => [], same_upd hD2, upd_same, (fun _ h => nomatch h)⟩ (fun j H3 _ ⟨_, _, s3, _⟩ => s3 _ _ upd_same) ?_ ?_
        · rintro j e H3 hj ⟨qa, bs, s3, h3, hS⟩
          obtain ⟨l, hl, rfl⟩ := map_get hj
          have ml := mem_of_get hl
          have jl := lt_of_get hl
          have l14 := Fc.litsOf_length ns
          have tbk : KeysAt H3 (rowsOf (Fc.litsOf ns) kx fun l => V.ref (d l)) := fun y m => by
            obtain ⟨l', hl', rfl⟩ := List.mem_map.mp m
            exact s3 _ _ (kp _ _ (E.ky l' hl') (kyD l' hl'))
          refine ⟨rfl, _, rfl, _, rfl, _, rfl, D, kx l, l, _, _, rfl, rfl, ⟨.inr ⟨od, s3 _ _ upd_same⟩, tbk⟩, s3 _ _ (kp _ _ (E.ky l ml) (kyD l ml)), by rw [lval_rows, if_pos ml], ?_⟩
          have ck : KeysAt H3 (c2 l) := (E.ck l ml).keep fun b ys h => s3 _ _ (kp _ _ h (fun z => by rw [z, E.tb] at h; cases h))
          refine ⟨d l, c2 l, rfl, ⟨.inl (s3 _ _ (kp _ _ (E.dt l ml) (E.ne l ml))), ck⟩, fun p hp => ?_⟩
          have s4 := same_upd (o := .lst ((((c2 l).map fun x => (x.1, x.2.1)).mergeSort (PySem.W.dataLe false fun b : Lt × Addr => litD b.1)).map fun b => V.ref b.2)) hp
          have nl' : l ∉ (Fc.litsOf ns).take j := fun m => not_take (f := id) (by simpa using lits_nodup nd) hl (by simpa using m)
          have old : ∀ m ∈ (Fc.litsOf ns).take j, m ≠ l := fun m hm z => nl' (z ▸ hm)
          refine ⟨_, kx l, l, rfl, s4 _ _ h3, fun y m => ?_, s4 _ _ (s3 _ _ (kp _ _ (E.ky l ml) (kyD l ml))), sz _ (by rw [rowsOf, List.length_map, List.length_take]; omega), ?_⟩
          · obtain ⟨l', hl', rfl⟩ := List.mem_map.mp m
            have := List.mem_of_mem_take hl'
            exact s4 _ _ (s3 _ _ (kp _ _ (E.ky l' this) (kyD l' this)))
          · have up : ∀ b o, H3 b = some o → b ≠ D2 → (upd (upd H3 p (.lst ((((c2 l).map fun x => (x.1, x.2.1)).mergeSort (PySem.W.dataLe false fun b : Lt × Addr => litD b.1)).map fun b => V.ref b.2))) D2 (ldO P w D2 (lput (rowsOf ((Fc.litsOf ns).take j) kx fun l => .ref (qa l)) l (kx l) (.ref p)))) b = some o := fun b o e z => (upd_ne z).trans (s4 _ _ e)
            have pD : p ≠ D2 := fun z => by rw [z, h3] at hp; cases hp
            refine ⟨fun m => if m = l then p else qa m, fun m => if m = l then (((c2 l).map fun x => (x.1, x.2.1)).mergeSort (PySem.W.dataLe false fun b : Lt × Addr => litD b.1)) else bs m, ?_, ?_, ?_⟩
            · intro b o e
              have q1 : b ≠ D2 := fun z => by rw [z, hD2] at e; cases e
              exact up _ _ (s3 _ _ e) q1
            · rw [upd_same, lput_new (by rw [lval_rows, if_neg nl']), take_more hl, rows_app]
              simp only [if_pos]
              rw [rows_congr (kx' := kx) (v' := fun m => V.ref (if m = l then p else qa m)) (fun m hm => by simp [old m hm])]
              rfl
            · intro m hm
              rw [take_more hl] at hm
              rcases List.mem_append.mp hm with z | z
              · simp only [if_neg (old m z)]
                have S := hS m z
                have f1 : ∀ b ys, H3 b = some (HO.tup ys) → b ≠ D2 := fun b ys h z => by rw [z, h3] at h; cases h
                exact ⟨up _ _ S.at_ (fun z => by have := S.at_; rw [z, h3] at this; cases this), fun b mb => up _ _ (S.ky b mb) (f1 _ _ (S.ky b mb)), S.mem, S.ord, S.sz⟩
              · have z := List.mem_singleton.mp z
                subst z
                simp only [if_pos]
                refine ⟨(upd_ne pD).trans upd_same, fun b mb => ?_, fun y => ?_, ?_, ?_⟩
                · rw [mem_sorted] at mb
                  obtain ⟨e, me, rfl⟩ := List.mem_map.mp mb
                  exact up _ _ (ck e me) (fun z => by
                    have h := ck e me
                    have z' : e.2.1 = D2 := z
                    rw [z', h3] at h
                    cases h)
                · rw [← he, lval_isSome]
                  constructor
                  · intro m
                    obtain ⟨e, me, rfl⟩ := List.mem_map.mp m
                    rw [mem_sorted] at me
                    obtain ⟨e', me', rfl⟩ := List.mem_map.mp me
                    exact List.mem_map.mpr ⟨e', me', rfl⟩
                  · intro m
                    obtain ⟨e', me', rfl⟩ := List.mem_map.mp m
                    exact List.mem_map.mpr ⟨(e'.1, e'.2.1), mem_sorted.mpr (List.mem_map.mpr ⟨e', me', rfl⟩), rfl⟩
                · have := sorted_by (enc := fun b : Lt × Addr => litD b.1) ((c2 m).map fun x => (x.1, x.2.1))
                  exact this.imp fun {a b} e => by rw [lt_lit] at e; exact e
                · rw [len_sorted, List.length_map]
                  have := hlen m
                  omega
        · rintro H3 ⟨qa, bs, s3, h3, hS⟩
          rw [rows_len, List.take_length] at h3 hS
          refine ⟨s3 _ _ upd_same, ?_⟩
          have n2D : D2 ≠ D := fun z => by rw [z, upd_same] at hD2; cases hD2
          have xD : x ≠ D := hDn _ _ hx
          have hx2 := E.s _ _ hx
          have hx3 := s3 _ _ (kp _ _ hx2 xD)
          have n2x : D2 ≠ x := fun z => n2 _ _ hx2 z.symm
          refine ⟨_, rfl, x, C, dx, [], rfl, (upd_ne xD).trans hx3, TG.cl, TG.nS, by decide, ?_⟩
          have up : ∀ b o, H3 b = some o → b ≠ D → b ≠ x → (upd (upd H3 D (ldO P w D (rowsOf (Fc.litsOf ns) kx fun l => V.ref (d l)))) x (.ins C dx (putF "successors" (.ref D2) []))) b = some o := fun b o e z1 z2 => (upd_ne z2).trans ((upd_ne z1).trans e)
          have u1 : ∀ b ys, H3 b = some (HO.tup ys) → b ≠ D ∧ b ≠ x := fun b ys h => ⟨(fun z => by rw [z, s3 _ _ upd_same] at h; cases h), (fun z => by rw [z, hx3] at h; cases h)⟩
          have u2 : ∀ b ys, H3 b = some (HO.lst ys) → b ≠ D ∧ b ≠ x := fun b ys h => ⟨(fun z => by rw [z, s3 _ _ upd_same] at h; cases h), (fun z => by rw [z, hx3] at h; cases h)⟩
          refine q _ (fun b o z e => up _ _ (s3 _ _ (kp _ _ (E.s _ _ e) (hDn _ _ e))) (hDn _ _ e) z) ⟨⟨dx, D2, _, qa, bs, upd_same, up _ _ h3 n2D n2x, fun y m => ?_, fun l hl => ?_⟩, over_cls fun c m => (hcs c m).2, l7, nok⟩
          · obtain ⟨l', hl', rfl⟩ := List.mem_map.mp m
            have := s3 _ _ (kp _ _ (E.ky l' hl') (kyD l' hl'))
            exact up _ _ this (u1 _ _ this).1 (u1 _ _ this).2
          · have ml : l ∈ Fc.litsOf ns := Fc.mem_litsOf.mpr hl
            have S := hS l ml
            exact ⟨by rw [lval_rows, if_pos ml], up _ _ S.at_ (u2 _ _ S.at_).1 (u2 _ _ S.at_).2, fun b mb => up _ _ (S.ky b mb) (u1 _ _ (S.ky b mb)).1 (u1 _ _ (S.ky b mb)).2, S.mem, S.ord, S.sz⟩
end
end Fk
/-! Distances. -/
namespace Fk
open PySem PySem.Spec PyProof.Rows L2
open Fc (neg Edge IsDist InvD news keysOf visD)
section
variable {P : Program} {w : World} {K : PySem.W.Frag} {mg : Str → Option Value} {base : Heap}
abbrev rowsN (F : List (Lt × Nat)) (ka : Lt → Addr) : List LE := F.map fun p => (p.1, ka p.1, V.int (p.2 : Nat))
theorem keys_rowsN (F : List (Lt × Nat)) (ka : Lt → Addr) : (rowsN F ka).map (·.1) = keysOf F := by simp [rowsN, Fc.keysOf]
theorem isSome_rowsN {F : List (Lt × Nat)} {ka : Lt → Addr} {l : Lt} : (lval (rowsN F ka) l).isSome = true ↔ l ∈ keysOf F := by rw [lval_isSome, keys_rowsN]
theorem lval_rowsN {ka : Lt → Addr} {l : Lt} {v : V} : ∀ {F : List (Lt × Nat)}, (keysOf F).Nodup → (lval (rowsN F ka) l = some v ↔ ∃ k : Nat, (l, k) ∈ F ∧ v = .int (k : Nat))
  | [], _ => by simp [rowsN, lval_nil]
  | p :: F, nd => by
    have nd' := List.nodup_cons.mp (show (p.1 :: keysOf F).Nodup from nd)
    show lval ((p.1, ka p.1, V.int (p.2 : Nat)) :: rowsN F ka) l = some v ↔ _
    rw [lval_cons]
    by_cases c : p.1 = l
    · rw [if_pos c]
      constructor
      · intro e
        exact ⟨p.2, by rw [← c]; exact List.mem_cons_self, (Option.some.inj e).symm⟩
      · rintro ⟨k, m, e⟩
        rcases List.mem_cons.mp m with z | z
        · rw [e, ← z]
        · exact absurd (List.mem_map.mpr ⟨_, z, c.symm⟩) nd'.1
    · rw [if_neg c, lval_rowsN nd'.2]
      constructor
      · rintro ⟨k, m, e⟩
        exact ⟨k, List.mem_cons_of_mem _ m, e⟩
      · rintro ⟨k, m, e⟩
        rcases List.mem_cons.mp m with z | z
        · exact absurd (by rw [← z]) c
        · exact ⟨k, z, e⟩
/-- a dict of numbers by literals -/
structure TabN (P : Program) (w : World) (H : Hp) (D : Addr) (F : List (Lt × Nat)) (ka : Lt → Addr) : Prop where
  at_ : H D = some (ldO P w D (rowsN F ka))
  ky : ∀ l ∈ keysOf F, H (ka l) = some (litT l)
  nd : (keysOf F).Nodup
theorem TabN.keys {H : Hp} {D : Addr} {F : List (Lt × Nat)} {ka : Lt → Addr} (T : TabN P w H D F ka) : KeysAt H (rowsN F ka) := fun x m => by
  obtain ⟨p, hp, rfl⟩ := List.mem_map.mp m
  exact T.ky _ (List.mem_map.mpr ⟨p, hp, rfl⟩)
theorem TabN.same {H H' : Hp} {D : Addr} {F : List (Lt × Nat)} {ka : Lt → Addr} (s : Same H H') (T : TabN P w H D F ka) : TabN P w H' D F ka := ⟨s _ _ T.at_, fun l m => s _ _ (T.ky l m), T.nd⟩
theorem TabN.put {H : Hp} {D b : Addr} {F : List (Lt × Nat)} {ka : Lt → Addr} {v : Lt} {n : Nat} (T : TabN P w H D F ka) (h : v ∉ keysOf F) (hb : H b = some (litT v)) :
    TabN P w (upd H D (ldO P w D (lput (rowsN F ka) v b (.int (n : Nat))))) D (F ++ [(v, n)]) (fun m => if m = v then b else ka m) := by
  have kp : ∀ c ys, H c = some (HO.tup ys) → (upd H D (ldO P w D (lput (rowsN F ka) v b (.int (n : Nat))))) c = some (.tup ys) := fun c ys h => by
    rw [upd_ne (fun z => by rw [z, T.at_] at h; cases h)]
    exact h
  have old : ∀ p ∈ F, p.1 ≠ v := fun p m z => h (List.mem_map.mpr ⟨p, m, z⟩)
  have ln : lval (rowsN F ka) v = none := by
    cases e : lval (rowsN F ka) v with
    | none => rfl
    | some u => exact absurd (isSome_rowsN.mp (by rw [e]; rfl)) h
  refine ⟨?_, fun l m => ?_, ?_⟩
  · rw [upd_same, lput_new ln]
    have e : rowsN (F ++ [(v, n)]) (fun m => if m = v then b else ka m) = rowsN F ka ++ [(v, b, .int (n : Nat))] := by
      unfold rowsN
      rw [List.map_append]
      congr 1
      · exact List.map_congr_left fun p m => by simp [old p m]
      · simp
    rw [e]
  · rw [Fc.keysOf_append] at m
    rcases List.mem_append.mp m with z | z
    · have : l ≠ v := fun z' => h (z' ▸ z)
      simp only [if_neg this]
      exact kp _ _ (T.ky l z)
    · have z := List.mem_singleton.mp z
      have z : l = v := z
      subst z
      simp only [if_pos]
      exact kp _ _ hb
  · rw [Fc.keysOf_append, List.nodup_append]
    refine ⟨T.nd, by simp [Fc.keysOf], fun a ha c hc e => ?_⟩
    have hc := List.mem_singleton.mp hc
    have hc : c = v := hc
    rw [e, hc] at ha
    exact h ha
theorem news_snoc {κ β : Type} [DecidableEq κ] (F ps : List (κ × β)) (p : κ × β) : news F (ps ++ [p]) = if p.1 ∈ keysOf (F ++ news F ps) then news F ps else news F ps ++ [p] := by
  have h1 := Fc.fold_addNew (ps ++ [p]) F
  have h2 := Fc.fold_addNew ps F
  rw [List.foldl_append, h2] at h1
  have h3 : Fc.addNew (F ++ news F ps) p = F ++ news F (ps ++ [p]) := h1
  unfold Fc.addNew at h3
  by_cases c : p.1 ∈ keysOf (F ++ news F ps)
  · rw [if_pos c] at h3
    rw [if_pos c]
    exact (List.append_cancel_left h3).symm
  · rw [if_neg c, List.append_assoc] at h3
    rw [if_neg c]
    exact (List.append_cancel_left h3).symm
/-- within a round: pre is what was visited -/
structure InL (P : Program) (w : World) (H0 H : Hp) (d fo lv : Addr) (F : List (Lt × Nat)) (L : List (Lt × Addr)) (pre : List (Lt × Nat)) (ka : Lt → Addr) (fl : List (Lt × Addr)) : Prop where
  s : Same H0 H
  tb : TabN P w H d (F ++ news F pre) ka
  foA : H fo = some (.lst (fl.map fun b => V.ref b.2))
  fk : ∀ b ∈ fl, H b.2 = some (litT b.1)
  fe : fl.map Prod.fst = (news F pre).map Prod.fst
  lvA : H lv = some (.lst (L.map fun b => V.ref b.2))
  lk : ∀ b ∈ L, H b.2 = some (litT b.1)
  ne : lv ≠ fo
  nd : H0 d = none
  nf : H0 fo = none
theorem InL.same {H0 H H' : Hp} {d fo lv : Addr} {F : List (Lt × Nat)} {L : List (Lt × Addr)} {pre : List (Lt × Nat)} {ka : Lt → Addr} {fl : List (Lt × Addr)} (s : Same H H') (I : InL P w H0 H d fo lv F L pre ka fl) : InL P w H0 H' d fo lv F L pre ka fl :=
  ⟨I.s.trans s, I.tb.same s, s _ _ I.foA, fun b m => s _ _ (I.fk b m), I.fe, s _ _ I.lvA, fun b m => s _ _ (I.lk b m), I.ne, I.nd, I.nf⟩
theorem InL.skip {H0 H : Hp} {d fo lv : Addr} {F : List (Lt × Nat)} {L : List (Lt × Addr)} {pre : List (Lt × Nat)} {ka : Lt → Addr} {fl : List (Lt × Addr)} (I : InL P w H0 H d fo lv F L pre ka fl) {p : Lt × Nat} (h : p.1 ∈ keysOf (F ++ news F pre)) : InL P w H0 H d fo lv F L (pre ++ [p]) ka fl := by
  have e : news F (pre ++ [p]) = news F pre := by rw [news_snoc, if_pos h]
  exact ⟨I.s, by rw [e]; exact I.tb, I.foA, I.fk, by rw [e]; exact I.fe, I.lvA, I.lk, I.ne, I.nd, I.nf⟩
theorem InL.add {H0 H : Hp} {d fo lv b : Addr} {F : List (Lt × Nat)} {L : List (Lt × Addr)} {pre : List (Lt × Nat)} {ka : Lt → Addr} {fl : List (Lt × Addr)} (I : InL P w H0 H d fo lv F L pre ka fl) {v : Lt} {n : Nat} (h : v ∉ keysOf (F ++ news F pre)) (hb : H b = some (litT v)) :
    InL P w H0 (upd (upd H d (ldO P w d (lput (rowsN (F ++ news F pre) ka) v b (.int (n : Nat))))) fo (.lst (fl.map (fun b => V.ref b.2) ++ [.ref b]))) d fo lv F L (pre ++ [(v, n)]) (fun m => if m = v then b else ka m) (fl ++ [(v, b)]) := by
  have e : news F (pre ++ [(v, n)]) = news F pre ++ [(v, n)] := by rw [news_snoc, if_neg h]
  have df : d ≠ fo := fun z => by have := I.tb.at_; rw [z, I.foA] at this; cases this
  have ld : lv ≠ d := fun z => by have := I.lvA; rw [z, I.tb.at_] at this; cases this
  have kp : ∀ c ys, H c = some (HO.tup ys) → (upd (upd H d (ldO P w d (lput (rowsN (F ++ news F pre) ka) v b (.int (n : Nat))))) fo (.lst (fl.map (fun b => V.ref b.2) ++ [.ref b]))) c = some (.tup ys) := fun c ys h => by
    rw [upd_ne (fun z => by rw [z, I.foA] at h; cases h), upd_ne (fun z => by rw [z, I.tb.at_] at h; cases h)]
    exact h
  have T := I.tb.put (n := n) h hb
  refine ⟨same_put (same_put I.s I.nd) I.nf, ?_, ?_, fun c m => ?_, ?_, ?_, fun c m => kp _ _ (I.lk c m), I.ne, I.nd, I.nf⟩
  · rw [e, ← List.append_assoc]
    refine ⟨(upd_ne df).trans T.at_, fun l m => ?_, T.nd⟩
    have := T.ky l m
    rw [upd_ne (fun z => by rw [z, upd_ne df.symm, I.foA] at this; cases this)]
    exact this
  · rw [upd_same, List.map_append]
    rfl
  · rcases List.mem_append.mp m with z | z
    · exact kp _ _ (I.fk c z)
    · rw [List.mem_singleton.mp z]
      exact kp _ _ hb
  · rw [e, List.map_append, List.map_append, I.fe]
    rfl
  · rw [upd_ne I.ne, upd_ne ld]
    exact I.lvA
theorem dp_refs {H : Hp} : ∀ {L : List (Lt × Addr)}, (∀ b ∈ L, H b.2 = some (litT b.1)) → DpAll K H (L.map fun b => V.ref b.2) (L.map fun b => litD b.1)
  | [], _ => .nil
  | b :: r, h => .cons (dp_lit (h b List.mem_cons_self)) (dp_refs fun c m => h c (List.mem_cons_of_mem _ m))
theorem names_lay : ∀ z ∈ okNames, PyData.strOk z = true := by decide +kernel
theorem sh_lit {l : Lt} (h : l.1 ∈ okNames) : Sh 1 (litD l) := Sh.tuple (n := 0) (cons_all (Sh.str (names_lay _ h)) (cons_all .bool nil_all))
theorem sh_lits {L : List (Lt × Addr)} (h : ∀ b ∈ L, b.1.1 ∈ okNames) : Sh 2 (.list (L.map fun b => litD b.1)) := Sh.list fun d m => by
  obtain ⟨b, mb, rfl⟩ := List.mem_map.mp m
  exact sh_lit (h b mb)
theorem eqv_nil {L : List (Lt × Addr)} : PyData.eqv (.list (L.map fun b => litD b.1)) (.list []) = decide (L = []) := by
  cases L with
  | nil => rfl
  | cons b r =>
    rw [decide_eq_false (by simp)]
    rfl
def spDist (P : Program) (w : World) (C : Addr) : Sp := fun vs H Q _ => ∃ (x g : Addr) (goal : Lt) (ns : List Str) (cl : Fc.Cls Str), vs = [.ref x, .ref g] ∧ GraphAt P w C H x ns cl ∧ H g = some (litT goal) ∧ goal.1 ∈ ns ∧
  ∀ H' D xs, Same H H' → H D = none → H' D = some (ldO P w D xs) → KeysAt H' xs → (∀ l v, lval xs l = some v ↔ ∃ k : Nat, v = .int (k : Nat) ∧ IsDist cl l goal k) → Q (.ref D) H'
abbrev s_ImplicationGraph_distances_to : Stmt := (inClass (top 35) 2)
abbrev n_ImplicationGraph_distances_to : List Str := ["self", "goal", "distances", "level", "following", "literal", "successor", "distance"]
theorem sc_ImplicationGraph_distances_to : FnScope ["self", "goal", "distances", "level", "following", "literal", "successor", "distance"] ["self", "goal"] (defScope s_ImplicationGraph_distances_to) := ⟨rfl, rfl, rfl, by decide +kernel, rfl, by decide +kernel, by decide +kernel⟩
-- slots: self 0, goal 1, distances 2, level 3, following 4, literal 5, successor 6, distance 7
theorem ok_distances_to {f f1 C : Addr} {fd fd1 : FuncData} (F : Fun K "distances_to" "ImplicationGraph.distances_to" s_ImplicationGraph_distances_to f fd) (TG : ClsG K mg C) (D_negate : Dn P w K mg base CX0 1 "negate" f1 fd1 ["literal"] spNeg) :
    FnOk P w K mg base CX0 2 f fd ["self", "goal"] (spDist P w C) := by
  refine F.ok sc_ImplicationGraph_distances_to (fun vs H Q E h => ?_) (fun cdv A outer s H vs Q E hr h => ?_)
  · obtain ⟨_, _, _, _, _, rfl, _⟩ := h
    rfl
  · obtain ⟨x, g, goal, ns, cl, rfl, G, hg, hn, q⟩ := h
    have hu := hu_of hr
    obtain ⟨dx, sd, sx, qa, bs, gx, gd, gk, gs⟩ := G.ex
    refine ⟨_, (pss_cons (ps_par (i := 2) (j := 3) (by rfl) sc_ImplicationGraph_distances_to.nd rfl rfl (by decide) rfl rfl (pa_cons (pe_lone hr.units0 (pe_call D_negate.ok (hr.mono (by decide)) rfl D_negate.mg D_negate.kp D_negate.bi .nil pass0 (pa_cons (pv 1) pa_nil)) pe_int) (pa_cons (pe_lst (pa_cons (pe_call D_negate.ok (hr.mono (by decide)) rfl D_negate.mg D_negate.kp D_negate.bi .nil pass0 (pa_cons (pv 1) pa_nil)) pa_nil)) pa_nil)) (by rfl))
      (pss_cons (ps_while PassesOwn.never (pt_cmpR (op_neD hr.units) (pv 3) (pe_lst pa_nil) (nomark _)) (pss_cons (ps_set (i := 4) sc_ImplicationGraph_distances_to.nd rfl (by first | exact Or.inl rfl | exact Or.inr rfl) (pe_lst pa_nil))
      (pss_cons (ps_for PassesOwn.never rfl (pi_list (pv 3)) (pg_name (i := 5) sc_ImplicationGraph_distances_to.nd rfl (by first | exact Or.inl rfl | exact Or.inr rfl)) (pss_one (ps_for PassesOwn.never rfl (pi_list (pe_lget hu (pe_fld (pv 0) rfl) (pv 5) (by intro _ _; rfl))) (pg_name (i := 6) sc_ImplicationGraph_distances_to.nd rfl (by first | exact Or.inl rfl | exact Or.inr rfl)) (pss_one (ps_if (pt_cmp (pc_lnotin hu (pv 6) (pv 2)) (by rfl)) (pss_cons (ps_lput hu (pv 2) (pv 6) (pe_op op_add (pe_lget hu (pv 2) (pv 5) (by intro _ _; rfl)) pe_int) rfl)
      (pss_one (ps_expr (pe_bm PySem.F.plainAttrs_list PySem.F.slot_list_append PySem.F.type_list_append mt_append (pv 4) (pa_cons (pv 6) pa_nil))))) pss_nil)))))
      (pss_one (ps_set (i := 3) sc_ImplicationGraph_distances_to.nd rfl (by first | exact Or.inl rfl | exact Or.inr rfl) (pv 4))))))
      (pss_one (ps_ret (pe_lock (pe_dcL (own := [("literal", 5), ("distance", 7)]) hr.units0 (by rfl) sc_ImplicationGraph_distances_to.nd (pi_itemsL (pv 2)) (blkOk_by (own := [("literal", 5), ("distance", 7)]) (N := n_ImplicationGraph_distances_to) (sc := defScope s_ImplicationGraph_distances_to) (by decide +kernel)) (fun _ _ _ _ _ => (show PG _ _ (gTup K 2 _) from (pg_tup rfl (pgs_cons (pg_name (i := 5) sc_ImplicationGraph_distances_to.nd rfl (by first | exact Or.inl rfl | exact Or.inr rfl)) (pgs_cons (pg_name (i := 7) sc_ImplicationGraph_distances_to.nd rfl (by first | exact Or.inl rfl | exact Or.inr rfl)) pgs_nil))))) (fun _ _ _ _ _ => pts_nil) (fun _ _ _ _ _ => (pe_call D_negate.ok (hr.mono (by decide)) rfl D_negate.mg D_negate.kp D_negate.bi .nil pass0 (pa_cons (pv 5) pa_nil))) (fun _ _ _ _ _ => (pv 7)))))))), ?_⟩
    intro d hd
    refine ⟨_, rfl, g, goal, rfl, (same_upd hd) _ _ hg, fun n1 H1 m1 s1 h1 => ⟨s1 _ _ upd_same, n1, neg goal, rfl, h1, ?_⟩⟩
    have sH1 : Same H H1 := (same_upd hd).trans s1
    have sH2 : Same H (upd H1 d (ldO P w d [(neg goal, n1, .int 0)])) := same_put sH1 hd
    refine ⟨_, rfl, g, goal, rfl, sH2 _ _ hg, fun n2 H3 m2 s2 h2 => ⟨sz1, fun lv hlv => ⟨_, _, rfl, ?_⟩⟩⟩
    have sv := same_upd (o := .lst [.ref n2]) hlv
    have n1d : n1 ≠ d := fun z => by rw [z] at h1; have := s1 _ _ upd_same; rw [this] at h1; cases h1
    -- the successors as a function
    obtain ⟨succs, hsu, hsb⟩ : ∃ succs : Lt → List Lt, (∀ a b, b ∈ succs a ↔ Edge cl a b) ∧ ∀ l : Lt, l.1 ∈ ns → succs l = (bs l).map Prod.fst := by
      refine ⟨fun l => if l.1 ∈ ns then (bs l).map Prod.fst else [], fun a b => ?_, fun l hl => by simp [hl]⟩
      by_cases c : a.1 ∈ ns
      · simp only [c, if_true]
        exact (gs a c).2.mem b
      · simp only [c, if_false]
        exact ⟨(fun h => nomatch h), fun h => absurd (G.ov.edge h).1 c⟩
    refine ⟨fun m σ H' => ∃ (k : Nat) (F : List (Lt × Nat)) (ka : Lt → Addr) (L : List (Lt × Addr)) (lv : Addr) (v4 v5 v6 : Option V), σ = [some (.ref x), some (.ref g), some (.ref d), some (.ref lv), v4, v5, v6, none] ∧ Same H H' ∧ TabN P w H' d F ka ∧
        H' lv = some (.lst (L.map fun b => V.ref b.2)) ∧ (∀ b ∈ L, H' b.2 = some (litT b.1)) ∧ InvD cl (neg goal) k F (L.map Prod.fst) ∧ m = (2 * ns.length - F.length) + (if L.length = 0 then 0 else 1),
      ⟨_, 0, [(neg goal, 0)], fun _ => n1, [(neg goal, n2)], lv, _, _, _, rfl, (sH2.trans s2).trans sv, ⟨sv _ _ (s2 _ _ upd_same), fun l m => ?_, by simp [Fc.keysOf]⟩, upd_same, fun b m => ?_, InvD.start cl (neg goal), rfl⟩, ?_⟩
    · have m := List.mem_singleton.mp m
      have m : l = neg goal := m
      rw [m]
      exact sv _ _ (s2 _ _ ((upd_ne n1d).trans h1))
    · rw [List.mem_singleton.mp m]
      exact sv _ _ h2
    rintro m σ H' ⟨k, F, ka, L, lv, v4, v5, v6, rfl, s3, tb, hl, hk, Iv, rfl⟩
    have inn : ∀ v dd, IsDist cl (neg goal) v dd → v.1 ∈ ns := fun v dd h => G.ov.pth h.1 hn
    have Lok : ∀ b ∈ L, b.1.1 ∈ ns := fun b m => inn b.1 k ((Iv.lev _).mp (List.mem_map.mpr ⟨b, m, rfl⟩))
    refine ⟨_, rfl, sz0, fun t ht => ?_⟩
    have st := same_upd (o := .lst []) ht
    refine ⟨_, _, .lst (.of (st _ _ hl)) (dp_refs fun b m => st _ _ (hk b m)), .lst (.of upd_same) .nil, (sh_lits fun b m => G.nok _ (Lok b m)).ok, (Sh.list (n := 0) nil_all).ok, _, rfl, ?_⟩
    rw [eqv_nil]
    by_cases hL : L = []
    · refine ifF (by simp [hL]) ?_
      subst hL
      have Dn := Iv.done
      have sT := s3.trans st
      have tb := tb.same st
      have nD : ∀ b o, H b = some o → b ≠ d := fun b o e => ne_of_none e hd
      refine ⟨d, _, tb.at_, trivial, fun od => ⟨_, rfl, d, od, _, rfl, upd_same, fun D2 hD2 => ?_⟩⟩
      have kp : ∀ b o, (upd H' t (.lst [])) b = some o → b ≠ d → (upd (upd H' t (.lst [])) d (.frz od (ldO P w d (rowsN F ka)))) b = some o := fun b o e z => (upd_ne z).trans e
      have D2d : D2 ≠ d := fun z => by rw [z, upd_same] at hD2; cases hD2
      have hD2' : (upd H' t (.lst [])) D2 = none := by rw [upd_ne D2d] at hD2; exact hD2
      have kt : ∀ l ∈ keysOf F, ka l ≠ d := fun l m z => by have := tb.ky l m; rw [z, tb.at_] at this; cases this
      have keysF : ∀ (G : List (Lt × Nat)), keysOf (G.map fun p => (neg p.1, p.2)) = (keysOf G).map neg := fun G => by simp [Fc.keysOf]
      refine wk_itemsL (P := P) (w := w) (d := d) (o := od) (xs := rowsN F ka)
        (fun j H3 => ∃ kb, Same (upd (upd H' t (.lst [])) d (.frz od (ldO P w d (rowsN F ka)))) H3 ∧ TabN P w H3 D2 ((F.take j).map fun p => (neg p.1, p.2)) kb)
        ⟨fun _ => 0, same_upd hD2, upd_same, (fun _ h => nomatch h), List.nodup_nil⟩ (fun j H3 _ ⟨_, s4, _⟩ => s4 _ _ upd_same) ?_ ?_
      · rintro j e H3 T hj hT ⟨kb, s4, tk⟩
        obtain ⟨p, hp, rfl⟩ := map_get hj
        have mp := mem_of_get hp
        have jl := lt_of_get hp
        have s5 := same_upd (o := .tup [.ref (ka p.1), .int (p.2 : Nat)]) hT
        have mk : p.1 ∈ keysOf F := List.mem_map.mpr ⟨p, mp, rfl⟩
        refine ⟨_, _, rfl, .of upd_same, rfl, _, _, rfl, _, _, rfl, rfl, rfl, ?_⟩
        refine ⟨_, rfl, ka p.1, p.1, rfl, s5 _ _ (s4 _ _ (kp _ _ (tb.ky _ mk) (kt _ mk))), fun nb H4 m4 s6 h4 => ⟨_, rfl, ?_⟩⟩
        have tk2 := (tk.same s5).same s6
        have nk : neg p.1 ∉ keysOf ((F.take j).map fun p => (neg p.1, p.2)) := fun m => by
          rw [keysF] at m
          obtain ⟨l, ml, e⟩ := List.mem_map.mp m
          have e := Fc.neg_inj e
          subst e
          exact not_take (f := Prod.fst) (l := F) tb.nd hp (by simpa [Fc.keysOf] using ml)
        have F14 : F.length ≤ 14 := by
          have h1 := Fc.nodup_le (m := Fc.litsOf ns) tb.nd fun v hv => by
            obtain ⟨q1, q2, q3⟩ := List.mem_map.mp hv
            exact Fc.mem_litsOf.mpr (inn v q1.2 ((Dn v q1.2).mp (by rw [← q3]; exact q2)))
          have h2 := Fc.litsOf_length ns
          have h3 := G.nz
          rw [Fc.keysOf, List.length_map] at h1
          omega
        refine ⟨_, nb, neg p.1, rfl, tk2.at_, tk2.keys, h4, sz _ (by simp; omega), ?_⟩
        refine ⟨fun m => if m = neg p.1 then nb else kb m, ?_, ?_⟩
        · intro b o e
          rw [upd_ne (fun z => by rw [z, hD2] at e; cases e)]
          exact s6 _ _ (s5 _ _ (s4 _ _ e))
        · rw [take_more hp, List.map_append]
          exact tk2.put (n := p.2) nk h4
      · rintro H3 ⟨kb, s4, tk⟩
        rw [show (rowsN F ka).length = F.length by simp, List.take_length] at tk
        refine ⟨s4 _ _ upd_same, ?_⟩
        have up : ∀ b o, H3 b = some o → b ≠ d → (upd H3 d (ldO P w d (rowsN F ka))) b = some o := fun b o e z => (upd_ne z).trans e
        refine q _ D2 _ (fun b o e => up _ _ (s4 _ _ (kp _ _ (sT _ _ e) (nD _ _ e))) (nD _ _ e)) (sT.free hD2') (up _ _ tk.at_ D2d) (fun y m => up _ _ (tk.keys y m) (fun z => by have := tk.keys y m; rw [z, s4 _ _ upd_same] at this; cases this)) fun l v => ?_
        rw [lval_rowsN tk.nd]
        constructor
        · rintro ⟨k', m, e⟩
          obtain ⟨p, mp, e2⟩ := List.mem_map.mp m
          refine ⟨k', e, ?_⟩
          have e3 : neg p.1 = l := congrArg Prod.fst e2
          have e4 : p.2 = k' := congrArg Prod.snd e2
          rw [← e3, ← e4]
          have h := (Dn p.1 p.2).mp mp
          rw [← Fc.neg_neg p.1] at h
          exact Fc.IsDist.contra_iff.mp h
        · rintro ⟨k', e, h⟩
          refine ⟨k', List.mem_map.mpr ⟨(neg l, k'), (Dn _ _).mpr (Fc.IsDist.contra_iff.mpr h), ?_⟩, e⟩
          rw [Fc.neg_neg]
    · refine ifT (by simp [hL]) ⟨_, fun _ _ h => h, ?_⟩
      refine ⟨sz0, fun fo hfo => ?_⟩
      have sf := st.trans (same_upd (o := .lst []) hfo)
      have lvfo : lv ≠ fo := fun z => by have := st _ _ hl; rw [z, hfo] at this; cases this
      refine ⟨_, rfl, lv, rfl, ⟨_, .of (sf _ _ hl)⟩, ?_⟩
      refine for_list (K := K) (a := lv) (xs := L.map fun b => V.ref b.2) (fun i σ H2 => ∃ (v5 v6 : Option V) (ka : Lt → Addr) (fl : List (Lt × Addr)), σ = [some (.ref x), some (.ref g), some (.ref d), some (.ref lv), some (.ref fo), v5, v6, none] ∧ InL P w H H2 d fo lv F L (visD succs k ((L.take i).map Prod.fst)) ka fl)
        ⟨_, _, ka, [], rfl, ⟨s3.trans sf, by simpa [visD, news] using tb.same sf, upd_same, (fun _ h => nomatch h), rfl, sf _ _ hl, fun b m => sf _ _ (hk b m), lvfo, hd, s3.free (st.free hfo)⟩⟩ (fun i σ H2 _ ⟨_, _, _, _, _, I⟩ => .of I.lvA) ?_ ?_
      · rintro i y σ H2 hy ⟨v5, v6, ka, fl, rfl, I⟩
        obtain ⟨b, hi, rfl⟩ := map_get hy
        have mb := mem_of_get hi
        have bn := Lok b mb
        obtain ⟨g1, g2⟩ := gs b.1 bn
        have S := g2.same I.s
        refine ⟨_, rfl, x, C, dx, _, _, rfl, I.s _ _ gx, TG.cl, TG.nS, rfl, _, rfl, sd, b.2, b.1, sx, _, rfl, rfl, ⟨.inl (I.s _ _ gd), gk.keep fun b ys h => I.s _ _ h⟩, I.lk b mb, g1, ?_⟩
        refine ⟨_, rfl, ⟨_, .of S.at_⟩, ?_⟩
        have vis : visD succs k ((L.take (i + 1)).map Prod.fst) = visD succs k ((L.take i).map Prod.fst) ++ (bs b.1).map fun c => (c.1, k + 1) := by
          rw [take_more hi]
          simp [visD, hsb b.1 bn]
        have inF : (b.1, k) ∈ F := (Iv.tell _ _).mpr ⟨Nat.le_refl _, (Iv.lev _).mp (List.mem_map.mpr ⟨b, mb, rfl⟩)⟩
        refine for_list (K := K) (a := qa b.1) (xs := (bs b.1).map fun b => V.ref b.2) (fun j σ H2 => ∃ (v6 : Option V) (ka : Lt → Addr) (fl : List (Lt × Addr)), σ = [some (.ref x), some (.ref g), some (.ref d), some (.ref lv), some (.ref fo), some (.ref b.2), v6, none] ∧
            InL P w H H2 d fo lv F L (visD succs k ((L.take i).map Prod.fst) ++ ((bs b.1).take j).map fun c => (c.1, k + 1)) ka fl)
          ⟨_, ka, fl, rfl, by simpa using I⟩ (fun j σ H2 _ ⟨_, _, _, _, I⟩ => .of (g2.same I.s).at_) ?_ ?_
        · rintro j y σ H2 hy ⟨v6, ka, fl, rfl, I⟩
          obtain ⟨c, hj, rfl⟩ := map_get hy
          have hc := (g2.same I.s).ky c (mem_of_get hj)
          have cE : Edge cl b.1 c.1 := (g2.mem c.1).mp (List.mem_map.mpr ⟨c, mem_of_get hj, rfl⟩)
          have len : (F ++ news F (visD succs k ((L.take i).map Prod.fst) ++ ((bs b.1).take j).map fun c => (c.1, k + 1))).length ≤ 14 := by
            have h1 := Fc.nodup_le (m := Fc.litsOf ns) I.tb.nd fun v hv => by
              refine Fc.mem_litsOf.mpr ?_
              rw [Fc.keysOf_append] at hv
              rcases List.mem_append.mp hv with z | z
              · obtain ⟨dd, _, h⟩ := Iv.known.mp z
                exact inn v dd h
              · obtain ⟨p, mp, rfl⟩ := List.mem_map.mp z
                obtain ⟨pre, post, e, _⟩ := Fc.news_first _ _ _ mp
                have : p ∈ visD succs k ((L.take i).map Prod.fst) ++ ((bs b.1).take j).map fun c => (c.1, k + 1) := by rw [e]; simp
                rcases List.mem_append.mp this with z | z
                · obtain ⟨u, mu, z⟩ := List.mem_flatMap.mp z
                  obtain ⟨v', mv, rfl⟩ := List.mem_map.mp z
                  exact (G.ov.edge ((hsu u v').mp mv)).2
                · obtain ⟨c', mc, rfl⟩ := List.mem_map.mp z
                  exact (G.ov.edge ((g2.mem c'.1).mp (List.mem_map.mpr ⟨c', List.mem_of_mem_take mc, rfl⟩))).2
            have h2 := Fc.litsOf_length ns
            have h3 := G.nz
            rw [Fc.keysOf, List.length_map] at h1
            omega
          have tk : ((bs b.1).take (j + 1)).map (fun c => (c.1, k + 1)) = ((bs b.1).take j).map (fun c => (c.1, k + 1)) ++ [(c.1, k + 1)] := by
            rw [take_more hj, List.map_append]
            rfl
          refine ⟨_, rfl, _, rfl, d, c.2, c.1, _, rfl, rfl, ⟨.inl I.tb.at_, I.tb.keys⟩, hc, _, rfl, ?_⟩
          by_cases m : c.1 ∈ keysOf (F ++ news F (visD succs k ((L.take i).map Prod.fst) ++ ((bs b.1).take j).map fun c => (c.1, k + 1)))
          · refine ifF (by rw [isSome_rowsN.mpr m]; rfl) ⟨_, ka, fl, rfl, ?_⟩
            rw [tk, ← List.append_assoc]
            exact I.skip m
          · have ns' : (lval (rowsN (F ++ news F (visD succs k ((L.take i).map Prod.fst) ++ ((bs b.1).take j).map fun c => (c.1, k + 1))) ka) c.1).isSome = false := by
              cases e : (lval (rowsN (F ++ news F (visD succs k ((L.take i).map Prod.fst) ++ ((bs b.1).take j).map fun c => (c.1, k + 1))) ka) c.1).isSome with
              | false => rfl
              | true => exact absurd (isSome_rowsN.mp e) m
            refine ifT (by rw [ns']; rfl) ?_
            refine ⟨_, rfl, _, rfl, d, b.2, b.1, _, _, rfl, rfl, ⟨.inl I.tb.at_, I.tb.keys⟩, I.lk b mb, (lval_rowsN I.tb.nd).mpr ⟨k, List.mem_append_left _ inF, rfl⟩, _, _, rfl, rfl, ?_⟩
            refine ⟨_, rfl, _, rfl, d, c.2, c.1, _, rfl, rfl, I.tb.at_, I.tb.keys, hc, sz _ (by rw [List.length_map]; omega), ?_⟩
            have df : d ≠ fo := fun z => by have := I.tb.at_; rw [z, I.foA] at this; cases this
            have flen : fl.length ≤ 14 := by
              have := congrArg List.length I.fe
              rw [List.length_append] at len
              rw [List.length_map, List.length_map] at this
              omega
            refine ⟨_, rfl, .inl ⟨rfl, _, .of ((upd_ne df.symm).trans I.foA)⟩, _, rfl, fo, _, _, rfl, rfl, (upd_ne df.symm).trans I.foA, sz _ (by simp; omega), ?_⟩
            refine ⟨_, fun m => if m = c.1 then c.2 else ka m, fl ++ [(c.1, c.2)], rfl, ?_⟩
            rw [tk, ← List.append_assoc]
            exact I.add (n := k + 1) m hc
        · rintro σ H2 ⟨v6, ka, fl, rfl, I⟩
          rw [List.length_map, List.take_length] at I
          exact ⟨_, _, ka, fl, rfl, by rw [vis]; exact I⟩
      · rintro σ H2 ⟨v5, v6, ka, fl, rfl, I⟩
        rw [List.length_map, List.take_length] at I
        refine ⟨_, rfl, ?_⟩
        have I2 := Iv.step (succs := succs) hsu
        refine ⟨_, ?_, k + 1, _, ka, fl, fo, _, _, _, rfl, I.s, I.tb, I.foA, I.fk, by rw [I.fe]; exact I2, rfl⟩
        exact Fc.bfs_less (names := ns) I.tb.nd (fun v hv => by obtain ⟨dd, _, h⟩ := I2.known.mp hv; exact inn v dd h) hL (by have := congrArg List.length I.fe; simpa using this)
end
end Fk
/-! Chains: the shortest, the best of several. -/
namespace Fk
open PySem PySem.Spec PyProof.Rows L2
open Fc (neg Edge IsDist Reach Best BestOf Towards IsPath)
section
variable {P : Program} {w : World} {K : PySem.W.Frag} {mg : Str → Option Value} {base : Heap}
/-- a list of literals -/
structure ChB (H : Hp) (p : Addr) (bs : List (Lt × Addr)) : Prop where
  at_ : H p = some (.lst (bs.map fun b => V.ref b.2))
  ky : ∀ b ∈ bs, H b.2 = some (litT b.1)
theorem ChB.same {H H' : Hp} {p : Addr} {bs : List (Lt × Addr)} (s : Same H H') (C : ChB H p bs) : ChB H' p bs := ⟨s _ _ C.at_, fun b m => s _ _ (C.ky b m)⟩
def ChAt (H : Hp) (p : Addr) (c : List Lt) : Prop := ∃ bs, ChB H p bs ∧ bs.map Prod.fst = c
theorem ChAt.same {H H' : Hp} {p : Addr} {c : List Lt} (s : Same H H') (C : ChAt H p c) : ChAt H' p c := let ⟨bs, h, e⟩ := C; ⟨bs, h.same s, e⟩
theorem dp_ch {H : Hp} {p : Addr} {c : List Lt} (C : ChAt H p c) : Dp K H (.ref p) (chD c) := by
  obtain ⟨bs, h, rfl⟩ := C
  have e : chD (bs.map Prod.fst) = .list (bs.map fun b => litD b.1) := by simp [chD]
  rw [e]
  exact .lst (.of h.at_) (dp_refs h.ky)
theorem sh_ch {c : List Lt} (h : ∀ x ∈ c, x.1 ∈ okNames) : Sh 2 (chD c) := Sh.list fun d m => by
  obtain ⟨b, mb, rfl⟩ := List.mem_map.mp m
  exact sh_lit (h b mb)
theorem sh_lc {c : List Lt} (h : ∀ x ∈ c, x.1 ∈ okNames) : Sh 3 (lcD c) := Sh.tuple (cons_all .int (cons_all (sh_ch h) nil_all))
/-- a distance is short -/
theorem dist_bound {cl : Fc.Cls Str} {ns : List Str} (ov : Fc.Over cl ns) {s v : Lt} {d : Nat} (h : IsDist cl s v d) (hs : s.1 ∈ ns) : d < 2 * ns.length := by
  have hf : ∀ j : Nat, ∃ u, j ≤ d → IsDist cl s u j := fun j => by
    by_cases c : j ≤ d
    · obtain ⟨u, hu⟩ := h.below j c
      exact ⟨u, fun _ => hu⟩
    · exact ⟨s, fun z => absurd z c⟩
  let f : Nat → Lt := fun j => (hf j).choose
  have ff : ∀ j, j ≤ d → IsDist cl s (f j) j := fun j hj => (hf j).choose_spec hj
  have nd : ((List.range (d + 1)).map f).Nodup := by
    rw [List.nodup_iff_pairwise_ne, List.pairwise_map]
    refine List.Pairwise.imp_of_mem ?_ (List.nodup_iff_pairwise_ne.mp List.nodup_range)
    intro a b ha hb hne e
    have ha := List.mem_range.mp ha
    have hb := List.mem_range.mp hb
    have h1 := ff a (by omega)
    rw [e] at h1
    exact hne (h1.unique (ff b (by omega)))
  have := Fc.nodup_le (m := Fc.litsOf ns) nd fun x hx => by
    obtain ⟨j, hj, rfl⟩ := List.mem_map.mp hx
    have hj := List.mem_range.mp hj
    exact Fc.mem_litsOf.mpr (ov.pth (ff j (by omega)).1 hs)
  rw [List.length_map, List.length_range, Fc.litsOf_length] at this
  omega
theorem path_over {cl : Fc.Cls Str} {ns : List Str} (ov : Fc.Over cl ns) : ∀ {s g : Lt} {c : List Lt}, IsPath cl s g c → s.1 ∈ ns → ∀ x ∈ c, x.1 ∈ ns
  | _, _, _, .one x, h, y, m => by rw [List.mem_singleton.mp m]; exact h
  | _, _, _, .cons e p, h, y, m => by
    rcases List.mem_cons.mp m with z | z
    · rw [z]; exact h
    · exact path_over ov p (ov.edge e).2 y z
theorem best_len {cl : Fc.Cls Str} {ns : List Str} (ov : Fc.Over cl ns) {s g : Lt} {c : List Lt} (b : Best llt cl s g c) (hs : s.1 ∈ ns) : c.length ≤ 2 * ns.length := by
  obtain ⟨k, hk⟩ := b.1.reach.dist
  have := dist_bound ov hk hs
  have := b.dist hk
  omega
def spShort (P : Program) (w : World) (C : Addr) : Sp := fun vs H Q _ => ∃ (x sa ga : Addr) (st goal : Lt) (ns : List Str) (cl : Fc.Cls Str), vs = [.ref x, .ref sa, .ref ga] ∧ GraphAt P w C H x ns cl ∧ H sa = some (litT st) ∧ H ga = some (litT goal) ∧ st.1 ∈ ns ∧ goal.1 ∈ ns ∧
  (∀ H', Same H H' → ¬ Reach cl st goal → Q .non H') ∧ ∀ H' p c, Same H H' → H p = none → ChAt H' p c → Best llt cl st goal c → Q (.ref p) H'
abbrev s_ImplicationGraph_shortest_chain : Stmt := (inClass (top 35) 3)
abbrev n_ImplicationGraph_shortest_chain : List Str := ["self", "start", "goal", "distances", "result", "remaining", "closer", "literal"]
theorem sc_ImplicationGraph_shortest_chain : FnScope ["self", "start", "goal", "distances", "result", "remaining", "closer", "literal"] ["self", "start", "goal"] (defScope s_ImplicationGraph_shortest_chain) := ⟨rfl, rfl, rfl, by decide +kernel, rfl, by decide +kernel, by decide +kernel⟩
-- slots: self 0, start 1, goal 2, distances 3, result 4, remaining 5, closer 6, literal 7
theorem ok_shortest_chain {f f1 C : Addr} {fd fd1 : FuncData} (F : Fun K "shortest_chain" "ImplicationGraph.shortest_chain" s_ImplicationGraph_shortest_chain f fd) (TG : ClsG K mg C) (M_distances_to : Mt P w K mg base CX0 2 C "distances_to" f1 fd1 ["self", "goal"] (spDist P w C)) :
    FnOk P w K mg base CX0 3 f fd ["self", "start", "goal"] (spShort P w C) := by
  refine F.ok sc_ImplicationGraph_shortest_chain (fun vs H Q E h => ?_) (fun cdv A outer s H vs Q E hr h => ?_)
  · obtain ⟨_, _, _, _, _, _, _, rfl, _⟩ := h
    rfl
  · obtain ⟨x, sa, ga, st, goal, ns, cl, rfl, G, hs, hg, sn, gn, q0, q1⟩ := h
    have hu := hu_of hr
    refine ⟨_, (pss_cons (ps_set (i := 3) sc_ImplicationGraph_shortest_chain.nd rfl (by first | exact Or.inl rfl | exact Or.inr rfl) (pe_meth (pv 0) M_distances_to.cl M_distances_to.me M_distances_to.ok (hr.mono (by decide)) M_distances_to.bi .nil pass0 (pa_cons (pv 2) pa_nil)))
      (pss_cons (ps_if (pt_cmp (pc_lnotin hu (pv 1) (pv 3)) (by rfl)) (pss_one (ps_ret pe_non)) pss_nil)
      (pss_cons (ps_set (i := 4) sc_ImplicationGraph_shortest_chain.nd rfl (by first | exact Or.inl rfl | exact Or.inr rfl) (pe_lst (pa_cons (pv 1) pa_nil)))
      (pss_cons (ps_while PassesOwn.never (pt_cmpR (op_neD hr.units) (pe_ix ix_list (pv 4) (pe_un un_neg pe_int) (fun _ _ => rfl)) (pv 2) (nomark _)) (pss_cons (ps_set (i := 5) sc_ImplicationGraph_shortest_chain.nd rfl (by first | exact Or.inl rfl | exact Or.inr rfl) (pe_op op_sub (pe_lget hu (pv 3) (pe_ix ix_list (pv 4) (pe_un un_neg pe_int) (fun _ _ => rfl)) (by intro _ _; rfl)) pe_int))
      (pss_cons (ps_setLc (i := 6) (own := [("literal", 7)]) (by rfl) sc_ImplicationGraph_shortest_chain.nd rfl rfl (sw_true rfl rfl rfl (by decide +kernel)) (pi_list (pe_lget hu (pe_fld (pv 0) rfl) (pe_ix ix_list (pv 4) (pe_un un_neg pe_int) (fun _ _ => rfl)) (by intro _ _; rfl))) (blkOk_by (own := [("literal", 7)]) (N := n_ImplicationGraph_shortest_chain) (sc := defScope s_ImplicationGraph_shortest_chain) (by decide +kernel)) (fun _ _ _ _ _ => (pg_name (i := 7) sc_ImplicationGraph_shortest_chain.nd rfl (by first | exact Or.inl rfl | exact Or.inr rfl))) (fun _ _ _ _ _ => pts_one (pt_cmpR op_eq (show PE _ _ (tLGet2 P w _ _ _) from (pe_lget2 hu (pv 3) (pv 7) (pe_un un_neg pe_int) ⟨rfl, rfl, rfl, rfl⟩)) (pv 5) (nomark _))) (fun _ _ _ _ _ => (pv 7)))
      (pss_one (ps_expr (pe_bm PySem.F.plainAttrs_list PySem.F.slot_list_append PySem.F.type_list_append mt_append (pv 4) (pa_cons (pe_ix ix_list (pv 6) pe_int (fun _ _ => rfl)) pa_nil)))))))
      (pss_one (ps_ret (pv 4))))))), ?_⟩
    obtain ⟨dx, sd, sx, qa, bs, gx, gd, gk, gs⟩ := G.ex
    refine ⟨_, rfl, x, dx, _, rfl, gx, rfl, _, rfl, x, ga, goal, ns, cl, rfl, G, hg, gn, fun H1 D xs s1 nD hD kD vD => ?_⟩
    refine ⟨_, rfl, _, rfl, D, sa, st, xs, rfl, rfl, ⟨.inl hD, kD⟩, s1 _ _ hs, _, rfl, ?_⟩
    have isS : ∀ l, (lval xs l).isSome = true ↔ Reach cl l goal := fun l => by
      constructor
      · intro h
        obtain ⟨v, hv⟩ := Option.isSome_iff_exists.mp h
        obtain ⟨k, _, hk⟩ := (vD l v).mp hv
        exact ⟨k, hk.1⟩
      · intro h
        obtain ⟨k, hk⟩ := h.dist
        rw [(vD l _).mpr ⟨k, rfl, hk⟩]
        rfl
    by_cases hR : Reach cl st goal
    · refine ifF (by rw [(isS st).mpr hR]; rfl) ?_
      refine ⟨_, rfl, sz1, fun r hr0 => ?_⟩
      have s2 := same_upd (o := .lst [.ref sa]) hr0
      obtain ⟨k0, hk0⟩ := hR.dist
      have bound : ∀ u k, IsDist cl u goal k → u.1 ∈ ns → k ≤ 14 := fun u k h hn => by
        have := dist_bound G.ov h hn
        have := G.nz
        omega
      refine ⟨fun m σ H' => ∃ (pre : List (Lt × Addr)) (u : Lt) (ua : Addr) (v5 v6 : Option V), σ = [some (.ref x), some (.ref sa), some (.ref ga), some (.ref D), some (.ref r), v5, v6, none] ∧ Same H1 H' ∧ H' r = some (.lst ((pre ++ [(u, ua)]).map fun b => V.ref b.2)) ∧ (∀ b ∈ pre ++ [(u, ua)], H' b.2 = some (litT b.1)) ∧
          IsDist cl u goal m ∧ u.1 ∈ ns ∧ Towards llt cl st goal (pre.map Prod.fst) u ∧ pre.length + m ≤ 14,
        ⟨k0, [], st, sa, _, _, rfl, s2, upd_same, fun b m => ?_, hk0, sn, Towards.start, by have := bound _ _ hk0 sn; simp; omega⟩, ?_⟩
      · rw [List.mem_singleton.mp m]
        exact s2 _ _ (s1 _ _ hs)
      rintro m σ H' ⟨pre, u, ua, v5, v6, rfl, s3, hr1, hl, hk, un, tw, pl⟩
      have sH := s1.trans s3
      have hua := hl (u, ua) (by simp)
      have lastI : atI ((pre ++ [(u, ua)]).map fun b => V.ref b.2) (-1) = some (.ref ua) := by
        rw [List.map_append]
        exact atI_last _ _
      refine ⟨_, rfl, _, rfl, r, _, _, _, rfl, rfl, .of hr1, lastI, _, rfl, litD u, litD goal, dp_lit hua, dp_lit (sH _ _ hg), (sh_lit (G.nok _ un)).ok, (sh_lit (G.nok _ gn)).ok, _, rfl, ?_⟩
      rw [eqv_lit]
      by_cases c : u = goal
      · refine ifF (by simp [c]) ?_
        subst c
        refine ⟨_, rfl, q1 H' r _ sH (s1.free hr0) ⟨_, ⟨hr1, hl⟩, rfl⟩ ?_⟩
        rw [List.map_append]
        exact tw.done
      · refine ifT (by simp [c]) ?_
        obtain ⟨k, rfl⟩ : ∃ k, m = k + 1 := by
          cases m with
          | zero => exact absurd hk.zero c
          | succ k => exact ⟨k, rfl⟩
        refine ⟨_, fun _ _ h => h, ?_⟩
        -- remaining
        refine ⟨_, rfl, _, rfl, _, rfl, r, _, _, _, rfl, rfl, .of hr1, lastI, D, ua, u, xs, _, rfl, rfl, ⟨.inl (s3 _ _ hD), kD.keep fun b ys h => s3 _ _ h⟩, hua, (vD _ _).mpr ⟨k + 1, rfl, hk⟩, _, _, rfl, rfl, ?_⟩
        obtain ⟨g1, g2⟩ := gs u un
        have S := g2.same sH
        -- closer
        refine ⟨_, rfl, x, C, dx, _, _, rfl, sH _ _ gx, TG.cl, TG.nS, rfl, _, rfl, _, rfl, r, _, _, _, rfl, rfl, .of hr1, lastI, sd, ua, u, sx, _, rfl, rfl, ⟨.inl (sH _ _ gd), gk.keep fun b ys h => sH _ _ h⟩, hua, g1, ?_⟩
        refine ⟨qa u, rfl, ⟨_, .of S.at_⟩, fun D2 hD2 => ?_⟩
        have vint : ∀ l : Lt, ∃ z : Int, (lval xs l).getD (.int (-1)) = V.int z := fun l => by
          cases e : lval xs l with
          | none => exact ⟨-1, rfl⟩
          | some v =>
            obtain ⟨k', e', _⟩ := (vD l v).mp e
            exact ⟨_, e'⟩
        have pr : ∀ c : Lt × Addr, decide ((lval xs c.1).getD (.int (-1)) = V.int (((k + 1 : Nat) : Int) - 1)) = true ↔ IsDist cl c.1 goal k := fun c => by
          rw [decide_eq_true_eq]
          constructor
          · intro e
            cases e2 : lval xs c.1 with
            | none =>
              rw [e2] at e
              have e := V.int.inj e
              omega
            | some v =>
              rw [e2] at e
              obtain ⟨k', e', h⟩ := (vD _ v).mp e2
              have e : v = _ := e
              rw [e'] at e
              have e := V.int.inj e
              have : k' = k := by omega
              rw [← this]
              exact h
          · intro h
            rw [(vD c.1 _).mpr ⟨k, rfl, h⟩]
            show V.int (k : Nat) = _
            congr 1
            omega
        refine lc_list (K := K) (a := qa u) (xs := (bs u).map fun b => V.ref b.2) (fun i H2 => Same H' H2 ∧ H2 D2 = some (.lst ((((bs u).take i).filter fun c => decide ((lval xs c.1).getD (.int (-1)) = V.int (((k + 1 : Nat) : Int) - 1))).map fun b => V.ref b.2)))
          ⟨same_upd hD2, upd_same⟩ (fun i H2 _ p => .of (S.same p.1).at_) ?_ ?_
        · rintro i y H2 hy ⟨s4, h2⟩
          obtain ⟨c1, hi, rfl⟩ := map_get hy
          have il := lt_of_get hi
          have hc := (S.same s4).ky c1 (mem_of_get hi)
          obtain ⟨z, hz⟩ := vint c1.1
          refine ⟨rfl, _, rfl, D, xs, rfl, ⟨.inl (s4 _ _ (s3 _ _ hD)), kD.keep fun b ys h => s4 _ _ (s3 _ _ h)⟩, _, rfl, _, rfl, c1.2, c1.1, xs, rfl, ⟨.inl (s4 _ _ (s3 _ _ hD)), kD.keep fun b ys h => s4 _ _ (s3 _ _ h)⟩, hc, _, rfl, ?_, _, rfl, ?_⟩
          · rw [hz]
            rfl
          · refine ifB (fun e => ?_) (fun e => ?_)
            · refine ⟨_, rfl, _, h2, sz _ ?_, same_put s4 hD2, ?_⟩
              · rw [List.length_map]
                have := List.length_filter_le (fun c => decide ((lval xs c.1).getD (.int (-1)) = V.int (((k + 1 : Nat) : Int) - 1))) ((bs u).take i)
                rw [List.length_take] at this
                have := S.sz
                omega
              · rw [upd_same, take_more hi, List.filter_append]
                have : [c1].filter (fun c => decide ((lval xs c.1).getD (.int (-1)) = V.int (((k + 1 : Nat) : Int) - 1))) = [c1] := by
                  simp only [List.filter_cons, List.filter_nil]
                  rw [if_pos e]
                rw [this, List.map_append]
                rfl
            · refine ⟨s4, ?_⟩
              rw [h2, take_more hi, List.filter_append]
              have : [c1].filter (fun c => decide ((lval xs c.1).getD (.int (-1)) = V.int (((k + 1 : Nat) : Int) - 1))) = [] := by
                simp only [List.filter_cons, List.filter_nil]
                rw [if_neg (by rw [e]; exact Bool.false_ne_true)]
              rw [this, List.append_nil]
        · rintro H2 ⟨s4, h2⟩
          rw [List.length_map, List.take_length] at h2
          obtain ⟨y, ey, hy⟩ := hk.first
          have my : ∃ b ∈ bs u, b.1 = y := by
            obtain ⟨b, mb, e⟩ := List.mem_map.mp ((g2.mem y).mpr ey)
            exact ⟨b, mb, e⟩
          obtain ⟨b0, mb0, rfl⟩ := my
          obtain ⟨c0, cr, hcl⟩ : ∃ c0 cr, (bs u).filter (fun c => decide ((lval xs c.1).getD (.int (-1)) = V.int (((k + 1 : Nat) : Int) - 1))) = c0 :: cr := by
            have m : b0 ∈ (bs u).filter (fun c => decide ((lval xs c.1).getD (.int (-1)) = V.int (((k + 1 : Nat) : Int) - 1))) := List.mem_filter.mpr ⟨mb0, (pr b0).mpr hy⟩
            cases e : (bs u).filter (fun c => decide ((lval xs c.1).getD (.int (-1)) = V.int (((k + 1 : Nat) : Int) - 1))) with
            | nil => rw [e] at m; cases m
            | cons a r => exact ⟨a, r, rfl⟩
          have m0 : c0 ∈ bs u ∧ IsDist cl c0.1 goal k := by
            have m : c0 ∈ (bs u).filter (fun c => decide ((lval xs c.1).getD (.int (-1)) = V.int (((k + 1 : Nat) : Int) - 1))) := by rw [hcl]; exact List.mem_cons_self
            exact ⟨(List.mem_filter.mp m).1, (pr c0).mp (List.mem_filter.mp m).2⟩
          have e0 : Edge cl u c0.1 := (g2.mem _).mp (List.mem_map.mpr ⟨c0, m0.1, rfl⟩)
          have least : ∀ z, Edge cl u z → IsDist cl z goal k → llt z c0.1 = false := fun z ez hz => by
            obtain ⟨b, mb, rfl⟩ := List.mem_map.mp ((g2.mem z).mpr ez)
            have m : b ∈ (bs u).filter (fun c => decide ((lval xs c.1).getD (.int (-1)) = V.int (((k + 1 : Nat) : Int) - 1))) := List.mem_filter.mpr ⟨mb, (pr b).mpr hz⟩
            rw [hcl] at m
            rcases List.mem_cons.mp m with z | z
            · rw [z]
              exact llt_total.irrefl _
            · have o : ((bs u).filter (fun c => decide ((lval xs c.1).getD (.int (-1)) = V.int (((k + 1 : Nat) : Int) - 1)))).Pairwise fun a b => llt b.1 a.1 = false := g2.ord.filter _
              rw [hcl] at o
              exact (List.pairwise_cons.mp o).1 b z
          rw [hcl] at h2
          refine ⟨_, rfl, .inl ⟨rfl, _, .of (s4 _ _ hr1)⟩, _, rfl, D2, _, _, _, rfl, rfl, .of h2, atI_nat (j := 0) rfl, r, _, _, rfl, rfl, s4 _ _ hr1, sz _ (by simp; omega), ?_⟩
          refine ⟨k, Nat.lt_succ_self _, pre ++ [(u, ua)], c0.1, c0.2, _, _, rfl, ?_, ?_, ?_, m0.2, (G.ov.edge e0).2, ?_, by simp; omega⟩
          · intro b o e
            have : b ≠ r := ne_of_none e hr0
            rw [upd_ne this]
            exact s4 _ _ (s3 _ _ e)
          · rw [upd_same]
            simp only [List.map_append, List.map_cons, List.map_nil]
          · intro b m
            have f : H2 b.2 = some (litT b.1) := by
              rcases List.mem_append.mp m with z | z
              · exact s4 _ _ (hl b z)
              · rw [List.mem_singleton.mp z]
                exact s4 _ _ (S.ky c0 m0.1)
            rw [upd_ne (fun z => by rw [z, s4 _ _ hr1] at f; cases f)]
            exact f
          · rw [List.map_append]
            exact tw.more hk e0 m0.2 least
    · refine ifT (by
        cases e : (lval xs st).isSome with
        | false => rfl
        | true => exact absurd ((isS st).mp e) hR) ?_
      exact q0 _ s1 hR
/-! ### the best of several -/
/-- a chain or None -/
def oV : Option (Addr × List Lt) → V
  | none => .non
  | some (p, _) => .ref p
/-- candidates = sorted([(len(chain), chain) for chain in chains if chain is not None]); return candidates[0][1] if candidates != [] else None -/
def tCand (K : PySem.W.Frag) (a b c : Nat) : TS :=
  tSeq (tAsg (tCB (rSortB K) (tCons (tLc (iList K (tVar a)) (gName c) (tB (tNotN (tVar c))) (tTup (tCons (tCB (rLenS K) (tCons (tVar c) tNil)) (tCons (tVar c) tNil))) [c]) tNil)) (gName b))
    (tRet (tIf (tTest (tOp (rNeD K) (tVar b) (tLst tNil))) (tOp (rIxT K) (tOp (rIxL K) (tVar b) (tC (.int 0))) (tC (.int 1))) (tC .non)))
theorem get_set {σ : L2.St} {i : Nat} {v : V} (h : i < σ.length) : (σ.set i (some v))[i]? = some (some v) := by
  rw [List.getElem?_set_self h]
abbrev CB := Addr × Addr × List Lt
theorem dp_lc {H : Hp} {b : CB} (h : H b.1 = some (.tup [.int b.2.2.length, .ref b.2.1])) (C : ChAt H b.2.1 b.2.2) : Dp K H (.ref b.1) (lcD b.2.2) := .tup (.of h) (.cons (.int _) (.cons (dp_ch C) .nil))
theorem dp_lcs {H : Hp} : ∀ {l : List CB}, (∀ b ∈ l, H b.1 = some (.tup [.int b.2.2.length, .ref b.2.1]) ∧ ChAt H b.2.1 b.2.2) → DpAll K H (l.map fun b => V.ref b.1) (l.map fun b => lcD b.2.2)
  | [], _ => .nil
  | b :: r, h => .cons (dp_lc (h b List.mem_cons_self).1 (h b List.mem_cons_self).2) (dp_lcs fun c m => h c (List.mem_cons_of_mem _ m))
theorem cand_ok {a b c : Nat} {D : Ends} {σ : L2.St} {H : Hp} (os : List (Option (Addr × List Lt))) (l : Addr) (ha : σ[a]? = some (some (.ref l))) (hl : H l = some (.lst (os.map oV))) (ho : ∀ p ch, some (p, ch) ∈ os → ChAt H p ch ∧ (∀ x ∈ ch, x.1 ∈ okNames)) (hz : os.length ≤ 100)
    (hb : b < σ.length) (hc : c < σ.length) (q0 : ∀ H', Same H H' → (∀ o ∈ os, o = none) → D.rt .non H')
    (q1 : ∀ H' p ch, Same H H' → some (p, ch) ∈ os → ChAt H' p ch → (∀ p' ch', some (p', ch') ∈ os → Fc.clt llt ch' ch = false) → D.rt (.ref p) H') : tCand K a b c D σ H := by
  refine ⟨_, ha, l, rfl, ⟨_, .of hl⟩, fun D2 hD2 => ?_⟩
  have gw : ∀ v : V, ((wipe σ [c]).set c (some v))[c]? = some (some v) := fun v => get_set (by rw [wipe_length]; exact hc)
  refine lc_list (K := K) (a := l) (xs := os.map oV) (fun i H' => ∃ bs : List CB, Same H H' ∧ H' D2 = some (.lst (bs.map fun b => V.ref b.1)) ∧ (∀ b ∈ bs, H' b.1 = some (.tup [.int b.2.2.length, .ref b.2.1]) ∧ some (b.2.1, b.2.2) ∈ os) ∧
      (∀ p ch, some (p, ch) ∈ os.take i → ∃ b ∈ bs, b.2.2 = ch) ∧ bs.length ≤ i)
    ⟨[], same_upd hD2, upd_same, (fun _ h => nomatch h), (fun _ _ h => nomatch h), Nat.le_refl _⟩ (fun i H' _ ⟨_, s1, _⟩ => .of (s1 _ _ hl)) ?_ ?_
  · rintro i y H' hy ⟨bs, s1, h2, hb2, hcov, hlen⟩
    obtain ⟨o, hi, rfl⟩ := map_get hy
    have il := lt_of_get hi
    refine ⟨by simp [wipe, List.set_set], _, gw _, _, rfl, ?_⟩
    cases o with
    | none =>
      refine ifF (by simp [oV]) ⟨bs, s1, h2, hb2, fun p ch m => ?_, by omega⟩
      rw [take_more hi] at m
      rcases List.mem_append.mp m with z | z
      · exact hcov p ch z
      · have := List.mem_singleton.mp z
        cases this
    | some o =>
      obtain ⟨p, ch⟩ := o
      obtain ⟨C, hok⟩ := ho p ch (mem_of_get hi)
      have C1 := C.same s1
      obtain ⟨cb, C2, e2⟩ := id C1
      have el : ch.length = (cb.map fun b => V.ref b.2).length := by rw [← e2]; simp
      refine ifT (by simp [oV]) ⟨_, gw _, p, _, rfl, .inl (.of C2.at_), _, gw _, sz2, fun t ht => ?_⟩
      have s2 := same_upd (o := .tup [.int (cb.map fun b => V.ref b.2).length, oV (some (p, ch))]) ht
      refine ⟨_, s2 _ _ h2, sz _ (by simp; omega), bs ++ [(t, p, ch)], same_put (s1.trans s2) hD2, ?_, fun b m => ?_, fun p' ch' m => ?_, by simp; omega⟩
      · rw [upd_same, List.map_append]
        rfl
      · have nD : ∀ b ys, (upd H' t (.tup [.int (cb.map fun b => V.ref b.2).length, oV (some (p, ch))])) b = some (HO.tup ys) → b ≠ D2 := fun b ys h z => by
          rw [z, s2 _ _ h2] at h
          cases h
        rcases List.mem_append.mp m with z | z
        · have := s2 _ _ (hb2 b z).1
          exact ⟨(upd_ne (nD _ _ this)).trans this, (hb2 b z).2⟩
        · have z := List.mem_singleton.mp z
          subst z
          refine ⟨(upd_ne (nD _ _ upd_same)).trans ?_, mem_of_get hi⟩
          rw [upd_same, ← el]
          rfl
      · rw [take_more hi] at m
        rcases List.mem_append.mp m with z | z
        · obtain ⟨b, mb, e⟩ := hcov p' ch' z
          exact ⟨b, List.mem_append_left _ mb, e⟩
        · have z := List.mem_singleton.mp z
          cases z
          exact ⟨_, List.mem_append_right _ (List.mem_singleton_self _), rfl⟩
  · rintro H' ⟨bs, s1, h2, hb2, hcov, hlen⟩
    rw [List.length_map, List.take_length] at hcov
    rw [List.length_map] at hlen
    have hC : ∀ b ∈ bs, ChAt H' b.2.1 b.2.2 ∧ ∀ x ∈ b.2.2, x.1 ∈ okNames := fun b m => ⟨(ho _ _ (hb2 b m).2).1.same s1, (ho _ _ (hb2 b m).2).2⟩
    refine ⟨D2, CB, bs, (fun b => V.ref b.1), (fun b => lcD b.2.2), rfl, .of h2, sortB_of (fun b m => dp_lc (hb2 b m).1 (hC b m).1) (fun a b => alike_lc _ _) (PySem.W.Sortable.tuples fun b => ⟨_, _, rfl⟩) (szl (by omega)) (fun b m => Nat.le_trans (sh_lc (hC b m).2).dep (by decide)), fun p hp => ?_⟩
    have sp := same_upd (o := .lst ((bs.mergeSort (PySem.W.dataLe false fun b : CB => lcD b.2.2)).map fun b => V.ref b.1)) hp
    have pw := sorted_by (enc := fun b : CB => lcD b.2.2) bs
    have mm : ∀ x, x ∈ bs.mergeSort (PySem.W.dataLe false fun b : CB => lcD b.2.2) ↔ x ∈ bs := fun x => mem_sorted
    generalize bs.mergeSort (PySem.W.dataLe false fun b : CB => lcD b.2.2) = sl at sp pw mm
    refine ⟨_, get_set hb, sz0, fun t ht => ?_⟩
    have st := same_upd (o := .lst []) ht
    have s3 := sp.trans st
    refine ⟨_, _, .lst (.of (st _ _ upd_same)) (dp_lcs fun b m => ⟨s3 _ _ (hb2 b ((mm b).mp m)).1, (hC b ((mm b).mp m)).1.same s3⟩), .lst (.of upd_same) .nil, (Sh.list (n := 3) fun d m => ?_).ok, (Sh.list (n := 0) nil_all).ok, _, rfl, ?_⟩
    · obtain ⟨b, mb, rfl⟩ := List.mem_map.mp m
      exact sh_lc (hC b ((mm b).mp mb)).2
    · cases sl with
      | nil =>
        refine ifF rfl (q0 _ (s1.trans s3) fun o m => ?_)
        cases o with
        | none => rfl
        | some o =>
          obtain ⟨b, mb, _⟩ := hcov o.1 o.2 m
          exact absurd ((mm b).mpr mb) (by simp)
      | cons h r =>
        have mh := (mm h).mp List.mem_cons_self
        refine ifT rfl ⟨_, get_set hb, _, _, _, _, rfl, rfl, .of (st _ _ upd_same), atI_nat (j := 0) rfl, _, _, _, _, rfl, rfl, .of (s3 _ _ (hb2 h mh).1), rfl, ?_⟩
        refine q1 _ h.2.1 h.2.2 (s1.trans s3) (hb2 h mh).2 ((hC h mh).1.same s3) fun p' ch' m => ?_
        obtain ⟨b, mb, rfl⟩ := hcov p' ch' m
        rcases List.mem_cons.mp ((mm b).mpr mb) with z | z
        · rw [z]
          exact (Fc.clt_total llt_total).irrefl _
        · have := (List.pairwise_cons.mp pw).1 b z
          rw [lt_lc] at this
          exact this
end
end Fk
/-! The best chain; graphs of grammars; satisfiability. -/
namespace Fk
open PySem PySem.Spec PyProof.Rows L2
open Fc (neg Edge IsDist Reach Best BestOf Towards IsPath)
section
variable {P : Program} {w : World} {K : PySem.W.Frag} {mg : Str → Option Value} {base : Heap}
/-- results, each None or a chain that is new since H0 and not at D -/
def Os (H0 : Hp) (D : Addr) (H : Hp) (Pn : Nat → Prop) (Ps : Nat → List Lt → Prop) (os : List (Option (Addr × List Lt))) : Prop := ∀ j o, os[j]? = some o → (o = none ∧ Pn j) ∨ ∃ p ch, o = some (p, ch) ∧ ChAt H p ch ∧ p ≠ D ∧ H0 p = none ∧ Ps j ch
theorem ch_upd {H : Hp} {p D : Addr} {ch : List Lt} {xs ys : List V} (hD : H D = some (.lst xs)) (ne : p ≠ D) (C : ChAt H p ch) : ChAt (upd H D (.lst ys)) p ch := by
  obtain ⟨bs, h, e⟩ := C
  refine ⟨bs, ⟨(upd_ne ne).trans h.at_, fun b m => (upd_ne fun z => ?_).trans (h.ky b m)⟩, e⟩
  have := h.ky b m
  rw [z, hD] at this
  cases this
theorem Os.same {H0 H H' : Hp} {D : Addr} {Pn : Nat → Prop} {Ps : Nat → List Lt → Prop} {os : List (Option (Addr × List Lt))} (s : Same H H') (h : Os H0 D H Pn Ps os) : Os H0 D H' Pn Ps os := fun j o e => (h j o e).imp id fun ⟨p, ch, a, b, c⟩ => ⟨p, ch, a, b.same s, c⟩
theorem Os.upd {H0 H : Hp} {D : Addr} {Pn : Nat → Prop} {Ps : Nat → List Lt → Prop} {os : List (Option (Addr × List Lt))} {xs ys : List V} (h : Os H0 D H Pn Ps os) (hD : H D = some (.lst xs)) : Os H0 D (upd H D (.lst ys)) Pn Ps os := fun j o e => (h j o e).imp id fun ⟨p, ch, a, b, c, d⟩ => ⟨p, ch, a, ch_upd hD c b, c, d⟩
theorem Os.snoc {H0 H : Hp} {D : Addr} {Pn : Nat → Prop} {Ps : Nat → List Lt → Prop} {os : List (Option (Addr × List Lt))} {o : Option (Addr × List Lt)} (h : Os H0 D H Pn Ps os) (ho : (o = none ∧ Pn os.length) ∨ ∃ p ch, o = some (p, ch) ∧ ChAt H p ch ∧ p ≠ D ∧ H0 p = none ∧ Ps os.length ch) : Os H0 D H Pn Ps (os ++ [o]) := fun j o' e => by
  by_cases c : j < os.length
  · rw [List.getElem?_append_left c] at e
    exact h j o' e
  · rw [List.getElem?_append_right (by omega)] at e
    have : j - os.length = 0 := by
      cases hh : j - os.length with
      | zero => rfl
      | succ n => rw [hh] at e; simp at e
    rw [this] at e
    have e : o = o' := by simpa using e
    have : j = os.length := by omega
    rw [this, ← e]
    exact ho
theorem Os.mem {H0 H : Hp} {D : Addr} {Pn : Nat → Prop} {Ps : Nat → List Lt → Prop} {os : List (Option (Addr × List Lt))} (h : Os H0 D H Pn Ps os) {p : Addr} {ch : List Lt} (m : some (p, ch) ∈ os) : ∃ j, j < os.length ∧ ChAt H p ch ∧ H0 p = none ∧ Ps j ch := by
  obtain ⟨j, hj, e⟩ := List.getElem_of_mem m
  rcases h j _ (List.getElem?_eq_getElem hj) with ⟨z, _⟩ | ⟨p', ch', z, a, _, b, c⟩
  · rw [e] at z; cases z
  · rw [e] at z
    cases z
    exact ⟨j, hj, a, b, c⟩
/-- the least of the results' chains -/
theorem pick_os {H0 H : Hp} {D : Addr} {Pn : Nat → Prop} {Ps : Nat → List Lt → Prop} {os : List (Option (Addr × List Lt))} {cl : Fc.Cls Str} {R : Lt → Lt → Prop} (h : Os H0 D H Pn Ps os) (h1 : ∀ j ch, j < os.length → Ps j ch → ∃ s g, R s g ∧ IsPath cl s g ch)
    (h2 : ∀ s g c', R s g → IsPath cl s g c' → ∃ j, j < os.length ∧ ¬ Pn j ∧ ∀ ch, Ps j ch → Fc.clt llt c' ch = false) {p : Addr} {ch : List Lt} (m : some (p, ch) ∈ os) (l : ∀ p' ch', some (p', ch') ∈ os → Fc.clt llt ch' ch = false) : BestOf llt cl R ch := by
  have mc : ∀ c, c ∈ os.filterMap (fun o => o.map (·.2)) ↔ ∃ p', some (p', c) ∈ os := fun c => by
    rw [List.mem_filterMap]
    constructor
    · rintro ⟨o, mo, e⟩
      cases o with
      | none => cases e
      | some o => cases e; exact ⟨o.1, mo⟩
    · rintro ⟨p', mo⟩
      exact ⟨_, mo, rfl⟩
  refine BestOf.pick llt_total (cands := os.filterMap (fun o => o.map (·.2))) (fun c hc => ?_) (fun s g c' hR hp => ?_) ((mc _).mpr ⟨p, m⟩) fun c hc => ?_
  · obtain ⟨p', m'⟩ := (mc c).mp hc
    obtain ⟨j, hj, _, _, hs⟩ := h.mem m'
    exact h1 j c hj hs
  · obtain ⟨j, hj, n1, n2⟩ := h2 s g c' hR hp
    rcases h j _ (List.getElem?_eq_getElem hj) with ⟨_, z⟩ | ⟨p', ch', z, _, _, _, b⟩
    · exact absurd z n1
    · exact ⟨ch', (mc _).mpr ⟨p', by rw [← z]; exact List.getElem_mem hj⟩, n2 ch' b⟩
  · obtain ⟨p', m'⟩ := (mc c).mp hc
    exact l p' c m'
def spBest (P : Program) (w : World) (C : Addr) : Sp := fun vs H Q _ => ∃ (x sa ga : Addr) (ss : List (Lt × Addr)) (goal : Lt) (ns : List Str) (cl : Fc.Cls Str), vs = [.ref x, .ref sa, .ref ga] ∧ GraphAt P w C H x ns cl ∧ ChB H sa ss ∧ (∀ s ∈ ss, s.1.1 ∈ ns) ∧ ss.length ≤ 20 ∧ H ga = some (litT goal) ∧ goal.1 ∈ ns ∧
  (∀ H', Same H H' → (∀ s ∈ ss, ¬ Reach cl s.1 goal) → Q .non H') ∧ ∀ H' p c, Same H H' → H p = none → ChAt H' p c → BestOf llt cl (fun s g => s ∈ ss.map Prod.fst ∧ g = goal) c → Q (.ref p) H'
abbrev s_ImplicationGraph_best_chain : Stmt := (inClass (top 35) 4)
abbrev n_ImplicationGraph_best_chain : List Str := ["self", "starts", "goal", "chains", "start", "candidates", "chain"]
theorem sc_ImplicationGraph_best_chain : FnScope ["self", "starts", "goal", "chains", "start", "candidates", "chain"] ["self", "starts", "goal"] (defScope s_ImplicationGraph_best_chain) := ⟨rfl, rfl, rfl, by decide +kernel, rfl, by decide +kernel, by decide +kernel⟩
-- slots: self 0, starts 1, goal 2, chains 3, start 4, candidates 5, chain 6
theorem ok_best_chain {f f1 C : Addr} {fd fd1 : FuncData} (F : Fun K "best_chain" "ImplicationGraph.best_chain" s_ImplicationGraph_best_chain f fd) (T : Txt K mg) (M_shortest_chain : Mt P w K mg base CX0 3 C "shortest_chain" f1 fd1 ["self", "start", "goal"] (spShort P w C)) :
    FnOk P w K mg base CX0 4 f fd ["self", "starts", "goal"] (spBest P w C) := by
  refine F.ok sc_ImplicationGraph_best_chain (fun vs H Q E h => ?_) (fun cdv A outer s H vs Q E hr h => ?_)
  · obtain ⟨_, _, _, _, _, _, _, rfl, _⟩ := h
    rfl
  · obtain ⟨x, sa, ga, ss, goal, ns, cl, rfl, G, hs, sn, l20, hg, gn, q0, q1⟩ := h
    refine ⟨_, (pss_cons (ps_setLc (i := 3) (own := [("start", 4)]) (by rfl) sc_ImplicationGraph_best_chain.nd rfl rfl (sw_true rfl rfl rfl (by decide +kernel)) (pi_list (pv 1)) (blkOk_by (own := [("start", 4)]) (N := n_ImplicationGraph_best_chain) (sc := defScope s_ImplicationGraph_best_chain) (by decide +kernel)) (fun _ _ _ _ _ => (pg_name (i := 4) sc_ImplicationGraph_best_chain.nd rfl (by first | exact Or.inl rfl | exact Or.inr rfl))) (fun _ _ _ _ _ => pts_nil) (fun _ _ _ _ _ => (pe_meth (pv 0) M_shortest_chain.cl M_shortest_chain.me M_shortest_chain.ok (hr.mono (by decide)) M_shortest_chain.bi .nil pass0 (pa_cons (pv 4) (pa_cons (pv 2) pa_nil)))))
      (pss_cons (ps_set (i := 5) sc_ImplicationGraph_best_chain.nd rfl (by first | exact Or.inl rfl | exact Or.inr rfl) (pe_callB (cr_sortB (hu1_of hr)) (by rfl) T.b_sorted (by decide +kernel) (pa_cons (pe_lc (own := [("chain", 6)]) (by rfl) sc_ImplicationGraph_best_chain.nd (pi_list (pv 3)) (blkOk_by (own := [("chain", 6)]) (N := n_ImplicationGraph_best_chain) (sc := defScope s_ImplicationGraph_best_chain) (by decide +kernel)) (fun _ _ _ _ _ => (pg_name (i := 6) sc_ImplicationGraph_best_chain.nd rfl (by first | exact Or.inl rfl | exact Or.inr rfl))) (fun _ _ _ _ _ => pts_one (pt_cmp (pc_notN (pv 6)) (by rfl))) (fun _ _ _ _ _ => (pe_tup (pa_cons (pe_callB (show CallR _ (.builtin "len") (rLenS K) from call_len_seq) (by rfl) T.b_len (by decide +kernel) (pa_cons (pv 6) pa_nil)) (pa_cons (pv 6) pa_nil))))) pa_nil)))
      (pss_one (ps_ret (pe_ifExp (pt_cmpR (op_neD hr.units) (pv 5) (pe_lst pa_nil) (nomark _)) (pe_ix ix_tup (pe_ix ix_list (pv 5) pe_int (fun _ _ => rfl)) pe_int (fun _ _ => rfl)) pe_non))))), ?_⟩
    obtain ⟨dx, sd, sx, qa, bs, gx, gd, gk, gs⟩ := G.ex
    refine ⟨_, rfl, sa, rfl, ⟨_, .of hs.at_⟩, fun D hD => ?_⟩
    refine lc_list (K := K) (a := sa) (xs := ss.map fun b => V.ref b.2) (fun i H' => ∃ os : List (Option (Addr × List Lt)), Same H H' ∧ H' D = some (.lst (os.map oV)) ∧ os.length = i ∧
        Os H D H' (fun j => ∀ s, ss[j]? = some s → ¬ Reach cl s.1 goal) (fun j ch => ∀ s, ss[j]? = some s → Best llt cl s.1 goal ch) os)
      ⟨[], same_upd hD, upd_same, rfl, (fun j o e => by simp at e)⟩ (fun i H' _ ⟨_, s1, _⟩ => .of (hs.same s1).at_) ?_ ?_
    · rintro i y H' hy ⟨os, s1, h1, ho, hO⟩
      obtain ⟨b, hi, rfl⟩ := map_get hy
      have il := lt_of_get hi
      have mb := mem_of_get hi
      refine ⟨rfl, _, rfl, x, dx, _, rfl, s1 _ _ gx, rfl, _, rfl, _, rfl, x, b.2, ga, b.1, goal, ns, cl, rfl, G.same s1, (hs.same s1).ky b mb, s1 _ _ hg, sn b mb, gn, fun H2 s2 nR => ?_, fun H2 p c s2 np hp hB => ?_⟩
      · refine ⟨_, s2 _ _ h1, sz _ (by simp; omega), os ++ [none], same_put (s1.trans s2) hD, ?_, by simp [ho], ?_⟩
        · rw [upd_same, List.map_append]
          rfl
        · exact ((hO.same s2).upd (s2 _ _ h1)).snoc (.inl ⟨rfl, fun s e => by rw [ho, hi] at e; cases e; exact nR⟩)
      · have pD : p ≠ D := fun z => by rw [z, h1] at np; cases np
        refine ⟨_, s2 _ _ h1, sz _ (by simp; omega), os ++ [some (p, c)], same_put (s1.trans s2) hD, ?_, by simp [ho], ?_⟩
        · rw [upd_same, List.map_append]
          rfl
        · exact ((hO.same s2).upd (s2 _ _ h1)).snoc (.inr ⟨p, c, rfl, ch_upd (s2 _ _ h1) pD hp, pD, s1.free np, fun s e => by rw [ho, hi] at e; cases e; exact hB⟩)
    · rintro H' ⟨os, s1, h1, ho, hO⟩
      rw [List.length_map] at ho
      have gs' : ∀ j, j < os.length → ∃ s, ss[j]? = some s ∧ s ∈ ss := fun j hj => ⟨_, List.getElem?_eq_getElem (by omega), List.getElem_mem (by omega)⟩
      refine cand_ok (a := 3) (b := 5) (c := 6) os D rfl h1 ?_ (by omega) (by show 5 < 7; decide) (by show 6 < 7; decide) ?_ ?_
      · intro p ch m
        obtain ⟨j, hj, C1, _, hB⟩ := hO.mem m
        obtain ⟨s, e, ms⟩ := gs' j hj
        exact ⟨C1, fun x hx => G.nok _ (path_over G.ov (hB s e).1 (sn s ms) x hx)⟩
      · intro H2 s2 hn
        refine q0 _ (s1.trans s2) fun s m => ?_
        obtain ⟨j, hj, e⟩ := List.getElem_of_mem m
        have jo : j < os.length := by omega
        rcases hO j _ (List.getElem?_eq_getElem jo) with ⟨_, z⟩ | ⟨p', ch', z, _⟩
        · exact z s (by rw [← e]; exact List.getElem?_eq_getElem hj)
        · have := hn _ (List.getElem_mem jo)
          rw [this] at z
          cases z
      · intro H2 p ch s2 m C2 hl
        obtain ⟨_, _, _, np, _⟩ := hO.mem m
        refine q1 _ p ch (s1.trans s2) np C2 (pick_os (hO) (fun j ch hj hB => ?_) (fun s g c' hR hp => ?_) m hl)
        · obtain ⟨s, e, ms⟩ := gs' j hj
          exact ⟨s.1, goal, ⟨List.mem_map.mpr ⟨s, ms, rfl⟩, rfl⟩, (hB s e).1⟩
        · obtain ⟨hs1, rfl⟩ := hR
          obtain ⟨s', ms, rfl⟩ := List.mem_map.mp hs1
          obtain ⟨j, hj, e⟩ := List.getElem_of_mem ms
          have e' : ss[j]? = some s' := by rw [← e]; exact List.getElem?_eq_getElem hj
          exact ⟨j, by omega, fun z => z s' e' hp.reach, fun ch hB => (hB s' e').2 c' hp⟩
end
end Fk
/-! Graphs of grammars, satisfiability, conflicts. -/
namespace Fk
open PySem PySem.Spec PyProof.Rows L2
open Fc (neg Edge IsDist Reach Best BestOf Towards IsPath)
section
variable {P : Program} {w : World} {K : PySem.W.Frag} {mg : Str → Option Value} {base : Heap}
def spGraph (P : Program) (w : World) (C : Addr) : Sp := fun vs H Q _ => ∃ (g : Addr) (es : List OE) (cs : List CE), vs = [.ref g] ∧ GrAt H g es cs ∧ ∀ H' x, Same H H' → H x = none → GraphAt P w C H' x (es.map (·.n)) (clsOf cs) → Q (.ref x) H'
abbrev s_graph_of : Stmt := (top 36)
abbrev n_graph_of : List Str := ["grammar"]
theorem sc_graph_of : FnScope ["grammar"] ["grammar"] (defScope s_graph_of) := ⟨rfl, rfl, rfl, by decide +kernel, rfl, by decide +kernel, by decide +kernel⟩
-- slots: grammar 0
theorem ok_graph_of {f f1 fI C : Addr} {fd fd1 fdI : FuncData} (F : FunM K mg "graph_of" s_graph_of f fd) (TG : ClsG K mg C) (MK : Mk K C fI) (GI : FnOk P w K mg base CX0 2 fI fdI ["self", "names", "clauses"] (spGInit P w C)) (bI : Binds K fdI ["self", "names", "clauses"] [])
    (D_names_of : Dn P w K mg base CX0 1 "names_of" f1 fd1 ["grammar"] spNames) : Dn P w K mg base CX0 4 "graph_of" f fd ["grammar"] (spGraph P w C) := by
  refine ⟨F.fn.ok sc_graph_of (fun vs H Q E h => ?_) (fun cdv A outer s H vs Q E hr h => ?_), F.mg, F.fn.kp, (F.fn.binds fun _ _ _ _ _ _ us hl => match us, hl with | [_], _ => rfl)⟩
  · obtain ⟨_, _, _, rfl, _⟩ := h
    rfl
  · obtain ⟨g, es, cs, rfl, G, q⟩ := h
    obtain ⟨o, p, c, lo, hi, a1, a2, a3, a4, a5, a6, a7⟩ := G.ex
    refine ⟨_, (pss_one (ps_ret (pe_make MK GI (hr.mono (by decide)) (by rfl) TG.mgC bI .nil pass0 (pa_cons (pe_call D_names_of.ok (hr.mono (by decide)) rfl D_names_of.mg D_names_of.kp D_names_of.bi .nil pass0 (pa_cons (pv 0) pa_nil)) (pa_cons (pe_ix ix_tup (pv 0) pe_int (fun _ _ => rfl)) pa_nil))))), ?_⟩
    refine ⟨_, rfl, g, es, cs, rfl, G, fun H1 nl s1 nn hn => ⟨_, rfl, _, _, _, _, rfl, rfl, .of (s1 _ _ a1), rfl, fun x dx hx hdx ne => ?_⟩⟩
    have s2 : Same H1 (upd (upd H1 dx (.own x)) x (.ins C dx [])) := fun b o e => by
      rw [upd_ne (ne_of_none e hx), upd_ne (ne_of_none e hdx)]
      exact e
    have s3 := s1.trans s2
    refine ⟨x, dx, nl, c, es.map (·.n), cs, rfl, upd_same, s2 _ _ hn, s3 _ _ a7, fun c m => ⟨s3 _ _ (G.cl c m), (G.cw c m).2⟩, G.oo.nd, fun n m => ?_, by rw [List.length_map]; exact G.oo.most, G.cm, fun H2 sx GG => ⟨rfl, ?_⟩⟩
    · obtain ⟨e, me, rfl⟩ := List.mem_map.mp m
      exact (G.os e me).nm
    · exact q H2 x (fun b o e => sx _ _ (ne_of_none (s1 _ _ e) hx) (s3 _ _ e)) (s1.free hx) GG
abbrev s_find_contradiction : Stmt := (top 38)
abbrev n_find_contradiction : List Str := ["grammar", "graph", "name", "there", "back"]
theorem sc_find_contradiction : FnScope ["grammar", "graph", "name", "there", "back"] ["grammar"] (defScope s_find_contradiction) := ⟨rfl, rfl, rfl, by decide +kernel, rfl, by decide +kernel, by decide +kernel⟩
-- slots: grammar 0, graph 1, name 2, there 3, back 4
def spFind : Sp := fun vs H Q _ => ∃ (g : Addr) (es : List OE) (cs : List CE), vs = [.ref g] ∧ GrAt H g es cs ∧ (∀ H', Same H H' → Fc.Free (clsOf cs) (es.map (·.n)) → Q .non H') ∧ ∀ H' p, Same H H' → ¬ Fc.Free (clsOf cs) (es.map (·.n)) → Q (.ref p) H'
theorem ok_find_contradiction {f f1 f2 f3 C : Addr} {fd fd1 fd2 fd3 : FuncData} (F : FunM K mg "find_contradiction" s_find_contradiction f fd) (D_names_of : Dn P w K mg base CX0 1 "names_of" f1 fd1 ["grammar"] spNames) (D_graph_of : Dn P w K mg base CX0 4 "graph_of" f2 fd2 ["grammar"] (spGraph P w C))
    (M_shortest_chain : Mt P w K mg base CX0 3 C "shortest_chain" f3 fd3 ["self", "start", "goal"] (spShort P w C)) : Dn P w K mg base CX0 5 "find_contradiction" f fd ["grammar"] spFind := by
  refine ⟨F.fn.ok sc_find_contradiction (fun vs H Q E h => ?_) (fun cdv A outer s H vs Q E hr h => ?_), F.mg, F.fn.kp, (F.fn.binds fun _ _ _ _ _ _ us hl => match us, hl with | [_], _ => rfl)⟩
  · obtain ⟨_, _, _, rfl, _⟩ := h
    rfl
  · obtain ⟨g, es, cs, rfl, G, q0, q1⟩ := h
    refine ⟨_, (pss_cons (ps_set (i := 1) sc_find_contradiction.nd rfl (by first | exact Or.inl rfl | exact Or.inr rfl) (pe_call D_graph_of.ok (hr.mono (by decide)) rfl D_graph_of.mg D_graph_of.kp D_graph_of.bi .nil pass0 (pa_cons (pv 0) pa_nil)))
      (pss_cons (ps_for PassesOwn.never rfl (pi_list (pe_call D_names_of.ok (hr.mono (by decide)) rfl D_names_of.mg D_names_of.kp D_names_of.bi .nil pass0 (pa_cons (pv 0) pa_nil))) (pg_name (i := 2) sc_find_contradiction.nd rfl (by first | exact Or.inl rfl | exact Or.inr rfl)) (pss_cons (ps_set (i := 3) sc_find_contradiction.nd rfl (by first | exact Or.inl rfl | exact Or.inr rfl) (pe_meth (pv 1) M_shortest_chain.cl M_shortest_chain.me M_shortest_chain.ok (hr.mono (by decide)) M_shortest_chain.bi .nil pass0 (pa_cons (pe_tup (pa_cons (pv 2) (pa_cons pe_bl pa_nil))) (pa_cons (pe_tup (pa_cons (pv 2) (pa_cons pe_bl pa_nil))) pa_nil))))
      (pss_cons (ps_set (i := 4) sc_find_contradiction.nd rfl (by first | exact Or.inl rfl | exact Or.inr rfl) (pe_meth (pv 1) M_shortest_chain.cl M_shortest_chain.me M_shortest_chain.ok (hr.mono (by decide)) M_shortest_chain.bi .nil pass0 (pa_cons (pe_tup (pa_cons (pv 2) (pa_cons pe_bl pa_nil))) (pa_cons (pe_tup (pa_cons (pv 2) (pa_cons pe_bl pa_nil))) pa_nil))))
      (pss_one (ps_if (PW.pt (pw_and (pt_cmp (pc_notN (pv 3)) (by rfl)) (pw_and1 (pt_cmp (pc_notN (pv 4)) (by rfl))))) (pss_one (ps_ret (pe_tup (pa_cons (pv 3) (pa_cons (pv 4) pa_nil))))) pss_nil)))))
      (pss_one (ps_ret pe_non)))), ?_⟩
    refine ⟨_, rfl, g, es, cs, rfl, G, fun H1 x s1 hx GG => ?_⟩
    refine ⟨_, rfl, g, es, cs, rfl, G.same s1, fun H2 nl s2 hn h2 => ⟨nl, rfl, ⟨_, .of h2⟩, ?_⟩⟩
    refine for_list (K := K) (a := nl) (xs := (es.map (·.n)).map V.str) (fun i σ H3 => ∃ v2 v3 v4 : Option V, σ = [some (.ref g), some (.ref x), v2, v3, v4] ∧ Same H2 H3 ∧ ∀ n ∈ (es.map (·.n)).take i, ¬ (Reach (clsOf cs) (n, false) (n, true) ∧ Reach (clsOf cs) (n, true) (n, false)))
      ⟨_, _, _, rfl, Same.refl _, (fun _ h => nomatch h)⟩ (fun i σ H3 _ ⟨_, _, _, _, s3, _⟩ => .of (s3 _ _ h2)) ?_ ?_
    · rintro i y σ H3 hy ⟨v2, v3, v4, rfl, s3, hf⟩
      obtain ⟨n, hi, rfl⟩ := map_get hy
      have mn := mem_of_get hi
      have GG3 := GG.same (s2.trans s3)
      obtain ⟨dx, sd, sx, qa, bs, gx, _⟩ := GG3.ex
      refine ⟨_, rfl, x, dx, _, rfl, gx, rfl, _, rfl, sz2, fun l1 hl1 => ⟨_, rfl, sz2, fun l2 hl2 => ?_⟩⟩
      have t1 := same_upd (o := .tup [.str n, .bl false]) hl1
      have t2 := same_upd (o := .tup [.str n, .bl true]) hl2
      have next : ∀ (there back : V) (H6 : Hp), Same H2 H6 → (there = .non → ¬ Reach (clsOf cs) (n, false) (n, true)) → (back = .non → ¬ Reach (clsOf cs) (n, true) (n, false)) → (there = .non ∨ back = .non) →
          ∃ v2 v3 v4 : Option V, [some (.ref g), some (.ref x), some (.str n), some there, some back] = [some (.ref g), some (.ref x), v2, v3, v4] ∧ Same H2 H6 ∧ ∀ n ∈ (es.map (·.n)).take (i + 1), ¬ (Reach (clsOf cs) (n, false) (n, true) ∧ Reach (clsOf cs) (n, true) (n, false)) := fun there back H6 s6 r1 r2 o => by
        refine ⟨_, _, _, rfl, s6, fun m hm => ?_⟩
        rw [take_more hi] at hm
        rcases List.mem_append.mp hm with z | z
        · exact hf m z
        · rw [List.mem_singleton.mp z]
          rintro ⟨a, b⟩
          rcases o with o | o
          · exact r1 o a
          · exact r2 o b
      refine ⟨x, l1, l2, (n, false), (n, true), _, _, rfl, (GG3.same t1).same t2, t2 _ _ upd_same, upd_same, mn, mn, fun H4 s4 nR => ?_, fun H4 p c s4 np hp hB => ?_⟩
      · have GG4 := ((GG3.same t1).same t2).same s4
        obtain ⟨dx, sd, sx, qa, bs, gx, _⟩ := GG4.ex
        refine ⟨_, rfl, x, dx, _, rfl, gx, rfl, _, rfl, sz2, fun l3 hl3 => ⟨_, rfl, sz2, fun l4 hl4 => ?_⟩⟩
        have t3 := same_upd (o := .tup [.str n, .bl true]) hl3
        have t4 := same_upd (o := .tup [.str n, .bl false]) hl4
        have sA := ((((s3.trans t1).trans t2).trans s4).trans t3).trans t4
        refine ⟨x, l3, l4, (n, true), (n, false), _, _, rfl, (GG4.same t3).same t4, t4 _ _ upd_same, upd_same, mn, mn, fun H5 s5 nR2 => ?_, fun H5 p2 c2 s5 np2 hp2 hB2 => ?_⟩
        · exact ⟨_, rfl, _, rfl, iteF (next .non .non H5 (sA.trans s5) (fun _ => nR) (fun _ => nR2) (.inl rfl))⟩
        · exact ⟨_, rfl, _, rfl, iteF (next .non (.ref p2) H5 (sA.trans s5) (fun _ => nR) (fun z => by cases z) (.inl rfl))⟩
      · have GG4 := ((GG3.same t1).same t2).same s4
        obtain ⟨dx, sd, sx, qa, bs, gx, _⟩ := GG4.ex
        refine ⟨_, rfl, x, dx, _, rfl, gx, rfl, _, rfl, sz2, fun l3 hl3 => ⟨_, rfl, sz2, fun l4 hl4 => ?_⟩⟩
        have t3 := same_upd (o := .tup [.str n, .bl true]) hl3
        have t4 := same_upd (o := .tup [.str n, .bl false]) hl4
        have sA := ((((s3.trans t1).trans t2).trans s4).trans t3).trans t4
        refine ⟨x, l3, l4, (n, true), (n, false), _, _, rfl, (GG4.same t3).same t4, t4 _ _ upd_same, upd_same, mn, mn, fun H5 s5 nR2 => ?_, fun H5 p2 c2 s5 np2 hp2 hB2 => ?_⟩
        · refine ⟨_, rfl, _, rfl, ifT (by simp) ⟨_, rfl, _, rfl, iteF ?_⟩⟩
          exact next (.ref p) .non H5 (sA.trans s5) (fun z => by cases z) (fun _ => nR2) (.inr rfl)
        · refine ⟨_, rfl, _, rfl, ifT (by simp) ⟨_, rfl, _, rfl, ifT (by simp) ⟨_, rfl, _, rfl, sz2, fun t ht => ?_⟩⟩⟩
          refine q1 _ t (same_put ((s1.trans s2).trans (sA.trans s5)) ((s1.trans s2).trans (sA.trans s5) |>.free ht)) fun fr => ?_
          exact fr n mn ⟨hB.1.reach, hB2.1.reach⟩
    · rintro σ H3 ⟨v2, v3, v4, rfl, s3, hf⟩
      rw [List.length_map, List.take_length] at hf
      exact q0 _ ((s1.trans s2).trans s3) hf
end
end Fk
/-! Conflicts, completions. -/
namespace Fk
open PySem PySem.Spec PyProof.Rows L2
open Fc (neg Edge IsDist Reach Best BestOf Towards IsPath)
section
variable {P : Program} {w : World} {K : PySem.W.Frag} {mg : Str → Option Value} {base : Heap}
/-- [(name, True) for name in ..], i of them made -/
def Sts (H : Hp) (D : Addr) (ns : List Str) : Prop := ∃ ss : List (Lt × Addr), ChB H D ss ∧ ss.map Prod.fst = ns.map fun n => ((n, true) : Lt)
theorem Sts.same {H H' : Hp} {D : Addr} {ns : List Str} (s : Same H H') (h : Sts H D ns) : Sts H' D ns := let ⟨ss, a, b⟩ := h; ⟨ss, a.same s, b⟩
theorem Sts.more {H H' : Hp} {D t : Addr} {ns : List Str} {n : Str} {ss : List (Lt × Addr)} (a : ChB H D ss) (b : ss.map Prod.fst = ns.map fun n => ((n, true) : Lt)) (s : Same H H') (ht : H' t = some (litT (n, true))) : Sts (upd H' D (.lst (ss.map (fun b => V.ref b.2) ++ [.ref t]))) D (ns ++ [n]) := by
  have hD := s _ _ a.at_
  refine ⟨ss ++ [((n, true), t)], ⟨by rw [upd_same, List.map_append]; rfl, fun c m => ?_⟩, by rw [List.map_append, List.map_append, b]; rfl⟩
  have f : H' c.2 = some (litT c.1) := by
    rcases List.mem_append.mp m with z | z
    · exact s _ _ (a.ky c z)
    · rw [List.mem_singleton.mp z]
      exact ht
  rw [upd_ne (fun z => by rw [z, hD] at f; cases f)]
  exact f
theorem Sts.mem {H : Hp} {D : Addr} {ns : List Str} {ss : List (Lt × Addr)} (b : ss.map Prod.fst = ns.map fun n => ((n, true) : Lt)) {s : Lt × Addr} (m : s ∈ ss) : ∃ n ∈ ns, s.1 = (n, true) := by
  have : s.1 ∈ ss.map Prod.fst := List.mem_map.mpr ⟨s, m, rfl⟩
  rw [b] at this
  obtain ⟨n, mn, e⟩ := List.mem_map.mp this
  exact ⟨n, mn, e.symm⟩
/-- the pairs of a conflict -/
def Cpair (gs : List Str) (s g : Lt) : Prop := ∃ a ∈ gs, ∃ b ∈ gs, s = (a, true) ∧ g = (b, false)
def spConf (P : Program) (w : World) (C : Addr) : Sp := fun vs H Q _ => ∃ (x gl : Addr) (gs ns : List Str) (cl : Fc.Cls Str), vs = [.ref x, .ref gl] ∧ GraphAt P w C H x ns cl ∧ H gl = some (.lst (gs.map V.str)) ∧ (∀ n ∈ gs, n ∈ ns) ∧ gs.length ≤ 20 ∧
  (∀ H', Same H H' → (∀ a ∈ gs, ∀ b ∈ gs, ¬ Reach cl (a, true) (b, false)) → Q .non H') ∧ ∀ H' p c, Same H H' → ChAt H' p c → BestOf llt cl (Cpair gs) c → Q (.ref p) H'
abbrev s_conflict_chain : Stmt := (top 41)
abbrev n_conflict_chain : List Str := ["graph", "given", "starts", "name", "chains", "candidates", "chain"]
theorem sc_conflict_chain : FnScope ["graph", "given", "starts", "name", "chains", "candidates", "chain"] ["graph", "given"] (defScope s_conflict_chain) := ⟨rfl, rfl, rfl, by decide +kernel, rfl, by decide +kernel, by decide +kernel⟩
-- slots: graph 0, given 1, starts 2, name 3, chains 4, candidates 5, chain 6
theorem ok_conflict_chain {f f1 C : Addr} {fd fd1 : FuncData} (F : FunM K mg "conflict_chain" s_conflict_chain f fd) (T : Txt K mg) (M_best_chain : Mt P w K mg base CX0 4 C "best_chain" f1 fd1 ["self", "starts", "goal"] (spBest P w C)) :
    Dn P w K mg base CX0 5 "conflict_chain" f fd ["graph", "given"] (spConf P w C) := by
  refine ⟨F.fn.ok sc_conflict_chain (fun vs H Q E h => ?_) (fun cdv A outer s H vs Q E hr h => ?_), F.mg, F.fn.kp, (F.fn.binds fun _ _ _ _ _ _ us hl => match us, hl with | [_, _], _ => rfl)⟩
  · obtain ⟨_, _, _, _, _, rfl, _⟩ := h
    rfl
  · obtain ⟨x, gl, gs, ns, cl, rfl, G, hg, gn, l20, q0, q1⟩ := h
    refine ⟨_, (pss_cons (ps_set (i := 2) sc_conflict_chain.nd rfl (by first | exact Or.inl rfl | exact Or.inr rfl) (pe_lc (own := [("name", 3)]) (by rfl) sc_conflict_chain.nd (pi_list (pv 1)) (blkOk_by (own := [("name", 3)]) (N := n_conflict_chain) (sc := defScope s_conflict_chain) (by decide +kernel)) (fun _ _ _ _ _ => (pg_name (i := 3) sc_conflict_chain.nd rfl (by first | exact Or.inl rfl | exact Or.inr rfl))) (fun _ _ _ _ _ => pts_nil) (fun _ _ _ _ _ => (pe_tup (pa_cons (pv 3) (pa_cons pe_bl pa_nil))))))
      (pss_cons (ps_setLc (i := 4) (own := [("name", 3)]) (by rfl) sc_conflict_chain.nd rfl rfl (sw_true rfl rfl rfl (by decide +kernel)) (pi_list (pv 1)) (blkOk_by (own := [("name", 3)]) (N := n_conflict_chain) (sc := defScope s_conflict_chain) (by decide +kernel)) (fun _ _ _ _ _ => (pg_name (i := 3) sc_conflict_chain.nd rfl (by first | exact Or.inl rfl | exact Or.inr rfl))) (fun _ _ _ _ _ => pts_nil) (fun _ _ _ _ _ => (pe_meth (pv 0) M_best_chain.cl M_best_chain.me M_best_chain.ok (hr.mono (by decide)) M_best_chain.bi .nil pass0 (pa_cons (pv 2) (pa_cons (pe_tup (pa_cons (pv 3) (pa_cons pe_bl pa_nil))) pa_nil)))))
      (pss_cons (ps_set (i := 5) sc_conflict_chain.nd rfl (by first | exact Or.inl rfl | exact Or.inr rfl) (pe_callB (cr_sortB (hu1_of hr)) (by rfl) T.b_sorted (by decide +kernel) (pa_cons (pe_lc (own := [("chain", 6)]) (by rfl) sc_conflict_chain.nd (pi_list (pv 4)) (blkOk_by (own := [("chain", 6)]) (N := n_conflict_chain) (sc := defScope s_conflict_chain) (by decide +kernel)) (fun _ _ _ _ _ => (pg_name (i := 6) sc_conflict_chain.nd rfl (by first | exact Or.inl rfl | exact Or.inr rfl))) (fun _ _ _ _ _ => pts_one (pt_cmp (pc_notN (pv 6)) (by rfl))) (fun _ _ _ _ _ => (pe_tup (pa_cons (pe_callB (show CallR _ (.builtin "len") (rLenS K) from call_len_seq) (by rfl) T.b_len (by decide +kernel) (pa_cons (pv 6) pa_nil)) (pa_cons (pv 6) pa_nil))))) pa_nil)))
      (pss_one (ps_ret (pe_ifExp (pt_cmpR (op_neD hr.units) (pv 5) (pe_lst pa_nil) (nomark _)) (pe_ix ix_tup (pe_ix ix_list (pv 5) pe_int (fun _ _ => rfl)) pe_int (fun _ _ => rfl)) pe_non)))))), ?_⟩
    refine ⟨_, rfl, gl, rfl, ⟨_, .of hg⟩, fun D1 hD1 => ?_⟩
    refine lc_list (K := K) (a := gl) (xs := gs.map V.str) (fun i H' => Same H H' ∧ Sts H' D1 (gs.take i)) ⟨same_upd hD1, [], ⟨upd_same, (fun _ h => nomatch h)⟩, rfl⟩ (fun i H' _ ⟨s1, _⟩ => .of (s1 _ _ hg)) ?_ ?_
    · rintro i y H' hy ⟨s1, ss, a, b⟩
      obtain ⟨n, hi, rfl⟩ := map_get hy
      have il := lt_of_get hi
      refine ⟨rfl, _, rfl, sz2, fun t ht => ?_⟩
      have s2 := same_upd (o := .tup [.str n, .bl true]) ht
      have sl : ss.length ≤ 20 := by
        have := congrArg List.length b
        simp at this
        omega
      refine ⟨_, s2 _ _ a.at_, sz _ (by simp; omega), same_put (s1.trans s2) hD1, ?_⟩
      rw [take_more hi]
      exact Sts.more a b s2 upd_same
    rintro H1 ⟨s1, hS⟩
    rw [List.length_map, List.take_length] at hS
    refine ⟨_, rfl, gl, rfl, ⟨_, .of (s1 _ _ hg)⟩, fun D hD => ?_⟩
    obtain ⟨ss, hs, es⟩ := hS
    have sl : ss.length ≤ 20 := by
      have := congrArg List.length es
      simp at this
      omega
    refine lc_list (K := K) (a := gl) (xs := gs.map V.str) (fun i H' => ∃ os : List (Option (Addr × List Lt)), Same H1 H' ∧ H' D = some (.lst (os.map oV)) ∧ os.length = i ∧
        Os H D H' (fun j => ∀ n, gs[j]? = some n → ∀ a ∈ gs, ¬ Reach cl (a, true) (n, false)) (fun j ch => ∀ n, gs[j]? = some n → BestOf llt cl (fun s g => s ∈ ss.map Prod.fst ∧ g = (n, false)) ch) os)
      ⟨[], same_upd hD, upd_same, rfl, (fun j o e => by simp at e)⟩ (fun i H' _ ⟨_, s2, _⟩ => .of (s2 _ _ (s1 _ _ hg))) ?_ ?_
    · rintro i y H' hy ⟨os, s2, h1, ho, hO⟩
      obtain ⟨n, hi, rfl⟩ := map_get hy
      have il := lt_of_get hi
      have mn := gn n (mem_of_get hi)
      have GG := G.same (s1.trans s2)
      obtain ⟨dx, sd, sx, qa, bs, gx, _⟩ := GG.ex
      refine ⟨rfl, _, rfl, x, dx, _, rfl, gx, rfl, _, rfl, _, rfl, sz2, fun t ht => ?_⟩
      have s3 := same_upd (o := .tup [.str n, .bl false]) ht
      refine ⟨x, D1, t, ss, (n, false), ns, cl, rfl, GG.same s3, (hs.same s2).same s3, fun s m => ?_, sl, upd_same, mn, fun H2 s4 nR => ?_, fun H2 p c s4 np hp hB => ?_⟩
      · obtain ⟨a, ma, e⟩ := Sts.mem (H := H) (D := D) es m
        rw [e]
        exact gn a ma
      · have s5 := s3.trans s4
        refine ⟨_, s5 _ _ h1, sz _ (by simp; omega), os ++ [none], same_put (s2.trans s5) hD, ?_, by simp [ho], ?_⟩
        · rw [upd_same, List.map_append]
          rfl
        · refine ((hO.same s5).upd (s5 _ _ h1)).snoc (.inl ⟨rfl, fun m e a ma => ?_⟩)
          rw [ho, hi] at e
          cases e
          have : ((a, true) : Lt) ∈ ss.map Prod.fst := by rw [es]; exact List.mem_map.mpr ⟨a, ma, rfl⟩
          obtain ⟨b, mb, e⟩ := List.mem_map.mp this
          rw [← e]
          exact nR b mb
      · have s5 := s3.trans s4
        have np' := s3.free np
        have pD : p ≠ D := fun z => by rw [z, h1] at np'; cases np'
        refine ⟨_, s5 _ _ h1, sz _ (by simp; omega), os ++ [some (p, c)], same_put (s2.trans s5) hD, ?_, by simp [ho], ?_⟩
        · rw [upd_same, List.map_append]
          rfl
        · exact ((hO.same s5).upd (s5 _ _ h1)).snoc (.inr ⟨p, c, rfl, ch_upd (s5 _ _ h1) pD hp, pD, (s1.trans s2).free np', fun m e => by rw [ho, hi] at e; cases e; exact hB⟩)
    · rintro H' ⟨os, s2, h1, ho, hO⟩
      rw [List.length_map] at ho
      have gs' : ∀ j, j < os.length → ∃ s, gs[j]? = some s ∧ s ∈ gs := fun j hj => ⟨_, List.getElem?_eq_getElem (by omega), List.getElem_mem (by omega)⟩
      have okS : ∀ s ∈ ss.map Prod.fst, ∃ a ∈ gs, s = (a, true) := fun s m => by
        rw [es] at m
        obtain ⟨a, ma, e⟩ := List.mem_map.mp m
        exact ⟨a, ma, e.symm⟩
      refine cand_ok (a := 4) (b := 5) (c := 6) os D rfl h1 ?_ (by omega) (by show 5 < 7; decide) (by show 6 < 7; decide) ?_ ?_
      · intro p ch m
        obtain ⟨j, hj, C1, _, hB⟩ := hO.mem m
        obtain ⟨n, e, mn⟩ := gs' j hj
        obtain ⟨⟨s, g, ⟨hs1, hg1⟩, hp⟩, _⟩ := hB n e
        obtain ⟨a, ma, rfl⟩ := okS s hs1
        exact ⟨C1, fun x hx => G.nok _ (path_over G.ov hp (gn a ma) x hx)⟩
      · intro H2 s3 hn
        refine q0 _ ((s1.trans s2).trans s3) fun a ma b mb => ?_
        obtain ⟨j, hj, e⟩ := List.getElem_of_mem mb
        have jo : j < os.length := by omega
        rcases hO j _ (List.getElem?_eq_getElem jo) with ⟨_, z⟩ | ⟨p', ch', z, _⟩
        · exact z b (by rw [← e]; exact List.getElem?_eq_getElem hj) a ma
        · have := hn _ (List.getElem_mem jo)
          rw [this] at z
          cases z
      · intro H2 p ch s3 m C2 hl
        refine q1 _ p ch ((s1.trans s2).trans s3) C2 (pick_os hO (fun j ch hj hB => ?_) (fun s g c' hR hp => ?_) m hl)
        · obtain ⟨n, e, mn⟩ := gs' j hj
          obtain ⟨⟨s, g, ⟨hs1, hg1⟩, hp⟩, _⟩ := hB n e
          obtain ⟨a, ma, rfl⟩ := okS s hs1
          exact ⟨_, _, ⟨a, ma, n, mn, rfl, hg1⟩, hp⟩
        · obtain ⟨a, ma, b, mb, rfl, rfl⟩ := hR
          obtain ⟨j, hj, e⟩ := List.getElem_of_mem mb
          have e' : gs[j]? = some b := by rw [← e]; exact List.getElem?_eq_getElem hj
          refine ⟨j, by omega, fun z => z b e' a ma hp.reach, fun ch hB => (hB b e').2 _ _ c' ⟨?_, rfl⟩ hp⟩
          rw [es]
          exact List.mem_map.mpr ⟨a, ma, rfl⟩
end
end Fk
/-! What may raise: check_satisfiable, Completion, verdicts. -/
namespace Fk
open PySem PySem.Spec PyProof.Rows L2
open Fc (neg Edge IsDist Reach Best BestOf Towards IsPath)
section
variable {P : Program} {w : World} {K : PySem.W.Frag} {mg : Str → Option Value} {base : Heap}
/-- the class of an own error without fields -/
structure ErrC (K : PySem.W.Frag) (mg : Str → Option Value) (x : Str) (C : Addr) : Prop where
  q : PySem.W.excIn K C [.type "ValueError", .type "Exception", .type "BaseException", .type "object"] "ValueError.__new__" = true
  g : mg x = some (.ref C)
  k : PySem.W.keepIn K (.ref C) = true
  s : PySem.W.subIn K (.ref C) (.type "BaseException") = some true
  t : PySem.W.typeIn K (.ref C) = some (.type "type")
abbrev s_check_satisfiable : Stmt := (top 39)
abbrev n_check_satisfiable : List Str := ["grammar"]
theorem sc_check_satisfiable : FnScope ["grammar"] ["grammar"] (defScope s_check_satisfiable) := ⟨rfl, rfl, rfl, by decide +kernel, rfl, by decide +kernel, by decide +kernel⟩
-- slots: grammar 0
def spSat (CU : Addr) : Sp := fun vs H Q E => ∃ (g : Addr) (es : List OE) (cs : List CE), vs = [.ref g] ∧ GrAt H g es cs ∧ (∀ H', Same H H' → Fc.Free (clsOf cs) (es.map (·.n)) → Q .non H') ∧ ∀ H', Same H H' → ¬ Fc.Free (clsOf cs) (es.map (·.n)) → E (.ref CU) none H'
theorem ok_check_satisfiable {f f1 CU : Addr} {fd fd1 : FuncData} (F : FunM K mg "check_satisfiable" s_check_satisfiable f fd) (TU : ErrC K mg "Unsatisfiable" CU) (D_find_contradiction : Dn P w K mg base CX0 5 "find_contradiction" f1 fd1 ["grammar"] spFind) :
    Dn P w K mg base (L2.CX P w) 6 "check_satisfiable" f fd ["grammar"] (spSat CU) := by
  refine ⟨F.fn.okX sc_check_satisfiable (fun vs H Q E h => ?_) (fun cdv A outer s H vs Q E hr h => ?_), F.mg, F.fn.kp, (F.fn.binds fun _ _ _ _ _ _ us hl => match us, hl with | [_], _ => rfl)⟩
  · obtain ⟨_, _, _, rfl, _⟩ := h
    rfl
  · obtain ⟨g, es, cs, rfl, G, q0, q1⟩ := h
    refine ⟨_, (pss_one (ps_if (pt_cmp (pc_notN (pe_call D_find_contradiction.ok (hr.mono (by decide)) rfl D_find_contradiction.mg D_find_contradiction.kp D_find_contradiction.bi .nil pass0 (pa_cons (pv 0) pa_nil))) (by rfl)) (pss_one (ps_raise rfl (takes_of rfl rfl rfl rfl) (pmk_own PySem.F.excBase_ValueError TU.q TU.g TU.k (raises_own TU.s TU.t) rfl))) pss_nil)), ?_⟩
    refine ⟨_, rfl, g, es, cs, rfl, G, fun H1 s1 fr => ⟨_, rfl, iteF (q0 H1 s1 fr)⟩, fun H1 p s1 fr => ⟨_, rfl, ifT (by simp) (q1 H1 s1 fr)⟩⟩
/-- Conflict -/
structure ConfC (K : PySem.W.Frag) (mg : Str → Option Value) (CB C fI : Addr) : Prop where
  gB : mg "FlagclauseError" = some (.ref CB)
  bI : BaseI K CB
  o : OexC K C
  nc : PySem.W.findIn K (.ref C) "chain" = some none
  ini : PySem.W.findIn K (.ref C) "__init__" = some (some (.ref fI))
  ti : PySem.W.typeIn K (.ref fI) = some (.type "function")
  g : mg "Conflict" = some (.ref C)
abbrev s_Conflict_init : Stmt := (inClass (top 8) 0)
abbrev n_Conflict_init : List Str := ["self", "chain"]
theorem sc_Conflict_init : FnScope ["self", "chain"] ["self", "chain"] (defScope s_Conflict_init) := ⟨rfl, rfl, rfl, by decide +kernel, rfl, by decide +kernel, by decide +kernel⟩
-- slots: self 0, chain 1
def spCI (C : Addr) : Sp := fun vs H Q _ => ∃ (a : Addr) (v : V), vs = [.ref a, v] ∧ H a = some (exo a C none) ∧ ∀ dx, H dx = none → dx ≠ a → Q .non (upd (upd H dx (exd dx [("chain", v)])) a (exo a C (some dx)))
theorem ok_conf_init {f CB C : Addr} {fd : FuncData} (F : Fun K "__init__" "Conflict.__init__" s_Conflict_init f fd) (TC : ConfC K mg CB C f) : FnOk P w K mg base CX0 1 f fd ["self", "chain"] (spCI C) := by
  refine F.ok sc_Conflict_init (fun vs H Q E h => ?_) (fun cdv A outer s H vs Q E hr h => ?_)
  · obtain ⟨_, _, rfl, _⟩ := h
    rfl
  · obtain ⟨a, v, rfl, ha, q⟩ := h
    refine ⟨_, (pss_cons (ps_expr (pe_baseinit rfl TC.gB TC.bI (pa_cons (pv 0) (pa_cons pe_str pa_nil))))
      (pss_one (ps_ost (pv 0) (pv 1)))), ?_⟩
    exact ⟨_, rfl, a, C, _, rfl, by simp, TC.o, ha, _, rfl, _, rfl, a, C, rfl, TC.o, TC.nc, .inl ⟨ha, fun dx h1 h2 => q dx h1 h2⟩⟩
/-- the class of completions -/
structure ClsC (K : PySem.W.Frag) (mg : Str → Option Value) (C : Addr) : Prop where
  cl : L2.Cls K C
  nG : NoAttr K C "graph"
  nV : NoAttr K C "given"
  mgC : mg "Completion" = some (.ref C)
abbrev cF (u v : V) : List (Str × V) := [("graph", u), ("given", v)]
/-- a completion's object -/
def CompAt (P : Program) (w : World) (CG C : Addr) (H : Hp) (c : Addr) (gs ns : List Str) (cl : Fc.Cls Str) : Prop := ∃ dx x gl, H c = some (.ins C dx (cF (.ref x) (.ref gl))) ∧ GraphAt P w CG H x ns cl ∧ H gl = some (.lst (gs.map V.str))
theorem CompAt.same {CG C : Addr} {H H' : Hp} {c : Addr} {gs ns : List Str} {cl : Fc.Cls Str} (s : Same H H') (h : CompAt P w CG C H c gs ns cl) : CompAt P w CG C H' c gs ns cl := let ⟨dx, x, gl, a, b, d⟩ := h; ⟨dx, x, gl, s _ _ a, b.same s, s _ _ d⟩
abbrev s_Completion_init : Stmt := (inClass (top 42) 0)
abbrev n_Completion_init : List Str := ["self", "grammar", "given", "chain"]
theorem sc_Completion_init : FnScope ["self", "grammar", "given", "chain"] ["self", "grammar", "given"] (defScope s_Completion_init) := ⟨rfl, rfl, rfl, by decide +kernel, rfl, by decide +kernel, by decide +kernel⟩
-- slots: self 0, grammar 1, given 2, chain 3
def noConf (cl : Fc.Cls Str) (gs : List Str) : Prop := ∀ a ∈ gs, ∀ b ∈ gs, ¬ Reach cl (a, true) (b, false)
/-- how a conflict leaves: its error at CF, the chain as a tuple in its dict -/
def ConfE (CF : Addr) (gs : List Str) (cl : Fc.Cls Str) (H : Hp) (E : XK) : Prop := ∀ (d t : Addr) (bs : List (Lt × Addr)) (H' : Hp), Same H H' → H d = none → H' d = some (.xd [("chain", .ref t)]) → H' t = some (.tup (bs.map fun b => V.ref b.2)) → (∀ b ∈ bs, H' b.2 = some (litT b.1)) → BestOf llt cl (Cpair gs) (bs.map Prod.fst) → E (.ref CF) (some d) H'
def spCompI (P : Program) (w : World) (K : PySem.W.Frag) (CG C CF : Addr) : Sp := fun vs H Q E => ∃ (c dx g a : Addr) (es : List OE) (cs : List CE) (ns : List Str), vs = [.ref c, .ref g, .ref a] ∧ H c = some (.ins C dx []) ∧ GrAt H g es cs ∧ SqB K H a (ns.map V.str) ∧ ns.length ≤ 20 ∧ (∀ n ∈ ns, n ∈ es.map (·.n)) ∧
  (∀ H' gs, SameX c H H' → (∀ n, n ∈ gs ↔ n ∈ ns) → gs.Nodup → gs.length ≤ 20 → noConf (clsOf cs) gs → CompAt P w CG C H' c gs (es.map (·.n)) (clsOf cs) → Q .non H') ∧
  ∀ (gs : List Str) (d t : Addr) (bs : List (Lt × Addr)) (H' : Hp), (∀ n, n ∈ gs ↔ n ∈ ns) → SameX c H H' → H d = none → H' d = some (.xd [("chain", .ref t)]) → H' t = some (.tup (bs.map fun b => V.ref b.2)) → (∀ b ∈ bs, H' b.2 = some (litT b.1)) → BestOf llt (clsOf cs) (Cpair gs) (bs.map Prod.fst) → E (.ref CF) (some d) H'
theorem SqB.sameX {c C dx a : Addr} {fs : List (Str × V)} {H H' : Hp} {xs : List V} (s : SameX c H H') (hc : H c = some (.ins C dx fs)) (h : SqB K H a xs) : SqB K H' a xs := by
  rcases h with h | h
  · refine .inl ?_
    rcases h with h | h
    · rcases h with h | ⟨o, h⟩
      · exact .inl (.inl (s _ _ (fun z => by rw [z, hc] at h; cases h) h))
      · exact .inl (.inr ⟨o, s _ _ (fun z => by rw [z, hc] at h; cases h) h⟩)
    · exact .inr h
  · refine .inr ?_
    rcases h with h | h
    · rcases h with h | ⟨o, h⟩
      · exact .inl (.inl (s _ _ (fun z => by rw [z, hc] at h; cases h) h))
      · exact .inl (.inr ⟨o, s _ _ (fun z => by rw [z, hc] at h; cases h) h⟩)
    · exact .inr h
theorem GraphAt.sameX {CG c C dx : Addr} {fs : List (Str × V)} {H H' : Hp} {x : Addr} {ns : List Str} {cl : Fc.Cls Str} (s : SameX c H H') (hc : H c = some (.ins C dx fs)) (ne : x ≠ c) (G : GraphAt P w CG H x ns cl) : GraphAt P w CG H' x ns cl where
  ex := by
    obtain ⟨dx, d, xs, qa, bs, h1, h2, h3, h4⟩ := G.ex
    have t : ∀ b ys, H b = some (HO.tup ys) → H' b = some (.tup ys) := fun b ys h => s _ _ (fun z => by rw [z, hc] at h; cases h) h
    exact ⟨dx, d, xs, qa, bs, s _ _ ne h1, s _ _ (fun z => by rw [z, hc] at h2; cases h2) h2, h3.keep t, fun l hl => ⟨(h4 l hl).1, s _ _ (fun z => by have := (h4 l hl).2.at_; rw [z, hc] at this; cases this) (h4 l hl).2.at_, fun b m => t _ _ ((h4 l hl).2.ky b m), (h4 l hl).2.mem, (h4 l hl).2.ord, (h4 l hl).2.sz⟩⟩
  ov := G.ov
  nz := G.nz
  nok := G.nok
theorem putF_gv (u v : V) : putF "given" v ([("graph", u)] : List (Str × V)) = cF u v := by
  show (if ("graph" : Str) = "given" then (("graph" : Str), v) :: [] else (("graph" : Str), u) :: putF "given" v []) = cF u v
  rw [if_neg (by decide)]
  rfl
theorem look_g (u v : V) : (cF u v).lookup ("graph" : Str) = some u := by rfl
theorem look_v (u v : V) : (cF u v).lookup ("given" : Str) = some v := by rfl
theorem nodup_len {l m : List Str} (h : l.Nodup) (e : ∀ x, x ∈ l ↔ x ∈ m) : l.length ≤ m.length := Fc.nodup_le h fun x hx => (e x).mp hx
theorem ok_comp_init {f f1 f2 fF CG C CB CF : Addr} {fd fd1 fd2 fdF : FuncData} (F : Fun K "__init__" "Completion.__init__" s_Completion_init f fd) (T : Txt K mg) (TM : ClsC K mg C) (TC : ConfC K mg CB CF fF) (GF : FnOk P w K mg base CX0 1 fF fdF ["self", "chain"] (spCI CF)) (bF : Binds K fdF ["self", "chain"] [])
    (D_graph_of : Dn P w K mg base CX0 4 "graph_of" f1 fd1 ["grammar"] (spGraph P w CG)) (D_conflict_chain : Dn P w K mg base CX0 5 "conflict_chain" f2 fd2 ["graph", "given"] (spConf P w CG)) : FnOk P w K mg base (L2.CX P w) 6 f fd ["self", "grammar", "given"] (spCompI P w K CG C CF) := by
  refine F.okX sc_Completion_init (fun vs H Q E h => ?_) (fun cdv A outer s H vs Q E hr h => ?_)
  · obtain ⟨_, _, _, _, _, _, _, rfl, _⟩ := h
    rfl
  · obtain ⟨c, dx, g, a, es, cs, ns, rfl, hc, G, hq, l20, hn, q0, q1⟩ := h
    refine ⟨_, (pss_cons (ps_fld (pv 0) (pe_call D_graph_of.ok (hr.mono (by decide)) rfl D_graph_of.mg D_graph_of.kp D_graph_of.bi .nil pass0 (pa_cons (pv 1) pa_nil)) rfl)
      (pss_cons (ps_fld (pv 0) (pe_callB (cr_sortSet rfl (hu1_of hr)) (by rfl) T.b_sorted (by decide +kernel) (pa_cons (pe_callTy (cr_setOf rfl) (by rfl) T.b_set (by decide +kernel) (pa_cons (pv 2) pa_nil)) pa_nil)) rfl)
      (pss_cons (ps_set (i := 3) sc_Completion_init.nd rfl (by first | exact Or.inl rfl | exact Or.inr rfl) (pe_call D_conflict_chain.ok (hr.mono (by decide)) rfl D_conflict_chain.mg D_conflict_chain.kp D_conflict_chain.bi .nil pass0 (pa_cons (pe_fld (pv 0) rfl) (pa_cons (pe_fld (pv 0) rfl) pa_nil))))
      (pss_one (ps_if (pt_cmp (pc_notN (pv 3)) (by rfl)) (pss_one (ps_raise rfl (takes_of rfl rfl rfl rfl) (pmk_oex TC.o TC.ini TC.ti GF (hr.mono (by decide)) bF .nil pass0 rfl TC.g (pa_cons (pe_callTy call_tuple_of (by rfl) T.b_tuple (by decide +kernel) (pa_cons (pv 3) pa_nil)) pa_nil)))) pss_nil))))), ?_⟩
    -- self.graph
    refine ⟨_, rfl, g, es, cs, rfl, G, fun H1 x s1 hx GG => ⟨_, rfl, c, C, dx, [], rfl, s1 _ _ hc, TM.cl, TM.nG, by decide, ?_⟩⟩
    have nx : x ≠ c := fun z => by rw [z, hc] at hx; cases hx
    have hc2 : (upd H1 c (.ins C dx [("graph", .ref x)])) c = some (.ins C dx [("graph", .ref x)]) := upd_same
    have x2 : SameX c H1 (upd H1 c (.ins C dx [("graph", .ref x)])) := fun b o z e => (upd_ne z).trans e
    have hq2 := (hq.same s1).sameX x2 (s1 _ _ hc)
    have GG2 := GG.sameX x2 (s1 _ _ hc) nx
    refine ⟨_, rfl, a, ns, rfl, hq2, by omega, fun u n hu hn2 => ⟨u, ns, n, rfl, upd_same, fun ys l nd mem hl => ⟨_, rfl, c, C, dx, _, rfl, same_upd hl _ _ (same_upd hu _ _ hc2), TM.cl, TM.nV, (by show 1 < 1000; decide), ?_⟩⟩⟩
    have s3 : Same (upd H1 c (.ins C dx [("graph", .ref x)])) (upd (upd (upd H1 c (.ins C dx [("graph", .ref x)])) u (setO w u ns n)) l (.lst (ys.map V.str))) := (same_upd hu).trans (same_upd hl)
    have hc3 := s3 _ _ hc2
    have lc : l ≠ c := Ne.symm (ne_of_none (same_upd hu _ _ hc2) hl)
    rw [putF_gv]
    have x4 : SameX c (upd (upd (upd H1 c (.ins C dx [("graph", .ref x)])) u (setO w u ns n)) l (.lst (ys.map V.str))) (upd (upd (upd (upd H1 c (.ins C dx [("graph", .ref x)])) u (setO w u ns n)) l (.lst (ys.map V.str))) c (.ins C dx (cF (.ref x) (.ref l)))) := fun b o z e => (upd_ne z).trans e
    have GG4 := (GG2.same s3).sameX x4 hc3 nx
    have hl4 : (upd (upd (upd (upd H1 c (.ins C dx [("graph", .ref x)])) u (setO w u ns n)) l (.lst (ys.map V.str))) c (.ins C dx (cF (.ref x) (.ref l)))) l = some (.lst (ys.map V.str)) := x4 _ _ lc upd_same
    have hc4 : (upd (upd (upd (upd H1 c (.ins C dx [("graph", .ref x)])) u (setO w u ns n)) l (.lst (ys.map V.str))) c (.ins C dx (cF (.ref x) (.ref l)))) c = some (.ins C dx (cF (.ref x) (.ref l))) := upd_same
    have xH : SameX c H (upd (upd (upd (upd H1 c (.ins C dx [("graph", .ref x)])) u (setO w u ns n)) l (.lst (ys.map V.str))) c (.ins C dx (cF (.ref x) (.ref l)))) := fun b o z e => x4 _ _ z (s3 _ _ (x2 _ _ z (s1 _ _ e)))
    have yl : ys.length ≤ 20 := Nat.le_trans (nodup_len nd mem) l20
    refine ⟨_, rfl, c, C, dx, _, _, rfl, hc4, TM.cl, TM.nG, look_g _ _, _, rfl, c, C, dx, _, _, rfl, hc4, TM.cl, TM.nV, look_v _ _, ?_⟩
    refine ⟨x, l, ys, es.map (fun e : OE => e.n), clsOf cs, rfl, GG4, hl4, fun n m => hn n ((mem n).mp m), yl, fun H5 s5 no => ?_, fun H5 p ch s5 hch hB => ?_⟩
    · refine ⟨_, rfl, _, rfl, iteF ?_⟩
      exact q0 H5 ys (fun b o z e => s5 _ _ (xH _ _ z e)) mem nd yl no ⟨dx, x, l, s5 _ _ hc4, GG4.same s5, s5 _ _ hl4⟩
    · refine ⟨_, rfl, _, rfl, ifT (by simp) ?_⟩
      obtain ⟨bs, hb, rfl⟩ := hch
      refine ⟨_, rfl, p, _, rfl, .inl ⟨.of hb.at_, fun t ht => ⟨by simp, fun e he => ⟨e, .ref t, rfl, upd_same, fun d hd hde => ⟨rfl, d, _, upd_same, (upd_ne hde).trans upd_same, ?_, ?_⟩⟩⟩⟩⟩
      · rw [upd_ne hde] at hd
        exact hd
      · rw [upd_ne hde] at hd
        have s6 := same_upd (o := .tup (bs.map fun b => V.ref b.2)) ht
        have up : ∀ b o, (upd H5 t (.tup (bs.map fun b => V.ref b.2))) b = some o → (upd (del (upd (upd (upd (upd H5 t (.tup (bs.map fun b => V.ref b.2))) e (exo e CF none)) d (exd d [("chain", V.ref t)])) e (exo e CF (some d))) e) d (.xd [("chain", V.ref t)])) b = some o := fun b o h => by
          have n1 : b ≠ e := ne_of_none h he
          have n2 : b ≠ d := ne_of_none h hd
          rw [upd_ne n2, del_ne n1, upd_ne n1, upd_ne n2, upd_ne n1]
          exact h
        have keep : ∀ b o, b ≠ c → H b = some o → (upd H5 t (.tup (bs.map fun b => V.ref b.2))) b = some o := fun b o z h => s6 _ _ (s5 _ _ (xH _ _ z h))
        refine q1 ys d t bs _ mem (fun b o z h => up _ _ (keep _ _ z h)) ?_ upd_same (up _ _ upd_same) (fun b m => up _ _ (s6 _ _ (hb.ky b m))) hB
        by_cases z : d = c
        · rw [z, s6 _ _ (s5 _ _ hc4)] at hd
          cases hd
        · cases h : H d with
          | none => rfl
          | some o =>
            rw [keep _ _ z h] at hd
            cases hd
end
end Fk
/-! Verdicts. -/
namespace Fk
open PySem PySem.Spec PyProof.Rows L2
open Fc (neg Edge IsDist Reach Best BestOf Towards IsPath)
section
variable {P : Program} {w : World} {K : PySem.W.Frag} {mg : Str → Option Value} {base : Heap}
def Forced (cl : Fc.Cls Str) (gs : List Str) (l : Lt) : Prop := (∃ a ∈ gs, Reach cl (a, true) l) ∨ Reach cl (neg l) l
def spFor (P : Program) (w : World) (CG C : Addr) : Sp := fun vs H Q _ => ∃ (c la : Addr) (l : Lt) (gs ns : List Str) (cl : Fc.Cls Str), vs = [.ref c, .ref la] ∧ CompAt P w CG C H c gs ns cl ∧ H la = some (litT l) ∧ l.1 ∈ ns ∧ (∀ n ∈ gs, n ∈ ns) ∧ gs.length ≤ 19 ∧
  (∀ H', Same H H' → ¬ Forced cl gs l → Q .non H') ∧ ∀ H' p, Same H H' → Forced cl gs l → Q (.ref p) H'
abbrev s_Completion_chain_for : Stmt := (inClass (top 42) 1)
abbrev n_Completion_chain_for : List Str := ["self", "literal", "starts", "name"]
theorem sc_Completion_chain_for : FnScope ["self", "literal", "starts", "name"] ["self", "literal"] (defScope s_Completion_chain_for) := ⟨rfl, rfl, rfl, by decide +kernel, rfl, by decide +kernel, by decide +kernel⟩
-- slots: self 0, literal 1, starts 2, name 3
theorem ok_chain_for {f f1 f2 CG C : Addr} {fd fd1 fd2 : FuncData} (F : Fun K "chain_for" "Completion.chain_for" s_Completion_chain_for f fd) (TM : ClsC K mg C) (D_negate : Dn P w K mg base CX0 1 "negate" f1 fd1 ["literal"] spNeg)
    (M_best_chain : Mt P w K mg base CX0 4 CG "best_chain" f2 fd2 ["self", "starts", "goal"] (spBest P w CG)) : FnOk P w K mg base CX0 5 f fd ["self", "literal"] (spFor P w CG C) := by
  refine F.ok sc_Completion_chain_for (fun vs H Q E h => ?_) (fun cdv A outer s H vs Q E hr h => ?_)
  · obtain ⟨_, _, _, _, _, _, rfl, _⟩ := h
    rfl
  · obtain ⟨c, la, l, gs, ns, cl, rfl, hC, hl, ln, gn, l19, q0, q1⟩ := h
    obtain ⟨dx, x, gl, hc, G, hg⟩ := hC
    refine ⟨_, (pss_cons (ps_set (i := 2) sc_Completion_chain_for.nd rfl (by first | exact Or.inl rfl | exact Or.inr rfl) (pe_op op_cat (pe_lc (own := [("name", 3)]) (by rfl) sc_Completion_chain_for.nd (pi_list (pe_fld (pv 0) rfl)) (blkOk_by (own := [("name", 3)]) (N := n_Completion_chain_for) (sc := defScope s_Completion_chain_for) (by decide +kernel)) (fun _ _ _ _ _ => (pg_name (i := 3) sc_Completion_chain_for.nd rfl (by first | exact Or.inl rfl | exact Or.inr rfl))) (fun _ _ _ _ _ => pts_nil) (fun _ _ _ _ _ => (pe_tup (pa_cons (pv 3) (pa_cons pe_bl pa_nil))))) (pe_lst (pa_cons (pe_call D_negate.ok (hr.mono (by decide)) rfl D_negate.mg D_negate.kp D_negate.bi .nil pass0 (pa_cons (pv 1) pa_nil)) pa_nil))))
      (pss_one (ps_ret (pe_meth (pe_fld (pv 0) rfl) M_best_chain.cl M_best_chain.me M_best_chain.ok (hr.mono (by decide)) M_best_chain.bi .nil pass0 (pa_cons (pv 2) (pa_cons (pv 1) pa_nil)))))), ?_⟩
    refine ⟨_, rfl, c, C, dx, _, _, rfl, hc, TM.cl, TM.nV, look_v _ _, gl, rfl, ⟨_, .of hg⟩, fun D1 hD1 => ?_⟩
    refine lc_list (K := K) (a := gl) (xs := gs.map V.str) (fun i H' => Same H H' ∧ Sts H' D1 (gs.take i)) ⟨same_upd hD1, [], ⟨upd_same, (fun _ h => nomatch h)⟩, rfl⟩ (fun i H' _ ⟨s1, _⟩ => .of (s1 _ _ hg)) ?_ ?_
    · rintro i y H' hy ⟨s1, ss, a, b⟩
      obtain ⟨n, hi, rfl⟩ := map_get hy
      have il := lt_of_get hi
      refine ⟨rfl, _, rfl, sz2, fun t ht => ?_⟩
      have s2 := same_upd (o := .tup [.str n, .bl true]) ht
      have sl : ss.length ≤ 20 := by
        have := congrArg List.length b
        simp at this
        omega
      refine ⟨_, s2 _ _ a.at_, sz _ (by simp; omega), same_put (s1.trans s2) hD1, ?_⟩
      rw [take_more hi]
      exact Sts.more a b s2 upd_same
    rintro H1 ⟨s1, hS⟩
    rw [List.length_map, List.take_length] at hS
    obtain ⟨ss, hs, es⟩ := hS
    have sl : ss.length = gs.length := by
      have := congrArg List.length es
      simpa using this
    refine ⟨_, rfl, la, l, rfl, s1 _ _ hl, fun nb H2 m2 s2 h2 => ⟨sz1, fun p2 hp2 => ?_⟩⟩
    have t2 := same_upd (o := .lst [.ref nb]) hp2
    refine ⟨D1, p2, _, _, rfl, rfl, t2 _ _ (s2 _ _ hs.at_), upd_same, szl (by simp; omega), fun p3 hp3 => ?_⟩
    have t3 := same_upd (o := .lst ((ss.map fun b => V.ref b.2) ++ [.ref nb])) hp3
    have s4 := (s2.trans t2).trans t3
    have s5 := s1.trans s4
    obtain ⟨dx', sd, sx, qa, bs, gx, _⟩ := (G.same s5).ex
    have cb : ChB (upd (upd H2 p2 (.lst [.ref nb])) p3 (.lst ((ss.map fun b => V.ref b.2) ++ [.ref nb]))) p3 (ss ++ [(neg l, nb)]) := by
      refine ⟨by rw [upd_same, List.map_append]; rfl, fun b m => ?_⟩
      rcases List.mem_append.mp m with z | z
      · exact s4 _ _ (hs.ky b z)
      · rw [List.mem_singleton.mp z]
        exact t3 _ _ (t2 _ _ h2)
    have mem : ∀ s, s ∈ (ss ++ [(neg l, nb)]).map Prod.fst ↔ (∃ a ∈ gs, s = ((a, true) : Lt)) ∨ s = neg l := fun s => by
      rw [List.map_append, es, List.mem_append, List.mem_map]
      constructor
      · rintro (⟨a, ma, e⟩ | z)
        · exact .inl ⟨a, ma, e.symm⟩
        · exact .inr (List.mem_singleton.mp z)
      · rintro (⟨a, ma, e⟩ | z)
        · exact .inl ⟨a, ma, e.symm⟩
        · exact .inr (List.mem_singleton.mpr z)
    refine ⟨_, rfl, c, C, dx, _, _, rfl, s5 _ _ hc, TM.cl, TM.nG, look_g _ _, x, dx', _, rfl, gx, rfl, _, rfl, _, rfl, ?_⟩
    refine ⟨x, p3, la, ss ++ [(neg l, nb)], l, ns, cl, rfl, G.same s5, cb, fun s m => ?_, by simp; omega, s5 _ _ hl, ln, fun H5 s6 nR => ?_, fun H5 p ch s6 np hch hB => ?_⟩
    · rcases (mem s.1).mp (List.mem_map.mpr ⟨s, m, rfl⟩) with ⟨a, ma, e⟩ | z
      · rw [e]
        exact gn a ma
      · rw [z]
        exact ln
    · refine q0 _ (s5.trans s6) ?_
      have nR' : ∀ s, s ∈ (ss ++ [(neg l, nb)]).map Prod.fst → ¬ Reach cl s l := fun s m => by
        obtain ⟨b, mb, rfl⟩ := List.mem_map.mp m
        exact nR b mb
      rintro (⟨a, ma, r⟩ | r)
      · exact nR' _ ((mem _).mpr (.inl ⟨a, ma, rfl⟩)) r
      · exact nR' _ ((mem _).mpr (.inr rfl)) r
    · refine q1 _ p (s5.trans s6) ?_
      obtain ⟨⟨s, g, ⟨ms, rfl⟩, hp⟩, _⟩ := hB
      rcases (mem s).mp ms with ⟨a, ma, e⟩ | z
      · exact .inl ⟨a, ma, by rw [← e]; exact hp.reach⟩
      · exact .inr (by rw [← z]; exact hp.reach)
/-- the word for a name -/
def VW (cl : Fc.Cls Str) (gs : List Str) (n : Str) (wd : Str) : Prop :=
  (n ∈ gs ∧ wd = "given") ∨ (n ∉ gs ∧ Forced cl gs (n, true) ∧ wd = "required") ∨ (n ∉ gs ∧ ¬ Forced cl gs (n, true) ∧ Forced cl gs (n, false) ∧ wd = "impossible") ∨ (n ∉ gs ∧ ¬ Forced cl gs (n, true) ∧ ¬ Forced cl gs (n, false) ∧ wd = "possible")
def spVer (P : Program) (w : World) (CG C : Addr) : Sp := fun vs H Q _ => ∃ (c : Addr) (n : Str) (gs ns : List Str) (cl : Fc.Cls Str), vs = [.ref c, .str n] ∧ CompAt P w CG C H c gs ns cl ∧ n ∈ ns ∧ (∀ n ∈ gs, n ∈ ns) ∧ gs.length ≤ 19 ∧ ∀ H' wd, Same H H' → VW cl gs n wd → Q (.str wd) H'
abbrev s_Completion_verdict : Stmt := (inClass (top 42) 2)
abbrev n_Completion_verdict : List Str := ["self", "name"]
theorem sc_Completion_verdict : FnScope ["self", "name"] ["self", "name"] (defScope s_Completion_verdict) := ⟨rfl, rfl, rfl, by decide +kernel, rfl, by decide +kernel, by decide +kernel⟩
-- slots: self 0, name 1
theorem ok_verdict {f f1 CG C : Addr} {fd fd1 : FuncData} (F : Fun K "verdict" "Completion.verdict" s_Completion_verdict f fd) (TM : ClsC K mg C) (M_chain_for : Mt P w K mg base CX0 5 C "chain_for" f1 fd1 ["self", "literal"] (spFor P w CG C)) : FnOk P w K mg base CX0 6 f fd ["self", "name"] (spVer P w CG C) := by
  refine F.ok sc_Completion_verdict (fun vs H Q E h => ?_) (fun cdv A outer s H vs Q E hr h => ?_)
  · obtain ⟨_, _, _, _, _, rfl, _⟩ := h
    rfl
  · obtain ⟨c, n, gs, ns, cl, rfl, hC, hn, gn, l19, q⟩ := h
    obtain ⟨dx, x, gl, hc, G, hg⟩ := id hC
    refine ⟨_, (pss_cons (ps_if (pt_cmpR op_in_seq (pv 1) (pe_fld (pv 0) rfl) (by rfl)) (pss_one (ps_ret pe_str)) pss_nil)
      (pss_cons (ps_if (pt_cmp (pc_notN (pe_meth (pv 0) M_chain_for.cl M_chain_for.me M_chain_for.ok (hr.mono (by decide)) M_chain_for.bi .nil pass0 (pa_cons (pe_tup (pa_cons (pv 1) (pa_cons pe_bl pa_nil))) pa_nil))) (by rfl)) (pss_one (ps_ret pe_str)) pss_nil)
      (pss_one (ps_ret (pe_ifExp (pt_cmp (pc_notN (pe_meth (pv 0) M_chain_for.cl M_chain_for.me M_chain_for.ok (hr.mono (by decide)) M_chain_for.bi .nil pass0 (pa_cons (pe_tup (pa_cons (pv 1) (pa_cons pe_bl pa_nil))) pa_nil))) (by rfl)) pe_str pe_str))))), ?_⟩
    refine ⟨_, rfl, _, rfl, c, C, dx, _, _, rfl, hc, TM.cl, TM.nV, look_v _ _, gl, _, rfl, .inl (.of hg), rfl, flat_strs _, _, rfl, ?_⟩
    show if inV (V.str n) (gs.map V.str) = true then _ else _
    rw [inV_str]
    by_cases m : n ∈ gs
    · exact ifT (decide_eq_true m) (q H _ (Same.refl _) (.inl ⟨m, rfl⟩))
    refine ifF (decide_eq_false m) ?_
    refine ⟨_, rfl, c, dx, _, rfl, hc, rfl, _, rfl, sz2, fun t ht => ?_⟩
    have s1 := same_upd (o := .tup [.str n, .bl true]) ht
    refine ⟨c, t, (n, true), gs, ns, cl, rfl, hC.same s1, upd_same, hn, gn, l19, fun H2 s2 nF => ⟨_, rfl, iteF ?_⟩, fun H2 p s2 hF => ⟨_, rfl, ifT (by simp) (q _ _ (s1.trans s2) (.inr (.inl ⟨m, hF, rfl⟩)))⟩⟩
    have s3 := s1.trans s2
    refine ⟨_, rfl, c, dx, _, rfl, s3 _ _ hc, rfl, _, rfl, sz2, fun t2 ht2 => ?_⟩
    have s4 := same_upd (o := .tup [.str n, .bl false]) ht2
    refine ⟨c, t2, (n, false), gs, ns, cl, rfl, (hC.same s3).same s4, upd_same, hn, gn, l19, fun H3 s5 nF2 => ⟨_, rfl, iteF (q _ _ ((s3.trans s4).trans s5) (.inr (.inr (.inr ⟨m, nF, nF2, rfl⟩))))⟩, fun H3 p s5 hF2 => ⟨_, rfl, ifT (by simp) (q _ _ ((s3.trans s4).trans s5) (.inr (.inr (.inl ⟨m, nF, hF2, rfl⟩))))⟩⟩
end
end Fk
/-! verdicts. -/
namespace Fk
open PySem PySem.Spec PyProof.Rows L2
open Fc (neg Edge IsDist Reach Best BestOf Towards IsPath)
section
variable {P : Program} {w : World} {K : PySem.W.Frag} {mg : Str → Option Value} {base : Heap}
/-- what verdicts and completion_of are given -/
structure Given (K : PySem.W.Frag) (H : Hp) (g a : Addr) (es : List OE) (cs : List CE) (ns : List Str) : Prop where
  G : GrAt H g es cs
  q : SqB K H a (ns.map V.str)
  n : ∀ n ∈ ns, n ∈ es.map (·.n)
  z : ns.length ≤ 19
theorem Given.same {H H' : Hp} {g a : Addr} {es : List OE} {cs : List CE} {ns : List Str} (s : Same H H') (G : Given K H g a es cs ns) : Given K H' g a es cs ns := ⟨G.G.same s, G.q.same s, G.n, G.z⟩
/-- the ways of an error -/
def ErrE (CU CF : Addr) (H : Hp) (es : List OE) (cs : List CE) (ns : List Str) (E : XK) : Prop :=
  (¬ Fc.Free (clsOf cs) (es.map (·.n)) → ∀ H', Same H H' → E (.ref CU) none H') ∧
  (Fc.Free (clsOf cs) (es.map (·.n)) → ∀ (gs : List Str) (d t : Addr) (bs : List (Lt × Addr)) (H' : Hp), (∀ n, n ∈ gs ↔ n ∈ ns) → Same H H' → H d = none → H' d = some (.xd [("chain", .ref t)]) → H' t = some (.tup (bs.map fun b => V.ref b.2)) → (∀ b ∈ bs, H' b.2 = some (litT b.1)) → BestOf llt (clsOf cs) (Cpair gs) (bs.map Prod.fst) → E (.ref CF) (some d) H')
def spCof (P : Program) (w : World) (K : PySem.W.Frag) (CG C CU CF : Addr) : Sp := fun vs H Q E => ∃ (g a : Addr) (es : List OE) (cs : List CE) (ns : List Str), vs = [.ref g, .ref a] ∧ Given K H g a es cs ns ∧ ErrE CU CF H es cs ns E ∧
  ∀ H' c gs, Same H H' → Fc.Free (clsOf cs) (es.map (·.n)) → (∀ n, n ∈ gs ↔ n ∈ ns) → gs.Nodup → gs.length ≤ 19 → noConf (clsOf cs) gs → CompAt P w CG C H' c gs (es.map (·.n)) (clsOf cs) → Q (.ref c) H'
abbrev s_completion_of : Stmt := (top 43)
abbrev n_completion_of : List Str := ["grammar", "given"]
theorem sc_completion_of : FnScope ["grammar", "given"] ["grammar", "given"] (defScope s_completion_of) := ⟨rfl, rfl, rfl, by decide +kernel, rfl, by decide +kernel, by decide +kernel⟩
-- slots: grammar 0, given 1
theorem ok_completion_of {f f1 f2 f3 fC CG C CU CF : Addr} {fd fd1 fd2 fd3 fdC : FuncData} (F : FunM K mg "completion_of" s_completion_of f fd) (TM : ClsC K mg C) (MC : Mk K C fC) (GC : FnOk P w K mg base (L2.CX P w) 6 fC fdC ["self", "grammar", "given"] (spCompI P w K CG C CF)) (bC : Binds K fdC ["self", "grammar", "given"] [])
    (D_check_grammar : Dn P w K mg base CX0 5 "check_grammar" f1 fd1 ["grammar"] spGr) (D_check_names : Dn P w K mg base CX0 2 "check_names" f2 fd2 ["grammar", "names"] (spCheckNames K)) (D_check_satisfiable : Dn P w K mg base (L2.CX P w) 6 "check_satisfiable" f3 fd3 ["grammar"] (spSat CU)) :
    Dn P w K mg base (L2.CX P w) 8 "completion_of" f fd ["grammar", "given"] (spCof P w K CG C CU CF) := by
  refine ⟨F.fn.okX sc_completion_of (fun vs H Q E h => ?_) (fun cdv A outer s H vs Q E hr h => ?_), F.mg, F.fn.kp, (F.fn.binds fun _ _ _ _ _ _ us hl => match us, hl with | [_, _], _ => rfl)⟩
  · obtain ⟨_, _, _, _, _, rfl, _⟩ := h
    rfl
  · obtain ⟨g, a, es, cs, ns, rfl, GV, ⟨e0, e1⟩, q⟩ := h
    refine ⟨_, (pss_cons (ps_expr (pe_call D_check_grammar.ok (hr.mono (by decide)) rfl D_check_grammar.mg D_check_grammar.kp D_check_grammar.bi .nil pass0 (pa_cons (pv 0) pa_nil)))
      (pss_cons (ps_expr (pe_call D_check_names.ok (hr.mono (by decide)) rfl D_check_names.mg D_check_names.kp D_check_names.bi .nil pass0 (pa_cons (pv 0) (pa_cons (pv 1) pa_nil))))
      (pss_cons (ps_expr (pe_call D_check_satisfiable.ok (hr.mono (by decide)) rfl D_check_satisfiable.mg D_check_satisfiable.kp D_check_satisfiable.bi .nil (passes_call (takes_of rfl rfl rfl rfl) (fun _ _ _ _ h => h)) (pa_cons (pv 0) pa_nil)))
      (pss_one (ps_ret (pe_make MC GC (hr.mono (by decide)) (by rfl) TM.mgC bC .nil (passes_call (takes_of rfl rfl rfl rfl) (fun _ _ _ _ h => h)) (pa_cons (pv 0) (pa_cons (pv 1) pa_nil)))))))), ?_⟩
    refine ⟨_, rfl, g, es, cs, rfl, GV.G, fun H1 s1 => ?_⟩
    refine ⟨_, rfl, _, rfl, g, a, es, cs, ns, rfl, GV.G.same s1, GV.q.same s1, GV.n, fun H2 s2 => ?_⟩
    have s12 := s1.trans s2
    refine ⟨_, rfl, g, es, cs, rfl, GV.G.same s12, fun H3 s3 fr => ?_, fun H3 s3 fr => e0 fr H3 (s12.trans s3)⟩
    have s13 := s12.trans s3
    refine ⟨_, rfl, _, rfl, fun c dx hc hdx ne => ?_⟩
    have s4 : Same H3 (upd (upd H3 dx (.own c)) c (.ins C dx [])) := fun b o e => by
      rw [upd_ne (ne_of_none e hc), upd_ne (ne_of_none e hdx)]
      exact e
    have s14 := s13.trans s4
    have nc := s13.free hc
    have kp : ∀ H5, SameX c (upd (upd H3 dx (.own c)) c (.ins C dx [])) H5 → Same H H5 := fun H5 sx b o e => sx _ _ (ne_of_none e nc) (s14 _ _ e)
    refine ⟨c, dx, g, a, es, cs, ns, rfl, upd_same, GV.G.same s14, GV.q.same s14, Nat.le_trans GV.z (by decide), GV.n, fun H5 gs sx mem nd l20 no hC => ⟨rfl, ?_⟩, fun gs d t bs H5 mem sx hd h1 h2 h3 hB => ?_⟩
    · exact q H5 c gs (kp _ sx) fr mem nd (Nat.le_trans (nodup_len nd mem) GV.z) no hC
    · exact e1 fr gs d t bs H5 mem (kp _ sx) (s14.free hd) h1 h2 h3 hB
theorem valV_in_keys {κ : Type} [DecidableEq κ] {k : κ} {v : V} : ∀ {kvs : List (κ × V)}, valV kvs k = some v → k ∈ kvs.map (·.1)
  | [], h => by simp [valV_nil] at h
  | p :: r, h => by
    by_cases c : p.1 = k
    · simp [c]
    · rw [valV_neg c] at h
      exact List.mem_cons_of_mem _ (valV_in_keys h)
def spVerdicts (K : PySem.W.Frag) (CU CF : Addr) : Sp := fun vs H Q E => ∃ (g a : Addr) (es : List OE) (cs : List CE) (ns : List Str), vs = [.ref g, .ref a] ∧ Given K H g a es cs ns ∧ ErrE CU CF H es cs ns E ∧
  ∀ H' p gs (wd : Str → Str), Same H H' → Fc.Free (clsOf cs) (es.map (·.n)) → (∀ n, n ∈ gs ↔ n ∈ ns) → noConf (clsOf cs) gs → (∀ n ∈ es.map (·.n), VW (clsOf cs) gs n (wd n)) → H' p = some (.dK ((es.map (·.n)).map fun n => ((Sum.inr n : Key), V.str (wd n)))) → Q (.ref p) H'
abbrev s_verdicts : Stmt := (top 44)
abbrev n_verdicts : List Str := ["grammar", "given", "completion", "name"]
theorem sc_verdicts : FnScope ["grammar", "given", "completion", "name"] ["grammar", "given"] (defScope s_verdicts) := ⟨rfl, rfl, rfl, by decide +kernel, rfl, by decide +kernel, by decide +kernel⟩
-- slots: grammar 0, given 1, completion 2, name 3
theorem ok_verdicts {f f1 f2 f3 CG C CU CF : Addr} {fd fd1 fd2 fd3 : FuncData} (F : FunM K mg "verdicts" s_verdicts f fd) (D_completion_of : Dn P w K mg base (L2.CX P w) 8 "completion_of" f1 fd1 ["grammar", "given"] (spCof P w K CG C CU CF)) (D_names_of : Dn P w K mg base CX0 1 "names_of" f2 fd2 ["grammar"] spNames)
    (M_verdict : Mt P w K mg base CX0 6 C "verdict" f3 fd3 ["self", "name"] (spVer P w CG C)) : Dn P w K mg base (L2.CX P w) 9 "verdicts" f fd ["grammar", "given"] (spVerdicts K CU CF) := by
  refine ⟨F.fn.okX sc_verdicts (fun vs H Q E h => ?_) (fun cdv A outer s H vs Q E hr h => ?_), F.mg, F.fn.kp, (F.fn.binds fun _ _ _ _ _ _ us hl => match us, hl with | [_, _], _ => rfl)⟩
  · obtain ⟨_, _, _, _, _, rfl, _⟩ := h
    rfl
  · obtain ⟨g, a, es, cs, ns, rfl, GV, eE, q⟩ := h
    refine ⟨_, (pss_cons (ps_set (i := 2) sc_verdicts.nd rfl (by first | exact Or.inl rfl | exact Or.inr rfl) (pe_call D_completion_of.ok (hr.mono (by decide)) rfl D_completion_of.mg D_completion_of.kp D_completion_of.bi .nil (passes_call (takes_of rfl rfl rfl rfl) (fun _ _ _ _ h => h)) (pa_cons (pv 0) (pa_cons (pv 1) pa_nil))))
      (pss_one (ps_ret (pe_dc (own := [("name", 3)]) (by rfl) sc_verdicts.nd (pi_list (pe_call D_names_of.ok (hr.mono (by decide)) rfl D_names_of.mg D_names_of.kp D_names_of.bi .nil pass0 (pa_cons (pv 0) pa_nil))) (blkOk_by (own := [("name", 3)]) (N := n_verdicts) (sc := defScope s_verdicts) (by decide +kernel)) (fun _ _ _ _ _ => pg_name (i := 3) sc_verdicts.nd rfl (Or.inl rfl)) (fun _ _ _ _ _ => pts_nil) (fun _ _ _ _ _ => pv 3) (fun _ _ _ _ _ => pe_meth (pv 2) M_verdict.cl M_verdict.me M_verdict.ok (hr.mono (by decide)) M_verdict.bi .nil pass0 (pa_cons (pv 3) pa_nil)))))), ?_⟩
    refine ⟨_, rfl, _, rfl, g, a, es, cs, ns, rfl, GV, eE, fun H1 c gs s1 fr mem nd l19 no hC => ?_⟩
    refine ⟨_, rfl, g, es, cs, rfl, GV.G.same s1, fun H2 nl s2 nn hn => ⟨nl, rfl, ⟨_, .of hn⟩, fun D hD => ?_⟩⟩
    refine wk_list (K := K) (a := nl) (xs := (es.map (·.n)).map V.str) (fun i H' => ∃ wd : Str → Str, Same H2 H' ∧ H' D = some (.dK (((es.map (·.n)).take i).map fun n => ((Sum.inr n : Key), V.str (wd n)))) ∧ ∀ n ∈ (es.map (·.n)).take i, VW (clsOf cs) gs n (wd n))
      ⟨fun n => n, same_upd hD, upd_same, (fun _ h => nomatch h)⟩ (fun i H' _ ⟨_, s3, _⟩ => .of (s3 _ _ hn)) ?_ ?_
    · rintro i y H' hy ⟨wd, s3, h3, hw⟩
      obtain ⟨n, hi, rfl⟩ := map_get hy
      have il := lt_of_get hi
      have CC := hC.same (s2.trans s3)
      obtain ⟨dx, x, gl, hc, _⟩ := id CC
      refine ⟨rfl, _, rfl, _, rfl, c, dx, _, rfl, hc, rfl, _, rfl, c, n, gs, es.map (fun e : OE => e.n), clsOf cs, rfl, CC, mem_of_get hi, fun m mm => GV.n m ((mem m).mp mm), l19, fun H4 w4 s4 hw4 => ?_⟩
      have m7 := GV.G.oo.most
      have nd' := GV.G.oo.nd
      have ni : n ∉ (es.map (·.n)).take i := fun m => not_take (f := id) (by simpa using nd') hi (by simpa using m)
      have old : ∀ m ∈ (es.map (·.n)).take i, m ≠ n := fun m hm z => ni (z ▸ hm)
      refine ⟨_, Sum.inr n, rfl, s4 _ _ h3, sz _ (by simp; omega), fun m => if m = n then w4 else wd m, same_put (s3.trans s4) hD, ?_, fun m hm => ?_⟩
      · rw [upd_same, putK_new]
        · rw [take_more hi, List.map_append]
          refine congrArg (fun l => some (HO.dK l)) ?_
          congr 1
          · exact List.map_congr_left fun m hm => by simp [old m hm]
          · simp
        · cases hh : valV (((es.map (·.n)).take i).map fun n => ((Sum.inr n : Key), V.str (wd n))) (Sum.inr n) with
          | none => rfl
          | some v =>
            have hm := valV_in_keys hh
            obtain ⟨p, mp, e⟩ := List.mem_map.mp hm
            obtain ⟨m, mm, rfl⟩ := List.mem_map.mp mp
            exact absurd (Sum.inr.inj e) (old m mm)
      · rw [take_more hi] at hm
        rcases List.mem_append.mp hm with z | z
        · simp only [if_neg (old m z)]
          exact hw m z
        · have z := List.mem_singleton.mp z
          subst z
          simp only [if_pos]
          exact hw4
    · rintro H' ⟨wd, s3, h3, hw⟩
      rw [List.length_map, List.take_length] at h3 hw
      exact q H' D gs wd ((s1.trans s2).trans s3) fr mem no hw h3
end
end Fk
/-! list(text). -/
namespace Fk
open PySem PySem.Spec PyProof.Rows L2
section
variable {X : Cx}
def signs (z : Str) : List Str := z.cps.toList.map fun c => (⟨#[c]⟩ : Str)
/-- list(text): its signs -/
def rListStr : List V → Hp → VK → Prop := fun xs H Q => ∃ z : Str, xs = [.str z] ∧ z.cps.size ≤ 1000 ∧ ∀ l, H l = none → Q (.ref l) (upd H l (.lst ((signs z).map V.str)))
theorem call_listStr (hc : X.calm = true) : CallR X (.type "list") rListStr := by
  intro pins s σ H xs us Q I r h
  obtain ⟨z, rfl, hz, q⟩ := h
  obtain ⟨u, rfl, rx⟩ := vals1 r
  obtain ⟨t, rfl⟩ := rx
  have hz' : z.cps.size ≤ sizeLine := Nat.le_of_lt (small1000 hz)
  refine call_list_str (I.ok.hd hc) z t (fun h' tk acc c k hS hacc => ?_) hz'
  have rv : Vals ((signs z).map V.str) acc.toList := by
    refine vals_of_at (by rw [List.length_map, signs, List.length_map, Array.length_toList, Array.length_toList, hacc.1]) fun j x u e1 e2 => ?_
    rw [Array.getElem?_toList] at e2
    obtain ⟨c', t', e3, e4⟩ := hacc.2 j u e2
    obtain ⟨y, e5, rfl⟩ := map_get e1
    obtain ⟨c2, e6, rfl⟩ := map_get e5
    rw [Array.getElem?_toList, e3] at e6
    cases e6
    rw [e4]
    exact ⟨_, rfl⟩
  exact ⟨.ref s.heap.objs.size, _, I.laid (t' := tk) k (Nat.le_refl _) (show ObjOk X.prog X.w _ h' _ (.lst ((signs z).map V.str)) from ⟨by rw [List.length_map, signs, List.length_map, Array.length_toList]; exact hz', acc.toList, c, rv, hS⟩), rfl, q _ (I.hok.fresh (Nat.le_refl _))⟩
end
end Fk
/-! The law's dice. -/
namespace Fk
open PySem PySem.Spec PyProof.Rows L2
section
variable {P : Program} {w : World} {K : PySem.W.Frag} {mg : Str → Option Value} {base : Heap}
/-- the dice at d -/
def DiceAt (K : PySem.W.Frag) (sc : Addr × List Int) (H : Hp) (d : Addr) : Prop := ∃ (i m r : Int), H d = some (.lst [.ref sc.1, .int i, .int m, .int r]) ∧ SqL K (del H d) sc.1 (sc.2.map V.int) ∧ 0 ≤ i ∧ 0 ≤ m ∧ m < 2147483647 ∧ 0 ≤ r
theorem del_same' (H : Hp) (d : Addr) : Same (del H d) H := fun b o e => by
  by_cases c : b = d
  · rw [c, del_same] at e; cases e
  · rw [del_ne c] at e; exact e
theorem del_x {d : Addr} {H H' : Hp} (s : SameX d H H') : Same (del H d) (del H' d) := fun b o e => by
  by_cases c : b = d
  · rw [c, del_same] at e; cases e
  · rw [del_ne c] at e
    rw [del_ne c]
    exact s b o c e
theorem SameX.refl (d : Addr) (H : Hp) : SameX d H H := fun _ _ _ e => e
theorem SameX.trans {d : Addr} {H H1 H2 : Hp} (a : SameX d H H1) (b : SameX d H1 H2) : SameX d H H2 := fun c o n e => b c o n (a c o n e)
theorem SameX.of {d : Addr} {H H' : Hp} (s : Same H H') : SameX d H H' := fun b o _ e => s b o e
theorem SameX.tup {d : Addr} {H H' : Hp} {l : List V} (s : SameX d H H') (h : H d = some (.lst l)) {b : Addr} {ys : List V} (e : H b = some (.tup ys)) : H' b = some (.tup ys) := s b _ (fun z => by rw [z, h] at e; cases e) e
theorem DiceAt.lst {sc : Addr × List Int} {H : Hp} {d : Addr} (D : DiceAt K sc H d) : ∃ l, H d = some (.lst l) := let ⟨i, m, r, h, _⟩ := D; ⟨_, h⟩
theorem DiceAt.tup {sc : Addr × List Int} {H H' : Hp} {d : Addr} (D : DiceAt K sc H d) (s : SameX d H H') {b : Addr} {ys : List V} (e : H b = some (.tup ys)) : H' b = some (.tup ys) := let ⟨_, h⟩ := D.lst; s.tup h e
theorem DiceAt.same {sc : Addr × List Int} {H H' : Hp} {d : Addr} (s : Same H H') (D : DiceAt K sc H d) : DiceAt K sc H' d := by
  obtain ⟨i, m, r, h, q, b⟩ := D
  exact ⟨i, m, r, s _ _ h, (del_x (SameX.of s)).seq q, b⟩
/-- the dice as D tells it, the script as it was -/
theorem DiceAt.re {sc : Addr × List Int} {H H' H2 : Hp} {d : Addr} (D0 : DiceAt K sc H d) (D : DiceAt K sc H' d) (x : SameX d H H2) (e : H2 d = H' d) : DiceAt K sc H2 d := by
  obtain ⟨_, _, _, _, q, _⟩ := D0
  obtain ⟨i, m, r, h, _, b⟩ := D
  exact ⟨i, m, r, e.trans h, (del_x x).seq q, b⟩
abbrev s_law_dice : Stmt := (top 46)
abbrev n_law_dice : List Str := ["_law_script", "_law_mixed", "_law_cell"]
theorem sc_law_dice : FnScope ["_law_script", "_law_mixed", "_law_cell"] ["_law_script"] (defScope s_law_dice) := ⟨rfl, rfl, rfl, by decide +kernel, rfl, by decide +kernel, by decide +kernel⟩
-- slots: _law_script 0, _law_mixed 1, _law_cell 2
def spDice (K : PySem.W.Frag) : Sp := fun vs H Q _ => ∃ (a : Addr) (xs : List Int), vs = [.ref a] ∧ SqL K H a (xs.map V.int) ∧ ∀ H' d, Same H H' → H d = none → DiceAt K (a, xs) H' d → Q (.ref d) H'
theorem ok_law_dice {f : Addr} {fd : FuncData} (F : FunM K mg "_law_dice" s_law_dice f fd) (T : Txt K mg) : Dn P w K mg base CX0 1 "_law_dice" f fd ["_law_script"] (spDice K) := by
  refine ⟨F.fn.ok sc_law_dice (fun vs H Q E h => ?_) (fun cdv A outer s H vs Q E hr h => ?_), F.mg, F.fn.kp, (F.fn.binds fun _ _ _ _ _ _ us hl => match us, hl with | [_], _ => rfl)⟩
  · obtain ⟨a, _, rfl, _⟩ := h
    rfl
  · obtain ⟨a, xs, rfl, hs, q⟩ := h
    refine ⟨_, (pss_cons (ps_set (i := 1) sc_law_dice.nd rfl (by first | exact Or.inl rfl | exact Or.inr rfl) pe_int)
      (pss_cons (ps_for PassesOwn.never rfl (pi_list (pv 0)) (pg_name (i := 2) sc_law_dice.nd rfl (by first | exact Or.inl rfl | exact Or.inr rfl)) (pss_one (ps_set (i := 1) sc_law_dice.nd rfl (by first | exact Or.inl rfl | exact Or.inr rfl) (pe_op op_mod (pe_op op_add (pe_op op_add (pe_op op_mul (pv 1) pe_int) (pe_op op_mul (pe_op op_mod (pe_callTy call_int1 (by rfl) T.b_int (by decide +kernel) (pa_cons (pv 2) pa_nil)) pe_int) pe_int)) pe_int) pe_int))))
      (pss_one (ps_ret (pe_lst (pa_cons (pv 0) (pa_cons pe_int (pa_cons (pe_op op_mul (pv 1) (pe_callTy call_int1 (by rfl) T.b_int (by decide +kernel) (pa_cons (pe_cmpR op_gt (pe_callB call_len_seq (by rfl) T.b_len (by decide +kernel) (pa_cons (pv 0) pa_nil)) pe_int (nomark _)) pa_nil))) (pa_cons pe_int pa_nil))))))))), ?_⟩
    refine ⟨_, rfl, a, rfl, ⟨_, hs⟩, ?_⟩
    refine for_list (K := K) (a := a) (xs := xs.map V.int) (fun i σ H' => ∃ (m : Int) (v : Option V), σ = [some (.ref a), some (.int m), v] ∧ H' = H ∧ 0 ≤ m ∧ m < 2147483647) ⟨0, _, rfl, rfl, by decide, by decide⟩ (fun i σ H' _ ⟨_, _, _, e, _⟩ => by rw [e]; exact hs) ?_ ?_
    · rintro i y σ H' hy ⟨m, v, rfl, rfl, m0, m1⟩
      obtain ⟨z, hz, rfl⟩ := map_get hy
      have zm : 0 ≤ z % 2147483647 ∧ z % 2147483647 < 2147483647 := ⟨Int.emod_nonneg _ (by decide), Int.emod_lt_of_pos _ (by decide)⟩
      refine ⟨_, rfl, _, _, rfl, rfl, .inl ⟨by omega, by omega⟩, _, rfl, .inl ⟨z, rfl, _, _, rfl, rfl, (by show (0 : Int) < 2147483647; decide), _, _, rfl, rfl, .inl ⟨by omega, by omega⟩, _, _, rfl, rfl, _, _, rfl, rfl, _, _, rfl, rfl, (by show (0 : Int) < 2147483647; decide), ?_⟩⟩
      exact ⟨_, _, rfl, rfl, Int.emod_nonneg _ (by decide), Int.emod_lt_of_pos _ (by decide)⟩
    · rintro σ H' ⟨m, v, rfl, rfl, m0, m1⟩
      refine ⟨_, rfl, _, rfl, _, rfl, a, _, rfl, .inl hs, _, _, rfl, rfl, .inr ⟨_, rfl, _, _, rfl, rfl, .inl ⟨by omega, by omega⟩, sz4, fun d hd => ?_⟩⟩
      refine q _ d (same_upd hd) hd ⟨0, _, 0, upd_same, ?_, by decide, ?_, ?_, by decide⟩
      · refine Same.seq (H := H') (fun b o e => ?_) hs
        have n : b ≠ d := ne_of_none e hd
        rw [del_ne n, upd_ne n]
        exact e
      · split <;> omega
      · split <;> omega
abbrev s_law_next : Stmt := (top 47)
abbrev n_law_next : List Str := ["_law_dice_here", "_law_many", "_law_found", "_law_cell"]
theorem sc_law_next : FnScope ["_law_dice_here", "_law_many", "_law_found", "_law_cell"] ["_law_dice_here", "_law_many"] (defScope s_law_next) := ⟨rfl, rfl, rfl, by decide +kernel, rfl, by decide +kernel, by decide +kernel⟩
-- slots: _law_dice_here 0, _law_many 1, _law_found 2, _law_cell 3
def spNext (K : PySem.W.Frag) : Sp := fun vs H Q _ => ∃ (sc : Addr × List Int) (d : Addr) (n : Int), vs = [.ref d, .int n] ∧ DiceAt K sc H d ∧ 0 < n ∧ n < 1073741824 ∧ ∀ H' r, SameX d H H' → DiceAt K sc H' d → 0 ≤ r → r < n → Q (.int r) H'
theorem dice_upd {sc : Addr × List Int} {H : Hp} {d : Addr} {l : List V} {i m r : Int} (q : SqL K (del H d) sc.1 (sc.2.map V.int)) (h : l = [.ref sc.1, .int i, .int m, .int r]) (i0 : 0 ≤ i) (m0 : 0 ≤ m) (m1 : m < 2147483647) (r0 : 0 ≤ r) : DiceAt K sc (upd H d (.lst l)) d := by
  subst h
  refine ⟨i, m, r, upd_same, Same.seq (fun b o e => ?_) q, i0, m0, m1, r0⟩
  by_cases c : b = d
  · rw [c, del_same] at e; cases e
  · rw [del_ne c, upd_ne c, ← del_ne (H := H) c]
    exact e
theorem samex_upd {H : Hp} {d : Addr} {o : HO} : SameX d H (upd H d o) := fun b _ n e => (upd_ne n).trans e
theorem ok_law_next {f : Addr} {fd : FuncData} (F : FunM K mg "_law_next" s_law_next f fd) (T : Txt K mg) : Dn P w K mg base CX0 1 "_law_next" f fd ["_law_dice_here", "_law_many"] (spNext K) := by
  refine ⟨F.fn.ok sc_law_next (fun vs H Q E h => ?_) (fun cdv A outer s H vs Q E hr h => ?_), F.mg, F.fn.kp, (F.fn.binds fun _ _ _ _ _ _ us hl => match us, hl with | [_, _], _ => rfl)⟩
  · obtain ⟨_, _, _, rfl, _⟩ := h
    rfl
  · obtain ⟨⟨a, xs⟩, d, n, rfl, ⟨i, m, r, hd, hs, i0, m0, m1, r0⟩, n0, n1, q⟩ := h
    refine ⟨_, (pss_cons (ps_if (pt_cmpR op_gt (pe_ix ix_list (pv 0) pe_int (fun _ _ => rfl)) pe_int (nomark _)) (pss_cons (ps_set (i := 2) sc_law_next.nd rfl (by first | exact Or.inl rfl | exact Or.inr rfl) (pe_op op_mod (pe_callTy call_int1 (by rfl) T.b_int (by decide +kernel) (pa_cons (pe_ix ix_list (pv 0) pe_int (fun _ _ => rfl)) pa_nil)) (pv 1)))
      (pss_cons (ps_asg (pe_op op_fdiv (pe_ix ix_list (pv 0) pe_int (fun _ _ => rfl)) (pv 1)) (pg_sub (pv 0) pe_int set_list))
      (pss_one (ps_ret (pv 2))))) pss_nil)
      (pss_cons (ps_asg (pe_op op_add (pe_ix ix_list (pv 0) pe_int (fun _ _ => rfl)) pe_int) (pg_sub (pv 0) pe_int set_list))
      (pss_cons (ps_if (pt_cmpR op_le (pe_ix ix_list (pv 0) pe_int (fun _ _ => rfl)) (pe_callB call_len_seq (by rfl) T.b_len (by decide +kernel) (pa_cons (pe_ix ix_list (pv 0) pe_int (fun _ _ => rfl)) pa_nil)) (nomark _)) (pss_cons (ps_set (i := 3) sc_law_next.nd rfl (by first | exact Or.inl rfl | exact Or.inr rfl) (pe_ix ix_list (pe_ix ix_list (pv 0) pe_int (fun _ _ => rfl)) (pe_op op_sub (pe_ix ix_list (pv 0) pe_int (fun _ _ => rfl)) pe_int) (fun _ _ => rfl)))
      (pss_cons (ps_asg (pe_ifExp (pt_cmpR op_ge (pv 3) (pe_op op_pow pe_int pe_int) (nomark _)) (pe_op op_fdiv (pv 3) (pv 1)) pe_int) (pg_sub (pv 0) pe_int set_list))
      (pss_one (ps_ret (pe_op op_mod (pe_callTy call_int1 (by rfl) T.b_int (by decide +kernel) (pa_cons (pv 3) pa_nil)) (pv 1)))))) pss_nil)
      (pss_cons (ps_asg (pe_op op_mod (pe_callTy call_int1 (by rfl) T.b_int (by decide +kernel) (pa_cons (pe_op op_mul (pe_ix ix_list (pv 0) pe_int (fun _ _ => rfl)) pe_int) pa_nil)) pe_int) (pg_sub (pv 0) pe_int set_list))
      (pss_one (ps_ret (pe_op op_mod (pe_op op_fdiv (pe_ix ix_list (pv 0) pe_int (fun _ _ => rfl)) pe_int) (pv 1)))))))), ?_⟩
    refine ⟨_, rfl, _, _, _, _, rfl, rfl, .of hd, atI_nat (j := 3) rfl, _, _, rfl, rfl, _, rfl, ifB (fun c => ?_) (fun c => ?_)⟩
    · refine ⟨_, rfl, _, _, _, _, rfl, rfl, .of hd, atI_nat (j := 3) rfl, .inl ⟨r, rfl, _, rfl, _, _, rfl, rfl, n0, ?_⟩⟩
      refine ⟨_, rfl, _, _, _, _, rfl, rfl, .of hd, atI_nat (j := 3) rfl, _, rfl, _, _, rfl, rfl, ⟨n0, n1⟩, _, rfl, d, _, _, 3, rfl, rfl, hd, rfl, ?_⟩
      exact ⟨_, rfl, q _ _ samex_upd (dice_upd hs rfl i0 m0 m1 (Int.ediv_nonneg r0 (Int.le_of_lt n0))) (Int.emod_nonneg _ (by omega)) (Int.emod_lt_of_pos _ n0)⟩
    · refine ⟨_, rfl, _, _, _, _, rfl, rfl, .of hd, atI_nat (j := 1) rfl, _, _, rfl, rfl, _, rfl, d, _, _, 1, rfl, rfl, hd, rfl, ?_⟩
      have h1 : (upd H d (.lst [.ref a, .int (i + 1), .int m, .int r])) d = some (.lst [.ref a, .int (i + 1), .int m, .int r]) := upd_same
      have x1 : SameX d H (upd H d (.lst [.ref a, .int (i + 1), .int m, .int r])) := samex_upd
      have hs1 := (del_x x1).seq hs
      have hsq := (del_same' _ d).seq hs1
      refine ⟨_, rfl, _, _, _, _, rfl, rfl, .of h1, atI_nat (j := 1) rfl, _, rfl, _, _, _, _, rfl, rfl, .of h1, atI_nat (j := 0) rfl, a, _, rfl, .inl hsq, _, _, rfl, rfl, _, rfl, ifB (fun c => ?_) (fun c => ?_)⟩
      · have c := of_decide_eq_true c
        rw [List.length_map] at c
        have c : i + 1 ≤ (xs.length : Int) := c
        obtain ⟨z, hz⟩ : ∃ z, xs[i.toNat]? = some z := ⟨_, List.getElem?_eq_getElem (by omega)⟩
        have hz' : atI (xs.map V.int) (i + 1 - 1) = some (.int z) := by
          have e : i + 1 - 1 = ((i.toNat : Nat) : Int) := by omega
          rw [e]
          exact atI_nat (by rw [List.getElem?_map, hz]; rfl)
        refine ⟨_, rfl, _, _, _, _, rfl, rfl, .of h1, atI_nat (j := 0) rfl, _, rfl, _, _, _, _, rfl, rfl, .of h1, atI_nat (j := 1) rfl, _, _, rfl, rfl, a, _, _, _, rfl, rfl, hsq, hz', ?_⟩
        refine ⟨_, rfl, _, _, rfl, rfl, ⟨by decide, by decide, by decide⟩, _, _, rfl, rfl, _, rfl, ifB (fun c2 => ?_) (fun c2 => ?_)⟩
        · have c2 := of_decide_eq_true c2
          have z0 : 0 ≤ z := Int.le_trans (by decide) c2
          refine ⟨_, rfl, _, rfl, _, _, rfl, rfl, ⟨n0, n1⟩, _, rfl, d, _, _, 3, rfl, rfl, h1, rfl, ?_⟩
          exact ⟨_, rfl, .inl ⟨z, rfl, _, rfl, _, _, rfl, rfl, n0, q _ _ (x1.trans samex_upd) (dice_upd hs1 rfl (by omega) m0 m1 (Int.ediv_nonneg z0 (Int.le_of_lt n0))) (Int.emod_nonneg _ (by omega)) (Int.emod_lt_of_pos _ n0)⟩⟩
        · refine ⟨_, rfl, d, _, _, 3, rfl, rfl, h1, rfl, ?_⟩
          exact ⟨_, rfl, .inl ⟨z, rfl, _, rfl, _, _, rfl, rfl, n0, q _ _ (x1.trans samex_upd) (dice_upd hs1 rfl (by omega) m0 m1 (by decide)) (Int.emod_nonneg _ (by omega)) (Int.emod_lt_of_pos _ n0)⟩⟩
      · have mm : 0 ≤ m * 48271 % 2147483647 ∧ m * 48271 % 2147483647 < 2147483647 := ⟨Int.emod_nonneg _ (by decide), Int.emod_lt_of_pos _ (by decide)⟩
        refine ⟨_, rfl, _, _, _, _, rfl, rfl, .of h1, atI_nat (j := 2) rfl, _, _, rfl, rfl, .inl ⟨by omega, by omega⟩, .inl ⟨_, rfl, _, _, rfl, rfl, (by show (0 : Int) < 2147483647; decide), _, rfl, d, _, _, 2, rfl, rfl, h1, rfl, ?_⟩⟩
        refine ⟨_, rfl, _, _, _, _, rfl, rfl, .of upd_same, atI_nat (j := 2) rfl, _, _, rfl, rfl, ⟨by decide, by decide⟩, _, rfl, _, _, rfl, rfl, n0, ?_⟩
        exact q _ _ (x1.trans samex_upd) (dice_upd hs1 rfl (by omega) mm.1 mm.2 r0) (Int.emod_nonneg _ (by omega)) (Int.emod_lt_of_pos _ n0)
end
end Fk
/-! The law's grammars. -/
namespace Fk
open PySem PySem.Spec PyProof.Rows L2
section
variable {P : Program} {w : World} {K : PySem.W.Frag} {mg : Str → Option Value} {base : Heap}
abbrev s_law_pick : Stmt := (top 48)
abbrev n_law_pick : List Str := ["_law_d", "_law_some"]
theorem sc_law_pick : FnScope ["_law_d", "_law_some"] ["_law_d", "_law_some"] (defScope s_law_pick) := ⟨rfl, rfl, rfl, by decide +kernel, rfl, by decide +kernel, by decide +kernel⟩
-- slots: _law_d 0, _law_some 1
def spPick (K : PySem.W.Frag) : Sp := fun vs H Q _ => ∃ (sc : Addr × List Int) (d a : Addr) (xs : List V), vs = [.ref d, .ref a] ∧ DiceAt K sc H d ∧ H a = some (.lst xs) ∧ a ≠ d ∧ xs ≠ [] ∧ xs.length ≤ 1000 ∧ ∀ H' v, SameX d H H' → DiceAt K sc H' d → v ∈ xs → Q v H'
theorem ok_law_pick {f f1 : Addr} {fd fd1 : FuncData} (F : FunM K mg "_law_pick" s_law_pick f fd) (T : Txt K mg) (D_law_next : Dn P w K mg base CX0 1 "_law_next" f1 fd1 ["_law_dice_here", "_law_many"] (spNext K)) : Dn P w K mg base CX0 2 "_law_pick" f fd ["_law_d", "_law_some"] (spPick K) := by
  refine ⟨F.fn.ok sc_law_pick (fun vs H Q E h => ?_) (fun cdv A outer s H vs Q E hr h => ?_), F.mg, F.fn.kp, (F.fn.binds fun _ _ _ _ _ _ us hl => match us, hl with | [_, _], _ => rfl)⟩
  · obtain ⟨_, _, _, _, rfl, _⟩ := h
    rfl
  · obtain ⟨sc, d, a, xs, rfl, hd, ha, ne, hx, hl, q⟩ := h
    have pos : 0 < xs.length := List.length_pos_iff.mpr hx
    refine ⟨_, (pss_one (ps_ret (pe_ix ix_list (pv 1) (pe_call D_law_next.ok (hr.mono (by decide)) rfl D_law_next.mg D_law_next.kp D_law_next.bi .nil pass0 (pa_cons (pv 0) (pa_cons (pe_callB call_len_seq (by rfl) T.b_len (by decide +kernel) (pa_cons (pv 1) pa_nil)) pa_nil))) (fun _ _ => rfl)))), ?_⟩
    refine ⟨_, rfl, _, rfl, _, rfl, a, _, rfl, .inl (.of ha), sc, d, (xs.length : Int), rfl, hd, by omega, by omega, fun H' r sx D' r0 r1 => ?_⟩
    obtain ⟨y, hy⟩ : ∃ y, xs[r.toNat]? = some y := ⟨_, List.getElem?_eq_getElem (by omega)⟩
    have e : r = ((r.toNat : Nat) : Int) := by omega
    refine ⟨a, xs, r, y, rfl, rfl, .of (sx _ _ ne ha), by rw [e]; exact atI_nat hy, q H' y sx D' (mem_of_get hy)⟩
abbrev s_law_kind : Stmt := (top 50)
abbrev n_law_kind : List Str := ["_law_d", "_law_low", "_law_word", "_law_some"]
theorem sc_law_kind : FnScope ["_law_d", "_law_low", "_law_word", "_law_some"] ["_law_d"] (defScope s_law_kind) := ⟨rfl, rfl, rfl, by decide +kernel, rfl, by decide +kernel, by decide +kernel⟩
-- slots: _law_d 0, _law_low 1, _law_word 2, _law_some 3
theorem KdAt.keep {H H' : Hp} {v : V} (s : ∀ b ys, H b = some (HO.tup ys) → H' b = some (.tup ys)) (k : KdAt H v) : KdAt H' v := by
  cases k with
  | non => exact .non
  | word h => exact .word (s _ _ h)
  | int h a b c => exact .int (s _ _ h) a b c
  | ch h hq a b c d => exact .ch (s _ _ h) (s _ _ hq) a b c d
def spLKind (K : PySem.W.Frag) : Sp := fun vs H Q _ => ∃ (sc : Addr × List Int) (d : Addr), vs = [.ref d] ∧ DiceAt K sc H d ∧ ∀ H' v, SameX d H H' → DiceAt K sc H' d → KdAt H' v → Q v H'
theorem cut_words : ∀ r : Nat, r < 4 → ∃ ws : List Str, cutV (chWords.map V.str) none (some (1 + (r : Int))) = ws.map V.str ∧ 1 ≤ ws.length ∧ ws.length ≤ 4 ∧ ws.Nodup ∧ ∀ z ∈ ws, z ∈ chWords := by
  intro r hr
  refine ⟨chWords.take (1 + r), ?_, ?_, ?_, ?_, ?_⟩
  · match r, hr with
    | 0, _ => rfl
    | 1, _ => rfl
    | 2, _ => rfl
    | 3, _ => rfl
  · rw [List.length_take]
    have : chWords.length = 4 := rfl
    omega
  · rw [List.length_take]
    have : chWords.length = 4 := rfl
    omega
  · exact (show chWords.Nodup by decide +kernel).sublist (List.take_sublist _ _)
  · exact fun z m => List.mem_of_mem_take m
theorem ok_law_kind {f f1 f2 : Addr} {fd fd1 fd2 : FuncData} (F : FunM K mg "_law_kind" s_law_kind f fd) (T : Txt K mg) (D_law_next : Dn P w K mg base CX0 1 "_law_next" f1 fd1 ["_law_dice_here", "_law_many"] (spNext K)) (D_law_pick : Dn P w K mg base CX0 2 "_law_pick" f2 fd2 ["_law_d", "_law_some"] (spPick K)) : Dn P w K mg base CX0 3 "_law_kind" f fd ["_law_d"] (spLKind K) := by
  refine ⟨F.fn.ok sc_law_kind (fun vs H Q E h => ?_) (fun cdv A outer s H vs Q E hr h => ?_), F.mg, F.fn.kp, (F.fn.binds fun _ _ _ _ _ _ us hl => match us, hl with | [_], _ => rfl)⟩
  · obtain ⟨_, _, rfl, _⟩ := h
    rfl
  · obtain ⟨sc, d, rfl, hd, q⟩ := h
    refine ⟨_, (pss_cons (ps_set (i := 1) sc_law_kind.nd rfl (by first | exact Or.inl rfl | exact Or.inr rfl) (pe_op op_sub (pe_call D_law_next.ok (hr.mono (by decide)) rfl D_law_next.mg D_law_next.kp D_law_next.bi .nil pass0 (pa_cons (pv 0) (pa_cons pe_int pa_nil))) pe_int))
      (pss_cons (ps_set (i := 2) sc_law_kind.nd rfl (by first | exact Or.inl rfl | exact Or.inr rfl) (pe_slice sl_list (pe_lst (pa_cons pe_str (pa_cons pe_str (pa_cons pe_str (pa_cons pe_str pa_nil))))) po_none (po_some (pe_op op_add pe_int (pe_call D_law_next.ok (hr.mono (by decide)) rfl D_law_next.mg D_law_next.kp D_law_next.bi .nil pass0 (pa_cons (pv 0) (pa_cons pe_int pa_nil)))))))
      (pss_cons (ps_set (i := 3) sc_law_kind.nd rfl (by first | exact Or.inl rfl | exact Or.inr rfl) (pe_lst (pa_cons pe_non (pa_cons pe_non (pa_cons (pe_tup (pa_cons pe_str pa_nil)) (pa_cons (pe_tup (pa_cons pe_str (pa_cons (pv 1) (pa_cons (pe_op op_sub pe_int (pe_call D_law_next.ok (hr.mono (by decide)) rfl D_law_next.mg D_law_next.kp D_law_next.bi .nil pass0 (pa_cons (pv 0) (pa_cons (pe_op op_sub pe_int (pv 1)) pa_nil)))) pa_nil)))) (pa_cons (pe_tup (pa_cons pe_str (pa_cons (pe_callTy call_tuple_of (by rfl) T.b_tuple (by decide +kernel) (pa_cons (pv 2) pa_nil)) pa_nil))) pa_nil)))))))
      (pss_one (ps_ret (pe_call D_law_pick.ok (hr.mono (by decide)) rfl D_law_pick.mg D_law_pick.kp D_law_pick.bi .nil pass0 (pa_cons (pv 0) (pa_cons (pv 3) pa_nil)))))))), ?_⟩
    refine ⟨_, rfl, sc, d, _, rfl, hd, by decide, by decide, fun H1 r1 x1 d1 r10 r11 => ⟨_, _, rfl, rfl, ?_⟩⟩
    refine ⟨sz4, fun l0 hl0 => ?_⟩
    have s0 := same_upd (o := .lst (chWords.map V.str)) hl0
    refine ⟨_, rfl, sc, d, _, rfl, d1.same s0, by decide, by decide, fun H2 r2 x2 d2 r20 r21 => ⟨_, _, rfl, rfl, _, rfl, ?_⟩⟩
    obtain ⟨l, hdl⟩ := d1.lst
    have l0d : l0 ≠ d := Ne.symm (ne_of_none hdl hl0)
    obtain ⟨ws, ew, w1, w4, wn, wm⟩ := cut_words r2.toNat (by omega)
    have er : r2 = ((r2.toNat : Nat) : Int) := by omega
    refine ⟨l0, _, rfl, .of (x2 _ _ l0d upd_same), fun wd hwd => ?_⟩
    have ew' : cutV ([V.str "fast", .str "slow", .str "a", .str "abcdefghijkl"]) none (some (1 + r2)) = ws.map V.str := by
      rw [er]
      exact ew
    rw [ew']
    have sw := same_upd (o := .lst (ws.map V.str)) hwd
    have d3 := d2.same sw
    obtain ⟨l2, hdl2⟩ := d2.lst
    have wdd : wd ≠ d := Ne.symm (ne_of_none hdl2 hwd)
    have xw := ((x1.trans (SameX.of s0)).trans x2).trans (SameX.of sw)
    refine ⟨sz1, fun t1 ht1 => ?_⟩
    have s1 := same_upd (o := .tup [.str "word"]) ht1
    refine ⟨_, rfl, _, rfl, _, rfl, _, _, rfl, rfl, ?_⟩
    refine ⟨sc, d, _, rfl, d3.same s1, by omega, by omega, fun H3 r3 x3 d4 r30 r31 => ⟨_, _, rfl, rfl, sz3, fun t2 ht2 => ?_⟩⟩
    have s2 := same_upd (o := .tup [.str "int", .int (r1 - 9999), .int (9999 - r3)]) ht2
    have hw4 := s2 _ _ (x3 _ _ wdd (s1 _ _ upd_same))
    refine ⟨_, rfl, wd, _, rfl, .inl ⟨.of hw4, fun tw htw => ⟨sz2, fun t3 ht3 => ⟨(show 5 ≤ sizeLine from szl (by decide)), fun ls hls => ?_⟩⟩⟩⟩
    have s3 := same_upd (o := .tup (ws.map V.str)) htw
    have s4 := same_upd (o := .tup [.str "choice", .ref tw]) ht3
    have s5 := same_upd (o := .lst [.non, .non, .ref t1, .ref t2, .ref t3]) hls
    have s35 := (s3.trans s4).trans s5
    have d5 := d4.same s2
    have d6 := d5.same s35
    obtain ⟨l6, hdl6⟩ := (d5.same (s3.trans s4)).lst
    refine ⟨_, rfl, _, rfl, sc, d, ls, _, rfl, d6, upd_same, Ne.symm (ne_of_none hdl6 hls), by simp, by simp, fun H9 v x9 d9 mv => ?_⟩
    have xall := (((xw.trans (SameX.of s1)).trans x3).trans (SameX.of (s2.trans s35))).trans x9
    refine q H9 v xall d9 ?_
    have f1 : H9 t1 = some (.tup [.str "word"]) := d6.tup x9 (s35 _ _ (s2 _ _ ((d3.same s1).tup x3 upd_same)))
    have f2 : H9 t2 = some (.tup [.str "int", .int (r1 - 9999), .int (9999 - r3)]) := d6.tup x9 (s35 _ _ upd_same)
    have f3 : H9 tw = some (.tup (ws.map V.str)) := d6.tup x9 (s5 _ _ (s4 _ _ upd_same))
    have f4 : H9 t3 = some (.tup [.str "choice", .ref tw]) := d6.tup x9 (s5 _ _ upd_same)
    rcases List.mem_cons.mp mv with z | mv
    · rw [z]; exact .non
    rcases List.mem_cons.mp mv with z | mv
    · rw [z]; exact .non
    rcases List.mem_cons.mp mv with z | mv
    · rw [z]; exact .word f1
    rcases List.mem_cons.mp mv with z | mv
    · rw [z]; exact .int f2 (by omega) (by omega) (by omega)
    · rw [List.mem_singleton.mp mv]
      exact .ch f4 f3 w1 w4 wn wm
abbrev s_law_clauses : Stmt := (top 51)
abbrev n_law_clauses : List Str := ["_law_d", "_law_names_here", "_law_most", "_law_words", "_law_found", "_law_k"]
theorem sc_law_clauses : FnScope ["_law_d", "_law_names_here", "_law_most", "_law_words", "_law_found", "_law_k"] ["_law_d", "_law_names_here", "_law_most"] (defScope s_law_clauses) := ⟨rfl, rfl, rfl, by decide +kernel, rfl, by decide +kernel, by decide +kernel⟩
-- slots: _law_d 0, _law_names_here 1, _law_most 2, _law_words 3, _law_found 4, _law_k 5
def spLCls (K : PySem.W.Frag) : Sp := fun vs H Q _ => ∃ (sc : Addr × List Int) (d nl : Addr) (ns : List Str) (most : Int), vs = [.ref d, .ref nl, .int most] ∧ DiceAt K sc H d ∧ H nl = some (.lst (ns.map V.str)) ∧ nl ≠ d ∧ ns ≠ [] ∧ ns.length ≤ 100 ∧ 0 ≤ most ∧ most ≤ 100 ∧
  ∀ H' c (cs : List CE), SameX d H H' → DiceAt K sc H' d → H' c = some (.tup (cs.map fun c => V.ref c.p)) → (∀ e ∈ cs, ClsAt H' e ∧ e.w ∈ clWords ∧ e.a ∈ ns ∧ e.b ∈ ns) → (cs.length : Int) ≤ most → Q (.ref c) H'
theorem ok_law_clauses {f f1 f2 : Addr} {fd fd1 fd2 : FuncData} (F : FunM K mg "_law_clauses" s_law_clauses f fd) (T : Txt K mg) (D_law_next : Dn P w K mg base CX0 1 "_law_next" f1 fd1 ["_law_dice_here", "_law_many"] (spNext K)) (D_law_pick : Dn P w K mg base CX0 2 "_law_pick" f2 fd2 ["_law_d", "_law_some"] (spPick K)) : Dn P w K mg base CX0 3 "_law_clauses" f fd ["_law_d", "_law_names_here", "_law_most"] (spLCls K) := by
  refine ⟨F.fn.ok sc_law_clauses (fun vs H Q E h => ?_) (fun cdv A outer s H vs Q E hr h => ?_), F.mg, F.fn.kp, (F.fn.binds fun _ _ _ _ _ _ us hl => match us, hl with | [_, _, _], _ => rfl)⟩
  · obtain ⟨_, _, _, _, _, rfl, _⟩ := h
    rfl
  · obtain ⟨sc, d, nl, ns, most, rfl, hd, hn, nd, n0, n7, m0, m9, q⟩ := h
    refine ⟨_, (pss_cons (ps_set (i := 3) sc_law_clauses.nd rfl (by first | exact Or.inl rfl | exact Or.inr rfl) (pe_ix ix_list (pe_lst (pa_cons (pe_lst (pa_cons pe_str pa_nil)) (pa_cons (pe_lst (pa_cons pe_str (pa_cons pe_str pa_nil))) (pa_cons (pe_lst (pa_cons pe_str (pa_cons pe_str (pa_cons pe_str pa_nil)))) (pa_cons (pe_lst (pa_cons pe_str pa_nil)) pa_nil))))) (pe_op op_fdiv (pe_call D_law_next.ok (hr.mono (by decide)) rfl D_law_next.mg D_law_next.kp D_law_next.bi .nil pass0 (pa_cons (pv 0) (pa_cons pe_int pa_nil))) pe_int) (fun _ _ => rfl)))
      (pss_cons (ps_set (i := 4) sc_law_clauses.nd rfl (by first | exact Or.inl rfl | exact Or.inr rfl) (pe_lst pa_nil))
      (pss_cons (ps_for PassesOwn.never rfl (pi_range1 (by rfl) T.b_range (pa_cons (pe_call D_law_next.ok (hr.mono (by decide)) rfl D_law_next.mg D_law_next.kp D_law_next.bi .nil pass0 (pa_cons (pv 0) (pa_cons (pe_op op_add (pv 2) pe_int) pa_nil))) pa_nil)) (pg_name (i := 5) sc_law_clauses.nd rfl (by first | exact Or.inl rfl | exact Or.inr rfl)) (pss_one (ps_expr (pe_bm PySem.F.plainAttrs_list PySem.F.slot_list_append PySem.F.type_list_append mt_append (pv 4) (pa_cons (pe_tup (pa_cons (pe_call D_law_pick.ok (hr.mono (by decide)) rfl D_law_pick.mg D_law_pick.kp D_law_pick.bi .nil pass0 (pa_cons (pv 0) (pa_cons (pv 3) pa_nil))) (pa_cons (pe_call D_law_pick.ok (hr.mono (by decide)) rfl D_law_pick.mg D_law_pick.kp D_law_pick.bi .nil pass0 (pa_cons (pv 0) (pa_cons (pv 1) pa_nil))) (pa_cons (pe_call D_law_pick.ok (hr.mono (by decide)) rfl D_law_pick.mg D_law_pick.kp D_law_pick.bi .nil pass0 (pa_cons (pv 0) (pa_cons (pv 1) pa_nil))) pa_nil)))) pa_nil)))))
      (pss_one (ps_ret (pe_callTy call_tuple_of (by rfl) T.b_tuple (by decide +kernel) (pa_cons (pv 4) pa_nil))))))), ?_⟩
    refine ⟨sz1, fun a1 h1 => ⟨sz2, fun a2 h2 => ⟨sz3, fun a3 h3 => ⟨sz1, fun a4 h4 => ⟨sz4, fun a5 h5 => ?_⟩⟩⟩⟩⟩
    have s1 := same_upd (o := .lst [.str "needs"]) h1
    have s2 := same_upd (o := .lst [.str "needs", .str "excludes"]) h2
    have s3 := same_upd (o := .lst [.str "needs", .str "excludes", .str "either"]) h3
    have s4 := same_upd (o := .lst [.str "either"]) h4
    have s5 := same_upd (o := .lst [.ref a1, .ref a2, .ref a3, .ref a4]) h5
    have s15 := (((s1.trans s2).trans s3).trans s4).trans s5
    have d5 := hd.same s15
    obtain ⟨ld, hld⟩ := hd.lst
    have n1d : a1 ≠ d := Ne.symm (ne_of_none hld h1)
    have n2d : a2 ≠ d := Ne.symm (ne_of_none (s1 _ _ hld) h2)
    have n3d : a3 ≠ d := Ne.symm (ne_of_none ((s1.trans s2) _ _ hld) h3)
    have n4d : a4 ≠ d := Ne.symm (ne_of_none (((s1.trans s2).trans s3) _ _ hld) h4)
    have n5d : a5 ≠ d := Ne.symm (ne_of_none ((((s1.trans s2).trans s3).trans s4) _ _ hld) h5)
    refine ⟨_, rfl, sc, d, _, rfl, d5, by decide, by decide, fun H1 r x1 d1 r0 r1 => ?_⟩
    have f1 := x1 _ _ n1d ((((s2.trans s3).trans s4).trans s5) _ _ (upd_same (H := H) (a := a1) (o := .lst [.str "needs"])))
    have f2 := x1 _ _ n2d (((s3.trans s4).trans s5) _ _ (upd_same (a := a2) (o := .lst [.str "needs", .str "excludes"])))
    have f3 := x1 _ _ n3d ((s4.trans s5) _ _ (upd_same (a := a3) (o := .lst [.str "needs", .str "excludes", .str "either"])))
    have f4 := x1 _ _ n4d (s5 _ _ (upd_same (a := a4) (o := .lst [.str "either"])))
    have f5 := x1 _ _ n5d (upd_same (a := a5) (o := .lst [.ref a1, .ref a2, .ref a3, .ref a4]))
    obtain ⟨aw, wl, hv, hw, w0, w3, wm, wd⟩ : ∃ aw wl, ([V.ref a1, .ref a2, .ref a3, .ref a4])[(r / 2).toNat]? = some (.ref aw) ∧ H1 aw = some (.lst (wl.map V.str)) ∧ wl ≠ [] ∧ wl.length ≤ 3 ∧ (∀ z ∈ wl, z ∈ clWords) ∧ aw ≠ d := by
      have hj : (r / 2).toNat < 4 := by omega
      match (r / 2).toNat, hj with
      | 0, _ => exact ⟨a1, ["needs"], rfl, f1, by simp, by decide, by decide +kernel, n1d⟩
      | 1, _ => exact ⟨a2, ["needs", "excludes"], rfl, f2, by simp, by decide, by decide +kernel, n2d⟩
      | 2, _ => exact ⟨a3, ["needs", "excludes", "either"], rfl, f3, by simp, by decide, by decide +kernel, n3d⟩
      | 3, _ => exact ⟨a4, ["either"], rfl, f4, by simp, by decide, by decide +kernel, n4d⟩
    have er : r / 2 = (((r / 2).toNat : Nat) : Int) := by omega
    refine ⟨_, _, rfl, rfl, ⟨by decide, by decide⟩, a5, _, _, _, rfl, rfl, .of f5, by rw [er]; exact atI_nat hv, ?_⟩
    have x01 : SameX d H H1 := (SameX.of s15).trans x1
    refine ⟨sz0, fun fo hfo => ?_⟩
    have s6 := same_upd (o := .lst []) hfo
    have nlfo : nl ≠ fo := ne_of_none (x01 _ _ nd hn) hfo
    have awfo : aw ≠ fo := ne_of_none hw hfo
    obtain ⟨ld1, hld1⟩ := d1.lst
    have fod : fo ≠ d := Ne.symm (ne_of_none hld1 hfo)
    have fo0 : H fo = none := by
      cases e : H fo with
      | none => rfl
      | some o => rw [x01 _ _ fod e] at hfo; cases hfo
    refine ⟨_, rfl, _, rfl, _, _, rfl, rfl, sc, d, most + 1, rfl, d1.same s6, by omega, by omega, fun H2 n x2 d2 k0 k1 => ⟨n, rfl, by omega, by omega, ?_⟩⟩
    have x02 : SameX d H H2 := (x01.trans (SameX.of s6)).trans x2
    refine for_range (lo := 0) (n := n.toNat) (fun i σ H' => ∃ (cs : List CE) (v5 : Option V), σ = [some (.ref d), some (.ref nl), some (.int most), some (.ref aw), some (.ref fo), v5] ∧ SameX d H H' ∧ DiceAt K sc H' d ∧ H' fo = some (.lst (cs.map fun c => V.ref c.p)) ∧ (∀ c ∈ cs, ClsAt H' c ∧ c.w ∈ clWords ∧ c.a ∈ ns ∧ c.b ∈ ns) ∧ cs.length = i ∧
        H' aw = some (.lst (wl.map V.str)) ∧ H' nl = some (.lst (ns.map V.str)))
      ⟨[], _, rfl, x02, d2, x2 _ _ fod upd_same, (fun _ h => nomatch h), rfl, x2 _ _ wd (s6 _ _ hw), x02 _ _ nd hn⟩ ?_ ?_
    · rintro i σ H' hi ⟨cs, v5, rfl, x3, d3, hf, hc, hl, haw, hnl⟩
      refine ⟨_, rfl, .inl ⟨rfl, _, .of hf⟩, _, rfl, _, rfl, sc, d, aw, _, rfl, d3, haw, wd, by simpa using w0, by simp; omega, fun H4 v1 x4 d4 m1 => ?_⟩
      refine ⟨_, rfl, _, rfl, sc, d, nl, _, rfl, d4, x4 _ _ nd hnl, nd, by simpa using n0, by simp; omega, fun H5 v2 x5 d5 m2 => ?_⟩
      refine ⟨_, rfl, _, rfl, sc, d, nl, _, rfl, d5, x5 _ _ nd (x4 _ _ nd hnl), nd, by simpa using n0, by simp; omega, fun H6 v3 x6 d6 m3 => ⟨sz3, fun t ht => ?_⟩⟩
      obtain ⟨cw, mw, rfl⟩ := List.mem_map.mp m1
      obtain ⟨ca, ma, rfl⟩ := List.mem_map.mp m2
      obtain ⟨cb, mb, rfl⟩ := List.mem_map.mp m3
      have s7 := same_upd (o := .tup [.str cw, .str ca, .str cb]) ht
      have x36 : SameX d H' H6 := (x4.trans x5).trans x6
      have x37 := x36.trans (SameX.of s7)
      have hf7 := x37 _ _ fod hf
      have xF : SameX d H (upd (upd H6 t (.tup [.str cw, .str ca, .str cb])) fo (.lst (cs.map (fun c => V.ref c.p) ++ [.ref t]))) := fun b o z e => by
        rw [upd_ne (ne_of_none e fo0)]
        exact (x3.trans x37) _ _ z e
      have ck : ∀ b ys, (upd H6 t (.tup [.str cw, .str ca, .str cb])) b = some (HO.tup ys) → (upd (upd H6 t (.tup [.str cw, .str ca, .str cb])) fo (.lst (cs.map (fun c => V.ref c.p) ++ [.ref t]))) b = some (.tup ys) := fun b ys h => by
        rw [upd_ne (fun z => by rw [z, hf7] at h; cases h)]
        exact h
      refine ⟨fo, _, _, rfl, rfl, hf7, sz _ (by simp; omega), cs ++ [⟨t, cw, ca, cb⟩], _, rfl, xF, hd.re (d6.same s7) xF (upd_ne fod.symm), ?_, fun c m => ?_, by simp [hl], ?_, ?_⟩
      · rw [upd_same, List.map_append]
        rfl
      · rcases List.mem_append.mp m with z | z
        · obtain ⟨g1, g2⟩ := hc c z
          exact ⟨ck _ _ (d3.tup x37 g1), g2⟩
        · have z := List.mem_singleton.mp z
          subst z
          exact ⟨ck _ _ upd_same, wm _ mw, ma, mb⟩
      · rw [upd_ne awfo]
        exact x37 _ _ wd haw
      · rw [upd_ne nlfo]
        exact x37 _ _ nd hnl
    · rintro σ H' ⟨cs, v5, rfl, x3, d3, hf, hc, hl, haw, hnl⟩
      refine ⟨_, rfl, fo, _, rfl, .inl ⟨.of hf, fun t ht => ?_⟩⟩
      have s7 := same_upd (o := .tup (cs.map fun c => V.ref c.p)) ht
      exact q _ t cs (x3.trans (SameX.of s7)) (d3.same s7) upd_same (fun e m => ⟨s7 _ _ (hc e m).1, (hc e m).2⟩) (by omega)
end
end Fk
/-! The law's grammar. -/
namespace Fk
open PySem PySem.Spec PyProof.Rows L2
section
variable {P : Program} {w : World} {K : PySem.W.Frag} {mg : Str → Option Value} {base : Heap}
theorem signs_ok : signs "abcdefghijkl" = okShorts := by decide +kernel
theorem map_erase {α β : Type} (f : α → β) : ∀ (l : List α) (k : Nat), (l.map f).eraseIdx k = (l.eraseIdx k).map f
  | [], _ => rfl
  | _ :: _, 0 => rfl
  | x :: l, k + 1 => congrArg (f x :: ·) (map_erase f l k)
theorem perm_erase {α : Type} : ∀ {l : List α} {k : Nat} {y : α}, l[k]? = some y → (y :: l.eraseIdx k).Perm l
  | [], _, _, h => by simp at h
  | x :: l, 0, y, h => by
    have e : x = y := by simpa using h
    subst e
    exact List.Perm.refl _
  | x :: l, k + 1, y, h => by
    have ih := perm_erase (l := l) (k := k) (y := y) (by simpa using h)
    show (y :: x :: l.eraseIdx k).Perm (x :: l)
    exact (List.Perm.swap x y _).trans (ih.cons x)
theorem shorts_pop : ∀ i : Nat, i < 7 → ((okShorts.take (12 - i)).map V.str).dropLast = (okShorts.take (12 - (i + 1))).map V.str ∧ ∃ sl, okShorts[11 - i]? = some sl ∧ sl ∈ okShorts ∧ ((okShorts.take (12 - i)).map V.str)[((okShorts.take (12 - i)).map V.str).length - 1]? = some (.str sl) := by
  intro i hi
  match i, hi with
  | 0, _ => exact ⟨rfl, _, rfl, by decide +kernel, rfl⟩
  | 1, _ => exact ⟨rfl, _, rfl, by decide +kernel, rfl⟩
  | 2, _ => exact ⟨rfl, _, rfl, by decide +kernel, rfl⟩
  | 3, _ => exact ⟨rfl, _, rfl, by decide +kernel, rfl⟩
  | 4, _ => exact ⟨rfl, _, rfl, by decide +kernel, rfl⟩
  | 5, _ => exact ⟨rfl, _, rfl, by decide +kernel, rfl⟩
  | 6, _ => exact ⟨rfl, _, rfl, by decide +kernel, rfl⟩
theorem shorts_nd : okShorts.Nodup := by decide +kernel
theorem shorts_ne : ∀ z ∈ okShorts, z ≠ "" := by decide +kernel
abbrev s_law_grammar : Stmt := (top 52)
abbrev n_law_grammar : List Str := ["_law_d", "_law_most", "_law_clauses_here", "_law_left", "_law_names_here", "_law_k", "_law_shorts", "_law_options", "_law_name", "_law_low"]
theorem sc_law_grammar : FnScope ["_law_d", "_law_most", "_law_clauses_here", "_law_left", "_law_names_here", "_law_k", "_law_shorts", "_law_options", "_law_name", "_law_low"] ["_law_d", "_law_most", "_law_clauses_here"] (defScope s_law_grammar) := ⟨rfl, rfl, rfl, by decide +kernel, rfl, by decide +kernel, by decide +kernel⟩
-- slots: _law_d 0, _law_most 1, _law_clauses_here 2, _law_left 3, _law_names_here 4, _law_k 5, _law_shorts 6, _law_options 7, _law_name 8, _law_low 9
def spLGr (K : PySem.W.Frag) : Sp := fun vs H Q _ => ∃ (sc : Addr × List Int) (d : Addr) (most ch : Int), vs = [.ref d, .int most, .int ch] ∧ DiceAt K sc H d ∧ 1 ≤ most ∧ most ≤ 7 ∧ 0 ≤ ch ∧ ch ≤ 9 ∧ ∀ H' g es cs, SameX d H H' → DiceAt K sc H' d → GrAt H' g es cs → Q (.ref g) H'
theorem ok_law_grammar {f f1 f2 f3 f4 : Addr} {fd fd1 fd2 fd3 fd4 : FuncData} (F : FunM K mg "_law_grammar" s_law_grammar f fd) (T : Txt K mg) (D_law_next : Dn P w K mg base CX0 1 "_law_next" f1 fd1 ["_law_dice_here", "_law_many"] (spNext K)) (D_law_pick : Dn P w K mg base CX0 2 "_law_pick" f2 fd2 ["_law_d", "_law_some"] (spPick K))
    (D_law_kind : Dn P w K mg base CX0 3 "_law_kind" f3 fd3 ["_law_d"] (spLKind K)) (D_law_clauses : Dn P w K mg base CX0 3 "_law_clauses" f4 fd4 ["_law_d", "_law_names_here", "_law_most"] (spLCls K)) : Dn P w K mg base CX0 4 "_law_grammar" f fd ["_law_d", "_law_most", "_law_clauses_here"] (spLGr K) := by
  refine ⟨F.fn.ok sc_law_grammar (fun vs H Q E h => ?_) (fun cdv A outer s H vs Q E hr h => ?_), F.mg, F.fn.kp, (F.fn.binds fun _ _ _ _ _ _ us hl => match us, hl with | [_, _, _], _ => rfl)⟩
  · obtain ⟨_, _, _, _, rfl, _⟩ := h
    rfl
  · obtain ⟨sc, d, most, ch, rfl, hd, m1, m7, c0, c9, q⟩ := h
    refine ⟨_, (pss_cons (ps_set (i := 3) sc_law_grammar.nd rfl (by first | exact Or.inl rfl | exact Or.inr rfl) (pe_lst (pa_cons pe_str (pa_cons pe_str (pa_cons pe_str (pa_cons pe_str (pa_cons pe_str (pa_cons pe_str (pa_cons pe_str (pa_cons pe_str (pa_cons pe_str (pa_cons pe_str (pa_cons pe_str (pa_cons pe_str pa_nil))))))))))))))
      (pss_cons (ps_setLc (i := 4) (own := [("_law_k", 5)]) (by rfl) sc_law_grammar.nd rfl rfl (sw_true rfl rfl rfl (by decide +kernel)) (pi_range1 (by rfl) T.b_range (pa_cons (pe_op op_add pe_int (pe_call D_law_next.ok (hr.mono (by decide)) rfl D_law_next.mg D_law_next.kp D_law_next.bi .nil pass0 (pa_cons (pv 0) (pa_cons (pv 1) pa_nil)))) pa_nil)) (blkOk_by (own := [("_law_k", 5)]) (N := n_law_grammar) (sc := defScope s_law_grammar) (by decide +kernel)) (fun _ _ _ _ _ => (pg_name (i := 5) sc_law_grammar.nd rfl (by first | exact Or.inl rfl | exact Or.inr rfl))) (fun _ _ _ _ _ => pts_nil) (fun _ _ _ _ _ => (show PE _ _ (tBM K _ _ _ _) from (pe_bm PySem.F.plainAttrs_list PySem.F.slot_list_pop PySem.F.type_list_pop mt_popAt (pv 3) (pa_cons (pe_call D_law_next.ok (hr.mono (by decide)) rfl D_law_next.mg D_law_next.kp D_law_next.bi .nil pass0 (pa_cons (pv 0) (pa_cons (pe_callB (show CallR _ (.builtin "len") (rLenS K) from call_len_seq) (by rfl) T.b_len (by decide +kernel) (pa_cons (pv 3) pa_nil)) pa_nil))) pa_nil)))))
      (pss_cons (ps_set (i := 6) sc_law_grammar.nd rfl (by first | exact Or.inl rfl | exact Or.inr rfl) (pe_callTy (call_listStr rfl) (by rfl) T.b_list (by decide +kernel) (pa_cons pe_str pa_nil)))
      (pss_cons (ps_setLc (i := 7) (own := [("_law_name", 8)]) (by rfl) sc_law_grammar.nd rfl rfl (sw_true rfl rfl rfl (by decide +kernel)) (pi_list (pv 4)) (blkOk_by (own := [("_law_name", 8)]) (N := n_law_grammar) (sc := defScope s_law_grammar) (by decide +kernel)) (fun _ _ _ _ _ => (pg_name (i := 8) sc_law_grammar.nd rfl (by first | exact Or.inl rfl | exact Or.inr rfl))) (fun _ _ _ _ _ => pts_nil) (fun _ _ _ _ _ => (pe_tup (pa_cons (pv 8) (pa_cons (pe_call D_law_pick.ok (hr.mono (by decide)) rfl D_law_pick.mg D_law_pick.kp D_law_pick.bi .nil pass0 (pa_cons (pv 0) (pa_cons (pe_lst (pa_cons pe_str (pa_cons (show PE _ _ (tBM0 K _ _ _) from (pe_bm0 PySem.F.plainAttrs_list PySem.F.slot_list_pop PySem.F.type_list_pop mt_pop (pv 6))) pa_nil))) pa_nil))) (pa_cons (pe_call D_law_kind.ok (hr.mono (by decide)) rfl D_law_kind.mg D_law_kind.kp D_law_kind.bi .nil pass0 (pa_cons (pv 0) pa_nil)) pa_nil))))))
      (pss_cons (ps_set (i := 9) sc_law_grammar.nd rfl (by first | exact Or.inl rfl | exact Or.inr rfl) (pe_call D_law_next.ok (hr.mono (by decide)) rfl D_law_next.mg D_law_next.kp D_law_next.bi .nil pass0 (pa_cons (pv 0) (pa_cons pe_int pa_nil))))
      (pss_one (ps_ret (pe_tup (pa_cons (pe_callTy call_tuple_of (by rfl) T.b_tuple (by decide +kernel) (pa_cons (pv 7) pa_nil)) (pa_cons (pe_tup (pa_cons (pv 9) (pa_cons (pe_op op_add (pv 9) (pe_call D_law_next.ok (hr.mono (by decide)) rfl D_law_next.mg D_law_next.kp D_law_next.bi .nil pass0 (pa_cons (pv 0) (pa_cons (pe_op op_sub pe_int (pv 9)) pa_nil)))) pa_nil))) (pa_cons (pe_call D_law_clauses.ok (hr.mono (by decide)) rfl D_law_clauses.mg D_law_clauses.kp D_law_clauses.bi .nil pass0 (pa_cons (pv 0) (pa_cons (pv 4) (pa_cons (pv 2) pa_nil)))) pa_nil))))))))))), ?_⟩
    refine ⟨(show 12 ≤ sizeLine from szl (by decide)), fun l hl => ?_⟩
    have s1 := same_upd (o := .lst (okNames.map V.str)) hl
    obtain ⟨ld, hld⟩ := hd.lst
    have lnd : l ≠ d := Ne.symm (ne_of_none hld hl)
    refine ⟨_, rfl, _, rfl, sc, d, most, rfl, hd.same s1, by omega, by omega, fun H1 r x1 d1 r0 r1 => ⟨_, _, rfl, rfl, 1 + r, rfl, by omega, by omega, fun D hD => ?_⟩⟩
    have x01 := (SameX.of s1).trans x1
    have hl1 := x1 _ _ lnd (upd_same (H := H) (a := l) (o := .lst (okNames.map V.str)))
    obtain ⟨ld1, hld1⟩ := d1.lst
    have Dd : D ≠ d := Ne.symm (ne_of_none hld1 hD)
    have Dl : D ≠ l := Ne.symm (ne_of_none hl1 hD)
    have D0 : H D = none := by
      cases e : H D with
      | none => rfl
      | some o => rw [x01 _ _ Dd e] at hD; cases hD
    have sD := same_upd (o := .lst []) hD
    refine lc_range (lo := 0) (n := (1 + r).toNat) (fun i H' => ∃ nm lf : List Str, SameX d H H' ∧ DiceAt K sc H' d ∧ H' D = some (.lst (nm.map V.str)) ∧ H' l = some (.lst (lf.map V.str)) ∧ nm.length = i ∧ lf.length + i = 12 ∧ (nm ++ lf).Nodup ∧ ∀ z ∈ nm ++ lf, z ∈ okNames)
      ⟨[], okNames, x01.trans (SameX.of sD), d1.same sD, upd_same, sD _ _ hl1, rfl, rfl, by decide +kernel, fun z m => m⟩ ?_ ?_
    · rintro i H' hi ⟨nm, lf, x2, d2, h2, hlf, en, el, nd, ok⟩
      have i7 : i < 7 := by omega
      refine ⟨rfl, _, rfl, .inl ⟨rfl, _, .of hlf⟩, _, rfl, _, rfl, l, _, rfl, .inl (.of hlf), sc, d, _, rfl, d2, by rw [List.length_map]; omega, by rw [List.length_map]; omega, fun H3 k x3 d3 k0 k1 => ?_⟩
      rw [List.length_map] at k1
      obtain ⟨y, hy⟩ : ∃ y, lf[k.toNat]? = some y := ⟨_, List.getElem?_eq_getElem (by omega)⟩
      have hlf3 := x3 _ _ lnd hlf
      refine ⟨l, _, k, k.toNat, .str y, rfl, rfl, hlf3, by omega, by omega, seqIndex_of k0 (by rw [List.length_map]; omega), by rw [List.getElem?_map, hy]; rfl, _, (upd_ne Dl).trans (x3 _ _ Dd h2), sz _ (by rw [List.length_map]; omega), ?_⟩
      have xF : SameX d H (upd (upd H3 l (.lst ((lf.map V.str).eraseIdx k.toNat))) D (.lst (nm.map V.str ++ [.str y]))) := fun b o z e => by
        rw [upd_ne (ne_of_none e D0), upd_ne (ne_of_none e hl)]
        exact (x2.trans x3) _ _ z e
      have pr := perm_erase hy
      refine ⟨nm ++ [y], lf.eraseIdx k.toNat, xF, hd.re d3 xF ((upd_ne Dd.symm).trans (upd_ne lnd.symm)), by rw [upd_same, List.map_append]; rfl, by rw [upd_ne Dl.symm, upd_same, map_erase], by simp [en], ?_, ?_, fun z m => ?_⟩
      · have := pr.length_eq
        simp at this
        omega
      · rw [List.append_assoc]
        exact ((List.Perm.refl nm).append pr).nodup_iff.mpr nd
      · refine ok z ?_
        rw [List.append_assoc] at m
        exact ((List.Perm.refl nm).append pr).mem_iff.mp m
    · rintro H2 ⟨nm, lf, x2, d2, h2, hlf, en, el, nd, ok⟩
      have nmn : nm.Nodup := (List.nodup_append.mp nd).1
      have nmk : ∀ z ∈ nm, z ∈ okNames := fun z m => ok z (List.mem_append_left _ m)
      have nl7 : 1 ≤ nm.length ∧ nm.length ≤ 7 := by omega
      clear hlf nd ok el
      refine ⟨_, rfl, by decide, fun sh hsh => ?_⟩
      rw [signs_ok]
      have s2 := same_upd (o := .lst (okShorts.map V.str)) hsh
      obtain ⟨ld2, hld2⟩ := d2.lst
      have shd : sh ≠ d := Ne.symm (ne_of_none hld2 hsh)
      have shD : sh ≠ D := Ne.symm (ne_of_none h2 hsh)
      have sh0 : H sh = none := by
        cases e : H sh with
        | none => rfl
        | some o => rw [x2 _ _ shd e] at hsh; cases hsh
      refine ⟨_, rfl, D, rfl, ⟨_, .of (s2 _ _ h2)⟩, fun D2 hD2 => ?_⟩
      have d3 := d2.same s2
      have s3 := same_upd (o := .lst []) hD2
      obtain ⟨ld3, hld3⟩ := d3.lst
      have D2d : D2 ≠ d := Ne.symm (ne_of_none hld3 hD2)
      have D2D : D2 ≠ D := Ne.symm (ne_of_none (s2 _ _ h2) hD2)
      have D2s : D2 ≠ sh := Ne.symm (ne_of_none (upd_same (H := H2) (a := sh)) hD2)
      have x3 := x2.trans (SameX.of s2)
      have D20 : H D2 = none := by
        cases e : H D2 with
        | none => rfl
        | some o => rw [x3 _ _ D2d e] at hD2; cases hD2
      refine lc_list (K := K) (a := D) (xs := nm.map V.str) (fun i H' => ∃ es : List OE, SameX d H H' ∧ DiceAt K sc H' d ∧ H' D2 = some (.lst (es.map fun e => V.ref e.p)) ∧ (∀ e ∈ es, OptAt H' e) ∧ es.map (fun e : OE => e.n) = nm.take i ∧ H' sh = some (.lst ((okShorts.take (12 - i)).map V.str)) ∧
          (∀ (j : Nat) (e : OE), es[j]? = some e → e.s = "" ∨ okShorts[11 - j]? = some e.s) ∧ H' D = some (.lst (nm.map V.str)))
        ⟨[], x3.trans (SameX.of s3), d3.same s3, upd_same, (fun _ h => nomatch h), rfl, s3 _ _ upd_same, (fun j e h => by simp at h), s3 _ _ (s2 _ _ h2)⟩ (fun i H' _ ⟨_, _, _, _, _, _, _, _, h⟩ => .of h) ?_ ?_
      · rintro i y H' hy ⟨es, x4, d4, h2', hO, en, hsh', hs, hDn⟩
        obtain ⟨n, hi, rfl⟩ := map_get hy
        have il := lt_of_get hi
        have eil : es.length = i := by
          have := congrArg List.length en
          rw [List.length_map, List.length_take] at this
          omega
        obtain ⟨edl, sl, hsl, msl, hget⟩ := shorts_pop i (by omega)
        refine ⟨rfl, _, rfl, _, rfl, _, rfl, .inl ⟨rfl, _, .of hsh'⟩, sh, _, .str sl, rfl, rfl, hsh', hget, sz2, fun lp hlp => ?_⟩
        rw [edl] at hlp ⊢
        have xp : SameX d H (upd H' sh (.lst ((okShorts.take (12 - (i + 1))).map V.str))) := fun b o z e => by
          rw [upd_ne (ne_of_none e sh0)]
          exact x4 _ _ z e
        have dp := hd.re d4 xp (upd_ne shd.symm)
        have t1 : ∀ b ys, H' b = some (HO.tup ys) → (upd H' sh (.lst ((okShorts.take (12 - (i + 1))).map V.str))) b = some (.tup ys) := fun b ys h => by
          rw [upd_ne (fun z => by rw [z, hsh'] at h; cases h)]
          exact h
        have s5 := same_upd (o := .lst [.str "", .str sl]) hlp
        obtain ⟨ldp, hldp⟩ := dp.lst
        refine ⟨sc, d, lp, _, rfl, dp.same s5, upd_same, Ne.symm (ne_of_none hldp hlp), by simp, by simp, fun H5 v x5 d5 mv => ?_⟩
        refine ⟨_, rfl, sc, d, rfl, d5, fun H6 kv x6 d6 kd => ⟨sz3, fun t ht => ?_⟩⟩
        obtain ⟨sn, rfl, hsn⟩ : ∃ sn, v = V.str sn ∧ (sn = "" ∨ sn = sl) := by
          rcases List.mem_cons.mp mv with z | z
          · exact ⟨_, z, .inl rfl⟩
          · exact ⟨_, List.mem_singleton.mp z, .inr rfl⟩
        have s6 := same_upd (o := .tup [.str n, .str sn, kv]) ht
        have lk : ∀ b ys, b ≠ d → b ≠ sh → H' b = some (HO.lst ys) → (upd H6 t (.tup [.str n, .str sn, kv])) b = some (.lst ys) := fun b ys z1 z2 h => s6 _ _ (x6 _ _ z1 (x5 _ _ z1 (s5 _ _ ((upd_ne z2).trans h))))
        have h26 := lk _ _ D2d D2s h2'
        have tF : ∀ b ys, (upd H6 t (.tup [.str n, .str sn, kv])) b = some (HO.tup ys) → (upd (upd H6 t (.tup [.str n, .str sn, kv])) D2 (.lst (es.map (fun e => V.ref e.p) ++ [.ref t]))) b = some (.tup ys) := fun b ys h => by
          rw [upd_ne (fun z => by rw [z, h26] at h; cases h)]
          exact h
        have tk : ∀ b ys, H' b = some (HO.tup ys) → (upd (upd H6 t (.tup [.str n, .str sn, kv])) D2 (.lst (es.map (fun e => V.ref e.p) ++ [.ref t]))) b = some (.tup ys) := fun b ys h => tF _ _ (s6 _ _ (d5.tup x6 ((dp.same s5).tup x5 (s5 _ _ (t1 _ _ h)))))
        have xF : SameX d H (upd (upd H6 t (.tup [.str n, .str sn, kv])) D2 (.lst (es.map (fun e => V.ref e.p) ++ [.ref t]))) := fun b o z e => by
          rw [upd_ne (ne_of_none e D20)]
          exact s6 _ _ (x6 _ _ z (x5 _ _ z (s5 _ _ (xp _ _ z e))))
        refine ⟨_, h26, sz _ (by rw [List.length_map]; omega), es ++ [⟨t, n, sn, kv⟩], xF, hd.re (d6.same s6) xF (upd_ne D2d.symm), by rw [upd_same, List.map_append]; rfl, fun e m => ?_, ?_, ?_, fun j e hj => ?_, ?_⟩
        · rcases List.mem_append.mp m with z | z
          · have o := hO e z
            exact ⟨tk _ _ o.at_, o.kd.keep tk, o.nm, o.sh⟩
          · have z := List.mem_singleton.mp z
            subst z
            refine ⟨tF _ _ upd_same, (kd.keep fun b ys h => s6 _ _ h).keep tF, nmk _ (mem_of_get hi), ?_⟩
            rcases hsn with z | z
            · rw [z]; exact List.mem_cons_self
            · rw [z]; exact List.mem_cons_of_mem _ msl
        · rw [List.map_append, en, take_more hi]
          rfl
        · rw [upd_ne D2s.symm]
          exact s6 _ _ (x6 _ _ shd (x5 _ _ shd (s5 _ _ upd_same)))
        · by_cases c : j < es.length
          · rw [List.getElem?_append_left c] at hj
            exact hs j e hj
          · rw [List.getElem?_append_right (by omega)] at hj
            have : j - es.length = 0 := by
              cases hh : j - es.length with
              | zero => rfl
              | succ n => rw [hh] at hj; simp at hj
            rw [this] at hj
            have hj : (⟨t, n, sn, kv⟩ : OE) = e := by simpa using hj
            have jj : j = i := by omega
            rw [← hj, jj]
            rcases hsn with z | z
            · exact .inl z
            · right; rw [hsl, z]
        · rw [upd_ne D2D.symm]
          exact lk _ _ Dd shD.symm hDn
      · rintro H4 ⟨es, x4, d4, h4, hO, en, hsh', hs, hDn⟩
        rw [List.length_map, List.take_length] at en
        have esl : es.length = nm.length := by
          have := congrArg List.length en
          rwa [List.length_map] at this
        have oo : OptsOk es := by
          refine ⟨by omega, by omega, by rw [en]; exact nmn, fun i j e e' h1 h2 hij hne hee => ?_⟩
          rcases hs i e h1 with z | z
          · exact hne z
          · rcases hs j e' h2 with z' | z'
            · rw [← hee] at z'
              exact hne z'
            · rw [← hee] at z'
              have i1 := lt_of_get h1
              have j1 := lt_of_get h2
              have := (List.getElem?_inj (by show 11 - i < 12; omega) shorts_nd).mp (z.trans z'.symm)
              omega
        refine ⟨_, rfl, sc, d, 10, rfl, d4, by decide, by decide, fun H5 lo x5 d5 lo0 lo1 => ?_⟩
        have t5 : ∀ b ys, H4 b = some (HO.tup ys) → H5 b = some (.tup ys) := fun b ys h => d4.tup x5 h
        have h5 := x5 _ _ D2d h4
        -- tuple(options)
        refine ⟨_, rfl, D2, _, rfl, .inl ⟨.of h5, fun o ho => ?_⟩⟩
        have s6 := same_upd (o := .tup (es.map fun e => V.ref e.p)) ho
        refine ⟨_, rfl, _, rfl, _, rfl, _, rfl, _, _, rfl, rfl, sc, d, 10 - lo, rfl, d5.same s6, by omega, by omega, fun H7 r7 x7 d7 r70 r71 => ⟨_, _, rfl, rfl, sz2, fun p hp => ?_⟩⟩
        have s8 := same_upd (o := .tup [.int lo, .int (lo + r7)]) hp
        have d8 := d7.same s8
        have t8 : ∀ b ys, H5 b = some (HO.tup ys) → (upd H7 p (.tup [.int lo, .int (lo + r7)])) b = some (.tup ys) := fun b ys h => s8 _ _ ((d5.same s6).tup x7 (s6 _ _ h))
        have o8 : (upd H7 p (.tup [.int lo, .int (lo + r7)])) o = some (.tup (es.map fun e => V.ref e.p)) := s8 _ _ ((d5.same s6).tup x7 upd_same)
        have D8 := s8 _ _ (x7 _ _ Dd (s6 _ _ (x5 _ _ Dd hDn)))
        have x08 : SameX d H (upd H7 p (.tup [.int lo, .int (lo + r7)])) := (((x4.trans x5).trans (SameX.of s6)).trans x7).trans (SameX.of s8)
        refine ⟨_, rfl, _, rfl, _, rfl, sc, d, D, nm, ch, rfl, d8, D8, Dd, (fun z => by rw [z] at nl7; simp at nl7), by omega, c0, by omega, fun H9 c cs x9 d9 hc hcs hcl => ⟨sz3, fun g hg => ?_⟩⟩
        have s10 := same_upd (o := .tup [.ref o, .ref p, .ref c]) hg
        have t10 : ∀ b ys, (upd H7 p (.tup [.int lo, .int (lo + r7)])) b = some (HO.tup ys) → (upd H9 g (.tup [.ref o, .ref p, .ref c])) b = some (.tup ys) := fun b ys h => s10 _ _ (d8.tup x9 h)
        refine q _ g es cs ((x08.trans x9).trans (SameX.of s10)) (d9.same s10) ⟨⟨o, p, c, lo, lo + r7, upd_same, t10 _ _ o8, t10 _ _ upd_same, lo0, by omega, by omega, s10 _ _ hc⟩, fun e m => ?_, oo, fun e m => s10 _ _ (hcs e m).1, fun e m => ?_, by omega⟩
        · have O := hO e m
          have tt : ∀ b ys, H4 b = some (HO.tup ys) → (upd H9 g (.tup [.ref o, .ref p, .ref c])) b = some (.tup ys) := fun b ys h => t10 _ _ (t8 _ _ (t5 _ _ h))
          exact ⟨tt _ _ O.at_, O.kd.keep tt, O.nm, O.sh⟩
        · obtain ⟨_, h1, h2, h3⟩ := hcs e m
          exact ⟨h1, by rw [en]; exact h2, by rw [en]; exact h3⟩
end
end Fk
/-! The law's sets. -/
namespace Fk
open PySem PySem.Spec PyProof.Rows L2
section
variable {P : Program} {w : World} {K : PySem.W.Frag} {mg : Str → Option Value} {base : Heap}
abbrev s_law_names : Stmt := (top 53)
abbrev n_law_names : List Str := ["_law_grammar_here", "_law_one"]
theorem sc_law_names : FnScope ["_law_grammar_here", "_law_one"] ["_law_grammar_here"] (defScope s_law_names) := ⟨rfl, rfl, rfl, by decide +kernel, rfl, by decide +kernel, by decide +kernel⟩
-- slots: _law_grammar_here 0, _law_one 1
theorem ok_law_names {f : Addr} {fd : FuncData} (F : FunM K mg "_law_names" s_law_names f fd) : Dn P w K mg base CX0 1 "_law_names" f fd ["_law_grammar_here"] spNames := by
  refine ⟨F.fn.ok sc_law_names (fun vs H Q E h => ?_) (fun cdv A outer s H vs Q E hr h => ?_), F.mg, F.fn.kp, (F.fn.binds fun _ _ _ _ _ _ us hl => match us, hl with | [_], _ => rfl)⟩
  · obtain ⟨a, _, _, rfl, _⟩ := h
    rfl
  · obtain ⟨g, es, cs, rfl, G, q⟩ := h
    obtain ⟨o, p, c, lo, hi, a1, a2, _⟩ := G.ex
    refine ⟨_, (pss_one (ps_ret (pe_lc (own := [("_law_one", 1)]) (by rfl) sc_law_names.nd (pi_tup (pe_ix ix_tup (pv 0) pe_int (fun _ _ => rfl))) (blkOk_by (own := [("_law_one", 1)]) (N := n_law_names) (sc := defScope s_law_names) (by decide +kernel)) (fun _ _ _ _ _ => (pg_name (i := 1) sc_law_names.nd rfl (by first | exact Or.inl rfl | exact Or.inr rfl))) (fun _ _ _ _ _ => pts_nil) (fun _ _ _ _ _ => (pe_ix (show IxR _ (rIxT K) from ix_tup) (pv 1) pe_int (fun _ _ => rfl)))))), ?_⟩
    refine ⟨_, rfl, _, _, _, _, rfl, rfl, .of a1, rfl, o, rfl, ⟨_, .of a2⟩, fun D hD => ?_⟩
    refine lc_tup (K := K) (a := o) (xs := es.map fun e => V.ref e.p) (fun i H' => Same H H' ∧ H' D = some (.lst (((es.take i).map (·.n)).map V.str))) ⟨same_upd hD, upd_same⟩ (fun i H' _ p => .of (p.1 _ _ a2)) ?_ ?_
    · rintro i y H' hy ⟨s2, hd⟩
      obtain ⟨e, he, rfl⟩ := map_get hy
      have oe := ((G.os e (mem_of_get he)).same s2).at_
      have hi := lt_of_get he
      have hm := G.oo.most
      refine ⟨rfl, _, rfl, _, _, _, _, rfl, rfl, .of oe, rfl, _, hd, sz _ (by simp; omega), same_put s2 hD, ?_⟩
      rw [upd_same, take_more he, List.map_append, List.map_append]
      rfl
    · rintro H' ⟨s2, hd⟩
      rw [List.length_map, List.take_length] at hd
      exact q _ D s2 hD hd
abbrev s_law_both : Stmt := (top 54)
abbrev n_law_both : List Str := ["_law_clause", "_law_word", "_law_first", "_law_second"]
theorem sc_law_both : FnScope ["_law_clause", "_law_word", "_law_first", "_law_second"] ["_law_clause"] (defScope s_law_both) := ⟨rfl, rfl, rfl, by decide +kernel, rfl, by decide +kernel, by decide +kernel⟩
-- slots: _law_clause 0, _law_word 1, _law_first 2, _law_second 3
def spBoth : Sp := fun vs H Q _ => ∃ c : CE, vs = [.ref c.p] ∧ ClsAt H c ∧ ∀ t a b H', Same H H' → H' t = some (.lst [.ref a, .ref b]) → H' a = some (litT (lit1 c)) → H' b = some (litT (lit2 c)) → Q (.ref t) H'
theorem ok_law_both {f : Addr} {fd : FuncData} (F : FunM K mg "_law_both" s_law_both f fd) : Dn P w K mg base CX0 1 "_law_both" f fd ["_law_clause"] spBoth := by
  refine ⟨F.fn.ok sc_law_both (fun vs H Q E h => ?_) (fun cdv A outer s H vs Q E hr h => ?_), F.mg, F.fn.kp, (F.fn.binds fun _ _ _ _ _ _ us hl => match us, hl with | [_], _ => rfl)⟩
  · obtain ⟨c, rfl, _⟩ := h
    rfl
  · obtain ⟨c, rfl, h, q⟩ := h
    refine ⟨_, (pss_cons (ps_asg (pv 0) (pg_tup rfl (pgs_cons (pg_name (i := 1) sc_law_both.nd rfl (by first | exact Or.inl rfl | exact Or.inr rfl)) (pgs_cons (pg_name (i := 2) sc_law_both.nd rfl (by first | exact Or.inl rfl | exact Or.inr rfl)) (pgs_cons (pg_name (i := 3) sc_law_both.nd rfl (by first | exact Or.inl rfl | exact Or.inr rfl)) pgs_nil)))))
      (pss_cons (ps_if (pt_cmpR op_eq (pv 1) pe_str (nomark _)) (pss_one (ps_ret (pe_lst (pa_cons (pe_tup (pa_cons (pv 2) (pa_cons pe_bl pa_nil))) (pa_cons (pe_tup (pa_cons (pv 3) (pa_cons pe_bl pa_nil))) pa_nil))))) pss_nil)
      (pss_one (ps_ret (pe_lst (pa_cons (pe_tup (pa_cons (pv 2) (pa_cons (pe_cmpR op_eq (pv 1) pe_str (nomark _)) pa_nil))) (pa_cons (pe_tup (pa_cons (pv 3) (pa_cons (pe_cmpR op_eq (pv 1) pe_str (nomark _)) pa_nil))) pa_nil))))))), ?_⟩
    refine ⟨_, rfl, _, _, rfl, .of h, rfl, _, _, rfl, _, _, rfl, _, _, rfl, rfl, ?_⟩
    refine ⟨_, rfl, rfl, _, rfl, ifB (fun e => ?_) (fun e => ?_)⟩
    · rw [dec_w] at e
      have e := of_decide_eq_true e
      refine ⟨_, rfl, sz2, fun a ha => ⟨_, rfl, sz2, fun b hb => ⟨sz2, fun t ht => ?_⟩⟩⟩
      have s1 := same_upd (H := H) (o := .tup [.str c.a, .bl false]) ha
      have s2 := same_upd (o := .tup [.str c.b, .bl true]) hb
      have s3 := same_upd (o := .lst [.ref a, .ref b]) ht
      refine q t a b _ ((s1.trans s2).trans s3) upd_same ?_ ?_
      · exact s3 _ _ (s2 _ _ (by rw [upd_same]; simp [lit1, litT, e]))
      · exact s3 _ _ (by rw [upd_same]; simp [lit2, litT, e])
    · rw [dec_w] at e
      have e := of_decide_eq_false e
      refine ⟨_, rfl, _, rfl, rfl, sz2, fun a ha => ⟨_, rfl, _, rfl, rfl, sz2, fun b hb => ⟨sz2, fun t ht => ?_⟩⟩⟩
      have s1 := same_upd (H := H) (o := .tup [.str c.a, .bl (decide (V.str c.w = V.str "either"))]) ha
      have s2 := same_upd (o := .tup [.str c.b, .bl (decide (V.str c.w = V.str "either"))]) hb
      have s3 := same_upd (o := .lst [.ref a, .ref b]) ht
      refine q t a b _ ((s1.trans s2).trans s3) upd_same ?_ ?_
      · exact s3 _ _ (s2 _ _ (by rw [upd_same, dec_w]; simp [lit1, litT, e]))
      · exact s3 _ _ (by rw [upd_same, dec_w]; simp [lit2, litT, e])
/-- a clause and a set of names -/
def fit1 (S : List Str) (c : CE) : Bool := !(decide (c.w = "needs") && decide (c.a ∈ S) && !decide (c.b ∈ S)) && !(decide (c.w = "excludes") && decide (c.a ∈ S) && decide (c.b ∈ S)) && !(decide (c.w = "either") && !decide (c.a ∈ S) && !decide (c.b ∈ S))
def fits (cs : List CE) (S : List Str) : Bool := cs.all (fit1 S)
theorem fit1_iff {S : List Str} {c : CE} (h : c.w ∈ clWords) : fit1 S c = true ↔ Fc.val (fun n => decide (n ∈ S)) (lit1 c) ∨ Fc.val (fun n => decide (n ∈ S)) (lit2 c) := by
  have h3 : c.w = "needs" ∨ c.w = "excludes" ∨ c.w = "either" := by simpa [clWords] using h
  have e1 : ¬ (("needs" : Str) = "excludes") := by decide
  have e2 : ¬ (("needs" : Str) = "either") := by decide
  have e3 : ¬ (("excludes" : Str) = "either") := by decide
  have e4 : ¬ (("excludes" : Str) = "needs") := by decide
  have e5 : ¬ (("either" : Str) = "needs") := by decide
  have e6 : ¬ (("either" : Str) = "excludes") := by decide
  unfold fit1 lit1 lit2 Fc.val
  rcases h3 with z | z | z <;> rw [z] <;> by_cases a : c.a ∈ S <;> by_cases b : c.b ∈ S <;> simp [a, b, e1, e2, e3, e4, e5, e6]
theorem fits_iff {cs : List CE} {S : List Str} (h : ∀ c ∈ cs, c.w ∈ clWords) : fits cs S = true ↔ Fc.Sat (clsOf cs) (fun n => decide (n ∈ S)) := by
  unfold fits Fc.Sat clsOf
  rw [List.all_eq_true]
  constructor
  · intro k c m
    obtain ⟨d, md, rfl⟩ := List.mem_map.mp m
    exact (fit1_iff (h d md)).mp (k d md)
  · intro k d md
    exact (fit1_iff (h d md)).mpr (k _ (List.mem_map.mpr ⟨d, md, rfl⟩))
theorem next_of {D : Ends} {σ : L2.St} {H : Hp} (h : D.nx σ H) : tNext D σ H := h
theorem and3 {t1 t2 t3 : TT} {σ : L2.St} {H : Hp} {b1 b2 b3 : Bool} {Q : Bool → Hp → Prop} (h1 : ∀ Q : Bool → Hp → Prop, Q b1 H → t1 σ H Q) (h2 : ∀ Q : Bool → Hp → Prop, Q b2 H → t2 σ H Q) (h3 : ∀ Q : Bool → Hp → Prop, Q b3 H → t3 σ H Q) (q : Q (b1 && b2 && b3) H) : tAnd t1 (tAnd t2 t3) σ H Q := by
  refine h1 _ ?_
  cases b1 with
  | false => exact iteF q
  | true =>
    refine iteT (h2 _ ?_)
    cases b2 with
    | false => exact iteF q
    | true => exact iteT (h3 _ q)
theorem if3 {t1 t2 t3 : TT} {t u : TS} {D : Ends} {σ : L2.St} {H : Hp} {b1 b2 b3 : Bool} (h1 : ∀ Q : Bool → Hp → Prop, Q b1 H → t1 σ H Q) (h2 : ∀ Q : Bool → Hp → Prop, Q b2 H → t2 σ H Q) (h3 : ∀ Q : Bool → Hp → Prop, Q b3 H → t3 σ H Q) (q : if (b1 && b2 && b3) = true then t D σ H else u D σ H) : tIfS (tAnd t1 (tAnd t2 t3)) t u D σ H := and3 h1 h2 h3 q
theorem seq_of {t u : TS} {D : Ends} {σ : L2.St} {H : Hp} (h : t { D with nx := u D } σ H) : tSeq t u D σ H := h
abbrev s_law_fits : Stmt := (top 55)
abbrev n_law_fits : List Str := ["_law_clauses_here", "_law_some", "_law_word", "_law_first", "_law_second"]
theorem sc_law_fits : FnScope ["_law_clauses_here", "_law_some", "_law_word", "_law_first", "_law_second"] ["_law_clauses_here", "_law_some"] (defScope s_law_fits) := ⟨rfl, rfl, rfl, by decide +kernel, rfl, by decide +kernel, by decide +kernel⟩
-- slots: _law_clauses_here 0, _law_some 1, _law_word 2, _law_first 3, _law_second 4
def spFits (K : PySem.W.Frag) : Sp := fun vs H Q _ => ∃ (c a : Addr) (cs : List CE) (S : List Str), vs = [.ref c, .ref a] ∧ H c = some (.tup (cs.map fun c => V.ref c.p)) ∧ (∀ e ∈ cs, ClsAt H e) ∧ H a = some (.lst (S.map V.str)) ∧ Q (.bl (fits cs S)) H
theorem ok_law_fits {f : Addr} {fd : FuncData} (F : FunM K mg "_law_fits" s_law_fits f fd) : Dn P w K mg base CX0 1 "_law_fits" f fd ["_law_clauses_here", "_law_some"] (spFits K) := by
  refine ⟨F.fn.ok sc_law_fits (fun vs H Q E h => ?_) (fun cdv A outer s H vs Q E hr h => ?_), F.mg, F.fn.kp, (F.fn.binds fun _ _ _ _ _ _ us hl => match us, hl with | [_, _], _ => rfl)⟩
  · obtain ⟨_, _, _, _, rfl, _⟩ := h
    rfl
  · obtain ⟨c, a, cs, S, rfl, hc, hcs, ha, q⟩ := h
    refine ⟨_, (pss_cons (ps_for PassesOwn.never rfl (pi_tup (pv 0)) (pg_tup rfl (pgs_cons (pg_name (i := 2) sc_law_fits.nd rfl (by first | exact Or.inl rfl | exact Or.inr rfl)) (pgs_cons (pg_name (i := 3) sc_law_fits.nd rfl (by first | exact Or.inl rfl | exact Or.inr rfl)) (pgs_cons (pg_name (i := 4) sc_law_fits.nd rfl (by first | exact Or.inl rfl | exact Or.inr rfl)) pgs_nil)))) (pss_cons (ps_if (PW.pt (pw_and (pt_cmpR op_eq (pv 2) pe_str (nomark _)) (pw_and (pt_cmpR op_in_seq (pv 3) (pv 1) (by rfl)) (pw_and1 (pt_cmpR op_notIn_seq (pv 4) (pv 1) (by rfl)))))) (pss_one (ps_ret pe_bl)) pss_nil)
      (pss_cons (ps_if (PW.pt (pw_and (pt_cmpR op_eq (pv 2) pe_str (nomark _)) (pw_and (pt_cmpR op_in_seq (pv 3) (pv 1) (by rfl)) (pw_and1 (pt_cmpR op_in_seq (pv 4) (pv 1) (by rfl)))))) (pss_one (ps_ret pe_bl)) pss_nil)
      (pss_one (ps_if (PW.pt (pw_and (pt_cmpR op_eq (pv 2) pe_str (nomark _)) (pw_and (pt_cmpR op_notIn_seq (pv 3) (pv 1) (by rfl)) (pw_and1 (pt_cmpR op_notIn_seq (pv 4) (pv 1) (by rfl)))))) (pss_one (ps_ret pe_bl)) pss_nil)))))
      (pss_one (ps_ret pe_bl))), ?_⟩
    refine ⟨_, rfl, c, rfl, ⟨_, .of hc⟩, ?_⟩
    refine for_tup (K := K) (a := c) (xs := cs.map fun c => V.ref c.p) (fun i σ H' => ∃ v2 v3 v4 : Option V, σ = [some (.ref c), some (.ref a), v2, v3, v4] ∧ H' = H ∧ (cs.take i).all (fit1 S) = true) ⟨_, _, _, rfl, rfl, rfl⟩ (fun i σ H' _ ⟨_, _, _, _, e, _⟩ => by rw [e]; exact .of hc) ?_ ?_
    · rintro i y σ H' hy ⟨v2, v3, v4, rfl, rfl, hf⟩
      obtain ⟨e, hi, rfl⟩ := map_get hy
      have he := hcs e (mem_of_get hi)
      have bad : fit1 S e = false → fits cs S = false := fun z => by
        cases hh : fits cs S with
        | false => rfl
        | true => have := List.all_eq_true.mp hh e (mem_of_get hi); rw [z] at this; cases this
      have good : fit1 S e = true → (cs.take (i + 1)).all (fit1 S) = true := fun z => by
        rw [take_more hi, List.all_append, hf]
        simp [z]
      have inA : ∀ x : Str, inV (.str x) (S.map V.str) = decide (x ∈ S) := fun x => inV_str x S
      refine ⟨_, _, rfl, .of he, rfl, _, _, rfl, _, _, rfl, _, _, rfl, rfl, ?_⟩
      refine and3 (b1 := decide (e.w = "needs")) (b2 := decide (e.a ∈ S)) (b3 := !decide (e.b ∈ S)) (fun Q q => ⟨_, rfl, rfl, _, rfl, by rw [dec_w]; exact q⟩) (fun Q q => ⟨_, rfl, _, rfl, a, _, rfl, .inl (.of ha), rfl, flat_strs _, _, rfl, by show Q (inV _ _) _; rw [inV_str]; exact q⟩) (fun Q q => ⟨_, rfl, _, rfl, a, _, rfl, .inl (.of ha), rfl, flat_strs _, _, rfl, by show Q (!inV _ _) _; rw [inV_str]; exact q⟩) ?_
      refine ifB (fun c1 => ?_) (fun c1 => ?_)
      · rw [bad (by unfold fit1; rw [c1]; rfl)] at q
        exact q
      refine next_of ?_
      dsimp only
      refine seq_of ?_
      refine if3 (b1 := decide (e.w = "excludes")) (b2 := decide (e.a ∈ S)) (b3 := decide (e.b ∈ S)) (fun Q q => ⟨_, rfl, rfl, _, rfl, by rw [dec_w]; exact q⟩) (fun Q q => ⟨_, rfl, _, rfl, a, _, rfl, .inl (.of ha), rfl, flat_strs _, _, rfl, by show Q (inV _ _) _; rw [inV_str]; exact q⟩) (fun Q q => ⟨_, rfl, _, rfl, a, _, rfl, .inl (.of ha), rfl, flat_strs _, _, rfl, by show Q (inV _ _) _; rw [inV_str]; exact q⟩) ?_
      refine ifB (fun c2 => ?_) (fun c2 => ?_)
      · rw [bad (by unfold fit1; rw [c1, c2]; rfl)] at q
        exact q
      refine next_of ?_
      dsimp only
      refine if3 (b1 := decide (e.w = "either")) (b2 := !decide (e.a ∈ S)) (b3 := !decide (e.b ∈ S)) (fun Q q => ⟨_, rfl, rfl, _, rfl, by rw [dec_w]; exact q⟩) (fun Q q => ⟨_, rfl, _, rfl, a, _, rfl, .inl (.of ha), rfl, flat_strs _, _, rfl, by show Q (!inV _ _) _; rw [inV_str]; exact q⟩) (fun Q q => ⟨_, rfl, _, rfl, a, _, rfl, .inl (.of ha), rfl, flat_strs _, _, rfl, by show Q (!inV _ _) _; rw [inV_str]; exact q⟩) ?_
      refine ifB (fun c3 => ?_) (fun c3 => ?_)
      · rw [bad (by unfold fit1; rw [c1, c2, c3]; rfl)] at q
        exact q
      exact ⟨_, _, _, rfl, rfl, good (by unfold fit1; rw [c1, c2, c3]; rfl)⟩
    · rintro σ H' ⟨v2, v3, v4, rfl, rfl, hf⟩
      rw [List.length_map, List.take_length] at hf
      show Q (.bl true) H'
      rw [show fits cs S = true from hf] at q
      exact q
end
end Fk
/-! All accepted sets. -/
namespace Fk
open PySem PySem.Spec PyProof.Rows L2
section
variable {P : Program} {w : World} {K : PySem.W.Frag} {mg : Str → Option Value} {base : Heap}
abbrev SE := List Str × Addr
def LsAt (H : Hp) (ss : List SE) : Prop := ∀ s ∈ ss, H s.2 = some (.lst (s.1.map V.str))
theorem LsAt.same {H H' : Hp} {ss : List SE} (s : Same H H') (h : LsAt H ss) : LsAt H' ss := fun e m => s _ _ (h e m)
structure SetsOf (ns : List Str) (cs : List CE) (L : List (List Str)) : Prop where
  ok : ∀ S ∈ L, fits cs S = true
  sub : ∀ S ∈ L, ∀ n ∈ S, n ∈ ns
  cov : ∀ f : Str → Bool, Fc.Sat (clsOf cs) f → ∃ S ∈ L, ∀ n ∈ ns, (n ∈ S ↔ f n = true)
theorem sat_agree {ns : List Str} {cs : List CE} (ho : ∀ c ∈ cs, c.a ∈ ns ∧ c.b ∈ ns) {f g : Str → Bool} (h : ∀ n ∈ ns, f n = g n) (s : Fc.Sat (clsOf cs) f) : Fc.Sat (clsOf cs) g := fun c m => by
  obtain ⟨d, md, rfl⟩ := List.mem_map.mp m
  have h1 := h _ (ho d md).1
  have h2 := h _ (ho d md).2
  rcases s _ m with z | z
  · refine .inl ?_
    unfold Fc.val at z ⊢
    rw [lit1_fst] at z ⊢
    rw [← h1]
    exact z
  · refine .inr ?_
    unfold Fc.val at z ⊢
    rw [lit2_fst] at z ⊢
    rw [← h2]
    exact z
abbrev PE3 := Addr × SE
/-- (length, list of texts) as data -/
def stD (b : PE3) : PyData := .tuple [.int b.2.1.length, .list (b.2.1.map PyData.str)]
theorem alike_strs : ∀ a b : List Str, PySem.W.alikeAll (a.map PyData.str) (b.map PyData.str) = true
  | [], _ => by simp [PySem.W.alikeAll]
  | _ :: _, [] => by simp [PySem.W.alikeAll]
  | x :: xs, y :: ys => by
    show (PySem.W.alike (.str x) (.str y) && PySem.W.alikeAll (xs.map PyData.str) (ys.map PyData.str)) = true
    rw [alike_strs xs ys]
    simp [PySem.W.alike]
theorem alike_st (a b : PE3) : PySem.W.alike (stD a) (stD b) = true := by
  show (true && (PySem.W.alikeAll (a.2.1.map PyData.str) (b.2.1.map PyData.str) && true)) = true
  rw [alike_strs]
  rfl
theorem dep_st (a : PE3) : (stD a).depth ≤ 16 := by
  have h : PyData.depthAll (a.2.1.map PyData.str) ≤ 0 := dep_all fun d m => by
    obtain ⟨z, _, rfl⟩ := List.mem_map.mp m
    simp [PyData.depth]
  simp only [stD, PyData.depth, PyData.depthAll]
  omega
abbrev s_law_sets : Stmt := (top 56)
abbrev n_law_sets : List Str := ["_law_grammar_here", "_law_found", "_law_name", "_law_one", "_law_size"]
theorem sc_law_sets : FnScope ["_law_grammar_here", "_law_found", "_law_name", "_law_one", "_law_size"] ["_law_grammar_here"] (defScope s_law_sets) := ⟨rfl, rfl, rfl, by decide +kernel, rfl, by decide +kernel, by decide +kernel⟩
-- slots: _law_grammar_here 0, _law_found 1, _law_name 2, _law_one 3, _law_size 4
def spSets (K : PySem.W.Frag) : Sp := fun vs H Q _ => ∃ (g : Addr) (es : List OE) (cs : List CE), vs = [.ref g] ∧ GrAt H g es cs ∧ ∀ H' p (rs : List SE), Same H H' → H' p = some (.lst (rs.map fun r => V.ref r.2)) → LsAt H' rs → SetsOf (es.map (·.n)) cs (rs.map Prod.fst) → rs.length ≤ 128 → Q (.ref p) H'
theorem ok_law_sets {f f1 f2 : Addr} {fd fd1 fd2 : FuncData} (F : FunM K mg "_law_sets" s_law_sets f fd) (T : Txt K mg) (D_law_names : Dn P w K mg base CX0 1 "_law_names" f1 fd1 ["_law_grammar_here"] spNames) (D_law_fits : Dn P w K mg base CX0 1 "_law_fits" f2 fd2 ["_law_clauses_here", "_law_some"] (spFits K)) :
    Dn P w K mg base CX0 2 "_law_sets" f fd ["_law_grammar_here"] (spSets K) := by
  refine ⟨F.fn.ok sc_law_sets (fun vs H Q E h => ?_) (fun cdv A outer s H vs Q E hr h => ?_), F.mg, F.fn.kp, (F.fn.binds fun _ _ _ _ _ _ us hl => match us, hl with | [_], _ => rfl)⟩
  · obtain ⟨_, _, _, rfl, _⟩ := h
    rfl
  · obtain ⟨g, es, cs, rfl, G, q⟩ := h
    refine ⟨_, (pss_cons (ps_set (i := 1) sc_law_sets.nd rfl (by first | exact Or.inl rfl | exact Or.inr rfl) (pe_lst (pa_cons (pe_lst pa_nil) pa_nil)))
      (pss_cons (ps_for PassesOwn.never rfl (pi_list (pe_callB cr_sortedS (by rfl) T.b_sorted (by decide +kernel) (pa_cons (pe_call D_law_names.ok (hr.mono (by decide)) rfl D_law_names.mg D_law_names.kp D_law_names.bi .nil pass0 (pa_cons (pv 0) pa_nil)) pa_nil))) (pg_name (i := 2) sc_law_sets.nd rfl (by first | exact Or.inl rfl | exact Or.inr rfl)) (pss_one (ps_set (i := 1) sc_law_sets.nd rfl (by first | exact Or.inl rfl | exact Or.inr rfl) (pe_op op_cat (pv 1) (pe_lc (own := [("_law_one", 3)]) (by rfl) sc_law_sets.nd (pi_list (pv 1)) (blkOk_by (own := [("_law_one", 3)]) (N := n_law_sets) (sc := defScope s_law_sets) (by decide +kernel)) (fun _ _ _ _ _ => (pg_name (i := 3) sc_law_sets.nd rfl (by first | exact Or.inl rfl | exact Or.inr rfl))) (fun _ _ _ _ _ => pts_nil) (fun _ _ _ _ _ => (pe_op op_cat (pv 3) (pe_lst (pa_cons (pv 2) pa_nil)))))))))
      (pss_one (ps_ret (pe_lc (own := [("_law_size", 4), ("_law_one", 3)]) (by rfl) sc_law_sets.nd (pi_list (pe_callB (cr_sortB (hu1_of hr)) (by rfl) T.b_sorted (by decide +kernel) (pa_cons (pe_lc (own := [("_law_one", 3)]) (by rfl) sc_law_sets.nd (pi_list (pv 1)) (blkOk_by (own := [("_law_one", 3)]) (N := n_law_sets) (sc := defScope s_law_sets) (by decide +kernel)) (fun _ _ _ _ _ => (pg_name (i := 3) sc_law_sets.nd rfl (by first | exact Or.inl rfl | exact Or.inr rfl))) (fun _ _ _ _ _ => pts_nil) (fun _ _ _ _ _ => (pe_tup (pa_cons (pe_callB (show CallR _ (.builtin "len") (rLenS K) from call_len_seq) (by rfl) T.b_len (by decide +kernel) (pa_cons (pv 3) pa_nil)) (pa_cons (pv 3) pa_nil))))) pa_nil))) (blkOk_by (own := [("_law_size", 4), ("_law_one", 3)]) (N := n_law_sets) (sc := defScope s_law_sets) (by decide +kernel)) (fun _ _ _ _ _ => (show PG _ _ (gTup K 2 _) from (pg_tup rfl (pgs_cons (pg_name (i := 4) sc_law_sets.nd rfl (by first | exact Or.inl rfl | exact Or.inr rfl)) (pgs_cons (pg_name (i := 3) sc_law_sets.nd rfl (by first | exact Or.inl rfl | exact Or.inr rfl)) pgs_nil))))) (fun _ _ _ _ _ => pts_one (pt_val (pe_call D_law_fits.ok (hr.mono (by decide)) rfl D_law_fits.mg D_law_fits.kp D_law_fits.bi .nil pass0 (pa_cons (pe_ix (show IxR _ (rIxT K) from ix_tup) (pv 0) pe_int (fun _ _ => rfl)) (pa_cons (pv 3) pa_nil))))) (fun _ _ _ _ _ => (pv 3))))))), ?_⟩
    refine ⟨sz0, fun l0 hl0 => ⟨sz1, fun l1 hl1 => ?_⟩⟩
    have s01 := (same_upd (o := .lst []) hl0).trans (same_upd (o := .lst [.ref l0]) hl1)
    refine ⟨_, rfl, g, es, cs, rfl, G.same s01, fun H1 nl s1 nn hn => ⟨nl, _, rfl, .of hn, by have := G.oo.most; simp; omega, fun ys yl pm _ hyl => ?_⟩⟩
    have s2 := same_upd (o := .lst (ys.map V.str)) hyl
    have sA := (s01.trans s1).trans s2
    have yl7 : ys.length ≤ 7 := by
      have := pm.length_eq
      have := G.oo.most
      simp at *
      omega
    refine ⟨yl, rfl, ⟨_, .of upd_same⟩, ?_⟩
    refine for_list (K := K) (a := yl) (xs := ys.map V.str) (fun i σ H' => ∃ (l : Addr) (ss : List SE) (v2 : Option V), σ = [some (.ref g), some (.ref l), v2, none, none] ∧ Same (upd H1 yl (.lst (ys.map V.str))) H' ∧ H' l = some (.lst (ss.map fun s => V.ref s.2)) ∧ LsAt H' ss ∧ ss.length = 2 ^ i ∧
        (∀ s ∈ ss, ∀ n ∈ s.1, n ∈ ys.take i) ∧ (∀ s ∈ ss, s.1.length ≤ i) ∧ ∀ f : Str → Bool, ∃ s ∈ ss, ∀ n ∈ ys.take i, (n ∈ s.1 ↔ f n = true))
      ⟨l1, [([], l0)], _, rfl, Same.refl _, s2 _ _ (s1 _ _ upd_same), fun s m => ?_, rfl, fun s m n hn => ?_, fun s m => ?_, fun f => ⟨_, List.mem_singleton_self _, (fun n h => nomatch h)⟩⟩ (fun i σ H' _ ⟨_, _, _, _, s3, _⟩ => .of (s3 _ _ upd_same)) ?_ ?_
    · rw [List.mem_singleton.mp m]
      exact s2 _ _ (s1 _ _ (same_upd hl1 _ _ upd_same))
    · rw [List.mem_singleton.mp m] at hn
      cases hn
    · rw [List.mem_singleton.mp m]
      exact Nat.le_refl _
    · rintro i y σ H' hy ⟨l, ss, v2, rfl, s3, hl, hs, len, sub, ll, cov⟩
      obtain ⟨n, hi, rfl⟩ := map_get hy
      have il := lt_of_get hi
      have p64 : 2 ^ i ≤ 64 := Nat.pow_le_pow_right (by decide) (show i ≤ 6 by omega)
      refine ⟨_, rfl, _, rfl, l, rfl, ⟨_, .of hl⟩, fun D hD => ?_⟩
      refine lc_list (K := K) (a := l) (xs := ss.map fun s => V.ref s.2) (fun j H2 => ∃ ts : List SE, Same H' H2 ∧ H2 D = some (.lst (ts.map fun s => V.ref s.2)) ∧ LsAt H2 ts ∧ (∀ t ∈ ts, t.2 ≠ D) ∧ ts.map Prod.fst = (ss.take j).map fun s => s.1 ++ [n])
        ⟨[], same_upd hD, upd_same, (fun _ h => nomatch h), (fun _ h => nomatch h), rfl⟩ (fun j H2 _ ⟨_, s4, _⟩ => .of (s4 _ _ hl)) ?_ ?_
      · rintro j z H2 hz ⟨ts, s4, hD2, ht, hne, et⟩
        obtain ⟨s, hj, rfl⟩ := map_get hz
        have jl := lt_of_get hj
        have hs1 := s4 _ _ (hs s (mem_of_get hj))
        have sl := ll s (mem_of_get hj)
        have tl : ts.length = j := by
          have := congrArg List.length et
          simp at this
          omega
        refine ⟨rfl, _, rfl, _, rfl, sz1, fun p1 hp1 => ?_⟩
        have s5 := same_upd (o := .lst [.str n]) hp1
        refine ⟨s.2, p1, _, _, rfl, rfl, s5 _ _ hs1, upd_same, szl (by simp; omega), fun p2 hp2 => ?_⟩
        have s6 := same_upd (o := .lst (s.1.map V.str ++ [.str n])) hp2
        have s7 := s5.trans s6
        have p2D : p2 ≠ D := Ne.symm (ne_of_none (s5 _ _ hD2) hp2)
        refine ⟨_, s7 _ _ hD2, sz _ (by simp; omega), ts ++ [(s.1 ++ [n], p2)], same_put (s4.trans s7) hD, by rw [upd_same, List.map_append]; rfl, fun t m => ?_, fun t m => ?_, ?_⟩
        · rcases List.mem_append.mp m with z | z
          · rw [upd_ne (hne t z)]
            exact s7 _ _ (ht t z)
          · rw [List.mem_singleton.mp z]
            show (upd _ D _) p2 = some (.lst ((s.1 ++ [n]).map V.str))
            rw [upd_ne p2D, upd_same, List.map_append]
            rfl
        · rcases List.mem_append.mp m with z | z
          · exact hne t z
          · rw [List.mem_singleton.mp z]
            exact p2D
        · rw [List.map_append, et, take_more hj, List.map_append]
          rfl
      · rintro H2 ⟨ts, s4, hD2, ht, hne, et⟩
        rw [List.length_map, List.take_length] at et
        have tl : ts.length = 2 ^ i := by
          have := congrArg List.length et
          simp at this
          omega
        have mt : ∀ t ∈ ts, ∃ s ∈ ss, t.1 = s.1 ++ [n] := fun t m => by
          have : t.1 ∈ ts.map Prod.fst := List.mem_map.mpr ⟨t, m, rfl⟩
          rw [et] at this
          obtain ⟨s, ms, e⟩ := List.mem_map.mp this
          exact ⟨s, ms, e.symm⟩
        refine ⟨l, D, _, _, rfl, rfl, s4 _ _ hl, hD2, szl (by simp; omega), fun p3 hp3 => ?_⟩
        have s5 := same_upd (o := .lst ((ss.map fun s => V.ref s.2) ++ ts.map fun s => V.ref s.2)) hp3
        have ny : n ∉ ys.take i := fun m => not_take (f := id) (l := ys) (by simpa using pm.nodup_iff.mpr G.oo.nd) hi (by simpa using m)
        refine ⟨p3, ss ++ ts, _, rfl, (s3.trans s4).trans s5, by rw [upd_same, List.map_append], fun s m => ?_, by rw [List.length_append, len, tl, Nat.pow_succ]; omega, fun s m k hk => ?_, fun s m => ?_, fun f => ?_⟩
        · rcases List.mem_append.mp m with z | z
          · exact s5 _ _ (s4 _ _ (hs s z))
          · exact s5 _ _ (ht s z)
        · rw [take_more hi]
          rcases List.mem_append.mp m with z | z
          · exact List.mem_append_left _ (sub s z k hk)
          · obtain ⟨s', ms, e⟩ := mt s z
            rw [e] at hk
            rcases List.mem_append.mp hk with y | y
            · exact List.mem_append_left _ (sub s' ms k y)
            · exact List.mem_append_right _ y
        · rcases List.mem_append.mp m with z | z
          · exact Nat.le_succ_of_le (ll s z)
          · obtain ⟨s', ms, e⟩ := mt s z
            have := ll s' ms
            rw [e, List.length_append]
            simp
            omega
        · obtain ⟨s, ms, hc⟩ := cov f
          by_cases fn : f n = true
          · have : s.1 ++ [n] ∈ ts.map Prod.fst := by rw [et]; exact List.mem_map.mpr ⟨s, ms, rfl⟩
            obtain ⟨t, mt', e⟩ := List.mem_map.mp this
            refine ⟨t, List.mem_append_right _ mt', fun k hk => ?_⟩
            rw [take_more hi] at hk
            rw [e]
            rcases List.mem_append.mp hk with y | y
            · have hkn : k ≠ n := fun z => ny (z ▸ y)
              rw [List.mem_append, List.mem_singleton, hc k y]
              simp [hkn]
            · have y := List.mem_singleton.mp y
              subst y
              simp [fn]
          · refine ⟨s, List.mem_append_left _ ms, fun k hk => ?_⟩
            rw [take_more hi] at hk
            rcases List.mem_append.mp hk with y | y
            · exact hc k y
            · have y := List.mem_singleton.mp y
              subst y
              constructor
              · intro h
                exact absurd (sub s ms k h) ny
              · intro h
                exact absurd h fn
    · rintro σ H' ⟨l, ss, v2, rfl, s3, hl, hs, len, sub, ll, cov⟩
      rw [List.length_map] at len ll
      rw [List.length_map, List.take_length] at sub cov
      have p128 : 2 ^ ys.length ≤ 128 := Nat.pow_le_pow_right (by decide) yl7
      refine ⟨_, rfl, l, rfl, ⟨_, .of hl⟩, fun D hD => ?_⟩
      refine lc_list (K := K) (a := l) (xs := ss.map fun s => V.ref s.2) (fun j H2 => ∃ ps : List PE3, Same H' H2 ∧ H2 D = some (.lst (ps.map fun p => V.ref p.1)) ∧ (∀ p ∈ ps, H2 p.1 = some (.tup [.int p.2.1.length, .ref p.2.2])) ∧ ps.map Prod.snd = ss.take j)
        ⟨[], same_upd hD, upd_same, (fun _ h => nomatch h), rfl⟩ (fun j H2 _ ⟨_, s4, _⟩ => .of (s4 _ _ hl)) ?_ ?_
      · rintro j z H2 hz ⟨ps, s4, hD2, hp, ep⟩
        obtain ⟨s, hj, rfl⟩ := map_get hz
        have jl := lt_of_get hj
        have pl : ps.length = j := by
          have := congrArg List.length ep
          simp at this
          omega
        refine ⟨rfl, _, rfl, s.2, _, rfl, .inl (.of (s4 _ _ (hs s (mem_of_get hj)))), _, rfl, sz2, fun t ht => ?_⟩
        rw [List.length_map]
        have s5 := same_upd (o := .tup [.int s.1.length, .ref s.2]) ht
        have tk : ∀ b vs, (upd H2 t (.tup [.int s.1.length, .ref s.2])) b = some (HO.tup vs) → (upd (upd H2 t (.tup [.int s.1.length, .ref s.2])) D (.lst ((ps.map fun p => V.ref p.1) ++ [.ref t]))) b = some (.tup vs) := fun b vs h => by
          rw [upd_ne (fun z => by rw [z, s5 _ _ hD2] at h; cases h)]
          exact h
        refine ⟨_, s5 _ _ hD2, sz _ (by simp; omega), ps ++ [(t, s)], same_put (s4.trans s5) hD, by rw [upd_same, List.map_append]; rfl, fun p m => ?_, by rw [List.map_append, ep, take_more hj]; rfl⟩
        rcases List.mem_append.mp m with z | z
        · exact tk _ _ (s5 _ _ (hp p z))
        · rw [List.mem_singleton.mp z]
          exact tk _ _ upd_same
      · rintro H2 ⟨ps, s4, hD2, hp, ep⟩
        rw [List.length_map, List.take_length] at ep
        have pl : ps.length = ss.length := by
          have := congrArg List.length ep
          simpa using this
        have pin : ∀ p ∈ ps, p.2 ∈ ss := fun p m => by rw [← ep]; exact List.mem_map.mpr ⟨p, m, rfl⟩
        refine ⟨D, PE3, ps, (fun b => V.ref b.1), stD, rfl, .of hD2, sortB_of (fun b m => .tup (.of (hp b m)) (.cons (.int _) (.cons (.lst (.of (s4 _ _ (hs _ (pin b m)))) (dp_texts _)) .nil))) alike_st (PySem.W.Sortable.tuples fun b => ⟨_, _, rfl⟩) (szl (by omega)) (fun b _ => dep_st b), fun p hp2 => ?_⟩
        have sp := same_upd (o := .lst ((ps.mergeSort (PySem.W.dataLe false stD)).map fun b => V.ref b.1)) hp2
        have mm : ∀ x, x ∈ ps.mergeSort (PySem.W.dataLe false stD) ↔ x ∈ ps := fun x => mem_sorted
        have lm : (ps.mergeSort (PySem.W.dataLe false stD)).length = ps.length := len_sorted ps
        generalize ps.mergeSort (PySem.W.dataLe false stD) = sl at sp mm lm
        refine ⟨p, rfl, ⟨_, .of upd_same⟩, fun D2 hD3 => ?_⟩
        obtain ⟨o, p', c, lo, hi, a1, a2, a3, a4, a5, a6, a7⟩ := (((((G.same s01).same s1).same s2).same s3).same s4).same sp |>.ex
        have cl := ((((((G.same s01).same s1).same s2).same s3).same s4).same sp).cl
        refine lc_list (K := K) (a := p) (xs := sl.map fun b => V.ref b.1) (fun j H3 => Same (upd H2 p (.lst (sl.map fun b => V.ref b.1))) H3 ∧ H3 D2 = some (.lst ((((sl.take j).map Prod.snd).filter fun s => fits cs s.1).map fun s => V.ref s.2)))
          ⟨same_upd hD3, upd_same⟩ (fun j H3 _ ⟨s6, _⟩ => .of (s6 _ _ upd_same)) ?_ ?_
        · rintro j z H3 hz ⟨s6, h3⟩
          obtain ⟨b, hj, rfl⟩ := map_get hz
          have jl := lt_of_get hj
          have mb := (mm b).mp (mem_of_get hj)
          have hb := s6 _ _ (sp _ _ (hp b mb))
          have hbs := s6 _ _ (sp _ _ (s4 _ _ (hs _ (pin b mb))))
          refine ⟨_, _, rfl, .of hb, rfl, _, _, rfl, _, _, rfl, rfl, rfl, _, rfl, _, _, _, _, rfl, rfl, .of (s6 _ _ a1), rfl, _, rfl, c, b.2.2, cs, b.2.1, rfl, s6 _ _ a7, fun e m => s6 _ _ (cl e m), hbs, _, rfl, ifB (fun e => ?_) (fun e => ?_)⟩
          · refine ⟨_, rfl, _, h3, sz _ ?_, same_put s6 hD3, ?_⟩
            · rw [List.length_map]
              have := List.length_filter_le (fun s : SE => fits cs s.1) ((sl.take j).map Prod.snd)
              rw [List.length_map, List.length_take] at this
              omega
            · rw [upd_same, take_more hj, List.map_append, List.filter_append]
              have : ([b].map Prod.snd).filter (fun s : SE => fits cs s.1) = [b.2] := by
                simp only [List.map_cons, List.map_nil, List.filter_cons, List.filter_nil]
                rw [if_pos e]
              rw [this, List.map_append]
              rfl
          · refine ⟨s6, ?_⟩
            rw [h3, take_more hj, List.map_append, List.filter_append]
            have : ([b].map Prod.snd).filter (fun s : SE => fits cs s.1) = [] := by
              simp only [List.map_cons, List.map_nil, List.filter_cons, List.filter_nil]
              rw [if_neg (by rw [e]; exact Bool.false_ne_true)]
            rw [this, List.append_nil]
        · rintro H3 ⟨s6, h3⟩
          rw [List.length_map, List.take_length] at h3
          have mr : ∀ s, s ∈ (sl.map Prod.snd).filter (fun s => fits cs s.1) ↔ s ∈ ss ∧ fits cs s.1 = true := fun s => by
            rw [List.mem_filter]
            constructor
            · rintro ⟨m, f⟩
              obtain ⟨b, mb, rfl⟩ := List.mem_map.mp m
              exact ⟨pin b ((mm b).mp mb), f⟩
            · rintro ⟨m, f⟩
              rw [← ep] at m
              obtain ⟨b, mb, rfl⟩ := List.mem_map.mp m
              exact ⟨List.mem_map.mpr ⟨b, (mm b).mpr mb, rfl⟩, f⟩
          have mn : ∀ n, n ∈ ys ↔ n ∈ es.map (·.n) := fun n => pm.mem_iff
          have sF := ((sA.trans s3).trans s4).trans (sp.trans s6)
          refine q H3 D2 _ sF h3 (fun s m => s6 _ _ (sp _ _ (s4 _ _ (hs s ((mr s).mp m).1)))) ⟨fun S m => ?_, fun S m n hn' => ?_, fun f hf => ?_⟩ ?_
          · obtain ⟨s, ms, rfl⟩ := List.mem_map.mp m
            exact ((mr s).mp ms).2
          · obtain ⟨s, ms, rfl⟩ := List.mem_map.mp m
            exact (mn n).mp (sub s ((mr s).mp ms).1 n hn')
          · obtain ⟨s, ms, hc⟩ := cov f
            have hc' : ∀ n ∈ es.map (·.n), (n ∈ s.1 ↔ f n = true) := fun n m => hc n ((mn n).mpr m)
            refine ⟨s.1, List.mem_map.mpr ⟨s, (mr s).mpr ⟨ms, ?_⟩, rfl⟩, hc'⟩
            rw [fits_iff fun c m => (G.cw c m).1]
            refine sat_agree (fun c m => (G.cw c m).2) (fun n m => ?_) hf
            by_cases z : n ∈ s.1
            · rw [decide_eq_true z, (hc' n m).mp z]
            · rw [decide_eq_false z]
              cases fz : f n with
              | false => rfl
              | true => exact absurd ((hc' n m).mpr fz) z
          · have := List.length_filter_le (fun s : SE => fits cs s.1) (sl.map Prod.snd)
            rw [List.length_map] at this
            omega
end
end Fk
/-! The law's steps. -/
namespace Fk
open PySem PySem.Spec PyProof.Rows L2
open Fc (neg Edge)
section
variable {P : Program} {w : World} {K : PySem.W.Frag} {mg : Str → Option Value} {base : Heap}
/-- a dict of lists of literals -/
structure StepAt (P : Program) (w : World) (H0 H : Hp) (D : Addr) (ls : List Lt) (kx qa : Lt → Addr) (bs : Lt → List (Lt × Addr)) : Prop where
  s : Same H0 H
  nD : H0 D = none
  tb : H D = some (ldO P w D (rowsOf ls kx fun l => .ref (qa l)))
  ky : ∀ l ∈ ls, H (kx l) = some (litT l)
  ch : ∀ l ∈ ls, ChB H (qa l) (bs l)
  nl : ∀ l, l ∉ ls → bs l = []
theorem StepAt.same {H0 H H' : Hp} {D : Addr} {ls : List Lt} {kx qa : Lt → Addr} {bs : Lt → List (Lt × Addr)} (s : Same H H') (S : StepAt P w H0 H D ls kx qa bs) : StepAt P w H0 H' D ls kx qa bs :=
  ⟨S.s.trans s, S.nD, s _ _ S.tb, fun l m => s _ _ (S.ky l m), fun l m => (S.ch l m).same s, S.nl⟩
theorem StepAt.keys {H0 H : Hp} {D : Addr} {ls : List Lt} {kx qa : Lt → Addr} {bs : Lt → List (Lt × Addr)} (S : StepAt P w H0 H D ls kx qa bs) : KeysAt H (rowsOf ls kx fun l => .ref (qa l)) := fun x m => by
  obtain ⟨l, hl, rfl⟩ := List.mem_map.mp m
  exact S.ky l hl
theorem StepAt.put {H0 H : Hp} {D st p : Addr} {ls : List Lt} {kx qa : Lt → Addr} {bs : Lt → List (Lt × Addr)} (S : StepAt P w H0 H D ls kx qa bs) {l : Lt} {nb : List (Lt × Addr)} (hs : H st = some (litT l)) (hp : ChB H p nb) :
    StepAt P w H0 (upd H D (ldO P w D (lput (rowsOf ls kx fun l => .ref (qa l)) l st (.ref p)))) D (if l ∈ ls then ls else ls ++ [l]) (if l ∈ ls then kx else fun m => if m = l then st else kx m) (fun m => if m = l then p else qa m) (fun m => if m = l then nb else bs m) := by
  have kt : ∀ b ys, H b = some (HO.tup ys) → (upd H D (ldO P w D (lput (rowsOf ls kx fun l => .ref (qa l)) l st (.ref p)))) b = some (.tup ys) := fun b ys h => by
    rw [upd_ne (fun z => by rw [z, S.tb] at h; cases h)]
    exact h
  have kc : ∀ q b, ChB H q b → ChB (upd H D (ldO P w D (lput (rowsOf ls kx fun l => .ref (qa l)) l st (.ref p)))) q b := fun q b h => ⟨(upd_ne (fun z => by have := h.at_; rw [z, S.tb] at this; cases this)).trans h.at_, fun c m => kt _ _ (h.ky c m)⟩
  by_cases c : l ∈ ls
  · simp only [if_pos c]
    refine ⟨same_put S.s S.nD, S.nD, ?_, fun m hm => kt _ _ (S.ky m hm), fun m hm => ?_, fun m hm => ?_⟩
    · rw [upd_same]
      have e : lput (rowsOf ls kx fun l => V.ref (qa l)) l st (.ref p) = rowsOf ls kx fun m => .ref (if m = l then p else qa m) := by
        unfold lput
        rw [lval_rows, if_pos c]
        unfold rowsOf
        rw [if_pos (show (some (V.ref (qa l))).isSome = true from rfl), List.map_map]
        refine List.map_congr_left fun m _ => ?_
        by_cases z : m = l
        · simp [z]
        · simp [z]
      rw [e]
    · by_cases z : m = l
      · simp only [if_pos z]
        exact kc _ _ hp
      · simp only [if_neg z]
        exact kc _ _ (S.ch m hm)
    · have z : m ≠ l := fun z => hm (z ▸ c)
      simp only [if_neg z]
      exact S.nl m hm
  · simp only [if_neg c]
    have old : ∀ m ∈ ls, m ≠ l := fun m hm z => c (z ▸ hm)
    refine ⟨same_put S.s S.nD, S.nD, ?_, fun m hm => ?_, fun m hm => ?_, fun m hm => ?_⟩
    · rw [upd_same, lput_new (by rw [lval_rows, if_neg c]), rows_app]
      simp only [if_pos]
      rw [rows_congr (kx' := fun m => if m = l then st else kx m) (v' := fun m => V.ref (if m = l then p else qa m)) (fun m hm => by simp [old m hm])]
    · rcases List.mem_append.mp hm with z | z
      · simp only [if_neg (old m z)]
        exact kt _ _ (S.ky m z)
      · have z := List.mem_singleton.mp z
        subst z
        simp only [if_pos]
        exact kt _ _ hs
    · rcases List.mem_append.mp hm with z | z
      · simp only [if_neg (old m z)]
        exact kc _ _ (S.ch m z)
      · have z := List.mem_singleton.mp z
        subst z
        simp only [if_pos]
        exact kc _ _ hp
    · have z : m ≠ l := fun z => hm (by rw [z]; simp)
      simp only [if_neg z]
      exact S.nl m fun y => hm (List.mem_append_left _ y)
/-- what _law_steps gives -/
def StepsAt (P : Program) (w : World) (H : Hp) (D : Addr) (cl : Fc.Cls Str) : Prop := ∃ (ls : List Lt) (kx qa : Lt → Addr) (bs : Lt → List (Lt × Addr)), H D = some (ldO P w D (rowsOf ls kx fun l => .ref (qa l))) ∧ (∀ l ∈ ls, H (kx l) = some (litT l)) ∧ (∀ l ∈ ls, ChB H (qa l) (bs l)) ∧ (∀ l, l ∉ ls → bs l = []) ∧
  (∀ l y, y ∈ (bs l).map Prod.fst ↔ Edge cl l y) ∧ ∀ l, (bs l).length ≤ 18
abbrev s_law_steps : Stmt := (top 57)
abbrev n_law_steps : List Str := ["_law_grammar_here", "_law_found", "_law_clause", "_law_one", "_law_other", "_law_left", "_law_right", "_law_start"]
theorem sc_law_steps : FnScope ["_law_grammar_here", "_law_found", "_law_clause", "_law_one", "_law_other", "_law_left", "_law_right", "_law_start"] ["_law_grammar_here"] (defScope s_law_steps) := ⟨rfl, rfl, rfl, by decide +kernel, rfl, by decide +kernel, by decide +kernel⟩
-- slots: _law_grammar_here 0, _law_found 1, _law_clause 2, _law_one 3, _law_other 4, _law_left 5, _law_right 6, _law_start 7
def spSteps (P : Program) (w : World) : Sp := fun vs H Q _ => ∃ (g : Addr) (es : List OE) (cs : List CE), vs = [.ref g] ∧ GrAt H g es cs ∧ ∀ H' D, Same H H' → StepsAt P w H' D (clsOf cs) → Q (.ref D) H'
theorem ok_law_steps {f f1 : Addr} {fd fd1 : FuncData} (F : FunM K mg "_law_steps" s_law_steps f fd) (D_law_both : Dn P w K mg base CX0 1 "_law_both" f1 fd1 ["_law_clause"] spBoth) : Dn P w K mg base CX0 2 "_law_steps" f fd ["_law_grammar_here"] (spSteps P w) := by
  refine ⟨F.fn.ok sc_law_steps (fun vs H Q E h => ?_) (fun cdv A outer s H vs Q E hr h => ?_), F.mg, F.fn.kp, (F.fn.binds fun _ _ _ _ _ _ us hl => match us, hl with | [_], _ => rfl)⟩
  · obtain ⟨_, _, _, rfl, _⟩ := h
    rfl
  · obtain ⟨g, es, cs, rfl, G, q⟩ := h
    have hu := hu_of hr
    obtain ⟨o, p, c, lo, hi, a1, a2, a3, a4, a5, a6, a7⟩ := G.ex
    refine ⟨_, (pss_cons (ps_set (i := 1) sc_law_steps.nd rfl (by first | exact Or.inl rfl | exact Or.inr rfl) (show PE _ _ (tLNew P w) from pe_lnew))
      (pss_cons (ps_for PassesOwn.never rfl (pi_tup (pe_ix ix_tup (pv 0) pe_int (fun _ _ => rfl))) (pg_name (i := 2) sc_law_steps.nd rfl (by first | exact Or.inl rfl | exact Or.inr rfl)) (pss_cons (ps_asg (pe_call D_law_both.ok (hr.mono (by decide)) rfl D_law_both.mg D_law_both.kp D_law_both.bi .nil pass0 (pa_cons (pv 2) pa_nil)) (pg_lst rfl (pgs_cons (pg_name (i := 3) sc_law_steps.nd rfl (by first | exact Or.inl rfl | exact Or.inr rfl)) (pgs_cons (pg_name (i := 4) sc_law_steps.nd rfl (by first | exact Or.inl rfl | exact Or.inr rfl)) pgs_nil))))
      (pss_one (ps_for PassesOwn.never rfl (pi_tup (pe_tup (pa_cons (pe_tup (pa_cons (pv 3) (pa_cons (pv 4) pa_nil))) (pa_cons (pe_tup (pa_cons (pv 4) (pa_cons (pv 3) pa_nil))) pa_nil)))) (pg_tup rfl (pgs_cons (pg_name (i := 5) sc_law_steps.nd rfl (by first | exact Or.inl rfl | exact Or.inr rfl)) (pgs_cons (pg_name (i := 6) sc_law_steps.nd rfl (by first | exact Or.inl rfl | exact Or.inr rfl)) pgs_nil))) (pss_cons (ps_set (i := 7) sc_law_steps.nd rfl (by first | exact Or.inl rfl | exact Or.inr rfl) (pe_tup (pa_cons (pe_ix ix_tup (pv 5) pe_int (fun _ _ => rfl)) (pa_cons (pe_not (pe_ix ix_tup (pv 5) pe_int (fun _ _ => rfl))) pa_nil))))
      (pss_one (ps_lput hu (pv 1) (pv 7) (pe_op op_cat (pe_lget2 hu (pv 1) (pv 7) (pe_lst pa_nil) ⟨rfl, rfl, rfl, rfl⟩) (pe_lst (pa_cons (pv 6) pa_nil))) rfl)))))))
      (pss_one (ps_ret (pv 1))))), ?_⟩
    intro D hD
    have sD := same_upd (o := ldO P w D []) hD
    refine ⟨_, rfl, _, _, _, _, rfl, rfl, .of (sD _ _ a1), rfl, c, rfl, ⟨_, .of (sD _ _ a7)⟩, ?_⟩
    refine for_tup (K := K) (a := c) (xs := cs.map fun c => V.ref c.p) (fun i σ H' => ∃ (v2 v3 v4 v5 v6 v7 : Option V) (ls : List Lt) (kx qa : Lt → Addr) (bs : Lt → List (Lt × Addr)), σ = [some (.ref g), some (.ref D), v2, v3, v4, v5, v6, v7] ∧ StepAt P w H H' D ls kx qa bs ∧ ls.length ≤ 2 * i ∧ (∀ l, (bs l).length ≤ 2 * i) ∧
        ∀ l y, y ∈ (bs l).map Prod.fst ↔ Edge (clsOf (cs.take i)) l y)
      ⟨_, _, _, _, _, _, [], fun _ => 0, fun _ => 0, fun _ => [], rfl, ⟨sD, hD, upd_same, (fun _ h => nomatch h), (fun _ h => nomatch h), fun _ _ => rfl⟩, Nat.le_refl _, fun _ => Nat.le_refl _, fun l y => by simp [clsOf, Edge]⟩
      (fun i σ H' _ ⟨_, _, _, _, _, _, _, _, _, _, _, S, _⟩ => .of (S.s _ _ a7)) ?_ ?_
    · rintro i y σ H' hy ⟨v2, v3, v4, v5, v6, v7, ls, kx, qa, bs, rfl, S, ll, lb, mem⟩
      obtain ⟨e, hi, rfl⟩ := map_get hy
      have il := lt_of_get hi
      have c9 := G.cm
      refine ⟨_, rfl, e, rfl, S.s _ _ (G.cl e (mem_of_get hi)), fun t a b H1 s1 ht ha hb => ?_⟩
      refine ⟨_, _, rfl, .of ht, rfl, _, _, rfl, _, _, rfl, rfl, ?_⟩
      refine ⟨_, rfl, _, rfl, sz2, fun t1 ht1 => ⟨_, rfl, _, rfl, sz2, fun t2 ht2 => ⟨sz2, fun t3 ht3 => ⟨t3, rfl, ⟨_, .of upd_same⟩, ?_⟩⟩⟩⟩
      have r1 := same_upd (o := .tup [.ref a, .ref b]) ht1
      have r2 := same_upd (o := .tup [.ref b, .ref a]) ht2
      have r3 := same_upd (o := .tup [.ref t1, .ref t2]) ht3
      have rr := (r1.trans r2).trans r3
      have S1 := (S.same s1).same rr
      let prs : List ((Lt × Addr) × (Lt × Addr) × Addr) := [((lit1 e, a), (lit2 e, b), t1), ((lit2 e, b), (lit1 e, a), t2)]
      refine for_tup (K := K) (a := t3) (xs := prs.map fun z => V.ref z.2.2) (fun j σ H2 => ∃ (v5 v6 v7 : Option V) (ls : List Lt) (kx qa : Lt → Addr) (bs : Lt → List (Lt × Addr)), σ = [some (.ref g), some (.ref D), some (.ref e.p), some (.ref a), some (.ref b), v5, v6, v7] ∧ StepAt P w H H2 D ls kx qa bs ∧ ls.length ≤ 2 * i + j ∧ (∀ l, (bs l).length ≤ 2 * i + j) ∧
          (∀ l y, y ∈ (bs l).map Prod.fst ↔ Edge (clsOf (cs.take i)) l y ∨ ∃ z ∈ prs.take j, l = neg z.1.1 ∧ y = z.2.1.1) ∧ H2 t3 = some (.tup (prs.map fun z => V.ref z.2.2)) ∧ ∀ z ∈ prs, H2 z.2.2 = some (.tup [.ref z.1.2, .ref z.2.1.2]) ∧ H2 z.1.2 = some (litT z.1.1) ∧ H2 z.2.1.2 = some (litT z.2.1.1))
        ⟨_, _, _, ls, kx, qa, bs, rfl, S1, ll, lb, fun l y => by rw [mem]; simp, upd_same, fun z m => ?_⟩ (fun j σ H2 _ ⟨_, _, _, _, _, _, _, _, _, _, _, _, h, _⟩ => .of h) ?_ ?_
      · rcases List.mem_cons.mp m with z | z
        · rw [z]
          exact ⟨r3 _ _ (r2 _ _ upd_same), rr _ _ ha, rr _ _ hb⟩
        · rw [List.mem_singleton.mp z]
          exact ⟨r3 _ _ upd_same, rr _ _ hb, rr _ _ ha⟩
      · rintro j y σ H2 hy ⟨v5, v6, v7, ls, kx, qa, bs, rfl, S, ll, lb, mem, h3, hz⟩
        obtain ⟨z, hj, rfl⟩ := map_get hy
        have jl : j < 2 := lt_of_get hj
        obtain ⟨z1, z2, z3⟩ := hz z (mem_of_get hj)
        refine ⟨_, _, rfl, .of z1, rfl, _, _, rfl, _, _, rfl, rfl, ?_⟩
        refine ⟨_, rfl, _, _, _, _, rfl, rfl, .of z2, rfl, _, rfl, _, _, _, _, rfl, rfl, .of z2, rfl, _, rfl, sz2, fun st hst => ?_⟩
        have q1 := same_upd (o := litT (neg z.1.1)) hst
        have S2 := S.same q1
        have hst0 : (upd H2 st (litT (neg z.1.1))) st = some (litT (neg z.1.1)) := upd_same
        refine ⟨_, rfl, D, _, rfl, ⟨.inl S2.tb, S2.keys⟩, _, rfl, sz0, fun e0 he0 => ?_⟩
        have q2 := same_upd (o := .lst []) he0
        have S3 := S2.same q2
        refine ⟨st, neg z.1.1, _, rfl, ⟨.inl S3.tb, S3.keys⟩, q2 _ _ hst0, ?_⟩
        obtain ⟨qv, hqv, hq⟩ : ∃ qv, ((lval (rowsOf ls kx fun l => V.ref (qa l)) (neg z.1.1)).getD (.ref e0)) = V.ref qv ∧ ChB (upd (upd H2 st (litT (neg z.1.1))) e0 (.lst [])) qv (bs (neg z.1.1)) := by
          rw [lval_rows]
          by_cases c : neg z.1.1 ∈ ls
          · rw [if_pos c]
            exact ⟨_, rfl, S3.ch _ c⟩
          · rw [if_neg c]
            refine ⟨_, rfl, ?_, ?_⟩
            · rw [S.nl _ c]
              exact upd_same
            · rw [S.nl _ c]
              exact fun _ h => nomatch h
        refine ⟨_, rfl, sz1, fun p1 hp1 => ?_⟩
        have q3 := same_upd (o := .lst [.ref z.2.1.2]) hp1
        have hq3 := hq.same q3
        have lbn := lb (neg z.1.1)
        refine ⟨qv, p1, _, _, hqv, rfl, hq3.at_, upd_same, szl (by simp; omega), fun p2 hp2 => ?_⟩
        have q4 := same_upd (o := .lst ((bs (neg z.1.1)).map (fun b => V.ref b.2) ++ [.ref z.2.1.2])) hp2
        have S5 := (S3.same q3).same q4
        have qq := ((q1.trans q2).trans q3).trans q4
        have nb : ChB (upd (upd (upd (upd H2 st (litT (neg z.1.1))) e0 (.lst [])) p1 (.lst [.ref z.2.1.2])) p2 (.lst ((bs (neg z.1.1)).map (fun b => V.ref b.2) ++ [.ref z.2.1.2]))) p2 (bs (neg z.1.1) ++ [(z.2.1.1, z.2.1.2)]) := by
          refine ⟨by rw [upd_same, List.map_append]; rfl, fun b m => ?_⟩
          rcases List.mem_append.mp m with y | y
          · exact (hq3.same q4).ky b y
          · rw [List.mem_singleton.mp y]
            exact qq _ _ z3
        have S6 := S5.put (((q2.trans q3).trans q4) _ _ hst0) nb
        have kt : ∀ b ys, H2 b = some (HO.tup ys) → (upd (upd (upd (upd (upd H2 st (litT (neg z.1.1))) e0 (.lst [])) p1 (.lst [.ref z.2.1.2])) p2 (.lst ((bs (neg z.1.1)).map (fun b => V.ref b.2) ++ [.ref z.2.1.2]))) D (ldO P w D (lput (rowsOf ls kx fun l => .ref (qa l)) (neg z.1.1) st (.ref p2)))) b = some (.tup ys) := fun b ys h => by
          rw [upd_ne (fun z => by have := qq _ _ h; rw [z, S5.tb] at this; cases this)]
          exact qq _ _ h
        refine ⟨_, rfl, _, rfl, D, st, neg z.1.1, _, rfl, rfl, S5.tb, S5.keys, ((q2.trans q3).trans q4) _ _ hst0, sz _ (by rw [rows_len]; omega), ?_⟩
        refine ⟨_, _, _, _, _, _, _, rfl, S6, ?_, fun l => ?_, fun l y => ?_, kt _ _ h3, fun y m => ?_⟩
        · split
          · omega
          · simp; omega
        · split
          · simp; omega
          · have := lb l; omega
        · rw [take_more hj]
          by_cases c : l = neg z.1.1
          · rw [if_pos c, List.map_append, List.mem_append, mem, c]
            simp only [List.map_cons, List.map_nil, List.mem_singleton, List.mem_append, List.mem_singleton]
            constructor
            · rintro ((h | ⟨z', m, h⟩) | h)
              · exact .inl h
              · exact .inr ⟨z', .inl m, h⟩
              · exact .inr ⟨z, .inr rfl, rfl, h⟩
            · rintro (h | ⟨z', m | m, h⟩)
              · exact .inl (.inl h)
              · exact .inl (.inr ⟨z', m, h⟩)
              · rw [m] at h
                exact .inr h.2
          · rw [if_neg c, mem]
            simp only [List.mem_append, List.mem_singleton]
            constructor
            · rintro (h | ⟨z', m, h⟩)
              · exact .inl h
              · exact .inr ⟨z', .inl m, h⟩
            · rintro (h | ⟨z', m | m, h⟩)
              · exact .inl h
              · exact .inr ⟨z', m, h⟩
              · rw [m] at h
                exact absurd h.1 c
        · obtain ⟨y1, y2, y3⟩ := hz y m
          exact ⟨kt _ _ y1, kt _ _ y2, kt _ _ y3⟩
      · rintro σ H2 ⟨v5, v6, v7, ls, kx, qa, bs, rfl, S, ll, lb, mem, h3, hz⟩
        refine ⟨_, _, _, _, _, _, ls, kx, qa, bs, rfl, S, ll, lb, fun l y => ?_⟩
        have cl : clsOf (cs.take (i + 1)) = clsOf (cs.take i) ++ [(lit1 e, lit2 e)] := by
          rw [take_more hi]
          simp [clsOf]
        rw [mem, cl, edge_app, edge_one]
        simp [prs]
    · rintro σ H' ⟨v2, v3, v4, v5, v6, v7, ls, kx, qa, bs, rfl, S, ll, lb, mem⟩
      rw [List.length_map, List.take_length] at mem
      rw [List.length_map] at lb
      have c9 := G.cm
      exact ⟨_, rfl, q H' D S.s ⟨ls, kx, qa, bs, S.tb, S.ky, S.ch, S.nl, mem, fun l => by have := lb l; omega⟩⟩
end
end Fk
/-! The law's chains. -/
namespace Fk
open PySem PySem.Spec PyProof.Rows L2
open Fc (neg Edge IsDist InvC news keysOf visC visOf Best Reach)
section
variable {P : Program} {w : World} {K : PySem.W.Frag} {mg : Str → Option Value} {base : Heap}
abbrev rowsC (F : List (Lt × List Lt)) (ka fa : Lt → Addr) : List LE := F.map fun p => (p.1, ka p.1, V.ref (fa p.1))
theorem keys_rowsC (F : List (Lt × List Lt)) (ka fa : Lt → Addr) : (rowsC F ka fa).map (·.1) = keysOf F := by simp [rowsC, Fc.keysOf]
theorem isSome_rowsC {F : List (Lt × List Lt)} {ka fa : Lt → Addr} {l : Lt} : (lval (rowsC F ka fa) l).isSome = true ↔ l ∈ keysOf F := by rw [lval_isSome, keys_rowsC]
theorem lval_rowsC {ka fa : Lt → Addr} {l : Lt} : ∀ {F : List (Lt × List Lt)}, lval (rowsC F ka fa) l = if l ∈ keysOf F then some (.ref (fa l)) else none
  | [] => by simp [rowsC, lval_nil, Fc.keysOf]
  | p :: F => by
    show lval ((p.1, ka p.1, V.ref (fa p.1)) :: rowsC F ka fa) l = _
    rw [lval_cons, lval_rowsC]
    have e : keysOf (p :: F) = p.1 :: keysOf F := rfl
    by_cases c : p.1 = l
    · rw [if_pos c, e, if_pos (by rw [c]; exact List.mem_cons_self)]
      simp [c]
    · have c' : ¬ l = p.1 := fun z => c z.symm
      rw [if_neg c, e]
      simp [c']
/-- a dict of chains -/
structure TabC (P : Program) (w : World) (H : Hp) (D : Addr) (F : List (Lt × List Lt)) (ka fa : Lt → Addr) : Prop where
  at_ : H D = some (ldO P w D (rowsC F ka fa))
  ky : ∀ l ∈ keysOf F, H (ka l) = some (litT l)
  ch : ∀ p ∈ F, ChAt H (fa p.1) p.2
  nd : (keysOf F).Nodup
theorem TabC.keys {H : Hp} {D : Addr} {F : List (Lt × List Lt)} {ka fa : Lt → Addr} (T : TabC P w H D F ka fa) : KeysAt H (rowsC F ka fa) := fun x m => by
  obtain ⟨p, hp, rfl⟩ := List.mem_map.mp m
  exact T.ky _ (List.mem_map.mpr ⟨p, hp, rfl⟩)
theorem TabC.same {H H' : Hp} {D : Addr} {F : List (Lt × List Lt)} {ka fa : Lt → Addr} (s : Same H H') (T : TabC P w H D F ka fa) : TabC P w H' D F ka fa := ⟨s _ _ T.at_, fun l m => s _ _ (T.ky l m), fun p m => (T.ch p m).same s, T.nd⟩
theorem ch_updE {H : Hp} {p D : Addr} {ch : List Lt} {xs : List LE} {o : HO} (hD : H D = some (ldO P w D xs)) (C : ChAt H p ch) : ChAt (upd H D o) p ch := by
  obtain ⟨bs, h, e⟩ := C
  refine ⟨bs, ⟨(upd_ne fun z => ?_).trans h.at_, fun b m => (upd_ne fun z => ?_).trans (h.ky b m)⟩, e⟩
  · have := h.at_
    rw [z, hD] at this
    cases this
  · have := h.ky b m
    rw [z, hD] at this
    cases this
theorem TabC.put {H : Hp} {D b p : Addr} {F : List (Lt × List Lt)} {ka fa : Lt → Addr} {v : Lt} {c : List Lt} (T : TabC P w H D F ka fa) (h : v ∉ keysOf F) (hb : H b = some (litT v)) (hp : ChAt H p c) :
    TabC P w (upd H D (ldO P w D (lput (rowsC F ka fa) v b (.ref p)))) D (F ++ [(v, c)]) (fun m => if m = v then b else ka m) (fun m => if m = v then p else fa m) := by
  have kp : ∀ c ys, H c = some (HO.tup ys) → (upd H D (ldO P w D (lput (rowsC F ka fa) v b (.ref p)))) c = some (.tup ys) := fun c ys h => by
    rw [upd_ne (fun z => by rw [z, T.at_] at h; cases h)]
    exact h
  have old : ∀ p ∈ F, p.1 ≠ v := fun p m z => h (List.mem_map.mpr ⟨p, m, z⟩)
  have ln : lval (rowsC F ka fa) v = none := by rw [lval_rowsC, if_neg h]
  refine ⟨?_, fun l m => ?_, fun q m => ?_, ?_⟩
  · rw [upd_same, lput_new ln]
    have e : rowsC (F ++ [(v, c)]) (fun m => if m = v then b else ka m) (fun m => if m = v then p else fa m) = rowsC F ka fa ++ [(v, b, .ref p)] := by
      unfold rowsC
      rw [List.map_append]
      congr 1
      · exact List.map_congr_left fun p m => by simp [old p m]
      · simp
    rw [e]
  · rw [Fc.keysOf_append] at m
    rcases List.mem_append.mp m with z | z
    · have : l ≠ v := fun z' => h (z' ▸ z)
      simp only [if_neg this]
      exact kp _ _ (T.ky l z)
    · have z : l = v := List.mem_singleton.mp z
      subst z
      simp only [if_pos]
      exact kp _ _ hb
  · rcases List.mem_append.mp m with z | z
    · simp only [if_neg (old q z)]
      exact ch_updE T.at_ (T.ch q z)
    · have z := List.mem_singleton.mp z
      subst z
      simp only [if_pos]
      exact ch_updE T.at_ hp
  · rw [Fc.keysOf_append, List.nodup_append]
    refine ⟨T.nd, by simp [Fc.keysOf], fun a ha c' hc e => ?_⟩
    have hc : c' = v := List.mem_singleton.mp hc
    rw [e, hc] at ha
    exact h ha
abbrev CE2 := List Lt × Addr
/-- within a round -/
structure InC (P : Program) (w : World) (Hb H : Hp) (D fo pl : Addr) (F pre : List (Lt × List Lt)) (ka fa : Lt → Addr) (fl sl : List CE2) : Prop where
  sx : SameX D Hb H
  tb : TabC P w H D (F ++ news F pre) ka fa
  foA : H fo = some (.lst (fl.map fun b => V.ref b.2))
  fk : ∀ b ∈ fl, ChAt H b.2 b.1
  fne : ∀ b ∈ fl, b.2 ≠ fo
  tne : ∀ p ∈ F ++ news F pre, fa p.1 ≠ fo
  fe : fl.map Prod.fst = (news F pre).map Prod.snd
  plA : H pl = some (.lst (sl.map fun b => V.ref b.2))
  pne : pl ≠ fo
  nf : Hb fo = none
theorem InC.same {Hb H H' : Hp} {D fo pl : Addr} {F pre : List (Lt × List Lt)} {ka fa : Lt → Addr} {fl sl : List CE2} (s : Same H H') (I : InC P w Hb H D fo pl F pre ka fa fl sl) : InC P w Hb H' D fo pl F pre ka fa fl sl :=
  ⟨I.sx.trans (SameX.of s), I.tb.same s, s _ _ I.foA, fun b m => (I.fk b m).same s, I.fne, I.tne, I.fe, s _ _ I.plA, I.pne, I.nf⟩
theorem InC.skip {Hb H : Hp} {D fo pl : Addr} {F pre : List (Lt × List Lt)} {ka fa : Lt → Addr} {fl sl : List CE2} (I : InC P w Hb H D fo pl F pre ka fa fl sl) {p : Lt × List Lt} (h : p.1 ∈ keysOf (F ++ news F pre)) : InC P w Hb H D fo pl F (pre ++ [p]) ka fa fl sl := by
  have e : news F (pre ++ [p]) = news F pre := by rw [news_snoc, if_pos h]
  exact ⟨I.sx, by rw [e]; exact I.tb, I.foA, I.fk, I.fne, by rw [e]; exact I.tne, by rw [e]; exact I.fe, I.plA, I.pne, I.nf⟩
theorem InC.add {Hb H H2 : Hp} {D fo pl b p1 p2 : Addr} {F pre : List (Lt × List Lt)} {ka fa : Lt → Addr} {fl sl : List CE2} (I : InC P w Hb H D fo pl F pre ka fa fl sl) {v : Lt} {c : List Lt} (h : v ∉ keysOf (F ++ news F pre)) (hb : H b = some (litT v)) (hp1 : ChAt H p1 c) (n1 : p1 ≠ fo)
    (s : Same (upd H D (ldO P w D (lput (rowsC (F ++ news F pre) ka fa) v b (.ref p1)))) H2) (hp2 : ChAt H2 p2 c) (n2 : p2 ≠ fo) :
    InC P w Hb (upd H2 fo (.lst (fl.map (fun b => V.ref b.2) ++ [.ref p2]))) D fo pl F (pre ++ [(v, c)]) (fun m => if m = v then b else ka m) (fun m => if m = v then p1 else fa m) (fl ++ [(c, p2)]) sl := by
  have e : news F (pre ++ [(v, c)]) = news F pre ++ [(v, c)] := by rw [news_snoc, if_neg h]
  have df : D ≠ fo := fun z => by have := I.tb.at_; rw [z, I.foA] at this; cases this
  have pd : pl ≠ D := fun z => by have := I.plA; rw [z, I.tb.at_] at this; cases this
  have T := (I.tb.put h hb hp1).same s
  have hfo2 : H2 fo = some (.lst (fl.map fun b => V.ref b.2)) := s _ _ ((upd_ne df.symm).trans I.foA)
  have old : ∀ p ∈ F ++ news F pre, p.1 ≠ v := fun p m z => h (List.mem_map.mpr ⟨p, m, z⟩)
  refine ⟨fun x o z hx => ?_, ?_, ?_, fun q m => ?_, fun q m => ?_, fun q m => ?_, ?_, ?_, I.pne, I.nf⟩
  · rw [upd_ne (ne_of_none hx I.nf)]
    exact s _ _ ((upd_ne z).trans (I.sx _ _ z hx))
  · rw [e, ← List.append_assoc]
    refine ⟨(upd_ne df).trans T.at_, fun l m => ?_, fun q m => ?_, T.nd⟩
    · have := T.ky l m
      rw [upd_ne (fun z => by rw [z, hfo2] at this; cases this)]
      exact this
    · refine ch_upd hfo2 ?_ (T.ch q m)
      rcases List.mem_append.mp m with z | z
      · simp only [if_neg (old q z)]
        exact I.tne q z
      · have z := List.mem_singleton.mp z
        subst z
        simp only [if_pos]
        exact n1
  · rw [upd_same, List.map_append]
    rfl
  · rcases List.mem_append.mp m with z | z
    · exact ch_upd hfo2 (I.fne q z) ((ch_updE I.tb.at_ (I.fk q z)).same s)
    · rw [List.mem_singleton.mp z]
      exact ch_upd hfo2 n2 hp2
  · rcases List.mem_append.mp m with z | z
    · exact I.fne q z
    · rw [List.mem_singleton.mp z]
      exact n2
  · rw [e, ← List.append_assoc] at m
    rcases List.mem_append.mp m with z | z
    · simp only [if_neg (old q z)]
      exact I.tne q z
    · have z := List.mem_singleton.mp z
      subst z
      simp only [if_pos]
      exact n1
  · rw [e, List.map_append, List.map_append, I.fe]
    rfl
  · rw [upd_ne I.pne]
    exact s _ _ ((upd_ne pd).trans I.plA)
theorem ChB.sameX {H H' : Hp} {D p : Addr} {bs : List (Lt × Addr)} {xs : List LE} (s : SameX D H H') (hD : H D = some (ldO P w D xs)) (C : ChB H p bs) : ChB H' p bs :=
  ⟨s _ _ (fun z => by have := C.at_; rw [z, hD] at this; cases this) C.at_, fun b m => s _ _ (fun z => by have := C.ky b m; rw [z, hD] at this; cases this) (C.ky b m)⟩
theorem StepsAt.sameX {H H' : Hp} {D d : Addr} {xs : List LE} {cl : Fc.Cls Str} (s : SameX D H H') (hD : H D = some (ldO P w D xs)) (ne : d ≠ D) (S : StepsAt P w H d cl) : StepsAt P w H' d cl := by
  obtain ⟨ls, kx, qa, bs, h1, h2, h3, h4, h5, h6⟩ := S
  exact ⟨ls, kx, qa, bs, s _ _ ne h1, fun l m => s _ _ (fun z => by have := h2 l m; rw [z, hD] at this; cases this) (h2 l m), fun l m => (h3 l m).sameX s hD, h4, h5, h6⟩
theorem StepsAt.same {H H' : Hp} {d : Addr} {cl : Fc.Cls Str} (s : Same H H') (S : StepsAt P w H d cl) : StepsAt P w H' d cl := by
  obtain ⟨ls, kx, qa, bs, h1, h2, h3, h4, h5, h6⟩ := S
  exact ⟨ls, kx, qa, bs, s _ _ h1, fun l m => s _ _ (h2 l m), fun l m => (h3 l m).same s, h4, h5, h6⟩
theorem dp_chs {H : Hp} : ∀ {L : List CE2}, (∀ b ∈ L, ChAt H b.2 b.1) → DpAll K H (L.map fun b => V.ref b.2) (L.map fun b => chD b.1)
  | [], _ => .nil
  | b :: r, h => .cons (dp_ch (h b List.mem_cons_self)) (dp_chs fun c m => h c (List.mem_cons_of_mem _ m))
theorem eqv_nilC {L : List CE2} : PyData.eqv (.list (L.map fun b => chD b.1)) (.list []) = decide (L = []) := by
  cases L with
  | nil => rfl
  | cons b r =>
    rw [decide_eq_false (by simp)]
    rfl
def spChains (P : Program) (w : World) : Sp := fun vs H Q _ => ∃ (g sa : Addr) (es : List OE) (cs : List CE) (st : Lt), vs = [.ref g, .ref sa] ∧ GrAt H g es cs ∧ H sa = some (litT st) ∧ st.1 ∈ es.map (·.n) ∧
  ∀ H' D xs, Same H H' → H' D = some (ldO P w D xs) → KeysAt H' xs → (∀ l, (lval xs l = none ∧ ¬ Reach (clsOf cs) st l) ∨ ∃ p c, lval xs l = some (.ref p) ∧ ChAt H' p c ∧ Best llt (clsOf cs) st l c) → Q (.ref D) H'
abbrev s_law_chains : Stmt := (top 58)
abbrev n_law_chains : List Str := ["_law_grammar_here", "_law_start", "_law_steps_here", "_law_found", "_law_level", "_law_later", "_law_chain", "_law_literal"]
theorem sc_law_chains : FnScope ["_law_grammar_here", "_law_start", "_law_steps_here", "_law_found", "_law_level", "_law_later", "_law_chain", "_law_literal"] ["_law_grammar_here", "_law_start"] (defScope s_law_chains) := ⟨rfl, rfl, rfl, by decide +kernel, rfl, by decide +kernel, by decide +kernel⟩
-- slots: _law_grammar_here 0, _law_start 1, _law_steps_here 2, _law_found 3, _law_level 4, _law_later 5, _law_chain 6, _law_literal 7
theorem ok_law_chains {f f1 : Addr} {fd fd1 : FuncData} (F : FunM K mg "_law_chains" s_law_chains f fd) (T : Txt K mg) (D_law_steps : Dn P w K mg base CX0 2 "_law_steps" f1 fd1 ["_law_grammar_here"] (spSteps P w)) : Dn P w K mg base CX0 3 "_law_chains" f fd ["_law_grammar_here", "_law_start"] (spChains P w) := by
  refine ⟨F.fn.ok sc_law_chains (fun vs H Q E h => ?_) (fun cdv A outer s H vs Q E hr h => ?_), F.mg, F.fn.kp, (F.fn.binds fun _ _ _ _ _ _ us hl => match us, hl with | [_, _], _ => rfl)⟩
  · obtain ⟨_, _, _, _, _, rfl, _⟩ := h
    rfl
  · obtain ⟨g, sa, es, cs, st, rfl, G, hsa, stn, q⟩ := h
    have hu := hu_of hr
    refine ⟨_, (pss_cons (ps_par3 (i := 2) (j := 3) (l := 4) (by rfl) sc_law_chains.nd rfl rfl rfl (by decide) (by decide) (by decide) rfl rfl rfl (pa_cons (pe_call D_law_steps.ok (hr.mono (by decide)) rfl D_law_steps.mg D_law_steps.kp D_law_steps.bi .nil pass0 (pa_cons (pv 0) pa_nil)) (pa_cons (pe_lone hr.units0 (pv 1) (pe_lst (pa_cons (pv 1) pa_nil))) (pa_cons (pe_lst (pa_cons (pe_lst (pa_cons (pv 1) pa_nil)) pa_nil)) pa_nil))) (by rfl))
      (pss_cons (ps_while PassesOwn.never (pt_cmpR (op_neD hr.units) (pv 4) (pe_lst pa_nil) (nomark _)) (pss_cons (ps_set (i := 5) sc_law_chains.nd rfl (by first | exact Or.inl rfl | exact Or.inr rfl) (pe_lst pa_nil))
      (pss_cons (ps_for PassesOwn.never rfl (pi_list (pe_callB (cr_sortB (hu1_of hr)) (by rfl) T.b_sorted (by decide +kernel) (pa_cons (pv 4) pa_nil))) (pg_name (i := 6) sc_law_chains.nd rfl (by first | exact Or.inl rfl | exact Or.inr rfl)) (pss_one (ps_for PassesOwn.never rfl (pi_list (pe_callB (cr_sortB (hu1_of hr)) (by rfl) T.b_sorted (by decide +kernel) (pa_cons (pe_lget2 hu (pv 2) (pe_ix ix_list (pv 6) (pe_un un_neg pe_int) (fun _ _ => rfl)) (pe_lst pa_nil) ⟨rfl, rfl, rfl, rfl⟩) pa_nil))) (pg_name (i := 7) sc_law_chains.nd rfl (by first | exact Or.inl rfl | exact Or.inr rfl)) (pss_one (ps_if (pt_cmp (pc_lnotin hu (pv 7) (pv 3)) (by rfl)) (pss_cons (ps_lput hu (pv 3) (pv 7) (pe_op op_cat (pv 6) (pe_lst (pa_cons (pv 7) pa_nil))) rfl)
      (pss_one (ps_expr (pe_bm PySem.F.plainAttrs_list PySem.F.slot_list_append PySem.F.type_list_append mt_append (pv 5) (pa_cons (pe_op op_cat (pv 6) (pe_lst (pa_cons (pv 7) pa_nil))) pa_nil))))) pss_nil)))))
      (pss_one (ps_set (i := 4) sc_law_chains.nd rfl (by first | exact Or.inl rfl | exact Or.inr rfl) (pv 5))))))
      (pss_one (ps_ret (pv 3))))), ?_⟩
    refine ⟨_, rfl, g, es, cs, rfl, G, fun H1 sd s1 hS1 => ?_⟩
    intro D hD
    have sD := same_upd (o := ldO P w D []) hD
    have hsa2 := sD _ _ (s1 _ _ hsa)
    refine ⟨_, rfl, _, rfl, sz1, fun c1 hc1 => ?_⟩
    have h1D : (upd (upd H1 D (ldO P w D [])) c1 (.lst [.ref sa])) D = some (ldO P w D []) := same_upd hc1 _ _ upd_same
    have s2 := same_upd (o := .lst [.ref sa]) hc1
    refine ⟨h1D, sa, st, rfl, s2 _ _ hsa2, ?_⟩
    have nD0 : H D = none := s1.free hD
    have sA : Same H (upd (upd (upd H1 D (ldO P w D [])) c1 (.lst [.ref sa])) D (ldO P w D [(st, sa, .ref c1)])) := same_put ((s1.trans sD).trans s2) nD0
    refine ⟨_, rfl, sz1, fun c2 hc2 => ⟨sz1, fun lv hlv => ⟨_, _, _, rfl, ?_⟩⟩⟩
    have s3 := same_upd (o := .lst [.ref sa]) hc2
    have s4 := same_upd (o := .lst [.ref c2]) hlv
    have sB := (sA.trans s3).trans s4
    have names_in : ∀ v dd, IsDist (clsOf cs) st v dd → v.1 ∈ es.map (·.n) := fun v dd h => (over_cls fun c m => (G.cw c m).2).pth h.1 stn
    have ov : Fc.Over (clsOf cs) (es.map (·.n)) := over_cls fun c m => (G.cw c m).2
    have nok : ∀ n ∈ es.map (·.n), n ∈ okNames := fun n m => by
      obtain ⟨e, me, rfl⟩ := List.mem_map.mp m
      exact (G.os e me).nm
    have m7 : (es.map (·.n)).length ≤ 7 := by rw [List.length_map]; exact G.oo.most
    have sdD : sd ≠ D := by
      obtain ⟨ls, kx, qa, bs, h1, _⟩ := hS1
      exact ne_of_none h1 hD
    have hsaD : sa ≠ D := ne_of_none (s1 _ _ hsa) hD
    have hsaB : (upd (upd (upd (upd (upd H1 D (ldO P w D [])) c1 (.lst [.ref sa])) D (ldO P w D [(st, sa, .ref c1)])) c2 (.lst [.ref sa])) lv (.lst [.ref c2])) sa = some (litT st) := sB _ _ hsa
    have c1D : c1 ≠ D := Ne.symm (ne_of_none upd_same hc1)
    have hS4 : StepsAt P w (upd (upd (upd (upd (upd H1 D (ldO P w D [])) c1 (.lst [.ref sa])) D (ldO P w D [(st, sa, .ref c1)])) c2 (.lst [.ref sa])) lv (.lst [.ref c2])) sd (clsOf cs) := by
      refine ((StepsAt.sameX (D := D) (xs := []) ?_ h1D sdD ((hS1.same sD).same s2)).same s3).same s4
      exact fun b o z e => (upd_ne z).trans e
    refine ⟨fun m σ H' => ∃ (k : Nat) (F : List (Lt × List Lt)) (ka fa : Lt → Addr) (L : List CE2) (lv : Addr) (v5 v6 v7 : Option V), σ = [some (.ref g), some (.ref sa), some (.ref sd), some (.ref D), some (.ref lv), v5, v6, v7] ∧ Same H H' ∧ TabC P w H' D F ka fa ∧
        H' lv = some (.lst (L.map fun b => V.ref b.2)) ∧ (∀ b ∈ L, ChAt H' b.2 b.1) ∧ StepsAt P w H' sd (clsOf cs) ∧ InvC llt (clsOf cs) st k F (L.map Prod.fst) ∧ L.length ≤ 14 ∧ m = (2 * (es.map (·.n)).length - F.length) + (if L.length = 0 then 0 else 1),
      ⟨_, 0, [(st, [st])], fun _ => sa, fun _ => c1, [([st], c2)], lv, _, _, _, rfl, sB, ⟨s4 _ _ (s3 _ _ upd_same), fun l m => ?_, fun p m => ?_, by simp [Fc.keysOf]⟩, upd_same, fun b m => ?_, hS4, InvC.start (clsOf cs) st, by simp, rfl⟩, ?_⟩
    · have m : l = st := List.mem_singleton.mp m
      rw [m]
      exact hsaB
    · rw [List.mem_singleton.mp m]
      exact ⟨[(st, sa)], ⟨s4 _ _ (s3 _ _ ((upd_ne c1D).trans upd_same)), fun b mb => by rw [List.mem_singleton.mp mb]; exact hsaB⟩, rfl⟩
    · rw [List.mem_singleton.mp m]
      exact ⟨[(st, sa)], ⟨s4 _ _ upd_same, fun b mb => by rw [List.mem_singleton.mp mb]; exact hsaB⟩, rfl⟩
    rintro m σ H' ⟨k, F, ka, fa, L, lv, v5, v6, v7, rfl, s5, tb, hl, hk, hS, Iv, Lsz, rfl⟩
    have Lb : ∀ b ∈ L, ∃ v, IsDist (clsOf cs) st v k ∧ Best llt (clsOf cs) st v b.1 := fun b mb => (Iv.lev _).mp (List.mem_map.mpr ⟨b, mb, rfl⟩)
    have Lok : ∀ b ∈ L, ∀ x ∈ b.1, x.1 ∈ okNames := fun b mb x hx => by
      obtain ⟨v, _, hB⟩ := Lb b mb
      exact nok _ (path_over ov hB.1 stn x hx)
    have Llen : ∀ b ∈ L, b.1.length ≤ 14 := fun b mb => by
      obtain ⟨v, _, hB⟩ := Lb b mb
      have := best_len ov hB stn
      omega
    refine ⟨_, rfl, sz0, fun t ht => ?_⟩
    have st1 := same_upd (o := .lst []) ht
    refine ⟨_, _, .lst (.of (st1 _ _ hl)) (dp_chs fun b m => (hk b m).same st1), .lst (.of upd_same) .nil, (Sh.list (n := 2) fun d m => ?_).ok, (Sh.list (n := 0) nil_all).ok, _, rfl, ?_⟩
    · obtain ⟨b, mb, rfl⟩ := List.mem_map.mp m
      exact sh_ch (Lok b mb)
    rw [eqv_nilC]
    have len14 : ∀ (G : List (Lt × List Lt)), (keysOf G).Nodup → (∀ v ∈ keysOf G, v.1 ∈ es.map (·.n)) → G.length ≤ 14 := fun G nd hin => by
      have h1 := Fc.nodup_le (m := Fc.litsOf (es.map (·.n))) nd fun v hv => Fc.mem_litsOf.mpr (hin v hv)
      have h2 := Fc.litsOf_length (es.map (·.n))
      rw [Fc.keysOf, List.length_map] at h1
      omega
    by_cases hL : L = []
    · refine ifF (by simp [hL]) ?_
      subst hL
      have Dn := Iv.done llt_total
      have tb2 := tb.same st1
      refine ⟨_, rfl, q _ D _ (s5.trans st1) tb2.at_ tb2.keys fun l => ?_⟩
      rw [lval_rowsC]
      by_cases m : l ∈ keysOf F
      · obtain ⟨p, mp, e⟩ := List.mem_map.mp m
        right
        refine ⟨fa l, p.2, by rw [if_pos m], ?_, ?_⟩
        · rw [← e]
          exact tb2.ch p mp
        · exact ((Dn l).1 p.2).mp (by rw [← e]; exact mp)
      · left
        exact ⟨by rw [if_neg m], fun r => m ((Dn l).2.mpr r)⟩
    · refine ifT (by simp [hL]) ⟨_, fun _ _ h => h, ?_⟩
      refine ⟨sz0, fun fo hfo => ?_⟩
      have sf := same_upd (o := .lst []) hfo
      have sFF := st1.trans sf
      have tbF := tb.same sFF
      have sL := sortB_of (K := K) (H := upd (upd H' t (.lst [])) fo (.lst [])) (bs := L) (f := fun c : CE2 => V.ref c.2) (enc := fun c : CE2 => chD c.1) (fun b m => dp_ch ((hk b m).same sFF)) (fun a b => alike_ch _ _) (PySem.W.Sortable.others fun b => ⟨(fun z => by cases z), (fun xs z => by cases z)⟩) (szl (by omega)) (fun b m => Nat.le_trans (sh_ch (Lok b m)).dep (by decide))
      refine ⟨_, rfl, lv, CE2, L, (fun c => V.ref c.2), (fun c => chD c.1), rfl, .of (sFF _ _ hl), sL, fun pl hpl => ?_⟩
      have sp := same_upd (o := .lst ((L.mergeSort (PySem.W.dataLe false fun c : CE2 => chD c.1)).map fun c => V.ref c.2)) hpl
      have pw := sorted_by (enc := fun c : CE2 => chD c.1) L
      have mm : ∀ x, x ∈ L.mergeSort (PySem.W.dataLe false fun c : CE2 => chD c.1) ↔ x ∈ L := fun x => mem_sorted
      generalize L.mergeSort (PySem.W.dataLe false fun c : CE2 => chD c.1) = sl at sp pw mm
      have plfo : pl ≠ fo := Ne.symm (ne_of_none upd_same hpl)
      obtain ⟨ls, kx, qa, bs, hsd, hky, hch, hnl, hmem, hbl⟩ := hS
      -- the steps of a literal, sorted
      have hsu : ∀ x y, y ∈ (((bs x).mergeSort (PySem.W.dataLe false fun b : Lt × Addr => litD b.1)).map Prod.fst) ↔ Edge (clsOf cs) x y := fun x y => by
        rw [← hmem]
        constructor
        · intro m
          obtain ⟨b, mb, rfl⟩ := List.mem_map.mp m
          exact List.mem_map.mpr ⟨b, mem_sorted.mp mb, rfl⟩
        · intro m
          obtain ⟨b, mb, rfl⟩ := List.mem_map.mp m
          exact List.mem_map.mpr ⟨b, mem_sorted.mpr mb, rfl⟩
      refine ⟨pl, rfl, ⟨_, .of upd_same⟩, ?_⟩
      have ofo : ∀ b o, H' b = some o → b ≠ fo := fun b o e => ne_of_none (st1 _ _ e) hfo
      have fan : ∀ p ∈ F, fa p.1 ≠ fo := fun p m => by
        obtain ⟨cb, hcb, _⟩ := tb.ch p m
        exact ofo _ _ hcb.at_
      refine for_list (K := K) (a := pl) (xs := sl.map fun b => V.ref b.2) (fun i σ H2 => ∃ (v6 v7 : Option V) (ka fa : Lt → Addr) (fl : List CE2), σ = [some (.ref g), some (.ref sa), some (.ref sd), some (.ref D), some (.ref lv), some (.ref fo), v6, v7] ∧
          InC P w H' H2 D fo pl F (visC (fun x => ((bs x).mergeSort (PySem.W.dataLe false fun b : Lt × Addr => litD b.1)).map Prod.fst) ((sl.take i).map Prod.fst)) ka fa fl sl)
        ⟨_, _, ka, fa, [], rfl, ⟨SameX.of (sFF.trans sp), by simpa [visC, news] using tbF.same sp, sp _ _ upd_same, (fun _ h => nomatch h), (fun _ h => nomatch h), by simpa [visC, news] using fan, rfl, upd_same, plfo, (by
          cases e : H' fo with
          | none => rfl
          | some o => exact absurd rfl (ofo _ _ e))⟩⟩ (fun i σ H2 _ ⟨_, _, _, _, _, _, I⟩ => .of I.plA) ?_ ?_
      · rintro i y σ H2 hy ⟨v6, v7, ka, fa, fl, rfl, I⟩
        obtain ⟨c, hi, rfl⟩ := map_get hy
        have mc := (mm c).mp (mem_of_get hi)
        obtain ⟨cb, hcb, ecb⟩ := hk c mc
        obtain ⟨u, hdu, hB⟩ := Lb c mc
        have last := hB.1.last
        have c14 := Llen c mc
        obtain ⟨pre, ua, ep⟩ : ∃ pre ua, cb = pre ++ [(u, ua)] := by
          rcases List.eq_nil_or_concat cb with z | ⟨pre, b, z⟩
          · rw [← ecb, z] at last
            simp at last
          · have z : cb = pre ++ [b] := by simpa using z
            rw [← ecb, z, List.map_append] at last
            have e : b.1 = u := by simpa using last
            exact ⟨pre, b.2, by rw [z, ← e]⟩
        have cbl : cb.length = c.1.length := by rw [← ecb, List.length_map]
        have hc2 := hcb.sameX I.sx tb.at_
        have lastI : atI (cb.map fun b => V.ref b.2) (-1) = some (.ref ua) := by
          rw [ep, List.map_append]
          exact atI_last _ _
        have hua := hc2.ky (u, ua) (by rw [ep]; simp)
        have vis : visC (fun x => ((bs x).mergeSort (PySem.W.dataLe false fun b : Lt × Addr => litD b.1)).map Prod.fst) ((sl.take (i + 1)).map Prod.fst) = visC (fun x => ((bs x).mergeSort (PySem.W.dataLe false fun b : Lt × Addr => litD b.1)).map Prod.fst) ((sl.take i).map Prod.fst) ++ ((bs u).mergeSort (PySem.W.dataLe false fun b : Lt × Addr => litD b.1)).map fun b => (b.1, c.1 ++ [b.1]) := by
          rw [take_more hi]
          simp [visC, visOf, last]
        have hbk : ∀ b ∈ bs u, H' b.2 = some (litT b.1) := fun b mb => by
          by_cases m : u ∈ ls
          · exact (hch u m).ky b mb
          · rw [hnl u m] at mb
            cases mb
        have kD : ∀ b ys, H' b = some (HO.tup ys) → b ≠ D := fun b ys h z => by rw [z, tb.at_] at h; cases h
        have sd2 := I.sx _ _ sdD hsd
        have ky2 : KeysAt H2 (rowsOf ls kx fun l => .ref (qa l)) := fun x m => by
          obtain ⟨l, hl, rfl⟩ := List.mem_map.mp m
          exact I.sx _ _ (kD _ _ (hky l hl)) (hky l hl)
        refine ⟨_, rfl, sd, _, rfl, ⟨.inl sd2, ky2⟩, _, rfl, _, rfl, c.2, _, _, _, rfl, rfl, .of hc2.at_, lastI, sz0, fun e0 he0 => ?_⟩
        have s6 := same_upd (o := .lst []) he0
        have I3 := I.same s6
        refine ⟨ua, u, _, rfl, ⟨.inl (s6 _ _ sd2), ky2.keep fun b ys h => s6 _ _ h⟩, s6 _ _ hua, ?_⟩
        obtain ⟨qv, hqv, hq⟩ : ∃ qv, ((lval (rowsOf ls kx fun l => V.ref (qa l)) u).getD (.ref e0)) = V.ref qv ∧ ChB (upd H2 e0 (.lst [])) qv (bs u) := by
          rw [lval_rows]
          by_cases m : u ∈ ls
          · rw [if_pos m]
            exact ⟨_, rfl, ((hch u m).sameX I.sx tb.at_).same s6⟩
          · rw [if_neg m]
            refine ⟨_, rfl, ?_, ?_⟩
            · rw [hnl u m]
              exact upd_same
            · rw [hnl u m]
              exact fun _ h => nomatch h
        have b18 := hbl u
        refine ⟨qv, Lt × Addr, bs u, (fun b => V.ref b.2), (fun b => litD b.1), congrArg (fun v => [v]) hqv, .of hq.at_, sortB_lits hq.ky (szl (by omega)), fun ps hps => ?_⟩
        have s7 := same_upd (o := .lst (((bs u).mergeSort (PySem.W.dataLe false fun b : Lt × Addr => litD b.1)).map fun b => V.ref b.2)) hps
        have I4 := I3.same s7
        have psfo : ps ≠ fo := Ne.symm (ne_of_none (s6 _ _ I.foA) hps)
        have hsm : ∀ x, x ∈ (bs u).mergeSort (PySem.W.dataLe false fun b : Lt × Addr => litD b.1) ↔ x ∈ bs u := fun x => mem_sorted
        have hsub := hsu u
        have hps4 : (upd (upd H2 e0 (.lst [])) ps (.lst (((bs u).mergeSort (PySem.W.dataLe false fun b : Lt × Addr => litD b.1)).map fun b => V.ref b.2))) ps = some (.lst (((bs u).mergeSort (PySem.W.dataLe false fun b : Lt × Addr => litD b.1)).map fun b => V.ref b.2)) := upd_same
        generalize (bs u).mergeSort (PySem.W.dataLe false fun b : Lt × Addr => litD b.1) = so at hsm hsub hps4 vis s7 I4 ⊢
        refine ⟨ps, rfl, ⟨_, .of hps4⟩, ?_⟩
        refine for_list (K := K) (a := ps) (xs := so.map fun b => V.ref b.2) (fun j σ H2 => ∃ (v7 : Option V) (ka fa : Lt → Addr) (fl : List CE2), σ = [some (.ref g), some (.ref sa), some (.ref sd), some (.ref D), some (.ref lv), some (.ref fo), some (.ref c.2), v7] ∧
            InC P w H' H2 D fo pl F (visC (fun x => ((bs x).mergeSort (PySem.W.dataLe false fun b : Lt × Addr => litD b.1)).map Prod.fst) ((sl.take i).map Prod.fst) ++ (so.take j).map fun b => (b.1, c.1 ++ [b.1])) ka fa fl sl ∧ H2 ps = some (.lst (so.map fun b => V.ref b.2)))
          ⟨_, ka, fa, fl, rfl, by simpa using I4, hps4⟩ (fun j σ H2 _ ⟨_, _, _, _, _, _, h⟩ => .of h) ?_ ?_
        · rintro j y σ H5 hy ⟨v7, ka, fa, fl, rfl, I, hp5⟩
          obtain ⟨b, hj, rfl⟩ := map_get hy
          have mb := (hsm b).mp (mem_of_get hj)
          have hb := I.sx _ _ (kD _ _ (hbk b mb)) (hbk b mb)
          have hc5 := hcb.sameX I.sx tb.at_
          have eE : Edge (clsOf cs) u b.1 := (hmem u b.1).mp (List.mem_map.mpr ⟨b, mb, rfl⟩)
          have tk : (so.take (j + 1)).map (fun b => (b.1, c.1 ++ [b.1])) = (so.take j).map (fun b => (b.1, c.1 ++ [b.1])) ++ [(b.1, c.1 ++ [b.1])] := by
            rw [take_more hj, List.map_append]
            rfl
          have hin : ∀ v ∈ keysOf (F ++ news F (visC (fun x => ((bs x).mergeSort (PySem.W.dataLe false fun b : Lt × Addr => litD b.1)).map Prod.fst) ((sl.take i).map Prod.fst) ++ (so.take j).map fun b => (b.1, c.1 ++ [b.1]))), v.1 ∈ es.map (·.n) := fun v hv => by
            rw [Fc.keysOf_append] at hv
            rcases List.mem_append.mp hv with z | z
            · obtain ⟨dd, _, h⟩ := Iv.known.mp z
              exact names_in v dd h
            · obtain ⟨p, mp, rfl⟩ := List.mem_map.mp z
              obtain ⟨pr, post, e, _⟩ := Fc.news_first _ _ _ mp
              have m : p ∈ visC (fun x => ((bs x).mergeSort (PySem.W.dataLe false fun b : Lt × Addr => litD b.1)).map Prod.fst) ((sl.take i).map Prod.fst) ++ (so.take j).map fun b => (b.1, c.1 ++ [b.1]) := by rw [e]; simp
              rcases List.mem_append.mp m with z | z
              · obtain ⟨c', mc', z⟩ := List.mem_flatMap.mp z
                unfold visOf at z
                cases e2 : c'.getLast? with
                | none => rw [e2] at z; cases z
                | some u' =>
                  rw [e2] at z
                  obtain ⟨v', mv, rfl⟩ := List.mem_map.mp z
                  exact (ov.edge ((hsu u' v').mp mv)).2
              · obtain ⟨b', mb', rfl⟩ := List.mem_map.mp z
                exact (ov.edge ((hsub b'.1).mp (List.mem_map.mpr ⟨b', List.mem_of_mem_take mb', rfl⟩))).2
          have h14 := len14 _ I.tb.nd hin
          have psD : ps ≠ D := fun z => by rw [z, I.tb.at_] at hp5; cases hp5
          have foD : fo ≠ D := fun z => by have := I.foA; rw [z, I.tb.at_] at this; cases this
          refine ⟨_, rfl, _, rfl, D, b.2, b.1, _, rfl, rfl, ⟨.inl I.tb.at_, I.tb.keys⟩, hb, _, rfl, ?_⟩
          rw [lval_rowsC]
          by_cases m : b.1 ∈ keysOf (F ++ news F (visC (fun x => ((bs x).mergeSort (PySem.W.dataLe false fun b : Lt × Addr => litD b.1)).map Prod.fst) ((sl.take i).map Prod.fst) ++ (so.take j).map fun b => (b.1, c.1 ++ [b.1])))
          · rw [if_pos m]
            refine iteF ⟨_, ka, fa, fl, rfl, ?_, hp5⟩
            rw [tk, ← List.append_assoc]
            exact I.skip m
          · rw [if_neg m]
            refine iteT ?_
            have mkc : ∀ (Hx : Hp), ChB Hx c.2 cb → Hx b.2 = some (litT b.1) → ∀ q, ChAt (upd Hx q (.lst ((cb.map fun b => V.ref b.2) ++ [.ref b.2]))) q (c.1 ++ [b.1]) ∨ Hx q ≠ none := fun Hx h1 h2 q => by
              by_cases z : Hx q = none
              · have s := same_upd (o := .lst ((cb.map fun b => V.ref b.2) ++ [.ref b.2])) z
                refine .inl ⟨cb ++ [b], ⟨by rw [upd_same, List.map_append]; rfl, fun e me => ?_⟩, by rw [List.map_append, ecb]; rfl⟩
                rcases List.mem_append.mp me with y | y
                · exact s _ _ (h1.ky e y)
                · rw [List.mem_singleton.mp y]
                  exact s _ _ h2
              · exact .inr z
            refine ⟨_, rfl, _, rfl, sz1, fun x1 hx1 => ?_⟩
            have t1 := same_upd (o := .lst [.ref b.2]) hx1
            refine ⟨c.2, x1, _, _, rfl, rfl, t1 _ _ hc5.at_, upd_same, szl (by simp; omega), fun p1 hp1 => ?_⟩
            have t2 := same_upd (o := .lst ((cb.map fun b => V.ref b.2) ++ [.ref b.2])) hp1
            have p1c := (mkc _ (hc5.same t1) (t1 _ _ hb) p1).resolve_right (fun z => z hp1)
            have I6 := (I.same t1).same t2
            have p1fo : p1 ≠ fo := Ne.symm (ne_of_none (t1 _ _ I.foA) hp1)
            have hb6 := t2 _ _ (t1 _ _ hb)
            refine ⟨_, rfl, _, rfl, D, b.2, b.1, _, rfl, rfl, I6.tb.at_, I6.tb.keys, hb6, sz _ (by rw [List.length_map]; omega), ?_⟩
            have bD : b.2 ≠ D := fun z => by rw [z, I.tb.at_] at hb; cases hb
            have cD : c.2 ≠ D := fun z => by have := hc5.at_; rw [z, I.tb.at_] at this; cases this
            have kx7 : ∀ x o, x ≠ D → (upd (upd H5 x1 (.lst [.ref b.2])) p1 (.lst ((cb.map fun b => V.ref b.2) ++ [.ref b.2]))) x = some o → (upd (upd (upd H5 x1 (.lst [.ref b.2])) p1 (.lst ((cb.map fun b => V.ref b.2) ++ [.ref b.2]))) D (ldO P w D (lput (rowsC (F ++ news F (visC (fun x => ((bs x).mergeSort (PySem.W.dataLe false fun b : Lt × Addr => litD b.1)).map Prod.fst) ((sl.take i).map Prod.fst) ++ (so.take j).map fun b => (b.1, c.1 ++ [b.1]))) ka fa) b.1 b.2 (.ref p1)))) x = some o := fun x o z h => (upd_ne z).trans h
            have hfo7 := kx7 _ _ foD I6.foA
            have hc7 : ChB (upd (upd (upd H5 x1 (.lst [.ref b.2])) p1 (.lst ((cb.map fun b => V.ref b.2) ++ [.ref b.2]))) D (ldO P w D (lput (rowsC (F ++ news F (visC (fun x => ((bs x).mergeSort (PySem.W.dataLe false fun b : Lt × Addr => litD b.1)).map Prod.fst) ((sl.take i).map Prod.fst) ++ (so.take j).map fun b => (b.1, c.1 ++ [b.1]))) ka fa) b.1 b.2 (.ref p1)))) c.2 cb := ⟨kx7 _ _ cD ((hc5.same t1).same t2).at_, fun e me => kx7 _ _ (fun z => by have := ((hc5.same t1).same t2).ky e me; rw [z, I6.tb.at_] at this; cases this) (((hc5.same t1).same t2).ky e me)⟩
            have hb7 := kx7 _ _ bD hb6
            have hp7 := kx7 _ _ psD (t2 _ _ (t1 _ _ hp5))
            have fl14 : fl.length ≤ 14 := by
              have e := congrArg List.length I.fe
              rw [List.length_map, List.length_map] at e
              rw [List.length_append] at h14
              omega
            refine ⟨_, rfl, .inl ⟨rfl, _, .of hfo7⟩, _, rfl, _, rfl, sz1, fun x2 hx2 => ?_⟩
            have t3 := same_upd (o := .lst [.ref b.2]) hx2
            refine ⟨c.2, x2, _, _, rfl, rfl, t3 _ _ hc7.at_, upd_same, szl (by simp; omega), fun p2 hp2 => ?_⟩
            have t4 := same_upd (o := .lst ((cb.map fun b => V.ref b.2) ++ [.ref b.2])) hp2
            have p2c := (mkc _ (hc7.same t3) (t3 _ _ hb7) p2).resolve_right (fun z => z hp2)
            have p2fo : p2 ≠ fo := Ne.symm (ne_of_none (t3 _ _ hfo7) hp2)
            refine ⟨fo, _, _, rfl, rfl, t4 _ _ (t3 _ _ hfo7), sz _ (by rw [List.length_map]; omega), ?_⟩
            refine ⟨_, (fun m => if m = b.1 then b.2 else ka m), (fun m => if m = b.1 then p1 else fa m), fl ++ [(c.1 ++ [b.1], p2)], rfl, ?_, ?_⟩
            · rw [tk, ← List.append_assoc]
              exact I6.add m hb6 p1c p1fo (t3.trans t4) p2c p2fo
            · rw [upd_ne psfo]
              exact t4 _ _ (t3 _ _ hp7)
        · rintro σ H5 ⟨v7, ka, fa, fl, rfl, I, hp5⟩
          rw [List.length_map, List.take_length] at I
          exact ⟨_, _, ka, fa, fl, rfl, by rw [vis]; exact I⟩
      · rintro σ H2 ⟨v6, v7, ka, fa, fl, rfl, I⟩
        rw [List.length_map, List.take_length] at I
        refine ⟨_, rfl, ?_⟩
        have I2 := Iv.step llt_total (L' := sl.map Prod.fst) hsu (fun c => by
          constructor
          · intro m
            obtain ⟨b, mb, rfl⟩ := List.mem_map.mp m
            exact List.mem_map.mpr ⟨b, (mm b).mp mb, rfl⟩
          · intro m
            obtain ⟨b, mb, rfl⟩ := List.mem_map.mp m
            exact List.mem_map.mpr ⟨b, (mm b).mpr mb, rfl⟩) (List.pairwise_map.mpr (pw.imp fun {a b} e => by rw [lt_chain] at e; exact e))
        refine ⟨_, ?_, k + 1, _, ka, fa, fl, fo, _, _, _, rfl, fun b o e => I.sx _ _ (ne_of_none e nD0) (s5 _ _ e), I.tb, I.foA, I.fk, StepsAt.sameX I.sx tb.at_ sdD ⟨ls, kx, qa, bs, hsd, hky, hch, hnl, hmem, hbl⟩, by rw [I.fe]; exact I2, ?_, rfl⟩
        · exact Fc.bfs_less (names := es.map (·.n)) I.tb.nd (fun v hv => by obtain ⟨dd, _, h⟩ := I2.known.mp hv; exact names_in v dd h) hL (by have := congrArg List.length I.fe; simpa using this)
        · have h14 := len14 _ I.tb.nd (fun v hv => by obtain ⟨dd, _, h⟩ := I2.known.mp hv; exact names_in v dd h)
          have e := congrArg List.length I.fe
          rw [List.length_map, List.length_map] at e
          rw [List.length_append] at h14
          omega
end
end Fk
/-! The law's best chain, its given names. -/
namespace Fk
open PySem PySem.Spec PyProof.Rows L2
open Fc (neg Edge Best Reach BestOf IsPath)
section
variable {P : Program} {w : World} {K : PySem.W.Frag} {mg : Str → Option Value} {base : Heap}
/-- a pair of literals at an address -/
abbrev PP := (Lt × Addr) × (Lt × Addr) × Addr
def PpAt (H : Hp) (z : PP) : Prop := H z.2.2 = some (.tup [.ref z.1.2, .ref z.2.1.2]) ∧ H z.1.2 = some (litT z.1.1) ∧ H z.2.1.2 = some (litT z.2.1.1)
theorem PpAt.same {H H' : Hp} {z : PP} (s : Same H H') (h : PpAt H z) : PpAt H' z := ⟨s _ _ h.1, s _ _ h.2.1, s _ _ h.2.2⟩
def PpR (ps : List PP) (s g : Lt) : Prop := ∃ z ∈ ps, s = z.1.1 ∧ g = z.2.1.1
abbrev s_law_best : Stmt := (top 59)
abbrev n_law_best : List Str := ["_law_grammar_here", "_law_pairs", "_law_found", "_law_start", "_law_goal", "_law_chain"]
theorem sc_law_best : FnScope ["_law_grammar_here", "_law_pairs", "_law_found", "_law_start", "_law_goal", "_law_chain"] ["_law_grammar_here", "_law_pairs"] (defScope s_law_best) := ⟨rfl, rfl, rfl, by decide +kernel, rfl, by decide +kernel, by decide +kernel⟩
-- slots: _law_grammar_here 0, _law_pairs 1, _law_found 2, _law_start 3, _law_goal 4, _law_chain 5
def spLBest : Sp := fun vs H Q _ => ∃ (g pa : Addr) (es : List OE) (cs : List CE) (ps : List PP), vs = [.ref g, .ref pa] ∧ GrAt H g es cs ∧ H pa = some (.lst (ps.map fun z => V.ref z.2.2)) ∧ (∀ z ∈ ps, PpAt H z) ∧ (∀ z ∈ ps, z.1.1.1 ∈ es.map (·.n)) ∧ ps.length ≤ 100 ∧ (∃ z ∈ ps, Reach (clsOf cs) z.1.1 z.2.1.1) ∧
  ∀ H' p c, Same H H' → ChAt H' p c → BestOf llt (clsOf cs) (PpR ps) c → Q (.ref p) H'
theorem ok_law_best {f f1 : Addr} {fd fd1 : FuncData} (F : FunM K mg "_law_best" s_law_best f fd) (T : Txt K mg) (D_law_chains : Dn P w K mg base CX0 3 "_law_chains" f1 fd1 ["_law_grammar_here", "_law_start"] (spChains P w)) : Dn P w K mg base CX0 4 "_law_best" f fd ["_law_grammar_here", "_law_pairs"] spLBest := by
  refine ⟨F.fn.ok sc_law_best (fun vs H Q E h => ?_) (fun cdv A outer s H vs Q E hr h => ?_), F.mg, F.fn.kp, (F.fn.binds fun _ _ _ _ _ _ us hl => match us, hl with | [_, _], _ => rfl)⟩
  · obtain ⟨_, _, _, _, _, rfl, _⟩ := h
    rfl
  · obtain ⟨g, pa, es, cs, ps, rfl, G, hpa, hps, psn, l100, hex, q⟩ := h
    have hu := hu_of hr
    have ov : Fc.Over (clsOf cs) (es.map (·.n)) := over_cls fun c m => (G.cw c m).2
    have nok : ∀ n ∈ es.map (·.n), n ∈ okNames := fun n m => by
      obtain ⟨e, me, rfl⟩ := List.mem_map.mp m
      exact (G.os e me).nm
    refine ⟨_, (pss_cons (ps_set (i := 2) sc_law_best.nd rfl (by first | exact Or.inl rfl | exact Or.inr rfl) (pe_lst pa_nil))
      (pss_cons (ps_for PassesOwn.never rfl (pi_list (pv 1)) (pg_tup rfl (pgs_cons (pg_name (i := 3) sc_law_best.nd rfl (by first | exact Or.inl rfl | exact Or.inr rfl)) (pgs_cons (pg_name (i := 4) sc_law_best.nd rfl (by first | exact Or.inl rfl | exact Or.inr rfl)) pgs_nil))) (pss_cons (ps_set (i := 5) sc_law_best.nd rfl (by first | exact Or.inl rfl | exact Or.inr rfl) (pe_lget1 hu (pe_call D_law_chains.ok (hr.mono (by decide)) rfl D_law_chains.mg D_law_chains.kp D_law_chains.bi .nil pass0 (pa_cons (pv 0) (pa_cons (pv 3) pa_nil))) (pv 4) ⟨rfl, rfl, rfl, rfl⟩))
      (pss_one (ps_if (pt_cmp (pc_notN (pv 5)) (by rfl)) (pss_one (ps_expr (pe_bm PySem.F.plainAttrs_list PySem.F.slot_list_append PySem.F.type_list_append mt_append (pv 2) (pa_cons (pe_tup (pa_cons (pe_callB call_len_seq (by rfl) T.b_len (by decide +kernel) (pa_cons (pv 5) pa_nil)) (pa_cons (pv 5) pa_nil))) pa_nil)))) pss_nil))))
      (pss_one (ps_ret (pe_ifExp (pt_cmpR (op_neD hr.units) (pv 2) (pe_lst pa_nil) (nomark _)) (pe_ix ix_tup (pe_ix ix_list (pe_callB (cr_sortB (hu1_of hr)) (by rfl) T.b_sorted (by decide +kernel) (pa_cons (pv 2) pa_nil)) pe_int (fun _ _ => rfl)) pe_int (fun _ _ => rfl)) pe_non))))), ?_⟩
    refine ⟨sz0, fun fo hfo => ?_⟩
    have sf := same_upd (o := .lst []) hfo
    refine ⟨_, rfl, pa, rfl, ⟨_, .of (sf _ _ hpa)⟩, ?_⟩
    refine for_list (K := K) (a := pa) (xs := ps.map fun z => V.ref z.2.2) (fun i σ H' => ∃ (v3 v4 v5 : Option V) (fb : List CB), σ = [some (.ref g), some (.ref pa), some (.ref fo), v3, v4, v5] ∧ Same H H' ∧ H' fo = some (.lst (fb.map fun b => V.ref b.1)) ∧ (∀ b ∈ fb, H' b.1 = some (.tup [.int b.2.2.length, .ref b.2.1]) ∧ ChAt H' b.2.1 b.2.2) ∧
        (∀ b ∈ fb, b.2.1 ≠ fo ∧ ∃ z ∈ ps, Best llt (clsOf cs) z.1.1 z.2.1.1 b.2.2) ∧ (∀ z ∈ ps.take i, Reach (clsOf cs) z.1.1 z.2.1.1 → ∃ b ∈ fb, Best llt (clsOf cs) z.1.1 z.2.1.1 b.2.2) ∧ fb.length ≤ i)
      ⟨_, _, _, [], rfl, sf, upd_same, (fun _ h => nomatch h), (fun _ h => nomatch h), (fun _ h => nomatch h), Nat.le_refl _⟩ (fun i σ H' _ ⟨_, _, _, _, _, s1, _⟩ => .of (s1 _ _ hpa)) ?_ ?_
    · rintro i y σ H' hy ⟨v3, v4, v5, fb, rfl, s1, hf, hb, hbz, hcov, hlen⟩
      obtain ⟨z, hi, rfl⟩ := map_get hy
      have il := lt_of_get hi
      have mz := mem_of_get hi
      obtain ⟨z1, z2, z3⟩ := (hps z mz).same s1
      refine ⟨_, _, rfl, .of z1, rfl, _, _, rfl, _, _, rfl, rfl, ?_⟩
      refine ⟨_, rfl, _, rfl, g, z.1.2, es, cs, z.1.1, rfl, G.same s1, z2, psn z mz, fun H2 D xs s2 hD kD hv => ?_⟩
      refine ⟨D, xs, rfl, ⟨.inl hD, kD⟩, _, rfl, z.2.1.2, z.2.1.1, xs, rfl, ⟨.inl hD, kD⟩, s2 _ _ z3, ?_⟩
      rcases hv z.2.1.1 with ⟨e, nR⟩ | ⟨p, c, e, hC, hB⟩
      · rw [e]
        refine ⟨_, rfl, _, rfl, iteF ?_⟩
        refine ⟨_, _, _, fb, rfl, s1.trans s2, s2 _ _ hf, fun b m => ⟨s2 _ _ (hb b m).1, (hb b m).2.same s2⟩, hbz, fun z' m hR => ?_, by omega⟩
        rw [take_more hi] at m
        rcases List.mem_append.mp m with m | m
        · exact hcov z' m hR
        · rw [List.mem_singleton.mp m] at hR
          exact absurd hR nR
      · rw [e]
        have pfo : p ≠ fo := fun z0 => by
          obtain ⟨cb, hcb, ec⟩ := hC
          have h1 := hcb.at_
          rw [z0, s2 _ _ hf] at h1
          have h1 := HO.lst.inj (Option.some.inj h1)
          cases cb with
          | nil =>
            obtain ⟨r, e2⟩ := hB.1.ne
            rw [← ec] at e2
            cases e2
          | cons b r =>
            cases fb with
            | nil => cases h1
            | cons b' r' =>
              have h2 : V.ref b'.1 = V.ref b.2 := (List.cons.inj h1).1
              have h3 := s2 _ _ (hb b' List.mem_cons_self).1
              rw [V.ref.inj h2, hcb.ky b List.mem_cons_self] at h3
              cases h3
        obtain ⟨cb, hcb, ec⟩ := id hC
        have el : (cb.map fun b => V.ref b.2).length = c.length := by rw [← ec]; simp
        refine ⟨_, rfl, _, rfl, ifT (by simp) ?_⟩
        refine ⟨_, rfl, .inl ⟨rfl, _, .of (s2 _ _ hf)⟩, _, rfl, p, _, rfl, .inl (.of hcb.at_), _, rfl, sz2, fun t ht => ?_⟩
        rw [el]
        have s3 := same_upd (o := .tup [.int c.length, .ref p]) ht
        have hf3 := s3 _ _ (s2 _ _ hf)
        have tk : ∀ b vs, (upd H2 t (.tup [.int c.length, .ref p])) b = some (HO.tup vs) → (upd (upd H2 t (.tup [.int c.length, .ref p])) fo (.lst (fb.map (fun b => V.ref b.1) ++ [.ref t]))) b = some (.tup vs) := fun b vs h => by
          rw [upd_ne (fun z => by rw [z, hf3] at h; cases h)]
          exact h
        refine ⟨fo, _, _, rfl, rfl, hf3, sz _ (by rw [List.length_map]; omega), ?_⟩
        refine ⟨_, _, _, fb ++ [(t, p, c)], rfl, same_put ((s1.trans s2).trans s3) hfo, by rw [upd_same, List.map_append]; rfl, fun b m => ?_, fun b m => ?_, fun z' m hR => ?_, by simp; omega⟩
        · rcases List.mem_append.mp m with y | y
          · exact ⟨tk _ _ (s3 _ _ (s2 _ _ (hb b y).1)), ch_upd hf3 (hbz b y).1 (((hb b y).2.same s2).same s3)⟩
          · have y := List.mem_singleton.mp y
            subst y
            exact ⟨tk _ _ upd_same, ch_upd hf3 pfo (hC.same s3)⟩
        · rcases List.mem_append.mp m with y | y
          · exact hbz b y
          · have y := List.mem_singleton.mp y
            subst y
            exact ⟨pfo, z, mz, hB⟩
        · rw [take_more hi] at m
          rcases List.mem_append.mp m with m | m
          · obtain ⟨b, mb, e⟩ := hcov z' m hR
            exact ⟨b, List.mem_append_left _ mb, e⟩
          · rw [List.mem_singleton.mp m]
            exact ⟨_, List.mem_append_right _ (List.mem_singleton_self _), hB⟩
    · rintro σ H' ⟨v3, v4, v5, fb, rfl, s1, hf, hb, hbz, hcov, hlen⟩
      rw [List.length_map] at hlen
      rw [List.length_map, List.take_length] at hcov
      have hbn : ∀ b ∈ fb, ∀ x ∈ b.2.2, x.1 ∈ okNames := fun b m x hx => by
        obtain ⟨_, z, mz, hB⟩ := hbz b m
        exact nok _ (path_over ov hB.1 (psn z mz) x hx)
      obtain ⟨z0, mz0, hR0⟩ := hex
      obtain ⟨b0, mb0, _⟩ := hcov z0 mz0 hR0
      have fne : fb ≠ [] := fun z => by rw [z] at mb0; cases mb0
      refine ⟨_, rfl, sz0, fun t ht => ?_⟩
      have st := same_upd (o := .lst []) ht
      refine ⟨_, _, .lst (.of (st _ _ hf)) (dp_lcs fun b m => ⟨st _ _ (hb b m).1, (hb b m).2.same st⟩), .lst (.of upd_same) .nil, (Sh.list (n := 3) fun d m => ?_).ok, (Sh.list (n := 0) nil_all).ok, _, rfl, ?_⟩
      · obtain ⟨b, mb, rfl⟩ := List.mem_map.mp m
        exact sh_lc (hbn b mb)
      refine ifT (by cases fb with
        | nil => exact absurd rfl fne
        | cons b r => rfl) ?_
      refine ⟨_, rfl, fo, CB, fb, (fun b => V.ref b.1), (fun b => lcD b.2.2), rfl, .of (st _ _ hf), sortB_of (fun b m => dp_lc (st _ _ (hb b m).1) ((hb b m).2.same st)) (fun a b => alike_lc _ _) (PySem.W.Sortable.tuples fun b => ⟨_, _, rfl⟩) (szl (by omega)) (fun b m => Nat.le_trans (sh_lc (hbn b m)).dep (by decide)), fun p hp => ?_⟩
      have sp := same_upd (o := .lst ((fb.mergeSort (PySem.W.dataLe false fun b : CB => lcD b.2.2)).map fun b => V.ref b.1)) hp
      have pw := sorted_by (enc := fun b : CB => lcD b.2.2) fb
      have mm : ∀ x, x ∈ fb.mergeSort (PySem.W.dataLe false fun b : CB => lcD b.2.2) ↔ x ∈ fb := fun x => mem_sorted
      have hp1 : (upd (upd H' t (.lst [])) p (.lst ((fb.mergeSort (PySem.W.dataLe false fun b : CB => lcD b.2.2)).map fun b => V.ref b.1))) p = some (.lst ((fb.mergeSort (PySem.W.dataLe false fun b : CB => lcD b.2.2)).map fun b => V.ref b.1)) := upd_same
      generalize fb.mergeSort (PySem.W.dataLe false fun b : CB => lcD b.2.2) = sl at sp pw mm hp1 ⊢
      cases sl with
      | nil => exact absurd ((mm b0).mpr mb0) (by simp)
      | cons h r =>
        have mh := (mm h).mp List.mem_cons_self
        have s3 := st.trans sp
        refine ⟨_, _, _, _, rfl, rfl, .of hp1, atI_nat (j := 0) rfl, _, _, _, _, rfl, rfl, .of (s3 _ _ (hb h mh).1), rfl, ?_⟩
        refine q _ h.2.1 h.2.2 (s1.trans s3) ((hb h mh).2.same s3) ?_
        refine BestOf.pick llt_total (cands := fb.map fun b => b.2.2) (fun c m => ?_) (fun s g' c' hR hpth => ?_) (List.mem_map.mpr ⟨h, mh, rfl⟩) fun c m => ?_
        · obtain ⟨b, mb, rfl⟩ := List.mem_map.mp m
          obtain ⟨_, z, mz, hB⟩ := hbz b mb
          exact ⟨_, _, ⟨z, mz, rfl, rfl⟩, hB.1⟩
        · obtain ⟨z, mz, rfl, rfl⟩ := hR
          obtain ⟨b, mb, hB⟩ := hcov z mz hpth.reach
          exact ⟨_, List.mem_map.mpr ⟨b, mb, rfl⟩, hB.2 c' hpth⟩
        · obtain ⟨b, mb, rfl⟩ := List.mem_map.mp m
          rcases List.mem_cons.mp ((mm b).mpr mb) with z | z
          · rw [z]
            exact (Fc.clt_total llt_total).irrefl _
          · have := (List.pairwise_cons.mp pw).1 b z
            rw [lt_lc] at this
            exact this
abbrev s_law_given : Stmt := (top 60)
abbrev n_law_given : List Str := ["_law_d", "_law_grammar_here", "_law_most", "_law_found", "_law_k"]
theorem sc_law_given : FnScope ["_law_d", "_law_grammar_here", "_law_most", "_law_found", "_law_k"] ["_law_d", "_law_grammar_here", "_law_most"] (defScope s_law_given) := ⟨rfl, rfl, rfl, by decide +kernel, rfl, by decide +kernel, by decide +kernel⟩
-- slots: _law_d 0, _law_grammar_here 1, _law_most 2, _law_found 3, _law_k 4
def spLGiven (K : PySem.W.Frag) : Sp := fun vs H Q _ => ∃ (sc : Addr × List Int) (d g : Addr) (es : List OE) (cs : List CE) (most : Int), vs = [.ref d, .ref g, .int most] ∧ DiceAt K sc H d ∧ GrAt H g es cs ∧ 0 ≤ most ∧ most ≤ 9 ∧
  ∀ H' a (ns : List Str), SameX d H H' → DiceAt K sc H' d → SqB K H' a (ns.map V.str) → a ≠ d → (∃ o, H' a = some o) → (∀ n ∈ ns, n ∈ es.map (·.n)) → ns.length ≤ 9 → Q (.ref a) H'
theorem GrAt.keep {H H' : Hp} {g : Addr} {es : List OE} {cs : List CE} (s : ∀ b ys, H b = some (HO.tup ys) → H' b = some (.tup ys)) (G : GrAt H g es cs) : GrAt H' g es cs where
  ex := by
    obtain ⟨o, p, c, lo, hi, a1, a2, a3, a4, a5, a6, a7⟩ := G.ex
    exact ⟨o, p, c, lo, hi, s _ _ a1, s _ _ a2, s _ _ a3, a4, a5, a6, s _ _ a7⟩
  os := fun e m => ⟨s _ _ (G.os e m).at_, (G.os e m).kd.keep s, (G.os e m).nm, (G.os e m).sh⟩
  oo := G.oo
  cl := fun c m => s _ _ (G.cl c m)
  cw := G.cw
  cm := G.cm
theorem ok_law_given {f f1 f2 f3 : Addr} {fd fd1 fd2 fd3 : FuncData} (F : FunM K mg "_law_given" s_law_given f fd) (T : Txt K mg) (D_law_next : Dn P w K mg base CX0 1 "_law_next" f1 fd1 ["_law_dice_here", "_law_many"] (spNext K)) (D_law_pick : Dn P w K mg base CX0 2 "_law_pick" f2 fd2 ["_law_d", "_law_some"] (spPick K))
    (D_law_names : Dn P w K mg base CX0 1 "_law_names" f3 fd3 ["_law_grammar_here"] spNames) : Dn P w K mg base CX0 3 "_law_given" f fd ["_law_d", "_law_grammar_here", "_law_most"] (spLGiven K) := by
  refine ⟨F.fn.ok sc_law_given (fun vs H Q E h => ?_) (fun cdv A outer s H vs Q E hr h => ?_), F.mg, F.fn.kp, (F.fn.binds fun _ _ _ _ _ _ us hl => match us, hl with | [_, _, _], _ => rfl)⟩
  · obtain ⟨_, _, _, _, _, _, rfl, _⟩ := h
    rfl
  · obtain ⟨sc, d, g, es, cs, most, rfl, hd, G, m0, m9, q⟩ := h
    refine ⟨_, (pss_cons (ps_setLc (i := 3) (own := [("_law_k", 4)]) (by rfl) sc_law_given.nd rfl rfl (sw_true rfl rfl rfl (by decide +kernel)) (pi_range1 (by rfl) T.b_range (pa_cons (pe_call D_law_next.ok (hr.mono (by decide)) rfl D_law_next.mg D_law_next.kp D_law_next.bi .nil pass0 (pa_cons (pv 0) (pa_cons (pe_op op_add (pv 2) pe_int) pa_nil))) pa_nil)) (blkOk_by (own := [("_law_k", 4)]) (N := n_law_given) (sc := defScope s_law_given) (by decide +kernel)) (fun _ _ _ _ _ => (pg_name (i := 4) sc_law_given.nd rfl (by first | exact Or.inl rfl | exact Or.inr rfl))) (fun _ _ _ _ _ => pts_nil) (fun _ _ _ _ _ => (pe_call D_law_pick.ok (hr.mono (by decide)) rfl D_law_pick.mg D_law_pick.kp D_law_pick.bi .nil pass0 (pa_cons (pv 0) (pa_cons (pe_call D_law_names.ok (hr.mono (by decide)) rfl D_law_names.mg D_law_names.kp D_law_names.bi .nil pass0 (pa_cons (pv 1) pa_nil)) pa_nil)))))
      (pss_one (ps_ret (pe_ifExp (pt_cmpR op_eq (pe_call D_law_next.ok (hr.mono (by decide)) rfl D_law_next.mg D_law_next.kp D_law_next.bi .nil pass0 (pa_cons (pv 0) (pa_cons pe_int pa_nil))) pe_int (nomark _)) (pv 3) (pe_callTy call_tuple_of (by rfl) T.b_tuple (by decide +kernel) (pa_cons (pv 3) pa_nil)))))), ?_⟩
    refine ⟨_, rfl, _, rfl, _, _, rfl, rfl, sc, d, most + 1, rfl, hd, by omega, by omega, fun H1 n x1 d1 n0 n1 => ⟨n, rfl, by omega, by omega, fun D hD => ?_⟩⟩
    have sD := same_upd (o := .lst []) hD
    obtain ⟨ld1, hld1⟩ := d1.lst
    have Dd : D ≠ d := Ne.symm (ne_of_none hld1 hD)
    have D0 : H D = none := by
      cases e : H D with
      | none => rfl
      | some o => rw [x1 _ _ Dd e] at hD; cases hD
    refine lc_range (lo := 0) (n := n.toNat) (fun i H' => ∃ ns : List Str, SameX d H H' ∧ DiceAt K sc H' d ∧ H' D = some (.lst (ns.map V.str)) ∧ (∀ n ∈ ns, n ∈ es.map (·.n)) ∧ ns.length = i) ⟨[], x1.trans (SameX.of sD), d1.same sD, upd_same, (fun _ h => nomatch h), rfl⟩ ?_ ?_
    · rintro i H' hi ⟨ns, x2, d2, h2, hn, en⟩
      refine ⟨rfl, _, rfl, _, rfl, g, es, cs, rfl, G.keep fun b ys h => hd.tup x2 h, fun H3 nl s3 nn hnl => ?_⟩
      have d3 := d2.same s3
      obtain ⟨ld2, hld2⟩ := d2.lst
      have nld : nl ≠ d := Ne.symm (ne_of_none hld2 nn)
      have pos := G.oo.pos
      have most7 := G.oo.most
      refine ⟨sc, d, nl, _, rfl, d3, hnl, nld, (fun z => by have := congrArg List.length z; simp at this; rw [this] at pos; simp at pos), by simp; omega, fun H4 v x4 d4 mv => ?_⟩
      obtain ⟨n', mn, rfl⟩ := List.mem_map.mp mv
      have h4 := x4 _ _ Dd (s3 _ _ h2)
      refine ⟨_, h4, sz _ (by simp; omega), ns ++ [n'], ?_, ?_, by rw [upd_same, List.map_append]; rfl, fun m mm => ?_, by simp [en]⟩
      · exact fun b o z e => by
          rw [upd_ne (ne_of_none e D0)]
          exact x4 _ _ z (s3 _ _ (x2 _ _ z e))
      · exact hd.re d4 (fun b o z e => by
          rw [upd_ne (ne_of_none e D0)]
          exact x4 _ _ z (s3 _ _ (x2 _ _ z e))) (upd_ne Dd.symm)
      · rcases List.mem_append.mp mm with z | z
        · exact hn m z
        · rw [List.mem_singleton.mp z]
          exact mn
    · rintro H2 ⟨ns, x2, d2, h2, hn, en⟩
      refine ⟨_, rfl, sc, d, 2, rfl, d2, by decide, by decide, fun H3 r x3 d3 r0 r1 => ?_⟩
      have h3 := x3 _ _ Dd h2
      refine ⟨rfl, _, rfl, ifB (fun e => ?_) (fun e => ?_)⟩
      · exact ⟨_, rfl, q H3 D ns (x2.trans x3) d3 (.inl (.of h3)) Dd ⟨_, h3⟩ hn (by omega)⟩
      · refine ⟨_, rfl, D, _, rfl, .inl ⟨.of h3, fun t ht => ?_⟩⟩
        have s4 := same_upd (o := .tup (ns.map V.str)) ht
        obtain ⟨ld3, hld3⟩ := d3.lst
        exact q _ t ns ((x2.trans x3).trans (SameX.of s4)) (d3.same s4) (.inr (.of upd_same)) (Ne.symm (ne_of_none hld3 ht)) ⟨_, upd_same⟩ hn (by omega)
end
end Fk
/-! What the law expects: conflicts. -/
namespace Fk
open PySem PySem.Spec PyProof.Rows L2
open Fc (neg Edge Best Reach BestOf IsPath)
section
variable {P : Program} {w : World} {K : PySem.W.Frag} {mg : Str → Option Value} {base : Heap}
/-- [one for one in sets if [name for name in given if name not in one] == []] -/
def tSel (K : PySem.W.Frag) (g a b c : Nat) : TE :=
  tLc (iList K (tCall (spSets K) [] E0 (tCons (tVar g) tNil))) (gName b) (tTest (tOp (rEqD K) (tLc (iSeq K (tVar a)) (gName c) (tTest (tOp (rIn K true) (tVar c) (tVar b))) (tVar c) [c]) (tLst tNil))) (tVar b) [b]
theorem if_op {r : R2} {ta tb : TE} {t u v : TS} {D : Ends} {σ : L2.St} {H : Hp} (h : ta σ H fun x H1 => tb σ H1 fun y H2 => r x y H2 fun z H3 => ∃ k, z = .bl k ∧ (if k = true then t { D with nx := v D } σ H3 else u { D with nx := v D } σ H3)) : tSeq (tIfS (tTest (tOp r ta tb)) t u) v D σ H := h
def selB (ns : List Str) (r : SE) : Bool := ns.all fun n => decide (n ∈ r.1)
theorem eqv_nilS {l : List Str} : PyData.eqv (.list (l.map PyData.str)) (.list []) = decide (l = []) := by
  cases l with
  | nil => rfl
  | cons b r =>
    rw [decide_eq_false (by simp)]
    rfl
theorem filter_nil_iff {ns S : List Str} : (ns.filter fun n => !decide (n ∈ S)) = [] ↔ (ns.all fun n => decide (n ∈ S)) = true := by
  rw [List.filter_eq_nil_iff, List.all_eq_true]
  simp
theorem sel_ok {g a b c : Nat} {σ : L2.St} {H : Hp} {Q : VK} {ga gg : Addr} {es : List OE} {cs : List CE} {ns : List Str} (hg : σ[g]? = some (some (.ref gg))) (ha : σ[a]? = some (some (.ref ga))) (hb : b < σ.length) (hc : c < σ.length) (hab : b ≠ a) (hac : c ≠ a) (hbc : c ≠ b)
    (G : GrAt H gg es cs) (hq : SqB K H ga (ns.map V.str)) (nok : ∀ n ∈ ns, n ∈ okNames) (n9 : ns.length ≤ 100)
    (q : ∀ H' D (rs : List SE), Same H H' → H' D = some (.lst ((rs.filter (selB ns)).map fun r => V.ref r.2)) → LsAt H' rs → SetsOf (es.map (·.n)) cs (rs.map Prod.fst) → rs.length ≤ 128 → Q (.ref D) H') : tSel K g a b c σ H Q := by
  refine ⟨_, hg, gg, es, cs, rfl, G, fun H1 p rs s1 hp hls SO l128 => ⟨p, rfl, ⟨_, .of hp⟩, fun D hD => ?_⟩⟩
  refine lc_list (K := K) (a := p) (xs := rs.map fun r => V.ref r.2) (fun i H' => Same H1 H' ∧ H' D = some (.lst (((rs.take i).filter (selB ns)).map fun r => V.ref r.2))) ⟨same_upd hD, upd_same⟩ (fun i H' _ ⟨s2, _⟩ => .of (s2 _ _ hp)) ?_ ?_
  · rintro i y H' hy ⟨s2, h2⟩
    obtain ⟨r, hi, rfl⟩ := map_get hy
    have il := lt_of_get hi
    have hr := s2 _ _ (hls r (mem_of_get hi))
    have wb : wipe σ [b] = σ.set b none := rfl
    have hb1 : b < (wipe σ [b]).length := by rw [wipe_length]; exact hb
    have g1 : ((wipe σ [b]).set b (some (V.ref r.2)))[b]? = some (some (.ref r.2)) := get_set hb1
    refine ⟨by simp [wipe, List.set_set], ?_⟩
    have ha1 : ((wipe σ [b]).set b (some (V.ref r.2)))[a]? = some (some (.ref ga)) := by
      rw [List.getElem?_set_ne hab, wb, List.getElem?_set_ne hab, ha]
    refine ⟨_, ha1, ga, rfl, ?_⟩
    have hq2 := (hq.same s1).same s2
    refine lc_seq hq2 (fun D' j H'' => Same H' H'' ∧ H'' D' = some (.lst (((ns.take j).filter fun n => !decide (n ∈ r.1)).map V.str))) (fun D' hD' => ⟨same_upd hD', upd_same⟩) (fun D' j H'' _ _ ⟨s3, _⟩ => KeepB.of s3) ?_ ?_
    · rintro D' j y H3 hD' hy ⟨s3, h3⟩
      obtain ⟨n, hj, rfl⟩ := map_get hy
      have jl := lt_of_get hj
      have lc : c < (wipe ((wipe σ [b]).set b (some (V.ref r.2))) [c]).length := by rw [wipe_length, List.length_set, wipe_length]; exact hc
      have gc : ((wipe ((wipe σ [b]).set b (some (V.ref r.2))) [c]).set c (some (V.str n)))[c]? = some (some (.str n)) := get_set lc
      have gb : ((wipe ((wipe σ [b]).set b (some (V.ref r.2))) [c]).set c (some (V.str n)))[b]? = some (some (.ref r.2)) := by
        rw [List.getElem?_set_ne hbc]
        show (((wipe σ [b]).set b (some (V.ref r.2))).set c none)[b]? = _
        rw [List.getElem?_set_ne hbc, g1]
      refine ⟨by simp [wipe, List.set_set], _, gc, _, gb, r.2, _, rfl, .inl (.of (s3 _ _ hr)), rfl, flat_strs _, _, rfl, ?_⟩
      show if (!inV (V.str n) (r.1.map V.str)) = true then _ else _
      rw [inV_str]
      refine ifB (fun e => ?_) (fun e => ?_)
      · refine ⟨_, gc, _, h3, sz _ ?_, same_put s3 hD', ?_⟩
        · rw [List.length_map]
          have := List.length_filter_le (fun n => !decide (n ∈ r.1)) (ns.take j)
          rw [List.length_take] at this
          omega
        · rw [upd_same, take_more hj, List.filter_append]
          have : [n].filter (fun n => !decide (n ∈ r.1)) = [n] := by
            simp only [List.filter_cons, List.filter_nil]
            rw [if_pos e]
          rw [this, List.map_append]
          rfl
      · refine ⟨s3, ?_⟩
        rw [h3, take_more hj, List.filter_append]
        have : [n].filter (fun n => !decide (n ∈ r.1)) = [] := by
          simp only [List.filter_cons, List.filter_nil]
          rw [if_neg (by rw [e]; exact Bool.false_ne_true)]
        rw [this, List.append_nil]
    · rintro D' H3 hD' ⟨s3, h3⟩
      rw [List.length_map, List.take_length] at h3
      refine ⟨sz0, fun t ht => ?_⟩
      have st := same_upd (o := .lst []) ht
      refine ⟨_, _, .lst (.of (st _ _ h3)) (dp_texts _), .lst (.of upd_same) .nil, (Sh.list (n := 0) fun d m => ?_).ok, (Sh.list (n := 0) nil_all).ok, _, rfl, ?_⟩
      · obtain ⟨z, mz, rfl⟩ := List.mem_map.mp m
        exact Sh.str (names_lay _ (nok z (List.mem_filter.mp mz).1))
      rw [eqv_nilS]
      have s4 := s3.trans st
      have h2' := s4 _ _ h2
      refine ifB (fun e => ?_) (fun e => ?_)
      · have e' := filter_nil_iff.mp (of_decide_eq_true e)
        refine ⟨_, g1, _, h2', sz _ ?_, same_put (s2.trans s4) hD, ?_⟩
        · rw [List.length_map]
          have := List.length_filter_le (selB ns) (rs.take i)
          rw [List.length_take] at this
          omega
        · rw [upd_same, take_more hi, List.filter_append]
          have : [r].filter (selB ns) = [r] := by
            simp only [List.filter_cons, List.filter_nil]
            rw [if_pos (show selB ns r = true from e')]
          rw [this, List.map_append]
          rfl
      · have e' : selB ns r = false := by
          cases hh : selB ns r with
          | false => rfl
          | true => exact absurd (filter_nil_iff.mpr hh) (of_decide_eq_false e)
        refine ⟨s2.trans s4, ?_⟩
        rw [h2', take_more hi, List.filter_append]
        have : [r].filter (selB ns) = [] := by
          simp only [List.filter_cons, List.filter_nil]
          rw [if_neg (by rw [e']; exact Bool.false_ne_true)]
        rw [this, List.append_nil]
  · rintro H' ⟨s2, h2⟩
    rw [List.length_map, List.take_length] at h2
    exact q H' D rs (s1.trans s2) h2 (hls.same s2) SO l128
theorem dp_sets {H : Hp} : ∀ {L : List SE}, LsAt H L → DpAll K H (L.map fun b => V.ref b.2) (L.map fun b => .list (b.1.map PyData.str))
  | [], _ => .nil
  | b :: r, h => .cons (.lst (.of (h b List.mem_cons_self)) (dp_texts _)) (dp_sets fun c m => h c (List.mem_cons_of_mem _ m))
theorem eqv_nilE {L : List SE} : PyData.eqv (.list (L.map fun b => .list (b.1.map PyData.str))) (.list []) = decide (L = []) := by
  cases L with
  | nil => rfl
  | cons b r =>
    rw [decide_eq_false (by simp)]
    rfl
theorem sh_sets {L : List SE} (h : ∀ b ∈ L, ∀ n ∈ b.1, n ∈ okNames) : Sh 2 (.list (L.map fun b => .list (b.1.map PyData.str))) := Sh.list fun d m => by
  obtain ⟨b, mb, rfl⟩ := List.mem_map.mp m
  exact Sh.list fun d m => by
    obtain ⟨z, mz, rfl⟩ := List.mem_map.mp m
    exact Sh.str (names_lay _ (h b mb z mz))
/-- the sets and the mathematics -/
theorem sets_free {es : List OE} {cs : List CE} {rs : List SE} (hw : ∀ c ∈ cs, c.w ∈ clWords) (ho : ∀ c ∈ cs, c.a ∈ es.map (·.n) ∧ c.b ∈ es.map (·.n)) (SO : SetsOf (es.map (·.n)) cs (rs.map Prod.fst)) : rs ≠ [] ↔ Fc.Free (clsOf cs) (es.map (·.n)) := by
  rw [← Fc.sat_iff (over_cls ho)]
  constructor
  · intro h
    cases rs with
    | nil => exact absurd rfl h
    | cons r t => exact ⟨_, (fits_iff hw).mp (SO.ok r.1 List.mem_cons_self)⟩
  · rintro ⟨f, hf⟩ z
    obtain ⟨S, m, _⟩ := SO.cov f hf
    rw [z] at m
    cases m
theorem sel_conf {es : List OE} {cs : List CE} {rs : List SE} {ns : List Str} (hw : ∀ c ∈ cs, c.w ∈ clWords) (ho : ∀ c ∈ cs, c.a ∈ es.map (·.n) ∧ c.b ∈ es.map (·.n)) (SO : SetsOf (es.map (·.n)) cs (rs.map Prod.fst)) (hF : Fc.Free (clsOf cs) (es.map (·.n))) (hn : ∀ n ∈ ns, n ∈ es.map (·.n)) :
    rs.filter (selB ns) ≠ [] ↔ noConf (clsOf cs) ns := by
  have key := Fc.given_iff (over_cls ho) hF ns
  have e : noConf (clsOf cs) ns ↔ ¬ ∃ a ∈ ns, ∃ b ∈ ns, Reach (clsOf cs) (a, true) (b, false) := by
    unfold noConf
    constructor
    · rintro h ⟨a, ma, b, mb, r⟩
      exact h a ma b mb r
    · exact fun h a ma b mb r => h ⟨a, ma, b, mb, r⟩
  rw [e, ← key]
  constructor
  · intro h
    cases hh : rs.filter (selB ns) with
    | nil => exact absurd hh h
    | cons r t =>
      have m : r ∈ rs.filter (selB ns) := by rw [hh]; exact List.mem_cons_self
      obtain ⟨m1, m2⟩ := List.mem_filter.mp m
      exact ⟨_, (fits_iff hw).mp (SO.ok r.1 (List.mem_map.mpr ⟨r, m1, rfl⟩)), fun a ma => List.all_eq_true.mp m2 a ma⟩
  · rintro ⟨f, hf, ha⟩ z
    obtain ⟨S, m, hc⟩ := SO.cov f hf
    obtain ⟨r, mr, rfl⟩ := List.mem_map.mp m
    have : r ∈ rs.filter (selB ns) := List.mem_filter.mpr ⟨mr, List.all_eq_true.mpr fun n mn => decide_eq_true ((hc n (hn n mn)).mpr (ha n mn))⟩
    rw [z] at this
    cases this
abbrev s_law_conflict : Stmt := (top 61)
abbrev n_law_conflict : List Str := ["_law_grammar_here", "_law_given_here", "_law_one", "_law_name", "_law_pairs", "_law_other"]
theorem sc_law_conflict : FnScope ["_law_grammar_here", "_law_given_here", "_law_one", "_law_name", "_law_pairs", "_law_other"] ["_law_grammar_here", "_law_given_here"] (defScope s_law_conflict) := ⟨rfl, rfl, rfl, by decide +kernel, rfl, by decide +kernel, by decide +kernel⟩
-- slots: _law_grammar_here 0, _law_given_here 1, _law_one 2, _law_name 3, _law_pairs 4, _law_other 5
def spConflict (K : PySem.W.Frag) : Sp := fun vs H Q _ => ∃ (g a : Addr) (es : List OE) (cs : List CE) (ns : List Str), vs = [.ref g, .ref a] ∧ GrAt H g es cs ∧ SqB K H a (ns.map V.str) ∧ (∀ n ∈ ns, n ∈ es.map (·.n)) ∧ ns.length ≤ 9 ∧
  (∀ H' t, Same H H' → ¬ Fc.Free (clsOf cs) (es.map (·.n)) → H' t = some (.tup [.str "error", .str "Unsatisfiable"]) → Q (.ref t) H') ∧
  (∀ H', Same H H' → Fc.Free (clsOf cs) (es.map (·.n)) → noConf (clsOf cs) ns → Q .non H') ∧
  ∀ (H' : Hp) (t t2 : Addr) (bs : List (Lt × Addr)), Same H H' → Fc.Free (clsOf cs) (es.map (·.n)) → ¬ noConf (clsOf cs) ns → H' t = some (.tup [.str "error", .str "Conflict", .ref t2]) → H' t2 = some (.tup (bs.map fun b : Lt × Addr => V.ref b.2)) → (∀ b ∈ bs, H' b.2 = some (litT b.1)) → BestOf llt (clsOf cs) (Cpair ns) (bs.map Prod.fst) → Q (.ref t) H'
theorem ok_law_conflict {f f1 f2 : Addr} {fd fd1 fd2 : FuncData} (F : FunM K mg "_law_conflict" s_law_conflict f fd) (T : Txt K mg) (D_law_sets : Dn P w K mg base CX0 2 "_law_sets" f1 fd1 ["_law_grammar_here"] (spSets K)) (D_law_best : Dn P w K mg base CX0 4 "_law_best" f2 fd2 ["_law_grammar_here", "_law_pairs"] spLBest) :
    Dn P w K mg base CX0 5 "_law_conflict" f fd ["_law_grammar_here", "_law_given_here"] (spConflict K) := by
  refine ⟨F.fn.ok sc_law_conflict (fun vs H Q E h => ?_) (fun cdv A outer s H vs Q E hr h => ?_), F.mg, F.fn.kp, (F.fn.binds fun _ _ _ _ _ _ us hl => match us, hl with | [_, _], _ => rfl)⟩
  · obtain ⟨_, _, _, _, _, rfl, _⟩ := h
    rfl
  · obtain ⟨g, a, es, cs, ns, rfl, G, hq, hn, n9, q1, q2, q3⟩ := h
    have hw : ∀ c ∈ cs, c.w ∈ clWords := fun c m => (G.cw c m).1
    have ho : ∀ c ∈ cs, c.a ∈ es.map (·.n) ∧ c.b ∈ es.map (·.n) := fun c m => (G.cw c m).2
    have nok : ∀ n ∈ es.map (·.n), n ∈ okNames := fun n m => by
      obtain ⟨e, me, rfl⟩ := List.mem_map.mp m
      exact (G.os e me).nm
    refine ⟨_, (pss_cons (ps_if (pt_cmpR (op_eqD hr.units) (pe_call D_law_sets.ok (hr.mono (by decide)) rfl D_law_sets.mg D_law_sets.kp D_law_sets.bi .nil pass0 (pa_cons (pv 0) pa_nil)) (pe_lst pa_nil) (nomark _)) (pss_one (ps_ret (pe_tup (pa_cons pe_str (pa_cons pe_str pa_nil))))) pss_nil)
      (pss_cons (ps_if (pt_cmpR (op_neD hr.units) (pe_lc (own := [("_law_one", 2)]) (by rfl) sc_law_conflict.nd (pi_list (pe_call D_law_sets.ok (hr.mono (by decide)) rfl D_law_sets.mg D_law_sets.kp D_law_sets.bi .nil pass0 (pa_cons (pv 0) pa_nil))) (blkOk_by (own := [("_law_one", 2)]) (N := n_law_conflict) (sc := defScope s_law_conflict) (by decide +kernel)) (fun _ _ _ _ _ => (pg_name (i := 2) sc_law_conflict.nd rfl (by first | exact Or.inl rfl | exact Or.inr rfl))) (fun _ _ _ _ _ => pts_one (pt_cmpR (show OpR _ (compareOp .Eq) (rEqD K) from (op_eqD hr.units)) (pe_lc (own := [("_law_name", 3)]) (by rfl) sc_law_conflict.nd (show PI _ _ _ (iSeq K _) from pi_seq (pv 1)) (by exact blkOk_by (own := [("_law_name", 3)]) (N := n_law_conflict) (sc := { kind := ScopeKind.function, names := [(Str.ofString ".0", NameKind.local), (Str.ofString "_law_one", NameKind.cell), (Str.ofString "_law_given_here", NameKind.cell)], isGenerator := false, isCoroutine := false }) (by decide +kernel)) (fun _ _ _ _ _ => (pg_name (i := 3) sc_law_conflict.nd rfl (by first | exact Or.inl rfl | exact Or.inr rfl))) (fun _ _ _ _ _ => pts_one (pt_cmpR (show OpR _ (compareOp .NotIn) (rIn K true) from op_notIn_seq) (pv 3) (pv 2) (by rfl))) (fun _ _ _ _ _ => (pv 3))) (pe_lst pa_nil) (nomark _))) (fun _ _ _ _ _ => (pv 2))) (pe_lst pa_nil) (nomark _)) (pss_one (ps_ret pe_non)) pss_nil)
      (pss_cons (ps_set (i := 4) sc_law_conflict.nd rfl (by first | exact Or.inl rfl | exact Or.inr rfl) (pe_lst pa_nil))
      (pss_cons (ps_for PassesOwn.never rfl (show PI _ _ _ (iSeq K _) from pi_seq (pv 1)) (pg_name (i := 2) sc_law_conflict.nd rfl (by first | exact Or.inl rfl | exact Or.inr rfl)) (pss_one (ps_set (i := 4) sc_law_conflict.nd rfl (by first | exact Or.inl rfl | exact Or.inr rfl) (pe_op op_cat (pv 4) (pe_lc (own := [("_law_other", 5)]) (by rfl) sc_law_conflict.nd (show PI _ _ _ (iSeq K _) from pi_seq (pv 1)) (blkOk_by (own := [("_law_other", 5)]) (N := n_law_conflict) (sc := defScope s_law_conflict) (by decide +kernel)) (fun _ _ _ _ _ => (pg_name (i := 5) sc_law_conflict.nd rfl (by first | exact Or.inl rfl | exact Or.inr rfl))) (fun _ _ _ _ _ => pts_nil) (fun _ _ _ _ _ => (pe_tup (pa_cons (pe_tup (pa_cons (pv 2) (pa_cons pe_bl pa_nil))) (pa_cons (pe_tup (pa_cons (pv 5) (pa_cons pe_bl pa_nil))) pa_nil)))))))))
      (pss_one (ps_ret (pe_tup (pa_cons pe_str (pa_cons pe_str (pa_cons (pe_callTy call_tuple_of (by rfl) T.b_tuple (by decide +kernel) (pa_cons (pe_call D_law_best.ok (hr.mono (by decide)) rfl D_law_best.mg D_law_best.kp D_law_best.bi .nil pass0 (pa_cons (pv 0) (pa_cons (pv 4) pa_nil))) pa_nil)) pa_nil)))))))))), ?_⟩
    refine ⟨_, rfl, g, es, cs, rfl, G, fun H1 p rs s1 hp hls SO l128 => ⟨sz0, fun t ht => ?_⟩⟩
    have s2 := same_upd (o := .lst []) ht
    refine ⟨_, _, .lst (.of (s2 _ _ hp)) (dp_sets (hls.same s2)), .lst (.of upd_same) .nil, (sh_sets fun b m n mn => nok n (SO.sub b.1 (List.mem_map.mpr ⟨b, m, rfl⟩) n mn)).ok, (Sh.list (n := 0) nil_all).ok, _, rfl, ?_⟩
    rw [eqv_nilE]
    have s12 := s1.trans s2
    by_cases hF : Fc.Free (clsOf cs) (es.map (·.n))
    · refine ifF (decide_eq_false ((sets_free hw ho SO).mpr hF)) ?_
      refine next_of ?_
      dsimp only
      refine if_op ?_
      refine sel_ok (g := 0) (a := 1) (b := 2) (c := 3) (σ := [some (.ref g), some (.ref a), none, none, none, none]) (ga := a) (gg := g) (es := es) (cs := cs) (ns := ns) rfl rfl (by show 2 < 6; decide) (by show 3 < 6; decide) (by decide) (by decide) (by decide) (G.same s12) (hq.same s12) (fun n m => nok n (hn n m)) (by omega) fun H3 D rs s3 hD hrs SO2 l2 => ?_
      refine ⟨sz0, fun t3 ht3 => ?_⟩
      have s4 := same_upd (o := .lst []) ht3
      refine ⟨_, _, .lst (.of (s4 _ _ hD)) (dp_sets ((fun r m => s4 _ _ (hrs r (List.mem_filter.mp m).1)))), .lst (.of upd_same) .nil, (sh_sets fun b m n mn => nok n (SO2.sub b.1 (List.mem_map.mpr ⟨b, (List.mem_filter.mp m).1, rfl⟩) n mn)).ok, (Sh.list (n := 0) nil_all).ok, _, rfl, ?_⟩
      rw [eqv_nilE]
      have s14 := (s12.trans s3).trans s4
      by_cases hc : noConf (clsOf cs) ns
      · refine ifT (by rw [decide_eq_false ((sel_conf hw ho SO2 hF hn).mpr hc)]; rfl) ?_
        exact q2 _ s14 hF hc
      · refine ifF (by rw [decide_eq_true (Classical.byContradiction fun z => hc ((sel_conf hw ho SO2 hF hn).mp z))]; rfl) ?_
        refine ⟨sz0, fun pl hpl => ?_⟩
        have s5 := s14.trans (same_upd (o := .lst []) hpl)
        refine ⟨_, rfl, a, rfl, ?_⟩
        refine for_seq (xs := ns.map V.str) (hq.same s5) (fun i σ H' => ∃ (v2 : Option V) (pa : Addr) (ps : List PP), σ = [some (.ref g), some (.ref a), v2, none, some (.ref pa), none] ∧ Same (upd (upd H3 t3 (.lst [])) pl (.lst [])) H' ∧ H' pa = some (.lst (ps.map fun z => V.ref z.2.2)) ∧ (∀ z ∈ ps, PpAt H' z) ∧
            (∀ z ∈ ps, ∃ x ∈ ns, ∃ y ∈ ns, z.1.1 = (x, true) ∧ z.2.1.1 = (y, false)) ∧ (∀ x ∈ ns.take i, ∀ y ∈ ns, ∃ z ∈ ps, z.1.1 = (x, true) ∧ z.2.1.1 = (y, false)) ∧ ps.length = i * ns.length)
          ⟨_, pl, [], rfl, Same.refl _, upd_same, (fun _ h => nomatch h), (fun _ h => nomatch h), (fun _ h => nomatch h), by simp⟩ (fun i σ H' _ ⟨_, _, _, _, s6, _⟩ => KeepB.of s6) ?_ ?_
        · rintro i y σ H' hy ⟨v2, pa, ps, rfl, s6, hpa, hps, hin, hcov, hlen⟩
          obtain ⟨n, hi, rfl⟩ := map_get hy
          have il := lt_of_get hi
          have mn := mem_of_get hi
          have hi9 : i * ns.length ≤ 9 * 9 := Nat.mul_le_mul (by omega) n9
          refine ⟨_, rfl, _, rfl, a, rfl, ?_⟩
          refine lc_seq ((hq.same s5).same s6) (fun D j H2 => ∃ ts : List PP, Same H' H2 ∧ H2 D = some (.lst (ts.map fun z => V.ref z.2.2)) ∧ (∀ z ∈ ts, PpAt H2 z) ∧ (∀ z ∈ ts, z.1.1 = (n, true) ∧ ∃ y ∈ ns, z.2.1.1 = (y, false)) ∧ (∀ y ∈ ns.take j, ∃ z ∈ ts, z.2.1.1 = (y, false)) ∧ ts.length = j)
            (fun D hD => ⟨[], same_upd hD, upd_same, (fun _ h => nomatch h), (fun _ h => nomatch h), (fun _ h => nomatch h), rfl⟩) (fun D j H2 _ _ ⟨_, s7, _⟩ => KeepB.of s7) ?_ ?_
          · rintro D j y H2 hD hy ⟨ts, s7, hD2, hts, htin, htcov, htl⟩
            obtain ⟨m, hj, rfl⟩ := map_get hy
            have jl := lt_of_get hj
            refine ⟨rfl, _, rfl, sz2, fun t1 ht1 => ⟨_, rfl, sz2, fun t2 ht2 => ⟨sz2, fun t3 ht3 => ?_⟩⟩⟩
            have r1 := same_upd (o := litT (n, true)) ht1
            have r2 := same_upd (o := litT (m, false)) ht2
            have r3 := same_upd (o := .tup [.ref t1, .ref t2]) ht3
            have rr := (r1.trans r2).trans r3
            have hl1 : (upd H2 t1 (litT (n, true))) t1 = some (litT (n, true)) := upd_same
            have hl2 : (upd (upd H2 t1 (litT (n, true))) t2 (litT (m, false))) t2 = some (litT (m, false)) := upd_same
            have hD5 := rr _ _ hD2
            have tk : ∀ b vs, (upd (upd (upd H2 t1 (litT (n, true))) t2 (litT (m, false))) t3 (.tup [.ref t1, .ref t2])) b = some (HO.tup vs) → (upd (upd (upd (upd H2 t1 (litT (n, true))) t2 (litT (m, false))) t3 (.tup [.ref t1, .ref t2])) D (.lst ((ts.map fun z => V.ref z.2.2) ++ [.ref t3]))) b = some (.tup vs) := fun b vs h => by
              rw [upd_ne (fun z => by
                have h5 := hD5
                rw [← z] at h5
                exact absurd (h.symm.trans h5) (by intro q; cases q))]
              exact h
            refine ⟨_, hD5, sz _ (by simp; omega), ts ++ [(((n, true), t1), ((m, false), t2), t3)], same_put (s7.trans rr) hD, by rw [upd_same, List.map_append]; rfl, fun z mz => ?_, fun z mz => ?_, fun y my => ?_, by simp [htl]⟩
            · rcases List.mem_append.mp mz with y | y
              · obtain ⟨y1, y2, y3⟩ := hts z y
                exact ⟨tk _ _ (rr _ _ y1), tk _ _ (rr _ _ y2), tk _ _ (rr _ _ y3)⟩
              · rw [List.mem_singleton.mp y]
                exact ⟨tk _ _ upd_same, tk _ _ (r3 _ _ (r2 _ _ hl1)), tk _ _ (r3 _ _ hl2)⟩
            · rcases List.mem_append.mp mz with y | y
              · exact htin z y
              · rw [List.mem_singleton.mp y]
                exact ⟨rfl, m, mem_of_get hj, rfl⟩
            · rw [take_more hj] at my
              rcases List.mem_append.mp my with y' | y'
              · obtain ⟨z, mz, e⟩ := htcov y y'
                exact ⟨z, List.mem_append_left _ mz, e⟩
              · rw [List.mem_singleton.mp y']
                exact ⟨_, List.mem_append_right _ (List.mem_singleton_self _), rfl⟩
          · rintro D H2 hD ⟨ts, s7, hD2, hts, htin, htcov, htl⟩
            rw [List.length_map] at htl
            rw [List.length_map, List.take_length] at htcov
            refine ⟨pa, D, _, _, rfl, rfl, s7 _ _ hpa, hD2, szl (by simp; omega), fun p3 hp3 => ?_⟩
            have r4 := same_upd (o := .lst ((ps.map fun z => V.ref z.2.2) ++ ts.map fun z => V.ref z.2.2)) hp3
            refine ⟨_, p3, ps ++ ts, rfl, (s6.trans s7).trans r4, by rw [upd_same, List.map_append], fun z mz => ?_, fun z mz => ?_, fun x mx y my => ?_, by rw [List.length_append, hlen, htl, Nat.succ_mul]⟩
            · rcases List.mem_append.mp mz with y | y
              · exact ((hps z y).same s7).same r4
              · exact (hts z y).same r4
            · rcases List.mem_append.mp mz with y | y
              · exact hin z y
              · obtain ⟨e1, y', my, e2⟩ := htin z y
                exact ⟨n, mn, y', my, e1, e2⟩
            · rw [take_more hi] at mx
              rcases List.mem_append.mp mx with x' | x'
              · obtain ⟨z, mz, e⟩ := hcov x x' y my
                exact ⟨z, List.mem_append_left _ mz, e⟩
              · rw [List.mem_singleton.mp x']
                obtain ⟨z, mz, e⟩ := htcov y my
                exact ⟨z, List.mem_append_right _ mz, (htin z mz).1, e⟩
        · rintro σ H' ⟨v2, pa, ps, rfl, s6, hpa, hps, hin, hcov, hlen⟩
          rw [List.length_map] at hlen
          rw [List.length_map, List.take_length] at hcov
          have l81 : ns.length * ns.length ≤ 9 * 9 := Nat.mul_le_mul n9 n9
          have s7 := s5.trans s6
          have eR : PpR ps = Cpair ns := by
            funext s g
            refine propext ⟨?_, ?_⟩
            · rintro ⟨z, mz, rfl, rfl⟩
              obtain ⟨x, mx, y, my, e1, e2⟩ := hin z mz
              exact ⟨x, mx, y, my, e1, e2⟩
            · rintro ⟨x, mx, y, my, rfl, rfl⟩
              obtain ⟨z, mz, e1, e2⟩ := hcov x mx y my
              exact ⟨z, mz, e1.symm, e2.symm⟩
          have hex : ∃ z ∈ ps, Reach (clsOf cs) z.1.1 z.2.1.1 := Classical.byContradiction fun no => hc fun x mx y my r => by
            obtain ⟨z, mz, e1, e2⟩ := hcov x mx y my
            exact no ⟨z, mz, by rw [e1, e2]; exact r⟩
          refine ⟨_, rfl, _, rfl, g, pa, es, cs, ps, rfl, G.same s7, hpa, hps, fun z mz => ?_, by omega, hex, fun H6 p c s8 hch hB => ?_⟩
          · obtain ⟨x, mx, y, my, e1, e2⟩ := hin z mz
            rw [e1]
            exact hn x mx
          · obtain ⟨bs, hb, rfl⟩ := hch
            rw [eR] at hB
            refine ⟨p, _, rfl, .inl ⟨.of hb.at_, fun tt htt => ⟨sz3, fun t ht => ?_⟩⟩⟩
            have r5 := same_upd (o := .tup (bs.map fun b => V.ref b.2)) htt
            have r6 := same_upd (o := .tup [.str "error", .str "Conflict", .ref tt]) ht
            exact q3 _ t tt bs ((s7.trans s8).trans (r5.trans r6)) hF hc upd_same (r6 _ _ upd_same) (fun b m => r6 _ _ (r5 _ _ (hb.ky b m))) hB
    · refine ifT (decide_eq_true (Classical.byContradiction fun z => hF ((sets_free hw ho SO).mp z))) ?_
      refine ⟨sz2, fun t2 ht2 => ?_⟩
      exact q1 _ t2 (s12.trans (same_upd ht2)) hF upd_same
end
end Fk
/-! list.count of flat things; isinstance of the suite's error. -/
namespace Fk
open PySem PySem.Spec PyProof.Rows L2
section
variable {X : Cx}
def rCntF (K : PySem.W.Frag) : V → List V → Hp → VK → Prop := fun x xs H Q => ∃ (p : Addr) (ys : List V) (y : V), x = .ref p ∧ xs = [y] ∧ SqL K H p ys ∧ flatV y = true ∧ ys.all flatV = true ∧ Q (.int (ys.countP fun z => eqV z y : Nat)) H
theorem count_rel {y : V} : ∀ {ys : List V} {us : List Value}, Vals ys us → ys.all flatV = true → us.countP (eqU y) = ys.countP fun z => eqV z y
  | [], [], _, _ => rfl
  | z :: ys, u :: us, r, f => by
    cases r with
    | cons r1 r2 =>
      rw [List.all_cons, Bool.and_eq_true] at f
      rw [List.countP_cons, List.countP_cons, count_rel r2 f.2, eqU_of r1 f.1]
theorem mt_countF : MtR X "list.count" (rCntF X.K) := by
  intro pins s σ H x xs v us Q I rx rxs h
  obtain ⟨p, ys, y, rfl, rfl, hs, fy, fys, q⟩ := h
  cases rx
  obtain ⟨u, rfl, ru⟩ := rxs.one
  obtain ⟨its, rv, ⟨⟨cls, dd, data, sl⟩, n, ho, hc, hdn, hd⟩, hlen⟩ := I.list hs
  simp only at hc hd
  subst hc hd
  refine call_meets PySem.F.slot_list_count ⟨_, ho, rfl⟩ PySem.F.entry_list_count (PySem.F.args_list_count_2 _ _)
    (SeqAt.list_countAt p its.toArray n dd sl u (eqU y)) ⟨ho, fun u' hu' => mem_eqAt ru fy rv fys u' (by simpa using hu'), ?_⟩
  refine ⟨.int (ys.countP fun z => eqV z y : Nat), H, I.tok _, ⟨s.toks, ?_⟩, q⟩
  have e := count_rel (y := y) rv fys
  show Value.int ((its.toArray.toList.countP (eqU y) : Nat) : Int) s.toks = _
  rw [show its.toArray.toList = its from rfl, e]
/-- isinstance(e, c) in a suite, whichever error e is -/
def rIsA (K : PySem.W.Frag) (a : Addr) (cls : Value) (d : Option Addr) : List V → Hp → VK → Prop := fun xs H Q => ∃ D, cls = .ref D ∧ ExcC K D ∧ (d = none ∨ ∃ dd fs, d = some dd ∧ H dd = some (.xd fs)) ∧ rIsE K D a xs H Q
theorem call_isA {a : Addr} {oe : Obj} {cls : Value} {d : Option Addr} {pn : List (Addr × Obj)} (hz : Zc cls d oe) (hf : ∃ vs, oe.data = .fields vs) :
    CallR (X.suite a ((a, oe) :: pn)) (.builtin "isinstance") (rIsA X.K a cls d) := by
  intro pins s σ H xs us Q I r h
  obtain ⟨D, rfl, C, hd, h⟩ := h
  rcases hd with rfl | ⟨dd, fs, rfl, hd⟩
  · exact call_isE C hz hf pins s σ H xs us Q I r h
  · exact call_isED C hz hf pins s σ H xs us Q I r ⟨⟨fs, hd⟩, h⟩
/-- what takes an error may count on the slots -/
theorem takes_len {W : WX} (t : Takes X W) : Takes X (fun cls d σ H => σ.length = X.N.length → W cls d σ H) := by
  rintro u s' ⟨a, B, sI, pins, σ, H, cls, d, e, I, r⟩
  refine t u s' ⟨a, B, sI, pins, σ, H, cls, d, e, I, ?_⟩
  obtain ⟨r1, r2, r3, r4, r5, r6, r7⟩ := r
  exact ⟨r1, r2, r3, r4, r5, r6, r7 I.len⟩
end
end Fk
/-! What is told of a call. -/
namespace Fk
open PySem PySem.Spec PyProof.Rows L2
section
variable {P : Program} {w : World} {K : PySem.W.Frag} {mg : Str → Option Value} {base : Heap}
/-- the error classes that the law names -/
structure ErrS (K : PySem.W.Frag) (mg : Str → Option Value) (CB c0 c1 c2 c3 c4 c5 c6 : Addr) : Prop where
  gB : mg "FlagclauseError" = some (.ref CB)
  g0 : mg "InvalidGrammar" = some (.ref c0)
  g1 : mg "UnknownOption" = some (.ref c1)
  g2 : mg "InvalidClause" = some (.ref c2)
  g3 : mg "InvalidChain" = some (.ref c3)
  g4 : mg "Unsatisfiable" = some (.ref c4)
  g5 : mg "Conflict" = some (.ref c5)
  g6 : mg "DifferentOptions" = some (.ref c6)
  x4 : ExcC K c4
  x5 : ExcC K c5
  m4 : PySem.W.exmOne K (.ref c4) (.ref CB) = some true
  m5 : PySem.W.exmOne K (.ref c5) (.ref CB) = some true
  k40 : PySem.W.kitOne K (.ref c4) (.ref c0) = some false
  k41 : PySem.W.kitOne K (.ref c4) (.ref c1) = some false
  k42 : PySem.W.kitOne K (.ref c4) (.ref c2) = some false
  k43 : PySem.W.kitOne K (.ref c4) (.ref c3) = some false
  k44 : PySem.W.kitOne K (.ref c4) (.ref c4) = some true
  k45 : PySem.W.kitOne K (.ref c4) (.ref c5) = some false
  k46 : PySem.W.kitOne K (.ref c4) (.ref c6) = some false
  k4v : PySem.W.kitOne K (.ref c4) (.type "ValueError") = some true
  k50 : PySem.W.kitOne K (.ref c5) (.ref c0) = some false
  k51 : PySem.W.kitOne K (.ref c5) (.ref c1) = some false
  k52 : PySem.W.kitOne K (.ref c5) (.ref c2) = some false
  k53 : PySem.W.kitOne K (.ref c5) (.ref c3) = some false
  k54 : PySem.W.kitOne K (.ref c5) (.ref c4) = some false
  k55 : PySem.W.kitOne K (.ref c5) (.ref c5) = some true
  k56 : PySem.W.kitOne K (.ref c5) (.ref c6) = some false
  k5v : PySem.W.kitOne K (.ref c5) (.type "ValueError") = some true
  xf : XfC K c5
  nc : PySem.W.findIn K (.ref c5) "chain" = some none
/-- what becomes of the lambda's reading: its value, or the tuple that tells of the error -/
def TTold (c4 c5 : Addr) : (XK → Hp → VK → Prop) → Hp → VK → Prop := fun tl H Q =>
  tl (fun cls d H' => (cls = .ref c4 ∧ d = none ∧ ∀ H2 t, Same H' H2 → H2 t = some (.tup [.str "error", .str "Unsatisfiable"]) → Q (.ref t) H2) ∨
    (cls = .ref c5 ∧ ∃ dd tc, d = some dd ∧ H' dd = some (.xd [("chain", .ref tc)]) ∧ ∀ H2 t, Same H' H2 → H2 t = some (.tup [.str "error", .str "Conflict", .ref tc]) → Q (.ref t) H2)) H Q
abbrev s_law_told : Stmt := top 49
abbrev n_law_told : List Str := ["_law_work", "e", "_law_some", "_law_terms", "_law_k"]
theorem sc_law_told : FnScope n_law_told ["_law_work"] (defScope s_law_told) := ⟨rfl, rfl, rfl, by decide +kernel, rfl, by decide +kernel, by decide +kernel⟩
theorem pss_act {X : Cx} {a : Str} {p1 p2 p3 : Pos} {W : WX} {tt : XK → TE} (h : ∀ p1 p2, ∀ E : XK, (∀ cls d σ' H', E cls d H' → σ'.length = n_law_told.length → W cls d σ' H') → PE X (.Call (.Name a p1) [] [] p2) (tt E)) :
    PSs X [.Return (some (.Call (.Name a p1) [] [] p2)) p3] (fun D σ H => ∃ E : XK, (∀ cls d σ' H', E cls d H' → σ'.length = n_law_told.length → W cls d σ' H') ∧ tt E σ H D.rt) :=
  ⟨fun pins s' σ H' D I h' => by
    obtain ⟨E, hW, h3⟩ := h'
    exact (pss_one (ps_ret (pos := p3) (h p1 p2 E hW))).run pins s' σ H' D I h3⟩
theorem isA_ref {a D c : Addr} {d : Option Addr} {b : Bool} {H : Hp} {Q : VK} (C : ExcC K D) (hd : d = none ∨ ∃ dd fs, d = some dd ∧ H dd = some (.xd fs)) (hk : PySem.W.kitOne K (.ref D) (.ref c) = some b) (q : Q (.bl b) H) :
    rIsA K a (.ref D) d [.ref a, .ref c] H Q := ⟨D, rfl, C, hd, .ref c, .ref c, b, rfl, fun u r => r, hk, q⟩
theorem dd_same {d : Option Addr} {H H' : Hp} (s : Same H H') (hd : d = none ∨ ∃ dd fs, d = some dd ∧ H dd = some (.xd fs)) : d = none ∨ ∃ dd fs, d = some dd ∧ H' dd = some (.xd fs) := by
  rcases hd with h | ⟨dd, fs, h1, h2⟩
  · exact .inl h
  · exact .inr ⟨dd, fs, h1, s _ _ h2⟩
abbrev tIs (K : PySem.W.Frag) (a : Addr) (cls : Value) (d : Option Addr) (c : Addr) : TE := tCB (rIsA K a cls d) (tCons (tVar 1) (tCons (tC (V.ref c)) tNil))
theorem suite_mid {a D c0 c1 c2 c3 c4 c5 c6 : Addr} {d : Option Addr} {b0 b1 b2 b3 b4 b5 b6 : Bool} {H0 : Hp} {s0 s2 s3 s4 : Option V} {R : TS} {E : Ends} (C : ExcC K D) (hd : d = none ∨ ∃ dd fs, d = some dd ∧ H0 dd = some (.xd fs))
    (k0 : PySem.W.kitOne K (.ref D) (.ref c0) = some b0) (k1 : PySem.W.kitOne K (.ref D) (.ref c1) = some b1) (k2 : PySem.W.kitOne K (.ref D) (.ref c2) = some b2) (k3 : PySem.W.kitOne K (.ref D) (.ref c3) = some b3)
    (k4 : PySem.W.kitOne K (.ref D) (.ref c4) = some b4) (k5 : PySem.W.kitOne K (.ref D) (.ref c5) = some b5) (k6 : PySem.W.kitOne K (.ref D) (.ref c6) = some b6)
    (h : ∀ p q H, Same H0 H → H p = some (.lst [.bl b0, .bl b1, .bl b2, .bl b3, .bl b4, .bl b5, .bl b6]) → H q = some (.lst [.str "InvalidGrammar", .str "UnknownOption", .str "InvalidClause", .str "InvalidChain", .str "Unsatisfiable", .str "Conflict", .str "DifferentOptions"]) →
      R E [s0, some (.ref a), some (.ref p), some (.ref q), s4] H) :
    (tSeq (tAsg (tLst (tCons (tIs K a (.ref D) d c0) (tCons (tIs K a (.ref D) d c1) (tCons (tIs K a (.ref D) d c2) tNil)))) (gName 2))
      (tSeq (tAsg (tOp rCat (tVar 2) (tLst (tCons (tIs K a (.ref D) d c3) (tCons (tIs K a (.ref D) d c4) (tCons (tIs K a (.ref D) d c5) tNil))))) (gName 2))
      (tSeq (tDrop (tBM K "list" rAppend (tVar 2) (tCons (tIs K a (.ref D) d c6) tNil)))
      (tSeq (tAsg (tLst (tCons (tC (V.str "InvalidGrammar")) (tCons (tC (V.str "UnknownOption")) (tCons (tC (V.str "InvalidClause")) (tCons (tC (V.str "InvalidChain")) (tCons (tC (V.str "Unsatisfiable")) (tCons (tC (V.str "Conflict")) tNil))))))) (gName 3))
      (tSeq (tDrop (tBM K "list" rAppend (tVar 3) (tCons (tC (V.str "DifferentOptions")) tNil))) R))))) E [s0, some (.ref a), s2, s3, s4] H0 := by
  refine ⟨.ref a, rfl, isA_ref C hd k0 ⟨.ref a, rfl, isA_ref C hd k1 ⟨.ref a, rfl, isA_ref C hd k2 ⟨(show 3 ≤ sizeLine by decide), fun p1 f1 => ?_⟩⟩⟩⟩
  have e1 := same_put (o := .lst [.bl b0, .bl b1, .bl b2]) (Same.refl H0) f1
  refine ⟨.ref p1, rfl, .ref a, rfl, isA_ref C (dd_same e1 hd) k3 ⟨.ref a, rfl, isA_ref C (dd_same e1 hd) k4 ⟨.ref a, rfl, isA_ref C (dd_same e1 hd) k5 ⟨(show 3 ≤ sizeLine by decide), fun p2 f2 => ?_⟩⟩⟩⟩
  have g2 := e1.free f2
  have e2 := same_put (o := .lst [.bl b3, .bl b4, .bl b5]) e1 g2
  have n12 : p1 ≠ p2 := fun e => by rw [e, upd_same] at f2; cases f2
  refine ⟨p1, p2, [.bl b0, .bl b1, .bl b2], [.bl b3, .bl b4, .bl b5], rfl, rfl, by rw [upd_ne n12, upd_same], upd_same, (show 3 + 3 ≤ sizeLine by decide), fun p3 f3 => ?_⟩
  have g3 := e2.free f3
  have e3 := same_put (o := .lst [.bl b0, .bl b1, .bl b2, .bl b3, .bl b4, .bl b5]) e2 g3
  refine ⟨.ref p3, rfl, .inl ⟨rfl, _, .inl (.inl upd_same)⟩, .ref a, rfl, isA_ref C (dd_same e3 hd) k6 ⟨p3, [.bl b0, .bl b1, .bl b2, .bl b3, .bl b4, .bl b5], _, rfl, rfl, upd_same, (show 6 < sizeLine by decide), ?_⟩⟩
  have e4 := same_put (o := .lst [.bl b0, .bl b1, .bl b2, .bl b3, .bl b4, .bl b5, .bl b6]) e3 g3
  refine ⟨by decide, fun q f5 => ?_⟩
  have g5 := e4.free f5
  have n35 : p3 ≠ q := fun e => by subst e; exact absurd (upd_same.symm.trans f5) nofun
  have e5 := same_put (o := .lst [.str "InvalidGrammar", .str "UnknownOption", .str "InvalidClause", .str "InvalidChain", .str "Unsatisfiable", .str "Conflict"]) e4 g5
  refine ⟨.ref q, rfl, .inl ⟨rfl, _, .inl (.inl upd_same)⟩, q, [.str "InvalidGrammar", .str "UnknownOption", .str "InvalidClause", .str "InvalidChain", .str "Unsatisfiable", .str "Conflict"], _, rfl, rfl, upd_same, by decide, ?_⟩
  refine h p3 q _ (same_put e5 g5) ?_ upd_same
  rw [upd_ne n35, upd_ne n35]
  exact upd_same
abbrev terms7 : List V := [.str "InvalidGrammar", .str "UnknownOption", .str "InvalidClause", .str "InvalidChain", .str "Unsatisfiable", .str "Conflict", .str "DifferentOptions"]
theorem suite_k {a D p q : Addr} {d : Option Addr} {bs : List Bool} {j : Nat} {H0 : Hp} {s0 s4 : Option V} {R : TS} {E : Ends} (C : ExcC K D) (hd : d = none ∨ ∃ dd fs, d = some dd ∧ H0 dd = some (.xd fs)) (hp : H0 p = some (.lst (bs.map V.bl))) (hq : H0 q = some (.lst terms7))
    (kv : PySem.W.kitOne K (.ref D) (.type "ValueError") = some true) (hc : ((bs.map V.bl).countP fun z => eqV z (.bl true)) = 1) (hj : (bs.map V.bl)[j]? = some (.bl true)) (hb : ∀ m z', m < j → (bs.map V.bl)[m]? = some z' → eqV z' (.bl true) = false)
    (h : R E [s0, some (.ref a), some (.ref p), some (.ref q), some (.int (j : Nat))] H0) :
    (tSeq (tAsg (tIf (tAnd (tTest (tOp rEq (tBM K "list" (rCntF K) (tVar 2) (tCons (tC (V.bl true)) tNil)) (tC (V.int 1)))) (tB (tCB (rIsA K a (.ref D) d) (tCons (tVar 1) (tCons (tC (V.ty "ValueError")) tNil)))))
      (tBM K "list" (rIndex K) (tVar 2) (tCons (tC (V.bl true)) tNil)) (tC (V.int 9))) (gName 4)) R) E [s0, some (.ref a), some (.ref p), some (.ref q), s4] H0 := by
  have hf : (bs.map V.bl).all flatV = true := List.all_eq_true.mpr fun z hz => by
    obtain ⟨b, _, rfl⟩ := List.mem_map.mp hz
    rfl
  have hs : SqL K H0 p (bs.map V.bl) := .inl (.inl hp)
  refine ⟨.ref p, rfl, .inl ⟨rfl, _, hs⟩, p, bs.map V.bl, .bl true, rfl, rfl, hs, rfl, hf, rfl, true, by rw [hc]; rfl, ?_⟩
  refine ⟨.ref a, rfl, D, rfl, C, hd, .ty "ValueError", .type "ValueError", true, rfl, fun u r => r, kv, true, rfl, ?_⟩
  exact ⟨.ref p, rfl, .inl ⟨rfl, _, hs⟩, p, bs.map V.bl, .bl true, j, _, rfl, rfl, hs, rfl, hf, hj, rfl, hb, h⟩
theorem tk_no {j m : Nat} {t u : TS} {E : Ends} {s0 s1 s2 s3 : Option V} {H : Hp} (n : j ≠ m) (h : u E [s0, s1, s2, s3, some (.int (j : Nat))] H) :
    (tIfS (tTest (tOp rEq (tVar 4) (tC (V.int (m : Nat))))) t u) E [s0, s1, s2, s3, some (.int (j : Nat))] H := by
  refine ⟨_, rfl, rfl, false, ?_, h⟩
  rw [dec_int]
  congr 1
  exact beq_eq_false_iff_ne.mpr fun e => n (Int.ofNat_inj.mp e)
theorem told_ok {X : Cx} {CB c0 c1 c2 c3 c4 c5 c6 g : Addr} {cdg : Value} {q : Str} (T : Txt X.K X.mg) (TE : ErrS X.K X.mg CB c0 c1 c2 c3 c4 c5 c6) :
    LamX.GivesTo X n_law_told "_law_told" (defScope s_law_told) g cdg (defBody s_law_told) "_law_work" q (TTold c4 c5) := by
  intro f c' s H Q tl act hc h
  refine ⟨_, pss_one (ps_try_as (X := (cxOf CX0 X.prog X.w X.K X.mg X.base n_law_told "_law_told" (defScope s_law_told) g cdg X.A X.stack s H E0).nox) (i := 1) (c := .ref CB)
      (tb := fun W D σ H => ∃ Ech : XK, (∀ cls d σ' H', Ech cls d H' → σ'.length = n_law_told.length → W cls d σ' H') ∧ σ[0]? = some (some (.ref f)) ∧ H c' = some (LamX.CodeO c' q) ∧ tl Ech H D.rt) (Wout := fun _ _ _ _ => False)
      rfl rfl sc_law_told.nd rfl rfl ⟨rfl, by decide, .inl TE.gB⟩ LamX.takes0 (fun W pn xe tk _ => ?_) (fun a oe cls d pn hz hf => (pss_cons (ps_set (i := 2) sc_law_told.nd rfl (by first | exact Or.inl rfl | exact Or.inr rfl) (pe_lst (pa_cons (pe_callB (show CallR _ (.builtin "isinstance") (rIsA X.K a cls d) from call_isA hz hf) (by rfl) T.b_isinstance (by decide +kernel) (pa_cons (pv 1) (pa_cons (pe_glob (v := .ref c0) rfl TE.g0 rfl) pa_nil))) (pa_cons (pe_callB (show CallR _ (.builtin "isinstance") (rIsA X.K a cls d) from call_isA hz hf) (by rfl) T.b_isinstance (by decide +kernel) (pa_cons (pv 1) (pa_cons (pe_glob (v := .ref c1) rfl TE.g1 rfl) pa_nil))) (pa_cons (pe_callB (show CallR _ (.builtin "isinstance") (rIsA X.K a cls d) from call_isA hz hf) (by rfl) T.b_isinstance (by decide +kernel) (pa_cons (pv 1) (pa_cons (pe_glob (v := .ref c2) rfl TE.g2 rfl) pa_nil))) pa_nil)))))
      (pss_cons (ps_set (i := 2) sc_law_told.nd rfl (by first | exact Or.inl rfl | exact Or.inr rfl) (pe_op op_cat (pv 2) (pe_lst (pa_cons (pe_callB (show CallR _ (.builtin "isinstance") (rIsA X.K a cls d) from call_isA hz hf) (by rfl) T.b_isinstance (by decide +kernel) (pa_cons (pv 1) (pa_cons (pe_glob (v := .ref c3) rfl TE.g3 rfl) pa_nil))) (pa_cons (pe_callB (show CallR _ (.builtin "isinstance") (rIsA X.K a cls d) from call_isA hz hf) (by rfl) T.b_isinstance (by decide +kernel) (pa_cons (pv 1) (pa_cons (pe_glob (v := .ref c4) rfl TE.g4 rfl) pa_nil))) (pa_cons (pe_callB (show CallR _ (.builtin "isinstance") (rIsA X.K a cls d) from call_isA hz hf) (by rfl) T.b_isinstance (by decide +kernel) (pa_cons (pv 1) (pa_cons (pe_glob (v := .ref c5) rfl TE.g5 rfl) pa_nil))) pa_nil))))))
      (pss_cons (ps_expr (show PE _ _ (tBM X.K _ _ _ _) from (pe_bm PySem.F.plainAttrs_list PySem.F.slot_list_append PySem.F.type_list_append mt_append (pv 2) (pa_cons (pe_callB (show CallR _ (.builtin "isinstance") (rIsA X.K a cls d) from call_isA hz hf) (by rfl) T.b_isinstance (by decide +kernel) (pa_cons (pv 1) (pa_cons (pe_glob (v := .ref c6) rfl TE.g6 rfl) pa_nil))) pa_nil))))
      (pss_cons (ps_set (i := 3) sc_law_told.nd rfl (by first | exact Or.inl rfl | exact Or.inr rfl) (pe_lst (pa_cons pe_str (pa_cons pe_str (pa_cons pe_str (pa_cons pe_str (pa_cons pe_str (pa_cons pe_str pa_nil))))))))
      (pss_cons (ps_expr (show PE _ _ (tBM X.K _ _ _ _) from (pe_bm PySem.F.plainAttrs_list PySem.F.slot_list_append PySem.F.type_list_append mt_append (pv 3) (pa_cons pe_str pa_nil))))
      (pss_cons (ps_set (i := 4) sc_law_told.nd rfl (by first | exact Or.inl rfl | exact Or.inr rfl) (pe_ifExp (PW.pt (pw_and (pt_cmpR op_eq (show PE _ _ (tBM X.K _ _ _ _) from pe_bm PySem.F.plainAttrs_list PySem.F.slot_list_count PySem.F.type_list_count (show MtR _ "list.count" (rCntF X.K) from mt_countF) (pv 2) (pa_cons pe_bl pa_nil)) pe_int (nomark _)) (pw_and1 (pt_val (pe_callB (show CallR _ (.builtin "isinstance") (rIsA X.K a cls d) from call_isA hz hf) (by rfl) T.b_isinstance (by decide +kernel) (pa_cons (pv 1) (pa_cons (pe_bltn (v := .ty "ValueError") (by rfl) T.b_ValueError (by decide +kernel) rfl) pa_nil))))))) (show PE _ _ (tBM X.K _ _ _ _) from pe_bm PySem.F.plainAttrs_list PySem.F.slot_list_index PySem.F.type_list_index (show MtR _ "list.index" (rIndex X.K) from mt_index) (pv 2) (pa_cons pe_bl pa_nil)) pe_int))
      (pss_cons (ps_if (pt_cmpR op_eq (pv 4) pe_int (nomark _)) (pss_one ps_never) pss_nil)
      (pss_cons (ps_if (pt_cmpR op_eq (pv 4) pe_int (nomark _)) (pss_one ps_never) pss_nil)
      (pss_cons (ps_if (pt_cmpR op_eq (pv 4) pe_int (nomark _)) (pss_one ps_never) pss_nil)
      (pss_cons (ps_if (pt_cmpR op_eq (pv 4) pe_int (nomark _)) (pss_one (ps_ret (pe_tup (pa_cons pe_str (pa_cons (pe_ix (show IxR _ (rIxL X.K) from ix_list) (pv 3) (pv 4) (fun _ _ => rfl)) (pa_cons (pe_xf TE.xf TE.nc hz hf (pv 1)) pa_nil)))))) pss_nil)
      (pss_one (ps_ret (pe_tup (pa_cons pe_str (pa_cons (pe_ifExp (pt_cmpR op_lt (pv 4) pe_int (nomark _)) (pe_ix (show IxR _ (rIxL X.K) from ix_list) (pv 3) (pv 4) (fun _ _ => rfl)) pe_str) pa_nil))))))))))))))))), ?_⟩
  · exact pss_act fun p1 p2 E hW => act _ pn xe E p1 p2 (takes_len tk) hW
  · refine ⟨_, fun cls d σ' H' hx hl => ?_, rfl, hc, h⟩
    obtain ⟨s0, s1, s2, s3, s4, rfl⟩ : ∃ s0 s1 s2 s3 s4, σ' = [s0, s1, s2, s3, s4] := by
      match σ', hl with
      | [s0, s1, s2, s3, s4], _ => exact ⟨s0, s1, s2, s3, s4, rfl⟩
    rcases hx with ⟨rfl, rfl, hx⟩ | ⟨rfl, dd, tc, rfl, hdd, hx⟩
    · refine ⟨true, TE.m4, fun _ a ha => ?_, nofun⟩
      refine suite_mid TE.x4 (.inl rfl) TE.k40 TE.k41 TE.k42 TE.k43 TE.k44 TE.k45 TE.k46 fun p q H2 e2 hp hq => ?_
      refine suite_k (j := 4) (bs := [false, false, false, false, true, false, false]) TE.x4 (.inl rfl) hp hq TE.k4v (by decide) rfl ?_ ?_
      · intro m z' hm hz
        match m, hm, hz with
        | 0, _, hz => cases hz; rfl
        | 1, _, hz => cases hz; rfl
        | 2, _, hz => cases hz; rfl
        | 3, _, hz => cases hz; rfl
      · refine tk_no (m := 0) (by decide) (tk_no (m := 1) (by decide) (tk_no (m := 3) (by decide) (tk_no (m := 5) (by decide) ?_)))
        refine ⟨_, rfl, 4, 9, rfl, rfl, true, rfl, ?_⟩
        refine ⟨_, rfl, _, rfl, q, terms7, 4, _, rfl, rfl, .inl (.inl hq), rfl, by decide, fun t ft => ?_⟩
        exact hx _ t (same_put e2 (e2.free ft)) upd_same
    · have hd0 : (some dd : Option Addr) = none ∨ ∃ d' fs, some dd = some d' ∧ H' d' = some (.xd fs) := .inr ⟨dd, _, rfl, hdd⟩
      refine ⟨true, TE.m5, fun _ a ha => ?_, nofun⟩
      refine suite_mid TE.x5 hd0 TE.k50 TE.k51 TE.k52 TE.k53 TE.k54 TE.k55 TE.k56 fun p q H2 e2 hp hq => ?_
      refine suite_k (j := 5) (bs := [false, false, false, false, false, true, false]) TE.x5 (dd_same e2 hd0) hp hq TE.k5v (by decide) rfl ?_ ?_
      · intro m z' hm hz
        match m, hm, hz with
        | 0, _, hz => cases hz; rfl
        | 1, _, hz => cases hz; rfl
        | 2, _, hz => cases hz; rfl
        | 3, _, hz => cases hz; rfl
        | 4, _, hz => cases hz; rfl
      · refine tk_no (m := 0) (by decide) (tk_no (m := 1) (by decide) (tk_no (m := 3) (by decide) ?_))
        refine ⟨_, rfl, rfl, true, rfl, ?_⟩
        refine ⟨_, rfl, _, rfl, q, terms7, 5, _, rfl, rfl, .inl (.inl hq), rfl, ?_⟩
        refine ⟨_, rfl, rfl, rfl, dd, _, .ref tc, rfl, e2 _ _ hdd, rfl, (show 3 ≤ sizeLine by decide), fun t ft => ?_⟩
        exact hx _ t (same_put e2 (e2.free ft)) upd_same
end
end Fk
/-! The words that the law expects; what stays behind a lambda's making. -/
namespace Fk
open PySem PySem.Spec PyProof.Rows L2
open Fc (neg Edge Best Reach BestOf IsPath)
section
variable {P : Program} {w : World} {K : PySem.W.Frag} {mg : Str → Option Value} {base : Heap}
theorem all_sel {es : List OE} {cs : List CE} {rs : List SE} {ns : List Str} (hw : ∀ c ∈ cs, c.w ∈ clWords) (ho : ∀ c ∈ cs, c.a ∈ es.map (·.n) ∧ c.b ∈ es.map (·.n)) (SO : SetsOf (es.map (·.n)) cs (rs.map Prod.fst)) (hF : Fc.Free (clsOf cs) (es.map (·.n)))
    (hn : ∀ n ∈ ns, n ∈ es.map (·.n)) (hc : noConf (clsOf cs) ns) {m : Str} (hm : m ∈ es.map (·.n)) (t : Bool) : (∀ r ∈ rs.filter (selB ns), decide (m ∈ r.1) = t) ↔ Forced (clsOf cs) ns (m, t) := by
  have hG : ¬ ∃ a ∈ ns, ∃ b ∈ ns, Reach (clsOf cs) (a, true) (b, false) := fun ⟨a, ma, b, mb, r⟩ => hc a ma b mb r
  refine Iff.trans ?_ (Fc.forced_iff (over_cls ho) hF hG m t)
  constructor
  · intro h S hS hg
    obtain ⟨S', mS, hcov⟩ := SO.cov S hS
    obtain ⟨r, mr, rfl⟩ := List.mem_map.mp mS
    have := h r (List.mem_filter.mpr ⟨mr, List.all_eq_true.mpr fun n mn => decide_eq_true ((hcov n (hn n mn)).mpr (hg n mn))⟩)
    rw [← this]
    have q := hcov m hm
    by_cases c : m ∈ r.1
    · rw [decide_eq_true c, q.mp c]
    · rw [decide_eq_false c]
      cases e : S m with
      | false => rfl
      | true => exact absurd (q.mpr e) c
  · intro h r mr
    obtain ⟨m1, m2⟩ := List.mem_filter.mp mr
    exact h (fun n => decide (n ∈ r.1)) ((fits_iff hw).mp (SO.ok r.1 (List.mem_map.mpr ⟨r, m1, rfl⟩))) fun a ma => List.all_eq_true.mp m2 a ma
/-- the word that the law counts out -/
def dueW (ns : List Str) (L : List SE) (m : Str) : Str :=
  if m ∈ ns then "given" else if (L.filter fun r => decide (m ∈ r.1)).length = L.length then "required" else if (L.filter fun r => decide (m ∈ r.1)).length = 0 then "impossible" else "possible"
theorem word_eq {es : List OE} {cs : List CE} {rs : List SE} {ns gs : List Str} (hw : ∀ c ∈ cs, c.w ∈ clWords) (ho : ∀ c ∈ cs, c.a ∈ es.map (·.n) ∧ c.b ∈ es.map (·.n)) (SO : SetsOf (es.map (·.n)) cs (rs.map Prod.fst)) (hF : Fc.Free (clsOf cs) (es.map (·.n)))
    (hn : ∀ n ∈ ns, n ∈ es.map (·.n)) (hc : noConf (clsOf cs) ns) (mem : ∀ n, n ∈ gs ↔ n ∈ ns) {m : Str} (hm : m ∈ es.map (·.n)) {wd : Str} (h : VW (clsOf cs) gs m wd) : wd = dueW ns (rs.filter (selB ns)) m := by
  have key := all_sel hw ho SO hF hn hc hm
  have fe : ∀ l : Lt, Forced (clsOf cs) gs l ↔ Forced (clsOf cs) ns l := fun l => by
    unfold Forced
    constructor
    · rintro (⟨a, ma, r⟩ | r)
      · exact .inl ⟨a, (mem a).mp ma, r⟩
      · exact .inr r
    · rintro (⟨a, ma, r⟩ | r)
      · exact .inl ⟨a, (mem a).mpr ma, r⟩
      · exact .inr r
  have k1 : (((rs.filter (selB ns)).filter fun r => decide (m ∈ r.1)).length = (rs.filter (selB ns)).length) ↔ Forced (clsOf cs) gs (m, true) := by
    rw [fe, ← key true]
    exact List.length_filter_eq_length_iff
  have k0 : (((rs.filter (selB ns)).filter fun r => decide (m ∈ r.1)).length = 0) ↔ Forced (clsOf cs) gs (m, false) := by
    rw [fe, ← key false, List.length_eq_zero_iff, List.filter_eq_nil_iff]
    constructor
    · intro h a ma
      cases e : decide (m ∈ a.1) with
      | false => rfl
      | true => exact absurd e (h a ma)
    · intro h a ma e
      rw [h a ma] at e
      cases e
  unfold dueW
  rcases h with ⟨h1, h2⟩ | ⟨h1, h2, h3⟩ | ⟨h1, h2, h3, h4⟩ | ⟨h1, h2, h3, h4⟩
  · rw [if_pos ((mem m).mp h1), h2]
  · rw [if_neg (fun z => h1 ((mem m).mpr z)), if_pos (k1.mpr h2), h3]
  · rw [if_neg (fun z => h1 ((mem m).mpr z)), if_neg (fun z => h2 (k1.mp z)), if_pos (k0.mpr h3), h4]
  · rw [if_neg (fun z => h1 ((mem m).mpr z)), if_neg (fun z => h2 (k1.mp z)), if_neg (fun z => h3 (k0.mp z)), h4]
/-- the dict of the words -/
def wordsK (l : List Str) (f : Str → Str) : List (Key × V) := l.map fun n => ((Sum.inr n : Key), V.str (f n))
theorem wordsK_val {f : Str → Str} {n : Str} : ∀ {l : List Str}, n ∈ l → valV (wordsK l f) (Sum.inr n : Key) = some (.str (f n))
  | [], h => nomatch h
  | m :: l, h => by
    by_cases e : m = n
    · subst e
      exact valV_pos rfl
    · have e2 : (Sum.inr m : Key) ≠ Sum.inr n := fun z => e (Sum.inr.inj z)
      rcases List.mem_cons.mp h with z | z
      · exact absurd z.symm e
      · show valV (((Sum.inr m : Key), V.str (f m)) :: wordsK l f) _ = _
        rw [valV_neg e2]
        exact wordsK_val z
theorem wordsK_put {f : Str → Str} {n : Str} {l : List Str} (h : n ∉ l) : putK (wordsK l f) (Sum.inr n : Key) (.str (f n)) = wordsK (l ++ [n]) f := by
  unfold putK
  rw [if_neg ?_]
  · simp [wordsK]
  · intro z
    obtain ⟨p, mp, hp⟩ := List.any_eq_true.mp z
    obtain ⟨m, mm, rfl⟩ := List.mem_map.mp mp
    have := of_decide_eq_true hp
    exact h (Sum.inr.inj this ▸ mm)
theorem wordsK_same {l : List Str} {f g : Str → Str} (h : ∀ n ∈ l, f n = g n) : wordsK l f = wordsK l g := List.map_congr_left fun n m => by rw [h n m]
theorem wordsK_ne {l : List Str} {f : Str → Str} : ∀ p ∈ wordsK l f, valV (wordsK l f) p.1 = some p.2 ∧ flatB p.2 = true := fun p m => by
  obtain ⟨n, mn, rfl⟩ := List.mem_map.mp m
  exact ⟨wordsK_val mn, rfl⟩
theorem wordsK_keys {l : List Str} {f : Str → Str} : (wordsK l f).map (fun kv => kV kv.1) = l.map V.str := by
  unfold wordsK
  rw [List.map_map]
  rfl
/-! ### a lambda is made -/
theorem ext_tup {H H' : Hp} (e : LamX.ExtN H H') {b : Addr} {ys : List V} (h : H b = some (.tup ys)) : H' b = some (.tup ys) := e b _ h fun _ => nofun
theorem ext_lst {H H' : Hp} (e : LamX.ExtN H H') {b : Addr} {ys : List V} (h : H b = some (.lst ys)) : H' b = some (.lst ys) := e b _ h fun _ => nofun
theorem ext_dK {H H' : Hp} (e : LamX.ExtN H H') {b : Addr} {ys : List (Key × V)} (h : H b = some (.dK ys)) : H' b = some (.dK ys) := e b _ h fun _ => nofun
theorem ext_sqL {H H' : Hp} (e : LamX.ExtN H H') {a : Addr} {xs : List V} (h : SqL K H a xs) : SqL K H' a xs := by
  rcases h with (h | ⟨o, h⟩) | h
  · exact .inl (.inl (ext_lst e h))
  · exact .inl (.inr ⟨o, e _ _ h fun _ => nofun⟩)
  · exact .inr h
theorem ext_sqT {H H' : Hp} (e : LamX.ExtN H H') {a : Addr} {xs : List V} (h : SqT K H a xs) : SqT K H' a xs := by
  rcases h with (h | ⟨o, h⟩) | h
  · exact .inl (.inl (ext_tup e h))
  · exact .inl (.inr ⟨o, e _ _ h fun _ => nofun⟩)
  · exact .inr h
theorem ext_sqB {H H' : Hp} (e : LamX.ExtN H H') {a : Addr} {xs : List V} (h : SqB K H a xs) : SqB K H' a xs := h.imp (ext_sqL e) (ext_sqT e)
theorem ext_del {d : Addr} {H H' : Hp} (e : LamX.ExtN H H') : LamX.ExtN (del H d) (del H' d) := fun b o h n => by
  by_cases c : b = d
  · rw [c, del_same] at h; cases h
  · rw [del_ne c] at h
    rw [del_ne c]
    exact e b o h n
theorem DiceAt.ext {sc : Addr × List Int} {H H' : Hp} {d : Addr} (e : LamX.ExtN H H') (h : DiceAt K sc H d) : DiceAt K sc H' d := by
  obtain ⟨i, m, r, h1, h2, h3⟩ := h
  exact ⟨i, m, r, ext_lst e h1, ext_sqL (ext_del e) h2, h3⟩
theorem GrAt.ext {H H' : Hp} {g : Addr} {es : List OE} {cs : List CE} (e : LamX.ExtN H H') (G : GrAt H g es cs) : GrAt H' g es cs := G.keep fun b ys h => ext_tup e h
theorem tabs_x {d : Addr} {l : List V} {T : List (Addr × Str)} {H H' : Hp} (s : SameX d H H') (hd : H d = some (.lst l)) (t : LamX.Tabs T H) : LamX.Tabs T H' := fun p m => by
  obtain ⟨ps, h1, h2, h3⟩ := t p m
  refine ⟨ps, s _ _ (fun z => by rw [z, hd] at h1; cases h1) h1, h2, fun pos cv hc => ?_⟩
  obtain ⟨c, e1, e2⟩ := h3 pos cv hc
  exact ⟨c, e1, s _ _ (fun z => by rw [z, hd] at e2; cases e2) e2⟩
end
end Fk
/-! The law. -/
namespace Fk
open PySem PySem.Spec PyProof.Rows L2
open Fc (neg Edge Best Reach BestOf IsPath)
section
variable {P : Program} {w : World} {K : PySem.W.Frag} {mg : Str → Option Value} {base : Heap}
abbrev lawT (Pt : Addr) (q : Str) : List (Addr × Str) := [(Pt, q ++ "<lambda>")]
/-- what the law holds against the verdicts -/
def DueOk (H : Hp) (es : List OE) (cs : List CE) (ns : List Str) (t : Addr) : Prop :=
  (¬ Fc.Free (clsOf cs) (es.map (·.n)) ∧ H t = some (.tup [.str "error", .str "Unsatisfiable"])) ∨
  (Fc.Free (clsOf cs) (es.map (·.n)) ∧ ¬ noConf (clsOf cs) ns ∧ ∃ (t2 : Addr) (bs : List (Lt × Addr)), H t = some (.tup [.str "error", .str "Conflict", .ref t2]) ∧ H t2 = some (.tup (bs.map fun b : Lt × Addr => V.ref b.2)) ∧ (∀ b ∈ bs, H b.2 = some (litT b.1)) ∧ BestOf llt (clsOf cs) (Cpair ns) (bs.map Prod.fst)) ∨
  (Fc.Free (clsOf cs) (es.map (·.n)) ∧ noConf (clsOf cs) ns ∧ ∃ f : Str → Str, H t = some (.dK (wordsK (es.map (·.n)) f)) ∧ ∀ (gs : List Str) (m wd : Str), (∀ n, n ∈ gs ↔ n ∈ ns) → m ∈ es.map (·.n) → VW (clsOf cs) gs m wd → wd = f m)
abbrev rNeF (K : PySem.W.Frag) : R2 := fun x y H Q => rNeDA x y H Q ∨ rNeD K x y H Q
abbrev rLsD : List V → Hp → VK → Prop := fun xs H Q => ∃ (a : Addr) (kvs : List (Key × V)), xs = [.ref a] ∧ Rd H a (.dK kvs) ∧ ∀ p, H p = none → Q (.ref p) (upd H p (.lst (kvs.map fun kv => kV kv.1)))
/-- the last two statements of a turn -/
def tTail (K : PySem.W.Frag) (T : List (Addr × Str)) (c4 c5 : Addr) : TS :=
  tSeq (tAsg (LamX.tLam T (TTold c4 c5) (fun E => tCall (spVerdicts K c4 c5) [] E (tCons (tVar 3) (tCons (tVar 4) tNil)))) (gName 11))
    (tIfS (tOr (tTest (tOp (rNeF K) (tVar 11) (tVar 5))) (tAnd (tB (tCB (rIsi K) (tCons (tVar 11) (tCons (tC (.ty "dict")) tNil)))) (tTest (tOp (rNeD K) (tCB rLsD (tCons (tVar 11) tNil)) (tCall spNames [] E0 (tCons (tVar 3) tNil)))))) (tRet (tC (.bl false))) tNext)
theorem sh_refl {n : Nat} {d : PyData} (h : Sh n d) : PyData.eqv d d = true := SeqAt.eqv_refl d h.lay
theorem cpair_mem {gs ns : List Str} (mem : ∀ n, n ∈ gs ↔ n ∈ ns) : Cpair gs = Cpair ns := by
  funext s g
  refine propext ⟨?_, ?_⟩
  · rintro ⟨x, mx, y, my, e1, e2⟩
    exact ⟨x, (mem x).mp mx, y, (mem y).mp my, e1, e2⟩
  · rintro ⟨x, mx, y, my, e1, e2⟩
    exact ⟨x, (mem x).mpr mx, y, (mem y).mpr my, e1, e2⟩
theorem tail_ok {T : List (Addr × Str)} {c4 c5 g a dv : Addr} {es : List OE} {cs : List CE} {ns : List Str} {D : Ends} {σ : L2.St} {H : Hp} (h3 : σ[3]? = some (some (.ref g))) (h4 : σ[4]? = some (some (.ref a))) (h5 : σ[5]? = some (some (.ref dv))) (hl : σ.length = 12)
    (GV : Given K H g a es cs ns) (Tb : LamX.Tabs T H) (Du : DueOk H es cs ns dv) (q : ∀ u H', LamX.ExtN H H' → LamX.Tabs T H' → D.nx (σ.set 11 (some u)) H') : tTail K T c4 c5 D σ H := by
  have hw : ∀ c ∈ cs, c.w ∈ clWords := fun c m => (GV.G.cw c m).1
  have ho : ∀ c ∈ cs, c.a ∈ es.map (·.n) ∧ c.b ∈ es.map (·.n) := fun c m => (GV.G.cw c m).2
  have nok : ∀ n ∈ es.map (·.n), n ∈ okNames := fun n m => by
    obtain ⟨e, me, rfl⟩ := List.mem_map.mp m
    exact (GV.G.os e me).nm
  refine ⟨Tb, fun H1 e1 Tb1 => ?_⟩
  have G1 := GV.G.ext e1
  have hl11 : 11 < σ.length := by rw [hl]; decide
  have g11 : ∀ v : V, (σ.set 11 (some v))[11]? = some (some v) := fun v => get_set hl11
  have g5 : ∀ v : V, (σ.set 11 (some v))[5]? = some (some (.ref dv)) := fun v => by rw [List.getElem?_set_ne (by decide)]; exact h5
  have g3 : ∀ v : V, (σ.set 11 (some v))[3]? = some (some (.ref g)) := fun v => by rw [List.getElem?_set_ne (by decide)]; exact h3
  -- a tuple of the same data
  have tupE : ∀ (H2 : Hp) (t : Addr) (ys : List V) (d : PyData) (n : Nat), n ≤ 64 → Same H1 H2 → H2 t = some (.tup ys) → Dp K H2 (.ref t) d → Dp K H2 (.ref dv) d → Sh n d →
      (tIfS (tOr (tTest (tOp (rNeF K) (tVar 11) (tVar 5))) (tAnd (tB (tCB (rIsi K) (tCons (tVar 11) (tCons (tC (.ty "dict")) tNil)))) (tTest (tOp (rNeD K) (tCB rLsD (tCons (tVar 11) tNil)) (tCall spNames [] E0 (tCons (tVar 3) tNil)))))) (tRet (tC (.bl false))) tNext) D (σ.set 11 (some (.ref t))) H2 := by
    intro H2 t ys d n n64 s2 ht d1 d2 hS
    refine ⟨_, g11 _, _, g5 _, .inr ⟨d, d, d1, d2, hS.ok n64, hS.ok n64, _, rfl, ?_⟩⟩
    refine ifF (by rw [sh_refl hS]; rfl) ?_
    refine ⟨_, g11 _, _, _, .type "tuple", .type "dict", false, rfl, .ty _, .base (.tup ht), kit_ty (by decide +kernel), _, rfl, iteF ?_⟩
    exact iteF (next_of (q _ H2 (e1.trans (LamX.ExtN.of s2)) (Tb1.ext s2)))
  refine ⟨_, h3, _, h4, g, a, es, cs, ns, rfl, ⟨G1, ext_sqB e1 GV.q, GV.n, GV.z⟩, ⟨fun nF H' s' => .inl ⟨rfl, rfl, fun H2 t s2 ht => ?_⟩, fun hF gs d t bs H' mem s' nd hd ht hb hB => .inr ⟨rfl, d, t, rfl, hd, fun H2 tt s2 htt => ?_⟩⟩, fun H' p gs wd s' hF mem nc hv hp => ?_⟩
  · rcases Du with ⟨_, hdv⟩ | ⟨hF, _⟩ | ⟨hF, _⟩
    · have ss := s'.trans s2
      have hdv2 := ss _ _ (ext_tup e1 hdv)
      exact tupE H2 t _ (.tuple [.str "error", .str "Unsatisfiable"]) 1 (by decide) ss ht (.tup (.of ht) (.cons (.str _) (.cons (.str _) .nil))) (.tup (.of hdv2) (.cons (.str _) (.cons (.str _) .nil))) (Sh.tuple (n := 0) (cons_all (Sh.str (by decide +kernel)) (cons_all (Sh.str (by decide +kernel)) nil_all)))
    · exact absurd hF nF
    · exact absurd hF nF
  · have hex : ¬ noConf (clsOf cs) ns := fun nc => by
      obtain ⟨⟨s, g', ⟨x, mx, y, my, rfl, rfl⟩, hp⟩, _⟩ := hB
      exact nc x ((mem x).mp mx) y ((mem y).mp my) hp.reach
    rcases Du with ⟨nF, _⟩ | ⟨_, _, t2, cs2, hdv, ht2, hc2, hB2⟩ | ⟨_, nc, _⟩
    · exact absurd hF nF
    · have ss := s'.trans s2
      rw [cpair_mem mem] at hB
      have eq := BestOf.unique llt_total hB hB2
      have hdv2 := ss _ _ (ext_tup e1 hdv)
      have ht22 := ss _ _ (ext_tup e1 ht2)
      have hc22 : ∀ b ∈ cs2, H2 b.2 = some (litT b.1) := fun b m => ss _ _ (ext_tup e1 (hc2 b m))
      have hb2 : ∀ b ∈ bs, H2 b.2 = some (litT b.1) := fun b m => s2 _ _ (hb b m)
      have eD : bs.map (fun b => litD b.1) = cs2.map fun b => litD b.1 := by
        have := congrArg (List.map litD) eq
        rwa [List.map_map, List.map_map] at this
      have lits : ∀ l ∈ bs.map Prod.fst, l.1 ∈ okNames := by
        obtain ⟨⟨s, g', ⟨x, mx, y, my, rfl, rfl⟩, hp⟩, _⟩ := hB
        exact fun l ml => nok _ (path_over (over_cls ho) hp (GV.n x mx) l ml)
      refine tupE H2 tt _ (.tuple [.str "error", .str "Conflict", .tuple (bs.map fun b => litD b.1)]) 3 (by decide) ss htt (.tup (.of htt) (.cons (.str _) (.cons (.str _) (.cons (.tup (.of (s2 _ _ ht)) (dp_refs hb2)) .nil)))) (.tup (.of hdv2) (.cons (.str _) (.cons (.str _) (.cons (.tup (.of ht22) ?_) .nil)))) ?_
      · rw [eD]
        exact dp_refs hc22
      · refine Sh.tuple (n := 2) (cons_all (Sh.str (by decide +kernel)) (cons_all (Sh.str (by decide +kernel)) (cons_all (Sh.tuple (n := 1) fun d m => ?_) nil_all)))
        obtain ⟨b, mb, rfl⟩ := List.mem_map.mp m
        exact sh_lit (lits _ (List.mem_map.mpr ⟨b, mb, rfl⟩))
    · exact absurd nc hex
  · have nc' : noConf (clsOf cs) ns := fun x mx y my => nc x ((mem x).mpr mx) y ((mem y).mpr my)
    rcases Du with ⟨nF, _⟩ | ⟨_, c, _⟩ | ⟨_, _, f, hdv, hf⟩
    · exact absurd hF nF
    · exact absurd nc' c
    · have hdv2 := s' _ _ (ext_dK e1 hdv)
      have eW : wordsK (es.map (·.n)) wd = wordsK (es.map (·.n)) f := wordsK_same fun n m => hf gs n (wd n) mem m (hv n m)
      have hp2 : H' p = some (.dK (wordsK (es.map (·.n)) f)) := hp.trans (by rw [← eW]; rfl)
      refine ⟨_, g11 _, _, g5 _, .inl ⟨p, dv, _, _, rfl, rfl, hp2, hdv2, rfl, wordsK_ne, _, rfl, iteF ?_⟩⟩
      refine ⟨_, g11 _, _, _, .type "dict", .type "dict", true, rfl, .ty _, .base (.dK hp2), kit_ty (by decide +kernel), _, rfl, iteT ?_⟩
      refine ⟨_, g11 _, p, _, rfl, .of hp2, fun q1 hq1 => ?_⟩
      rw [wordsK_keys]
      have s3 := same_upd (o := .lst ((es.map (·.n)).map V.str)) hq1
      refine ⟨_, g3 _, g, es, cs, rfl, (G1.same s').same s3, fun H3 nl s4 nn hn => ?_⟩
      have hq2 := s4 _ _ (upd_same (H := H') (a := q1) (o := .lst ((es.map (·.n)).map V.str)))
      have hS : Sh 1 (.list ((es.map (·.n)).map PyData.str)) := Sh.list (n := 0) fun d m => by
        obtain ⟨z, mz, rfl⟩ := List.mem_map.mp m
        exact Sh.str (names_lay _ (nok z mz))
      refine ⟨_, _, .lst (.of hq2) (dp_texts _), .lst (.of hn) (dp_texts _), hS.ok, hS.ok, _, rfl, ifF (by rw [sh_refl hS]; rfl) (next_of ?_)⟩
      exact q _ H3 (e1.trans (LamX.ExtN.of ((s'.trans s3).trans s4))) (Tb1.ext ((s'.trans s3).trans s4))
theorem fresh_take {l : List Str} (nd : l.Nodup) {j : Nat} {n : Str} (h : l[j]? = some n) : n ∉ l.take j := fun m => by
  obtain ⟨i, hi, e⟩ := List.getElem_of_mem m
  rw [List.length_take] at hi
  rw [List.getElem_take] at e
  have e2 : l[i]? = some n := by rw [List.getElem?_eq_getElem (by omega), e]
  have := (List.getElem?_inj (by omega) nd).mp (e2.trans h.symm)
  omega
abbrev s_law : Stmt := (top 62)
abbrev n_law : List Str := ["_law_script", "_law_d", "_law_turn", "_law_grammar_here", "_law_given_here", "_law_due", "_law_some", "_law_one", "_law_name", "_law_count", "_law_word", "_law_found"]
theorem sc_law : FnScope ["_law_script", "_law_d", "_law_turn", "_law_grammar_here", "_law_given_here", "_law_due", "_law_some", "_law_one", "_law_name", "_law_count", "_law_word", "_law_found"] ["_law_script"] (defScope s_law) := ⟨rfl, rfl, rfl, by decide +kernel, rfl, by decide +kernel, by decide +kernel⟩
-- slots: _law_script 0, _law_d 1, _law_turn 2, _law_grammar_here 3, _law_given_here 4, _law_due 5, _law_some 6, _law_one 7, _law_name 8, _law_count 9, _law_word 10, _law_found 11
def spLaw (K : PySem.W.Frag) (Pt : Addr) (q : Str) : Sp := fun vs H Q _ => ∃ (a : Addr) (xs : List Int), vs = [.ref a] ∧ SqL K H a (xs.map V.int) ∧ LamX.Tabs (lawT Pt q) H ∧ ∀ H', Q (.bl true) H'
theorem ok_law {f f1 f2 f3 f4 f5 f6 f7 f8 fT CB c0 c1 c2 c3 c4 c5 c6 cc Pt : Addr} {fd1 fd2 fd3 fd4 fd5 fd6 fd7 fd8 fdT : FuncData} {oc kV doc pm ct : Value} {an od : Option Addr} {osl : Array (Option Value)} (lk : K.lookup f = some ⟨oc, od, .func (PySem.W.fnOf "law" "law" (defArgs s_law) (defBody s_law) (defScope s_law) .none kV doc pm an (.ref cc) ct), osl⟩)
    (hcd : PySem.W.codeIn K (.ref cc) "law" = true) (T : Txt K mg) (TE : ErrS K mg CB c0 c1 c2 c3 c4 c5 c6) (TB : LamX.TabB base mg cc Pt) (FT : FunM K mg "_law_told" s_law_told fT fdT)
    (D_law_dice : Dn P w K mg base CX0 1 "_law_dice" f1 fd1 ["_law_script"] (spDice K)) (D_law_next : Dn P w K mg base CX0 1 "_law_next" f2 fd2 ["_law_dice_here", "_law_many"] (spNext K)) (D_law_grammar : Dn P w K mg base CX0 4 "_law_grammar" f3 fd3 ["_law_d", "_law_most", "_law_clauses_here"] (spLGr K))
    (D_law_given : Dn P w K mg base CX0 3 "_law_given" f4 fd4 ["_law_d", "_law_grammar_here", "_law_most"] (spLGiven K)) (D_law_conflict : Dn P w K mg base CX0 5 "_law_conflict" f5 fd5 ["_law_grammar_here", "_law_given_here"] (spConflict K)) (D_law_sets : Dn P w K mg base CX0 2 "_law_sets" f6 fd6 ["_law_grammar_here"] (spSets K))
    (D_law_names : Dn P w K mg base CX0 1 "_law_names" f7 fd7 ["_law_grammar_here"] spNames) (D_verdicts : Dn P w K mg base (L2.CX P w) 9 "verdicts" f8 fd8 ["grammar", "given"] (spVerdicts K c4 c5)) :
    FnOk P w K mg base CX0 12 f (PySem.W.fnOf "law" "law" (defArgs s_law) (defBody s_law) (defScope s_law) .none kV doc pm an (.ref cc) ct) ["_law_script"] (spLaw K Pt (envOfC "law" (defScope s_law) 0 0 .none).qual) := by
  refine fn_of lk hcd sc_law (fun vs H Q E h => ?_) (fun A outer s H vs Q E hr h => ?_)
  · obtain ⟨_, _, rfl, _⟩ := h
    rfl
  · obtain ⟨sa, xs, rfl, hs, hT, q⟩ := h
    obtain ⟨ocT, odT, kVT, docT, pmT, anT, cdvT, ctT, oslT, rfl, lkT, hcT⟩ := FT.fn.ex
    have bT : Binds K (PySem.W.fnOf "_law_told" "_law_told" (defArgs s_law_told) (defBody s_law_told) (defScope s_law_told) .none kVT docT pmT anT cdvT ctT) ["_law_work"] [] := FT.fn.binds fun _ _ _ _ _ _ us hl => match us, hl with | [_], _ => rfl
    have hu := hu_of hr
    refine ⟨_, PSs.nox ((pss_cons (ps_set (i := 1) sc_law.nd rfl (by first | exact Or.inl rfl | exact Or.inr rfl) (pe_call D_law_dice.ok (hr.mono (by decide)) rfl D_law_dice.mg D_law_dice.kp D_law_dice.bi .nil pass0 (pa_cons (pv 0) pa_nil)))
      (pss_cons (ps_for PassesOwn.never rfl (pi_range1 (by rfl) T.b_range (pa_cons pe_int pa_nil)) (pg_name (i := 2) sc_law.nd rfl (by first | exact Or.inl rfl | exact Or.inr rfl)) (pss_cons (ps_set (i := 3) sc_law.nd rfl (by first | exact Or.inl rfl | exact Or.inr rfl) (pe_call D_law_grammar.ok (hr.mono (by decide)) rfl D_law_grammar.mg D_law_grammar.kp D_law_grammar.bi .nil pass0 (pa_cons (pv 1) (pa_cons pe_int (pa_cons pe_int pa_nil)))))
      (pss_cons (ps_set (i := 4) sc_law.nd rfl (by first | exact Or.inl rfl | exact Or.inr rfl) (pe_call D_law_given.ok (hr.mono (by decide)) rfl D_law_given.mg D_law_given.kp D_law_given.bi .nil pass0 (pa_cons (pv 1) (pa_cons (pv 3) (pa_cons (pe_ix ix_list (pe_lst (pa_cons pe_int (pa_cons pe_int pa_nil))) (pe_call D_law_next.ok (hr.mono (by decide)) rfl D_law_next.mg D_law_next.kp D_law_next.bi .nil pass0 (pa_cons (pv 1) (pa_cons pe_int pa_nil))) (fun _ _ => rfl)) pa_nil)))))
      (pss_cons (ps_set (i := 5) sc_law.nd rfl (by first | exact Or.inl rfl | exact Or.inr rfl) (pe_call D_law_conflict.ok (hr.mono (by decide)) rfl D_law_conflict.mg D_law_conflict.kp D_law_conflict.bi .nil pass0 (pa_cons (pv 3) (pa_cons (pv 4) pa_nil))))
      (pss_cons (ps_if (pt_cmp (pc_isN (pv 5)) (by rfl)) (pss_cons (ps_setLc (i := 6) (own := [("_law_one", 7)]) (by rfl) sc_law.nd rfl rfl (sw_true rfl rfl rfl (by decide +kernel)) (pi_list (pe_call D_law_sets.ok (hr.mono (by decide)) rfl D_law_sets.mg D_law_sets.kp D_law_sets.bi .nil pass0 (pa_cons (pv 3) pa_nil))) (blkOk_by (own := [("_law_one", 7)]) (N := n_law) (sc := defScope s_law) (by decide +kernel)) (fun _ _ _ _ _ => (pg_name (i := 7) sc_law.nd rfl (by first | exact Or.inl rfl | exact Or.inr rfl))) (fun _ _ _ _ _ => pts_one (pt_cmpR (show OpR _ (compareOp .Eq) (rEqD K) from (op_eqD hr.units)) (pe_lc (own := [("_law_name", 8)]) (by rfl) sc_law.nd (show PI _ _ _ (iSeq K _) from pi_seq (pv 4)) (by exact blkOk_by (own := [("_law_name", 8)]) (N := n_law) (sc := { kind := ScopeKind.function, names := [(Str.ofString ".0", NameKind.local), (Str.ofString "_law_one", NameKind.cell), (Str.ofString "_law_given_here", NameKind.cell)], isGenerator := false, isCoroutine := false }) (by decide +kernel)) (fun _ _ _ _ _ => (pg_name (i := 8) sc_law.nd rfl (by first | exact Or.inl rfl | exact Or.inr rfl))) (fun _ _ _ _ _ => pts_one (pt_cmpR (show OpR _ (compareOp .NotIn) (rIn K true) from op_notIn_seq) (pv 8) (pv 7) (by rfl))) (fun _ _ _ _ _ => (pv 8))) (pe_lst pa_nil) (nomark _))) (fun _ _ _ _ _ => (pv 7)))
      (pss_cons (ps_set (i := 5) sc_law.nd rfl (by first | exact Or.inl rfl | exact Or.inr rfl) pe_dnewK)
      (pss_one (ps_for PassesOwn.never rfl (pi_list (pe_call D_law_names.ok (hr.mono (by decide)) rfl D_law_names.mg D_law_names.kp D_law_names.bi .nil pass0 (pa_cons (pv 3) pa_nil))) (pg_name (i := 8) sc_law.nd rfl (by first | exact Or.inl rfl | exact Or.inr rfl)) (pss_cons (ps_set (i := 9) sc_law.nd rfl (by first | exact Or.inl rfl | exact Or.inr rfl) (pe_callB call_len_seq (by rfl) T.b_len (by decide +kernel) (pa_cons (pe_lc (own := [("_law_one", 7)]) (by rfl) sc_law.nd (pi_list (pv 6)) (blkOk_by (own := [("_law_one", 7)]) (N := n_law) (sc := defScope s_law) (by decide +kernel)) (fun _ _ _ _ _ => (pg_name (i := 7) sc_law.nd rfl (by first | exact Or.inl rfl | exact Or.inr rfl))) (fun _ _ _ _ _ => pts_one (pt_cmpR (show OpR _ (compareOp .In) (rIn K false) from op_in_seq) (pv 8) (pv 7) (by rfl))) (fun _ _ _ _ _ => (pv 7))) pa_nil)))
      (pss_cons (ps_set (i := 10) sc_law.nd rfl (by first | exact Or.inl rfl | exact Or.inr rfl) (pe_ifExp (pt_cmpR op_eq (pv 9) (pe_callB call_len_seq (by rfl) T.b_len (by decide +kernel) (pa_cons (pv 6) pa_nil)) (nomark _)) pe_str (pe_ifExp (pt_cmpR op_eq (pv 9) pe_int (nomark _)) pe_str pe_str)))
      (pss_one (ps_dput hu (pv 5) (pv 8) (pe_ifExp (pt_cmpR op_in_seq (pv 8) (pv 4) (by rfl)) pe_str (pv 10)) rfl)))))))) pss_nil)
      (pss_cons (ps_set (i := 11) sc_law.nd rfl (by first | exact Or.inl rfl | exact Or.inr rfl) (LamX.pe_lamcall (T := lawT Pt _) (c := cc) (P := Pt) (k := 9) (t := fun E => tCall (spVerdicts K c4 c5) [] E (tCons (tVar 3) (tCons (tVar 4) tNil))) (by rfl) FT.mg FT.fn.kp lkT hcT bT sc_law_told rfl (.inl rfl) (told_ok T TE) TB rfl (List.mem_singleton.mpr rfl) (fun p hp _ => by rw [List.mem_singleton.mp hp]) (hr.mono (by decide)) (show LamX.LamS (defScope s_law) _ from LamX.lamS_by (by decide +kernel)) rfl (fun _ _ _ _ _ => rfl) (fun A outer s H E f c' hr2 => pe_call D_verdicts.ok (hr2.mono (by decide)) rfl D_verdicts.mg D_verdicts.kp D_verdicts.bi .nil (passes_call (takes_of rfl rfl rfl rfl) (fun _ _ _ _ h => h)) (pa_cons (pv 3) (pa_cons (pv 4) pa_nil)))))
      (pss_one (ps_if (PW.pt (pw_or (pt_cmpR ((op_ne_dictA hr.units0).or (op_neD hr.units)) (pv 11) (pv 5) (nomark _)) (pw_or1 (PW.pt (pw_and (pt_val (pe_callB call_isi (by rfl) T.b_isinstance (by decide +kernel) (pa_cons (pv 11) (pa_cons (pe_bltn (v := .ty "dict") (by rfl) T.b_dict (by decide +kernel) rfl) pa_nil)))) (pw_and1 (pt_cmpR (op_neD hr.units) (pe_callTy (call_listD rfl) (by rfl) T.b_list (by decide +kernel) (pa_cons (pv 11) pa_nil)) (pe_call D_law_names.ok (hr.mono (by decide)) rfl D_law_names.mg D_law_names.kp D_law_names.bi .nil pass0 (pa_cons (pv 3) pa_nil)) (nomark _)))))))) (pss_one (ps_ret pe_bl)) pss_nil))))))))
      (pss_one (ps_ret pe_bl))))), ?_⟩
    refine ⟨_, rfl, sa, xs, rfl, hs, fun H1 d s1 nd d1 => ?_⟩
    have t1 := hT.ext s1
    refine ⟨5, rfl, by decide, by decide, ?_⟩
    refine for_range (lo := 0) (n := 5) (fun i σ H' => (∃ v2 v3 v4 v5 v6 v7 v8 v9 v10 v11 : Option V, σ = [some (.ref sa), some (.ref d), v2, v3, v4, v5, v6, v7, v8, v9, v10, v11]) ∧ DiceAt K (sa, xs) H' d ∧ LamX.Tabs (lawT Pt (envOfC "law" (defScope s_law) 0 0 .none).qual) H') ⟨⟨_, _, _, _, _, _, _, _, _, _, rfl⟩, d1, t1⟩ ?_ ?_
    · rintro i σ H2 hi ⟨⟨v2, v3, v4, v5, v6, v7, v8, v9, v10, v11, rfl⟩, d2, t2⟩
      refine ⟨_, rfl, (sa, xs), d, 7, 9, rfl, d2, by decide, by decide, by decide, by decide, fun H3 g es cs x3 d3 G3 => ?_⟩
      obtain ⟨l2, hl2⟩ := d2.lst
      have t3 := tabs_x x3 hl2 t2
      refine ⟨_, rfl, _, rfl, sz2, fun lp hlp => ?_⟩
      have s4 := same_upd (o := .lst [.int 3, .int 9]) hlp
      have d4 := d3.same s4
      obtain ⟨l4, hl4⟩ := d4.lst
      have lpd : lp ≠ d := by
        obtain ⟨l3, hl3⟩ := d3.lst
        exact Ne.symm (ne_of_none hl3 hlp)
      refine ⟨_, rfl, (sa, xs), d, 2, rfl, d4, by decide, by decide, fun H5 r x5 d5 r0 r1 => ?_⟩
      obtain ⟨mv, hmv, m0, m9⟩ : ∃ mv : Int, atI [V.int 3, V.int 9] r = some (.int mv) ∧ 0 ≤ mv ∧ mv ≤ 9 := by
        obtain rfl | rfl : r = 0 ∨ r = 1 := by omega
        · exact ⟨3, rfl, by decide, by decide⟩
        · exact ⟨9, rfl, by decide, by decide⟩
      refine ⟨lp, _, r, _, rfl, rfl, .inl (.inl (x5 _ _ lpd upd_same)), hmv, ?_⟩
      have G5 : GrAt H5 g es cs := (G3.same s4).keep fun b ys h => d4.tup x5 h
      have t5 := tabs_x x5 hl4 (t3.ext s4)
      refine ⟨(sa, xs), d, g, es, cs, mv, rfl, d5, G5, m0, m9, fun H6 a ns x6 d6 hq6 had hex6 hn n9 => ?_⟩
      obtain ⟨l5, hl5⟩ := d5.lst
      have G6 : GrAt H6 g es cs := G5.keep fun b ys h => d5.tup x6 h
      have t6 := tabs_x x6 hl5 t5
      have hw : ∀ c ∈ cs, c.w ∈ clWords := fun c m => (G6.cw c m).1
      have ho : ∀ c ∈ cs, c.a ∈ es.map (·.n) ∧ c.b ∈ es.map (·.n) := fun c m => (G6.cw c m).2
      have nok : ∀ n ∈ es.map (·.n), n ∈ okNames := fun n m => by
        obtain ⟨e, me, rfl⟩ := List.mem_map.mp m
        exact (G6.os e me).nm
      have GV6 : Given K H6 g a es cs ns := ⟨G6, hq6, hn, by omega⟩
      refine ⟨_, rfl, _, rfl, g, a, es, cs, ns, rfl, G6, hq6, hn, n9, fun H7 t s7 nF ht => ?_, fun H7 s7 hF nc => ?_, fun H7 t tc bs s7 hF nc ht htc hb hB => ?_⟩
      · refine ⟨_, rfl, _, rfl, ifF (decide_eq_false nofun) (next_of ?_)⟩
        exact tail_ok rfl rfl rfl rfl (GV6.same s7) (t6.ext s7) (.inl ⟨nF, ht⟩) fun u H' e t' => ⟨⟨_, _, _, _, _, _, _, _, _, _, rfl⟩, (d6.same s7).ext e, t'⟩
      · refine ⟨_, rfl, _, rfl, iteT ?_⟩
        have G7 := G6.same s7
        refine sel_ok (g := 3) (a := 4) (b := 7) (c := 8) (σ := [some (.ref sa), some (.ref d), some (.int (0 + (i : Nat))), some (.ref g), some (.ref a), some .non, v6, v7, v8, v9, v10, v11]) (ga := a) (gg := g) (es := es) (cs := cs) (ns := ns) rfl rfl (by show 7 < 12; decide) (by show 8 < 12; decide) (by decide) (by decide) (by decide) G7 (hq6.same s7) (fun n m => nok n (hn n m)) (by omega) fun H8 D rs s8 hD hrs SO l128 => ?_
        refine fun du hdu => ?_
        have s9 := same_upd (o := .dK []) hdu
        refine ⟨_, rfl, g, es, cs, rfl, (G7.same s8).same s9, fun H10 nl s10 nn hnl => ⟨nl, rfl, ⟨_, .of hnl⟩, ?_⟩⟩
        have ndu : nl ≠ du := fun z => by rw [z, upd_same] at nn; cases nn
        have hdu10 := s10 _ _ (upd_same (H := H8) (a := du) (o := .dK []))
        have lsel : (rs.filter (selB ns)).length ≤ 128 := Nat.le_trans (List.length_filter_le _ _) l128
        have nmd : (es.map (·.n)).Nodup := G6.oo.nd
        have nm7 : (es.map (·.n)).length ≤ 7 := by rw [List.length_map]; exact G6.oo.most
        refine for_list (K := K) (a := nl) (xs := (es.map (·.n)).map V.str) (fun i σ H' => (∃ v2 v7 v8 v9 v10 v11 : Option V, σ = [some (.ref sa), some (.ref d), v2, some (.ref g), some (.ref a), some (.ref du), some (.ref D), v7, v8, v9, v10, v11]) ∧ Same H8 H' ∧ H' du = some (.dK (wordsK ((es.map (·.n)).take i) (dueW ns (rs.filter (selB ns))))) ∧ H' nl = some (.lst ((es.map (·.n)).map V.str)))
          ⟨⟨_, _, _, _, _, _, rfl⟩, s9.trans s10, hdu10, hnl⟩ (fun i σ H' _ ⟨_, _, _, h⟩ => .of h) ?_ ?_
        · rintro j y σ H' hy ⟨⟨w2, w7, w8, w9, w10, w11, rfl⟩, sS, hdu', hnl'⟩
          obtain ⟨n, hj, rfl⟩ := map_get hy
          have jl := lt_of_get hj
          have mn := mem_of_get hj
          have hD' := sS _ _ hD
          refine ⟨_, rfl, D, rfl, ⟨_, .of hD'⟩, fun L hL => ?_⟩
          refine lc_list (K := K) (a := D) (xs := (rs.filter (selB ns)).map fun r => V.ref r.2) (fun k H'' => Same H' H'' ∧ H'' L = some (.lst ((((rs.filter (selB ns)).take k).filter fun r => decide (n ∈ r.1)).map fun r => V.ref r.2))) ⟨same_upd hL, upd_same⟩ (fun k H'' _ ⟨s, _⟩ => .of (s _ _ hD')) ?_ ?_
          · rintro k y H'' hy ⟨s2, h2⟩
            obtain ⟨r, hk, rfl⟩ := map_get hy
            have kl := lt_of_get hk
            have hr2 := s2 _ _ (sS _ _ (hrs r (List.mem_filter.mp (mem_of_get hk)).1))
            refine ⟨rfl, _, rfl, _, rfl, r.2, _, rfl, .inl (.of hr2), rfl, flat_strs _, _, rfl, ?_⟩
            show if inV (V.str n) (r.1.map V.str) = true then _ else _
            rw [inV_str]
            refine ifB (fun e => ?_) (fun e => ?_)
            · refine ⟨_, rfl, _, h2, sz _ ?_, same_put s2 hL, ?_⟩
              · rw [List.length_map]
                have := List.length_filter_le (fun r : SE => decide (n ∈ r.1)) ((rs.filter (selB ns)).take k)
                rw [List.length_take] at this
                omega
              · rw [upd_same, take_more hk, List.filter_append]
                have : [r].filter (fun r : SE => decide (n ∈ r.1)) = [r] := by
                  simp only [List.filter_cons, List.filter_nil]
                  rw [if_pos e]
                rw [this, List.map_append]
                rfl
            · refine ⟨s2, ?_⟩
              rw [h2, take_more hk, List.filter_append]
              have : [r].filter (fun r : SE => decide (n ∈ r.1)) = [] := by
                simp only [List.filter_cons, List.filter_nil]
                rw [if_neg (by rw [e]; exact Bool.false_ne_true)]
              rw [this, List.append_nil]
          · rintro H'' ⟨s2, h2⟩
            rw [List.length_map, List.take_length] at h2
            refine ⟨L, _, rfl, .inl (.of h2), ?_⟩
            rw [List.length_map]
            refine ⟨_, rfl, _, rfl, D, _, rfl, .inl (.of (s2 _ _ hD')), rfl, _, rfl, ?_⟩
            rw [List.length_map, dec_int]
            have fin : ∀ wd : Str, (n ∉ ns → wd = dueW ns (rs.filter (selB ns)) n) → ∀ (D' : Ends) (u9 : Option V), (∀ σ' H3, (∃ v2 v7 v8 v9 v10 v11 : Option V, σ' = [some (.ref sa), some (.ref d), v2, some (.ref g), some (.ref a), some (.ref du), some (.ref D), v7, v8, v9, v10, v11]) ∧ Same H8 H3 ∧ H3 du = some (.dK (wordsK ((es.map (·.n)).take (j + 1)) (dueW ns (rs.filter (selB ns))))) ∧ H3 nl = some (.lst ((es.map (·.n)).map V.str)) → D'.nx σ' H3) →
                sDPut (tVar 5) (tVar 8) (tIf (tTest (tOp (rIn K false) (tVar 8) (tVar 4))) (tC (.str "given")) (tVar 10)) D' [some (.ref sa), some (.ref d), w2, some (.ref g), some (.ref a), some (.ref du), some (.ref D), w7, some (.str n), u9, some (.str wd), w11] H'' := by
              intro wd hwd D' u9 hD'
              have hput : ∀ v : Str, v = dueW ns (rs.filter (selB ns)) n → D'.nx [some (.ref sa), some (.ref d), w2, some (.ref g), some (.ref a), some (.ref du), some (.ref D), w7, some (.str n), u9, some (.str wd), w11] (upd H'' du (.dK (putK (wordsK ((es.map (·.n)).take j) (dueW ns (rs.filter (selB ns)))) (Sum.inr n : Key) (.str v)))) := by
                rintro v rfl
                refine hD' _ _ ⟨⟨_, _, _, _, _, _, rfl⟩, same_put (sS.trans s2) hdu, ?_, ?_⟩
                · rw [upd_same, wordsK_put ?_, take_more hj]
                  exact fresh_take nmd hj
                · rw [upd_ne ndu]
                  exact s2 _ _ hnl'
              have hlen : (wordsK ((es.map (·.n)).take j) (dueW ns (rs.filter (selB ns)))).length < sizeLine := sz _ (by
                unfold wordsK
                rw [List.length_map, List.length_take]
                omega)
              refine ⟨_, rfl, _, rfl, a, _, rfl, ((hq6.same s7).same s8).same (sS.trans s2), rfl, flat_strs _, _, rfl, ?_⟩
              show if inV (V.str n) (ns.map V.str) = true then _ else _
              rw [inV_str]
              refine ifB (fun e => ?_) (fun e => ?_)
              · exact ⟨_, rfl, _, rfl, du, _, rfl, DPut.k (k := Sum.inr n) (s2 _ _ hdu') hlen, hput _ (by unfold dueW; rw [if_pos (of_decide_eq_true e)])⟩
              · exact ⟨_, rfl, _, rfl, _, rfl, du, _, rfl, DPut.k (k := Sum.inr n) (s2 _ _ hdu') hlen, hput _ (hwd (of_decide_eq_false e))⟩
            refine ifB (fun e => ?_) (fun e => ?_)
            · have e' : ((rs.filter (selB ns)).filter fun r => decide (n ∈ r.1)).length = (rs.filter (selB ns)).length := Int.ofNat_inj.mp (eq_of_beq e)
              refine fin _ (fun h => ?_) _ _ fun σ' H3 h => h
              unfold dueW
              rw [if_neg h, if_pos e']
            · have e' : ((rs.filter (selB ns)).filter fun r => decide (n ∈ r.1)).length ≠ (rs.filter (selB ns)).length := fun z => by rw [z, beq_self_eq_true] at e; cases e
              refine ⟨_, rfl, rfl, _, rfl, ?_⟩
              rw [dec_int]
              refine ifB (fun e2 => ?_) (fun e2 => ?_)
              · have e3 : ((rs.filter (selB ns)).filter fun r => decide (n ∈ r.1)).length = 0 := Int.ofNat_inj.mp (eq_of_beq e2)
                refine fin _ (fun h => ?_) _ _ fun σ' H3 h => h
                unfold dueW
                rw [if_neg h, if_neg e', if_pos e3]
              · have e3 : ((rs.filter (selB ns)).filter fun r => decide (n ∈ r.1)).length ≠ 0 := fun z => by rw [z] at e2; cases e2
                refine fin _ (fun h => ?_) _ _ fun σ' H3 h => h
                unfold dueW
                rw [if_neg h, if_neg e', if_neg e3]
        · rintro σ H' ⟨⟨w2, w7, w8, w9, w10, w11, rfl⟩, sS, hdu', hnl'⟩
          rw [List.length_map, List.take_length] at hdu'
          have ss := s8.trans sS
          have s78 := s7.trans ss
          refine tail_ok rfl rfl rfl rfl (GV6.same s78) (t6.ext s78) (.inr (.inr ⟨hF, nc, _, hdu', fun gs m wd mem mm hv => ?_⟩)) fun u H'' e t' => ⟨⟨_, _, _, _, _, _, _, _, _, _, rfl⟩, (d6.same s78).ext e, t'⟩
          exact word_eq hw ho SO hF hn nc mem mm hv
      · refine ⟨_, rfl, _, rfl, ifF (decide_eq_false nofun) (next_of ?_)⟩
        exact tail_ok rfl rfl rfl rfl (GV6.same s7) (t6.ext s7) (.inr (.inl ⟨hF, nc, tc, bs, ht, htc, hb, hB⟩)) fun u H' e t' => ⟨⟨_, _, _, _, _, _, _, _, _, _, rfl⟩, (d6.same s7).ext e, t'⟩
    · rintro σ H' _
      exact q H'
end
end Fk
/-! The head's facts, as Bools of the written part. -/
namespace Fk
open PySem PySem.Spec PyProof.Rows L2
abbrev RowF : PySem.W.OpenRow := PySem.W.OpenLaw.row PySem.Challenge.rw_flagclause_k04_whole_verdicts
def fdM (x : Str) (i : Nat) : He.DefD := ⟨(x, none), x, x, defArgs (top i), defBody (top i), defScope (top i), [], []⟩
def fdC (c m q : Str) (i j : Nat) : He.DefD := ⟨(c, some m), m, q, defArgs (inClass (top i) j), defBody (inClass (top i) j), defScope (inClass (top i) j), [], []⟩
def fnA : List He.DefD := [fdM "is_integer" 21, fdM "is_name" 22, fdM "is_short_name" 23, fdM "is_choice_word" 24, fdM "is_kind" 25, fdM "is_option" 26, fdM "check_options" 27, fdM "is_clause" 28, fdM "check_grammar" 29, fdM "names_of" 30, fdM "check_names" 31, fdM "negate" 33, fdM "literals_of" 34,
  fdM "graph_of" 36, fdM "find_contradiction" 38, fdM "check_satisfiable" 39, fdM "conflict_chain" 41, fdM "completion_of" 43, fdM "verdicts" 44]
def fnB : List He.DefD := [fdM "_law_dice" 46, fdM "_law_next" 47, fdM "_law_pick" 48, fdM "_law_told" 49, fdM "_law_kind" 50, fdM "_law_clauses" 51, fdM "_law_grammar" 52, fdM "_law_names" 53, fdM "_law_both" 54, fdM "_law_fits" 55, fdM "_law_sets" 56, fdM "_law_steps" 57, fdM "_law_chains" 58, fdM "_law_best" 59, fdM "_law_given" 60,
  fdM "_law_conflict" 61, fdM "law" 62]
def fnC : List He.DefD := [fdC "ImplicationGraph" "__init__" "ImplicationGraph.__init__" 35 0, fdC "ImplicationGraph" "distances_to" "ImplicationGraph.distances_to" 35 2, fdC "ImplicationGraph" "shortest_chain" "ImplicationGraph.shortest_chain" 35 3, fdC "ImplicationGraph" "best_chain" "ImplicationGraph.best_chain" 35 4,
  fdC "Completion" "__init__" "Completion.__init__" 42 0, fdC "Completion" "chain_for" "Completion.chain_for" 42 1, fdC "Completion" "verdict" "Completion.verdict" 42 2, fdC "Conflict" "__init__" "Conflict.__init__" 8 0]
def fnF : List He.DefD := fnA ++ (fnB ++ fnC)
/-- the names that stand for an object -/
def gloN : List Str := ["FlagclauseError", "InvalidGrammar", "UnknownOption", "InvalidClause", "InvalidChain", "Unsatisfiable", "Conflict", "DifferentOptions", "CLAUSE_WORDS", "ImplicationGraph", "Completion"]
def freeN : List Str := ["len", "isinstance", "all", "sorted", "set", "tuple", "list", "dict", "int", "str", "bool", "enumerate", "range", "ValueError"]
def intN : List (Str × Int) := [("MAX_NAME_LENGTH", 12), ("MAX_OPTIONS", 12), ("MAX_CLAUSES", 60), ("MAX_POSITIONALS", 9), ("MAX_INTEGER", 9999), ("MAX_CHOICES", 8), ("MAX_WORD_LENGTH", 12)]
def faF : List He.Fa := (fnA ++ fnB).map (fun d => .glo d.at_.1) ++ (gloN.map .glo ++ (freeN.map .free ++ (intN.map (fun p => .int p.1 p.2) ++ [.str "LETTERS" sLetters, .str "HYPHEN" "-", .cls "ImplicationGraph", .cls "Completion", .noat "ImplicationGraph" "successors", .noat "Completion" "graph", .noat "Completion" "given",
  .meth "ImplicationGraph" "distances_to", .meth "ImplicationGraph" "shortest_chain", .meth "ImplicationGraph" "best_chain", .meth "Completion" "chain_for", .meth "Completion" "verdict", .mkr "ImplicationGraph", .mkr "Completion"])))
/-! ### further facts -/
def oexB (K : PySem.W.Frag) (C : Addr) : Bool := match K.lookup C with
  | some ⟨.type t, _, .cls ⟨_, _, .ref C' :: bm, _, _, true, _, _, _, _, false⟩, sl⟩ => decide (t = "type") && (decide (C' = C) && (PySem.HandSPX.refsVE bm && (match sl.toList with
    | [_, _, _, _, some (.builtin n), _] => decide (n = "ValueError.__new__")
    | _ => false)))
  | _ => false
theorem oexB_ok {K : PySem.W.Frag} {C : Addr} (h : oexB K C = true) : ∃ nm q N bs bm sn sub ab col dd k0 k1 k2 k3 k5, K.lookup C = some (excClassObj nm q C N bs bm true sn sub ab col dd k0 k1 k2 k3 k5 "ValueError.__new__") ∧ PySem.HandSPX.refsVE bm = true := by
  unfold oexB at h
  split at h
  · rename_i t dd nm bs C' bm ns qn sn sub ab col sl lk
    obtain ⟨h1, h2⟩ := He.ba h
    obtain ⟨h3, h4⟩ := He.ba h2
    obtain ⟨h5, h6⟩ := He.ba h4
    have e1 := of_decide_eq_true h1
    have e2 := of_decide_eq_true h3
    subst e1 e2
    split at h6
    · rename_i k0 k1 k2 k3 n k5 hs
      have e3 := of_decide_eq_true h6
      subst e3
      have hsl : sl = #[k0, k1, k2, k3, some (.builtin "ValueError.__new__"), k5] := by
        obtain ⟨l⟩ := sl
        simp only at hs
        rw [hs]
      subst hsl
      exact ⟨nm, qn, ns, bs, bm, sn, sub, ab, col, dd, k0, k1, k2, k3, k5, lk, h5⟩
    · cases h6
  · cases h
def fclsB (K : PySem.W.Frag) (C : Addr) : Bool := match PySem.W.findCls K (.ref C) (.type "type") "__init__" with
  | some (.val (.builtin n)) => decide (n = "ValueError.__init__")
  | _ => false
theorem fclsB_ok {K : PySem.W.Frag} {C : Addr} (h : fclsB K C = true) : PySem.W.findCls K (.ref C) (.type "type") "__init__" = some (.val (.builtin "ValueError.__init__")) := by
  unfold fclsB at h
  split at h
  · rename_i n e
    rw [e, of_decide_eq_true h]
  · cases h
def excL (K : PySem.W.Frag) (D : Addr) : List Bool := [
  He.eqO (PySem.W.findIn K (.ref D) "__getattribute__") (some (some (.builtin "BaseException.__getattribute__"))), He.eqO (PySem.W.findIn K (.ref D) "__getattr__") (some none), decide (PySem.W.subIn K (.ref D) (.type "BaseException") = some true), PySem.W.hasDictIn K D,
  He.eqO (PySem.W.findIn K (.ref D) "__class__") (some (some (.builtin "object.__class__"))), He.eqO (PySem.W.specialIn K (.builtin "object.__class__") "__get__") (some (some (.builtin "getset_descriptor.__get__"))), decide (PySem.W.takesIn K (.builtin "object.__class__") = some true), decide (PySem.W.mroIn K D (.type "object") = some true)]
def kitL (K : PySem.W.Frag) (D : Addr) : List (Option Bool) := (["InvalidGrammar", "UnknownOption", "InvalidClause", "InvalidChain", "Unsatisfiable", "Conflict", "DifferentOptions"] : List Str).map fun x => PySem.W.kitOne K (.ref D) (.ref (He.ga K x))
def exL (K : PySem.W.Frag) : List Bool := [
  He.tupB K "CLAUSE_WORDS" [.str "needs", .str "excludes", .str "either"],
  PySem.W.excIn K (He.ga K "Unsatisfiable") [.type "ValueError", .type "Exception", .type "BaseException", .type "object"] "ValueError.__new__",
  PySem.W.keepIn K (.ref (He.ga K "Unsatisfiable")),
  decide (PySem.W.subIn K (.ref (He.ga K "Unsatisfiable")) (.type "BaseException") = some true),
  decide (PySem.W.typeIn K (.ref (He.ga K "Unsatisfiable")) = some (.type "type")),
  He.eqO (PySem.W.specialIn K (.ref (He.ga K "FlagclauseError")) "__getattribute__") (some (some (.builtin "type.__getattribute__"))),
  PySem.W.readsIn K (He.ga K "FlagclauseError") (.type "type"),
  fclsB K (He.ga K "FlagclauseError"),
  oexB K (He.ga K "Conflict"),
  He.eqO (PySem.W.findIn K (.ref (He.ga K "Conflict")) "__setattr__") (some (some (.builtin "object.__setattr__"))),
  decide (PySem.W.subIn K (.ref (He.ga K "Conflict")) (.type "BaseException") = some true),
  decide (PySem.W.typeIn K (.ref (He.ga K "Conflict")) = some (.type "type")),
  PySem.W.keepIn K (.ref (He.ga K "Conflict")),
  He.eqO (PySem.W.findIn K (.ref (He.ga K "Conflict")) "chain") (some none),
  He.eqO (PySem.W.findIn K (.ref (He.ga K "Conflict")) "__init__") (some (some (.ref (He.ma K (He.ga K "Conflict") "__init__")))),
  decide (PySem.W.typeIn K (.ref (He.ma K (He.ga K "Conflict") "__init__")) = some (.type "function")),
  (excL K (He.ga K "Unsatisfiable")).all id,
  (excL K (He.ga K "Conflict")).all id,
  decide (PySem.W.exmOne K (.ref (He.ga K "Unsatisfiable")) (.ref (He.ga K "FlagclauseError")) = some true),
  decide (PySem.W.exmOne K (.ref (He.ga K "Conflict")) (.ref (He.ga K "FlagclauseError")) = some true),
  decide (kitL K (He.ga K "Unsatisfiable") = [some false, some false, some false, some false, some true, some false, some false]),
  decide (PySem.W.kitOne K (.ref (He.ga K "Unsatisfiable")) (.type "ValueError") = some true),
  decide (kitL K (He.ga K "Conflict") = [some false, some false, some false, some false, some false, some true, some false]),
  decide (PySem.W.kitOne K (.ref (He.ga K "Conflict")) (.type "ValueError") = some true),
  xfB K (He.ga K "Conflict")]
def exB (K : PySem.W.Frag) : Bool := (exL K).all id
/-! ### the Hook -/
abbrev pLaw : He.Defn := ("law", none)
def asF (g : Addr → Option Obj) : List Addr := cStatics :: He.asD g 5
abbrev kF (g : Addr → Option Obj) : PySem.W.Frag := He.frT g (asF g)
/-- what is told of the written part K at the heap h -/
structure SaysF (h : Heap) (K : PySem.W.Frag) : Prop where
  d : He.SaysD faF fnF K
  more : exB K = true
  hd : PySem.W.codeHdIn K (He.cT K pLaw).1 (He.cT K pLaw).2 = true
  out : K.lookup (He.cT K pLaw).2 = none
  empty : h.get? (He.cT K pLaw).2 = some { cls := .none, data := .fields #[] }
def tabF (g : Addr → Option Obj) (K : PySem.W.Frag) : Bool := PySem.W.codeHdIn K (He.cT K pLaw).1 (He.cT K pLaw).2 && (match g (He.cT K pLaw).2 with
  | some o => He.emptyTab o
  | none => false)
def obsF (g : Addr → Option Obj) : He.AlD × Bool := (He.obsD faF fnF (kF g), exB (kF g) && tabF g (kF g))
theorem saysF_of {h : Heap} (e : obsF h.get? = (He.valD fnF, true)) : SaysF h (kF h.get?) := by
  have e1 : He.obsD faF fnF (kF h.get?) = He.valD fnF := congrArg (fun z : He.AlD × Bool => z.1) e
  have e2 : (exB (kF h.get?) && tabF h.get? (kF h.get?)) = true := congrArg (fun z : He.AlD × Bool => z.2) e
  obtain ⟨h1, h2⟩ := He.ba e2
  obtain ⟨h3, h4⟩ := He.ba h2
  cases q : h.get? (He.cT (kF h.get?) pLaw).2 with
  | none => rw [q] at h4; cases h4
  | some o =>
    rw [q] at h4
    exact ⟨e1, h1, h3, He.frT_none q h4, by rw [q, He.emptyTab_eq h4]⟩
def hookF : PySem.W.Hook where
  α := He.AlD × Bool
  obs := fun s => obsF s.heap.get?
  val := fun _ => (He.valD fnF, true)
  says := fun _ h => ∃ K : PySem.W.Frag, K.In h ∧ SaysF h K
  of := fun _ _ e => ⟨_, He.frT_in, saysF_of e⟩
  keeps := fun _ _ _ ⟨K, hK, c⟩ k => ⟨K, PySem.W.Frag.In.keeps hK k, ⟨c.d, c.more, c.hd, c.out, k _ _ c.empty⟩⟩
def obF (s : PySem.W.SharedT) : He.AlD × Bool := obsF (HandSHeadRun.getT s)
theorem obF_eq (s : PySem.W.SharedT) : obF s = hookF.obs s.abs := by
  have e : HandSHeadRun.getT s = s.abs.heap.get? := funext (HandSHeadRun.getT_eq s)
  show obsF (HandSHeadRun.getT s) = obsF s.abs.heap.get?
  rw [e]
end Fk
/-! The head's run. -/
namespace Fk
open PySem PySem.Spec PyProof.Rows L2
def loA : List Str := ["_wall", "FlagclauseError", "InvalidGrammar", "UnknownOption", "InvalidClause", "InvalidChain", "Unsatisfiable", "Conflict", "DifferentOptions", "LETTERS", "HYPHEN", "MAX_NAME_LENGTH", "MAX_OPTIONS", "MAX_CLAUSES", "MAX_POSITIONALS", "MAX_INTEGER", "MAX_CHOICES", "MAX_WORD_LENGTH", "CLAUSE_WORDS"]
def loB : List Str := ["is_integer", "is_name", "is_short_name", "is_choice_word", "is_kind", "is_option", "check_options", "is_clause", "check_grammar", "names_of", "check_names", "negate", "literals_of", "ImplicationGraph", "graph_of", "find_contradiction", "check_satisfiable", "conflict_chain", "Completion", "completion_of", "verdicts"]
def loC : List Str := ["_law_dice", "_law_next", "_law_pick", "_law_told", "_law_kind", "_law_clauses", "_law_grammar", "_law_names", "_law_both", "_law_fits", "_law_sets", "_law_steps", "_law_chains", "_law_best", "_law_given", "_law_conflict"]
def loF : List Str := loA ++ (loB ++ loC)
set_option maxHeartbeats 0 in
theorem runF (w : World) : HandSHeadRun.RunEq RowF (PySem.W.view RowF.prog [62]) hookF obF 4000 loF w := by
  intro os
  kernel_rfl
end Fk
/-! All defs together. -/
namespace Fk
open PySem PySem.Spec PyProof.Rows L2
theorem fun_ofD {K : PySem.W.Frag} {x q : Str} {st : Stmt} {f : Addr} {fd : FuncData} (F : FunD K x q (defArgs st) (defBody st) (defScope st) [] [] f fd) : Fun K x q st f fd := by
  obtain ⟨⟨oc, od, dV, kV, doc, pm, an, cdv, ct, osl, e, lk, hcd, hd, _⟩, kp⟩ := F
  have e0 : dV = .none := by
    rcases hd with h | h
    · exact h.2
    · exact absurd rfl h.1
  subst e0
  exact ⟨⟨oc, od, kV, doc, pm, an, cdv, ct, osl, e, lk, hcd⟩, kp⟩
section
variable {K : PySem.W.Frag} {h : Heap} {mg : Str → Option Value}
theorem fm_at (KX : K.In h) (G : h.Ns mainGlobals mg) (c : SaysF h K) (i : Nat) {x : Str} {j : Nat} (e1 : fnF[i]? = some (fdM x j)) (e2 : faF[i]? = some (.glo x)) : ∃ fd, FunM K mg x (top j) (He.ga K x) fd := by
  obtain ⟨fd, F⟩ := c.d.def_ i e1
  exact ⟨fd, fun_ofD F, He.glo_ok KX G (c.d.fact i e2)⟩
theorem fc_at (c : SaysF h K) (i : Nat) {cl m q : Str} {j k : Nat} (e1 : fnF[i]? = some (fdC cl m q j k)) : ∃ fd, Fun K m q (inClass (top j) k) (He.ma K (He.ga K cl) m) fd := by
  obtain ⟨fd, F⟩ := c.d.def_ i e1
  exact ⟨fd, fun_ofD F⟩
theorem ex_at {K : PySem.W.Frag} (c : exB K = true) (i : Nat) {b : Bool} (e : (exL K)[i]? = some b) : b = true := List.all_eq_true.mp c b (List.mem_of_getElem? e)
theorem txt_of (KX : K.In h) (G : h.Ns mainGlobals mg) (c : SaysF h K) : Txt K mg where
  b_len := He.free_ok KX G (c.d.fact 47 (f := .free "len") rfl)
  b_isinstance := He.free_ok KX G (c.d.fact 48 (f := .free "isinstance") rfl)
  b_all := He.free_ok KX G (c.d.fact 49 (f := .free "all") rfl)
  b_sorted := He.free_ok KX G (c.d.fact 50 (f := .free "sorted") rfl)
  b_set := He.free_ok KX G (c.d.fact 51 (f := .free "set") rfl)
  b_tuple := He.free_ok KX G (c.d.fact 52 (f := .free "tuple") rfl)
  b_list := He.free_ok KX G (c.d.fact 53 (f := .free "list") rfl)
  b_dict := He.free_ok KX G (c.d.fact 54 (f := .free "dict") rfl)
  b_int := He.free_ok KX G (c.d.fact 55 (f := .free "int") rfl)
  b_str := He.free_ok KX G (c.d.fact 56 (f := .free "str") rfl)
  b_bool := He.free_ok KX G (c.d.fact 57 (f := .free "bool") rfl)
  b_enumerate := He.free_ok KX G (c.d.fact 58 (f := .free "enumerate") rfl)
  b_range := He.free_ok KX G (c.d.fact 59 (f := .free "range") rfl)
  b_ValueError := He.free_ok KX G (c.d.fact 60 (f := .free "ValueError") rfl)
  c_LETTERS := He.str_ok KX G (c.d.fact 68 (f := .str "LETTERS" sLetters) rfl)
  c_HYPHEN := He.str_ok KX G (c.d.fact 69 (f := .str "HYPHEN" "-") rfl)
  c_MAX_NAME_LENGTH := He.int_ok KX G (c.d.fact 61 (f := .int "MAX_NAME_LENGTH" 12) rfl)
  c_MAX_OPTIONS := He.int_ok KX G (c.d.fact 62 (f := .int "MAX_OPTIONS" 12) rfl)
  c_MAX_CLAUSES := He.int_ok KX G (c.d.fact 63 (f := .int "MAX_CLAUSES" 60) rfl)
  c_MAX_POSITIONALS := He.int_ok KX G (c.d.fact 64 (f := .int "MAX_POSITIONALS" 9) rfl)
  c_MAX_INTEGER := He.int_ok KX G (c.d.fact 65 (f := .int "MAX_INTEGER" 9999) rfl)
  c_MAX_CHOICES := He.int_ok KX G (c.d.fact 66 (f := .int "MAX_CHOICES" 8) rfl)
  c_MAX_WORD_LENGTH := He.int_ok KX G (c.d.fact 67 (f := .int "MAX_WORD_LENGTH" 12) rfl)
  c_CLAUSE_WORDS := ⟨_, He.glo_ok KX G (c.d.fact 44 (f := .glo "CLAUSE_WORDS") rfl), fun H => He.tupB_ok (ex_at c.more 0 rfl) H⟩
theorem exc_of {D : Addr} (e : (excL K D).all id = true) : ExcC K D := by
  have at_ : ∀ (i : Nat) {b : Bool}, (excL K D)[i]? = some b → b = true := fun i b q => List.all_eq_true.mp e b (List.mem_of_getElem? q)
  exact ⟨He.eqO_ok (at_ 0 rfl), He.eqO_ok (at_ 1 rfl), of_decide_eq_true (at_ 2 rfl), at_ 3 rfl, He.eqO_ok (at_ 4 rfl), He.eqO_ok (at_ 5 rfl), of_decide_eq_true (at_ 6 rfl), of_decide_eq_true (at_ 7 rfl)⟩
theorem kit_at {D : Addr} {l : List (Option Bool)} (e : decide (kitL K D = l) = true) (i : Nat) {a b : Option Bool} (h1 : (kitL K D)[i]? = some a) (h2 : l[i]? = some b) : a = b := by
  rw [of_decide_eq_true e, h2] at h1
  exact (Option.some.inj h1).symm
theorem errs_of (KX : K.In h) (G : h.Ns mainGlobals mg) (c : SaysF h K) : ErrS K mg (He.ga K "FlagclauseError") (He.ga K "InvalidGrammar") (He.ga K "UnknownOption") (He.ga K "InvalidClause") (He.ga K "InvalidChain") (He.ga K "Unsatisfiable") (He.ga K "Conflict") (He.ga K "DifferentOptions") where
  gB := He.glo_ok KX G (c.d.fact 36 (f := .glo "FlagclauseError") rfl)
  g0 := He.glo_ok KX G (c.d.fact 37 (f := .glo "InvalidGrammar") rfl)
  g1 := He.glo_ok KX G (c.d.fact 38 (f := .glo "UnknownOption") rfl)
  g2 := He.glo_ok KX G (c.d.fact 39 (f := .glo "InvalidClause") rfl)
  g3 := He.glo_ok KX G (c.d.fact 40 (f := .glo "InvalidChain") rfl)
  g4 := He.glo_ok KX G (c.d.fact 41 (f := .glo "Unsatisfiable") rfl)
  g5 := He.glo_ok KX G (c.d.fact 42 (f := .glo "Conflict") rfl)
  g6 := He.glo_ok KX G (c.d.fact 43 (f := .glo "DifferentOptions") rfl)
  x4 := exc_of (ex_at c.more 16 rfl)
  x5 := exc_of (ex_at c.more 17 rfl)
  m4 := of_decide_eq_true (ex_at c.more 18 rfl)
  m5 := of_decide_eq_true (ex_at c.more 19 rfl)
  k40 := kit_at (ex_at c.more 20 rfl) 0 rfl rfl
  k41 := kit_at (ex_at c.more 20 rfl) 1 rfl rfl
  k42 := kit_at (ex_at c.more 20 rfl) 2 rfl rfl
  k43 := kit_at (ex_at c.more 20 rfl) 3 rfl rfl
  k44 := kit_at (ex_at c.more 20 rfl) 4 rfl rfl
  k45 := kit_at (ex_at c.more 20 rfl) 5 rfl rfl
  k46 := kit_at (ex_at c.more 20 rfl) 6 rfl rfl
  k4v := of_decide_eq_true (ex_at c.more 21 rfl)
  k50 := kit_at (ex_at c.more 22 rfl) 0 rfl rfl
  k51 := kit_at (ex_at c.more 22 rfl) 1 rfl rfl
  k52 := kit_at (ex_at c.more 22 rfl) 2 rfl rfl
  k53 := kit_at (ex_at c.more 22 rfl) 3 rfl rfl
  k54 := kit_at (ex_at c.more 22 rfl) 4 rfl rfl
  k55 := kit_at (ex_at c.more 22 rfl) 5 rfl rfl
  k56 := kit_at (ex_at c.more 22 rfl) 6 rfl rfl
  k5v := of_decide_eq_true (ex_at c.more 23 rfl)
  xf := xfB_ok (ex_at c.more 24 rfl)
  nc := He.eqO_ok (ex_at c.more 13 rfl)
theorem errc_of (KX : K.In h) (G : h.Ns mainGlobals mg) (c : SaysF h K) : ErrC K mg "Unsatisfiable" (He.ga K "Unsatisfiable") where
  q := ex_at c.more 1 rfl
  g := He.glo_ok KX G (c.d.fact 41 (f := .glo "Unsatisfiable") rfl)
  k := ex_at c.more 2 rfl
  s := of_decide_eq_true (ex_at c.more 3 rfl)
  t := of_decide_eq_true (ex_at c.more 4 rfl)
theorem conf_of (KX : K.In h) (G : h.Ns mainGlobals mg) (c : SaysF h K) : ConfC K mg (He.ga K "FlagclauseError") (He.ga K "Conflict") (He.ma K (He.ga K "Conflict") "__init__") where
  gB := He.glo_ok KX G (c.d.fact 36 (f := .glo "FlagclauseError") rfl)
  bI := ⟨He.eqO_ok (ex_at c.more 5 rfl), ex_at c.more 6 rfl, fclsB_ok (ex_at c.more 7 rfl)⟩
  o := ⟨oexB_ok (ex_at c.more 8 rfl), He.eqO_ok (ex_at c.more 9 rfl), of_decide_eq_true (ex_at c.more 10 rfl), of_decide_eq_true (ex_at c.more 11 rfl), ex_at c.more 12 rfl⟩
  nc := He.eqO_ok (ex_at c.more 13 rfl)
  ini := He.eqO_ok (ex_at c.more 14 rfl)
  ti := of_decide_eq_true (ex_at c.more 15 rfl)
  g := He.glo_ok KX G (c.d.fact 42 (f := .glo "Conflict") rfl)
theorem clsg_of (KX : K.In h) (G : h.Ns mainGlobals mg) (c : SaysF h K) : ClsG K mg (He.ga K "ImplicationGraph") where
  cl := He.cls_ok (c.d.fact 70 (f := .cls "ImplicationGraph") rfl)
  nS := He.noat_ok (c.d.fact 72 (f := .noat "ImplicationGraph" "successors") rfl)
  mgC := He.glo_ok KX G (c.d.fact 45 (f := .glo "ImplicationGraph") rfl)
theorem clsc_of (KX : K.In h) (G : h.Ns mainGlobals mg) (c : SaysF h K) : ClsC K mg (He.ga K "Completion") where
  cl := He.cls_ok (c.d.fact 71 (f := .cls "Completion") rfl)
  nG := He.noat_ok (c.d.fact 73 (f := .noat "Completion" "graph") rfl)
  nV := He.noat_ok (c.d.fact 74 (f := .noat "Completion" "given") rfl)
  mgC := He.glo_ok KX G (c.d.fact 46 (f := .glo "Completion") rfl)
end
/-- the law's promise at the head's heap -/
theorem law_at {w : World} {K : PySem.W.Frag} {h : Heap} {mg : Str → Option Value} {fa : Addr} (KX : K.In h) (G : h.Ns mainGlobals mg) (hfa : mg ("law" : Str) = some (.ref fa)) (c : SaysF h K) :
    LamX.LawAtS PySem.Challenge.rw_flagclause_k04_whole_verdicts w K CX0 12 63 "_law_script" mg fa h := by
  obtain ⟨d_is_integer, F_is_integer⟩ := fm_at KX G c 0 (x := "is_integer") (j := 21) rfl rfl
  obtain ⟨d_is_name, F_is_name⟩ := fm_at KX G c 1 (x := "is_name") (j := 22) rfl rfl
  obtain ⟨d_is_short_name, F_is_short_name⟩ := fm_at KX G c 2 (x := "is_short_name") (j := 23) rfl rfl
  obtain ⟨d_is_choice_word, F_is_choice_word⟩ := fm_at KX G c 3 (x := "is_choice_word") (j := 24) rfl rfl
  obtain ⟨d_is_kind, F_is_kind⟩ := fm_at KX G c 4 (x := "is_kind") (j := 25) rfl rfl
  obtain ⟨d_is_option, F_is_option⟩ := fm_at KX G c 5 (x := "is_option") (j := 26) rfl rfl
  obtain ⟨d_check_options, F_check_options⟩ := fm_at KX G c 6 (x := "check_options") (j := 27) rfl rfl
  obtain ⟨d_is_clause, F_is_clause⟩ := fm_at KX G c 7 (x := "is_clause") (j := 28) rfl rfl
  obtain ⟨d_check_grammar, F_check_grammar⟩ := fm_at KX G c 8 (x := "check_grammar") (j := 29) rfl rfl
  obtain ⟨d_names_of, F_names_of⟩ := fm_at KX G c 9 (x := "names_of") (j := 30) rfl rfl
  obtain ⟨d_check_names, F_check_names⟩ := fm_at KX G c 10 (x := "check_names") (j := 31) rfl rfl
  obtain ⟨d_negate, F_negate⟩ := fm_at KX G c 11 (x := "negate") (j := 33) rfl rfl
  obtain ⟨d_literals_of, F_literals_of⟩ := fm_at KX G c 12 (x := "literals_of") (j := 34) rfl rfl
  obtain ⟨d_graph_of, F_graph_of⟩ := fm_at KX G c 13 (x := "graph_of") (j := 36) rfl rfl
  obtain ⟨d_find_contradiction, F_find_contradiction⟩ := fm_at KX G c 14 (x := "find_contradiction") (j := 38) rfl rfl
  obtain ⟨d_check_satisfiable, F_check_satisfiable⟩ := fm_at KX G c 15 (x := "check_satisfiable") (j := 39) rfl rfl
  obtain ⟨d_conflict_chain, F_conflict_chain⟩ := fm_at KX G c 16 (x := "conflict_chain") (j := 41) rfl rfl
  obtain ⟨d_completion_of, F_completion_of⟩ := fm_at KX G c 17 (x := "completion_of") (j := 43) rfl rfl
  obtain ⟨d_verdicts, F_verdicts⟩ := fm_at KX G c 18 (x := "verdicts") (j := 44) rfl rfl
  obtain ⟨d__law_dice, F__law_dice⟩ := fm_at KX G c 19 (x := "_law_dice") (j := 46) rfl rfl
  obtain ⟨d__law_next, F__law_next⟩ := fm_at KX G c 20 (x := "_law_next") (j := 47) rfl rfl
  obtain ⟨d__law_pick, F__law_pick⟩ := fm_at KX G c 21 (x := "_law_pick") (j := 48) rfl rfl
  obtain ⟨d__law_told, F__law_told⟩ := fm_at KX G c 22 (x := "_law_told") (j := 49) rfl rfl
  obtain ⟨d__law_kind, F__law_kind⟩ := fm_at KX G c 23 (x := "_law_kind") (j := 50) rfl rfl
  obtain ⟨d__law_clauses, F__law_clauses⟩ := fm_at KX G c 24 (x := "_law_clauses") (j := 51) rfl rfl
  obtain ⟨d__law_grammar, F__law_grammar⟩ := fm_at KX G c 25 (x := "_law_grammar") (j := 52) rfl rfl
  obtain ⟨d__law_names, F__law_names⟩ := fm_at KX G c 26 (x := "_law_names") (j := 53) rfl rfl
  obtain ⟨d__law_both, F__law_both⟩ := fm_at KX G c 27 (x := "_law_both") (j := 54) rfl rfl
  obtain ⟨d__law_fits, F__law_fits⟩ := fm_at KX G c 28 (x := "_law_fits") (j := 55) rfl rfl
  obtain ⟨d__law_sets, F__law_sets⟩ := fm_at KX G c 29 (x := "_law_sets") (j := 56) rfl rfl
  obtain ⟨d__law_steps, F__law_steps⟩ := fm_at KX G c 30 (x := "_law_steps") (j := 57) rfl rfl
  obtain ⟨d__law_chains, F__law_chains⟩ := fm_at KX G c 31 (x := "_law_chains") (j := 58) rfl rfl
  obtain ⟨d__law_best, F__law_best⟩ := fm_at KX G c 32 (x := "_law_best") (j := 59) rfl rfl
  obtain ⟨d__law_given, F__law_given⟩ := fm_at KX G c 33 (x := "_law_given") (j := 60) rfl rfl
  obtain ⟨d__law_conflict, F__law_conflict⟩ := fm_at KX G c 34 (x := "_law_conflict") (j := 61) rfl rfl
  obtain ⟨d_law, F_law⟩ := fm_at KX G c 35 (x := "law") (j := 62) rfl rfl
  obtain ⟨e_0, E_0⟩ := fc_at c 36 (cl := "ImplicationGraph") (m := "__init__") (q := "ImplicationGraph.__init__") (j := 35) (k := 0) rfl
  obtain ⟨e_1, E_1⟩ := fc_at c 37 (cl := "ImplicationGraph") (m := "distances_to") (q := "ImplicationGraph.distances_to") (j := 35) (k := 2) rfl
  obtain ⟨e_2, E_2⟩ := fc_at c 38 (cl := "ImplicationGraph") (m := "shortest_chain") (q := "ImplicationGraph.shortest_chain") (j := 35) (k := 3) rfl
  obtain ⟨e_3, E_3⟩ := fc_at c 39 (cl := "ImplicationGraph") (m := "best_chain") (q := "ImplicationGraph.best_chain") (j := 35) (k := 4) rfl
  obtain ⟨e_4, E_4⟩ := fc_at c 40 (cl := "Completion") (m := "__init__") (q := "Completion.__init__") (j := 42) (k := 0) rfl
  obtain ⟨e_5, E_5⟩ := fc_at c 41 (cl := "Completion") (m := "chain_for") (q := "Completion.chain_for") (j := 42) (k := 1) rfl
  obtain ⟨e_6, E_6⟩ := fc_at c 42 (cl := "Completion") (m := "verdict") (q := "Completion.verdict") (j := 42) (k := 2) rfl
  obtain ⟨e_7, E_7⟩ := fc_at c 43 (cl := "Conflict") (m := "__init__") (q := "Conflict.__init__") (j := 8) (k := 0) rfl
  have T := txt_of KX G c
  have TG := clsg_of KX G c
  have TM := clsc_of KX G c
  have TE := errs_of KX G c
  have TU := errc_of KX G c
  have TC := conf_of KX G c
  have MG := He.mkr_ok (c.d.fact 80 (f := .mkr "ImplicationGraph") rfl)
  have MC := He.mkr_ok (c.d.fact 81 (f := .mkr "Completion") rfl)
  have m1 := He.meth_ok (c.d.fact 75 (f := .meth "ImplicationGraph" "distances_to") rfl)
  have m2 := He.meth_ok (c.d.fact 76 (f := .meth "ImplicationGraph" "shortest_chain") rfl)
  have m3 := He.meth_ok (c.d.fact 77 (f := .meth "ImplicationGraph" "best_chain") rfl)
  have m5 := He.meth_ok (c.d.fact 78 (f := .meth "Completion" "chain_for") rfl)
  have m6 := He.meth_ok (c.d.fact 79 (f := .meth "Completion" "verdict") rfl)
  have b_0 : Binds K e_0 ["self", "names", "clauses"] [] := E_0.binds (fun _ _ _ _ _ _ us hl => match us, hl with | [_, _, _], _ => rfl)
  have b_1 : Binds K e_1 ["self", "goal"] [] := E_1.binds (fun _ _ _ _ _ _ us hl => match us, hl with | [_, _], _ => rfl)
  have b_2 : Binds K e_2 ["self", "start", "goal"] [] := E_2.binds (fun _ _ _ _ _ _ us hl => match us, hl with | [_, _, _], _ => rfl)
  have b_3 : Binds K e_3 ["self", "starts", "goal"] [] := E_3.binds (fun _ _ _ _ _ _ us hl => match us, hl with | [_, _, _], _ => rfl)
  have b_4 : Binds K e_4 ["self", "grammar", "given"] [] := E_4.binds (fun _ _ _ _ _ _ us hl => match us, hl with | [_, _, _], _ => rfl)
  have b_5 : Binds K e_5 ["self", "literal"] [] := E_5.binds (fun _ _ _ _ _ _ us hl => match us, hl with | [_, _], _ => rfl)
  have b_6 : Binds K e_6 ["self", "name"] [] := E_6.binds (fun _ _ _ _ _ _ us hl => match us, hl with | [_, _], _ => rfl)
  have b_7 : Binds K e_7 ["self", "chain"] [] := E_7.binds (fun _ _ _ _ _ _ us hl => match us, hl with | [_, _], _ => rfl)
  have eqf := hfa.symm.trans F_law.mg
  cases eqf
  obtain ⟨ocL, odL, kVL, docL, pmL, anL, cdL, ctL, oslL, rfl, lkL, hcL⟩ := F_law.fn.ex
  obtain ⟨cc, rfl⟩ := He.codeIn_ref hcL
  have ec : He.codeOf K pLaw = cc := He.codeOf_eq lkL rfl
  refine ⟨PySem.W.fnOf "law" "law" (defArgs s_law) (defBody s_law) (defScope s_law) .none kVL docL pmL anL (.ref cc) ctL, [He.cT K pLaw], spLaw K (He.cT K pLaw).2 (envOfC "law" (defScope s_law) 0 0 .none).qual, fun p hp => ?_, fun p hp => ?_, fun p hp => ?_, fun s u => .of_eq rfl, fun H a ns hl _ hH hS => ⟨a, ns, rfl, hS, fun p hp => ?_, fun _ => rfl⟩, fun base KB GB hTB => ?_⟩
  · rw [List.mem_singleton.mp hp]
    exact c.empty
  · rw [List.mem_singleton.mp hp]
    exact c.out
  · rw [List.mem_singleton.mp hp]
    exact PySem.W.codeHd_of_K KX c.hd
  · rw [List.mem_singleton.mp hp]
    exact LamX.TabS.nil (hH _ (List.mem_singleton.mpr rfl))
  · have TB := hTB _ (List.mem_singleton.mpr rfl)
    have TB' : LamX.TabB base mg cc (He.cT K pLaw).2 := by
      have z : (He.cT K pLaw).1 = cc := ec
      rw [z] at TB
      exact TB
    have D_is_integer := ok_is_integer (P := (PySem.Challenge.rw_flagclause_k04_whole_verdicts).prog) (w := w) (base := base) F_is_integer T
    have D_is_name := ok_is_name (P := (PySem.Challenge.rw_flagclause_k04_whole_verdicts).prog) (w := w) (base := base) F_is_name T
    have D_is_short_name := ok_is_short_name (P := (PySem.Challenge.rw_flagclause_k04_whole_verdicts).prog) (w := w) (base := base) F_is_short_name T
    have D_is_choice_word := ok_is_choice_word (P := (PySem.Challenge.rw_flagclause_k04_whole_verdicts).prog) (w := w) (base := base) F_is_choice_word T
    have D_is_kind := ok_is_kind F_is_kind T D_is_integer D_is_choice_word
    have D_is_option := ok_is_option F_is_option T D_is_name D_is_short_name D_is_kind
    have D_check_options := ok_check_options F_check_options T D_is_option
    have D_is_clause := ok_is_clause (P := (PySem.Challenge.rw_flagclause_k04_whole_verdicts).prog) (w := w) (base := base) F_is_clause T
    have D_check_grammar := ok_check_grammar F_check_grammar T D_check_options D_is_integer D_is_clause
    have D_names_of := ok_names_of (P := (PySem.Challenge.rw_flagclause_k04_whole_verdicts).prog) (w := w) (base := base) F_names_of
    have D_check_names := ok_check_names F_check_names T D_names_of
    have D_negate := ok_negate (P := (PySem.Challenge.rw_flagclause_k04_whole_verdicts).prog) (w := w) (base := base) F_negate
    have D_literals_of := ok_literals_of (P := (PySem.Challenge.rw_flagclause_k04_whole_verdicts).prog) (w := w) (base := base) F_literals_of
    have GI := ok_g_init E_0 T TG D_negate D_literals_of
    have M_dist : Mt _ w K mg base CX0 2 _ "distances_to" _ _ _ _ := ⟨ok_distances_to E_1 TG D_negate, TG.cl, m1, b_1⟩
    have M_short : Mt _ w K mg base CX0 3 _ "shortest_chain" _ _ _ _ := ⟨ok_shortest_chain E_2 TG M_dist, TG.cl, m2, b_2⟩
    have M_best : Mt _ w K mg base CX0 4 _ "best_chain" _ _ _ _ := ⟨ok_best_chain E_3 T M_short, TG.cl, m3, b_3⟩
    have D_graph_of := ok_graph_of F_graph_of TG MG GI b_0 D_names_of
    have D_find := ok_find_contradiction F_find_contradiction D_names_of D_graph_of M_short
    have D_sat := ok_check_satisfiable F_check_satisfiable TU D_find
    have D_conf := ok_conflict_chain F_conflict_chain T M_best
    have GF := ok_conf_init (P := (PySem.Challenge.rw_flagclause_k04_whole_verdicts).prog) (w := w) (base := base) E_7 TC
    have GC := ok_comp_init E_4 T TM TC GF b_7 D_graph_of D_conf
    have M_for : Mt _ w K mg base CX0 5 _ "chain_for" _ _ _ _ := ⟨ok_chain_for E_5 TM D_negate M_best, TM.cl, m5, b_5⟩
    have M_ver : Mt _ w K mg base CX0 6 _ "verdict" _ _ _ _ := ⟨ok_verdict E_6 TM M_for, TM.cl, m6, b_6⟩
    have D_cof := ok_completion_of F_completion_of TM MC GC b_4 D_check_grammar D_check_names D_sat
    have D_verdicts := ok_verdicts F_verdicts D_cof D_names_of M_ver
    have D_dice := ok_law_dice (P := (PySem.Challenge.rw_flagclause_k04_whole_verdicts).prog) (w := w) (base := base) F__law_dice T
    have D_next := ok_law_next (P := (PySem.Challenge.rw_flagclause_k04_whole_verdicts).prog) (w := w) (base := base) F__law_next T
    have D_pick := ok_law_pick F__law_pick T D_next
    have D_kind := ok_law_kind F__law_kind T D_next D_pick
    have D_clauses := ok_law_clauses F__law_clauses T D_next D_pick
    have D_grammar := ok_law_grammar F__law_grammar T D_next D_pick D_kind D_clauses
    have D_names := ok_law_names (P := (PySem.Challenge.rw_flagclause_k04_whole_verdicts).prog) (w := w) (base := base) F__law_names
    have D_both := ok_law_both (P := (PySem.Challenge.rw_flagclause_k04_whole_verdicts).prog) (w := w) (base := base) F__law_both
    have D_fits := ok_law_fits (P := (PySem.Challenge.rw_flagclause_k04_whole_verdicts).prog) (w := w) (base := base) F__law_fits
    have D_sets := ok_law_sets F__law_sets T D_names D_fits
    have D_steps := ok_law_steps F__law_steps D_both
    have D_chains := ok_law_chains F__law_chains T D_steps
    have D_best := ok_law_best F__law_best T D_chains
    have D_given := ok_law_given F__law_given T D_next D_pick D_names
    have D_conflict := ok_law_conflict F__law_conflict T D_sets D_best
    exact ok_law lkL hcL T TE TB' F__law_told D_dice D_next D_grammar D_given D_conflict D_sets D_names D_verdicts
end Fk
open PySem PySem.W PySem.Calls PyProof.Rows
set_option maxRecDepth 100000 in
set_option maxHeartbeats 0 in
theorem PySem.Challenge.cw_flagclause_k04_whole_verdicts_holds : PySem.Challenge.rw_flagclause_k04_whole_verdicts.Holds := by
  w_on; o_law
  refine HandSHeadRun.head_any (r := OpenLaw.row PySem.Challenge.rw_flagclause_k04_whole_verdicts) (q := view (OpenLaw.row PySem.Challenge.rw_flagclause_k04_whole_verdicts).prog [62]) (H := Fk.hookF) (ob := Fk.obF) (M := 4000) (loose := Fk.loF)
    (d := HandSHeadRun.topDef (OpenLaw.row PySem.Challenge.rw_flagclause_k04_whole_verdicts).prog 62) (kwd := []) Fk.obF_eq
    (by kernel_rfl) (fun s => by kernel_rfl) Fk.runF (by kernel_rfl) (by kernel_rfl) (by kernel_rfl) (by rfl) (by first | assumption | decide +kernel) (by decide +kernel) ⟨rfl, rfl, rfl, rfl, rfl, by decide +kernel⟩ ?hw ?hc
  case hw => w_witness2
  case hc =>
    refine LamX.walk_ofTsE (l := PySem.Challenge.rw_flagclause_k04_whole_verdicts) (n := 63) (k := 12) (x := "_law_script") (CX := fun _ => C8.CX0) rfl (by decide) (by kernel_rfl) ⟨rfl, by decide, by decide⟩ ?F (fun _ _ _ _ _ z => z)
    intro w mg fa h Y G hmg0
    obtain ⟨K, KX, c⟩ := Y
    have hmg : mg ("law" : PySem.Str) = some (.ref fa) := by
      have e : (HandSHeadRun.topDef (OpenLaw.row PySem.Challenge.rw_flagclause_k04_whole_verdicts).prog 62).name = ("law" : PySem.Str) := by kernel_rfl
      rw [← e]
      exact hmg0
    exact ⟨K, KX, Fk.law_at KX G hmg c⟩
#print axioms PySem.Challenge.cw_flagclause_k04_whole_verdicts_holds
