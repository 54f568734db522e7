import PyProof.Rows.All
import Wide.All
import OpenK.AllK
import Wide.FinOn
import HandS.ForMost
import HandS.Walk
import HandS.Zip
import HandS.Star
import HandS.Wide
import HandS.IsInst
import HandS.Style
import HandS.Flow
import HandS.DictComp
import HandS.TupAny
import HandS.Conv
import KE.SortData
import KE.KDictKeyed
import KE.KDictDisplayH
import KE.KeyNested
import HandS.Deep
import HandS.Defaults
import HandS.Head0
import HandS.Head1
import HandS.Head2
import HandS.HeadEnd
import HandS.HeadHook1
import HandS.HeadHook2
import KE.KDictSum
import HandS.DictTup
import KE.KDictPairs
import KE.GoesMore
import KE.GoesEnum
import PySem.Challenge.RW_signalsaid_k83_whole_orders_counted_by_f
-- part Sh1
set_option Elab.async false
set_option linter.all false
set_option maxRecDepth 100000
set_option maxHeartbeats 1000000
namespace Sh
open PySem PySem.Spec PyProof.Rows L2

/-! ### values as data; a ref is the number of an object of the store -/
inductive Val where
  | non | bl (b : Bool) | int (i : Int) | str (s : Str) | tup (xs : List Val) | tpl (xs : List Val) | lst (xs : List Val) | sc (xs : List Val) | ref (i : Nat)
abbrev Env := List (Option Val)
/-- what the store holds -/
inductive Ob where
  | lst (xs : List Val)
  | dct (kvs : List (Val × Val))
abbrev Sto := List Ob

/-- how the layer's values bear the data: ms the objects' addresses by number, F the lists that nobody changes any more -/
structure Wd where
  ms : List Addr
  F : Addr → Prop
section
variable (K : PySem.W.Frag)
/-- a list of the written part -/
def KLst (a : Addr) (xs : List V) : Prop := ∃ (o : Obj) (its : Array Value) (n : Nat), K.lookup a = some o ∧ o.cls = .type "list" ∧ o.dict = none ∧ o.data = .seq its n ∧ its.size ≤ sizeLine ∧ Vals xs its.toList
mutual
inductive Rep (W : Wd) (H : Hp) : Val → V → Prop
  | non : Rep W H .non .non
  | bl (b : Bool) : Rep W H (.bl b) (.bl b)
  | int (i : Int) : Rep W H (.int i) (.int i)
  | str (s : Str) : Rep W H (.str s) (.str s)
  | tup {a : Addr} {Vs : List V} {xs : List Val} : SqT K H a Vs → Reps W H xs Vs → Rep W H (.tup xs) (.ref a)
  | tpl {a : Addr} {o : Obj} {Vs : List V} {xs : List Val} : H a = some (.frz o (.tup Vs)) → o.dict = none → Reps W H xs Vs → Rep W H (.tpl xs) (.ref a)
  | lst {a : Addr} {Vs : List V} {xs : List Val} : W.F a → H a = some (.lst Vs) → Reps W H xs Vs → Rep W H (.lst xs) (.ref a)
  | fls {a : Addr} {o : Obj} {Vs : List V} {xs : List Val} : H a = some (.frz o (.lst Vs)) → Reps W H xs Vs → Rep W H (.sc xs) (.ref a)
  | kls {a : Addr} {Vs : List V} {xs : List Val} : KLst K a Vs → Reps W H xs Vs → Rep W H (.sc xs) (.ref a)
  | ref {i : Nat} {a : Addr} : W.ms[i]? = some a → Rep W H (.ref i) (.ref a)
inductive Reps (W : Wd) (H : Hp) : List Val → List V → Prop
  | nil : Reps W H [] []
  | cons {v : Val} {V1 : V} {vs : List Val} {Vs : List V} : Rep W H v V1 → Reps W H vs Vs → Reps W H (v :: vs) (V1 :: Vs)
end
/-- what the data lean on stands: more objects, more lists that stay; tuples and such lists kept -/
structure Ext0 (W : Wd) (H : Hp) (W' : Wd) (H' : Hp) : Prop where
  mm : ∀ (i : Nat) (a : Addr), W.ms[i]? = some a → W'.ms[i]? = some a
  fr : ∀ a : Addr, W.F a → W'.F a
  li : ∀ (a : Addr) (xs : List V), W.F a → H a = some (.lst xs) → H' a = some (.lst xs)
  fz : ∀ (a : Addr) (o : Obj) (u : HO), H a = some (.frz o u) → H' a = some (.frz o u)
  tu : ∀ (a : Addr) (xs : List V), Rd H a (.tup xs) → Rd H' a (.tup xs)
/-- .. and all that is no object of the store -/
structure Ext (W : Wd) (H : Hp) (W' : Wd) (H' : Hp) : Prop extends Ext0 W H W' H' where
  kp : ∀ (a : Addr) (u : HO), a ∉ W.ms → H a = some u → H' a = some u
  nw : ∀ a ∈ W'.ms, a ∈ W.ms ∨ H a = none
  nf : ∀ a, a ∉ W.ms → W'.F a → W.F a ∨ H a = none
end
section
variable {K : PySem.W.Frag} {W W1 W2 : Wd} {H H1 H2 : Hp}
theorem Ext0.refl : Ext0 W H W H := ⟨fun _ _ h => h, fun _ h => h, fun _ _ _ h => h, fun _ _ _ h => h, fun _ _ h => h⟩
theorem Ext.refl : Ext W H W H := ⟨Ext0.refl, fun _ _ _ h => h, fun _ h => .inl h, fun _ _ h => .inl h⟩
theorem Ext0.trans (a : Ext0 W H W1 H1) (b : Ext0 W1 H1 W2 H2) : Ext0 W H W2 H2 :=
  ⟨fun i c h => b.mm i c (a.mm i c h), fun c h => b.fr c (a.fr c h), fun c xs f h => b.li c xs (a.fr c f) (a.li c xs f h), fun c o xs h => b.fz c o xs (a.fz c o xs h), fun c xs h => b.tu c xs (a.tu c xs h)⟩
theorem Ext.trans (a : Ext W H W1 H1) (b : Ext W1 H1 W2 H2) : Ext W H W2 H2 := by
  refine ⟨a.toExt0.trans b.toExt0, fun c u n h => b.kp c u (fun z => ?_) (a.kp c u n h), fun c z => ?_, fun c hc z => ?_⟩
  · rcases a.nw c z with q | q
    · exact n q
    · rw [h] at q; cases q
  · rcases b.nw c z with q | q
    · exact a.nw c q
    · by_cases hc : c ∈ W.ms
      · exact .inl hc
      · cases e : H c with
        | none => exact .inr rfl
        | some u => rw [a.kp c u hc e] at q; cases q
  · by_cases h1 : c ∈ W1.ms
    · exact .inr ((a.nw c h1).resolve_left hc)
    · rcases b.nf c h1 z with q | q
      · exact a.nf c hc q
      · cases e : H c with
        | none => exact .inr rfl
        | some u => rw [a.kp c u hc e] at q; cases q
theorem Rep.tpl_tup {xs : List Val} {x : V} (h : Rep K W H (.tpl xs) x) : Rep K W H (.tup xs) x := by
  cases h with
  | tpl h1 h0 h2 => exact .tup (.inl (.inr ⟨_, h1⟩)) h2
theorem Ext0.sqT (e : Ext0 W H W1 H1) {a : Addr} {xs : List V} (h : SqT K H a xs) : SqT K H1 a xs := h.elim (fun q => .inl (e.tu a xs q)) .inr
mutual
theorem Rep.ext (e : Ext0 W H W1 H1) : ∀ (v : Val) (x : V), Rep K W H v x → Rep K W1 H1 v x
  | .non, _, h => by cases h; exact .non
  | .bl b, _, h => by cases h; exact .bl b
  | .int i, _, h => by cases h; exact .int i
  | .str s, _, h => by cases h; exact .str s
  | .tup xs, _, h => by
    cases h with
    | tup h1 h2 => exact .tup (e.sqT h1) (Reps.ext e xs _ h2)
  | .tpl xs, _, h => by
    cases h with
    | tpl h1 h0 h2 => exact .tpl (e.fz _ _ _ h1) h0 (Reps.ext e xs _ h2)
  | .lst xs, _, h => by
    cases h with
    | lst h0 h1 h2 => exact .lst (e.fr _ h0) (e.li _ _ h0 h1) (Reps.ext e xs _ h2)
  | .sc xs, _, h => by
    cases h with
    | fls h1 h2 => exact .fls (e.fz _ _ _ h1) (Reps.ext e xs _ h2)
    | kls h1 h2 => exact .kls h1 (Reps.ext e xs _ h2)
  | .ref i, _, h => by
    cases h with
    | ref h => exact .ref (e.mm _ _ h)
theorem Reps.ext (e : Ext0 W H W1 H1) : ∀ (vs : List Val) (xs : List V), Reps K W H vs xs → Reps K W1 H1 vs xs
  | [], _, h => by cases h; exact .nil
  | v :: vs, _, h => by
    cases h with
    | cons h1 h2 => exact .cons (Rep.ext e v _ h1) (Reps.ext e vs _ h2)
end
theorem Reps.length : ∀ {vs : List Val} {xs : List V}, Reps K W H vs xs → vs.length = xs.length
  | [], _, h => by cases h; rfl
  | v :: vs, _, h => by
    cases h with
    | cons h1 h2 => rw [List.length_cons, List.length_cons, Reps.length h2]
theorem Reps.get : ∀ {vs : List Val} {xs : List V} {i : Nat} {v : Val}, Reps K W H vs xs → vs[i]? = some v → ∃ x, xs[i]? = some x ∧ Rep K W H v x
  | [], _, _, _, _, e => by simp at e
  | u :: vs, _, 0, v, .cons h1 h2, e => by simp at e; subst e; exact ⟨_, rfl, h1⟩
  | u :: vs, _, i + 1, v, .cons h1 h2, e => by
    obtain ⟨x, h3, h4⟩ := Reps.get (i := i) h2 (by simpa using e)
    exact ⟨x, by simpa using h3, h4⟩
theorem Reps.get' : ∀ {vs : List Val} {xs : List V} {i : Nat} {x : V}, Reps K W H vs xs → xs[i]? = some x → ∃ v, vs[i]? = some v ∧ Rep K W H v x
  | [], _, _, _, .nil, e => by simp at e
  | u :: vs, _, 0, v, .cons h1 h2, e => by simp at e; subst e; exact ⟨_, rfl, h1⟩
  | u :: vs, _, i + 1, v, .cons h1 h2, e => by
    obtain ⟨x, h3, h4⟩ := Reps.get' (i := i) h2 (by simpa using e)
    exact ⟨x, by simpa using h3, h4⟩
theorem Reps.append : ∀ {vs ws : List Val} {xs ys : List V}, Reps K W H vs xs → Reps K W H ws ys → Reps K W H (vs ++ ws) (xs ++ ys)
  | [], _, _, _, .nil, s => s
  | _ :: _, _, _, _, .cons r t, s => .cons r (Reps.append t s)
theorem Reps.take : ∀ {vs : List Val} {xs : List V} (n : Nat), Reps K W H vs xs → Reps K W H (vs.take n) (xs.take n)
  | _, _, 0, _ => by simp; exact .nil
  | _, _, _ + 1, .nil => .nil
  | _, _, n + 1, .cons r t => .cons r (Reps.take n t)
theorem Reps.drop : ∀ {vs : List Val} {xs : List V} (n : Nat), Reps K W H vs xs → Reps K W H (vs.drop n) (xs.drop n)
  | _, _, 0, r => r
  | _, _, _ + 1, .nil => .nil
  | _, _, n + 1, .cons _ t => Reps.drop n t
theorem Reps.set {v : Val} {x : V} (r : Rep K W H v x) : ∀ {vs : List Val} {xs : List V} (i : Nat), Reps K W H vs xs → Reps K W H (vs.set i v) (xs.set i x)
  | _, _, _, .nil => .nil
  | _, _, 0, .cons _ t => .cons r t
  | _, _, i + 1, .cons q t => .cons q (Reps.set r i t)
theorem Reps.eraseIdx : ∀ {vs : List Val} {xs : List V} (i : Nat), Reps K W H vs xs → Reps K W H (vs.eraseIdx i) (xs.eraseIdx i)
  | _, _, _, .nil => .nil
  | _, _, 0, .cons _ t => t
  | _, _, i + 1, .cons q t => .cons q (Reps.eraseIdx i t)
theorem Reps.dropLast {vs : List Val} {xs : List V} (h : Reps K W H vs xs) : Reps K W H vs.dropLast xs.dropLast := by
  rw [List.dropLast_eq_take, List.dropLast_eq_take, h.length]
  exact h.take _
theorem Reps.reverse : ∀ {vs : List Val} {xs : List V}, Reps K W H vs xs → Reps K W H vs.reverse xs.reverse
  | _, _, .nil => .nil
  | _, _, .cons q t => by rw [List.reverse_cons, List.reverse_cons]; exact (Reps.reverse t).append (.cons q .nil)
end

/-! ### plain data -/
mutual
/-- the datum of a value without refs -/
def vdata : Val → Option PyData
  | .non => some .none
  | .bl b => some (.bool b)
  | .int i => some (.int i)
  | .str s => some (.str s)
  | .tup xs => (vdatas xs).map .tuple
  | .tpl _ => none
  | .lst xs => (vdatas xs).map .list
  | .sc xs => (vdatas xs).map .list
  | .ref _ => none
def vdatas : List Val → Option (List PyData)
  | [] => some []
  | x :: xs => match vdata x, vdatas xs with
    | some d, some ds => some (d :: ds)
    | _, _ => none
end
section
variable {K : PySem.W.Frag} {W : Wd} {H : Hp}
theorem klst_sq {a : Addr} {Vs : List V} (h : KLst K a Vs) : SqL K H a Vs := .inr h
mutual
theorem Rep.dp : ∀ (v : Val) (x : V) (d : PyData), Rep K W H v x → vdata v = some d → Dp K H x d
  | .non, _, _, h, e => by cases h; cases e; exact .non
  | .bl b, _, _, h, e => by cases h; cases e; exact .bl b
  | .int b, _, _, h, e => by cases h; cases e; exact .int b
  | .str b, _, _, h, e => by cases h; cases e; exact .str b
  | .tup xs, _, d, h, e => by
    rw [vdata, Option.map_eq_some_iff] at e
    obtain ⟨ds, e1, rfl⟩ := e
    cases h with
    | tup h1 h2 => exact .tup h1 (Reps.dp xs _ ds h2 e1)
  | .tpl _, _, _, _, e => by cases e
  | .lst xs, _, d, h, e => by
    rw [vdata, Option.map_eq_some_iff] at e
    obtain ⟨ds, e1, rfl⟩ := e
    cases h with
    | lst h0 h1 h2 => exact .lst (.inl (.inl h1)) (Reps.dp xs _ ds h2 e1)
  | .sc xs, _, d, h, e => by
    rw [vdata, Option.map_eq_some_iff] at e
    obtain ⟨ds, e1, rfl⟩ := e
    cases h with
    | fls h1 h2 => exact .lst (.inl (.inr ⟨_, h1⟩)) (Reps.dp xs _ ds h2 e1)
    | kls h1 h2 => exact .lst (klst_sq h1) (Reps.dp xs _ ds h2 e1)
  | .ref _, _, _, _, e => by cases e
theorem Reps.dp : ∀ (vs : List Val) (xs : List V) (ds : List PyData), Reps K W H vs xs → vdatas vs = some ds → DpAll K H xs ds
  | [], _, _, h, e => by cases h; cases e; exact .nil
  | v :: vs, _, ds, h, e => by
    rw [vdatas] at e
    cases h with
    | cons h1 h2 =>
      split at e
      · rename_i d ds' e1 e2
        cases e
        exact .cons (Rep.dp v _ d h1 e1) (Reps.dp vs _ ds' h2 e2)
      · cases e
end
end
end Sh

-- part Sh2
set_option Elab.async false
set_option linter.all false
set_option maxRecDepth 100000
set_option maxHeartbeats 1000000
namespace Sh
open PySem PySem.Spec PyProof.Rows L2

/-! ### equality of values, keys -/
mutual
def veq : Val → Val → Bool
  | .non, .non => true
  | .bl a, .bl b => a == b
  | .bl a, .int j => (if a then 1 else 0) == j
  | .int i, .bl b => i == (if b then 1 else 0)
  | .int i, .int j => i == j
  | .str s, .str t => s == t
  | .tup xs, .tup ys => veqs xs ys
  | .lst xs, .lst ys => veqs xs ys
  | .lst xs, .sc ys => veqs xs ys
  | .sc xs, .lst ys => veqs xs ys
  | .sc xs, .sc ys => veqs xs ys
  | _, _ => false
def veqs : List Val → List Val → Bool
  | [], [] => true
  | x :: xs, y :: ys => veq x y && veqs xs ys
  | _, _ => false
end
mutual
/-- a tuple (or what stands in one) as a key -/
def nkey : Val → Option NestedKey
  | .non => some .none
  | .bl b => some (.num (if b = true then 1 else 0))
  | .int i => some (.num i)
  | .str s => some (.text s)
  | .tup xs => (nkeys xs).map .tup
  | .tpl _ => none
  | .lst _ => none
  | .sc _ => none
  | .ref _ => none
def nkeys : List Val → Option (List NestedKey)
  | [] => some []
  | x :: xs => match nkey x, nkeys xs with
    | some d, some ds => some (d :: ds)
    | _, _ => none
end
def kval : Key → Val
  | .inl i => .int i
  | .inr s => .str s
def keyOf : Val → Option Key
  | .int i => some (.inl i)
  | .str s => some (.inr s)
  | _ => none

/-! ### objects -/
section
variable (P : Program) (w : World) (K : PySem.W.Frag)
/-- a dict of ints and texts -/
def DK (W : Wd) (H : Hp) (kvs : List (Val × Val)) (a : Addr) : Prop :=
  ∃ kk : List (Key × V), H a = some (.dK kk) ∧ Paired (fun p q => p.1 = kval q.1 ∧ Rep K W H p.2 q.2) kvs kk
/-- the object of a dict whose keys are tuples -/
structure NObj (o : Obj) (xs : List (NestedKey × Addr × Value)) : Prop where
  ex : o.ExactDict
  dat : ∃ es ep, o.data = .dict es ep ∧ es.toList = xs.map (entryOfKey (nestedKind P w))
  nd : (xs.map (·.1)).Nodup
/-- a dict whose keys are tuples, nested -/
def DN (W : Wd) (H : Hp) (kvs : List (Val × Val)) (a : Addr) : Prop :=
  ∃ (o : Obj) (xs : List (NestedKey × Addr × Value)), H a = some (.ext fun h => h.get? a = some o) ∧ NObj P w o xs ∧ (a == sysModules) = false ∧ kvs.length ≤ sizeLine ∧
    kvs ≠ [] ∧ Paired (fun p x => nkey p.1 = some x.1 ∧ x.1.depth ≤ 8 ∧ Rep K W H p.1 (.ref x.2.1) ∧ ∃ y, RelV y x.2.2 ∧ Rep K W H p.2 y) kvs xs
def ObR (W : Wd) (H : Hp) : Ob → Addr → Prop
  | .lst xs, a => ∃ Vs, H a = some (.lst Vs) ∧ Reps K W H xs Vs
  | .dct kvs, a => DK K W H kvs a ∨ DN P w K W H kvs a
structure Good (W : Wd) (H : Hp) (st : Sto) : Prop where
  len : W.ms.length = st.length
  nd : W.ms.Nodup
  nf : ∀ a ∈ W.ms, ¬ W.F a
  ob : ∀ (i : Nat) (o : Ob) (a : Addr), st[i]? = some o → W.ms[i]? = some a → ObR P w K W H o a
  fs : ∀ a, W.F a → ∃ u, H a = some u
end
section
variable {P : Program} {w : World} {K : PySem.W.Frag} {W W1 W2 : Wd} {H H1 H2 : Hp} {st : Sto}
theorem paired_imp {α β : Type} {F G : α → β → Prop} : ∀ {l₁ : List α} {l₂ : List β}, Paired F l₁ l₂ → (∀ a b, F a b → G a b) → Paired G l₁ l₂
  | _, _, .nil, _ => .nil
  | _, _, .cons r t, f => .cons (f _ _ r) (paired_imp t f)
theorem ObR.ext (e : Ext0 W H W1 H1) {o : Ob} {a : Addr} (h : ObR P w K W H o a) (ha : H1 a = H a) : ObR P w K W1 H1 o a := by
  cases o with
  | lst xs =>
    obtain ⟨Vs, h1, h2⟩ := h
    exact ⟨Vs, ha.trans h1, Reps.ext e _ _ h2⟩
  | dct kvs =>
    rcases h with ⟨kk, h1, h2⟩ | ⟨o, xs, h1, h2, h3, h4, hne, h5⟩
    · exact .inl ⟨kk, ha.trans h1, paired_imp h2 fun p q r => ⟨r.1, Rep.ext e _ _ r.2⟩⟩
    · refine .inr ⟨o, xs, ha.trans h1, h2, h3, h4, hne, paired_imp h5 fun p q r => ?_⟩
      obtain ⟨r1, r0, r2, y, r3, r4⟩ := r
      exact ⟨r1, r0, Rep.ext e _ _ r2, y, r3, Rep.ext e _ _ r4⟩
/-- an object of the store stands in H, neither a tuple nor locked -/
theorem ObR.here {o : Ob} {a : Addr} (h : ObR P w K W H o a) : ∃ u, H a = some u ∧ Mut (some u) := by
  cases o with
  | lst xs => obtain ⟨Vs, h1, _⟩ := h; exact ⟨_, h1, trivial⟩
  | dct kvs =>
    rcases h with ⟨kk, h1, _⟩ | ⟨o, xs, h1, _⟩
    · exact ⟨_, h1, trivial⟩
    · exact ⟨_, h1, trivial⟩
theorem Good.at (g : Good P w K W H st) {i : Nat} {o : Ob} (h : st[i]? = some o) : ∃ a, W.ms[i]? = some a ∧ ObR P w K W H o a := by
  have hi : i < W.ms.length := by
    rw [g.len]
    exact (List.getElem?_eq_some_iff.mp h).1
  exact ⟨W.ms[i], by rw [List.getElem?_eq_getElem hi], g.ob i o _ h (List.getElem?_eq_getElem hi)⟩
theorem Good.ob' (g : Good P w K W H st) {i : Nat} {a : Addr} (h : W.ms[i]? = some a) : ∃ o, st[i]? = some o ∧ ObR P w K W H o a := by
  have hi : i < st.length := by
    rw [← g.len]
    exact (List.getElem?_eq_some_iff.mp h).1
  exact ⟨st[i], List.getElem?_eq_getElem hi, g.ob i _ a (List.getElem?_eq_getElem hi) h⟩
theorem Good.here (g : Good P w K W H st) {a : Addr} (h : a ∈ W.ms) : ∃ u, H a = some u ∧ Mut (some u) := by
  obtain ⟨i, hi⟩ := List.getElem?_of_mem h
  obtain ⟨o, _, r⟩ := g.ob' hi
  exact r.here
/-- heaps that agree on all that stood -/
theorem Ext.same (s : Same H H1) : Ext W H W H1 :=
  ⟨⟨fun _ _ h => h, fun _ h => h, fun a xs _ h => s _ _ h, fun a o xs h => s _ _ h, fun a xs h => h.elim (fun q => .inl (s _ _ q)) fun ⟨o, q⟩ => .inr ⟨o, s _ _ q⟩⟩, fun _ _ _ h => s _ _ h, fun _ h => .inl h, fun _ _ h => .inl h⟩
theorem same_new {p : Addr} {o : HO} (h : H p = none) : Same H (upd H p o) := fun b x e => by
  rw [upd_ne (ne_of_none e h)]
  exact e
theorem Good.same (g : Good P w K W H st) (s : Same H H1) : Good P w K W H1 st := by
  refine ⟨g.len, g.nd, g.nf, fun i o a h1 h2 => ?_, fun a h => ?_⟩
  · have r := g.ob i o a h1 h2
    obtain ⟨u, h3, _⟩ := r.here
    exact r.ext (Ext.same (W := W) s).toExt0 ((s _ _ h3).trans h3.symm)
  · obtain ⟨u, h3⟩ := g.fs a h
    exact ⟨u, s _ _ h3⟩
/-- a new list that nobody will change -/
def Wd.frz (W : Wd) (p : Addr) : Wd := ⟨W.ms, fun a => W.F a ∨ a = p⟩
theorem Ext0.frz {p : Addr} : Ext0 W H (W.frz p) H := ⟨fun _ _ h => h, fun _ h => .inl h, fun _ _ _ h => h, fun _ _ _ h => h, fun _ _ h => h⟩
theorem Ext.frz {p : Addr} (x : Ext W H W1 H1) (hn : H p = none) : Ext W H (W1.frz p) H1 := ⟨x.toExt0.trans Ext0.frz, x.kp, x.nw, fun a ha hf => by
  rcases hf with hf | hf
  · exact x.nf a ha hf
  · exact .inr (hf ▸ hn)⟩
theorem Good.frz (g : Good P w K W H st) {p : Addr} {u : HO} (h : H p = some u) (hn : p ∉ W.ms) : Good P w K (W.frz p) H st := by
  refine ⟨g.len, g.nd, fun a ha hf => ?_, fun i o a h1 h2 => (g.ob i o a h1 h2).ext (Ext0.frz (p := p)) rfl, fun a hf => ?_⟩
  · rcases hf with hf | hf
    · exact g.nf a ha hf
    · exact hn (hf ▸ ha)
  · rcases hf with hf | hf
    · exact g.fs a hf
    · exact ⟨u, hf ▸ h⟩
theorem Good.notIn (g : Good P w K W H st) {p : Addr} (h : H p = none) : p ∉ W.ms := fun hm => by
  obtain ⟨u, h1, _⟩ := g.here hm
  rw [h] at h1
  cases h1
theorem Good.notF (g : Good P w K W H st) {p : Addr} (h : H p = none) : ¬ W.F p := fun hm => by
  obtain ⟨u, h1⟩ := g.fs p hm
  rw [h] at h1
  cases h1
/-- a new object of the store -/
def Wd.add (W : Wd) (p : Addr) : Wd := ⟨W.ms ++ [p], W.F⟩
theorem Ext0.add {p : Addr} : Ext0 W H (W.add p) H := ⟨fun i a h => by
  show (W.ms ++ [p])[i]? = some a
  rw [List.getElem?_append_left (List.getElem?_eq_some_iff.mp h).1]
  exact h, fun _ h => h, fun _ _ _ h => h, fun _ _ _ h => h, fun _ _ h => h⟩
theorem Good.add (g : Good P w K W H st) {p : Addr} {o : Ob} (hn : p ∉ W.ms) (hf : ¬ W.F p) (r : ObR P w K (W.add p) H o p) : Good P w K (W.add p) H (st ++ [o]) := by
  refine ⟨?_, ?_, fun a ha hf' => ?_, fun i q a h1 h2 => ?_, g.fs⟩
  · show (W.ms ++ [p]).length = (st ++ [o]).length
    rw [List.length_append, List.length_append, g.len]
    rfl
  · show (W.ms ++ [p]).Nodup
    rw [List.nodup_append]
    exact ⟨g.nd, by simp, fun a ha b hb => by
      have e : b = p := by simpa using hb
      intro e2
      exact hn (e ▸ e2 ▸ ha)⟩
  · have ha : a ∈ W.ms ++ [p] := ha
    rcases List.mem_append.mp ha with ha | ha
    · exact g.nf a ha hf'
    · have e : a = p := by simpa using ha
      exact hf (e ▸ hf')
  · have h2 : (W.ms ++ [p])[i]? = some a := h2
    by_cases hi : i < st.length
    · rw [List.getElem?_append_left hi] at h1
      rw [List.getElem?_append_left (by rw [g.len]; exact hi)] at h2
      exact (g.ob i q a h1 h2).ext Ext0.add rfl
    · have hi' : i = st.length := by
        have := (List.getElem?_eq_some_iff.mp h1).1
        rw [List.length_append] at this
        have e : [o].length = 1 := rfl
        omega
      subst hi'
      rw [List.getElem?_append_right (Nat.le_refl _), Nat.sub_self] at h1
      rw [List.getElem?_append_right (by rw [g.len]; exact Nat.le_refl _), g.len, Nat.sub_self] at h2
      simp at h1 h2
      subst h1 h2
      exact r
/-- a new object of the store, laid -/
theorem Ext.new {p : Addr} {u : HO} (h : H p = none) : Ext W H (W.add p) (L2.upd H p u) :=
  ⟨(Ext.same (W := W) (same_new h)).toExt0.trans Ext0.add, fun a x _ e => same_new h _ _ e, fun a ha => by
    have ha : a ∈ W.ms ++ [p] := ha
    rcases List.mem_append.mp ha with q | q
    · exact .inl q
    · have e : a = p := by simpa using q
      exact .inr (e ▸ h), fun _ _ hf => .inl hf⟩
theorem add_at (g : Good P w K W H st) {p : Addr} : (W.add p).ms[st.length]? = some p := by
  show (W.ms ++ [p])[st.length]? = some p
  rw [← g.len, List.getElem?_append_right (Nat.le_refl _), Nat.sub_self]
  rfl
/-- an object of the store changes -/
theorem Ext.upd (g : Good P w K W H st) {a : Addr} (h : a ∈ W.ms) (u : HO) : Ext W H W (upd H a u) := by
  obtain ⟨v, h1, h2⟩ := g.here h
  have nr : ∀ (b : Addr) (x : HO), ¬ Mut (some x) → (H b = some x) → b ≠ a := fun b x hm hb e => by
    subst e
    rw [h1] at hb
    cases hb
    exact hm h2
  refine ⟨⟨fun _ _ q => q, fun _ q => q, fun b xs hf hr => ?_, fun b o u hr => ?_, fun b xs hr => ?_⟩, fun b x hb e => by rw [upd_ne (fun z : b = a => hb (by rw [z]; exact h))]; exact e, fun _ q => .inl q, fun _ _ q => .inl q⟩
  · have hb : b ≠ a := fun e => g.nf a h (e ▸ hf)
    rw [upd_ne hb]
    exact hr
  · rw [upd_ne (nr b (.frz o u) (fun z => z) hr)]
    exact hr
  · have hb : b ≠ a := by
      rcases hr with q | ⟨o, q⟩
      · exact nr b (.tup xs) (fun z => z) q
      · exact nr b (.frz o (.tup xs)) (fun z => z) q
    unfold Rd at hr ⊢
    rw [upd_ne hb]
    exact hr
theorem ms_inj (g : Good P w K W H st) {i j : Nat} {a : Addr} (h1 : W.ms[i]? = some a) (h2 : W.ms[j]? = some a) : i = j := by
  obtain ⟨l1, e1⟩ := List.getElem?_eq_some_iff.mp h1
  obtain ⟨l2, e2⟩ := List.getElem?_eq_some_iff.mp h2
  exact (List.getElem_inj g.nd).mp (e1.trans e2.symm)
theorem Good.set (g : Good P w K W H st) {i : Nat} {a : Addr} {u : HO} {o : Ob} (hi : W.ms[i]? = some a) (r : ObR P w K W (L2.upd H a u) o a) : Good P w K W (L2.upd H a u) (st.set i o) := by
  have ha : a ∈ W.ms := List.mem_of_getElem? hi
  refine ⟨by rw [List.length_set]; exact g.len, g.nd, g.nf, fun j q b h1 h2 => ?_, fun b hf => ?_⟩
  · by_cases hj : j = i
    · subst hj
      rw [hi] at h2
      cases h2
      rw [List.getElem?_set_self (by rw [← g.len]; exact (List.getElem?_eq_some_iff.mp hi).1)] at h1
      cases h1
      exact r
    · rw [List.getElem?_set_ne (Ne.symm hj)] at h1
      have hb : b ≠ a := fun e => hj (ms_inj g (e ▸ h2) hi)
      exact (g.ob j q b h1 h2).ext (Ext.upd g ha u).toExt0 (upd_ne hb)
  · have hb : b ≠ a := fun e => g.nf a ha (e ▸ hf)
    obtain ⟨v, hv⟩ := g.fs b hf
    exact ⟨v, by rw [upd_ne hb]; exact hv⟩
end

/-! ### slots -/
section
variable (K : PySem.W.Frag)
/-- the slots bear the names' values -/
def EnvR (W : Wd) (H : Hp) (env : Env) (σ : L2.St) : Prop := env.length = σ.length ∧ ∀ (i : Nat) (v : Val), env[i]? = some (some v) → ∃ x, σ[i]? = some (some x) ∧ Rep K W H v x
end
section
variable {K : PySem.W.Frag} {W W1 : Wd} {H H1 : Hp} {env : Env} {σ : L2.St}
theorem EnvR.ext (e : Ext0 W H W1 H1) (h : EnvR K W H env σ) : EnvR K W1 H1 env σ := ⟨h.1, fun i v q => by
  obtain ⟨x, h1, h2⟩ := h.2 i v q
  exact ⟨x, h1, Rep.ext e _ _ h2⟩⟩
theorem EnvR.set (h : EnvR K W H env σ) {v : Val} {x : V} (r : Rep K W H v x) (i : Nat) : EnvR K W H (env.set i (some v)) (σ.set i (some x)) := by
  refine ⟨by rw [List.length_set, List.length_set]; exact h.1, fun j u q => ?_⟩
  by_cases hj : i = j
  · subst hj
    have hi : i < env.length := by
      have := (List.getElem?_eq_some_iff.mp q).1
      rwa [List.length_set] at this
    rw [List.getElem?_set_self hi] at q
    cases q
    exact ⟨x, List.getElem?_set_self (by rw [← h.1]; exact hi), r⟩
  · rw [List.getElem?_set_ne hj] at q ⊢
    exact h.2 j u q
end
end Sh

-- part Sh3
set_option Elab.async false
set_option linter.all false
set_option maxRecDepth 100000
set_option maxHeartbeats 1000000
namespace Sh
open PySem PySem.Spec PyProof.Rows L2

/-! ### data of values -/
mutual
/-- no refs, at most n deep, texts as they can be laid -/
def vflat : Nat → Val → Bool
  | _, .non => true
  | _, .bl _ => true
  | _, .int _ => true
  | _, .str s => PyData.canLay0 (.str s)
  | 0, .tup _ => false
  | n + 1, .tup xs => vflats n xs
  | _, .tpl _ => false
  | 0, .lst _ => false
  | n + 1, .lst xs => vflats n xs
  | 0, .sc _ => false
  | n + 1, .sc xs => vflats n xs
  | _, .ref _ => false
def vflats : Nat → List Val → Bool
  | _, [] => true
  | n, x :: xs => vflat n x && vflats n xs
end
mutual
theorem vflat_data : ∀ (v : Val) (n : Nat), vflat n v = true → ∃ d, vdata v = some d ∧ d.canLay0 = true ∧ d.depth ≤ n
  | .non, n, h => ⟨.none, by simp [vdata], by simp [PyData.canLay0], by simp [PyData.depth]⟩
  | .bl b, n, h => ⟨.bool b, by simp [vdata], by simp [PyData.canLay0], by simp [PyData.depth]⟩
  | .int b, n, h => ⟨.int b, by simp [vdata], by simp [PyData.canLay0], by simp [PyData.depth]⟩
  | .str b, n, h => ⟨.str b, by simp [vdata], by rw [vflat] at h; exact h, by simp [PyData.depth]⟩
  | .tup xs, 0, h => by simp [vflat] at h
  | .tup xs, n + 1, h => by
    rw [vflat] at h
    obtain ⟨ds, h1, h2, h3⟩ := vflats_data xs n h
    exact ⟨.tuple ds, by rw [vdata, h1]; rfl, by rw [PyData.canLay0]; exact h2, by rw [PyData.depth]; omega⟩
  | .tpl xs, _, h => by simp [vflat] at h
  | .lst xs, 0, h => by simp [vflat] at h
  | .lst xs, n + 1, h => by
    rw [vflat] at h
    obtain ⟨ds, h1, h2, h3⟩ := vflats_data xs n h
    exact ⟨.list ds, by rw [vdata, h1]; rfl, by rw [PyData.canLay0]; exact h2, by rw [PyData.depth]; omega⟩
  | .sc xs, 0, h => by simp [vflat] at h
  | .sc xs, n + 1, h => by
    rw [vflat] at h
    obtain ⟨ds, h1, h2, h3⟩ := vflats_data xs n h
    exact ⟨.list ds, by rw [vdata, h1]; rfl, by rw [PyData.canLay0]; exact h2, by rw [PyData.depth]; omega⟩
  | .ref _, _, h => by simp [vflat] at h
theorem vflats_data : ∀ (vs : List Val) (n : Nat), vflats n vs = true → ∃ ds, vdatas vs = some ds ∧ PyData.canLayAll0 ds = true ∧ PyData.depthAll ds ≤ n
  | [], n, h => ⟨[], by simp [vdatas], by simp [PyData.canLayAll0], by simp [PyData.depthAll]⟩
  | v :: vs, n, h => by
    rw [vflats, Bool.and_eq_true] at h
    obtain ⟨d, h1, h2, h3⟩ := vflat_data v n h.1
    obtain ⟨ds, h4, h5, h6⟩ := vflats_data vs n h.2
    exact ⟨d :: ds, by rw [vdatas, h1, h4], by rw [PyData.canLayAll0, h2, h5]; rfl, by rw [PyData.depthAll]; omega⟩
end
mutual
theorem veq_data : ∀ (v u : Val) (d e : PyData), vdata v = some d → vdata u = some e → PyData.eqv d e = veq v u
  | .non, u, d, e, h1, h2 => by
    cases u <;> simp [vdata] at h1 h2 <;> (try subst h1) <;> (try subst h2) <;> (try (obtain ⟨_, _, rfl⟩ := h2)) <;> simp [PyData.eqv, veq]
  | .bl b, u, d, e, h1, h2 => by
    cases u <;> simp [vdata] at h1 h2 <;> (try subst h1) <;> (try subst h2) <;> (try (obtain ⟨_, _, rfl⟩ := h2)) <;> simp [PyData.eqv, veq]
  | .int b, u, d, e, h1, h2 => by
    cases u <;> simp [vdata] at h1 h2 <;> (try subst h1) <;> (try subst h2) <;> (try (obtain ⟨_, _, rfl⟩ := h2)) <;> simp [PyData.eqv, veq]
  | .str b, u, d, e, h1, h2 => by
    cases u <;> simp [vdata] at h1 h2 <;> (try subst h1) <;> (try subst h2) <;> (try (obtain ⟨_, _, rfl⟩ := h2)) <;> simp [PyData.eqv, veq]
  | .tup xs, u, d, e, h1, h2 => by
    cases u <;> simp [vdata] at h1 h2 <;> (try subst h2) <;> obtain ⟨ds, h3, rfl⟩ := h1 <;> (try (obtain ⟨es, h4, rfl⟩ := h2)) <;> simp [PyData.eqv, veq]
    exact veqs_data xs _ _ _ h3 h4
  | .lst xs, u, d, e, h1, h2 => by
    cases u <;> simp [vdata] at h1 h2 <;> (try subst h2) <;> obtain ⟨ds, h3, rfl⟩ := h1 <;> (try (obtain ⟨es, h4, rfl⟩ := h2)) <;> simp [PyData.eqv, veq] <;> exact veqs_data xs _ _ _ h3 h4
  | .sc xs, u, d, e, h1, h2 => by
    cases u <;> simp [vdata] at h1 h2 <;> (try subst h2) <;> obtain ⟨ds, h3, rfl⟩ := h1 <;> (try (obtain ⟨es, h4, rfl⟩ := h2)) <;> simp [PyData.eqv, veq] <;> exact veqs_data xs _ _ _ h3 h4
  | .tpl _, u, d, e, h1, h2 => by simp [vdata] at h1
  | .ref _, u, d, e, h1, h2 => by simp [vdata] at h1
theorem veqs_data : ∀ (vs us : List Val) (ds es : List PyData), vdatas vs = some ds → vdatas us = some es → PyData.eqvAll ds es = veqs vs us
  | [], us, ds, es, h1, h2 => by
    simp [vdatas] at h1
    subst h1
    cases us with
    | nil => simp [vdatas] at h2; subst h2; simp [PyData.eqvAll, veqs]
    | cons u us =>
      rw [vdatas] at h2
      split at h2
      · cases h2; simp [PyData.eqvAll, veqs]
      · cases h2
  | v :: vs, us, ds, es, h1, h2 => by
    rw [vdatas] at h1
    split at h1
    · rename_i d ds' e1 e2
      cases h1
      cases us with
      | nil => simp [vdatas] at h2; subst h2; simp [PyData.eqvAll, veqs]
      | cons u us =>
        rw [vdatas] at h2
        split at h2
        · rename_i e es' e3 e4
          cases h2
          rw [PyData.eqvAll, veqs, veq_data v u d e e1 e3, veqs_data vs us ds' es' e2 e4]
        · cases h2
    · cases h1
end

/-! ### what code does to slots and store -/
inductive Fl where
  | nx | bk | ct | rt (v : Val)
abbrev ME := Env → Sto → Option (Val × Sto)
abbrev MA := Env → Sto → Option (List Val × Sto)
abbrev MT := Env → Sto → Option (Bool × Sto)
abbrev MS := Env → Sto → Option (Fl × Env × Sto)
abbrev MG := Val → Env → Sto → Option (Env × Sto)

section
variable (P : Program) (w : World) (K : PySem.W.Frag)
/-- where m comes to a result, that holds behind the code -/
def rdX {α β : Type} (R : Wd → Hp → α → β → Prop) (m : Env → Sto → Option (α × Sto)) : L2.St → Hp → (β → Hp → Prop) → Prop := fun σ H Q =>
  ∃ (W : Wd) (env : Env) (st : Sto) (r : α) (st' : Sto), Good P w K W H st ∧ EnvR K W H env σ ∧ m env st = some (r, st') ∧
    ∀ (W' : Wd) (H' : Hp) (x : β), Ext W H W' H' → Good P w K W' H' st' → R W' H' r x → Q x H'
abbrev rdE (m : ME) : TE := rdX P w K (Rep K) m
abbrev rdA (m : MA) : TA := rdX P w K (Reps K) m
abbrev rdT (m : MT) : TT := rdX P w K (fun _ _ a b => a = b) m
def endOf (K : PySem.W.Frag) (D : Ends) (fl : Fl) (W : Wd) (σ : L2.St) (H : Hp) : Prop := match fl with
  | .nx => D.nx σ H
  | .bk => D.bk σ H
  | .ct => D.ct σ H
  | .rt v => ∀ x, Rep K W H v x → D.rt x H
def rdS (m : MS) : TS := fun D σ H => ∃ (W : Wd) (env : Env) (st : Sto) (fl : Fl) (env' : Env) (st' : Sto), Good P w K W H st ∧ EnvR K W H env σ ∧ m env st = some (fl, env', st') ∧
    ∀ (W' : Wd) (H' : Hp) (σ' : L2.St), Ext W H W' H' → Good P w K W' H' st' → EnvR K W' H' env' σ' → endOf K D fl W' σ' H'
end
section
variable {X : Cx}
theorem pe_weak {e : Expr} {t t' : TE} (h : PE X e t) (hw : ∀ σ H Q, t' σ H Q → t σ H Q) : PE X e t' := ⟨fun pins s σ H Q I q => h.run pins s σ H Q I (hw σ H Q q)⟩
theorem pa_weak {e : List Expr} {t t' : TA} (h : PA X e t) (hw : ∀ σ H Q, t' σ H Q → t σ H Q) : PA X e t' := ⟨fun pos pins s σ H Q I q => h.run pos pins s σ H Q I (hw σ H Q q)⟩
theorem pt_weak {e : Expr} {t t' : TT} (h : PT X e t) (hw : ∀ σ H Q, t' σ H Q → t σ H Q) : PT X e t' := ⟨fun pins s σ H Q I q => h.run pins s σ H Q I (hw σ H Q q)⟩
theorem pw_weak {e : Expr} {t t' : TT} (h : PW X e t) (hw : ∀ σ H Q, t' σ H Q → t σ H Q) : PW X e t' := ⟨fun wh pins s σ H Q I q => h.run wh pins s σ H Q I (hw σ H Q q)⟩
theorem ps_weak {e : Stmt} {t t' : TS} (h : PS X e t) (hw : ∀ D σ H, t' D σ H → t D σ H) : PS X e t' := ⟨fun pins s σ H D I q => h.run pins s σ H D I (hw D σ H q)⟩
theorem pss_weak {e : List Stmt} {t t' : TS} (h : PSs X e t) (hw : ∀ D σ H, t' D σ H → t D σ H) : PSs X e t' := ⟨fun pins s σ H D I q => h.run pins s σ H D I (hw D σ H q)⟩
theorem pg_weak {e : Expr} {t t' : TG} (h : PG X e t) (hw : ∀ x σ H Q, t' x σ H Q → t x σ H Q) : PG X e t' := ⟨fun pins s σ H x v Q I r q => h.run pins s σ H x v Q I r (hw x σ H Q q)⟩
end
section
variable {P : Program} {w : World} {K : PySem.W.Frag} {α β γ δ : Type} {R : Wd → Hp → α → β → Prop} {S : Wd → Hp → γ → δ → Prop}
/-- two in a row -/
def mBind (m : Env → Sto → Option (α × Sto)) (f : α → Env → Sto → Option (γ × Sto)) : Env → Sto → Option (γ × Sto) := fun env st =>
  match m env st with
  | some (a, st1) => f a env st1
  | none => none
theorem mBind_some {m : Env → Sto → Option (α × Sto)} {f : α → Env → Sto → Option (γ × Sto)} {env : Env} {st st' : Sto} {c : γ} (h : mBind m f env st = some (c, st')) : ∃ a st1, m env st = some (a, st1) ∧ f a env st1 = some (c, st') := by
  unfold mBind at h
  split at h
  · rename_i a st1 e
    exact ⟨a, st1, e, h⟩
  · cases h
/-- the first of two: what is left to be shown is told at its end -/
theorem rd_bind {m : Env → Sto → Option (α × Sto)} {f : α → Env → Sto → Option (γ × Sto)} {σ : L2.St} {H : Hp} {Q : δ → Hp → Prop} {Q1 : β → Hp → Prop} (h : rdX P w K S (mBind m f) σ H Q)
    (k : ∀ (W1 : Wd) (H1 : Hp) (env : Env) (st1 st' : Sto) (a : α) (x : β) (c : γ), Good P w K W1 H1 st1 → EnvR K W1 H1 env σ → R W1 H1 a x → f a env st1 = some (c, st') →
      (∀ (W' : Wd) (H' : Hp) (y : δ), Ext W1 H1 W' H' → Good P w K W' H' st' → S W' H' c y → Q y H') → Q1 x H1) : rdX P w K R m σ H Q1 := by
  obtain ⟨W, env, st, c, st', g, er, e, q⟩ := h
  obtain ⟨a, st1, e1, e2⟩ := mBind_some e
  refine ⟨W, env, st, a, st1, g, er, e1, fun W1 H1 x x1 g1 r => ?_⟩
  exact k W1 H1 env st1 st' a x c g1 (er.ext x1.toExt0) r e2 fun W' H' y x2 g2 s => q W' H' y (x1.trans x2) g2 s
end

/-! ### names, constants -/
def mVar (i : Nat) : ME := fun env st => match env[i]? with
  | some (some v) => some (v, st)
  | _ => none
def mC (v : Val) : ME := fun _ st => some (v, st)
section
variable {X : Cx}
abbrev RE (X : Cx) (m : ME) : TE := rdE X.prog X.w X.K m
abbrev RA (X : Cx) (m : MA) : TA := rdA X.prog X.w X.K m
abbrev RT (X : Cx) (m : MT) : TT := rdT X.prog X.w X.K m
abbrev RS (X : Cx) (m : MS) : TS := rdS X.prog X.w X.K m
theorem se_var {i : Nat} {x : Str} {pos : Pos} (hN : X.N[i]? = some x := by rfl) (hv : Vis X.env.scope x := by first | exact Or.inl rfl | exact Or.inr (Or.inl rfl) | exact Or.inr (Or.inr rfl)) (hd : (x == ("__debug__" : Str)) = false := by decide)
    (hcd : (x == ("__classdict__" : Str)) = false := by decide) : PE X (.Name x pos) (RE X (mVar i)) := by
  refine pe_weak (pe_var (i := i) hN hv hd hcd) fun σ H Q h => ?_
  obtain ⟨W, env, st, c, st', g, er, e, q⟩ := h
  unfold mVar at e
  split at e
  · rename_i v ev
    cases e
    obtain ⟨y, h1, h2⟩ := er.2 i _ ev
    exact ⟨y, h1, q W H y Ext.refl g h2⟩
  · cases e
theorem se_const {e : Expr} {v : Val} {y : V} (h : PE X e (tC y)) (r : ∀ W H, Rep X.K W H v y) : PE X e (RE X (mC v)) := by
  refine pe_weak h fun σ H Q h => ?_
  obtain ⟨W, env, st, c, st', g, er, e, q⟩ := h
  cases e
  exact q W H y Ext.refl g (r W H)
theorem se_int {i j pos} : PE X (.Constant (.int i) j pos) (RE X (mC (.int i))) := se_const pe_int fun _ _ => .int i
theorem se_bl {b j pos} : PE X (.Constant (.bool b) j pos) (RE X (mC (.bl b))) := se_const pe_bl fun _ _ => .bl b
theorem se_non {j pos} : PE X (.Constant .none j pos) (RE X (mC .non)) := se_const pe_non fun _ _ => .non
theorem se_str {x j pos} : PE X (.Constant (.str x) j pos) (RE X (mC (.str x))) := se_const pe_str fun _ _ => .str x
end
/-- what a module's name holds, as a value -/
structure Cst (K : PySem.W.Frag) (u : Value) (v : Val) : Prop where
  ex : ∃ y, RelV y u ∧ ∀ W H, Rep K W H v y
section
variable {X : Cx}
theorem se_glob {x : Str} {v : Val} {u : Value} {pos : Pos} (hm : X.mg x = some u) (r : Cst X.K u v) (hg : Gl X x := by rfl) (hd : (x == ("__debug__" : Str)) = false := by decide) : PE X (.Name x pos) (RE X (mC v)) := by
  obtain ⟨y, ry, rr⟩ := r.ex
  exact se_const (pe_glob hg hm ry hd) rr

/-! ### two operands -/
/-- a op b, by their values -/
def mBin (f : Val → Val → Sto → Option (Val × Sto)) (a b : ME) : ME := mBind a fun x => mBind b fun y _ st => f x y st
/-- what a rule by values has to keep -/
def BinOk (X : Cx) (r : R2) (f : Val → Val → Sto → Option (Val × Sto)) : Prop := ∀ (W : Wd) (H : Hp) (st st' : Sto) (a b v : Val) (x y : V) (Q : VK), Good X.prog X.w X.K W H st → Rep X.K W H a x → Rep X.K W H b y → f a b st = some (v, st') →
  (∀ W' H' z, Ext W H W' H' → Good X.prog X.w X.K W' H' st' → Rep X.K W' H' v z → Q z H') → r x y H Q
theorem bin_ok {r : R2} {f : Val → Val → Sto → Option (Val × Sto)} (hr : BinOk X r f) {ma mb : ME} {σ : L2.St} {H : Hp} {Q : VK} (h : RE X (mBin f ma mb) σ H Q) : tOp r (RE X ma) (RE X mb) σ H Q := by
  refine rd_bind (R := Rep X.K) h fun W1 H1 env st1 st' a x c g1 er1 ra e q => ?_
  have h2 : RE X (mBind mb fun y _ st => f a y st) σ H1 fun z H' => (∃ W', Ext W1 H1 W' H' ∧ Good X.prog X.w X.K W' H' st' ∧ Rep X.K W' H' c z) := ⟨W1, env, st1, c, st', g1, er1, e, fun W' H' y x2 g2 s => ⟨W', x2, g2, s⟩⟩
  obtain ⟨b, st2, e1, e2⟩ := mBind_some e
  refine ⟨W1, env, st1, b, st2, g1, er1, e1, fun W2 H2 y x2 g2 rb => ?_⟩
  exact hr W2 H2 st2 st' a b c x y Q g2 (Rep.ext x2.toExt0 _ _ ra) rb e2 fun W' H' z x3 g3 s => q W' H' z (x2.trans x3) g3 s
theorem se_bin {op : Operator} {r : R2} {f : Val → Val → Sto → Option (Val × Sto)} {a b : Expr} {pos : Pos} {ma mb : ME} (ho : OpR X (binaryOp op) r) (hr : BinOk X r f) (ha : PE X a (RE X ma)) (hb : PE X b (RE X mb)) : PE X (.BinOp a op b pos) (RE X (mBin f ma mb)) :=
  pe_weak (pe_op ho ha hb) fun σ H Q h => bin_ok hr h
theorem se_cmp {op : CmpOp} {r : R2} {f : Val → Val → Sto → Option (Val × Sto)} {a b : Expr} {pos : Pos} {ma mb : ME} (ho : OpR X (compareOp op) r) (hr : BinOk X r f) (ha : PE X a (RE X ma)) (hb : PE X b (RE X mb)) (hm : behindInMarks op b = false := by rfl) :
    PE X (.Compare a [op] [b] pos) (RE X (mBin f ma mb)) := pe_weak (pe_cmpR ho ha hb hm) fun σ H Q h => bin_ok hr h
/-- one operand -/
def mUn (f : Val → Sto → Option (Val × Sto)) (a : ME) : ME := mBind a fun x _ st => f x st
def UnOk (X : Cx) (r : V → Hp → VK → Prop) (f : Val → Sto → Option (Val × Sto)) : Prop := ∀ (W : Wd) (H : Hp) (st st' : Sto) (a v : Val) (x : V) (Q : VK), Good X.prog X.w X.K W H st → Rep X.K W H a x → f a st = some (v, st') →
  (∀ W' H' z, Ext W H W' H' → Good X.prog X.w X.K W' H' st' → Rep X.K W' H' v z → Q z H') → r x H Q
theorem un_ok {r : V → Hp → VK → Prop} {f : Val → Sto → Option (Val × Sto)} (hr : UnOk X r f) {ma : ME} {σ : L2.St} {H : Hp} {Q : VK} (h : RE X (mUn f ma) σ H Q) : tUn r (RE X ma) σ H Q :=
  rd_bind (R := Rep X.K) h fun W1 H1 env st1 st' a x c g1 er1 ra e q => hr W1 H1 st1 st' a c x Q g1 ra e q

/-! ### arguments -/
def aNil : MA := fun _ st => some ([], st)
def aCons (a : ME) (r : MA) : MA := mBind a fun x => mBind r fun xs _ st => some (x :: xs, st)
theorem sa_nil : PA X [] (RA X aNil) := pa_weak pa_nil fun σ H Q h => by
  obtain ⟨W, env, st, c, st', g, er, e, q⟩ := h
  cases e
  exact q W H [] Ext.refl g .nil
theorem sa_cons {e : Expr} {es : List Expr} {ma : ME} {mr : MA} (ha : PE X e (RE X ma)) (hr : PA X es (RA X mr)) (hs : starEach (e :: es) X.env = (false, eval e X.env) :: starEach es X.env := by rfl) : PA X (e :: es) (RA X (aCons ma mr)) := by
  refine pa_weak (pa_cons ha hr hs) fun σ H Q h => ?_
  refine rd_bind (R := Rep X.K) h fun W1 H1 env st1 st' a x c g1 er1 ra e q => ?_
  obtain ⟨b, st2, e1, e2⟩ := mBind_some e
  cases e2
  exact ⟨W1, env, st1, b, st', g1, er1, e1, fun W2 H2 ys x2 g2 rb => q W2 H2 (x :: ys) x2 g2 (.cons (Rep.ext x2.toExt0 _ _ ra) rb)⟩
end
end Sh

-- part Sh4
set_option Elab.async false
set_option linter.all false
set_option maxRecDepth 100000
set_option maxHeartbeats 1000000
namespace Sh
open PySem PySem.Spec PyProof.Rows L2

/-! ### lists of the store, read -/
/-- a list of the store by what stands in it -/
def dref (st : Sto) : Val → Val
  | .ref i => match st[i]? with
    | some (.lst xs) => .lst xs
    | _ => .ref i
  | .tpl xs => .tup xs
  | v => v
section
variable {X : Cx} {W : Wd} {H : Hp} {st : Sto}
abbrev GoodX (X : Cx) := Good X.prog X.w X.K
/-- a value and what it is read as -/
inductive RdAs (X : Cx) (W : Wd) (H : Hp) : Val → V → Prop
  | self {v : Val} {x : V} : Rep X.K W H v x → (∀ i, v ≠ .ref i) → RdAs X W H v x
  | lst {a : Addr} {xs : List Val} {Vs : List V} : H a = some (.lst Vs) → Reps X.K W H xs Vs → RdAs X W H (.lst xs) (.ref a)
theorem dref_ok (g : GoodX X W H st) {v u : Val} {x : V} (r : Rep X.K W H v x) (e : dref st v = u) (hu : ∀ i, u ≠ .ref i) : RdAs X W H u x := by
  cases v with
  | ref i =>
    unfold dref at e
    simp only at e
    split at e
    · rename_i xs es
      subst e
      cases r with
      | ref h =>
        obtain ⟨a, h1, Vs, h2, h3⟩ := g.at es
        rw [h] at h1
        cases h1
        exact .lst h2 h3
    · exact absurd e.symm (hu i)
  | tpl xs => subst e; exact .self r.tpl_tup hu
  | _ => subst e; exact .self r hu
theorem RdAs.dp {v : Val} {x : V} (r : RdAs X W H v x) {d : PyData} (h : vdata v = some d) : Dp X.K H x d := by
  cases r with
  | self r _ => exact Rep.dp _ _ _ r h
  | lst h1 h2 =>
    rw [vdata, Option.map_eq_some_iff] at h
    obtain ⟨ds, e1, rfl⟩ := h
    exact .lst (.inl (.inl h1)) (Reps.dp _ _ _ h2 e1)
/-- the items of a list -/
def vlist (st : Sto) (v : Val) : Option (List Val) := match dref st v with
  | .lst xs => some xs
  | .sc xs => some xs
  | _ => none
theorem vlist_ok (g : GoodX X W H st) {v : Val} {x : V} {xs : List Val} (r : Rep X.K W H v x) (e : vlist st v = some xs) : ∃ a Vs, x = .ref a ∧ SqL X.K H a Vs ∧ Reps X.K W H xs Vs := by
  unfold vlist at e
  split at e
  · rename_i ys e1
    cases e
    cases dref_ok g r e1 (by intro i; simp) with
    | self r _ => cases r with
      | lst h0 h1 h2 => exact ⟨_, _, rfl, .inl (.inl h1), h2⟩
    | lst h1 h2 => exact ⟨_, _, rfl, .inl (.inl h1), h2⟩
  · rename_i ys e1
    cases e
    cases dref_ok g r e1 (by intro i; simp) with
    | self r _ => cases r with
      | fls h1 h2 => exact ⟨_, _, rfl, .inl (.inr ⟨_, h1⟩), h2⟩
      | kls h1 h2 => exact ⟨_, _, rfl, klst_sq h1, h2⟩
  · cases e
/-- .. of one that is not locked -/
def vlistM (st : Sto) (v : Val) : Option (List Val) := match dref st v with
  | .lst xs => some xs
  | _ => none
theorem vlistM_ok (g : GoodX X W H st) {v : Val} {x : V} {xs : List Val} (r : Rep X.K W H v x) (e : vlistM st v = some xs) : ∃ a Vs, x = .ref a ∧ H a = some (.lst Vs) ∧ Reps X.K W H xs Vs := by
  unfold vlistM at e
  split at e
  · rename_i ys e1
    cases e
    cases dref_ok g r e1 (by intro i; simp) with
    | self r _ => cases r with
      | lst h0 h1 h2 => exact ⟨_, _, rfl, h1, h2⟩
    | lst h1 h2 => exact ⟨_, _, rfl, h1, h2⟩
  · cases e
/-- the items of a list or a tuple -/
def vseq (st : Sto) (v : Val) : Option (List Val) := match dref st v with
  | .lst xs => some xs
  | .sc xs => some xs
  | .tup xs => some xs
  | _ => none
theorem vseq_ok (g : GoodX X W H st) {v : Val} {x : V} {xs : List Val} (r : Rep X.K W H v x) (e : vseq st v = some xs) : ∃ a Vs, x = .ref a ∧ (SqL X.K H a Vs ∨ SqT X.K H a Vs) ∧ Reps X.K W H xs Vs := by
  unfold vseq at e
  split at e
  · rename_i ys e1
    obtain ⟨a, Vs, h1, h2, h3⟩ := vlist_ok g r (show vlist st v = some xs by unfold vlist; rw [e1]; exact e)
    exact ⟨a, Vs, h1, .inl h2, h3⟩
  · rename_i ys e1
    obtain ⟨a, Vs, h1, h2, h3⟩ := vlist_ok g r (show vlist st v = some xs by unfold vlist; rw [e1]; exact e)
    exact ⟨a, Vs, h1, .inl h2, h3⟩
  · rename_i ys e1
    cases e
    cases dref_ok g r e1 (by intro i; simp) with
    | self r _ => cases r with
      | tup h1 h2 => exact ⟨_, _, rfl, .inr h1, h2⟩
  · cases e

/-! ### new tuples, new lists that stay -/
theorem new_tup (g : GoodX X W H st) {xs : List Val} {Vs : List V} (r : Reps X.K W H xs Vs) {p : Addr} (hp : H p = none) :
    Ext W H W (upd H p (.tup Vs)) ∧ GoodX X W (upd H p (.tup Vs)) st ∧ Rep X.K W (upd H p (.tup Vs)) (.tup xs) (.ref p) :=
  ⟨Ext.same (same_new hp), g.same (same_new hp), .tup (.inl (.inl upd_same)) (Reps.ext (Ext.same (same_new hp)).toExt0 _ _ r)⟩
theorem new_lst (g : GoodX X W H st) {xs : List Val} {Vs : List V} (r : Reps X.K W H xs Vs) {p : Addr} (hp : H p = none) :
    Ext W H (W.frz p) (upd H p (.lst Vs)) ∧ GoodX X (W.frz p) (upd H p (.lst Vs)) st ∧ Rep X.K (W.frz p) (upd H p (.lst Vs)) (.lst xs) (.ref p) := by
  have e1 : Ext W H W (upd H p (.lst Vs)) := Ext.same (same_new hp)
  exact ⟨e1.frz hp, (g.same (same_new hp)).frz upd_same (g.notIn hp), .lst (.inr rfl) upd_same (Reps.ext (e1.frz hp).toExt0 _ _ r)⟩

/-! ### arithmetic -/
def vI2 (g : Int → Int → Val) : Val → Val → Sto → Option (Val × Sto)
  | .int i, .int j, st => some (g i j, st)
  | _, _, _ => none
/-- a value that stands by itself -/
inductive Flat : Val → V → Prop
  | non : Flat .non .non
  | bl (b : Bool) : Flat (.bl b) (.bl b)
  | int (i : Int) : Flat (.int i) (.int i)
  | str (s : Str) : Flat (.str s) (.str s)
theorem Flat.rep {v : Val} {x : V} (f : Flat v x) (W : Wd) (H : Hp) : Rep X.K W H v x := by
  cases f with
  | non => exact .non
  | bl b => exact .bl b
  | int i => exact .int i
  | str s => exact .str s
def vI2C (C : Int → Int → Bool) (g : Int → Int → Val) : Val → Val → Sto → Option (Val × Sto)
  | .int i, .int j, st => if C i j = true then some (g i j, st) else none
  | _, _, _ => none
theorem bin_I0 {g : Int → Int → Val} {g' : Int → Int → V} (hg : ∀ i j, Flat (g i j) (g' i j)) : BinOk X (rI0 g') (vI2 g) := by
  intro W H st st' a b v x y Q gd ra rb e q
  unfold vI2 at e
  split at e
  · cases e
    cases ra
    cases rb
    exact ⟨_, _, rfl, rfl, q W H _ Ext.refl gd ((hg _ _).rep W H)⟩
  · cases e
theorem bin_IC {C : Int → Int → Bool} {D : Int → Int → Prop} {g : Int → Int → Val} {g' : Int → Int → V} (hg : ∀ i j, Flat (g i j) (g' i j)) (hC : ∀ i j, C i j = true → D i j) : BinOk X (rI D g') (vI2C C g) := by
  intro W H st st' a b v x y Q gd ra rb e q
  unfold vI2C at e
  split at e
  · split at e
    · rename_i hc
      cases e
      cases ra
      cases rb
      exact ⟨_, _, rfl, rfl, hC _ _ hc, q W H _ Ext.refl gd ((hg _ _).rep W H)⟩
    · cases e
  · cases e
theorem BinOk.or {r r' : R2} {f f' : Val → Val → Sto → Option (Val × Sto)} (h : BinOk X r f) (h' : BinOk X r' f') : BinOk X (fun x y H Q => r x y H Q ∨ r' x y H Q) (fun a b st => match f a b st with | some z => some z | none => f' a b st) := by
  intro W H st st' a b v x y Q gd ra rb e q
  dsimp only at e
  split at e
  · rename_i z ez
    cases e
    exact .inl (h W H st st' a b v x y Q gd ra rb ez q)
  · exact .inr (h' W H st st' a b v x y Q gd ra rb e q)
def mulOk (i j : Int) : Bool := decide (i.natAbs.log2 + j.natAbs.log2 < 1000000)
def divOk (_ j : Int) : Bool := decide (0 < j ∧ j.natAbs.log2 < 9000)
def powOk (i j : Int) : Bool := decide (0 ≤ j ∧ (i.natAbs.log2 + 1) * j.toNat ≤ 1000000)
def vSub := vI2 fun i j => .int (i - j)
def vMulI := vI2C mulOk fun i j => .int (i * j)
def vFloorDiv := vI2C divOk fun i j => .int (i / j)
def vMod := vI2C (fun _ j => decide (0 < j)) fun i j => .int (i % j)
def vPow := vI2C powOk fun i j => .int (i ^ j.toNat)
theorem op_powW : OpR X (binaryOp .Pow) (rI (fun i j => powOk i j = true) fun i j => .int (i ^ j.toNat)) := opI fun i j _ _ _ _ _ hc q => by
  unfold powOk at hc
  have h := of_decide_eq_true hc
  have b : Builtin.Int.intBits i ≤ i.natAbs.log2 + 1 := by
    unfold Builtin.Int.intBits
    split <;> omega
  refine pow_int h.1 ?_ q
  have h2 : Builtin.Int.intBits i * j.toNat ≤ (i.natAbs.log2 + 1) * j.toNat := Nat.mul_le_mul_right _ b
  have h3 : ((Builtin.Int.intBits i : Nat) : Int) * j = ((Builtin.Int.intBits i * j.toNat : Nat) : Int) := by
    rw [Int.natCast_mul, Int.toNat_of_nonneg h.1]
  rw [h3]
  have h4 := h.2
  omega
theorem ok_sub : BinOk X (rI0 fun i j => .int (i - j)) vSub := bin_I0 fun _ _ => .int _
theorem ok_mulI : BinOk X (rI CMulW fun i j => .int (i * j)) vMulI := bin_IC (fun _ _ => .int _) fun i j h => by
  unfold mulOk at h
  have h2 := of_decide_eq_true h
  exact h2
theorem ok_floorDiv : BinOk X (rI CDivW fun i j => .int (i / j)) vFloorDiv := bin_IC (fun _ _ => .int _) fun i j h => by
  unfold divOk at h
  have h2 := of_decide_eq_true h
  exact h2
theorem ok_mod : BinOk X (rI (fun _ j => 0 < j) fun i j => .int (i % j)) vMod := bin_IC (fun _ _ => .int _) fun _ _ h => of_decide_eq_true h
theorem ok_pow : BinOk X (rI (fun i j => powOk i j = true) fun i j => .int (i ^ j.toNat)) vPow := bin_IC (fun _ _ => .int _) fun _ _ h => h

/-! ### + -/
def lenOk (n : Nat) : Bool := decide (n ≤ 1000000)
theorem lenOk_line {n : Nat} (h : lenOk n = true) : n ≤ sizeLine := by
  have := of_decide_eq_true h
  rw [sizeLine_eq]
  omega
theorem lenOk_lt {n : Nat} (h : lenOk n = true) : n < sizeLine := by
  have := of_decide_eq_true h
  rw [sizeLine_eq]
  omega
def vAddS : Val → Val → Sto → Option (Val × Sto)
  | .str i, .str j, st => if lenOk (i.length + j.length) = true then some (.str (i ++ j), st) else none
  | _, _, _ => none
def vAddT : Val → Val → Sto → Option (Val × Sto)
  | .tup xs, .tup ys, st => if lenOk (xs.length + ys.length) = true then some (.tup (xs ++ ys), st) else none
  | _, _, _ => none
def vAddL (a b : Val) (st : Sto) : Option (Val × Sto) := match vlistM st a, vlistM st b with
  | some xs, some ys => if lenOk (xs.length + ys.length) = true then some (.lst (xs ++ ys), st) else none
  | _, _ => none
theorem ok_addS : BinOk X (fun x y H Q => ∃ i j, x = .str i ∧ y = .str j ∧ i.length + j.length ≤ sizeLine ∧ Q (.str (i ++ j)) H) vAddS := by
  intro W H st st' a b v x y Q gd ra rb e q
  unfold vAddS at e
  split at e
  · split at e
    · rename_i hc
      cases e
      cases ra
      cases rb
      exact ⟨_, _, rfl, rfl, lenOk_line hc, q W H _ Ext.refl gd (.str _)⟩
    · cases e
  · cases e
theorem ok_addT : BinOk X (rCatA X.K) vAddT := by
  intro W H st st' a b v x y Q gd ra rb e q
  unfold vAddT at e
  split at e
  · split at e
    · rename_i xs ys hc
      cases e
      cases ra with
      | tup h1 h2 =>
        cases rb with
        | tup h3 h4 =>
          refine ⟨_, _, _, _, rfl, rfl, h1, h3, by rw [← h2.length, ← h4.length]; exact lenOk_line hc, fun e => ?_, fun _ e => ?_, fun _ _ p hp => ?_⟩
          · subst e
            cases h2
            exact q W H _ Ext.refl gd (.tup h3 h4)
          · subst e
            cases h4
            rw [List.append_nil] at q
            exact q W H _ Ext.refl gd (.tup h1 h2)
          · obtain ⟨n1, n2, n3⟩ := new_tup gd (h2.append h4) hp
            exact q W _ _ n1 n2 n3
    · cases e
  · cases e
theorem ok_addL : BinOk X rCat vAddL := by
  intro W H st st' a b v x y Q gd ra rb e q
  unfold vAddL at e
  split at e
  · rename_i xs ys e1 e2
    split at e
    · rename_i hc
      cases e
      obtain ⟨l1, V1, rfl, h1, r1⟩ := vlistM_ok gd ra e1
      obtain ⟨l2, V2, rfl, h2, r2⟩ := vlistM_ok gd rb e2
      refine ⟨_, _, _, _, rfl, rfl, h1, h2, by rw [← r1.length, ← r2.length]; exact lenOk_line hc, fun p hp => ?_⟩
      obtain ⟨n1, n2, n3⟩ := new_lst gd (r1.append r2) hp
      exact q _ _ _ n1 n2 n3
    · cases e
  · cases e
/-- a + b -/
def vAdd (a b : Val) (st : Sto) : Option (Val × Sto) := match a, b with
  | .int i, .int j => some (.int (i + j), st)
  | .str i, .str j => if lenOk (i.length + j.length) = true then some (.str (i ++ j), st) else none
  | .tup xs, .tup ys => if lenOk (xs.length + ys.length) = true then some (.tup (xs ++ ys), st) else none
  | a, b => vAddL a b st
theorem op_addV : OpR X (binaryOp .Add) (fun x y H Q => (rI0 (fun i j => .int (i + j)) x y H Q ∨ (∃ i j, x = .str i ∧ y = .str j ∧ i.length + j.length ≤ sizeLine ∧ Q (.str (i ++ j)) H)) ∨ (rCatA X.K x y H Q ∨ rCat x y H Q)) :=
  (op_add.or op_add_str).or (op_catA.or op_cat)
theorem ok_add : BinOk X (fun x y H Q => (rI0 (fun i j => .int (i + j)) x y H Q ∨ (∃ i j, x = .str i ∧ y = .str j ∧ i.length + j.length ≤ sizeLine ∧ Q (.str (i ++ j)) H)) ∨ (rCatA X.K x y H Q ∨ rCat x y H Q)) vAdd := by
  intro W H st st' a b v x y Q gd ra rb e q
  unfold vAdd at e
  split at e
  · exact .inl (.inl (bin_I0 (g := fun i j => .int (i + j)) (fun _ _ => .int _) W H st st' _ _ v x y Q gd ra rb e q))
  · exact .inl (.inr (ok_addS W H st st' _ _ v x y Q gd ra rb e q))
  · exact .inr (.inl (ok_addT W H st st' _ _ v x y Q gd ra rb e q))
  · exact .inr (.inr (ok_addL W H st st' _ _ v x y Q gd ra rb e q))

/-! ### comparisons -/
def vLt := vI2 fun i j => .bl (decide (i < j))
def vLe := vI2 fun i j => .bl (decide (i ≤ j))
def vGt := vI2 fun i j => .bl (decide (j < i))
def vGe := vI2 fun i j => .bl (decide (j ≤ i))
theorem ok_lt : BinOk X (rI0 fun i j => .bl (decide (i < j))) vLt := bin_I0 fun _ _ => .bl _
theorem ok_le : BinOk X (rI0 fun i j => .bl (decide (i ≤ j))) vLe := bin_I0 fun _ _ => .bl _
theorem ok_gt : BinOk X (rI0 fun i j => .bl (decide (j < i))) vGt := bin_I0 fun _ _ => .bl _
theorem ok_ge : BinOk X (rI0 fun i j => .bl (decide (j ≤ i))) vGe := bin_I0 fun _ _ => .bl _
theorem shaped_of {v : Val} (h : vflat 64 v = true) : ∃ d, vdata v = some d ∧ SeqAt.shaped d = true := by
  obtain ⟨d, h1, h2, h3⟩ := vflat_data v 64 h
  exact ⟨d, h1, by unfold SeqAt.shaped; rw [h2, decide_eq_true h3]; rfl⟩
theorem flat_noref {v : Val} {n : Nat} (h : vflat n v = true) (i : Nat) : v ≠ .ref i := by
  intro e
  subst e
  cases n <;> simp [vflat] at h
def vEq (a b : Val) (st : Sto) : Option (Val × Sto) :=
  if (vflat 64 (dref st a) && vflat 64 (dref st b)) = true then some (.bl (veq (dref st a) (dref st b)), st) else none
def vNe (a b : Val) (st : Sto) : Option (Val × Sto) :=
  if (vflat 64 (dref st a) && vflat 64 (dref st b)) = true then some (.bl (!veq (dref st a) (dref st b)), st) else none
theorem ok_eq : BinOk X (rEqD X.K) vEq := by
  intro W H st st' a b v x y Q gd ra rb e q
  unfold vEq at e
  split at e
  · rename_i hc
    rw [Bool.and_eq_true] at hc
    cases e
    obtain ⟨d, d1, d2⟩ := shaped_of hc.1
    obtain ⟨f, f1, f2⟩ := shaped_of hc.2
    refine ⟨d, f, (dref_ok gd ra rfl (flat_noref hc.1)).dp d1, (dref_ok gd rb rfl (flat_noref hc.2)).dp f1, d2, f2, ?_⟩
    rw [veq_data _ _ _ _ d1 f1]
    exact q W H _ Ext.refl gd (.bl _)
  · cases e
theorem ok_ne : BinOk X (rNeD X.K) vNe := by
  intro W H st st' a b v x y Q gd ra rb e q
  unfold vNe at e
  split at e
  · rename_i hc
    rw [Bool.and_eq_true] at hc
    cases e
    obtain ⟨d, d1, d2⟩ := shaped_of hc.1
    obtain ⟨f, f1, f2⟩ := shaped_of hc.2
    refine ⟨d, f, (dref_ok gd ra rfl (flat_noref hc.1)).dp d1, (dref_ok gd rb rfl (flat_noref hc.2)).dp f1, d2, f2, ?_⟩
    rw [veq_data _ _ _ _ d1 f1]
    exact q W H _ Ext.refl gd (.bl _)
  · cases e
def isNon : Val → Bool
  | .non => true
  | _ => false
/-- is of None, of bools -/
def vIs (a b : Val) (st : Sto) : Option (Val × Sto) := match a, b with
  | .ref _, _ => none
  | a, .non => some (.bl (isNon a), st)
  | .bl a, .bl b => some (.bl (decide (a = b)), st)
  | _, _ => none
def vIsNot (a b : Val) (st : Sto) : Option (Val × Sto) := match a, b with
  | .ref _, _ => none
  | a, .non => some (.bl (!isNon a), st)
  | .bl a, .bl b => some (.bl (!decide (a = b)), st)
  | _, _ => none
theorem ok_is : BinOk X (fun x y H Q => (y = .non ∧ Q (.bl (decide (x = .non))) H) ∨ rIsB x y H Q) vIs := by
  intro W H st st' a b v x y Q gd ra rb e q
  unfold vIs at e
  split at e
  · cases e
  · cases e
    cases rb
    refine .inl ⟨rfl, ?_⟩
    have : decide (x = V.non) = isNon a := by cases ra <;> simp [isNon]
    rw [this]
    exact q W H _ Ext.refl gd (.bl _)
  · cases e
    cases ra
    cases rb
    exact .inr ⟨_, _, rfl, rfl, q W H _ Ext.refl gd (.bl _)⟩
  · cases e
theorem ok_isNot : BinOk X (fun x y H Q => (y = .non ∧ Q (.bl (!decide (x = .non))) H) ∨ rNotB x y H Q) vIsNot := by
  intro W H st st' a b v x y Q gd ra rb e q
  unfold vIsNot at e
  split at e
  · cases e
  · cases e
    cases rb
    refine .inl ⟨rfl, ?_⟩
    have : (!decide (x = V.non)) = !isNon a := by cases ra <;> simp [isNon]
    rw [this]
    exact q W H _ Ext.refl gd (.bl _)
  · cases e
    cases ra
    cases rb
    exact .inr ⟨_, _, rfl, rfl, q W H _ Ext.refl gd (.bl _)⟩
  · cases e
theorem op_isV : OpR X (compareOp .Is) (fun x y H Q => (y = .non ∧ Q (.bl (decide (x = .non))) H) ∨ rIsB x y H Q) := op_isN.or op_isBl
theorem op_isNotV : OpR X (compareOp .IsNot) (fun x y H Q => (y = .non ∧ Q (.bl (!decide (x = .non))) H) ∨ rNotB x y H Q) := op_notN.or op_notBl

/-! ### the operators of the text -/
section
variable {a b : Expr} {pos : Pos} {ma mb : ME}
theorem se_add (ha : PE X a (RE X ma)) (hb : PE X b (RE X mb)) : PE X (.BinOp a .Add b pos) (RE X (mBin vAdd ma mb)) := se_bin op_addV ok_add ha hb
theorem se_sub (ha : PE X a (RE X ma)) (hb : PE X b (RE X mb)) : PE X (.BinOp a .Sub b pos) (RE X (mBin vSub ma mb)) := se_bin op_sub ok_sub ha hb
theorem se_mul (ha : PE X a (RE X ma)) (hb : PE X b (RE X mb)) : PE X (.BinOp a .Mult b pos) (RE X (mBin vMulI ma mb)) := se_bin op_mulW ok_mulI ha hb
theorem se_fdiv (ha : PE X a (RE X ma)) (hb : PE X b (RE X mb)) : PE X (.BinOp a .FloorDiv b pos) (RE X (mBin vFloorDiv ma mb)) := se_bin op_fdivW ok_floorDiv ha hb
theorem se_mod (ha : PE X a (RE X ma)) (hb : PE X b (RE X mb)) : PE X (.BinOp a .Mod b pos) (RE X (mBin vMod ma mb)) := se_bin op_mod ok_mod ha hb
theorem se_pow (ha : PE X a (RE X ma)) (hb : PE X b (RE X mb)) : PE X (.BinOp a .Pow b pos) (RE X (mBin vPow ma mb)) := se_bin op_powW ok_pow ha hb
end
end
end Sh

-- part Sh5
set_option Elab.async false
set_option linter.all false
set_option maxRecDepth 100000
set_option maxHeartbeats 1000000
namespace Sh
open PySem PySem.Spec PyProof.Rows L2

/-! ### dicts by their pairs -/
def dget (kvs : List (Val × Val)) (k : Val) : Option Val := (kvs.find? fun p => veq p.1 k).map (·.2)
def dput (kvs : List (Val × Val)) (k v : Val) : List (Val × Val) := if (kvs.any fun p => veq p.1 k) = true then kvs.map fun p => if veq p.1 k = true then (p.1, v) else p else kvs ++ [(k, v)]
def kleaf : Val → Bool
  | .int _ => true
  | .str _ => true
  | _ => false
mutual
/-- what may stand in a key, n deep -/
def tkey : Nat → Val → Bool
  | _, .non => true
  | _, .bl _ => true
  | _, .int _ => true
  | _, .str _ => true
  | 0, .tup _ => false
  | n + 1, .tup xs => tkeys n xs
  | _, .tpl _ => false
  | _, .lst _ => false
  | _, .sc _ => false
  | _, .ref _ => false
def tkeys : Nat → List Val → Bool
  | _, [] => true
  | n, x :: xs => tkey n x && tkeys n xs
end
def ktup : Val → Bool
  | .tup xs => tkeys 7 xs
  | _ => false
/-- keys of one sort -/
def keyFit (kvs : List (Val × Val)) (k : Val) : Bool := match kvs with
  | [] => kleaf k || ktup k
  | (k0, _) :: _ => (kleaf k0 && kleaf k) || (ktup k0 && ktup k)
mutual
theorem tkey_nkey : ∀ (v : Val) (n : Nat), tkey n v = true → ∃ k, nkey v = some k ∧ k.depth ≤ n
  | .non, n, _ => ⟨_, rfl, by simp [NestedKey.depth]⟩
  | .bl _, n, _ => ⟨_, rfl, by simp [NestedKey.depth]⟩
  | .int _, n, _ => ⟨_, rfl, by simp [NestedKey.depth]⟩
  | .str _, n, _ => ⟨_, rfl, by simp [NestedKey.depth]⟩
  | .tup xs, 0, h => by simp [tkey] at h
  | .tup xs, n + 1, h => by
    rw [tkey] at h
    obtain ⟨ks, h1, h2⟩ := tkeys_nkeys xs n h
    exact ⟨.tup ks, by rw [nkey, h1]; rfl, by rw [NestedKey.depth]; omega⟩
  | .tpl _, n, h => by simp [tkey] at h
  | .lst _, n, h => by simp [tkey] at h
  | .sc _, n, h => by simp [tkey] at h
  | .ref _, n, h => by simp [tkey] at h
theorem tkeys_nkeys : ∀ (vs : List Val) (n : Nat), tkeys n vs = true → ∃ ks, nkeys vs = some ks ∧ NestedKey.depthAll ks ≤ n
  | [], n, _ => ⟨[], rfl, by simp [NestedKey.depthAll]⟩
  | v :: vs, n, h => by
    rw [tkeys, Bool.and_eq_true] at h
    obtain ⟨k, h1, h2⟩ := tkey_nkey v n h.1
    obtain ⟨ks, h3, h4⟩ := tkeys_nkeys vs n h.2
    exact ⟨k :: ks, by rw [nkeys, h1, h3], by rw [NestedKey.depthAll]; omega⟩
end
mutual
theorem veq_nkey : ∀ (v u : Val) (j k : NestedKey), nkey v = some j → nkey u = some k → veq v u = decide (j = k)
  | .non, u, j, k, h1, h2 => by
    cases u <;> simp [nkey] at h1 h2 <;> (try subst h1) <;> (try subst h2) <;> (try (obtain ⟨_, _, rfl⟩ := h2)) <;> rw [NestedKey.decide_eq] <;> simp [NestedKey.beq, veq]
  | .bl b, u, j, k, h1, h2 => by
    cases u <;> simp [nkey] at h1 h2 <;> (try subst h1) <;> (try subst h2) <;> (try (obtain ⟨_, _, rfl⟩ := h2)) <;> rw [NestedKey.decide_eq] <;> simp [NestedKey.beq, veq]
    · rename_i c
      cases b <;> cases c <;> simp
    · rw [Bool.beq_eq_decide_eq]
  | .int b, u, j, k, h1, h2 => by
    cases u <;> simp [nkey] at h1 h2 <;> (try subst h1) <;> (try subst h2) <;> (try (obtain ⟨_, _, rfl⟩ := h2)) <;> rw [NestedKey.decide_eq] <;> simp [NestedKey.beq, veq] <;> rw [Bool.beq_eq_decide_eq]
  | .str b, u, j, k, h1, h2 => by
    cases u <;> simp [nkey] at h1 h2 <;> (try subst h1) <;> (try subst h2) <;> (try (obtain ⟨_, _, rfl⟩ := h2)) <;> rw [NestedKey.decide_eq] <;> simp [NestedKey.beq, veq]
    rw [Bool.beq_eq_decide_eq]
  | .tup xs, u, j, k, h1, h2 => by
    cases u <;> simp [nkey] at h1 h2 <;> (try subst h2) <;> obtain ⟨ds, h3, rfl⟩ := h1 <;> (try (obtain ⟨es, h4, rfl⟩ := h2)) <;> rw [NestedKey.decide_eq] <;> simp [NestedKey.beq, veq]
    exact veqs_nkeys xs _ _ _ h3 h4
  | .lst xs, u, j, k, h1, h2 => by simp [nkey] at h1
  | .sc xs, u, j, k, h1, h2 => by simp [nkey] at h1
  | .ref xs, u, j, k, h1, h2 => by simp [nkey] at h1
theorem veqs_nkeys : ∀ (vs us : List Val) (js ks : List NestedKey), nkeys vs = some js → nkeys us = some ks → veqs vs us = NestedKey.beqAll js ks
  | [], us, js, ks, h1, h2 => by
    simp [nkeys] at h1
    subst h1
    cases us with
    | nil => simp [nkeys] at h2; subst h2; simp [NestedKey.beqAll, veqs]
    | cons u us =>
      rw [nkeys] at h2
      split at h2
      · cases h2; simp [NestedKey.beqAll, veqs]
      · cases h2
  | v :: vs, us, js, ks, h1, h2 => by
    rw [nkeys] at h1
    split at h1
    · rename_i d ds' e1 e2
      cases h1
      cases us with
      | nil => simp [nkeys] at h2; subst h2; simp [NestedKey.beqAll, veqs]
      | cons u us =>
        rw [nkeys] at h2
        split at h2
        · rename_i e es' e3 e4
          cases h2
          rw [NestedKey.beqAll, veqs, veq_nkey v u d e e1 e3, veqs_nkeys vs us ds' es' e2 e4, NestedKey.decide_eq]
        · cases h2
    · cases h1
end
theorem ktup_nkey {v : Val} (h : ktup v = true) : ∃ xs, v = .tup xs ∧ ∃ k, nkey v = some k ∧ k.depth ≤ 8 := by
  unfold ktup at h
  split at h
  · rename_i xs
    exact ⟨xs, rfl, tkey_nkey (.tup xs) 8 (by rw [tkey]; exact h)⟩
  · cases h
section
variable {X : Cx} {W : Wd} {H : Hp} {pins : List (Addr × Obj)} {σ : L2.St} {s : Shared}
mutual
theorem rep_nested (I : Inv X pins σ H s) : ∀ (v : Val) (x : V) (u : Value) (k : NestedKey), Rep X.K W H v x → RelV x u → nkey v = some k → NestedIs s.heap k u
  | .non, _, _, _, h, r, e => by cases h; cases r; cases e; exact .none
  | .bl b, _, _, _, h, r, e => by cases h; cases r; cases e; exact .bool rfl
  | .int b, _, _, _, h, r, e => by cases h; obtain ⟨t, rfl⟩ := r; cases e; exact .int _ _
  | .str b, _, _, _, h, r, e => by cases h; obtain ⟨t, rfl⟩ := r; cases e; exact .text _ _
  | .tup xs, _, _, k, h, r, e => by
    rw [nkey, Option.map_eq_some_iff] at e
    obtain ⟨ks, e1, rfl⟩ := e
    cases h with
    | tup h1 h2 =>
      cases r
      obtain ⟨its, rv, ⟨o, h3, h4, n, h5⟩, _⟩ := I.tuple h1
      exact .tup h3 h4 h5 (by simpa using reps_nested I xs _ its ks h2 rv e1)
  | .lst _, _, _, _, _, _, e => by simp [nkey] at e
  | .sc _, _, _, _, _, _, e => by simp [nkey] at e
  | .ref _, _, _, _, _, _, e => by simp [nkey] at e
theorem reps_nested (I : Inv X pins σ H s) : ∀ (vs : List Val) (xs : List V) (us : List Value) (ks : List NestedKey), Reps X.K W H vs xs → Vals xs us → nkeys vs = some ks → NestedAll s.heap ks us
  | [], _, _, _, h, r, e => by cases h; cases r; simp [nkeys] at e; subst e; exact .nil
  | v :: vs, _, _, ks, h, r, e => by
    cases h with
    | cons h1 h2 =>
      cases r with
      | cons r1 r2 =>
        rw [nkeys] at e
        split at e
        · rename_i k ks' e1 e2
          cases e
          exact .cons (rep_nested I v _ _ k h1 r1 e1) (reps_nested I vs _ _ ks' h2 r2 e2)
        · cases e
end
/-- what stands at a dict with tuple keys -/
theorem dn_at {kvs : List (Val × Val)} {a : Addr} (I : Inv X pins σ H s) (h : DN X.prog X.w X.K W H kvs a) : ∃ xs, s.heap.DictOfH (nestedKind X.prog X.w) a xs ∧ (a == sysModules) = false ∧ xs.length ≤ sizeLine ∧ xs.length = kvs.length ∧
    Paired (fun p x => nkey p.1 = some x.1 ∧ x.1.depth ≤ 8 ∧ Rep X.K W H p.1 (.ref x.2.1) ∧ ∃ y, RelV y x.2.2 ∧ Rep X.K W H p.2 y) kvs xs := by
  obtain ⟨o, xs, h1, h2, h3, h4, hne, h5⟩ := h
  obtain ⟨q, _⟩ := (show ObjOk X.prog X.w H s.heap a (.ext fun h => h.get? a = some o) from I.hok a _ h1)
  obtain ⟨es, ep, d1, d2⟩ := h2.dat
  have hl := Paired.length h5
  refine ⟨xs, ⟨o, es, ep, q, h2.ex, d1, d2, fun x hx => ?_, h2.nd⟩, h3, by omega, by omega, h5⟩
  obtain ⟨i, hi⟩ := List.getElem?_of_mem hx
  have : ∃ p, kvs[i]? = some p ∧ nkey p.1 = some x.1 ∧ x.1.depth ≤ 8 ∧ Rep X.K W H p.1 (.ref x.2.1) := by
    clear h2 hl d2 h3 h4 hx h1 hne
    induction h5 generalizing i with
    | nil => simp at hi
    | @cons p y ps ys r t ih =>
      cases i with
      | zero => simp at hi; subst hi; exact ⟨p, rfl, r.1, r.2.1, r.2.2.1⟩
      | succ i => simpa using ih i (by simpa using hi)
  obtain ⟨p, _, n1, n2, n3⟩ := this
  exact ⟨rep_nested I p.1 _ _ x.1 n3 rfl n1, n2⟩
/-- an empty dict is a dict with tuple keys, too -/
theorem dk_nil_at {a : Addr} (I : Inv X pins σ H s) (h : H a = some (.dK [])) : s.heap.DictOfH (nestedKind X.prog X.w) a [] ∧ (a == sysModules) = false := by
  obtain ⟨_, hd, vs, r, o, es, ep, h1, h2, h3, h4, h5, _⟩ := dk_of I.hok h
  cases r
  have hl := h5.length
  have he : es.toList = [] := List.length_eq_zero_iff.mp (by simpa using hl)
  exact ⟨⟨o, es, ep, h1, h2, h3, by rw [he]; rfl, fun x hx => by simp at hx, by simp⟩, hd⟩
/-- a dict's pairs, found by keys -/
theorem pair_find {K : Type} [DecidableEq K] {γ : Type} {f : Val → Option K} (hf : ∀ v u j k, f v = some j → f u = some k → veq v u = decide (j = k)) {G : Val → γ → Prop} {k : Val} {kk : K} (hk : f k = some kk) :
    ∀ {kvs : List (Val × Val)} {xs : List (K × γ)}, Paired (fun p x => f p.1 = some x.1 ∧ G p.2 x.2) kvs xs →
      (dget kvs k = none ∧ xs.find? (fun x => decide (x.1 = kk)) = none) ∨ ∃ v c, dget kvs k = some v ∧ (xs.find? fun x => decide (x.1 = kk)).map (·.2) = some c ∧ G v c
  | [], _, .nil => .inl ⟨rfl, rfl⟩
  | p :: ps, _, .cons (b := x) r t => by
    have e := hf _ _ _ _ r.1 hk
    unfold dget
    rw [List.find?_cons, List.find?_cons, e]
    by_cases h : x.1 = kk
    · rw [decide_eq_true h]
      exact .inr ⟨p.2, x.2, rfl, rfl, r.2⟩
    · rw [decide_eq_false h]
      exact pair_find hf hk t
end
theorem keyOf_veq (v u : Val) (j k : Key) (h1 : keyOf v = some j) (h2 : keyOf u = some k) : veq v u = decide (j = k) := by
  cases v <;> simp [keyOf] at h1 <;> cases u <;> simp [keyOf] at h2 <;> subst h1 <;> subst h2 <;> simp [veq] <;> rw [Bool.beq_eq_decide_eq]
theorem keyOf_kval {v : Val} {k : Key} (h : v = kval k) : keyOf v = some k := by
  subst h
  cases k <;> rfl
theorem kleaf_key {v : Val} (h : kleaf v = true) : ∃ k, keyOf v = some k ∧ v = kval k := by
  cases v <;> simp [kleaf] at h
  · exact ⟨.inl _, rfl, rfl⟩
  · exact ⟨.inr _, rfl, rfl⟩
theorem rep_key {K : PySem.W.Frag} {W : Wd} {H : Hp} {k : Key} {x : V} (h : Rep K W H (kval k) x) : x = kV k := by
  cases k <;> cases h <;> rfl
end Sh

-- part Sh6
set_option Elab.async false
set_option linter.all false
set_option maxRecDepth 100000
set_option maxHeartbeats 1000000
namespace Sh
open PySem PySem.Spec PyProof.Rows L2

section
variable {X : Cx} {W : Wd} {H : Hp} {st : Sto} {pins : List (Addr × Obj)} {σ : L2.St} {s : Shared}
abbrev DctR (X : Cx) (W : Wd) (H : Hp) (kvs : List (Val × Val)) (a : Addr) : Prop := DK X.K W H kvs a ∨ DN X.prog X.w X.K W H kvs a
/-- the pairs of a dict of the store -/
def vdict (st : Sto) : Val → Option (List (Val × Val))
  | .ref i => match st[i]? with
    | some (.dct kvs) => some kvs
    | _ => none
  | _ => none
theorem vdict_ok (g : GoodX X W H st) {v : Val} {x : V} {kvs : List (Val × Val)} (r : Rep X.K W H v x) (e : vdict st v = some kvs) : ∃ i a, v = .ref i ∧ st[i]? = some (.dct kvs) ∧ x = .ref a ∧ W.ms[i]? = some a ∧ DctR X W H kvs a := by
  unfold vdict at e
  split at e
  · rename_i i
    split at e
    · rename_i es
      cases e
      cases r with
      | ref h =>
        obtain ⟨a, h1, h2⟩ := g.at es
        rw [h] at h1
        cases h1
        exact ⟨i, _, rfl, es, rfl, h, h2⟩
    · cases e
  · cases e
/-- what a look-up of a key meets -/
theorem dk_look {K : PySem.W.Frag} {kvs : List (Val × Val)} {a : Addr} {k : Val} {kk : Key} (h : DK K W H kvs a) (hk : keyOf k = some kk) :
    ∃ l : List (Key × V), H a = some (.dK l) ∧ ((dget kvs k = none ∧ valV l kk = none) ∨ ∃ v y, dget kvs k = some v ∧ valV l kk = some y ∧ Rep K W H v y) := by
  obtain ⟨l, h1, h2⟩ := h
  refine ⟨l, h1, ?_⟩
  have q : Paired (fun (p : Val × Val) (x : Key × V) => keyOf p.1 = some x.1 ∧ Rep K W H p.2 x.2) kvs l := paired_imp h2 fun p x r => ⟨keyOf_kval r.1, r.2⟩
  rcases pair_find (f := keyOf) (G := fun v y => Rep K W H v y) keyOf_veq hk q with ⟨e1, e2⟩ | ⟨v, y, e1, e2, e3⟩
  · refine .inl ⟨e1, ?_⟩
    unfold valV
    rw [e2]
    rfl
  · exact .inr ⟨v, y, e1, e2, e3⟩
theorem dn_find {kvs : List (Val × Val)} {xs : List (NestedKey × Addr × Value)} {k : Val} {n : NestedKey} (hk : nkey k = some n)
    (q : Paired (fun p x => nkey p.1 = some x.1 ∧ x.1.depth ≤ 8 ∧ Rep X.K W H p.1 (.ref x.2.1) ∧ ∃ y, RelV y x.2.2 ∧ Rep X.K W H p.2 y) kvs xs) :
    (dget kvs k = none ∧ atKey xs n = none) ∨ ∃ v p y, dget kvs k = some v ∧ atKey xs n = some p ∧ RelV y p.2 ∧ Rep X.K W H v y := by
  have q' : Paired (fun (p : Val × Val) (x : NestedKey × Addr × Value) => nkey p.1 = some x.1 ∧ ∃ y, RelV y x.2.2 ∧ Rep X.K W H p.2 y) kvs xs := paired_imp q fun p x r => ⟨r.1, r.2.2.2⟩
  rcases pair_find (f := nkey) (G := fun v (c : Addr × Value) => ∃ y, RelV y c.2 ∧ Rep X.K W H v y) veq_nkey hk q' with ⟨e1, e2⟩ | ⟨v, c, e1, e2, y, e3, e4⟩
  · refine .inl ⟨e1, ?_⟩
    unfold atKey
    rw [e2]
    rfl
  · exact .inr ⟨v, c, y, e1, e2, e3, e4⟩
/-- a dict met by a tuple key -/
theorem dn_look (I : Inv X pins σ H s) {kvs : List (Val × Val)} {a : Addr} {k : Val} {x : V} (d : DctR X W H kvs a) (f : keyFit kvs k = true) (ht : ktup k = true) (r : Rep X.K W H k x) :
    ∃ xs b n, s.heap.DictOfH (nestedKind X.prog X.w) a xs ∧ (a == sysModules) = false ∧ xs.length ≤ sizeLine ∧ xs.length = kvs.length ∧ x = .ref b ∧ nkey k = some n ∧ (nestedKind X.prog X.w).is s.heap n b ∧ (∃ u, H a = some u ∧ Mut (some u)) ∧
      Paired (fun p x => nkey p.1 = some x.1 ∧ x.1.depth ≤ 8 ∧ Rep X.K W H p.1 (.ref x.2.1) ∧ ∃ y, RelV y x.2.2 ∧ Rep X.K W H p.2 y) kvs xs := by
  obtain ⟨ks, rfl, n, hn, hd⟩ := ktup_nkey ht
  obtain ⟨b, rfl⟩ : ∃ b, x = .ref b := by cases r; exact ⟨_, rfl⟩
  have hi : (nestedKind X.prog X.w).is s.heap n b := ⟨rep_nested I _ _ _ n r rfl hn, hd⟩
  cases kvs with
  | nil =>
    rcases d with ⟨l, h1, h2⟩ | ⟨o, xs, _, _, _, _, hne, _⟩
    · cases h2
      obtain ⟨h3, h4⟩ := dk_nil_at I h1
      exact ⟨[], b, n, h3, h4, Nat.zero_le _, rfl, rfl, hn, hi, ⟨_, h1, trivial⟩, .nil⟩
    · exact absurd rfl hne
  | cons p ps =>
    have hp : ktup p.1 = true := by
      have : keyFit (p :: ps) (.tup ks) = ((kleaf p.1 && kleaf (.tup ks)) || (ktup p.1 && ktup (.tup ks))) := rfl
      rw [this, show kleaf (.tup ks) = false from rfl, Bool.and_false, Bool.false_or, Bool.and_eq_true] at f
      exact f.1
    rcases d with ⟨l, h1, h2⟩ | d
    · cases h2 with
      | cons r1 _ =>
        rename_i q _ _
        rw [r1.1] at hp
        obtain ⟨k1, v1⟩ := q
        cases k1 <;> simp [kval, ktup] at hp
    · obtain ⟨o, xs0, h1, _⟩ := id d
      obtain ⟨xs, h2, h3, h4, h5, h6⟩ := dn_at I d
      exact ⟨xs, b, n, h2, h3, h4, h5, rfl, hn, hi, ⟨_, h1, trivial⟩, h6⟩
/-- a dict met by an int or a text -/
theorem dk_fit {kvs : List (Val × Val)} {a : Addr} {k : Val} {x : V} (d : DctR X W H kvs a) (f : keyFit kvs k = true) (hl : kleaf k = true) (r : Rep X.K W H k x) : DK X.K W H kvs a ∧ ∃ kk, keyOf k = some kk ∧ k = kval kk ∧ x = kV kk := by
  obtain ⟨kk, h1, rfl⟩ := kleaf_key hl
  refine ⟨?_, kk, h1, rfl, rep_key r⟩
  rcases d with d | ⟨o, xs, _, _, _, _, hne, h5⟩
  · exact d
  · cases h5 with
    | nil => exact absurd rfl hne
    | @cons p y ps ys r1 _ =>
      have hp : kleaf p.1 = true := by
        have e : keyFit (p :: ps) (kval kk) = ((kleaf p.1 && kleaf (kval kk)) || (ktup p.1 && ktup (kval kk))) := rfl
        have e2 : ktup (kval kk) = false := by cases kk <;> rfl
        rw [e, e2, Bool.and_false, Bool.or_false, Bool.and_eq_true] at f
        exact f.1
      obtain ⟨_, _, r3, _⟩ := r1
      cases hq : p.1 <;> rw [hq] at hp r3 <;> simp [kleaf] at hp <;> cases r3
theorem fit_or {kvs : List (Val × Val)} {k : Val} (f : keyFit kvs k = true) : kleaf k = true ∨ ktup k = true := by
  unfold keyFit at f
  split at f
  · simpa using f
  · simp only [Bool.or_eq_true, Bool.and_eq_true] at f
    rcases f with f | f
    · exact .inl f.2
    · exact .inr f.2

/-! ### in -/
def rInV (X : Cx) (neg : Bool) : R2 := fun x y H Q => ∃ W a kvs k, y = .ref a ∧ DctR X W H kvs a ∧ keyFit kvs k = true ∧ Rep X.K W H k x ∧ Q (.bl (if neg = true then !(dget kvs k).isSome else (dget kvs k).isSome)) H
theorem room9 {A : Around} (hu : A.units + 80 < cLine) : A.in1.units + 8 < cLine := by show A.units + 1 + 8 < cLine; omega
theorem op_inV (hu : X.A.units + 80 < cLine) : OpR X (compareOp .In) (rInV X false) := by
  intro pins s σ H x y v u Q I rx ry h
  obtain ⟨W, a, kvs, k, rfl, d, f, r, q⟩ := h
  cases ry
  rw [if_neg Bool.false_ne_true] at q
  rcases fit_or f with hl | ht
  · obtain ⟨d, kk, h1, _, rfl⟩ := dk_fit d f hl r
    obtain ⟨l, h2, h3⟩ := dk_look d h1
    refine d_in (o := valV l kk) (by omega) I (DGet.k h2) rx fun s' I' => ⟨.bl _, H, I', rfl, ?_⟩
    rcases h3 with ⟨e1, e2⟩ | ⟨v, y, e1, e2, _⟩
    · rw [e2]
      rw [e1] at q
      exact q
    · rw [e2]
      rw [e1] at q
      exact q
  · obtain ⟨xs, b, n, h1, h2, h3, _, rfl, hn, h4, _, h5⟩ := dn_look I d f ht r
    cases rx
    refine wpAny_in_heap (room9 hu) h4 h2 h1 ?_
    refine ⟨.bl _, H, I.tok _, rfl, ?_⟩
    rcases dn_find hn h5 with ⟨e1, e2⟩ | ⟨v, p, y, e1, e2, _⟩
    · rw [e2]
      rw [e1] at q
      exact q
    · rw [e2]
      rw [e1] at q
      exact q
theorem op_notInV (hu : X.A.units + 80 < cLine) : OpR X (compareOp .NotIn) (rInV X true) := by
  intro pins s σ H x y v u Q I rx ry h
  obtain ⟨W, a, kvs, k, rfl, d, f, r, q⟩ := h
  cases ry
  rw [if_pos rfl] at q
  rcases fit_or f with hl | ht
  · obtain ⟨d, kk, h1, _, rfl⟩ := dk_fit d f hl r
    obtain ⟨l, h2, h3⟩ := dk_look d h1
    refine d_notIn (o := valV l kk) (by omega) I (DGet.k h2) rx fun s' I' => ⟨.bl _, H, I', rfl, ?_⟩
    rcases h3 with ⟨e1, e2⟩ | ⟨v, y, e1, e2, _⟩
    · rw [e2]
      rw [e1] at q
      exact q
    · rw [e2]
      rw [e1] at q
      exact q
  · obtain ⟨xs, b, n, h1, h2, h3, _, rfl, hn, h4, _, h5⟩ := dn_look I d f ht r
    cases rx
    refine wpAny_notIn_heap (room9 hu) h4 h2 h1 ?_
    refine ⟨.bl _, H, I.tok _, rfl, ?_⟩
    rcases dn_find hn h5 with ⟨e1, e2⟩ | ⟨v, p, y, e1, e2, _⟩
    · rw [e2]
      rw [e1] at q
      exact q
    · rw [e2]
      rw [e1] at q
      exact q
/-- in a tuple -/
def rInT (K : PySem.W.Frag) (neg : Bool) : R2 := fun x y H Q => ∃ d ds, Dp K H x d ∧ Dp K H y (.tuple ds) ∧ SeqAt.shaped d = true ∧ SeqAt.shaped (.tuple ds) = true ∧ Q (.bl (if neg = true then !(ds.any fun z => PyData.eqv z d) else ds.any fun z => PyData.eqv z d)) H
theorem op_inT (hu : X.A.units + 80 < cLine) : OpR X (compareOp .In) (rInT X.K false) := by
  intro pins s σ H x y v u Q I rx ry h
  obtain ⟨d, ds, hd, he, sd, se, q⟩ := h
  obtain ⟨_, r1⟩ := Dp.reads I d x v hd rx
  obtain ⟨_, r2⟩ := Dp.reads I (.tuple ds) y u he ry
  exact SeqAt.in_tuple_reads r2 r1 (SeqAt.canLay_of_shaped se) (SeqAt.canLay_of_shaped sd) (room_in_shaped sd (by omega)) ⟨.bl _, H, I, rfl, q⟩
theorem op_notInT (hu : X.A.units + 80 < cLine) : OpR X (compareOp .NotIn) (rInT X.K true) := by
  intro pins s σ H x y v u Q I rx ry h
  obtain ⟨d, ds, hd, he, sd, se, q⟩ := h
  obtain ⟨_, r1⟩ := Dp.reads I d x v hd rx
  obtain ⟨_, r2⟩ := Dp.reads I (.tuple ds) y u he ry
  exact SeqAt.notIn_tuple_reads r2 r1 (SeqAt.canLay_of_shaped se) (SeqAt.canLay_of_shaped sd) (room_in_shaped sd (by omega)) ⟨.bl _, H, I, rfl, q⟩
theorem any_data {d : PyData} {k : Val} (hk : vdata k = some d) : ∀ {xs : List Val} {ds : List PyData}, vdatas xs = some ds → (ds.any fun z => PyData.eqv z d) = xs.any fun z => veq z k
  | [], ds, h => by simp [vdatas] at h; subst h; rfl
  | x :: xs, ds, h => by
    rw [vdatas] at h
    split at h
    · rename_i e es e1 e2
      cases h
      rw [List.any_cons, List.any_cons, veq_data _ _ _ _ e1 hk, any_data hk e2]
    · cases h
def vInC (k c : Val) (st : Sto) : Option Bool := match vdict st c with
  | some kvs => if keyFit kvs k = true then some (dget kvs k).isSome else none
  | none => match vseq st c with
    | some xs => if (vflat 64 k && vflats 63 xs) = true then some (xs.any fun z => veq z k) else none
    | none => none
def vIn (k c : Val) (st : Sto) : Option (Val × Sto) := match vInC k c st with
  | some b => some (.bl b, st)
  | none => none
def vNotIn (k c : Val) (st : Sto) : Option (Val × Sto) := match vInC k c st with
  | some b => some (.bl (!b), st)
  | none => none
theorem vseq_dp (g : GoodX X W H st) {c : Val} {y : V} {xs : List Val} {ds : List PyData} (r : Rep X.K W H c y) (e : vseq st c = some xs) (hd : vdatas xs = some ds) : Dp X.K H y (.list ds) ∨ Dp X.K H y (.tuple ds) := by
  unfold vseq at e
  split at e
  · rename_i zs e1
    cases e
    exact .inl ((dref_ok g r e1 (by intro i; simp)).dp (by rw [vdata, hd]; rfl))
  · rename_i zs e1
    cases e
    exact .inl ((dref_ok g r e1 (by intro i; simp)).dp (by rw [vdata, hd]; rfl))
  · rename_i zs e1
    cases e
    exact .inr ((dref_ok g r e1 (by intro i; simp)).dp (by rw [vdata, hd]; rfl))
  · cases e
theorem shaped_of_all {ds : List PyData} (h2 : PyData.canLayAll0 ds = true) (h3 : PyData.depthAll ds ≤ 63) : SeqAt.shaped (.list ds) = true ∧ SeqAt.shaped (.tuple ds) = true := by
  unfold SeqAt.shaped
  rw [PyData.canLay0, PyData.canLay0, h2, PyData.depth, PyData.depth]
  exact ⟨by simpa using by omega, by simpa using by omega⟩
theorem ok_in : BinOk X (fun x y H Q => rInV X false x y H Q ∨ (rInD X.K x y H Q ∨ rInT X.K false x y H Q)) vIn := by
  intro W H st st' a b v x y Q gd ra rb e q
  unfold vIn at e
  split at e
  · rename_i c ec
    cases e
    unfold vInC at ec
    split at ec
    · rename_i kvs ek
      split at ec
      · rename_i f
        cases ec
        obtain ⟨i, p, rfl, _, rfl, _, d⟩ := vdict_ok gd rb ek
        refine .inl ⟨W, p, kvs, a, rfl, d, f, ra, ?_⟩
        rw [if_neg Bool.false_ne_true]
        exact q W H _ Ext.refl gd (.bl _)
      · cases ec
    · split at ec
      · rename_i xs es
        split at ec
        · rename_i f
          cases ec
          rw [Bool.and_eq_true] at f
          obtain ⟨d, d1, d2⟩ := shaped_of f.1
          obtain ⟨ds, e1, e2, e3⟩ := vflats_data _ _ f.2
          have sh := shaped_of_all e2 e3
          have q' := q W H _ Ext.refl gd (.bl _)
          rw [← any_data d1 e1] at q'
          rcases vseq_dp gd rb es e1 with h | h
          · exact .inr (.inl ⟨d, ds, Rep.dp _ _ _ ra d1, h, d2, sh.1, q'⟩)
          · refine .inr (.inr ⟨d, ds, Rep.dp _ _ _ ra d1, h, d2, sh.2, ?_⟩)
            rw [if_neg Bool.false_ne_true]
            exact q'
        · cases ec
      · cases ec
  · cases e
theorem ok_notIn : BinOk X (fun x y H Q => rInV X true x y H Q ∨ (rNotInD X.K x y H Q ∨ rInT X.K true x y H Q)) vNotIn := by
  intro W H st st' a b v x y Q gd ra rb e q
  unfold vNotIn at e
  split at e
  · rename_i c ec
    cases e
    unfold vInC at ec
    split at ec
    · rename_i kvs ek
      split at ec
      · rename_i f
        cases ec
        obtain ⟨i, p, rfl, _, rfl, _, d⟩ := vdict_ok gd rb ek
        refine .inl ⟨W, p, kvs, a, rfl, d, f, ra, ?_⟩
        rw [if_pos rfl]
        exact q W H _ Ext.refl gd (.bl _)
      · cases ec
    · split at ec
      · rename_i xs es
        split at ec
        · rename_i f
          cases ec
          rw [Bool.and_eq_true] at f
          obtain ⟨d, d1, d2⟩ := shaped_of f.1
          obtain ⟨ds, e1, e2, e3⟩ := vflats_data _ _ f.2
          have sh := shaped_of_all e2 e3
          have q' := q W H _ Ext.refl gd (.bl _)
          rw [← any_data d1 e1] at q'
          rcases vseq_dp gd rb es e1 with h | h
          · exact .inr (.inl ⟨d, ds, Rep.dp _ _ _ ra d1, h, d2, sh.1, q'⟩)
          · refine .inr (.inr ⟨d, ds, Rep.dp _ _ _ ra d1, h, d2, sh.2, ?_⟩)
            rw [if_pos rfl]
            exact q'
        · cases ec
      · cases ec
  · cases e
theorem op_inAll (hu : X.A.units + 80 < cLine) : OpR X (compareOp .In) (fun x y H Q => rInV X false x y H Q ∨ (rInD X.K x y H Q ∨ rInT X.K false x y H Q)) := (op_inV hu).or ((op_inD (by omega)).or (op_inT hu))
theorem op_notInAll (hu : X.A.units + 80 < cLine) : OpR X (compareOp .NotIn) (fun x y H Q => rInV X true x y H Q ∨ (rNotInD X.K x y H Q ∨ rInT X.K true x y H Q)) := (op_notInV hu).or ((op_notInD (by omega)).or (op_notInT hu))

/-! ### comparisons of the text -/
section
variable {a b : Expr} {pos : Pos} {ma mb : ME}
theorem se_lt (ha : PE X a (RE X ma)) (hb : PE X b (RE X mb)) : PE X (.Compare a [.Lt] [b] pos) (RE X (mBin vLt ma mb)) := se_cmp op_lt ok_lt ha hb (nomark _)
theorem se_le (ha : PE X a (RE X ma)) (hb : PE X b (RE X mb)) : PE X (.Compare a [.LtE] [b] pos) (RE X (mBin vLe ma mb)) := se_cmp op_le ok_le ha hb (nomark _)
theorem se_gt (ha : PE X a (RE X ma)) (hb : PE X b (RE X mb)) : PE X (.Compare a [.Gt] [b] pos) (RE X (mBin vGt ma mb)) := se_cmp op_gt ok_gt ha hb (nomark _)
theorem se_ge (ha : PE X a (RE X ma)) (hb : PE X b (RE X mb)) : PE X (.Compare a [.GtE] [b] pos) (RE X (mBin vGe ma mb)) := se_cmp op_ge ok_ge ha hb (nomark _)
theorem se_eq (hu : X.A.units + 80 < cLine) (ha : PE X a (RE X ma)) (hb : PE X b (RE X mb)) : PE X (.Compare a [.Eq] [b] pos) (RE X (mBin vEq ma mb)) := se_cmp (op_eqD (by omega)) ok_eq ha hb (nomark _)
theorem se_ne (hu : X.A.units + 80 < cLine) (ha : PE X a (RE X ma)) (hb : PE X b (RE X mb)) : PE X (.Compare a [.NotEq] [b] pos) (RE X (mBin vNe ma mb)) := se_cmp (op_neD (by omega)) ok_ne ha hb (nomark _)
theorem se_is (ha : PE X a (RE X ma)) (hb : PE X b (RE X mb)) : PE X (.Compare a [.Is] [b] pos) (RE X (mBin vIs ma mb)) := se_cmp op_isV ok_is ha hb (nomark _)
theorem se_isNot (ha : PE X a (RE X ma)) (hb : PE X b (RE X mb)) : PE X (.Compare a [.IsNot] [b] pos) (RE X (mBin vIsNot ma mb)) := se_cmp op_isNotV ok_isNot ha hb (nomark _)
theorem se_in (hu : X.A.units + 80 < cLine) (ha : PE X a (RE X ma)) (hb : PE X b (RE X mb)) (hm : behindInMarks .In b = false := by rfl) : PE X (.Compare a [.In] [b] pos) (RE X (mBin vIn ma mb)) := se_cmp (op_inAll hu) ok_in ha hb hm
theorem se_notIn (hu : X.A.units + 80 < cLine) (ha : PE X a (RE X ma)) (hb : PE X b (RE X mb)) (hm : behindInMarks .NotIn b = false := by rfl) : PE X (.Compare a [.NotIn] [b] pos) (RE X (mBin vNotIn ma mb)) := se_cmp (op_notInAll hu) ok_notIn ha hb hm
end
end
end Sh

-- part Sh7
set_option Elab.async false
set_option linter.all false
set_option maxRecDepth 100000
set_option maxHeartbeats 1000000
namespace Sh
open PySem PySem.Spec PyProof.Rows L2

section
variable {X : Cx} {W : Wd} {H : Hp} {st : Sto} {pins : List (Addr × Obj)} {σ : L2.St} {s : Shared}
/-! ### subscripts -/
def rIxD (X : Cx) : R2 := fun x y H Q => ∃ W a kvs k v z, x = .ref a ∧ DctR X W H kvs a ∧ keyFit kvs k = true ∧ Rep X.K W H k y ∧ dget kvs k = some v ∧ (∀ z, Rep X.K W H v z → Q z H) ∧ z = v
theorem ix_dct (hu : X.A.units + 80 < cLine) : IxR X (rIxD X) := by
  intro value slice pins s σ H x y v u Q I rx ry h hs
  obtain ⟨W, a, kvs, k, e, _, rfl, d, f, r, he, q, _⟩ := h
  cases rx
  rcases fit_or f with hl | ht
  · obtain ⟨d, kk, h1, _, rfl⟩ := dk_fit d f hl r
    obtain ⟨l, h2, h3⟩ := dk_look d h1
    rcases h3 with ⟨e1, _⟩ | ⟨v2, y2, e1, e2, r2⟩
    · rw [he] at e1; cases e1
    · rw [he] at e1
      cases e1
      have g := DGet.k (k := kk) h2
      rw [e2] at g
      exact tail_any (dict_typeIs I g) PySem.F.slot_dict_getitem.lookup (d_getItem (by omega) I g ry fun w' s' I' rw' => ⟨y2, H, I', rw', q y2 r2⟩) hs
  · obtain ⟨xs, b, n, h1, h2, h3, _, rfl, hn, h4, _, h5⟩ := dn_look I d f ht r
    cases ry
    rcases dn_find hn h5 with ⟨e1, _⟩ | ⟨v2, p, y2, e1, e2, r1, r2⟩
    · rw [he] at e1; cases e1
    · rw [he] at e1
      cases e1
      exact tail_any h1.typeIs PySem.F.slot_dict_getitem.lookup (wpAny_getItem_heap (room9 hu) h4 h1 e2 ⟨y2, H, I.tok _, r1, q y2 r2⟩) hs
theorem Reps.atI {K : PySem.W.Frag} {vs : List Val} {Vs : List V} {i : Int} {v : Val} (r : Reps K W H vs Vs) (h : atI vs i = some v) : ∃ x, L2.atI Vs i = some x ∧ Rep K W H v x := by
  unfold L2.atI at h ⊢
  rw [r.length] at h
  cases e : ixN Vs.length i with
  | none => rw [e] at h; cases h
  | some j =>
    rw [e] at h
    exact r.get h
def vIx (a b : Val) (st : Sto) : Option (Val × Sto) := match vdict st a with
  | some kvs => if keyFit kvs b = true then (match dget kvs b with | some v => some (v, st) | none => none) else none
  | none => match dref st a, b with
    | .tup xs, .int i => (match atI xs i with | some v => some (v, st) | none => none)
    | .lst xs, .int i => (match atI xs i with | some v => some (v, st) | none => none)
    | .sc xs, .int i => (match atI xs i with | some v => some (v, st) | none => none)
    | .str z, .int i => if lenOk z.length = true then (match atI z.cps.toList i with | some c => some (.str ⟨#[c]⟩, st) | none => none) else none
    | _, _ => none
theorem ok_ix : BinOk X (fun x y H Q => rIxD X x y H Q ∨ rIx X.K x y H Q) vIx := by
  intro W H st st' a b v x y Q gd ra rb e q
  unfold vIx at e
  split at e
  · rename_i kvs ek
    split at e
    · rename_i f
      split at e
      · rename_i u eu
        cases e
        obtain ⟨i, p, rfl, _, rfl, _, d⟩ := vdict_ok gd ra ek
        exact .inl ⟨W, p, kvs, b, _, _, rfl, d, f, rb, eu, fun z r => q W H z Ext.refl gd r, rfl⟩
      · cases e
    · cases e
  · refine .inr ?_
    split at e
    · rename_i xs i ea
      split at e
      · rename_i u eu
        cases e
        cases rb
        cases dref_ok gd ra ea (by intro i; simp) with
        | self r _ => cases r with
          | tup h1 h2 =>
            obtain ⟨z, e1, r1⟩ := h2.atI eu
            exact .inr (.inl ⟨_, _, _, z, rfl, rfl, h1, e1, q W H z Ext.refl gd r1⟩)
      · cases e
    · rename_i xs i ea
      split at e
      · rename_i u eu
        cases e
        cases rb
        obtain ⟨p, Vs, rfl, h1, h2⟩ := vlist_ok gd ra (show vlist st a = some xs by unfold vlist; rw [ea])
        obtain ⟨z, e1, r1⟩ := h2.atI eu
        exact .inl ⟨_, _, _, z, rfl, rfl, h1, e1, q W H z Ext.refl gd r1⟩
      · cases e
    · rename_i xs i ea
      split at e
      · rename_i u eu
        cases e
        cases rb
        obtain ⟨p, Vs, rfl, h1, h2⟩ := vlist_ok gd ra (show vlist st a = some xs by unfold vlist; rw [ea])
        obtain ⟨z, e1, r1⟩ := h2.atI eu
        exact .inl ⟨_, _, _, z, rfl, rfl, h1, e1, q W H z Ext.refl gd r1⟩
      · cases e
    · rename_i z i ea
      split at e
      · rename_i hz
        split at e
        · rename_i c ec
          cases e
          cases rb
          cases dref_ok gd ra ea (by intro i; simp) with
          | self r _ => cases r with
            | str => exact .inr (.inr ⟨z, i, c, rfl, rfl, lenOk_line hz, ec, q W H _ Ext.refl gd (.str _)⟩)
        · cases e
      · cases e
    · cases e
theorem ix_all (hu : X.A.units + 80 < cLine) : IxR X (fun x y H Q => rIxD X x y H Q ∨ rIx X.K x y H Q) := (ix_dct hu).or ix_seq
theorem se_ix (hu : X.A.units + 80 < cLine) {a b : Expr} {pos : Pos} {ma mb : ME} (ha : PE X a (RE X ma)) (hb : PE X b (RE X mb)) (hs : PlainIx b := by intro _ _; rfl) : PE X (.Subscript a b pos) (RE X (mBin vIx ma mb)) :=
  pe_weak (pe_ix (ix_all hu) ha hb hs) fun σ H Q h => bin_ok ok_ix h

/-! ### slices -/
abbrev MO := Env → Sto → Option (Option Int × Sto)
abbrev RO (X : Cx) (m : MO) : TO := rdX X.prog X.w X.K (fun _ _ a b => a = b) m
def oNone : MO := fun _ st => some (none, st)
def oSome (m : ME) : MO := mBind m fun v _ st => match v with
  | .int i => some (some i, st)
  | _ => none
theorem po_weak {e : Option Expr} {t t' : TO} (h : PO X e t) (hw : ∀ σ H Q, t' σ H Q → t σ H Q) : PO X e t' := ⟨fun pins s σ H Q I q => h.run pins s σ H Q I (hw σ H Q q)⟩
theorem so_none : PO X none (RO X oNone) := po_weak po_none fun σ H Q h => by
  obtain ⟨W, env, st, c, st', g, er, e, q⟩ := h
  cases e
  exact q W H none Ext.refl g rfl
theorem so_some {e : Expr} {m : ME} (h : PE X e (RE X m)) : PO X (some e) (RO X (oSome m)) := po_weak (po_some h) fun σ H Q h => by
  refine rd_bind (R := Rep X.K) h fun W1 H1 env st1 st' a x c g1 er1 ra e q => ?_
  split at e
  · rename_i i
    cases e
    cases ra
    exact ⟨i, rfl, q W1 H1 (some i) Ext.refl g1 rfl⟩
  · cases e
def vcut (xs : List Val) (lo hi : Option Int) : List Val := (xs.drop (HT.sIx xs.length 0 lo)).take (HT.sIx xs.length xs.length hi - HT.sIx xs.length 0 lo)
theorem Reps.cut {K : PySem.W.Frag} {vs : List Val} {Vs : List V} (r : Reps K W H vs Vs) (lo hi : Option Int) : Reps K W H (vcut vs lo hi) (cutV Vs lo hi) := by
  unfold vcut cutV
  rw [r.length]
  exact (r.drop _).take _
def vSl (v : Val) (lo hi : Option Int) (st : Sto) : Option (Val × Sto) := match dref st v with
  | .tup xs => some (.tup (vcut xs lo hi), st)
  | .lst xs => some (.lst (vcut xs lo hi), st)
  | .sc xs => some (.lst (vcut xs lo hi), st)
  | _ => none
def mSl (a : ME) (lo hi : MO) : ME := mBind a fun v => mBind lo fun l => mBind hi fun h _ st => vSl v l h st
theorem cutT_whole (xs : List Val) (lo hi : Option Int) (h : HT.sIx xs.length 0 lo = 0 ∧ HT.sIx xs.length xs.length hi = xs.length) : vcut xs lo hi = xs := by
  unfold vcut
  rw [h.1, h.2]
  simp
theorem sl_ok {v u : Val} {x : V} {lo hi : Option Int} {st' : Sto} {Q : VK} (g : GoodX X W H st) (r : Rep X.K W H v x) (e : vSl v lo hi st = some (u, st'))
    (q : ∀ W' H' z, Ext W H W' H' → GoodX X W' H' st' → Rep X.K W' H' u z → Q z H') : rSlL X.K x lo hi H Q ∨ rSlA X.K x lo hi H Q := by
  unfold vSl at e
  split at e
  · rename_i xs ea
    cases e
    cases dref_ok g r ea (by intro i; simp) with
    | self r _ => cases r with
      | tup h1 h2 =>
        refine .inr ⟨_, _, rfl, h1, fun hw => ?_, fun _ p hp => ?_⟩
        · have e2 := cutT_whole xs lo hi (by rw [h2.length]; exact hw)
          rw [e2] at q
          exact q W H _ Ext.refl g (.tup h1 h2)
        · obtain ⟨n1, n2, n3⟩ := new_tup g (h2.cut lo hi) hp
          exact q W _ _ n1 n2 n3
  · rename_i xs ea
    cases e
    obtain ⟨p, Vs, rfl, h1, h2⟩ := vlist_ok g r (show vlist st v = some xs by unfold vlist; rw [ea])
    refine .inl ⟨_, _, rfl, h1, fun p hp => ?_⟩
    obtain ⟨n1, n2, n3⟩ := new_lst g (h2.cut lo hi) hp
    exact q _ _ _ n1 n2 n3
  · rename_i xs ea
    cases e
    obtain ⟨p, Vs, rfl, h1, h2⟩ := vlist_ok g r (show vlist st v = some xs by unfold vlist; rw [ea])
    refine .inl ⟨_, _, rfl, h1, fun p hp => ?_⟩
    obtain ⟨n1, n2, n3⟩ := new_lst g (h2.cut lo hi) hp
    exact q _ _ _ n1 n2 n3
  · cases e
theorem se_slice {e : Expr} {lo hi : Option Expr} {pos p2 : Pos} {ma : ME} {ml mh : MO} (ha : PE X e (RE X ma)) (hl : PO X lo (RO X ml)) (hh : PO X hi (RO X mh)) : PE X (.Subscript e (.Slice lo hi none p2) pos) (RE X (mSl ma ml mh)) := by
  refine pe_weak (pe_slice (sl_list.or sl_tupA) ha hl hh) fun σ H Q h => ?_
  refine rd_bind (R := Rep X.K) h fun W1 H1 env st1 st' a x c g1 er1 ra e q => ?_
  obtain ⟨l, st2, e1, e2⟩ := mBind_some e
  refine ⟨W1, env, st1, l, st2, g1, er1, e1, fun W2 H2 y x2 g2 rl => ?_⟩
  subst rl
  obtain ⟨h2, st3, e3, e4⟩ := mBind_some e2
  refine ⟨W2, env, st2, h2, st3, g2, er1.ext x2.toExt0, e3, fun W3 H3 y x3 g3 rh => ?_⟩
  subst rh
  exact sl_ok g3 (Rep.ext (x2.trans x3).toExt0 _ _ ra) e4 fun W' H' z x4 g4 r4 => q W' H' z ((x2.trans x3).trans x4) g4 r4

/-! ### displays; lists that are new -/
def mTup (as : MA) : ME := mBind as fun xs _ st => if lenOk xs.length = true then some (.tup xs, st) else none
theorem se_tup {es : List Expr} {k : Nat} {pos : Pos} {ma : MA} (ha : PA X es (RA X ma)) : PE X (.Tuple es k pos) (RE X (mTup ma)) := by
  refine pe_weak (pe_tup ha) fun σ H Q h => ?_
  refine rd_bind (R := Reps X.K) h fun W1 H1 env st1 st' a x c g1 er1 ra e q => ?_
  split at e
  · rename_i hl
    cases e
    refine ⟨by rw [← ra.length]; exact lenOk_line hl, fun p hp => ?_⟩
    obtain ⟨n1, n2, n3⟩ := new_tup g1 ra hp
    exact q _ _ _ n1 n2 n3
  · cases e
/-- code that makes a list that nobody else has: its items -/
def rdF (X : Cx) (m : MA) : TE := fun σ H Q => ∃ (W : Wd) (env : Env) (st : Sto) (xs : List Val) (st' : Sto), GoodX X W H st ∧ EnvR X.K W H env σ ∧ m env st = some (xs, st') ∧
  ∀ (W' : Wd) (H' : Hp) (Vs : List V) (p : Addr), Ext W H W' H' → GoodX X W' H' st' → Reps X.K W' H' xs Vs → H' p = some (.lst Vs) → p ∉ W'.ms → ¬ W'.F p → H p = none → Q (.ref p) H'
/-- .. kept as it is -/
def mFz (m : MA) : ME := mBind m fun xs _ st => some (.lst xs, st)
/-- .. to be changed: a new object of the store -/
def mNew (m : MA) : ME := mBind m fun xs _ st => some (.ref st.length, st ++ [.lst xs])
theorem se_fz {e : Expr} {m : MA} (h : PE X e (rdF X m)) : PE X e (RE X (mFz m)) := by
  refine pe_weak h fun σ H Q h => ?_
  obtain ⟨W, env, st, c, st', g, er, e, q⟩ := h
  obtain ⟨xs, st1, e1, e2⟩ := mBind_some e
  cases e2
  refine ⟨W, env, st, xs, _, g, er, e1, fun W' H' Vs p x g' r hp hm hF hn => ?_⟩
  exact q (W'.frz p) H' _ (x.frz hn) (g'.frz hp hm) (.lst (.inr rfl) hp (Reps.ext Ext0.frz _ _ r))
theorem se_new {e : Expr} {m : MA} (h : PE X e (rdF X m)) : PE X e (RE X (mNew m)) := by
  refine pe_weak h fun σ H Q h => ?_
  obtain ⟨W, env, st, c, st', g, er, e, q⟩ := h
  obtain ⟨xs, st1, e1, e2⟩ := mBind_some e
  cases e2
  refine ⟨W, env, st, xs, _, g, er, e1, fun W' H' Vs p x g' r hp hm hF hn => ?_⟩
  have x2 : Ext0 W' H' (W'.add p) H' := Ext0.add
  refine q (W'.add p) H' _ ⟨x.toExt0.trans x2, x.kp, fun a ha => ?_, x.nf⟩ (g'.add hm hF ⟨Vs, hp, Reps.ext x2 _ _ r⟩) (.ref (add_at g'))
  have ha : a ∈ W'.ms ++ [p] := ha
  rcases List.mem_append.mp ha with z | z
  · exact x.nw a z
  · have e : a = p := by simpa using z
    exact .inr (e ▸ hn)
/-- what is none behind was none ahead -/
theorem Ext.none_of {W1 : Wd} {H1 : Hp} {st1 : Sto} (x : Ext W H W1 H1) (g : GoodX X W1 H1 st1) {p : Addr} (h : H1 p = none) : H p = none := by
  by_cases hm : p ∈ W.ms
  · obtain ⟨i, hi⟩ := List.getElem?_of_mem hm
    obtain ⟨u, hu, _⟩ := g.here (List.mem_of_getElem? (x.mm i p hi))
    rw [h] at hu
    cases hu
  · cases e : H p with
    | none => rfl
    | some u => rw [x.kp p u hm e] at h; cases h
/-- a list that is laid at the end -/
theorem fresh_end {W1 : Wd} {H1 : Hp} {st1 : Sto} {xs : List Val} {Vs : List V} {Q : VK} (x : Ext W H W1 H1) (g : GoodX X W1 H1 st1) (r : Reps X.K W1 H1 xs Vs) {p : Addr} (hp : H1 p = none)
    (q : ∀ (W' : Wd) (H' : Hp) (Vs : List V) (p : Addr), Ext W H W' H' → GoodX X W' H' st1 → Reps X.K W' H' xs Vs → H' p = some (.lst Vs) → p ∉ W'.ms → ¬ W'.F p → H p = none → Q (.ref p) H') : Q (.ref p) (upd H1 p (.lst Vs)) := by
  have e1 : Ext W1 H1 W1 (upd H1 p (.lst Vs)) := Ext.same (same_new hp)
  exact q W1 _ Vs p (x.trans e1) (g.same (same_new hp)) (Reps.ext e1.toExt0 _ _ r) upd_same (g.notIn hp) (g.notF hp) (x.none_of g hp)
def fLst (as : MA) : MA := mBind as fun xs _ st => if lenOk xs.length = true then some (xs, st) else none
theorem sf_lst {es : List Expr} {pos : Pos} {ma : MA} (ha : PA X es (RA X ma)) : PE X (.List es pos) (rdF X (fLst ma)) := by
  refine pe_weak (pe_lst ha) fun σ H Q h => ?_
  obtain ⟨W, env, st, c, st', g, er, e, q⟩ := h
  obtain ⟨xs, st1, e1, e2⟩ := mBind_some e
  split at e2
  · rename_i hl
    cases e2
    refine ⟨W, env, st, _, _, g, er, e1, fun W1 H1 ys x g1 r => ⟨by rw [← r.length]; exact lenOk_line hl, fun p hp => ?_⟩⟩
    exact fresh_end x g1 r hp q
  · cases e2

/-! ### truth, tests, and, or, not -/
def vtru (st : Sto) (v : Val) : Option Bool := match dref st v with
  | .non => some false
  | .bl b => some b
  | .int i => some (i != 0)
  | .str z => if lenOk z.length = true then some ((z.length : Int) != 0) else none
  | .tup xs => some (!xs.isEmpty)
  | .tpl _ => none
  | .lst xs => some (!xs.isEmpty)
  | .sc xs => some (!xs.isEmpty)
  | .ref _ => none
theorem isEmpty_reps {K : PySem.W.Frag} {xs : List Val} {Vs : List V} (r : Reps K W H xs Vs) : (!xs.isEmpty) = !Vs.isEmpty := by cases r <;> rfl
theorem vtru_ok (g : GoodX X W H st) {v : Val} {x : V} {b : Bool} (r : Rep X.K W H v x) (e : vtru st v = some b) : TruV X.K x H b := by
  unfold vtru at e
  split at e
  · rename_i ea
    cases e
    cases dref_ok g r ea (by intro i; simp) with
    | self r _ => cases r; rfl
  · rename_i c ea
    cases e
    cases dref_ok g r ea (by intro i; simp) with
    | self r _ => cases r; rfl
  · rename_i c ea
    cases e
    cases dref_ok g r ea (by intro i; simp) with
    | self r _ => cases r; rfl
  · rename_i c ea
    split at e
    · rename_i hl
      cases e
      cases dref_ok g r ea (by intro i; simp) with
      | self r _ => cases r; exact ⟨lenOk_line hl, rfl⟩
    · cases e
  · rename_i xs ea
    cases e
    cases dref_ok g r ea (by intro i; simp) with
    | self r _ => cases r with
      | tup h1 h2 => exact .inr (.inl ⟨_, h1, isEmpty_reps h2⟩)
  · cases e
  · rename_i xs ea
    cases e
    obtain ⟨p, Vs, rfl, h1, h2⟩ := vlist_ok g r (show vlist st v = some xs by unfold vlist; rw [ea])
    exact .inl ⟨_, h1, isEmpty_reps h2⟩
  · rename_i xs ea
    cases e
    obtain ⟨p, Vs, rfl, h1, h2⟩ := vlist_ok g r (show vlist st v = some xs by unfold vlist; rw [ea])
    exact .inl ⟨_, h1, isEmpty_reps h2⟩
  · cases e
/-- a value's truth as a test -/
def tOf (m : ME) : MT := mBind m fun v _ st => match vtru st v with
  | some b => some (b, st)
  | none => none
theorem tru_bind {W1 : Wd} {H1 : Hp} {st1 st' : Sto} {a : Val} {x : V} {c : Bool} {Q : Bool → Hp → Prop} (g1 : GoodX X W1 H1 st1) (ra : Rep X.K W1 H1 a x) (e : (match vtru st1 a with | some b => some (b, st1) | none => none) = some (c, st'))
    (q : ∀ (W' : Wd) (H' : Hp) (y : Bool), Ext W1 H1 W' H' → GoodX X W' H' st' → c = y → Q y H') : ∃ k, TruV X.K x H1 k ∧ Q k H1 := by
  split at e
  · rename_i b eb
    cases e
    exact ⟨_, vtru_ok g1 ra eb, q W1 H1 _ Ext.refl g1 rfl⟩
  · cases e
theorem st_val {e : Expr} {m : ME} (h : PE X e (RE X m)) (he : ∀ whole, isTrue e X.env whole = (do let v ← whole; standAt e.pos; holding [v] (truthy v)) := by intro _; rfl) : PT X e (RT X (tOf m)) :=
  pt_weak (pt_truth h he) fun σ H Q h => rd_bind (R := Rep X.K) h fun W1 H1 env st1 st' a x c g1 er1 ra e q => tru_bind g1 ra e q
/-- it gives truths -/
def BoolF (f : Val → Val → Sto → Option (Val × Sto)) : Prop := ∀ a b st v st', f a b st = some (v, st') → ∃ k, v = .bl k
theorem boolI {g : Int → Int → Bool} : BoolF (vI2 fun i j => .bl (g i j)) := by
  intro a b st v st' h
  unfold vI2 at h
  split at h
  · cases h; exact ⟨_, rfl⟩
  · cases h
theorem bool_eq : BoolF vEq := by
  intro a b st v st' h
  unfold vEq at h
  split at h
  · cases h; exact ⟨_, rfl⟩
  · cases h
theorem bool_ne : BoolF vNe := by
  intro a b st v st' h
  unfold vNe at h
  split at h
  · cases h; exact ⟨_, rfl⟩
  · cases h
theorem bool_is : BoolF vIs := by
  intro a b st v st' h
  unfold vIs at h
  split at h
  · cases h
  · cases h; exact ⟨_, rfl⟩
  · cases h; exact ⟨_, rfl⟩
  · cases h
theorem bool_isNot : BoolF vIsNot := by
  intro a b st v st' h
  unfold vIsNot at h
  split at h
  · cases h
  · cases h; exact ⟨_, rfl⟩
  · cases h; exact ⟨_, rfl⟩
  · cases h
theorem bool_in : BoolF vIn := by
  intro a b st v st' h
  unfold vIn at h
  split at h
  · cases h; exact ⟨_, rfl⟩
  · cases h
theorem bool_notIn : BoolF vNotIn := by
  intro a b st v st' h
  unfold vNotIn at h
  split at h
  · cases h; exact ⟨_, rfl⟩
  · cases h
theorem st_cmp {op : CmpOp} {r : R2} {f : Val → Val → Sto → Option (Val × Sto)} {a b : Expr} {pos : Pos} {ma mb : ME} (ho : OpR X (compareOp op) r) (hr : BinOk X r f) (hB : BoolF f) (ha : PE X a (RE X ma)) (hb : PE X b (RE X mb)) (hm : behindInMarks op b = false := by rfl) :
    PT X (.Compare a [op] [b] pos) (RT X (tOf (mBin f ma mb))) := by
  refine pt_weak (pt_cmpR ho ha hb hm) fun σ H Q h => ?_
  refine bin_ok hr (ma := ma) (mb := mb) (Q := fun x H' => ∃ k, x = .bl k ∧ Q k H') ?_
  obtain ⟨W, env, st, c, st', g, er, e, q⟩ := h
  obtain ⟨v, st1, e1, e2⟩ := mBind_some e
  refine ⟨W, env, st, v, st1, g, er, e1, fun W1 H1 x x1 g1 r => ?_⟩
  have hv : ∃ k, v = .bl k := by
    obtain ⟨u, st2, f1, f2⟩ := mBind_some e1
    obtain ⟨u2, st3, f3, f4⟩ := mBind_some f2
    exact hB _ _ _ _ _ f4
  obtain ⟨k, rfl⟩ := hv
  cases r
  have e3 : vtru st1 (.bl k) = some k := rfl
  rw [e3] at e2
  cases e2
  exact ⟨_, rfl, q W1 H1 _ x1 g1 rfl⟩
section
variable {a b : Expr} {pos : Pos} {ma mb : ME}
theorem st_lt (ha : PE X a (RE X ma)) (hb : PE X b (RE X mb)) : PT X (.Compare a [.Lt] [b] pos) (RT X (tOf (mBin vLt ma mb))) := st_cmp op_lt ok_lt boolI ha hb (nomark _)
theorem st_le (ha : PE X a (RE X ma)) (hb : PE X b (RE X mb)) : PT X (.Compare a [.LtE] [b] pos) (RT X (tOf (mBin vLe ma mb))) := st_cmp op_le ok_le boolI ha hb (nomark _)
theorem st_gt (ha : PE X a (RE X ma)) (hb : PE X b (RE X mb)) : PT X (.Compare a [.Gt] [b] pos) (RT X (tOf (mBin vGt ma mb))) := st_cmp op_gt ok_gt boolI ha hb (nomark _)
theorem st_ge (ha : PE X a (RE X ma)) (hb : PE X b (RE X mb)) : PT X (.Compare a [.GtE] [b] pos) (RT X (tOf (mBin vGe ma mb))) := st_cmp op_ge ok_ge boolI ha hb (nomark _)
theorem st_eq (hu : X.A.units + 80 < cLine) (ha : PE X a (RE X ma)) (hb : PE X b (RE X mb)) : PT X (.Compare a [.Eq] [b] pos) (RT X (tOf (mBin vEq ma mb))) := st_cmp (op_eqD (by omega)) ok_eq bool_eq ha hb (nomark _)
theorem st_ne (hu : X.A.units + 80 < cLine) (ha : PE X a (RE X ma)) (hb : PE X b (RE X mb)) : PT X (.Compare a [.NotEq] [b] pos) (RT X (tOf (mBin vNe ma mb))) := st_cmp (op_neD (by omega)) ok_ne bool_ne ha hb (nomark _)
theorem st_is (ha : PE X a (RE X ma)) (hb : PE X b (RE X mb)) : PT X (.Compare a [.Is] [b] pos) (RT X (tOf (mBin vIs ma mb))) := st_cmp op_isV ok_is bool_is ha hb (nomark _)
theorem st_isNot (ha : PE X a (RE X ma)) (hb : PE X b (RE X mb)) : PT X (.Compare a [.IsNot] [b] pos) (RT X (tOf (mBin vIsNot ma mb))) := st_cmp op_isNotV ok_isNot bool_isNot ha hb (nomark _)
theorem st_in (hu : X.A.units + 80 < cLine) (ha : PE X a (RE X ma)) (hb : PE X b (RE X mb)) (hm : behindInMarks .In b = false := by rfl) : PT X (.Compare a [.In] [b] pos) (RT X (tOf (mBin vIn ma mb))) := st_cmp (op_inAll hu) ok_in bool_in ha hb hm
theorem st_notIn (hu : X.A.units + 80 < cLine) (ha : PE X a (RE X ma)) (hb : PE X b (RE X mb)) (hm : behindInMarks .NotIn b = false := by rfl) : PT X (.Compare a [.NotIn] [b] pos) (RT X (tOf (mBin vNotIn ma mb))) := st_cmp (op_notInAll hu) ok_notIn bool_notIn ha hb hm
end
/-- a chain of two comparisons -/
def mChain (f f' : Val → Val → Sto → Option (Val × Sto)) (a b c : ME) : ME := mBind a fun x => mBind b fun y => mBind (fun _ st => f x y st) fun z env st1 => match z with
  | .bl true => (mBind c fun u _ st2 => f' y u st2) env st1
  | .bl false => some (.bl false, st1)
  | _ => none
theorem chain_ok {r r' : R2} {f f' : Val → Val → Sto → Option (Val × Sto)} (hr : BinOk X r f) (hr' : BinOk X r' f') {ma mb mc : ME} {σ : L2.St} {H : Hp} {Q : VK} (h : RE X (mChain f f' ma mb mc) σ H Q) : tChain r r' (RE X ma) (RE X mb) (RE X mc) σ H Q := by
  refine rd_bind (R := Rep X.K) h fun W1 H1 env st1 st' a x c g1 er1 ra e q => ?_
  obtain ⟨b, st2, e1, e2⟩ := mBind_some e
  refine ⟨W1, env, st1, b, st2, g1, er1, e1, fun W2 H2 y x2 g2 rb => ?_⟩
  obtain ⟨z, st3, e3, e4⟩ := mBind_some e2
  refine hr W2 H2 st2 st3 a b z x y _ g2 (Rep.ext x2.toExt0 _ _ ra) rb e3 fun W3 H3 z' x3 g3 rz => ?_
  split at e4
  · cases rz
    refine ⟨true, rfl, ?_⟩
    rw [if_pos rfl]
    obtain ⟨u, st4, e5, e6⟩ := mBind_some e4
    refine ⟨W3, env, st3, u, st4, g3, er1.ext (x2.trans x3).toExt0, e5, fun W4 H4 w4 x4 g4 ru => ?_⟩
    exact hr' W4 H4 st4 st' b u c y w4 Q g4 (Rep.ext (x3.trans x4).toExt0 _ _ rb) ru e6 fun W' H' z2 x5 g5 r5 => q W' H' z2 (((x2.trans x3).trans x4).trans x5) g5 r5
  · cases rz
    cases e4
    refine ⟨false, rfl, ?_⟩
    rw [if_neg Bool.false_ne_true]
    exact q W3 H3 _ (x2.trans x3) g3 (.bl _)
  · cases e4
theorem se_chain {op op' : CmpOp} {r r' : R2} {f f' : Val → Val → Sto → Option (Val × Sto)} {a b c : Expr} {pos : Pos} {ma mb mc : ME} (ho : OpR X (compareOp op) r) (ho' : OpR X (compareOp op') r') (hr : BinOk X r f) (hr' : BinOk X r' f')
    (ha : PE X a (RE X ma)) (hb : PE X b (RE X mb)) (hc : PE X c (RE X mc)) (hm : lastMarks [op, op'] [b, c] = false := by with_unfolding_all rfl) : PE X (.Compare a [op, op'] [b, c] pos) (RE X (mChain f f' ma mb mc)) := pe_weak (pe_chain ho ho' ha hb hc hm) fun σ H Q h => chain_ok hr hr' h
theorem se_leLe {a b c : Expr} {pos : Pos} {ma mb mc : ME} (ha : PE X a (RE X ma)) (hb : PE X b (RE X mb)) (hc : PE X c (RE X mc)) (hm : lastMarks [.LtE, .LtE] [b, c] = false := by with_unfolding_all rfl) : PE X (.Compare a [.LtE, .LtE] [b, c] pos) (RE X (mChain vLe vLe ma mb mc)) := se_chain op_le op_le ok_le ok_le ha hb hc hm
theorem se_ltLt {a b c : Expr} {pos : Pos} {ma mb mc : ME} (ha : PE X a (RE X ma)) (hb : PE X b (RE X mb)) (hc : PE X c (RE X mc)) (hm : lastMarks [.Lt, .Lt] [b, c] = false := by with_unfolding_all rfl) : PE X (.Compare a [.Lt, .Lt] [b, c] pos) (RE X (mChain vLt vLt ma mb mc)) := se_chain op_lt op_lt ok_lt ok_lt ha hb hc hm
/-- and, or as values -/
def mAnd (a b : ME) : ME := mBind a fun x env st => match vtru st x with
  | some true => b env st
  | some false => some (x, st)
  | none => none
def mOr (a b : ME) : ME := mBind a fun x env st => match vtru st x with
  | some true => some (x, st)
  | some false => b env st
  | none => none
theorem se_one {op : BoolOp} {a : Expr} {pos : Pos} {m : ME} (h : PE X a (RE X m)) : PE X (.BoolOp op [a] pos) (RE X m) := pe_one h
theorem se_and {a b : Expr} {rest : List Expr} {pos : Pos} {ma mb : ME} (ha : PE X a (RE X ma)) (hb : PE X (.BoolOp .And (b :: rest) pos) (RE X mb)) : PE X (.BoolOp .And (a :: b :: rest) pos) (RE X (mAnd ma mb)) := by
  refine pe_weak (pe_andT ha hb) fun σ H Q h => ?_
  refine rd_bind (R := Rep X.K) h fun W1 H1 env st1 st' a x c g1 er1 ra e q => ?_
  split at e
  · rename_i ht
    exact ⟨true, vtru_ok g1 ra ht, by rw [if_pos rfl]; exact ⟨W1, env, st1, c, st', g1, er1, e, q⟩⟩
  · rename_i ht
    cases e
    exact ⟨false, vtru_ok g1 ra ht, by rw [if_neg Bool.false_ne_true]; exact q W1 H1 x Ext.refl g1 ra⟩
  · cases e
theorem se_or {a b : Expr} {rest : List Expr} {pos : Pos} {ma mb : ME} (ha : PE X a (RE X ma)) (hb : PE X (.BoolOp .Or (b :: rest) pos) (RE X mb)) : PE X (.BoolOp .Or (a :: b :: rest) pos) (RE X (mOr ma mb)) := by
  refine pe_weak (pe_orT ha hb) fun σ H Q h => ?_
  refine rd_bind (R := Rep X.K) h fun W1 H1 env st1 st' a x c g1 er1 ra e q => ?_
  split at e
  · rename_i ht
    cases e
    exact ⟨true, vtru_ok g1 ra ht, by rw [if_pos rfl]; exact q W1 H1 x Ext.refl g1 ra⟩
  · rename_i ht
    exact ⟨false, vtru_ok g1 ra ht, by rw [if_neg Bool.false_ne_true]; exact ⟨W1, env, st1, c, st', g1, er1, e, q⟩⟩
  · cases e
/-- not as a value; - -/
def mNot (a : ME) : ME := mBind a fun x _ st => match vtru st x with
  | some b => some (.bl (!b), st)
  | none => none
theorem se_not {a : Expr} {pos : Pos} {ma : ME} (ha : PE X a (RE X ma)) : PE X (.UnaryOp .Not a pos) (RE X (mNot ma)) := by
  refine pe_weak (pe_notT ha) fun σ H Q h => ?_
  refine rd_bind (R := Rep X.K) h fun W1 H1 env st1 st' a x c g1 er1 ra e q => ?_
  split at e
  · rename_i b hb
    cases e
    exact ⟨b, vtru_ok g1 ra hb, q W1 H1 _ Ext.refl g1 (.bl _)⟩
  · cases e
def mNeg (a : ME) : ME := mBind a fun x _ st => match x with
  | .int i => some (.int (-i), st)
  | _ => none
theorem se_neg {a : Expr} {pos : Pos} {ma : ME} (ha : PE X a (RE X ma)) : PE X (.UnaryOp .USub a pos) (RE X (mNeg ma)) := by
  refine pe_weak (pe_un un_neg ha) fun σ H Q h => ?_
  refine rd_bind (R := Rep X.K) h fun W1 H1 env st1 st' a x c g1 er1 ra e q => ?_
  split at e
  · cases e
    cases ra
    exact ⟨_, rfl, q W1 H1 _ Ext.refl g1 (.int _)⟩
  · cases e
/-- tests -/
def tAndM (a b : MT) : MT := mBind a fun c env st => if c = true then b env st else some (false, st)
def tOrM (a b : MT) : MT := mBind a fun c env st => if c = true then some (true, st) else b env st
def tNotM (a : MT) : MT := mBind a fun c _ st => some (!c, st)
theorem sw_and1 {a : Expr} {pos : Pos} {m : MT} (h : PT X a (RT X m)) : PW X (.BoolOp .And [a] pos) (RT X m) := pw_and1 h
theorem sw_or1 {a : Expr} {pos : Pos} {m : MT} (h : PT X a (RT X m)) : PW X (.BoolOp .Or [a] pos) (RT X m) := pw_or1 h
theorem sw_and {a b : Expr} {rest : List Expr} {pos : Pos} {ma mb : MT} (ha : PT X a (RT X ma)) (hb : PW X (.BoolOp .And (b :: rest) pos) (RT X mb)) : PW X (.BoolOp .And (a :: b :: rest) pos) (RT X (tAndM ma mb)) := by
  refine pw_weak (pw_and ha hb) fun σ H Q h => ?_
  refine rd_bind (R := fun _ _ a b => a = b) h fun W1 H1 env st1 st' a x c g1 er1 ra e q => ?_
  subst ra
  by_cases ha : a = true
  · rw [if_pos ha] at e ⊢
    exact ⟨W1, env, st1, c, st', g1, er1, e, q⟩
  · rw [if_neg ha] at e ⊢
    cases e
    exact q W1 H1 _ Ext.refl g1 rfl
theorem sw_or {a b : Expr} {rest : List Expr} {pos : Pos} {ma mb : MT} (ha : PT X a (RT X ma)) (hb : PW X (.BoolOp .Or (b :: rest) pos) (RT X mb)) : PW X (.BoolOp .Or (a :: b :: rest) pos) (RT X (tOrM ma mb)) := by
  refine pw_weak (pw_or ha hb) fun σ H Q h => ?_
  refine rd_bind (R := fun _ _ a b => a = b) h fun W1 H1 env st1 st' a x c g1 er1 ra e q => ?_
  subst ra
  by_cases ha : a = true
  · rw [if_pos ha] at e ⊢
    cases e
    exact q W1 H1 _ Ext.refl g1 rfl
  · rw [if_neg ha] at e ⊢
    exact ⟨W1, env, st1, c, st', g1, er1, e, q⟩
theorem st_bool {e : Expr} {m : MT} (h : PW X e (RT X m)) : PT X e (RT X m) := h.pt
theorem st_not {a : Expr} {pos : Pos} {ma : MT} (ha : PT X a (RT X ma)) : PT X (.UnaryOp .Not a pos) (RT X (tNotM ma)) := by
  refine pt_weak (pt_not ha) fun σ H Q h => ?_
  refine rd_bind (R := fun _ _ a b => a = b) h fun W1 H1 env st1 st' a x c g1 er1 ra e q => ?_
  subst ra
  cases e
  exact q W1 H1 _ Ext.refl g1 rfl
/-- a if c else b -/
def mIf (t : MT) (a b : ME) : ME := mBind t fun c env st => if c = true then a env st else b env st
theorem se_if {c a b : Expr} {pos : Pos} {mt : MT} {ma mb : ME} (hc : PT X c (RT X mt)) (ha : PE X a (RE X ma)) (hb : PE X b (RE X mb)) : PE X (.IfExp c a b pos) (RE X (mIf mt ma mb)) := by
  refine pe_weak (pe_ifExp hc ha hb) fun σ H Q h => ?_
  refine rd_bind (R := fun _ _ a b => a = b) h fun W1 H1 env st1 st' a x c g1 er1 ra e q => ?_
  subst ra
  by_cases ha : a = true
  · rw [if_pos ha] at e ⊢
    exact ⟨W1, env, st1, c, st', g1, er1, e, q⟩
  · rw [if_neg ha] at e ⊢
    exact ⟨W1, env, st1, c, st', g1, er1, e, q⟩
/-- *e in arguments -/
def aStar (a : ME) (r : MA) : MA := mBind a fun x env st => match vseq st x with
  | some xs => (mBind r fun ys _ st => some (xs ++ ys, st)) env st
  | none => none
theorem sa_star {e : Expr} {es : List Expr} {p : Pos} {ma : ME} {mr : MA} (ha : PE X e (RE X ma)) (hr : PA X es (RA X mr)) (hs : starEach (.Starred e p :: es) X.env = (true, eval e X.env) :: starEach es X.env := by rfl) : PA X (.Starred e p :: es) (RA X (aStar ma mr)) := by
  refine pa_weak (StX.pa_star ha hr hs) fun σ H Q h => ?_
  refine rd_bind (R := Rep X.K) h fun W1 H1 env st1 st' a x c g1 er1 ra e q => ?_
  split at e
  · rename_i xs es
    obtain ⟨p, Vs, rfl, h1, h2⟩ := vseq_ok g1 ra es
    obtain ⟨ys, st2, e1, e2⟩ := mBind_some e
    cases e2
    refine ⟨p, Vs, rfl, h1.elim .inr .inl, W1, env, st1, ys, _, g1, er1, e1, fun W2 H2 zs x2 g2 r2 => ?_⟩
    exact q W2 H2 _ x2 g2 ((Reps.ext x2.toExt0 _ _ h2).append r2)
  · cases e
end
end Sh

-- part Sh8
set_option Elab.async false
set_option linter.all false
set_option maxRecDepth 100000
set_option maxHeartbeats 1000000
namespace Sh
open PySem PySem.Spec PyProof.Rows L2

section
variable {X : Cx} {W : Wd} {H : Hp} {st : Sto} {pins : List (Addr × Obj)} {σ : L2.St} {s : Shared}
/-! ### calls of built-ins, by values -/
def mB (f : List Val → Sto → Option (Val × Sto)) (as : MA) : ME := mBind as fun xs _ st => f xs st
def CallOk (X : Cx) (r : List V → Hp → VK → Prop) (f : List Val → Sto → Option (Val × Sto)) : Prop := ∀ (W : Wd) (H : Hp) (st st' : Sto) (vs : List Val) (v : Val) (xs : List V) (Q : VK), GoodX X W H st → Reps X.K W H vs xs → f vs st = some (v, st') →
  (∀ W' H' z, Ext W H W' H' → GoodX X W' H' st' → Rep X.K W' H' v z → Q z H') → r xs H Q
theorem call_ok {r : List V → Hp → VK → Prop} {f : List Val → Sto → Option (Val × Sto)} (hr : CallOk X r f) {ma : MA} {σ : L2.St} {H : Hp} {Q : VK} (h : RE X (mB f ma) σ H Q) : tCB r (RA X ma) σ H Q :=
  rd_bind (R := Reps X.K) h fun W1 H1 env st1 st' a x c g1 er1 ra e q => hr W1 H1 st1 st' a c x Q g1 ra e q
/-- .. that give a new list -/
def fB (f : List Val → Sto → Option (List Val)) (as : MA) : MA := mBind as fun xs _ st => match f xs st with
  | some ys => some (ys, st)
  | none => none
def CallF (X : Cx) (r : List V → Hp → VK → Prop) (f : List Val → Sto → Option (List Val)) : Prop := ∀ (W : Wd) (H : Hp) (st : Sto) (vs ys : List Val) (xs : List V) (Q : VK), GoodX X W H st → Reps X.K W H vs xs → f vs st = some ys →
  (∀ W' H' Vs p, Ext W H W' H' → GoodX X W' H' st → Reps X.K W' H' ys Vs → H' p = some (.lst Vs) → p ∉ W'.ms → ¬ W'.F p → H p = none → Q (.ref p) H') → r xs H Q
theorem callF_ok {r : List V → Hp → VK → Prop} {f : List Val → Sto → Option (List Val)} (hr : CallF X r f) {ma : MA} {σ : L2.St} {H : Hp} {Q : VK} (h : rdF X (fB f ma) σ H Q) : tCB r (RA X ma) σ H Q := by
  obtain ⟨W, env, st, c, st', g, er, e, q⟩ := h
  obtain ⟨xs, st1, e1, e2⟩ := mBind_some e
  split at e2
  · rename_i ys ey
    cases e2
    refine ⟨W, env, st, xs, _, g, er, e1, fun W1 H1 zs x g1 r => hr W1 H1 _ xs _ zs Q g1 r ey fun W' H' Vs p x2 g2 r2 hp hm hF hn => ?_⟩
    exact q W' H' Vs p (x.trans x2) g2 r2 hp hm hF (x.none_of g1 hn)
  · cases e2
section
variable {x : Str} {p pos : Pos} {e : Expr} {es : List Expr} {ma : MA} {id T : String} {r : List V → Hp → VK → Prop}
theorem se_callB {f : List Val → Sto → Option (Val × Sto)} (hc : CallR X (.builtin id) r) (hr : CallOk X r f) (hv : bootBuiltins x = some (.builtin id)) (hm : X.mg x = none) (ha : PA X (e :: es) (RA X ma)) (hg : Gl X x) (hn : x ≠ "__name__") (hdb : (x == ("__debug__" : Str)) = false)
    (he : starEach (e :: es) X.env = (false, eval e X.env) :: starEach es X.env) (hpl : (backTo pos (starEach es X.env)).any (·.1) = false) : PE X (.Call (.Name x p) (e :: es) [] pos) (RE X (mB f ma)) :=
  pe_weak (pe_callB hc hg hm hv ha hn hdb he hpl) fun σ H Q h => call_ok hr h
theorem se_callTy {f : List Val → Sto → Option (Val × Sto)} (hc : CallR X (.type T) r) (hr : CallOk X r f) (hv : bootBuiltins x = some (.type T)) (hm : X.mg x = none) (ha : PA X (e :: es) (RA X ma)) (hg : Gl X x) (hn : x ≠ "__name__") (hdb : (x == ("__debug__" : Str)) = false)
    (he : starEach (e :: es) X.env = (false, eval e X.env) :: starEach es X.env) (hpl : (backTo pos (starEach es X.env)).any (·.1) = false) : PE X (.Call (.Name x p) (e :: es) [] pos) (RE X (mB f ma)) :=
  pe_weak (pe_callTy hc hg hm hv ha hn hdb he hpl) fun σ H Q h => call_ok hr h
theorem sf_callB {f : List Val → Sto → Option (List Val)} (hc : CallR X (.builtin id) r) (hr : CallF X r f) (hv : bootBuiltins x = some (.builtin id)) (hm : X.mg x = none) (ha : PA X (e :: es) (RA X ma)) (hg : Gl X x) (hn : x ≠ "__name__") (hdb : (x == ("__debug__" : Str)) = false)
    (he : starEach (e :: es) X.env = (false, eval e X.env) :: starEach es X.env) (hpl : (backTo pos (starEach es X.env)).any (·.1) = false) : PE X (.Call (.Name x p) (e :: es) [] pos) (rdF X (fB f ma)) :=
  pe_weak (pe_callB hc hg hm hv ha hn hdb he hpl) fun σ H Q h => callF_ok hr h
theorem sf_callTy {f : List Val → Sto → Option (List Val)} (hc : CallR X (.type T) r) (hr : CallF X r f) (hv : bootBuiltins x = some (.type T)) (hm : X.mg x = none) (ha : PA X (e :: es) (RA X ma)) (hg : Gl X x) (hn : x ≠ "__name__") (hdb : (x == ("__debug__" : Str)) = false)
    (he : starEach (e :: es) X.env = (false, eval e X.env) :: starEach es X.env) (hpl : (backTo pos (starEach es X.env)).any (·.1) = false) : PE X (.Call (.Name x p) (e :: es) [] pos) (rdF X (fB f ma)) :=
  pe_weak (pe_callTy hc hg hm hv ha hn hdb he hpl) fun σ H Q h => callF_ok hr h
end
/-! len -/
def bLen : List Val → Sto → Option (Val × Sto)
  | [v], st => match vdict st v with
    | some kvs => some (.int kvs.length, st)
    | none => match dref st v with
      | .str z => if lenOk z.length = true then some (.int z.length, st) else none
      | .tup xs => some (.int xs.length, st)
      | .lst xs => some (.int xs.length, st)
      | .sc xs => some (.int xs.length, st)
      | _ => none
  | _, _ => none
def rLenD (X : Cx) : List V → Hp → VK → Prop := fun xs H Q => ∃ W a kvs, xs = [.ref a] ∧ DctR X W H kvs a ∧ Q (.int (kvs.length : Nat)) H
theorem call_lenD : CallR X (.builtin "len") (rLenD X) := by
  intro pins s σ H xs us Q I r h
  obtain ⟨W, a, kvs, rfl, d, q⟩ := h
  obtain ⟨u, rfl, ru⟩ := Vals.one r
  cases ru
  rcases d with ⟨l, h1, h2⟩ | d
  · refine d_len I (.inl h1) fun t s' I' => ⟨.int l.length, H, I', ⟨t, rfl⟩, ?_⟩
    rw [← Paired.length h2]
    exact q
  · obtain ⟨xs, h1, h2, h3, h4, h5⟩ := dn_at I d
    have hk : s.heap.DictKeyed (nestedKind X.prog X.w) a (pairsH xs) := ⟨xs, h1, rfl⟩
    have hl : (pairsH xs).length = kvs.length := by rw [pairsH_length, h4]
    have hz := sizeLine_eq
    refine PyProof.Rows.call_len_slot (n := (pairsH xs).length) hk.typeIs PySem.F.slot_dict_len (fun Q' hq => len_keyed h2 hk hq) (by omega) (by rw [pairsH_length]; omega) ⟨.int kvs.length, H, I.tok _, ⟨s.toks + 1, ?_⟩, q⟩
    rw [hl]
theorem ok_len : CallOk X (fun xs H Q => rLenD X xs H Q ∨ ∃ x n, xs = [x] ∧ LenV X.K x H n ∧ Q (.int n) H) bLen := by
  intro W H st st' vs v xs Q g r e q
  unfold bLen at e
  split at e
  · rename_i u
    cases r with
    | cons r1 r2 =>
      cases r2
      split at e
      · rename_i kvs ek
        cases e
        obtain ⟨i, a, rfl, _, rfl, _, d⟩ := vdict_ok g r1 ek
        exact .inl ⟨W, a, kvs, rfl, d, q W H _ Ext.refl g (.int _)⟩
      · refine .inr ?_
        split at e
        · rename_i z ez
          split at e
          · rename_i hz
            cases e
            cases dref_ok g r1 ez (by intro i; simp) with
            | self r _ => cases r with
              | str => exact ⟨_, z.length, rfl, ⟨lenOk_line hz, rfl⟩, q W H _ Ext.refl g (.int _)⟩
          · cases e
        · rename_i ys ey
          cases e
          cases dref_ok g r1 ey (by intro i; simp) with
          | self r _ => cases r with
            | tup h1 h2 =>
              refine ⟨_, _, rfl, .inr ⟨_, h1, rfl⟩, ?_⟩
              rw [← h2.length]
              exact q W H _ Ext.refl g (.int _)
        · rename_i ys ey
          cases e
          obtain ⟨p, Vs, rfl, h1, h2⟩ := vlist_ok g r1 (show vlist _ u = some ys by unfold vlist; rw [ey])
          refine ⟨_, _, rfl, .inl ⟨_, h1, rfl⟩, ?_⟩
          rw [← h2.length]
          exact q W H _ Ext.refl g (.int _)
        · rename_i ys ey
          cases e
          obtain ⟨p, Vs, rfl, h1, h2⟩ := vlist_ok g r1 (show vlist _ u = some ys by unfold vlist; rw [ey])
          refine ⟨_, _, rfl, .inl ⟨_, h1, rfl⟩, ?_⟩
          rw [← h2.length]
          exact q W H _ Ext.refl g (.int _)
        · cases e
  · cases e
/-! all, any, sum, max, min, abs, int -/
def vbools : List Val → Option (List Bool)
  | [] => some []
  | .bl b :: r => (vbools r).map (b :: ·)
  | _ => none
def vints : List Val → Option (List Int)
  | [] => some []
  | .int b :: r => (vints r).map (b :: ·)
  | _ => none
theorem vbools_ok {K : PySem.W.Frag} : ∀ {vs : List Val} {xs : List V} {bs : List Bool}, Reps K W H vs xs → vbools vs = some bs → xs = bs.map V.bl
  | [], _, bs, .nil, e => by simp [vbools] at e; subst e; rfl
  | v :: vs, _, bs, .cons r1 r2, e => by
    cases v <;> simp [vbools] at e
    obtain ⟨cs, e1, rfl⟩ := e
    cases r1
    rw [vbools_ok r2 e1]
    rfl
theorem vints_ok {K : PySem.W.Frag} : ∀ {vs : List Val} {xs : List V} {bs : List Int}, Reps K W H vs xs → vints vs = some bs → xs = bs.map V.int
  | [], _, bs, .nil, e => by simp [vints] at e; subst e; rfl
  | v :: vs, _, bs, .cons r1 r2, e => by
    cases v <;> simp [vints] at e
    obtain ⟨cs, e1, rfl⟩ := e
    cases r1
    rw [vints_ok r2 e1]
    rfl
def bAll : List Val → Sto → Option (Val × Sto)
  | [v], st => match vlist st v with
    | some xs => match vbools xs with
      | some bs => some (.bl (bs.all id), st)
      | none => none
    | none => none
  | _, _ => none
def bAny : List Val → Sto → Option (Val × Sto)
  | [v], st => match vlist st v with
    | some xs => match vbools xs with
      | some bs => some (.bl (bs.any id), st)
      | none => none
    | none => none
  | _, _ => none
theorem ok_all : CallOk X (rAll X.K) bAll := by
  intro W H st st' vs v xs Q g r e q
  unfold bAll at e
  split at e
  · rename_i u
    cases r with
    | cons r1 r2 =>
      cases r2
      split at e
      · rename_i ys ey
        split at e
        · rename_i bs eb
          cases e
          obtain ⟨p, Vs, rfl, h1, h2⟩ := vlist_ok g r1 ey
          rw [vbools_ok h2 eb] at h1
          exact ⟨p, bs, rfl, h1, q W H _ Ext.refl g (.bl _)⟩
        · cases e
      · cases e
  · cases e
theorem ok_any : CallOk X (rAny X.K) bAny := by
  intro W H st st' vs v xs Q g r e q
  unfold bAny at e
  split at e
  · rename_i u
    cases r with
    | cons r1 r2 =>
      cases r2
      split at e
      · rename_i ys ey
        split at e
        · rename_i bs eb
          cases e
          obtain ⟨p, Vs, rfl, h1, h2⟩ := vlist_ok g r1 ey
          rw [vbools_ok h2 eb] at h1
          exact ⟨p, bs, rfl, h1, q W H _ Ext.refl g (.bl _)⟩
        · cases e
      · cases e
  · cases e
def bSum : List Val → Sto → Option (Val × Sto)
  | [v], st => match vlist st v with
    | some xs => match vints xs with
      | some bs => some (.int bs.sum, st)
      | none => none
    | none => none
  | _, _ => none
theorem ok_sum : CallOk X (rSum X.K) bSum := by
  intro W H st st' vs v xs Q g r e q
  unfold bSum at e
  split at e
  · rename_i u
    cases r with
    | cons r1 r2 =>
      cases r2
      split at e
      · rename_i ys ey
        split at e
        · rename_i bs eb
          cases e
          obtain ⟨p, Vs, rfl, h1, h2⟩ := vlist_ok g r1 ey
          rw [vints_ok h2 eb] at h1
          exact ⟨p, bs, rfl, h1, q W H _ Ext.refl g (.int _)⟩
        · cases e
      · cases e
  · cases e
def maxI (i j : Int) : Int := if j > i then j else i
def minI (i j : Int) : Int := if j < i then j else i
def bMax2 : List Val → Sto → Option (Val × Sto)
  | [.int i, .int j], st => some (.int (maxI i j), st)
  | _, _ => none
def bMin2 : List Val → Sto → Option (Val × Sto)
  | [.int i, .int j], st => some (.int (minI i j), st)
  | _, _ => none
theorem ok_max2 : CallOk X (fun xs H Q => ∃ i j, xs = [.int i, .int j] ∧ Q (.int (if j > i then j else i)) H) bMax2 := by
  intro W H st st' vs v xs Q g r e q
  unfold bMax2 at e
  split at e
  · cases e
    cases r with
    | cons r1 r2 => cases r2 with
      | cons r3 r4 =>
        cases r4
        cases r1
        cases r3
        exact ⟨_, _, rfl, q W H _ Ext.refl g (.int _)⟩
  · cases e
theorem ok_min2 : CallOk X (fun xs H Q => ∃ i j, xs = [.int i, .int j] ∧ Q (.int (if j < i then j else i)) H) bMin2 := by
  intro W H st st' vs v xs Q g r e q
  unfold bMin2 at e
  split at e
  · cases e
    cases r with
    | cons r1 r2 => cases r2 with
      | cons r3 r4 =>
        cases r4
        cases r1
        cases r3
        exact ⟨_, _, rfl, q W H _ Ext.refl g (.int _)⟩
  · cases e
def absI (i : Int) : Int := if i < 0 then -i else i
def bAbs : List Val → Sto → Option (Val × Sto)
  | [.int i], st => some (.int (absI i), st)
  | _, _ => none
theorem ok_abs : CallOk X (fun xs H Q => ∃ i, xs = [.int i] ∧ Q (.int (if i < 0 then -i else i)) H) bAbs := by
  intro W H st st' vs v xs Q g r e q
  unfold bAbs at e
  split at e
  · cases e
    cases r with
    | cons r1 r2 =>
      cases r2
      cases r1
      exact ⟨_, rfl, q W H _ Ext.refl g (.int _)⟩
  · cases e
def bInt : List Val → Sto → Option (Val × Sto)
  | [.int i], st => some (.int i, st)
  | [.bl b], st => some (.int (if b then 1 else 0), st)
  | _, _ => none
theorem ok_int : CallOk X (fun xs H Q => (∃ i, xs = [.int i] ∧ Q (.int i) H) ∨ ∃ k, xs = [.bl k] ∧ Q (.int (if k then 1 else 0)) H) bInt := by
  intro W H st st' vs v xs Q g r e q
  unfold bInt at e
  split at e
  · cases e
    cases r with
    | cons r1 r2 =>
      cases r2
      cases r1
      exact .inl ⟨_, rfl, q W H _ Ext.refl g (.int _)⟩
  · cases e
    cases r with
    | cons r1 r2 =>
      cases r2
      cases r1
      exact .inr ⟨_, rfl, q W H _ Ext.refl g (.int _)⟩
  · cases e
/-! tuple(x), list(x) -/
def bTuple : List Val → Sto → Option (Val × Sto)
  | [v], st => match vseq st v with
    | some xs => some (.tup xs, st)
    | none => none
  | _, _ => none
theorem ok_tuple : CallOk X (fun xs H Q => ∃ p ys, xs = [.ref p] ∧ ((SqL X.K H p ys ∧ ∀ l, H l = none → Q (.ref l) (upd H l (.tup ys))) ∨ (SqT X.K H p ys ∧ Q (.ref p) H))) bTuple := by
  intro W H st st' vs v xs Q g r e q
  unfold bTuple at e
  split at e
  · rename_i u
    cases r with
    | cons r1 r2 =>
      cases r2
      split at e
      · rename_i ys ey
        cases e
        obtain ⟨p, Vs, rfl, h1, h2⟩ := vseq_ok g r1 ey
        refine ⟨p, Vs, rfl, ?_⟩
        rcases h1 with h1 | h1
        · refine .inl ⟨h1, fun l hl => ?_⟩
          obtain ⟨n1, n2, n3⟩ := new_tup g h2 hl
          exact q _ _ _ n1 n2 n3
        · exact .inr ⟨h1, q W H _ Ext.refl g (.tup h1 h2)⟩
      · cases e
  · cases e
def bList : List Val → Sto → Option (List Val)
  | [v], st => vseq st v
  | _, _ => none
theorem okF_list : CallF X (fun xs H Q => ∃ p ys, xs = [.ref p] ∧ (SqL X.K H p ys ∨ SqT X.K H p ys) ∧ ∀ l, H l = none → Q (.ref l) (upd H l (.lst ys))) bList := by
  intro W H st vs ys xs Q g r e q
  unfold bList at e
  split at e
  · rename_i u
    cases r with
    | cons r1 r2 =>
      cases r2
      obtain ⟨p, Vs, rfl, h1, h2⟩ := vseq_ok g r1 e
      exact ⟨p, Vs, rfl, h1, fun l hl => fresh_end Ext.refl g h2 hl q⟩
  · cases e
/-! isinstance -/
def tyName (st : Sto) (v : Val) : Option String := match dref st v with
  | .non => some "NoneType"
  | .bl _ => some "bool"
  | .int _ => some "int"
  | .str _ => some "str"
  | .tup _ => some "tuple"
  | .tpl _ => none
  | .lst _ => some "list"
  | .sc _ => some "list"
  | .ref _ => none
def mIsi (T : String) (m : ME) : ME := mBind m fun v _ st => match tyName st v with
  | some t => match kitB t T with
    | some b => some (.bl b, st)
    | none => none
  | none => none
theorem tyName_ok (g : GoodX X W H st) {v : Val} {x : V} {t : String} (r : Rep X.K W H v x) (e : tyName st v = some t) : TyX X.K H x (.type t) := by
  unfold tyName at e
  split at e
  · rename_i ea
    cases e
    cases dref_ok g r ea (by intro i; simp) with
    | self r _ => cases r; exact .base .non
  · rename_i c ea
    cases e
    cases dref_ok g r ea (by intro i; simp) with
    | self r _ => cases r; exact .base (.bl _)
  · rename_i c ea
    cases e
    cases dref_ok g r ea (by intro i; simp) with
    | self r _ => cases r; exact .base (.int _)
  · rename_i c ea
    cases e
    cases dref_ok g r ea (by intro i; simp) with
    | self r _ => cases r; exact .base (.str _)
  · rename_i xs ea
    cases e
    cases dref_ok g r ea (by intro i; simp) with
    | self r _ => cases r with
      | tup h1 h2 =>
        rcases h1 with (h | ⟨o, h⟩) | ⟨o, its, n, h1, h2, _⟩
        · exact .base (.tup h)
        · exact .fTuple h
        · exact .kTuple h1 h2
  · cases e
  · rename_i xs ea
    cases e
    obtain ⟨p, Vs, rfl, h1, h2⟩ := vlist_ok g r (show vlist st v = some xs by unfold vlist; rw [ea])
    rcases h1 with (h | ⟨o, h⟩) | ⟨o, its, n, h1, h2, _⟩
    · exact .base (.lst h)
    · exact .base (.frz h)
    · exact .kList h1 h2
  · rename_i xs ea
    cases e
    obtain ⟨p, Vs, rfl, h1, h2⟩ := vlist_ok g r (show vlist st v = some xs by unfold vlist; rw [ea])
    rcases h1 with (h | ⟨o, h⟩) | ⟨o, its, n, h1, h2, _⟩
    · exact .base (.lst h)
    · exact .base (.frz h)
    · exact .kList h1 h2
  · cases e
theorem se_isi {T : Str} {n : String} {a : Expr} {p p2 pos : Pos} {m : ME} (ha : PE X a (RE X m)) (hm : X.mg "isinstance" = none) (hT : X.mg T = none) (hv : bootBuiltins T = some (.type n) := by decide +kernel) (hvi : bootBuiltins "isinstance" = some (.builtin "isinstance") := by decide +kernel)
    (hg : Gl X "isinstance" := by rfl) (hgT : Gl X T := by rfl) (hn : T ≠ "__name__" := by decide) (hd : (T == ("__debug__" : Str)) = false := by decide)
    (hs : starEach [a, .Name T p2] X.env = (false, eval a X.env) :: starEach [.Name T p2] X.env := by rfl) : PE X (.Call (.Name "isinstance" p) [a, .Name T p2] [] pos) (RE X (mIsi n m)) := by
  have hT2 : PE X (.Name T p2) (tC (.ty n)) := pe_bltn (u := .type n) hgT hT hv rfl hn hd
  refine pe_weak (pe_callB call_isi hg hm hvi (pa_cons ha (pa_cons hT2 pa_nil) hs) (by decide) (by decide) hs) fun σ H Q h => ?_
  refine rd_bind (R := Rep X.K) h fun W1 H1 env st1 st' a x c g1 er1 ra e q => ?_
  split at e
  · rename_i t et
    split at e
    · rename_i b eb
      cases e
      exact ⟨x, .ty n, .type t, .type n, b, rfl, .ty n, tyName_ok g1 ra et, kit_ty eb, q W1 H1 _ Ext.refl g1 (.bl _)⟩
    · cases e
  · cases e
/-! the names -/
section
variable {e : Expr} {es : List Expr} {p pos : Pos} {ma : MA}
theorem se_len (ha : PA X [e] (RA X ma)) (hm : X.mg "len" = none) (hg : Gl X "len" := by rfl) (hs : starEach [e] X.env = (false, eval e X.env) :: starEach [] X.env := by rfl) : PE X (.Call (.Name "len" p) [e] [] pos) (RE X (mB bLen ma)) :=
  se_callB (call_lenD.or call_len) ok_len (by decide +kernel) hm ha hg (by decide) (by decide) hs rfl
theorem se_all (hc : X.calm = true) (ha : PA X [e] (RA X ma)) (hm : X.mg "all" = none) (hg : Gl X "all" := by rfl) (hs : starEach [e] X.env = (false, eval e X.env) :: starEach [] X.env := by rfl) : PE X (.Call (.Name "all" p) [e] [] pos) (RE X (mB bAll ma)) :=
  se_callB (cr_all hc) ok_all (by decide +kernel) hm ha hg (by decide) (by decide) hs rfl
theorem se_any (hc : X.calm = true) (ha : PA X [e] (RA X ma)) (hm : X.mg "any" = none) (hg : Gl X "any" := by rfl) (hs : starEach [e] X.env = (false, eval e X.env) :: starEach [] X.env := by rfl) : PE X (.Call (.Name "any" p) [e] [] pos) (RE X (mB bAny ma)) :=
  se_callB (cr_any hc) ok_any (by decide +kernel) hm ha hg (by decide) (by decide) hs rfl
theorem se_sum (hc : X.calm = true) (ha : PA X [e] (RA X ma)) (hm : X.mg "sum" = none) (hg : Gl X "sum" := by rfl) (hs : starEach [e] X.env = (false, eval e X.env) :: starEach [] X.env := by rfl) : PE X (.Call (.Name "sum" p) [e] [] pos) (RE X (mB bSum ma)) :=
  se_callB (cr_sum hc) ok_sum (by decide +kernel) hm ha hg (by decide) (by decide) hs rfl
theorem se_abs (ha : PA X [e] (RA X ma)) (hm : X.mg "abs" = none) (hg : Gl X "abs" := by rfl) (hs : starEach [e] X.env = (false, eval e X.env) :: starEach [] X.env := by rfl) : PE X (.Call (.Name "abs" p) [e] [] pos) (RE X (mB bAbs ma)) :=
  se_callB call_abs ok_abs (by decide +kernel) hm ha hg (by decide) (by decide) hs rfl
theorem se_max2 {f : Expr} (hc : X.calm = true) (ha : PA X [e, f] (RA X ma)) (hm : X.mg "max" = none) (hg : Gl X "max" := by rfl) (hs : starEach [e, f] X.env = (false, eval e X.env) :: starEach [f] X.env := by rfl) (hpl : (backTo pos (starEach [f] X.env)).any (·.1) = false := by rfl) : PE X (.Call (.Name "max" p) [e, f] [] pos) (RE X (mB bMax2 ma)) :=
  se_callB (call_max2 hc) ok_max2 (by decide +kernel) hm ha hg (by decide) (by decide) hs hpl
theorem se_min2 {f : Expr} (hc : X.calm = true) (ha : PA X [e, f] (RA X ma)) (hm : X.mg "min" = none) (hg : Gl X "min" := by rfl) (hs : starEach [e, f] X.env = (false, eval e X.env) :: starEach [f] X.env := by rfl) (hpl : (backTo pos (starEach [f] X.env)).any (·.1) = false := by rfl) : PE X (.Call (.Name "min" p) [e, f] [] pos) (RE X (mB bMin2 ma)) :=
  se_callB (call_min2 hc) ok_min2 (by decide +kernel) hm ha hg (by decide) (by decide) hs hpl
theorem se_intOf (ha : PA X [e] (RA X ma)) (hm : X.mg "int" = none) (hg : Gl X "int" := by rfl) (hs : starEach [e] X.env = (false, eval e X.env) :: starEach [] X.env := by rfl) : PE X (.Call (.Name "int" p) [e] [] pos) (RE X (mB bInt ma)) :=
  se_callTy call_int1 ok_int (by decide +kernel) hm ha hg (by decide) (by decide) hs rfl
theorem se_tupleOf (ha : PA X [e] (RA X ma)) (hm : X.mg "tuple" = none) (hg : Gl X "tuple" := by rfl) (hs : starEach [e] X.env = (false, eval e X.env) :: starEach [] X.env := by rfl) : PE X (.Call (.Name "tuple" p) [e] [] pos) (RE X (mB bTuple ma)) :=
  se_callTy call_tuple_of ok_tuple (by decide +kernel) hm ha hg (by decide) (by decide) hs rfl
theorem sf_listOf (ha : PA X [e] (RA X ma)) (hm : X.mg "list" = none) (hg : Gl X "list" := by rfl) (hs : starEach [e] X.env = (false, eval e X.env) :: starEach [] X.env := by rfl) : PE X (.Call (.Name "list" p) [e] [] pos) (rdF X (fB bList ma)) :=
  sf_callTy call_list_of okF_list (by decide +kernel) hm ha hg (by decide) (by decide) hs rfl
end
end
end Sh

-- part Sh9
set_option Elab.async false
set_option linter.all false
set_option maxRecDepth 100000
set_option maxHeartbeats 1000000
namespace Sh
open PySem PySem.Spec PyProof.Rows L2

/-! ### slots that are set, forgotten -/
def wipeE (env : Env) : List Nat → Env
  | [] => env
  | v :: vs => (wipeE env vs).set v none
theorem wipe_set (σ : L2.St) (i : Nat) (x : Option V) : ∀ us : List Nat, wipe (σ.set i x) us = if i ∈ us then wipe σ us else (wipe σ us).set i x
  | [] => by simp [wipe]
  | u :: us => by
    show (wipe (σ.set i x) us).set u none = _
    rw [wipe_set σ i x us]
    by_cases h : i ∈ us
    · rw [if_pos h, if_pos (List.mem_cons_of_mem _ h)]
      rfl
    · rw [if_neg h]
      by_cases e : i = u
      · subst e
        rw [if_pos (List.mem_cons_self ..), List.set_set]
        rfl
      · rw [if_neg (by simp [e, h]), List.set_comm _ _ e]
        rfl
/-- only slots of vs are other ones -/
def Upd (vs : List Nat) (σ σ' : L2.St) : Prop := ∀ us : List Nat, (∀ i ∈ vs, i ∈ us) → wipe σ' us = wipe σ us
theorem EnvR.wipe {K : PySem.W.Frag} {W : Wd} {H : Hp} {env : Env} {σ : L2.St} (h : EnvR K W H env σ) : ∀ vs : List Nat, EnvR K W H (wipeE env vs) (wipe σ vs)
  | [] => h
  | v :: vs => by
    have q := EnvR.wipe h vs
    refine ⟨by show ((wipeE env vs).set v none).length = ((L2.wipe σ vs).set v none).length; rw [List.length_set, List.length_set]; exact q.1, fun i u e => ?_⟩
    have e : ((wipeE env vs).set v none)[i]? = some (some u) := e
    show ∃ x, ((L2.wipe σ vs).set v none)[i]? = some (some x) ∧ _
    by_cases hi : v = i
    · subst hi
      by_cases hl : v < (wipeE env vs).length
      · rw [List.getElem?_set_self hl] at e; cases e
      · rw [List.getElem?_eq_none (by rw [List.length_set]; omega)] at e; cases e
    · rw [List.getElem?_set_ne hi] at e ⊢
      exact q.2 i u e

/-! ### targets -/
section
variable {X : Cx} {W : Wd} {H : Hp} {st : Sto}
/-- a target: the slots it may set; what it does -/
def RG (X : Cx) (vs : List Nat) (g : MG) : TG := fun x σ H Q => ∃ (W : Wd) (env : Env) (st : Sto) (v : Val) (env' : Env) (st' : Sto), GoodX X W H st ∧ EnvR X.K W H env σ ∧ Rep X.K W H v x ∧ g v env st = some (env', st') ∧
  ∀ (W' : Wd) (H' : Hp) (σ' : L2.St), Ext W H W' H' → GoodX X W' H' st' → EnvR X.K W' H' env' σ' → Upd vs σ σ' → Q σ' H'
def gNameM (i : Nat) : MG := fun v env st => some (env.set i (some v), st)
theorem sg_name {i : Nat} {x : Str} {pos : Pos} (hN : X.N.Nodup) (hi : X.N[i]? = some x := by rfl) (hx : Loc X.env.scope x := by first | exact Or.inl rfl | exact Or.inr rfl) (hf : X.fn x = true ∨ X.env.scope.names.lookup x = some .local := by first | exact .inl rfl | exact .inr rfl) : PG X (.Name x pos) (RG X [i] (gNameM i)) := by
  refine pg_weak (pg_name (i := i) hN hi hx hf) fun x σ H Q h => ?_
  obtain ⟨W, env, st, v, env', st', g, er, r, e, q⟩ := h
  cases e
  refine q W H _ Ext.refl g (er.set r i) fun us hu => ?_
  rw [wipe_set, if_pos (hu i (List.mem_singleton.mpr rfl))]
/-- several targets, several values -/
abbrev MGs := List Val → Env → Sto → Option (Env × Sto)
def RGs (X : Cx) (vs : List Nat) (g : MGs) : TGs := fun xs σ H Q => ∃ (W : Wd) (env : Env) (st : Sto) (us : List Val) (env' : Env) (st' : Sto), GoodX X W H st ∧ EnvR X.K W H env σ ∧ Reps X.K W H us xs ∧ g us env st = some (env', st') ∧
  ∀ (W' : Wd) (H' : Hp) (σ' : L2.St), Ext W H W' H' → GoodX X W' H' st' → EnvR X.K W' H' env' σ' → Upd vs σ σ' → Q σ' H'
theorem pgs_weak {e : List Expr} {t t' : TGs} (h : PGs X e t) (hw : ∀ x σ H Q, t' x σ H Q → t x σ H Q) : PGs X e t' := ⟨fun pins s σ H x v Q I r q => h.run pins s σ H x v Q I r (hw x σ H Q q)⟩
def gNilM : MGs
  | [], env, st => some (env, st)
  | _, _, _ => none
def gConsM (g : MG) (gs : MGs) : MGs
  | v :: vs, env, st => match g v env st with
    | some (env1, st1) => gs vs env1 st1
    | none => none
  | _, _, _ => none
theorem sgs_nil : PGs X [] (RGs X [] gNilM) := pgs_weak pgs_nil fun xs σ H Q h => by
  obtain ⟨W, env, st, us, env', st', g, er, r, e, q⟩ := h
  unfold gNilM at e
  split at e
  · cases e
    cases r
    exact ⟨rfl, q W H σ Ext.refl g er fun _ _ => rfl⟩
  · cases e
theorem sgs_cons {e : Expr} {es : List Expr} {vs1 vs2 : List Nat} {g : MG} {gs : MGs} (h1 : PG X e (RG X vs1 g)) (h2 : PGs X es (RGs X vs2 gs))
    (hs : (assignEach (e :: es) X.env).map (·.2) = assign e X.env :: (assignEach es X.env).map (·.2) := by rfl) : PGs X (e :: es) (RGs X (vs1 ++ vs2) (gConsM g gs)) := pgs_weak (pgs_cons h1 h2 hs) fun xs σ H Q h => by
  obtain ⟨W, env, st, us, env', st', gd, er, r, e, q⟩ := h
  unfold gConsM at e
  split at e
  · split at e
    · rename_i env1 st1 e1
      cases r with
      | cons r1 r2 =>
        refine ⟨_, _, rfl, W, env, st, _, env1, st1, gd, er, r1, e1, fun W1 H1 σ1 x1 g1 er1 u1 => ?_⟩
        refine ⟨W1, env1, st1, _, env', st', g1, er1, Reps.ext x1.toExt0 _ _ r2, e, fun W' H' σ' x2 g2 er2 u2 => q W' H' σ' (x1.trans x2) g2 er2 fun us hu => ?_⟩
        exact (u2 us fun i hi => hu i (List.mem_append_right _ hi)).trans (u1 us fun i hi => hu i (List.mem_append_left _ hi))
    · cases e
  · cases e
def gTupM (gs : MGs) : MG := fun v env st => match v with
  | .tup xs => gs xs env st
  | _ => none
/-- how many -/
theorem sg_tup {es : List Expr} {k n : Nat} {pos : Pos} {vs : List Nat} {gs : MGs} (hc : X.calm = true) (h : PGs X es (RGs X vs gs)) (hk : ∀ us env st r, gs us env st = some r → us.length = n)
    (hn : (assignEach es X.env).length = n := by rfl) (hst : (assignEach es X.env).findIdx? (·.1) = none := by rfl) : PG X (.Tuple es k pos) (RG X vs (gTupM gs)) := pg_weak (pg_tup hc h hn hst) fun x σ H Q h => by
  obtain ⟨W, env, st, v, env', st', gd, er, r, e, q⟩ := h
  unfold gTupM at e
  split at e
  · rename_i xs
    cases r with
    | tup h1 h2 => exact ⟨_, _, rfl, h1, h2.length.symm.trans (hk _ _ _ _ e), W, env, st, xs, env', st', gd, er, h2, e, q⟩
  · cases e
theorem gNil_len : ∀ us env st r, gNilM us env st = some r → us.length = 0 := by
  intro us env st r e
  unfold gNilM at e
  split at e
  · rfl
  · cases e
theorem gCons_len {g : MG} {gs : MGs} {n : Nat} (h : ∀ us env st r, gs us env st = some r → us.length = n) : ∀ us env st r, gConsM g gs us env st = some r → us.length = n + 1 := by
  intro us env st r e
  unfold gConsM at e
  split at e
  · split at e
    · rw [List.length_cons, h _ _ _ _ e]
    · cases e
  · cases e

/-! ### what loops walk -/
inductive Src where
  | vals (xs : List Val)
  | live (k : Nat)
abbrev MI := Env → Sto → Option (Src × Sto)
inductive ItOk (X : Cx) (W : Wd) (H : Hp) : It → Src → Prop
  | vals {J : It} {xs : List Val} {G : Hp → Prop} {Y : Nat → Hp → V → Hp → Prop} (w : Walk J xs.length G Y) (hG : ∀ W' H', Ext0 W H W' H' → G H')
      (hY : ∀ i W1 H1 x H2, Ext0 W H W1 H1 → Y i H1 x H2 → Same H1 H2 ∧ ∃ v, xs[i]? = some v ∧ Rep X.K W1 H2 v x) : ItOk X W H J (.vals xs)
  | live {k : Nat} {a : Addr} (h : W.ms[k]? = some a) : ItOk X W H (Itl X.K a) (.live k)
def RI (X : Cx) (m : MI) : TI := fun σ H R => ∃ (W : Wd) (env : Env) (st : Sto) (src : Src) (st' : Sto), GoodX X W H st ∧ EnvR X.K W H env σ ∧ m env st = some (src, st') ∧
  ∀ (W' : Wd) (H' : Hp) (J : It), Ext W H W' H' → GoodX X W' H' st' → ItOk X W' H' J src → R J H'
theorem pi_weak {tg iter : Expr} {t t' : TI} (h : PI X tg iter t) (hw : ∀ σ H R, t' σ H R → t σ H R) : PI X tg iter t' := ⟨fun pins s σ H R I q => h.run pins s σ H R I (hw σ H R q)⟩
/-- a tuple's items -/
theorem itOk_tup {a : Addr} {xs : List Val} {Vs : List V} (h1 : SqT X.K H a Vs) (h2 : Reps X.K W H xs Vs) : ItOk X W H (Itt X.K a) (.vals xs) := by
  refine .vals (G := fun H => SqT X.K H a Vs) (Y := YAt Vs) (by rw [h2.length]; exact walk_tup) (fun W' H' x => x.sqT h1) fun i W1 H1 x H2 x1 hy => ?_
  obtain ⟨e, hx⟩ := hy
  subst e
  obtain ⟨v, e1, e2⟩ := (Reps.ext x1 _ _ h2).get' hx
  exact ⟨Same.refl _, v, e1, e2⟩
/-- a list's that nobody changes -/
theorem itOk_lst {a : Addr} {xs : List Val} {Vs : List V} (h1 : ∀ W' H', Ext0 W H W' H' → SqL X.K H' a Vs) (h2 : Reps X.K W H xs Vs) : ItOk X W H (Itl X.K a) (.vals xs) := by
  refine .vals (G := fun H => SqL X.K H a Vs) (Y := YAt Vs) (by rw [h2.length]; exact walk_list) h1 fun i W1 H1 x H2 x1 hy => ?_
  obtain ⟨e, hx⟩ := hy
  subst e
  obtain ⟨v, e1, e2⟩ := (Reps.ext x1 _ _ h2).get' hx
  exact ⟨Same.refl _, v, e1, e2⟩
/-- an expression's value walked: a tuple, a list -/
def iSeq (m : ME) : MI := mBind m fun v _ st => match v with
  | .tup xs => some (.vals xs, st)
  | .tpl xs => some (.vals xs, st)
  | .lst xs => some (.vals xs, st)
  | .sc xs => some (.vals xs, st)
  | .ref k => match st[k]? with
    | some (.lst _) => some (.live k, st)
    | _ => none
  | _ => none
theorem pi_orW {tg iter : Expr} {wi wi' : TI} (h : PI X tg iter wi) (h' : PI X tg iter wi') : PI X tg iter (fun σ H R => wi σ H R ∨ wi' σ H R) :=
  ⟨fun pins s σ H R I q => q.elim (h.run pins s σ H R I) (h'.run pins s σ H R I)⟩
theorem si_seq {tg e : Expr} {m : ME} (h : PE X e (RE X m)) : PI X tg e (RI X (iSeq m)) := by
  refine pi_weak (pi_orW (pi_list h) (pi_tup h)) fun σ H R h => ?_
  obtain ⟨W, env, st, src, st', g, er, e, q⟩ := h
  obtain ⟨v, st1, e1, e2⟩ := mBind_some e
  split at e2
  · cases e2
    refine .inr ⟨W, env, st, _, _, g, er, e1, fun W' H' x x1 g1 r => ?_⟩
    cases r with
    | tup h1 h2 => exact ⟨_, rfl, ⟨_, h1⟩, q W' H' _ x1 g1 (itOk_tup h1 h2)⟩
  · cases e2
    refine .inr ⟨W, env, st, _, _, g, er, e1, fun W' H' x x1 g1 r => ?_⟩
    cases r.tpl_tup with
    | tup h1 h2 => exact ⟨_, rfl, ⟨_, h1⟩, q W' H' _ x1 g1 (itOk_tup h1 h2)⟩
  · cases e2
    refine .inl ⟨W, env, st, _, _, g, er, e1, fun W' H' x x1 g1 r => ?_⟩
    cases r with
    | lst h0 h1 h2 => exact ⟨_, rfl, ⟨_, .inl (.inl h1)⟩, q W' H' _ x1 g1 (itOk_lst (fun W2 H2 x2 => .inl (.inl (x2.li _ _ h0 h1))) h2)⟩
  · cases e2
    refine .inl ⟨W, env, st, _, _, g, er, e1, fun W' H' x x1 g1 r => ?_⟩
    cases r with
    | fls h1 h2 => exact ⟨_, rfl, ⟨_, .inl (.inr ⟨_, h1⟩)⟩, q W' H' _ x1 g1 (itOk_lst (fun W2 H2 x2 => .inl (.inr ⟨_, x2.fz _ _ _ h1⟩)) h2)⟩
    | kls h1 h2 => exact ⟨_, rfl, ⟨_, klst_sq h1⟩, q W' H' _ x1 g1 (itOk_lst (fun W2 H2 x2 => klst_sq h1) h2)⟩
  · split at e2
    · rename_i k ys es
      cases e2
      refine .inl ⟨W, env, st, _, _, g, er, e1, fun W' H' x x1 g1 r => ?_⟩
      cases r with
      | ref hk =>
        obtain ⟨a, h1, Vs, h2, h3⟩ := g1.at es
        rw [hk] at h1
        cases h1
        exact ⟨_, rfl, ⟨_, .inl (.inl h2)⟩, q W' H' _ x1 g1 (.live hk)⟩
    · cases e2
  · cases e2
/-! ranges -/
def rgVals (lo : Int) (n : Nat) : List Val := (List.range n).map fun i => .int (lo + (i : Nat))
theorem rgVals_get {lo : Int} {n i : Nat} (h : i < n) : (rgVals lo n)[i]? = some (.int (lo + (i : Nat))) := by
  unfold rgVals
  rw [List.getElem?_map, List.getElem?_range h]
  rfl
theorem rgVals_len (lo : Int) (n : Nat) : (rgVals lo n).length = n := by unfold rgVals; rw [List.length_map, List.length_range]
theorem itOk_range {lo : Int} {n : Nat} : ItOk X W H (Itr lo n) (.vals (rgVals lo n)) := by
  refine .vals (G := fun _ => True) (Y := fun i H x H' => H' = H ∧ x = .int (lo + i) ∧ i < n) ?_ (fun _ _ _ => trivial) fun i W1 H1 x H2 x1 hy => ?_
  · rw [rgVals_len]
    exact ⟨fun i H h _ => h, fun H _ => Nat.le_refl _, fun i H x H' hi _ y => ⟨y.1, y.2, hi⟩⟩
  · obtain ⟨e, e2, hi⟩ := hy
    subst e e2
    exact ⟨Same.refl _, _, rgVals_get hi, .int _⟩
def rgOk (i : Int) : Bool := decide (-(2 ^ 62) ≤ i ∧ i < 2 ^ 62)
def iRange1 (m : ME) : MI := mBind m fun v _ st => match v with
  | .int j => if rgOk j = true then some (.vals (rgVals 0 j.toNat), st) else none
  | _ => none
def iRange2 (a b : ME) : MI := mBind a fun v => mBind b fun u _ st => match v, u with
  | .int i, .int j => if (rgOk i && rgOk j) = true then some (.vals (rgVals i (j - i).toNat), st) else none
  | _, _ => none
theorem si_range1 {tg a : Expr} {p pos : Pos} {m : ME} (ha : PE X a (RE X m)) (hm : X.mg "range" = none) (hg : Gl X "range" := by rfl) (hs : starEach [a] X.env = [(false, eval a X.env)] := by rfl) : PI X tg (.Call (.Name "range" p) [a] [] pos) (RI X (iRange1 m)) := by
  refine pi_weak (pi_range1 hg hm (pa_cons ha pa_nil hs) hs) fun σ H R h => ?_
  obtain ⟨W, env, st, src, st', g, er, e, q⟩ := h
  obtain ⟨v, st1, e1, e2⟩ := mBind_some e
  split at e2
  · split at e2
    · rename_i j hj
      cases e2
      refine ⟨W, env, st, _, _, g, er, e1, fun W' H' x x1 g1 r => ?_⟩
      cases r
      have h2 := of_decide_eq_true hj
      exact ⟨j, rfl, h2.1, h2.2, q W' H' _ x1 g1 itOk_range⟩
    · cases e2
  · cases e2
theorem si_range2 {tg a b : Expr} {p pos : Pos} {ma mb : ME} (ha : PE X a (RE X ma)) (hb : PE X b (RE X mb)) (hm : X.mg "range" = none) (hg : Gl X "range" := by rfl) (hs : starEach [a, b] X.env = [(false, eval a X.env), (false, eval b X.env)] := by rfl)
    (hs2 : starEach [b] X.env = [(false, eval b X.env)] := by rfl) : PI X tg (.Call (.Name "range" p) [a, b] [] pos) (RI X (iRange2 ma mb)) := by
  refine pi_weak (pi_range2 hg hm (pa_cons ha (pa_cons hb pa_nil hs2) (by rw [hs, hs2])) hs hs2) fun σ H R h => ?_
  obtain ⟨W, env, st, src, st', g, er, e, q⟩ := h
  obtain ⟨v, st1, e1, e2⟩ := mBind_some e
  obtain ⟨u, st2, e3, e4⟩ := mBind_some e2
  split at e4
  · split at e4
    · rename_i i j hj
      cases e4
      rw [Bool.and_eq_true] at hj
      refine ⟨W, env, st, _, _, g, er, e1, fun W1 H1 x x1 g1 r => ?_⟩
      refine ⟨W1, env, st1, _, _, g1, er.ext x1.toExt0, e3, fun W2 H2 y x2 g2 r2 => ?_⟩
      cases r
      cases r2
      have h2 := of_decide_eq_true hj.1
      have h3 := of_decide_eq_true hj.2
      exact ⟨i, j, rfl, ⟨h2.1, h2.2, h3.1, h3.2⟩, q W2 H2 _ (x1.trans x2) g2 itOk_range⟩
    · cases e4
  · cases e4
/-! pairs: zip, enumerate -/
theorem itOk_pair {J : It} {n : Nat} {G : Hp → Prop} {f h : Nat → Option V} {xs : List Val} (w : Walk J n G (YPair f h)) (hn : xs.length = n) (hG : ∀ W' H', Ext0 W H W' H' → G H')
    (hx : ∀ i W1 H1 x y, Ext0 W H W1 H1 → f i = some x → h i = some y → ∃ u v, xs[i]? = some (.tup [u, v]) ∧ Rep X.K W1 H1 u x ∧ Rep X.K W1 H1 v y) : ItOk X W H J (.vals xs) := by
  refine .vals (G := G) (Y := YPair f h) (by rw [hn]; exact w) hG fun i W1 H1 z H2 x1 hy => ?_
  obtain ⟨T, x, y, rfl, hT, rfl, e1, e2⟩ := hy
  obtain ⟨u, v, e3, r1, r2⟩ := hx i W1 H1 x y x1 e1 e2
  have sm : Same H1 (upd H1 T (.tup [x, y])) := same_new hT
  have x2 : Ext0 W1 H1 W1 (upd H1 T (.tup [x, y])) := (Ext.same (W := W1) sm).toExt0
  exact ⟨sm, _, e3, .tup (.inl (.inl upd_same)) (.cons (Rep.ext x2 _ _ r1) (.cons (Rep.ext x2 _ _ r2) .nil))⟩
def zipV : List Val → List Val → List Val
  | x :: xs, y :: ys => .tup [x, y] :: zipV xs ys
  | _, _ => []
theorem zipV_len : ∀ xs ys : List Val, (zipV xs ys).length = min xs.length ys.length
  | [], _ => by simp [zipV]
  | _ :: _, [] => by simp [zipV]
  | x :: xs, y :: ys => by simp [zipV, zipV_len xs ys]
theorem zipV_get : ∀ {xs ys : List Val} {i : Nat} {x y : Val}, xs[i]? = some x → ys[i]? = some y → (zipV xs ys)[i]? = some (.tup [x, y])
  | [], _, _, _, _, h, _ => by simp at h
  | _ :: _, [], _, _, _, _, h => by simp at h
  | _ :: _, _ :: _, 0, _, _, h1, h2 => by simp at h1 h2; subst h1 h2; rfl
  | _ :: xs, _ :: ys, i + 1, x, y, h1, h2 => by
    have := zipV_get (xs := xs) (ys := ys) (i := i) (by simpa using h1) (by simpa using h2)
    simpa [zipV] using this
/-- the items of two tuples, or of two lists that nobody changes -/
def vtup2 : Val → Val → Option (List Val × List Val)
  | .tup xs, .tup ys => some (xs, ys)
  | _, _ => none
def vlst2 : Val → Val → Option (List Val × List Val)
  | .lst xs, .lst ys => some (xs, ys)
  | .sc xs, .lst ys => some (xs, ys)
  | .lst xs, .sc ys => some (xs, ys)
  | .sc xs, .sc ys => some (xs, ys)
  | _, _ => none
def iZip (as : MA) : MI := mBind as fun vs _ st => match vs with
  | [a, b] => match vtup2 a b with
    | some (xs, ys) => some (.vals (zipV xs ys), st)
    | none => match vlst2 a b with
      | some (xs, ys) => some (.vals (zipV xs ys), st)
      | none => none
  | _ => none
theorem vlst_st (g : GoodX X W H st) {v : Val} {x : V} {xs : List Val} (r : Rep X.K W H v x) (h : v = .lst xs ∨ v = .sc xs) : ∃ a Vs, x = .ref a ∧ (∀ W' H', Ext0 W H W' H' → SqL X.K H' a Vs) ∧ Reps X.K W H xs Vs := by
  rcases h with rfl | rfl
  · cases r with
    | lst h0 h1 h2 => exact ⟨_, _, rfl, fun W2 H2 x2 => .inl (.inl (x2.li _ _ h0 h1)), h2⟩
  · cases r with
    | fls h1 h2 => exact ⟨_, _, rfl, fun W2 H2 x2 => .inl (.inr ⟨_, x2.fz _ _ _ h1⟩), h2⟩
    | kls h1 h2 => exact ⟨_, _, rfl, fun W2 H2 x2 => klst_sq h1, h2⟩
theorem vlst2_of {a b : Val} {xs ys : List Val} (h : vlst2 a b = some (xs, ys)) : (a = .lst xs ∨ a = .sc xs) ∧ (b = .lst ys ∨ b = .sc ys) := by
  unfold vlst2 at h
  split at h <;> cases h <;> simp
theorem walk_zipT {K : PySem.W.Frag} {a b : Addr} {xs ys : List V} {n : Nat} (hn : n = min xs.length ys.length) : Walk (RZ.ItzT K a b) n (fun H => SqT K H a xs ∧ SqT K H b ys) (YPair (fun i => xs[i]?) (fun i => ys[i]?)) := by
  refine ⟨fun i H hi hG => ?_, fun H hG => ⟨xs, ys, hG.1, hG.2, by omega⟩, fun i H x H' hi hG hy => ?_⟩
  · exact ⟨xs, ys, _, _, hG.1, hG.2, List.getElem?_eq_getElem (by omega), List.getElem?_eq_getElem (by omega)⟩
  · obtain ⟨T, u, v, e3, e4, e5, e6, e7⟩ := hy
    exact ⟨T, u, v, e3, e4, e5, e6 xs hG.1, e7 ys hG.2⟩
theorem si_zip {e e2 : Expr} {p pos tpos : Pos} {elts : List Expr} {kk : Nat} {ma : MA} (ha : PA X [e, e2] (RA X ma)) (hm : X.mg "zip" = none) (hg : Gl X "zip" := by rfl)
    (hs : starEach [e, e2] X.env = (false, eval e X.env) :: starEach [e2] X.env := by rfl) (hpl : (backTo pos (starEach [e2] X.env)).any (·.1) = false := by rfl) :
    PI X (.Tuple elts kk tpos) (.Call (.Name "zip" p) [e, e2] [] pos) (RI X (iZip ma)) := by
  refine pi_weak (RZ.pi_zipA hg hm ha hs hpl) fun σ H R h => ?_
  obtain ⟨W, env, st, src, st', g, er, e, q⟩ := h
  obtain ⟨vs, st1, e1, e2⟩ := mBind_some e
  split at e2
  · rename_i a b
    split at e2
    · rename_i xs ys ev
      cases e2
      unfold vtup2 at ev
      split at ev
      · cases ev
        refine ⟨W, env, st, _, _, g, er, e1, fun W1 H1 zs x1 g1 r => ?_⟩
        cases r with
        | cons r1 r2 => cases r2 with
          | cons r3 r4 =>
            cases r4
            cases r1 with
            | tup a1 a2 =>
              cases r3 with
              | tup b1 b2 =>
                refine ⟨_, _, _, _, rfl, .inr ⟨a1, b1, q W1 H1 _ x1 g1 ?_⟩⟩
                refine itOk_pair (n := min xs.length ys.length) (walk_zipT (by rw [a2.length, b2.length])) (zipV_len _ _) (fun W2 H2 x2 => ⟨x2.sqT a1, x2.sqT b1⟩) fun i W2 H2 x y x2 f1 f2 => ?_
                obtain ⟨u, u1, u2⟩ := (Reps.ext x2 _ _ a2).get' f1
                obtain ⟨v, v1, v2⟩ := (Reps.ext x2 _ _ b2).get' f2
                exact ⟨u, v, zipV_get u1 v1, u2, v2⟩
      · cases ev
    · split at e2
      · rename_i xs ys ev
        cases e2
        obtain ⟨h1, h2⟩ := vlst2_of ev
        refine ⟨W, env, st, _, _, g, er, e1, fun W1 H1 zs x1 g1 r => ?_⟩
        cases r with
        | cons r1 r2 => cases r2 with
          | cons r3 r4 =>
            cases r4
            obtain ⟨pa, Va, rfl, a1, a2⟩ := vlst_st g1 r1 h1
            obtain ⟨pb, Vb, rfl, b1, b2⟩ := vlst_st g1 r3 h2
            refine ⟨pa, pb, Va, Vb, rfl, .inl ⟨a1 _ _ Ext0.refl, b1 _ _ Ext0.refl, q W1 H1 _ x1 g1 ?_⟩⟩
            refine itOk_pair (n := min xs.length ys.length) (walk_zip (by rw [a2.length, b2.length])) (zipV_len _ _) (fun W2 H2 x2 => ⟨a1 _ _ x2, b1 _ _ x2⟩) fun i W2 H2 x y x2 f1 f2 => ?_
            obtain ⟨u, u1, u2⟩ := (Reps.ext x2 _ _ a2).get' f1
            obtain ⟨v, v1, v2⟩ := (Reps.ext x2 _ _ b2).get' f2
            exact ⟨u, v, zipV_get u1 v1, u2, v2⟩
      · cases e2
  · cases e2
end
end Sh

-- part Sh10
set_option Elab.async false
set_option linter.all false
set_option maxRecDepth 100000
set_option maxHeartbeats 1000000
namespace Sh
open PySem PySem.Spec PyProof.Rows L2

section
variable {X : Cx} {W : Wd} {H : Hp} {st : Sto}
/-! ### statements -/
def sNext : MS := fun env st => some (.nx, env, st)
def sSeq (a b : MS) : MS := fun env st => match a env st with
  | some (.nx, env1, st1) => b env1 st1
  | r => r
theorem ss_nil : PSs X [] (RS X sNext) := pss_weak pss_nil fun D σ H h => by
  obtain ⟨W, env, st, fl, env', st', g, er, e, q⟩ := h
  cases e
  exact q W H σ Ext.refl g er
/-- the end of a first statement -/
theorem seq_ok {D : Ends} {a b : MS} {σ : L2.St} (h : RS X (sSeq a b) D σ H) : RS X a { D with nx := RS X b D } σ H := by
  obtain ⟨W, env, st, fl, env', st', g, er, e, q⟩ := h
  unfold sSeq at e
  split at e
  · rename_i env1 st1 e1
    refine ⟨W, env, st, .nx, env1, st1, g, er, e1, fun W1 H1 σ1 x1 g1 er1 => ?_⟩
    exact ⟨W1, env1, st1, fl, env', st', g1, er1, e, fun W' H' σ' x2 g2 er2 => q W' H' σ' (x1.trans x2) g2 er2⟩
  · rename_i e1
    refine ⟨W, env, st, fl, env', st', g, er, e, fun W1 H1 σ1 x1 g1 er1 => ?_⟩
    have z := q W1 H1 σ1 x1 g1 er1
    cases fl with
    | nx => exact absurd e (e1 env' st')
    | bk => exact z
    | ct => exact z
    | rt v => exact z
theorem ss_cons {s1 : Stmt} {rest : List Stmt} {a b : MS} (h1 : PS X s1 (RS X a)) (h2 : PSs X rest (RS X b)) : PSs X (s1 :: rest) (RS X (sSeq a b)) := pss_weak (pss_cons h1 h2) fun D σ H h => seq_ok h
theorem ss_one {s1 : Stmt} {a : MS} (h1 : PS X s1 (RS X a)) : PSs X [s1] (RS X a) := pss_one h1
def sBk : MS := fun env st => some (.bk, env, st)
def sCt : MS := fun env st => some (.ct, env, st)
theorem ss_pass {pos : Pos} : PS X (.Pass pos) (RS X sNext) := ps_weak ps_pass fun D σ H h => by
  obtain ⟨W, env, st, fl, env', st', g, er, e, q⟩ := h
  cases e
  exact q W H σ Ext.refl g er
theorem ss_break {pos : Pos} : PS X (.Break pos) (RS X sBk) := ps_weak ps_break fun D σ H h => by
  obtain ⟨W, env, st, fl, env', st', g, er, e, q⟩ := h
  cases e
  exact q W H σ Ext.refl g er
theorem ss_continue {pos : Pos} : PS X (.Continue pos) (RS X sCt) := ps_weak ps_continue fun D σ H h => by
  obtain ⟨W, env, st, fl, env', st', g, er, e, q⟩ := h
  cases e
  exact q W H σ Ext.refl g er
/-- a raise (or anything) that no run comes to -/
def sStuck : MS := fun _ _ => none
theorem ss_stuck {s1 : Stmt} : PS X s1 (RS X sStuck) := ps_weak ps_never fun D σ H h => by
  obtain ⟨W, env, st, fl, env', st', g, er, e, q⟩ := h
  cases e
/-- the value, then what is done with it -/
theorem sbind {m : ME} {σ : L2.St} {Q1 : V → Hp → Prop} {env' : Env} {st0 st' : Sto} {fl : Fl} {env : Env} {k : Val → Env → Sto → Option (Fl × Env × Sto)} {W : Wd}
    (g : GoodX X W H st0) (er : EnvR X.K W H env σ) (e : (match m env st0 with | some (v, st1) => k v env st1 | none => none) = some (fl, env', st'))
    (q : ∀ (v : Val) (st1 : Sto), k v env st1 = some (fl, env', st') → ∀ (W1 : Wd) (H1 : Hp) (x : V), Ext W H W1 H1 → GoodX X W1 H1 st1 → EnvR X.K W1 H1 env σ → Rep X.K W1 H1 v x → Q1 x H1) : RE X m σ H Q1 := by
  split at e
  · rename_i v st1 e1
    exact ⟨W, env, st0, v, st1, g, er, e1, fun W1 H1 x x1 g1 r => q v st1 e W1 H1 x x1 g1 (er.ext x1.toExt0) r⟩
  · cases e
def sSet (i : Nat) (m : ME) : MS := fun env st => match m env st with
  | some (v, st1) => some (.nx, env.set i (some v), st1)
  | none => none
theorem ss_set {i : Nat} {x : Str} {e : Expr} {m : ME} {pos pos' : Pos} (hN : X.N.Nodup) (he : PE X e (RE X m)) (hi : X.N[i]? = some x := by rfl) (hx : Loc X.env.scope x := by first | exact Or.inl rfl | exact Or.inr rfl)
    (hs : swapsWith e (some (.Name x pos')) pos.line X.env = pure false := by rfl) (hf : X.fn x = true ∨ X.env.scope.names.lookup x = some .local := by first | exact .inl rfl | exact .inr rfl) : PS X (.Assign [.Name x pos'] e pos) (RS X (sSet i m)) :=
  ps_weak (ps_set hN hi hx he hs hf) fun D σ H h => by
    obtain ⟨W, env, st, fl, env', st', g, er, e, q⟩ := h
    refine sbind (k := fun v env st1 => some (.nx, env.set i (some v), st1)) g er e fun v st1 e1 W1 H1 x x1 g1 er1 r => ?_
    cases e1
    exact q W1 H1 _ x1 g1 (er1.set r i)
/-- target = value -/
def sAsg (g : MG) (m : ME) : MS := fun env st => match m env st with
  | some (v, st1) => match g v env st1 with
    | some (env2, st2) => some (.nx, env2, st2)
    | none => none
  | none => none
theorem ss_asg {tg e : Expr} {vs : List Nat} {g : MG} {m : ME} {pos : Pos} (he : PE X e (RE X m)) (hg : PG X tg (RG X vs g)) (hs : swapsWithSole [tg] e pos.line X.env = pure false := by rfl) (hw : swappedStores [tg] e X.env = pure none := by rfl)
    (h1 : (assignEach [tg] X.env).map (·.2) = [assign tg X.env] := by rfl) : PS X (.Assign [tg] e pos) (RS X (sAsg g m)) := ps_weak (ps_asg he hg hs hw h1) fun D σ H h => by
  obtain ⟨W, env, st, fl, env', st', gd, er, e, q⟩ := h
  refine sbind (k := fun v env st1 => match g v env st1 with | some (env2, st2) => some (.nx, env2, st2) | none => none) gd er e fun v st1 e1 W1 H1 x x1 g1 er1 r => ?_
  split at e1
  · rename_i env2 st2 e2
    cases e1
    exact ⟨W1, env, st1, v, _, _, g1, er1, r, e2, fun W' H' σ' x2 g2 er2 _ => q W' H' σ' (x1.trans x2) g2 er2⟩
  · cases e1
/-- a, b = x, y -/
def sPar (i j : Nat) (as : MA) : MS := fun env st => match as env st with
  | some ([v, u], st1) => some (.nx, (env.set i (some v)).set j (some u), st1)
  | _ => none
theorem ss_par {i j : Nat} {x y : Str} {a b : Expr} {ma : MA} {px py pt pos : Pos} {kt k2 pt2} (hc : X.calm = true) (hN : X.N.Nodup) (ha : PA X [a, b] (RA X ma)) (hi : X.N[i]? = some x := by rfl) (hj : X.N[j]? = some y := by rfl) (hij : i ≠ j := by decide)
    (hx : X.env.scope.names.lookup x = some .local := by rfl) (hy : X.env.scope.names.lookup y = some .local := by rfl)
    (hw : swappedStores [.Tuple [.Name x px, .Name y py] kt pt] (.Tuple [a, b] k2 pt2) X.env = pure (some [x, y]) := by rfl)
    (hs : swapsWithSole [.Tuple [.Name x px, .Name y py] kt pt] (.Tuple [a, b] k2 pt2) pos.line X.env = pure false := by rfl) :
    PS X (.Assign [.Tuple [.Name x px, .Name y py] kt pt] (.Tuple [a, b] k2 pt2) pos) (RS X (sPar i j ma)) := ps_weak (ps_par hc hN hi hj hij hx hy ha hw hs) fun D σ H h => by
  obtain ⟨W, env, st, fl, env', st', g, er, e, q⟩ := h
  unfold sPar at e
  split at e
  · rename_i v u st1 e1
    cases e
    refine ⟨W, env, st, _, _, g, er, e1, fun W1 H1 xs x1 g1 r => ?_⟩
    cases r with
    | cons r1 r2 => cases r2 with
      | cons r3 r4 =>
        cases r4
        exact ⟨_, _, rfl, q W1 H1 _ x1 g1 (((er.ext x1.toExt0).set r1 i).set r3 j)⟩
  · cases e
def sRet (m : ME) : MS := fun env st => match m env st with
  | some (v, st1) => some (.rt v, env, st1)
  | none => none
theorem ss_ret {e : Expr} {m : ME} {pos : Pos} (he : PE X e (RE X m)) : PS X (.Return (some e) pos) (RS X (sRet m)) := ps_weak (ps_ret he) fun D σ H h => by
  obtain ⟨W, env, st, fl, env', st', g, er, e, q⟩ := h
  refine sbind (k := fun v env st1 => some (.rt v, env, st1)) g er e fun v st1 e1 W1 H1 x x1 g1 er1 r => ?_
  cases e1
  exact q W1 H1 σ x1 g1 er1 x r
def sRetN : MS := fun env st => some (.rt .non, env, st)
theorem ss_retN {pos : Pos} : PS X (.Return none pos) (RS X sRetN) := ps_weak ps_retN fun D σ H h => by
  obtain ⟨W, env, st, fl, env', st', g, er, e, q⟩ := h
  cases e
  exact q W H σ Ext.refl g er _ .non
def sEx (m : ME) : MS := fun env st => match m env st with
  | some (_, st1) => some (.nx, env, st1)
  | none => none
theorem ss_ex {e : Expr} {m : ME} {pos : Pos} (he : PE X e (RE X m)) (hs : swapsWith e none pos.line X.env = pure false := by rfl) : PS X (.Expr e pos) (RS X (sEx m)) := ps_weak (ps_expr he hs) fun D σ H h => by
  obtain ⟨W, env, st, fl, env', st', g, er, e, q⟩ := h
  refine sbind (k := fun v env st1 => some (.nx, env, st1)) g er e fun v st1 e1 W1 H1 x x1 g1 er1 r => ?_
  cases e1
  exact q W1 H1 σ x1 g1 er1
def sIf (t : MT) (a b : MS) : MS := fun env st => match t env st with
  | some (c, st1) => if c = true then a env st1 else b env st1
  | none => none
theorem ss_if {c : Expr} {p q : List Stmt} {pos : Pos} {t : MT} {a b : MS} (hc : PT X c (RT X t)) (ha : PSs X p (RS X a)) (hb : PSs X q (RS X b)) : PS X (.If c p q pos) (RS X (sIf t a b)) := ps_weak (ps_if hc ha hb) fun D σ H h => by
  obtain ⟨W, env, st, fl, env', st', g, er, e, q⟩ := h
  unfold sIf at e
  split at e
  · rename_i c st1 e1
    refine ⟨W, env, st, c, st1, g, er, e1, fun W1 H1 b x1 g1 r => ?_⟩
    subst r
    by_cases hc : c = true
    · rw [if_pos hc] at e ⊢
      exact ⟨W1, env, st1, fl, env', st', g1, er.ext x1.toExt0, e, fun W' H' σ' x2 g2 er2 => q W' H' σ' (x1.trans x2) g2 er2⟩
    · rw [if_neg hc] at e ⊢
      exact ⟨W1, env, st1, fl, env', st', g1, er.ext x1.toExt0, e, fun W' H' σ' x2 g2 er2 => q W' H' σ' (x1.trans x2) g2 er2⟩
  · cases e
/-! ### while -/
def whileL (t : MT) (body : MS) : Nat → MS
  | 0, _, _ => none
  | n + 1, env, st => match t env st with
    | none => none
    | some (false, st1) => some (.nx, env, st1)
    | some (true, st1) => match body env st1 with
      | some (.nx, env2, st2) => whileL t body n env2 st2
      | some (.ct, env2, st2) => whileL t body n env2 st2
      | some (.bk, env2, st2) => some (.nx, env2, st2)
      | r => r
/-- at most so many turns (any number may be given) -/
def sWhile (n : Nat) (t : MT) (body : MS) : MS := whileL t body n
theorem ss_while {n : Nat} {c : Expr} {p : List Stmt} {pos : Pos} {t : MT} {body : MS} (hp : PassesOwn (model X.prog X.w) X.A X.env X.xe) (hc : PT X c (RT X t)) (hb : PSs X p (RS X body)) : PS X (.While c p [] pos) (RS X (sWhile n t body)) :=
  ps_weak (ps_while hp hc hb) fun D σ H h => by
    obtain ⟨W, env, st, fl, env', st', g, er, e, q⟩ := h
    refine ⟨fun m σ1 H1 => ∃ W1 env1 st1, Ext W H W1 H1 ∧ GoodX X W1 H1 st1 ∧ EnvR X.K W1 H1 env1 σ1 ∧ whileL t body m env1 st1 = some (fl, env', st'), ⟨n, W, env, st, Ext.refl, g, er, e⟩, ?_⟩
    rintro m σ1 H1 ⟨W1, env1, st1, x1, g1, er1, e1⟩
    cases m with
    | zero => cases e1
    | succ m =>
      rw [whileL] at e1
      split at e1
      · cases e1
      · rename_i st2 e2
        cases e1
        refine ⟨W1, _, st1, false, _, g1, er1, e2, fun W2 H2 b x2 g2 r => ?_⟩
        subst r
        rw [if_neg Bool.false_ne_true]
        exact q W2 H2 σ1 (x1.trans x2) g2 (er1.ext x2.toExt0)
      · rename_i st2 e2
        refine ⟨W1, env1, st1, true, st2, g1, er1, e2, fun W2 H2 b x2 g2 r => ?_⟩
        subst r
        rw [if_pos rfl]
        refine ⟨fun σ' H' => ∃ W3 env3 st3, Ext W H W3 H' ∧ GoodX X W3 H' st3 ∧ EnvR X.K W3 H' env3 σ' ∧ whileL t body m env3 st3 = some (fl, env', st'), fun σ' H' ⟨W3, env3, st3, z⟩ => ⟨m, Nat.lt_succ_self m, W3, env3, st3, z⟩, ?_⟩
        have x12 := x1.trans x2
        split at e1
        · rename_i env2 st3 e3
          exact ⟨W2, env1, st2, _, env2, st3, g2, er1.ext x2.toExt0, e3, fun W' H' σ' x3 g3 er3 => ⟨W', env2, st3, x12.trans x3, g3, er3, e1⟩⟩
        · rename_i env2 st3 e3
          exact ⟨W2, env1, st2, _, env2, st3, g2, er1.ext x2.toExt0, e3, fun W' H' σ' x3 g3 er3 => ⟨W', env2, st3, x12.trans x3, g3, er3, e1⟩⟩
        · rename_i env2 st3 e3
          cases e1
          exact ⟨W2, env1, st2, _, _, _, g2, er1.ext x2.toExt0, e3, fun W' H' σ' x3 g3 er3 => q W' H' σ' (x12.trans x3) g3 er3⟩
        · rename_i n1 n2 n3
          refine ⟨W2, env1, st2, fl, env', st', g2, er1.ext x2.toExt0, e1, fun W' H' σ' x3 g3 er3 => ?_⟩
          have z := q W' H' σ' (x12.trans x3) g3 er3
          cases fl with
          | nx => exact absurd e1 (n1 _ _)
          | bk => exact absurd e1 (n3 _ _)
          | ct => exact absurd e1 (n2 _ _)
          | rt v => exact z
end
end Sh

-- part Sh11
set_option Elab.async false
set_option linter.all false
set_option maxRecDepth 100000
set_option maxHeartbeats 1000000
namespace Sh
open PySem PySem.Spec PyProof.Rows L2

section
variable {X : Cx} {W : Wd} {H : Hp} {st : Sto}
/-! ### for -/
/-- one turn -/
def turnM (g : MG) (body : MS) (x : Val) : MS := fun env st => match g x env st with
  | some (env1, st1) => body env1 st1
  | none => none
def forL (g : MG) (body : MS) : List Val → MS
  | [], env, st => some (.nx, env, st)
  | x :: xs, env, st => match turnM g body x env st with
    | some (.nx, env2, st2) => forL g body xs env2 st2
    | some (.ct, env2, st2) => forL g body xs env2 st2
    | some (.bk, env2, st2) => some (.nx, env2, st2)
    | r => r
/-- over a list of the store as it stands at each turn -/
def forV (g : MG) (body : MS) (k : Nat) : Nat → Nat → MS
  | 0, _, _, _ => none
  | n + 1, i, env, st => match st[k]? with
    | some (.lst ys) => match ys[i]? with
      | none => some (.nx, env, st)
      | some x => match turnM g body x env st with
        | some (.nx, env2, st2) => forV g body k n (i + 1) env2 st2
        | some (.ct, env2, st2) => forV g body k n (i + 1) env2 st2
        | some (.bk, env2, st2) => some (.nx, env2, st2)
        | r => r
    | _ => none
def loopFuel : Nat := 1000000
def sFor (src : MI) (g : MG) (body : MS) : MS := fun env st => match src env st with
  | some (.vals xs, st1) => forL g body xs env st1
  | some (.live k, st1) => forV g body k loopFuel 0 env st1
  | none => none
/-- what a turn comes to, where what is wanted of the loop is known -/
theorem turn_ok {D : Ends} {vs : List Nat} {g : MG} {body : MS} {v : Val} {x : V} {σ : L2.St} {W0 : Wd} {H0 : Hp} {env : Env} {st : Sto} {fl : Fl} {env' : Env} {st' : Sto} {N : L2.St → Hp → Prop} {rest : MS}
    (x0 : Ext W0 H0 W H) (g0 : GoodX X W H st) (er : EnvR X.K W H env σ) (r : Rep X.K W H v x)
    (e : (match turnM g body v env st with
      | some (.nx, env2, st2) => rest env2 st2
      | some (.ct, env2, st2) => rest env2 st2
      | some (.bk, env2, st2) => some (.nx, env2, st2)
      | r => r) = some (fl, env', st'))
    (hN : ∀ W1 H1 σ1 env1 st1, Ext W0 H0 W1 H1 → GoodX X W1 H1 st1 → EnvR X.K W1 H1 env1 σ1 → rest env1 st1 = some (fl, env', st') → N σ1 H1)
    (q : ∀ (W' : Wd) (H' : Hp) (σ' : L2.St), Ext W0 H0 W' H' → GoodX X W' H' st' → EnvR X.K W' H' env' σ' → endOf X.K D fl W' σ' H') :
    RG X vs g x σ H fun σ2 H2 => RS X body { D with nx := N, ct := N, bk := D.nx } σ2 H2 := by
  unfold turnM at e
  cases eg : g v env st with
  | none => rw [eg] at e; cases e
  | some p =>
    obtain ⟨env1, st1⟩ := p
    rw [eg] at e
    refine ⟨W, env, st, v, env1, st1, g0, er, r, eg, fun W1 H1 σ1 x1 g1 er1 _ => ?_⟩
    have x01 := x0.trans x1
    dsimp only at e
    split at e
    · rename_i env2 st2 e2
      exact ⟨W1, env1, st1, _, env2, st2, g1, er1, e2, fun W2 H2 σ2 x2 g2 er2 => hN W2 H2 σ2 env2 st2 (x01.trans x2) g2 er2 e⟩
    · rename_i env2 st2 e2
      exact ⟨W1, env1, st1, _, env2, st2, g1, er1, e2, fun W2 H2 σ2 x2 g2 er2 => hN W2 H2 σ2 env2 st2 (x01.trans x2) g2 er2 e⟩
    · rename_i env2 st2 e2
      cases e
      exact ⟨W1, env1, st1, _, _, _, g1, er1, e2, fun W2 H2 σ2 x2 g2 er2 => q W2 H2 σ2 (x01.trans x2) g2 er2⟩
    · rename_i n1 n2 n3
      refine ⟨W1, env1, st1, fl, env', st', g1, er1, e, fun W2 H2 σ2 x2 g2 er2 => ?_⟩
      have z := q W2 H2 σ2 (x01.trans x2) g2 er2
      cases fl with
      | nx => exact absurd e (n1 _ _)
      | bk => exact absurd e (n3 _ _)
      | ct => exact absurd e (n2 _ _)
      | rt v => exact z
theorem for_ok {D : Ends} {vs : List Nat} {g : MG} {body : MS} {src : MI} {σ : L2.St} (h : RS X (sFor src g body) D σ H) : tFor (RI X src) (RG X vs g) (RS X body) D σ H := by
  obtain ⟨W, env, st, fl, env', st', g0, er, e, q⟩ := h
  unfold sFor at e
  split at e
  · rename_i xs st1 e1
    refine ⟨W, env, st, _, st1, g0, er, e1, fun W1 H1 J x1 g1 it => ?_⟩
    cases it with
    | @vals J xs G Y w hG hY =>
      refine for_it w (fun i σ2 H2 => ∃ W2 env2 st2, Ext W1 H1 W2 H2 ∧ GoodX X W2 H2 st2 ∧ EnvR X.K W2 H2 env2 σ2 ∧ forL g body (xs.drop i) env2 st2 = some (fl, env', st')) ⟨W1, env, st1, Ext.refl, g1, er.ext x1.toExt0, e⟩
        (fun i σ2 H2 _ ⟨W2, env2, st2, x2, _⟩ => hG W2 H2 x2.toExt0) (fun i x σ2 H2 H3 hi ⟨W2, env2, st2, x2, g2, er2, e2⟩ hy => ?_) fun σ2 H2 ⟨W2, env2, st2, x2, g2, er2, e2⟩ => ?_
      · obtain ⟨sm, v, ev, r⟩ := hY i W2 H2 x H3 x2.toExt0 hy
        have ed : xs.drop i = v :: xs.drop (i + 1) := by
          obtain ⟨hl, rfl⟩ := List.getElem?_eq_some_iff.mp ev
          exact List.drop_eq_getElem_cons hl
        rw [ed, forL] at e2
        have x3 : Ext W2 H2 W2 H3 := Ext.same sm
        exact turn_ok (x2.trans x3) (g2.same sm) (er2.ext x3.toExt0) r e2 (fun W4 H4 σ4 env4 st4 x4 g4 er4 e4 => ⟨W4, env4, st4, x4, g4, er4, e4⟩) fun W' H' σ' x' g' er' => q W' H' σ' (x1.trans x') g' er'
      · rw [List.drop_length] at e2
        cases e2
        exact q W2 H2 σ2 (x1.trans x2) g2 er2
  · rename_i k st1 e1
    refine ⟨W, env, st, _, st1, g0, er, e1, fun W1 H1 J x1 g1 it => ?_⟩
    cases it with
    | @live k a hk =>
      refine ⟨fun i m σ2 H2 => ∃ W2 env2 st2, Ext W1 H1 W2 H2 ∧ GoodX X W2 H2 st2 ∧ EnvR X.K W2 H2 env2 σ2 ∧ forV g body k m i env2 st2 = some (fl, env', st'), ⟨loopFuel, W1, env, st1, Ext.refl, g1, er.ext x1.toExt0, e⟩, ?_⟩
      rintro i m σ2 H2 ⟨W2, env2, st2, x2, g2, er2, e2⟩
      cases m with
      | zero => cases e2
      | succ m =>
        rw [forV] at e2
        split at e2
        · rename_i ys es
          obtain ⟨b, h1, Vs, h2, h3⟩ := g2.at es
          rw [x2.mm _ _ hk] at h1
          cases h1
          split at e2
          · rename_i en
            cases e2
            refine .inl ⟨⟨Vs, .inl (.inl h2), ?_⟩, q W2 H2 σ2 (x1.trans x2) g2 er2⟩
            rw [← h3.length]
            exact List.getElem?_eq_none_iff.mp en
          · rename_i v ev
            obtain ⟨y, hy, r⟩ := h3.get ev
            refine .inr ⟨⟨Vs, y, .inl (.inl h2), hy⟩, fun σ' H' => ∃ W3 env3 st3, Ext W1 H1 W3 H' ∧ GoodX X W3 H' st3 ∧ EnvR X.K W3 H' env3 σ' ∧ forV g body k m (i + 1) env3 st3 = some (fl, env', st'), fun σ' H' ⟨W3, env3, st3, z⟩ => ⟨m, Nat.lt_succ_self m, W3, env3, st3, z⟩, fun x H3 hx => ?_⟩
            obtain ⟨rfl, hx⟩ := hx
            have e3 := hx Vs (.inl (.inl h2))
            rw [hy] at e3
            cases e3
            exact turn_ok (rest := forV g body k m (i + 1)) x2 g2 er2 r e2 (fun W4 H4 σ4 env4 st4 x4 g4 er4 e4 => ⟨W4, env4, st4, x4, g4, er4, e4⟩) fun W' H' σ' x' g' er' => q W' H' σ' (x1.trans x') g' er'
        · cases e2
  · cases e
theorem ss_for {tg iter : Expr} {p : List Stmt} {pos : Pos} {vs : List Nat} {src : MI} {g : MG} {body : MS} (hp : PassesOwn (model X.prog X.w) X.A X.env X.xe) (hc : X.calm = true) (hi : PI X tg iter (RI X src)) (hg : PG X tg (RG X vs g)) (hb : PSs X p (RS X body))
    (hs : ∀ x, foldedSetIterable iter X.env x = pure x := by intro _; rfl) : PS X (.For tg iter p [] pos) (RS X (sFor src g body)) := ps_weak (ps_for hp hc hi hg hb hs) fun D σ H h => for_ok h

/-! ### comprehensions -/
/-- what an item gives: none or some values -/
abbrev MP := Val → Sto → Option (List Val × Sto)
def lcL (f : MP) : List Val → Sto → Option (List Val × Sto)
  | [], st => some ([], st)
  | x :: xs, st => match f x st with
    | some (ys, st1) => match lcL f xs st1 with
      | some (zs, st2) => some (ys ++ zs, st2)
      | none => none
    | none => none
def lcV (f : MP) (k : Nat) : Nat → Nat → Sto → Option (List Val × Sto)
  | 0, _, _ => none
  | n + 1, i, st => match st[k]? with
    | some (.lst xs) => match xs[i]? with
      | none => some ([], st)
      | some x => match f x st with
        | some (ys, st1) => match lcV f k n (i + 1) st1 with
          | some (zs, st2) => some (ys ++ zs, st2)
          | none => none
        | none => none
    | _ => none
def lcS (f : MP) : Src → Sto → Option (List Val × Sto)
  | .vals xs, st => lcL f xs st
  | .live k, st => lcV f k loopFuel 0 st
/-- one for: the target, the test, the element -/
def step1 (g : MG) (t : MT) (m : ME) (env0 : Env) : MP := fun x st => match g x env0 st with
  | none => none
  | some (env1, st1) => match t env1 st1 with
    | none => none
    | some (false, st2) => some ([], st2)
    | some (true, st2) => match m env1 st2 with
      | some (v, st3) => some ([v], st3)
      | none => none
/-- an outer for over an inner one -/
def step2 (g : MG) (t : MT) (mi : MI) (vs1 : List Nat) (g1 : MG) (t1 : MT) (m : ME) (env0 : Env) : MP := fun x st => match g x env0 st with
  | none => none
  | some (env1, st1) => match t env1 st1 with
    | none => none
    | some (false, st2) => some ([], st2)
    | some (true, st2) => match mi env1 st2 with
      | some (src, st3) => lcS (step1 g1 t1 m (wipeE env1 vs1)) src st3
      | none => none
def fLcOf (vs : List Nat) (mi : MI) (f : Env → MP) : MA := fun env st => match mi env st with
  | some (src, st1) => match lcS (f (wipeE env vs)) src st1 with
    | some (ys, st2) => if lenOk ys.length = true then some (ys, st2) else none
    | none => none
  | none => none
def fLc (vs : List Nat) (mi : MI) (g : MG) (t : MT) (m : ME) : MA := fLcOf vs mi (step1 g t m)
def fLc2 (vs : List Nat) (mi : MI) (g : MG) (t : MT) (mi1 : MI) (vs1 : List Nat) (g1 : MG) (t1 : MT) (m : ME) : MA := fLcOf vs mi (step2 g t mi1 vs1 g1 t1 m)
def tYesM : MT := fun _ st => some (true, st)
theorem pts_weak {e : List Expr} {t t' : TT} (h : PTs X e t) (hw : ∀ σ H Q, t' σ H Q → t σ H Q) : PTs X e t' := ⟨fun pins s σ H Q I q => h.run pins s σ H Q I (hw σ H Q q)⟩
theorem sts_nil : PTs X [] (RT X tYesM) := pts_weak pts_nil fun σ H Q h => by
  obtain ⟨W, env, st, c, st', g, er, e, q⟩ := h
  cases e
  exact q W H true Ext.refl g rfl
theorem sts_one {c : Expr} {t : MT} (h : PT X c (RT X t)) : PTs X [c] (RT X t) := pts_one h
/-- the state of a comprehension between two items: the new list at D holds acc -/
structure LcAt (X : Cx) (W0 : Wd) (H0 : Hp) (D : Addr) (W : Wd) (H : Hp) (st : Sto) (acc : List Val) : Prop where
  x : Ext W0 H0 W H
  g : GoodX X W H st
  l : ∃ Vs, H D = some (.lst Vs) ∧ Reps X.K W H acc Vs
  m : D ∉ W.ms
  f : ¬ W.F D
  n : H0 D = none
/-- the list at D changes: nothing else does -/
theorem lc_ext0 {W : Wd} {H : Hp} {D : Addr} {ys : List V} {zs : List V} (hD : H D = some (.lst ys)) (hF : ¬ W.F D) : Ext0 W H W (upd H D (.lst zs)) := by
  refine ⟨fun _ _ h => h, fun _ h => h, fun a xs f h => ?_, fun a o xs h => ?_, fun a xs h => ?_⟩
  · rw [upd_ne (fun e : a = D => hF (e ▸ f))]; exact h
  · rw [upd_ne (fun e : a = D => by subst e; rw [hD] at h; cases h)]; exact h
  · rcases h with h | ⟨o, h⟩
    · exact .inl (by rw [upd_ne (fun e : a = D => by subst e; rw [hD] at h; cases h)]; exact h)
    · exact .inr ⟨o, by rw [upd_ne (fun e : a = D => by subst e; rw [hD] at h; cases h)]; exact h⟩
theorem LcAt.grow {W0 : Wd} {H0 : Hp} {D : Addr} {acc : List Val} (a : LcAt X W0 H0 D W H st acc) {v : Val} {y : V} (r : Rep X.K W H v y) : ∃ Vs, H D = some (.lst Vs) ∧ Vs.length = acc.length ∧ LcAt X W0 H0 D W (upd H D (.lst (Vs ++ [y]))) st (acc ++ [v]) := by
  obtain ⟨Vs, h1, h2⟩ := a.l
  have x1 := lc_ext0 (zs := Vs ++ [y]) h1 a.f
  refine ⟨Vs, h1, h2.length.symm, ⟨?_, ?_, ⟨_, upd_same, Reps.ext x1 _ _ (h2.append (.cons r .nil))⟩, a.m, a.f, a.n⟩⟩
  · refine ⟨a.x.toExt0.trans x1, fun b u hb e => ?_, a.x.nw, a.x.nf⟩
    rw [upd_ne (fun z : b = D => by subst z; rw [a.n] at e; cases e)]
    exact a.x.kp b u hb e
  · refine ⟨a.g.len, a.g.nd, a.g.nf, fun i o b h3 h4 => ?_, fun b hb => ?_⟩
    · have hb : b ≠ D := fun z => a.m (z ▸ List.mem_of_getElem? h4)
      exact (a.g.ob i o b h3 h4).ext x1 (upd_ne hb)
    · obtain ⟨u, hu⟩ := a.g.fs b hb
      exact ⟨u, by rw [upd_ne (fun z : b = D => a.f (z ▸ hb))]; exact hu⟩
/-- code runs in it -/
theorem LcAt.move {W0 W1 : Wd} {H0 H1 : Hp} {st1 : Sto} {D : Addr} {acc : List Val} (a : LcAt X W0 H0 D W H st acc) (x1 : Ext W H W1 H1) (g1 : GoodX X W1 H1 st1) : LcAt X W0 H0 D W1 H1 st1 acc := by
  obtain ⟨Vs, h1, h2⟩ := a.l
  have hD := x1.kp D _ a.m h1
  refine ⟨a.x.trans x1, g1, ⟨Vs, hD, Reps.ext x1.toExt0 _ _ h2⟩, fun z => ?_, fun z => ?_, a.n⟩
  · rcases x1.nw D z with q | q
    · exact a.m q
    · rw [h1] at q; cases q
  · rcases x1.nf D a.m z with q | q
    · exact a.f q
    · rw [h1] at q; cases q
end
end Sh

-- part Sh12
set_option Elab.async false
set_option linter.all false
set_option maxRecDepth 100000
set_option maxHeartbeats 1000000
namespace Sh
open PySem PySem.Spec PyProof.Rows L2

section
variable {X : Cx} {W : Wd} {H : Hp} {st : Sto}
theorem wipe_wipe (σ : L2.St) : ∀ vs us : List Nat, (∀ i ∈ vs, i ∈ us) → wipe (wipe σ vs) us = wipe σ us
  | [], us, _ => rfl
  | v :: vs, us, h => by
    show wipe ((wipe σ vs).set v none) us = _
    rw [wipe_set, if_pos (h v (List.mem_cons_self ..)), wipe_wipe σ vs us fun i hi => h i (List.mem_cons_of_mem _ hi)]
theorem lc_start (g : GoodX X W H st) {D : Addr} (hD : H D = none) : LcAt X W H D W (upd H D (.lst [])) st [] :=
  ⟨Ext.same (same_new hD), g.same (same_new hD), ⟨[], upd_same, .nil⟩, g.notIn hD, g.notF hD, hD⟩
/-- a turn's reading B where a turn is told by f -/
def TurnR (X : Cx) (Ws : Wd) (Hs : Hp) (W0 : Wd) (H0 : Hp) (D : Addr) (f : MP) (B : V → Hp → (Hp → Prop) → Prop) : Prop := ∀ (W : Wd) (H : Hp) (st st1 : Sto) (acc ys : List Val) (v : Val) (x : V) (Nx : Hp → Prop), Ext0 Ws Hs W H → LcAt X W0 H0 D W H st acc →
  Rep X.K W H v x → f v st = some (ys, st1) → (acc ++ ys).length ≤ 1000000 → (∀ W1 H1, Ext0 W H W1 H1 → LcAt X W0 H0 D W1 H1 st1 (acc ++ ys) → Nx H1) → B x H Nx
/-- a turn with one for -/
theorem lc_turn {Ws : Wd} {Hs : Hp} {W0 : Wd} {H0 : Hp} {D : Addr} {vsg vs : List Nat} {g : MG} {t : MT} {m : ME} {env0 : Env} {σ0 : L2.St} (er0 : EnvR X.K Ws Hs env0 (wipe σ0 vs)) (hsub : ∀ i ∈ vsg, i ∈ vs) :
    TurnR X Ws Hs W0 H0 D (step1 g t m env0) fun x H Nx => RG X vsg g x (wipe σ0 vs) H fun σ2 H2 => wipe σ2 vs = wipe σ0 vs ∧ RT X t σ2 H2 fun b H3 =>
      if b = true then RE X m σ2 H3 fun y H4 => ∃ acc, H4 D = some (.lst acc) ∧ acc.length < sizeLine ∧ Nx (upd H4 D (.lst (acc ++ [y]))) else Nx H3 := by
  intro W H st st1 acc ys v x Nx xs a r e hz hN
  have er := er0.ext xs
  unfold step1 at e
  split at e
  · cases e
  · rename_i env1 st2 e1
    refine ⟨W, env0, st, v, env1, st2, a.g, er, r, e1, fun W1 H1 σ1 x1 g1 er1 u1 => ⟨(u1 vs hsub).trans (wipe_wipe σ0 vs vs fun _ h => h), ?_⟩⟩
    have a1 := a.move x1 g1
    split at e
    · cases e
    · rename_i st3 e2
      cases e
      refine ⟨W1, env1, st2, false, _, g1, er1, e2, fun W2 H2 b x2 g2 hb => ?_⟩
      subst hb
      rw [if_neg Bool.false_ne_true]
      have a2 := a1.move x2 g2
      rw [List.append_nil] at hN
      exact hN W2 H2 (x1.trans x2).toExt0 a2
    · rename_i st3 e2
      refine ⟨W1, env1, st2, true, st3, g1, er1, e2, fun W2 H2 b x2 g2 hb => ?_⟩
      subst hb
      rw [if_pos rfl]
      have a2 := a1.move x2 g2
      split at e
      · rename_i u st4 e3
        cases e
        refine ⟨W2, env1, st3, u, _, g2, er1.ext x2.toExt0, e3, fun W3 H3 y x3 g3 r3 => ?_⟩
        obtain ⟨Vs, h1, h2, a3⟩ := (a2.move x3 g3).grow r3
        have x4 := lc_ext0 (zs := Vs ++ [y]) h1 (a2.move x3 g3).f
        refine ⟨Vs, h1, ?_, hN W3 _ (((x1.trans x2).trans x3).toExt0.trans x4) a3⟩
        rw [List.length_append, List.length_singleton] at hz
        rw [h2, sizeLine_eq]
        omega
      · cases e
/-- all turns -/
theorem lc_loop {Ws : Wd} {Hs : Hp} {W0 : Wd} {H0 : Hp} {D : Addr} {f : MP} {B : V → Hp → (Hp → Prop) → Prop} (hB : TurnR X Ws Hs W0 H0 D f B) {J : It} {src : Src} {st0 st' : Sto} {acc zs : List Val} {Qd : Hp → Prop}
    (it : ItOk X Ws Hs J src) (a0 : LcAt X W0 H0 D W H st0 acc) (x0 : Ext0 Ws Hs W H) (e : lcS f src st0 = some (zs, st')) (hz : (acc ++ zs).length ≤ 1000000)
    (hd : ∀ W' H', Ext0 W H W' H' → LcAt X W0 H0 D W' H' st' (acc ++ zs) → Qd H') :
    ∃ Wv : Nat → Nat → Hp → Prop, (∃ m, Wv 0 m H) ∧ ∀ i m H, Wv i m H → (J.stop i H ∧ Qd H) ∨ (J.go i H ∧ ∃ Nx : Hp → Prop, (∀ H', Nx H' → ∃ m', m' < m ∧ Wv (i + 1) m' H') ∧ ∀ x H', J.yld i H x H' → B x H' Nx) := by
  cases it with
  | @vals J xs G Y w hG hY =>
    refine ⟨fun i m H1 => m = xs.length - i ∧ i ≤ xs.length ∧ ∃ W1 st1 acc1 zs1, Ext0 W H W1 H1 ∧ LcAt X W0 H0 D W1 H1 st1 acc1 ∧ lcL f (xs.drop i) st1 = some (zs1, st') ∧ acc1 ++ zs1 = acc ++ zs,
      ⟨xs.length, by simp, Nat.zero_le _, W, st0, acc, zs, Ext0.refl, a0, e, rfl⟩, ?_⟩
    rintro i m H1 ⟨rfl, hi, W1, st1, acc1, zs1, x1, a1, e1, ea⟩
    by_cases hlt : i < xs.length
    · refine .inr ⟨w.goes i H1 hlt (hG _ _ (x0.trans x1)), fun H' => ∃ W2 st2 acc2 zs2, Ext0 W H W2 H' ∧ LcAt X W0 H0 D W2 H' st2 acc2 ∧ lcL f (xs.drop (i + 1)) st2 = some (zs2, st') ∧ acc2 ++ zs2 = acc ++ zs, fun H' q => ⟨xs.length - (i + 1), by omega, rfl, hlt, q⟩, fun x H' hy => ?_⟩
      obtain ⟨sm, v, ev, r⟩ := hY i W1 H1 x H' (x0.trans x1) (w.yields i H1 x H' hlt (hG _ _ (x0.trans x1)) hy)
      have ed : xs.drop i = v :: xs.drop (i + 1) := by
        obtain ⟨hl, rfl⟩ := List.getElem?_eq_some_iff.mp ev
        exact List.drop_eq_getElem_cons hl
      rw [ed, lcL] at e1
      have xs2 : Ext W1 H1 W1 H' := Ext.same sm
      split at e1
      · rename_i ys st2 e2
        split at e1
        · rename_i zs2 st3 e3
          cases e1
          refine hB W1 H' st1 st2 acc1 ys v x _ ((x0.trans x1).trans xs2.toExt0) (a1.move xs2 (a1.g.same sm)) r e2 ?_ fun W2 H2 x2 a2 => ⟨W2, st2, acc1 ++ ys, zs2, (x1.trans xs2.toExt0).trans x2, a2, e3, by rw [← ea, List.append_assoc]⟩
          have := congrArg List.length ea
          simp only [List.length_append] at this hz ⊢
          omega
        · cases e1
      · cases e1
    · have e2 : i = xs.length := by omega
      subst e2
      rw [List.drop_length] at e1
      cases e1
      rw [List.append_nil] at ea
      subst ea
      exact .inl ⟨w.stops H1 (hG _ _ (x0.trans x1)), hd W1 H1 x1 a1⟩
  | @live k a hk =>
    refine ⟨fun i m H1 => ∃ W1 st1 acc1 zs1, Ext0 W H W1 H1 ∧ LcAt X W0 H0 D W1 H1 st1 acc1 ∧ lcV f k m i st1 = some (zs1, st') ∧ acc1 ++ zs1 = acc ++ zs, ⟨loopFuel, W, st0, acc, zs, Ext0.refl, a0, e, rfl⟩, ?_⟩
    rintro i m H1 ⟨W1, st1, acc1, zs1, x1, a1, e1, ea⟩
    cases m with
    | zero => cases e1
    | succ m =>
      rw [lcV] at e1
      split at e1
      · rename_i xs es
        obtain ⟨b, h1, Vs, h2, h3⟩ := a1.g.at es
        rw [(x0.trans x1).mm _ _ hk] at h1
        cases h1
        split at e1
        · rename_i en
          cases e1
          rw [List.append_nil] at ea
          subst ea
          refine .inl ⟨⟨Vs, .inl (.inl h2), ?_⟩, hd W1 H1 x1 a1⟩
          rw [← h3.length]
          exact List.getElem?_eq_none_iff.mp en
        · rename_i v ev
          obtain ⟨y, hy, r⟩ := h3.get ev
          split at e1
          · rename_i ys st2 e2
            split at e1
            · rename_i zs2 st3 e3
              cases e1
              refine .inr ⟨⟨Vs, y, .inl (.inl h2), hy⟩, fun H' => ∃ W2 st2 acc2 zs2, Ext0 W H W2 H' ∧ LcAt X W0 H0 D W2 H' st2 acc2 ∧ lcV f k m (i + 1) st2 = some (zs2, st') ∧ acc2 ++ zs2 = acc ++ zs, fun H' q => ⟨m, Nat.lt_succ_self m, q⟩, fun x H' hx => ?_⟩
              obtain ⟨rfl, hx⟩ := hx
              have e4 := hx Vs (.inl (.inl h2))
              rw [hy] at e4
              cases e4
              refine hB W1 H' st1 st2 acc1 ys v _ _ (x0.trans x1) a1 r e2 ?_ fun W2 H2 x2 a2 => ⟨W2, st2, acc1 ++ ys, zs2, x1.trans x2, a2, e3, by rw [← ea, List.append_assoc]⟩
              have := congrArg List.length ea
              simp only [List.length_append] at this hz ⊢
              omega
            · cases e1
          · cases e1
      · cases e1
theorem sf_lc {elt tg iter : Expr} {ifs : List Expr} {scope : Scope} {own : List (Str × Nat)} {pos : Pos} {mi : MI} {vsg : List Nat} {g : MG} {t : MT} {m : ME} (hc : X.calm = true) (hN : X.N.Nodup) (hi : PI X tg iter (RI X mi)) (ok : BlkOk X.N X.env.scope scope own)
    (hg : ∀ (s : Shared) (H : Hp) (C : Addr) (cl : List (Str × Addr)) (fp : List Addr), PG (X.blk s H scope (compEnvC scope cl C X.env) fp) tg (RG X vsg g)) (ht : ∀ (s : Shared) (H : Hp) (C : Addr) (cl : List (Str × Addr)) (fp : List Addr), PTs (X.blk s H scope (compEnvC scope cl C X.env) fp) ifs (RT X t))
    (he : ∀ (s : Shared) (H : Hp) (C : Addr) (cl : List (Str × Addr)) (fp : List Addr), PE (X.blk s H scope (compEnvC scope cl C X.env) fp) elt (RE X m)) (hsub : ∀ i ∈ vsg, i ∈ own.map (·.2) := by decide) (hs : ∀ x, foldedSetIterable iter X.env x = pure x := by intro _; rfl) :
    PE X (.ListComp elt [⟨tg, iter, ifs, 0⟩] scope pos) (rdF X (fLc (own.map (·.2)) mi g t m)) := by
  refine pe_weak (pe_lc hc hN hi ok hg ht he hs) fun σ H Q h => ?_
  obtain ⟨W, env, st, ys, st', g0, er, e, q⟩ := h
  unfold fLc fLcOf at e
  split at e
  · rename_i src st1 e1
    split at e
    · rename_i zs st2 e2
      split at e
      · rename_i hl
        cases e
        refine ⟨W, env, st, src, st1, g0, er, e1, fun W1 H1 J x1 g1 it D hD => ?_⟩
        have er1 := (er.ext x1.toExt0).wipe (own.map (·.2))
        refine lc_loop (lc_turn (vsg := vsg) (D := D) (W0 := W1) (H0 := H1) er1 hsub) it (lc_start g1 hD) (Ext.same (W := W1) (same_new hD)).toExt0 e2 (by rw [List.nil_append]; exact of_decide_eq_true hl) fun W' H' _ a => ?_
        obtain ⟨Vs, h1, h2⟩ := a.l
        exact q W' H' Vs D (x1.trans a.x) a.g h2 h1 a.m a.f (x1.none_of g1 hD)
      · cases e
    · cases e
  · cases e
/-- a turn with two fors -/
theorem lc_turn2 {Ws : Wd} {Hs : Hp} {W0 : Wd} {H0 : Hp} {D : Addr} {vsg vsg1 vs vs1 : List Nat} {g g1 : MG} {t t1 : MT} {mi : MI} {m : ME} {env0 : Env} {σ0 : L2.St} (er0 : EnvR X.K Ws Hs env0 (wipe σ0 vs)) (hsub : ∀ i ∈ vsg, i ∈ vs) (hsub1 : ∀ i ∈ vsg1, i ∈ vs1) :
    TurnR X Ws Hs W0 H0 D (step2 g t mi vs1 g1 t1 m env0) fun x H Nx => RG X vsg g x (wipe σ0 vs) H fun σ2 H2 => wipe σ2 vs = wipe σ0 vs ∧ RT X t σ2 H2 fun b H3 =>
      if b = true then RI X mi σ2 H3 fun J1 H4 => ∃ W1 : Nat → Nat → Hp → Prop, (∃ m, W1 0 m H4) ∧ ∀ j k H, W1 j k H →
        (J1.stop j H ∧ Nx H) ∨ (J1.go j H ∧ ∃ Nx1 : Hp → Prop, (∀ H', Nx1 H' → ∃ k', k' < k ∧ W1 (j + 1) k' H') ∧ ∀ x H', J1.yld j H x H' → RG X vsg1 g1 x (wipe σ2 vs1) H' fun σ3 H5 => wipe σ3 vs1 = wipe σ2 vs1 ∧ RT X t1 σ3 H5 fun b H6 =>
          if b = true then RE X m σ3 H6 fun y H7 => ∃ acc, H7 D = some (.lst acc) ∧ acc.length < sizeLine ∧ Nx1 (upd H7 D (.lst (acc ++ [y]))) else Nx1 H6)
      else Nx H3 := by
  intro W H st st1 acc ys v x Nx xs a r e hz hN
  have er := er0.ext xs
  unfold step2 at e
  split at e
  · cases e
  · rename_i env1 st2 e1
    refine ⟨W, env0, st, v, env1, st2, a.g, er, r, e1, fun W1 H1 σ1 x1 g1 er1 u1 => ⟨(u1 vs hsub).trans (wipe_wipe σ0 vs vs fun _ h => h), ?_⟩⟩
    have a1 := a.move x1 g1
    split at e
    · cases e
    · rename_i st3 e2
      cases e
      refine ⟨W1, env1, st2, false, _, g1, er1, e2, fun W2 H2 b x2 g2 hb => ?_⟩
      subst hb
      rw [if_neg Bool.false_ne_true]
      have a2 := a1.move x2 g2
      rw [List.append_nil] at hN
      exact hN W2 H2 (x1.trans x2).toExt0 a2
    · rename_i st3 e2
      refine ⟨W1, env1, st2, true, st3, g1, er1, e2, fun W2 H2 b x2 g2 hb => ?_⟩
      subst hb
      rw [if_pos rfl]
      have a2 := a1.move x2 g2
      split at e
      · rename_i src st4 e3
        refine ⟨W2, env1, st3, src, st4, g2, er1.ext x2.toExt0, e3, fun W3 H3 J x3 g3 it => ?_⟩
        have a3 := a2.move x3 g3
        have er3 := (er1.ext (x2.trans x3).toExt0).wipe vs1
        exact lc_loop (lc_turn (vsg := vsg1) (D := D) er3 hsub1) it a3 Ext0.refl e hz fun W' H' x4 a4 => hN W' H' (((x1.trans x2).trans x3).toExt0.trans x4) a4
      · cases e
theorem itOk_blk {s : Shared} {H0 : Hp} {scope : Scope} {cenv : PySem.Env} {fp : List Addr} {J : It} {src : Src} (h : ItOk (X.blk s H0 scope cenv fp) W H J src) : ItOk X W H J src := by
  cases h with
  | vals w hG hY => exact .vals w hG hY
  | live h => exact .live h
theorem pi_blk {s : Shared} {H0 : Hp} {scope : Scope} {cenv : PySem.Env} {fp : List Addr} {tg iter : Expr} {mi : MI} (h : PI (X.blk s H0 scope cenv fp) tg iter (RI (X.blk s H0 scope cenv fp) mi)) : PI (X.blk s H0 scope cenv fp) tg iter (RI X mi) :=
  pi_weak h fun σ H R h => by
    obtain ⟨W, env, st, src, st', g, er, e, q⟩ := h
    exact ⟨W, env, st, src, st', g, er, e, fun W' H' J x g' it => q W' H' J x g' (itOk_blk it)⟩
theorem sf_lc2 {elt tg iter tg1 iter1 : Expr} {ifs ifs1 : List Expr} {scope : Scope} {own : List (Str × Nat)} {vs1 : List Nat} {pos : Pos} {mi mi1 : MI} {vsg vsg1 : List Nat} {g g1 : MG} {t t1 : MT} {m : ME} (hc : X.calm = true) (hN : X.N.Nodup) (hi : PI X tg iter (RI X mi)) (ok : BlkOk X.N X.env.scope scope own) (hv : ∀ i ∈ vs1, i ∈ own.map (·.2))
    (hg : ∀ (s : Shared) (H : Hp) (C : Addr) (cl : List (Str × Addr)) (fp : List Addr), PG (X.blk s H scope (compEnvC scope cl C X.env) fp) tg (RG X vsg g)) (ht : ∀ (s : Shared) (H : Hp) (C : Addr) (cl : List (Str × Addr)) (fp : List Addr), PTs (X.blk s H scope (compEnvC scope cl C X.env) fp) ifs (RT X t))
    (hi1 : ∀ (s : Shared) (H : Hp) (C : Addr) (cl : List (Str × Addr)) (fp : List Addr), PI (X.blk s H scope (compEnvC scope cl C X.env) fp) tg1 iter1 (RI (X.blk s H scope (compEnvC scope cl C X.env) fp) mi1))
    (hg1 : ∀ (s : Shared) (H : Hp) (C : Addr) (cl : List (Str × Addr)) (fp : List Addr), PG (X.blk s H scope (compEnvC scope cl C X.env) fp) tg1 (RG X vsg1 g1)) (ht1 : ∀ (s : Shared) (H : Hp) (C : Addr) (cl : List (Str × Addr)) (fp : List Addr), PTs (X.blk s H scope (compEnvC scope cl C X.env) fp) ifs1 (RT X t1))
    (he : ∀ (s : Shared) (H : Hp) (C : Addr) (cl : List (Str × Addr)) (fp : List Addr), PE (X.blk s H scope (compEnvC scope cl C X.env) fp) elt (RE X m)) (hsub : ∀ i ∈ vsg, i ∈ own.map (·.2) := by decide) (hsub1 : ∀ i ∈ vsg1, i ∈ vs1 := by decide)
    (hs : ∀ x, foldedSetIterable iter X.env x = pure x := by intro _; rfl) (hs1 : ∀ env x, foldedSetIterable iter1 env x = pure x := by intro _ _; rfl) :
    PE X (.ListComp elt [⟨tg, iter, ifs, 0⟩, ⟨tg1, iter1, ifs1, 0⟩] scope pos) (rdF X (fLc2 (own.map (·.2)) mi g t mi1 vs1 g1 t1 m)) := by
  refine pe_weak (pe_lc2 hc hN hi ok hv hg ht (fun s H C cl fp => pi_blk (hi1 s H C cl fp)) hg1 ht1 he hs hs1) fun σ H Q h => ?_
  obtain ⟨W, env, st, ys, st', g0, er, e, q⟩ := h
  unfold fLc2 fLcOf at e
  split at e
  · rename_i src st1 e1
    split at e
    · rename_i zs st2 e2
      split at e
      · rename_i hl
        cases e
        refine ⟨W, env, st, src, st1, g0, er, e1, fun W1 H1 J x1 g1 it D hD => ?_⟩
        have er1 := (er.ext x1.toExt0).wipe (own.map (·.2))
        refine lc_loop (lc_turn2 (vsg := vsg) (vsg1 := vsg1) (D := D) (W0 := W1) (H0 := H1) er1 hsub hsub1) it (lc_start g1 hD) (Ext.same (W := W1) (same_new hD)).toExt0 e2 (by rw [List.nil_append]; exact of_decide_eq_true hl) fun W' H' _ a => ?_
        obtain ⟨Vs, h1, h2⟩ := a.l
        exact q W' H' Vs D (x1.trans a.x) a.g h2 h1 a.m a.f (x1.none_of g1 hD)
      · cases e
    · cases e
  · cases e
end
end Sh

-- part Sh13
set_option Elab.async false
set_option linter.all false
set_option maxRecDepth 100000
set_option maxHeartbeats 1000000
namespace Sh
open PySem PySem.Spec PyProof.Rows L2

/-! ### a pair is put into a dict -/
theorem dget_any (kvs : List (Val × Val)) (k : Val) : (kvs.any fun p => veq p.1 k) = (dget kvs k).isSome := by
  induction kvs with
  | nil => rfl
  | cons p ps ih =>
    unfold dget
    rw [List.any_cons, List.find?_cons]
    cases h : veq p.1 k with
    | true => rfl
    | false =>
      rw [Bool.false_or, ih]
      rfl
theorem dput_len (kvs : List (Val × Val)) (k v : Val) : (dput kvs k v).length ≤ kvs.length + 1 := by
  unfold dput
  split
  · rw [List.length_map]; omega
  · rw [List.length_append]; exact Nat.le_refl _
theorem dput_ne (kvs : List (Val × Val)) (k v : Val) : dput kvs k v ≠ [] := by
  unfold dput
  split
  · rename_i h
    cases kvs with
    | nil => simp at h
    | cons p ps => simp
  · simp
theorem paired_app {α β : Type} {F : α → β → Prop} : ∀ {l₁ : List α} {l₂ : List β} {a : α} {b : β}, Paired F l₁ l₂ → F a b → Paired F (l₁ ++ [a]) (l₂ ++ [b])
  | _, _, _, _, .nil, r => .cons r .nil
  | _, _, _, _, .cons q t, r => .cons q (paired_app t r)
section
variable {X : Cx} {W : Wd} {H : Hp} {st : Sto} {pins : List (Addr × Obj)} {σ : L2.St} {s : Shared} {A : Around} {E : Value → Shared → Prop}
theorem dk_put {K : PySem.W.Frag} {kvs : List (Val × Val)} {l : List (Key × V)} {k v : Val} {kk : Key} {y : V} (hk : k = kval kk) (h : Paired (fun p q => p.1 = kval q.1 ∧ Rep K W H p.2 q.2) kvs l) (r : Rep K W H v y) :
    Paired (fun p q => p.1 = kval q.1 ∧ Rep K W H p.2 q.2) (dput kvs k v) (putK l kk y) := by
  have hany : (kvs.any fun p => veq p.1 k) = l.any fun q => decide (q.1 = kk) := by
    induction h with
    | nil => rfl
    | cons r0 _ ih => rw [List.any_cons, List.any_cons, ih, keyOf_veq _ _ _ _ (keyOf_kval r0.1) (keyOf_kval hk)]
  have hmap : Paired (fun p q => p.1 = kval q.1 ∧ Rep K W H p.2 q.2) (kvs.map fun p => if veq p.1 k = true then (p.1, v) else p) (l.map fun q => if q.1 = kk then (q.1, y) else q) := by
    clear hany
    induction h with
    | nil => exact .nil
    | @cons p q ps qs r0 _ ih =>
      refine .cons ?_ ih
      have e := keyOf_veq _ _ _ _ (keyOf_kval r0.1) (keyOf_kval hk)
      show (if veq p.1 k = true then (p.1, v) else p).1 = kval (if q.1 = kk then (q.1, y) else q).1 ∧ Rep K W H (if veq p.1 k = true then (p.1, v) else p).2 (if q.1 = kk then (q.1, y) else q).2
      by_cases hq : q.1 = kk
      · rw [if_pos (by rw [e]; exact decide_eq_true hq), if_pos hq]
        exact ⟨r0.1, r⟩
      · rw [if_neg (by rw [e]; simp [hq]), if_neg hq]
        exact r0
  unfold dput putK
  rw [hany]
  split
  · exact hmap
  · exact paired_app h ⟨hk, r⟩
theorem dn_put {kvs : List (Val × Val)} {xs : List (NestedKey × Addr × Value)} {k v : Val} {n : NestedKey} {b : Addr} {y : V} {u : Value} (hn : nkey k = some n) (hd : n.depth ≤ 8) (rk : Rep X.K W H k (.ref b)) (ry : RelV y u) (rv : Rep X.K W H v y)
    (h : Paired (fun p x => nkey p.1 = some x.1 ∧ x.1.depth ≤ 8 ∧ Rep X.K W H p.1 (.ref x.2.1) ∧ ∃ y, RelV y x.2.2 ∧ Rep X.K W H p.2 y) kvs xs) :
    Paired (fun p x => nkey p.1 = some x.1 ∧ x.1.depth ≤ 8 ∧ Rep X.K W H p.1 (.ref x.2.1) ∧ ∃ y, RelV y x.2.2 ∧ Rep X.K W H p.2 y) (dput kvs k v) (storedH xs n b u) := by
  have hany : (kvs.any fun p => veq p.1 k) = (atKey xs n).isSome := by
    rw [dget_any]
    rcases dn_find hn h with ⟨e1, e2⟩ | ⟨v, p, y, e1, e2, _⟩
    · rw [e1, e2]; rfl
    · rw [e1, e2]; rfl
  have hmap : Paired (fun p x => nkey p.1 = some x.1 ∧ x.1.depth ≤ 8 ∧ Rep X.K W H p.1 (.ref x.2.1) ∧ ∃ y, RelV y x.2.2 ∧ Rep X.K W H p.2 y) (kvs.map fun p => if veq p.1 k = true then (p.1, v) else p) (xs.map (putAt n u)) := by
    clear hany
    induction h with
    | nil => exact .nil
    | @cons p q ps qs r0 _ ih =>
      refine .cons ?_ ih
      have e := veq_nkey _ _ _ _ r0.1 hn
      by_cases hq : q.1 = n
      · have e1 : (if veq p.1 k = true then (p.1, v) else p) = (p.1, v) := if_pos (by rw [e]; exact decide_eq_true hq)
        have e2 : putAt n u q = (q.1, q.2.1, u) := by unfold putAt; exact if_pos hq
        simp only [e1, e2]
        exact ⟨r0.1, r0.2.1, r0.2.2.1, y, ry, rv⟩
      · have e1 : (if veq p.1 k = true then (p.1, v) else p) = p := if_neg (by rw [e]; simp [hq])
        have e2 : putAt n u q = q := by unfold putAt; exact if_neg hq
        simp only [e1, e2]
        exact r0
  unfold dput storedH
  rw [hany]
  split
  · exact hmap
  · exact paired_app h ⟨hn, hd, rk, y, ry, rv⟩
/-- what a dict's object is behind a put -/
theorem dct_new (I : Inv X pins σ H s) (g : GoodX X W H st) {i : Nat} {a : Addr} {kvs : List (Val × Val)} {k v : Val} {n : NestedKey} {b : Addr} {y : V} {u : Value} {xs : List (NestedKey × Addr × Value)} {h' : Heap} {t' : Nat} (hi : W.ms[i]? = some a)
    (mu : ∃ u, H a = some u ∧ Mut (some u)) (hsys : (a == sysModules) = false) (hl : kvs.length ≤ 1000000) (hn : nkey k = some n) (hd : n.depth ≤ 8) (rk : Rep X.K W H k (.ref b)) (ry : RelV y u) (rv : Rep X.K W H v y)
    (hp : Paired (fun p x => nkey p.1 = some x.1 ∧ x.1.depth ≤ 8 ∧ Rep X.K W H p.1 (.ref x.2.1) ∧ ∃ y, RelV y x.2.2 ∧ Rep X.K W H p.2 y) kvs xs) (hm : h'.DictOfH (nestedKind X.prog X.w) a (storedH xs n b u)) (sb : Heap.SameBut a s.heap h') :
    ∃ ob, Inv X pins σ (upd H a ob) { s with heap := h', toks := t' } ∧ GoodX X W (upd H a ob) (st.set i (.dct (dput kvs k v))) := by
  obtain ⟨o, es, ep, ho, hx, hdat, he, _, hnd⟩ := hm
  obtain ⟨u0, hu0, hmu⟩ := mu
  have ha : a ∈ W.ms := List.mem_of_getElem? hi
  refine ⟨.ext fun h => h.get? a = some o, d_write I (by rw [hu0]; exact hmu) sb ⟨o, ho⟩ ⟨ho, ⟨o, ho⟩, fun h1 h2 q z => z o q⟩, ?_⟩
  have x1 := Ext.upd g ha (.ext fun h => h.get? a = some o)
  refine g.set hi (.inr ⟨o, storedH xs n b u, upd_same, ⟨hx, ⟨es, ep, hdat, he⟩, hnd⟩, hsys, ?_, dput_ne _ _ _, paired_imp (dn_put hn hd rk ry rv hp) fun p x z => ?_⟩)
  · have := dput_len kvs k v
    rw [sizeLine_eq]
    omega
  · obtain ⟨z1, z2, z3, y', z4, z5⟩ := z
    exact ⟨z1, z2, Rep.ext x1.toExt0 _ _ z3, y', z4, Rep.ext x1.toExt0 _ _ z5⟩
/-- d[k] = v, as the operation stores -/
theorem dct_setItem (hu : A.units + 80 < cLine) (I : Inv X pins σ H s) (g : GoodX X W H st) {i : Nat} {a : Addr} {kvs : List (Val × Val)} {k v : Val} {x y : V} {u r : Value} {Q : Unit → Shared → Prop} (hi : W.ms[i]? = some a) (hs : st[i]? = some (.dct kvs))
    (f : keyFit kvs k = true) (hl : kvs.length ≤ 1000000) (rk : Rep X.K W H k x) (rx : RelV x u) (rv : Rep X.K W H v y) (ry : RelV y r)
    (h : ∀ s' ob, Inv X pins σ (upd H a ob) s' → GoodX X W (upd H a ob) (st.set i (.dct (dput kvs k v))) → Q () s') : wpAny (model X.prog X.w) A (setItem (.ref a) u r) Q E s := by
  have d : DctR X W H kvs a := g.ob i _ a hs hi
  have ha : a ∈ W.ms := List.mem_of_getElem? hi
  rcases fit_or f with hf | ht
  · obtain ⟨⟨l, h1, h2⟩, kk, _, e1, rfl⟩ := dk_fit d f hf rk
    have hl2 := Paired.length h2
    refine d_setItem (by omega) I (DPut.k h1 (by rw [sizeLine_eq]; omega)) rx ry fun s' I' => h s' _ I' ?_
    have x1 := Ext.upd g ha (.dK (putK l kk y))
    exact g.set hi (.inl ⟨_, upd_same, paired_imp (dk_put e1 h2 rv) fun p q z => ⟨z.1, Rep.ext x1.toExt0 _ _ z.2⟩⟩)
  · obtain ⟨xs, b, n, h1, h2, h3, h4, rfl, hn, hk, hm, hp⟩ := dn_look I d f ht rk
    cases rx
    refine wpAny_setItem_heap (hsz := by rw [sizeLine_eq]; omega) (room9 hu) hk h1 fun h' hd' sb => ?_
    obtain ⟨ob, I', g'⟩ := dct_new I g (t' := _) hi hm h2 hl hn hk.2 rk ry rv hp hd' sb
    exact h _ ob I' g'
/-- .. as a display, a comprehension stores -/
theorem dct_dictSet (hu : X.A.units + 80 < cLine) (I : Inv X pins σ H s) (g : GoodX X W H st) {i : Nat} {a : Addr} {kvs : List (Val × Val)} {k v : Val} {x y : V} {u r : Value} {Q : Unit → Shared → Prop} (hi : W.ms[i]? = some a) (hs : st[i]? = some (.dct kvs))
    (f : keyFit kvs k = true) (hl : kvs.length ≤ 1000000) (rk : Rep X.K W H k x) (rx : RelV x u) (rv : Rep X.K W H v y) (ry : RelV y r)
    (h : ∀ s' ob, Inv X pins σ (upd H a ob) s' → GoodX X W (upd H a ob) (st.set i (.dct (dput kvs k v))) → Q () s') : wpAny (model X.prog X.w) X.A (dictSet a u r) Q E s := by
  have d : DctR X W H kvs a := g.ob i _ a hs hi
  have ha : a ∈ W.ms := List.mem_of_getElem? hi
  rcases fit_or f with hf | ht
  · obtain ⟨⟨l, h1, h2⟩, kk, _, e1, rfl⟩ := dk_fit d f hf rk
    have hl2 := Paired.length h2
    refine d_dictSet I h1 (by rw [sizeLine_eq]; omega) rx ry fun s' I' => h s' _ I' ?_
    have x1 := Ext.upd g ha (.dK (putK l kk y))
    exact g.set hi (.inl ⟨_, upd_same, paired_imp (dk_put e1 h2 rv) fun p q z => ⟨z.1, Rep.ext x1.toExt0 _ _ z.2⟩⟩)
  · obtain ⟨xs, b, n, h1, h2, h3, h4, rfl, hn, hk, hm, hp⟩ := dn_look I d f ht rk
    cases rx
    refine wpAny_dictSet_heap (hsz := by rw [sizeLine_eq]; omega) (by show X.A.units + 8 < cLine; omega) hk h1 fun h' hd' sb => ?_
    obtain ⟨ob, I', g'⟩ := dct_new I g (t' := _) hi hm h2 hl hn hk.2 rk ry rv hp hd' sb
    exact h _ ob I' g'

/-! ### o[i] = v -/
def rSetD (X : Cx) : V → V → V → Hp → (Hp → Prop) → Prop := fun o i v H Q => ∃ W st j a kvs k u, o = .ref a ∧ GoodX X W H st ∧ W.ms[j]? = some a ∧ st[j]? = some (.dct kvs) ∧ keyFit kvs k = true ∧ kvs.length ≤ 1000000 ∧ Rep X.K W H k i ∧ Rep X.K W H u v ∧
  ∀ ob, GoodX X W (upd H a ob) (st.set j (.dct (dput kvs k u))) → Q (upd H a ob)
theorem set_dct (hu : X.A.units + 80 < cLine) : PSet X (rSetD X) := by
  intro pins s σ H o i v ov iv u Q I ro ri rv h
  obtain ⟨W, st, j, a, kvs, k, w', rfl, g, hj, hs, f, hl, rk, rw', q⟩ := h
  cases ro
  exact dct_setItem hu I g hj hs f hl rk ri rw' rv fun s' ob I' g' => ⟨_, I', q ob g'⟩
theorem pset_or {t t' : TSet} (h : PSet X t) (h' : PSet X t') : PSet X (fun o i v H Q => t o i v H Q ∨ t' o i v H Q) := by
  intro pins s σ H o i v ov iv u Q I ro ri rv q
  rcases q with q | q
  · exact h pins s σ H o i v ov iv u Q I ro ri rv q
  · exact h' pins s σ H o i v ov iv u Q I ro ri rv q
/-- a store into an object of the store -/
def vSet (o i v : Val) (st : Sto) : Option Sto := match o with
  | .ref j => match st[j]? with
    | some (.dct kvs) => if (keyFit kvs i && lenOk kvs.length) = true then some (st.set j (.dct (dput kvs i v))) else none
    | some (.lst xs) => match i with
      | .int n => match ixN xs.length n with
        | some k => some (st.set j (.lst (xs.set k v)))
        | none => none
      | _ => none
    | none => none
  | _ => none
def gSubM (mo mi : ME) : MG := fun v env st => match mo env st with
  | some (o, st1) => match mi env st1 with
    | some (i, st2) => match vSet o i v st2 with
      | some st3 => some (env, st3)
      | none => none
    | none => none
  | none => none
theorem sg_sub (hu : X.A.units + 80 < cLine) {o i : Expr} {pos : Pos} {mo mi : ME} (ho : PE X o (RE X mo)) (hi : PE X i (RE X mi))
    (ha : ∀ v, assign (.Subscript o i pos) X.env v = (do
      let ov ← holding [v] (eval o X.env)
      let iv ← holding [v, ov] (eval i X.env)
      standAt pos
      holding [v, ov, iv] (setItem ov iv v)
      release [v, ov, iv] []) := by intro _; rfl) : PG X (.Subscript o i pos) (RG X [] (gSubM mo mi)) := pg_weak (pg_sub ho hi (pset_or set_list (set_dct hu)) ha) fun x σ H Q h => by
  obtain ⟨W, env, st, v, env', st', g, er, r, e, q⟩ := h
  unfold gSubM at e
  split at e
  · rename_i ov st1 e1
    split at e
    · rename_i iv st2 e2
      split at e
      · rename_i st3 e3
        cases e
        refine ⟨W, env, st, ov, st1, g, er, e1, fun W1 H1 z x1 g1 r1 => ?_⟩
        refine ⟨W1, env, st1, iv, st2, g1, er.ext x1.toExt0, e2, fun W2 H2 z2 x2 g2 r2 => ?_⟩
        have x12 := x1.trans x2
        have rv := Rep.ext x12.toExt0 _ _ r
        have ro := Rep.ext x2.toExt0 _ _ r1
        have er2 := er.ext x12.toExt0
        unfold vSet at e3
        split at e3
        · rename_i j
          cases ro with
          | ref hj =>
            split at e3
            · rename_i kvs es
              split at e3
              · rename_i f
                cases e3
                rw [Bool.and_eq_true] at f
                have hl := of_decide_eq_true f.2
                refine .inr ⟨W2, st2, j, _, kvs, iv, v, rfl, g2, hj, es, f.1, hl, r2, rv, fun ob g3 => ?_⟩
                have x3 := Ext.upd g2 (List.mem_of_getElem? hj) ob
                exact q W2 _ σ (x12.trans x3) g3 (er2.ext x3.toExt0) fun _ _ => rfl
              · cases e3
            · rename_i xs es
              split at e3
              · rename_i n
                split at e3
                · rename_i k ek
                  cases e3
                  cases r2
                  obtain ⟨a, h1, Vs, h2, h3⟩ := g2.at es
                  rw [hj] at h1
                  cases h1
                  refine .inl ⟨_, Vs, n, k, rfl, rfl, h2, by rw [← h3.length]; exact ek, ?_⟩
                  have x3 := Ext.upd g2 (List.mem_of_getElem? hj) (.lst (Vs.set k x))
                  refine q W2 _ σ (x12.trans x3) (g2.set hj ⟨_, upd_same, ?_⟩) (er2.ext x3.toExt0) fun _ _ => rfl
                  exact Reps.ext x3.toExt0 _ _ (h3.set rv k)
                · cases e3
              · cases e3
            · cases e3
        · cases e3
      · cases e
    · cases e
  · cases e

/-! ### methods of lists -/
/-- the values a method is given: the list's number, what stands in it, the arguments -/
def mLM (f : Sto → List Val → List Val → Option (Val × List Val)) (o : ME) (as : MA) : ME := mBind o fun v => mBind as fun ys _ st => match v with
  | .ref i => match st[i]? with
    | some (.lst xs) => match f st xs ys with
      | some (r, zs) => some (r, st.set i (.lst zs))
      | none => none
    | _ => none
  | _ => none
def LMOk (X : Cx) (r : V → List V → Hp → VK → Prop) (f : Sto → List Val → List Val → Option (Val × List Val)) : Prop := ∀ (W : Wd) (H : Hp) (st : Sto) (l : Addr) (Vs ws : List V) (xs ys zs : List Val) (v : Val) (Q : VK), GoodX X W H st → H l = some (.lst Vs) → Reps X.K W H xs Vs → Reps X.K W H ys ws → f st xs ys = some (v, zs) →
  (∀ Zs z, Reps X.K W H zs Zs → Rep X.K W H v z → Q z (upd H l (.lst Zs))) → r (.ref l) ws H Q
/-- that it is a list is seen ahead of the arguments: the object is a list of the store, then and behind them -/
def isLst (o : Option Ob) : Bool := match o with
  | some (.lst _) => true
  | _ => false
def mLM2 (f : Sto → List Val → List Val → Option (Val × List Val)) (o : ME) (as : MA) : ME := mBind o fun v env st0 => match v with
  | .ref i => if isLst st0[i]? = true then (mBind as fun ys _ st => match st[i]? with
      | some (.lst xs) => match f st xs ys with
        | some (r, zs) => some (r, st.set i (.lst zs))
        | none => none
      | _ => none) env st0 else none
  | _ => none
theorem lm_ok {r : V → List V → Hp → VK → Prop} {f : Sto → List Val → List Val → Option (Val × List Val)} (hr : LMOk X r f) {mo : ME} {ma : MA} {σ : L2.St} {H : Hp} {Q : VK} (h : RE X (mLM2 f mo ma) σ H Q) :
    RE X mo σ H fun x H1 => tyV X.K "list" x H1 ∧ RA X ma σ H1 fun xs H2 => r x xs H2 Q := by
  refine rd_bind (R := Rep X.K) h fun W1 H1 env st1 st' a x c g1 er1 ra e q => ?_
  split at e
  · rename_i i
    split at e
    · rename_i hl
      obtain ⟨ys, st2, e1, e2⟩ := mBind_some e
      cases ra with
      | ref hi =>
        rename_i l
        obtain ⟨xs0, e0⟩ : ∃ xs, st1[i]? = some (.lst xs) := by
          unfold isLst at hl
          split at hl
          · rename_i xs ex
            exact ⟨xs, ex⟩
          · cases hl
        obtain ⟨b, h1, Vs, h2, h3⟩ := g1.at e0
        rw [hi] at h1
        cases h1
        refine ⟨.inl ⟨rfl, Vs, .inl (.inl h2)⟩, W1, env, st1, ys, st2, g1, er1, e1, fun W2 H2 ws x2 g2 rs => ?_⟩
        split at e2
        · rename_i xs es
          split at e2
          · rename_i v zs ef
            cases e2
            have hi2 := x2.mm _ _ hi
            obtain ⟨b, h1, Vs2, h4, h5⟩ := g2.at es
            rw [hi2] at h1
            cases h1
            refine hr W2 H2 st2 l Vs2 ws xs ys zs _ Q g2 h4 h5 rs ef fun Zs z rz rv => ?_
            have x3 := Ext.upd g2 (List.mem_of_getElem? hi2) (.lst Zs)
            exact q W2 _ z (x2.trans x3) (g2.set hi2 ⟨Zs, upd_same, Reps.ext x3.toExt0 _ _ rz⟩) (Rep.ext x3.toExt0 _ _ rv)
          · cases e2
        · cases e2
    · cases e
  · cases e
def lAppend : Sto → List Val → List Val → Option (Val × List Val)
  | _, xs, [y] => if lenOk (xs.length + 1) = true then some (.non, xs ++ [y]) else none
  | _, _, _ => none
theorem ok_append : LMOk X rAppend lAppend := by
  intro W H st l Vs ws xs ys zs v Q g hl rx ry e q
  unfold lAppend at e
  split at e
  · split at e
    · rename_i hz
      cases e
      cases ry with
      | cons r1 r2 =>
        cases r2
        refine ⟨l, Vs, _, rfl, rfl, hl, ?_, q _ _ (rx.append (.cons r1 .nil)) .non⟩
        have := of_decide_eq_true hz
        rw [← rx.length, sizeLine_eq]
        omega
    · cases e
  · cases e
def lExtend : Sto → List Val → List Val → Option (Val × List Val)
  | st, xs, [y] => match vlistM st y with
    | some ys => if lenOk (xs.length + ys.length) = true then some (.non, xs ++ ys) else none
    | none => none
  | _, _, _ => none
theorem ok_extend : LMOk X rExtend lExtend := by
  intro W H st l Vs ws xs ys zs v Q g hl rx ry e q
  unfold lExtend at e
  split at e
  · split at e
    · rename_i es
      split at e
      · rename_i hz
        cases e
        cases ry with
        | cons r1 r2 =>
          cases r2
          obtain ⟨b, Us, rfl, h1, h2⟩ := vlistM_ok g r1 es
          exact ⟨l, b, Vs, Us, rfl, rfl, hl, h1, by rw [← rx.length, ← h2.length]; exact lenOk_line hz, q _ _ (rx.append h2) .non⟩
      · cases e
    · cases e
  · cases e
def lPop : Sto → List Val → List Val → Option (Val × List Val)
  | _, xs, [] => match xs[xs.length - 1]? with
    | some v => some (v, xs.dropLast)
    | none => none
  | _, _, _ => none
theorem ok_pop : LMOk X rPop lPop := by
  intro W H st l Vs ws xs ys zs v Q g hl rx ry e q
  unfold lPop at e
  split at e
  · split at e
    · rename_i u eu
      cases e
      cases ry
      obtain ⟨y, h1, h2⟩ := rx.get eu
      rw [rx.length] at h1
      exact ⟨l, Vs, y, rfl, rfl, hl, h1, q _ _ rx.dropLast h2⟩
    · cases e
  · cases e
def lPopAt : Sto → List Val → List Val → Option (Val × List Val)
  | _, xs, [.int i] => if lenOk xs.length = true then (match ixN xs.length i with
    | some k => match xs[k]? with
      | some v => some (v, xs.eraseIdx k)
      | none => none
    | none => none) else none
  | _, _, _ => none
theorem ok_popAt : LMOk X rPopAt lPopAt := by
  intro W H st l Vs ws xs ys zs v Q g hl rx ry e q
  unfold lPopAt at e
  split at e
  · rename_i i
    split at e
    · rename_i hz
      split at e
      · rename_i k ek
        split at e
        · rename_i u eu
          cases e
          cases ry with
          | cons r1 r2 =>
            cases r2
            cases r1
            obtain ⟨y, h1, h2⟩ := rx.get eu
            have hk := ixN_seq ek
            have hz := of_decide_eq_true hz
            refine ⟨l, Vs, i, k, y, rfl, rfl, hl, by omega, by omega, ?_, h1, q _ _ (rx.eraseIdx k) h2⟩
            rw [← rx.length]
            exact hk.1
        · cases e
      · cases e
    · cases e
  · cases e
section
variable {o e : Expr} {apos cpos : Pos} {mo : ME} {ma : MA}
theorem se_append (ho : PE X o (RE X mo)) (ha : PA X [e] (RA X ma)) (hbase : attributeBase o "append" X.env (eval o X.env) = eval o X.env := by rfl)
    (hfew : ((backTo cpos (starEach [e] X.env)).all (fun x => !x.1) && (backToKw cpos (keywordEach [] X.env)).all (fun x => x.1.isSome) && decide ([e].length + ([] : List Keyword).length + (if ([] : List Keyword).isEmpty then 0 else 1) < 30)) = true := by rfl)
    (hline : (apos.endLine == cpos.line) = true := by rfl) (hs : starEach [e] X.env = (false, eval e X.env) :: starEach [] X.env := by rfl) : PE X (.Call (.Attribute o "append" apos) [e] [] cpos) (RE X (mLM2 lAppend mo ma)) :=
  pe_weak (pe_bm PySem.F.plainAttrs_list PySem.F.slot_list_append PySem.F.type_list_append mt_append ho ha hbase hfew hline hs rfl) fun σ H Q h => lm_ok ok_append h
theorem se_extend (ho : PE X o (RE X mo)) (ha : PA X [e] (RA X ma)) (hbase : attributeBase o "extend" X.env (eval o X.env) = eval o X.env := by rfl)
    (hfew : ((backTo cpos (starEach [e] X.env)).all (fun x => !x.1) && (backToKw cpos (keywordEach [] X.env)).all (fun x => x.1.isSome) && decide ([e].length + ([] : List Keyword).length + (if ([] : List Keyword).isEmpty then 0 else 1) < 30)) = true := by rfl)
    (hline : (apos.endLine == cpos.line) = true := by rfl) (hs : starEach [e] X.env = (false, eval e X.env) :: starEach [] X.env := by rfl) : PE X (.Call (.Attribute o "extend" apos) [e] [] cpos) (RE X (mLM2 lExtend mo ma)) :=
  pe_weak (pe_bm PySem.F.plainAttrs_list PySem.F.slot_list_extend PySem.F.type_list_extend mt_extend ho ha hbase hfew hline hs rfl) fun σ H Q h => lm_ok ok_extend h
theorem se_popAt (ho : PE X o (RE X mo)) (ha : PA X [e] (RA X ma)) (hbase : attributeBase o "pop" X.env (eval o X.env) = eval o X.env := by rfl)
    (hfew : ((backTo cpos (starEach [e] X.env)).all (fun x => !x.1) && (backToKw cpos (keywordEach [] X.env)).all (fun x => x.1.isSome) && decide ([e].length + ([] : List Keyword).length + (if ([] : List Keyword).isEmpty then 0 else 1) < 30)) = true := by rfl)
    (hline : (apos.endLine == cpos.line) = true := by rfl) (hs : starEach [e] X.env = (false, eval e X.env) :: starEach [] X.env := by rfl) : PE X (.Call (.Attribute o "pop" apos) [e] [] cpos) (RE X (mLM2 lPopAt mo ma)) :=
  pe_weak (pe_bm PySem.F.plainAttrs_list PySem.F.slot_list_pop PySem.F.type_list_pop mt_popAt ho ha hbase hfew hline hs rfl) fun σ H Q h => lm_ok ok_popAt h
theorem se_pop (ho : PE X o (RE X mo)) (hbase : attributeBase o "pop" X.env (eval o X.env) = eval o X.env := by rfl) (hline : (apos.endLine == cpos.line) = true := by rfl) : PE X (.Call (.Attribute o "pop" apos) [] [] cpos) (RE X (mLM2 lPop mo aNil)) :=
  pe_weak (pe_bm0 PySem.F.plainAttrs_list PySem.F.slot_list_pop PySem.F.type_list_pop mt_pop ho hbase hline) fun σ H Q h => by
    have h2 := lm_ok ok_pop h
    obtain ⟨W, env, st, v, st', g, er, e, q⟩ := h2
    refine ⟨W, env, st, v, st', g, er, e, fun W' H' x x1 g1 r => ?_⟩
    obtain ⟨t, W2, env2, st2, ys, st3, g2, er2, e2, q2⟩ := q W' H' x x1 g1 r
    cases e2
    exact ⟨t, q2 W2 H' [] Ext.refl g2 .nil⟩
end
end
end Sh

-- part Sh14
set_option Elab.async false
set_option linter.all false
set_option maxRecDepth 100000
set_option maxHeartbeats 1000000
namespace Sh
open PySem PySem.Spec PyProof.Rows L2

/-! ### refs below a number -/
mutual
def vbelow (n : Nat) : Val → Bool
  | .non => true
  | .bl _ => true
  | .int _ => true
  | .str _ => true
  | .tup xs => vbelows n xs
  | .tpl xs => vbelows n xs
  | .lst xs => vbelows n xs
  | .sc xs => vbelows n xs
  | .ref i => decide (i < n)
def vbelows (n : Nat) : List Val → Bool
  | [] => true
  | x :: xs => vbelow n x && vbelows n xs
end
def obelow (n : Nat) : Ob → Bool
  | .lst xs => vbelows n xs
  | .dct kvs => kvs.all fun p => vbelow n p.1 && vbelow n p.2
def Wd.take (W : Wd) (n : Nat) : Wd := ⟨W.ms.take n, W.F⟩
section
variable {P : Program} {w : World} {K : PySem.W.Frag} {W : Wd} {H : Hp} {n : Nat} {st : Sto}
mutual
theorem Rep.cutW : ∀ (v : Val) (x : V), vbelow n v = true → Rep K W H v x → Rep K (W.take n) H v x
  | .non, _, _, h => by cases h; exact .non
  | .bl b, _, _, h => by cases h; exact .bl b
  | .int b, _, _, h => by cases h; exact .int b
  | .str b, _, _, h => by cases h; exact .str b
  | .tup xs, _, e, h => by
    rw [vbelow] at e
    cases h with
    | tup h1 h2 => exact .tup h1 (Reps.cutW xs _ e h2)
  | .tpl xs, _, e, h => by
    rw [vbelow] at e
    cases h with
    | tpl h1 h0 h2 => exact .tpl h1 h0 (Reps.cutW xs _ e h2)
  | .lst xs, _, e, h => by
    rw [vbelow] at e
    cases h with
    | lst h0 h1 h2 => exact .lst h0 h1 (Reps.cutW xs _ e h2)
  | .sc xs, _, e, h => by
    rw [vbelow] at e
    cases h with
    | fls h1 h2 => exact .fls h1 (Reps.cutW xs _ e h2)
    | kls h1 h2 => exact .kls h1 (Reps.cutW xs _ e h2)
  | .ref i, _, e, h => by
    rw [vbelow] at e
    cases h with
    | ref h =>
      refine .ref ?_
      show (W.ms.take n)[i]? = _
      rw [List.getElem?_take_of_lt (of_decide_eq_true e)]
      exact h
theorem Reps.cutW : ∀ (vs : List Val) (xs : List V), vbelows n vs = true → Reps K W H vs xs → Reps K (W.take n) H vs xs
  | [], _, _, h => by cases h; exact .nil
  | v :: vs, _, e, h => by
    rw [vbelows, Bool.and_eq_true] at e
    cases h with
    | cons h1 h2 => exact .cons (Rep.cutW v _ e.1 h1) (Reps.cutW vs _ e.2 h2)
end
theorem paired_mem {α β : Type} {F : α → β → Prop} : ∀ {l₁ : List α} {l₂ : List β}, Paired F l₁ l₂ → Paired (fun a b => F a b ∧ a ∈ l₁) l₁ l₂
  | _, _, .nil => .nil
  | _, _, .cons r t => .cons ⟨r, List.mem_cons_self ..⟩ (paired_imp (paired_mem t) fun a b h => ⟨h.1, List.mem_cons_of_mem _ h.2⟩)
theorem ObR.cutW {o : Ob} {a : Addr} (e : obelow n o = true) (h : ObR P w K W H o a) : ObR P w K (W.take n) H o a := by
  cases o with
  | lst xs =>
    obtain ⟨Vs, h1, h2⟩ := h
    exact ⟨Vs, h1, Reps.cutW _ _ e h2⟩
  | dct kvs =>
    have e2 : ∀ p ∈ kvs, vbelow n p.1 = true ∧ vbelow n p.2 = true := fun p hp => by
      have := List.all_eq_true.mp e p hp
      rwa [Bool.and_eq_true] at this
    rcases h with ⟨kk, h1, h2⟩ | ⟨o, xs, h1, h2, h3, h4, hne, h5⟩
    · exact .inl ⟨kk, h1, paired_imp (paired_mem h2) fun p q r => ⟨r.1.1, Rep.cutW _ _ (e2 p r.2).2 r.1.2⟩⟩
    · refine .inr ⟨o, xs, h1, h2, h3, h4, hne, paired_imp (paired_mem h5) fun p q r => ?_⟩
      obtain ⟨⟨r1, r0, r2, y, r3, r4⟩, hm⟩ := r
      exact ⟨r1, r0, Rep.cutW _ _ (e2 p hm).1 r2, y, r3, Rep.cutW _ _ (e2 p hm).2 r4⟩
theorem Good.cutW (g : Good P w K W H st) (h : (st.take n).all (obelow n) = true) : Good P w K (W.take n) H (st.take n) := by
  refine ⟨by show (W.ms.take n).length = _; rw [List.length_take, List.length_take, g.len], g.nd.sublist (List.take_sublist _ _), fun a ha => g.nf a (List.mem_of_mem_take ha), fun i o a h1 h2 => ?_, g.fs⟩
  have hb := List.all_eq_true.mp h o (List.mem_of_getElem? h1)
  have hi : i < n := by
    have := (List.getElem?_eq_some_iff.mp h1).1
    rw [List.length_take] at this
    omega
  rw [List.getElem?_take_of_lt hi] at h1
  have h2 : (W.ms.take n)[i]? = some a := h2
  rw [List.getElem?_take_of_lt hi] at h2
  exact (g.ob i o a h1 h2).cutW hb
end
/-! ### defs -/
abbrev Fn := List Val → Sto → Option (Val × Sto)
/-- what a def leaves of the store: all (keep), or what stood ahead (the value then knows nothing newer) -/
inductive GC where
  | keep | drop
def gcF (gc : GC) (n : Nat) (v : Val) (st : Sto) : Option (Val × Sto) := match gc with
  | .keep => some (v, st)
  | .drop => if (vbelow n v && (st.take n).all (obelow n)) = true then some (v, st.take n) else none
/-- a def of N slots -/
def mkFn (N : Nat) (gc : GC) (body : MS) : Fn := fun args st => match body (args.map some ++ List.replicate (N - args.length) none) st with
  | some (.rt v, _, st') => gcF gc st.length v st'
  | some (.nx, _, st') => gcF gc st.length .non st'
  | _ => none
/-- a def's promise -/
def spF (P : Program) (w : World) (K : PySem.W.Frag) (n : Nat) (f : Fn) : Sp := fun vs H Q _ => vs.length = n ∧ ∃ (W : Wd) (st : Sto) (args : List Val) (r : Val) (st' : Sto), Good P w K W H st ∧ Reps K W H args vs ∧ f args st = some (r, st') ∧
  ∀ (W' : Wd) (H' : Hp) (x : V), Ext W H W' H' → Good P w K W' H' st' → Rep K W' H' r x → Q x H'
section
variable {P : Program} {w : World} {K : PySem.W.Frag} {mg : Str → Option Value} {base : Heap}
theorem envR_start {W : Wd} {H : Hp} {args : List Val} {vs : List V} {N : List Str} (r : Reps K W H args vs) : EnvR K W H (args.map some ++ List.replicate (N.length - args.length) none) (L2.start N vs) := by
  unfold L2.start
  refine ⟨by simp only [List.length_append, List.length_map, List.length_replicate, r.length], fun i v e => ?_⟩
  by_cases hi : i < args.length
  · rw [List.getElem?_append_left (by rw [List.length_map]; exact hi), List.getElem?_map] at e
    cases ea : args[i]? with
    | none => rw [ea] at e; cases e
    | some u =>
      rw [ea] at e
      cases e
      obtain ⟨x, h1, h2⟩ := r.get ea
      refine ⟨x, ?_, h2⟩
      rw [List.getElem?_append_left (by rw [List.length_map, ← r.length]; exact hi), List.getElem?_map, h1]
      rfl
  · rw [List.getElem?_append_right (by rw [List.length_map]; omega), List.getElem?_replicate] at e
    split at e <;> cases e
/-- THE RULE for a def: its body as combinators -/
theorem fn_mk {x qual : Str} {params : Arguments} {body : List Stmt} {scope : Scope} {dvs : List V} {kws : List (Str × V)} {f : Addr} {fd : FuncData} {N ps : List Str} {k : Nat} {gc : GC} {m : MS}
    (F : FunD K x qual params body scope dvs kws f fd) (S : FnScope N ps scope)
    (hb : ∀ (cdv : Value) (A : Around) (outer : List PySem.Env) (s : Shared) (H : Hp) (E : XK), Room k (A.deeper (envOfC qual scope s.heap.objs.size f cdv)) →
      PSs (cxOf CX0 P w K mg base N qual scope f cdv A outer s H E).nox body (RS (cxOf CX0 P w K mg base N qual scope f cdv A outer s H E).nox m)) :
    FnOk P w K mg base CX0 (k + 1) f fd ps (spF P w K ps.length (mkFn N.length gc m)) := by
  refine F.ok S (fun vs H Q E h => h.1) fun cdv A outer s H vs Q E hr h => ⟨_, (hb cdv A outer s H E hr).nox, ?_⟩
  obtain ⟨hl, W, st, args, r, st', g, ra, e, q⟩ := h
  have fin : ∀ {v : Val} {st1 : Sto}, gcF gc st.length v st1 = some (r, st') → ∀ (W1 : Wd) (H1 : Hp) (x : V), Ext W H W1 H1 → Good P w K W1 H1 st1 → Rep K W1 H1 v x → Q x H1 := fun {v st1} eg W1 H1 x x1 g1 r1 => by
    unfold gcF at eg
    cases gc with
    | keep =>
      cases eg
      exact q W1 H1 x x1 g1 r1
    | drop =>
      dsimp only at eg
      split at eg
      · rename_i hc
        cases eg
        rw [Bool.and_eq_true] at hc
        refine q (W1.take st.length) H1 x ⟨⟨fun i a h => ?_, x1.fr, x1.li, x1.fz, x1.tu⟩, x1.kp, fun a ha => x1.nw a (List.mem_of_mem_take ha), x1.nf⟩ (g1.cutW hc.2) (Rep.cutW _ _ hc.1 r1)
        show (W1.ms.take st.length)[i]? = _
        have hi : i < st.length := by rw [← g.len]; exact (List.getElem?_eq_some_iff.mp h).1
        rw [List.getElem?_take_of_lt hi]
        exact x1.mm i a h
      · cases eg
  unfold mkFn at e
  split at e
  · rename_i v env' st1 e1
    exact ⟨W, _, st, _, _, _, g, envR_start ra, e1, fun W1 H1 σ1 x1 g1 er1 x r1 => fin e W1 H1 x x1 g1 r1⟩
  · rename_i env' st1 e1
    exact ⟨W, _, st, _, _, _, g, envR_start ra, e1, fun W1 H1 σ1 x1 g1 er1 => fin e W1 H1 _ x1 g1 .non⟩
  · cases e
end
/-- f(e, ..) -/
def mCall (n : Nat) (f : Fn) (as : MA) : ME := mBind as fun xs _ st => if xs.length = n then f xs st else none
section
variable {X : Cx} {x : Str} {p pos : Pos} {e : Expr} {es : List Expr} {ma : MA} {k n : Nat} {fa : Addr} {fd : FuncData} {ps : List Str} {f : Fn}
theorem se_call (F : FnOk X.prog X.w X.K X.mg X.base CX0 k fa fd ps (spF X.prog X.w X.K n f)) (hr : Room k X.A) (hm : X.mg x = some (.ref fa)) (hk : PySem.W.keepIn X.K (.ref fa) = true) (hb : Binds X.K fd ps []) (ha : PA X (e :: es) (RA X ma))
    (hg : Gl X x := by rfl) (hdb : (x == ("__debug__" : Str)) = false := by decide) (he : starEach (e :: es) X.env = (false, eval e X.env) :: starEach es X.env := by rfl) (hpl : (backTo pos (starEach es X.env)).any (·.1) = false := by rfl) :
    PE X (.Call (.Name x p) (e :: es) [] pos) (RE X (mCall n f ma)) := by
  refine pe_weak (pe_call F hr hg hm hk hb .nil pass0 ha hdb he hpl) fun σ H Q h => ?_
  refine rd_bind (R := Reps X.K) h fun W1 H1 env st1 st' a xs c g1 er1 ra e q => ?_
  split at e
  · rename_i hl
    rw [List.append_nil]
    exact ⟨ra.length.symm.trans hl, W1, st1, a, c, st', g1, ra, e, q⟩
  · cases e
theorem se_call0 (F : FnOk X.prog X.w X.K X.mg X.base CX0 k fa fd ps (spF X.prog X.w X.K 0 f)) (hr : Room k X.A) (hm : X.mg x = some (.ref fa)) (hk : PySem.W.keepIn X.K (.ref fa) = true) (hb : Binds X.K fd ps [])
    (hg : Gl X x := by rfl) (hdb : (x == ("__debug__" : Str)) = false := by decide) : PE X (.Call (.Name x p) [] [] pos) (RE X (mCall 0 f aNil)) := by
  refine pe_weak (pe_call0 F hr hg hm hk hb .nil pass0 hdb) fun σ H Q h => ?_
  obtain ⟨W, env, st, c, st', g, er, e, q⟩ := h
  obtain ⟨xs, st1, e1, e2⟩ := mBind_some e
  cases e1
  exact ⟨rfl, W, _, [], c, st', g, .nil, e2, q⟩
end
/-! ### what is known of a callee -/
structure Def (P : Program) (w : World) (K : PySem.W.Frag) (mg : Str → Option Value) (base : Heap) (k : Nat) (x : Str) (n : Nat) (f : Fn) (fa : Addr) (fd : FuncData) (ps : List Str) : Prop where
  ok : FnOk P w K mg base CX0 k fa fd ps (spF P w K n f)
  mg : mg x = some (.ref fa)
  kp : PySem.W.keepIn K (.ref fa) = true
  bi : Binds K fd ps []
section
variable {X : Cx} {x : Str} {p pos : Pos} {e : Expr} {es : List Expr} {ma : MA} {k k' n : Nat} {fa : Addr} {fd : FuncData} {ps : List Str} {f : Fn}
theorem se_callD (D : Def X.prog X.w X.K X.mg X.base k x n f fa fd ps) (hr : Room k' X.A) (ha : PA X (e :: es) (RA X ma)) (hk : k ≤ k' := by decide)
    (hg : Gl X x := by rfl) (hdb : (x == ("__debug__" : Str)) = false := by decide) (he : starEach (e :: es) X.env = (false, eval e X.env) :: starEach es X.env := by rfl) (hpl : (backTo pos (starEach es X.env)).any (·.1) = false := by rfl) :
    PE X (.Call (.Name x p) (e :: es) [] pos) (RE X (mCall n f ma)) := se_call D.ok (hr.mono hk) D.mg D.kp D.bi ha hg hdb he hpl
theorem se_callD0 (D : Def X.prog X.w X.K X.mg X.base k x 0 f fa fd ps) (hr : Room k' X.A) (hk : k ≤ k' := by decide)
    (hg : Gl X x := by rfl) (hdb : (x == ("__debug__" : Str)) = false := by decide) : PE X (.Call (.Name x p) [] [] pos) (RE X (mCall 0 f aNil)) := se_call0 D.ok (hr.mono hk) D.mg D.kp D.bi hg hdb
end
end Sh

-- part Sh15
set_option Elab.async false
set_option linter.all false
set_option maxRecDepth 100000
set_option maxHeartbeats 1000000
namespace Sh
open PySem PySem.Spec PyProof.Rows L2

/-! ### sorted -/
mutual
def valike : Val → Val → Bool
  | .non, .non => true
  | .bl _, .bl _ => true
  | .int _, .int _ => true
  | .str _, .str _ => true
  | .tup xs, .tup ys => valikes xs ys
  | .lst xs, .lst ys => valikes xs ys
  | .lst xs, .sc ys => valikes xs ys
  | .sc xs, .lst ys => valikes xs ys
  | .sc xs, .sc ys => valikes xs ys
  | _, _ => false
def valikes : List Val → List Val → Bool
  | x :: xs, y :: ys => valike x y && valikes xs ys
  | _, _ => true
end
/-- the datum, where there is one -/
def vdat (v : Val) : PyData := (vdata v).getD .none
def vle (a b : Val) : Bool := PySem.W.dataLe false vdat a b
def vsort (xs : List Val) : List Val := xs.mergeSort vle
def isTup : Val → Bool
  | .tup _ => true
  | _ => false
def isAtom : Val → Bool
  | .bl _ => true
  | .int _ => true
  | .str _ => true
  | .lst _ => true
  | .sc _ => true
  | _ => false
def sortOk (xs : List Val) : Bool := lenOk xs.length && xs.all (vflat 60) && xs.all (fun a => xs.all fun b => valike a b) && (xs.all isTup || xs.all isAtom)
mutual
theorem valike_data : ∀ (a b : Val) (d e : PyData), vdata a = some d → vdata b = some e → valike a b = true → PySem.W.alike d e = true
  | .non, b, d, e, h1, h2, h => by
    cases b <;> simp [valike] at h <;> simp [vdata] at h1 h2 <;> subst h1 <;> subst h2 <;> simp [PySem.W.alike]
  | .bl _, b, d, e, h1, h2, h => by
    cases b <;> simp [valike] at h <;> simp [vdata] at h1 h2 <;> subst h1 <;> subst h2 <;> simp [PySem.W.alike]
  | .int _, b, d, e, h1, h2, h => by
    cases b <;> simp [valike] at h <;> simp [vdata] at h1 h2 <;> subst h1 <;> subst h2 <;> simp [PySem.W.alike]
  | .str _, b, d, e, h1, h2, h => by
    cases b <;> simp [valike] at h <;> simp [vdata] at h1 h2 <;> subst h1 <;> subst h2 <;> simp [PySem.W.alike]
  | .tup xs, b, d, e, h1, h2, h => by
    cases b <;> simp [valike] at h <;> simp [vdata] at h1 h2 <;> obtain ⟨ds, h3, rfl⟩ := h1 <;> obtain ⟨es, h4, rfl⟩ := h2 <;> simp [PySem.W.alike] <;> exact valikes_data _ _ _ _ h3 h4 h
  | .lst xs, b, d, e, h1, h2, h => by
    cases b <;> simp [valike] at h <;> simp [vdata] at h1 h2 <;> obtain ⟨ds, h3, rfl⟩ := h1 <;> obtain ⟨es, h4, rfl⟩ := h2 <;> simp [PySem.W.alike] <;> exact valikes_data _ _ _ _ h3 h4 h
  | .sc xs, b, d, e, h1, h2, h => by
    cases b <;> simp [valike] at h <;> simp [vdata] at h1 h2 <;> obtain ⟨ds, h3, rfl⟩ := h1 <;> obtain ⟨es, h4, rfl⟩ := h2 <;> simp [PySem.W.alike] <;> exact valikes_data _ _ _ _ h3 h4 h
  | .tpl _, b, d, e, h1, h2, h => by simp [vdata] at h1
  | .ref _, b, d, e, h1, h2, h => by simp [vdata] at h1
theorem valikes_data : ∀ (a b : List Val) (d e : List PyData), vdatas a = some d → vdatas b = some e → valikes a b = true → PySem.W.alikeAll d e = true
  | [], b, d, e, h1, h2, h => by simp [vdatas] at h1; subst h1; simp [PySem.W.alikeAll]
  | x :: xs, [], d, e, h1, h2, h => by simp [vdatas] at h2; subst h2; cases d <;> simp [PySem.W.alikeAll]
  | x :: xs, y :: ys, d, e, h1, h2, h => by
    rw [vdatas] at h1 h2
    rw [valikes, Bool.and_eq_true] at h
    split at h1
    · rename_i d1 ds e1 e2
      cases h1
      split at h2
      · rename_i d2 ds2 e3 e4
        cases h2
        rw [PySem.W.alikeAll, valike_data x y _ _ e1 e3 h.1, valikes_data xs ys _ _ e2 e4 h.2]
        rfl
      · cases h2
    · cases h1
end
section
variable {X : Cx} {W : Wd} {H : Hp} {st : Sto} {pins : List (Addr × Obj)} {σ : L2.St} {s : Shared} {A : Around} {E : Value → Shared → Prop}
/-- a value of the machine that stands for a value -/
def Sv (X : Cx) (W : Wd) (H : Hp) (u : Value) (v : Val) : Prop := ∃ x, RelV x u ∧ Rep X.K W H v x
theorem each_sv : ∀ {vs : List Val} {xs : List V} {us : List Value}, Reps X.K W H vs xs → Vals xs us → PySem.W.EachIs (Sv X W H) us vs
  | [], _, _, .nil, .nil => .nil
  | v :: vs, _, _, .cons r1 r2, .cons q1 q2 => .cons ⟨_, q1, r1⟩ (each_sv r2 q2)
theorem sv_each : ∀ {vs : List Val} {us : List Value}, PySem.W.EachIs (Sv X W H) us vs → ∃ xs, Reps X.K W H vs xs ∧ Vals xs us
  | _, _, .nil => ⟨[], .nil, .nil⟩
  | _, _, .cons ⟨x, q, r⟩ t => by
    obtain ⟨xs, h1, h2⟩ := sv_each t
    exact ⟨x :: xs, .cons r h1, .cons q h2⟩
theorem vdat_of {v : Val} {n : Nat} (h : vflat n v = true) : vdata v = some (vdat v) ∧ (vdat v).depth ≤ n := by
  obtain ⟨d, h1, _, h3⟩ := vflat_data v n h
  unfold vdat
  rw [h1]
  exact ⟨rfl, h3⟩
/-- tuples, or none is a tuple or None -/
def Sortly (ds : List PyData) : Prop := (∀ d ∈ ds, ∃ r, d = .tuple r) ∨ ∀ d ∈ ds, d ≠ .none ∧ ∀ xs, d ≠ .tuple xs
/-- what sorting asks of the values -/
theorem sort_prem {xs : List Val} (h : sortOk xs = true) : xs.length ≤ sizeLine ∧ (∀ v ∈ xs, vflat 60 v = true) ∧ PySem.W.AllAlike (xs.map vdat) ∧ Sortly (xs.map vdat) := by
  unfold sortOk at h
  rw [Bool.and_eq_true, Bool.and_eq_true, Bool.and_eq_true] at h
  obtain ⟨⟨⟨h1, h2⟩, h3⟩, h4⟩ := h
  have hf : ∀ v ∈ xs, vflat 60 v = true := List.all_eq_true.mp h2
  refine ⟨lenOk_line h1, hf, ?_, ?_⟩
  · intro d hd e he
    obtain ⟨a, ha, rfl⟩ := List.mem_map.mp hd
    obtain ⟨b, hb, rfl⟩ := List.mem_map.mp he
    exact valike_data a b _ _ (vdat_of (hf a ha)).1 (vdat_of (hf b hb)).1 (List.all_eq_true.mp (List.all_eq_true.mp h3 a ha) b hb)
  · rw [Bool.or_eq_true] at h4
    rcases h4 with h4 | h4
    · refine .inl fun d hd => ?_
      obtain ⟨a, ha, rfl⟩ := List.mem_map.mp hd
      have ht := List.all_eq_true.mp h4 a ha
      have hv := (vdat_of (hf a ha)).1
      cases a <;> simp [isTup] at ht
      rw [vdata, Option.map_eq_some_iff] at hv
      obtain ⟨ds, e1, e2⟩ := hv
      exact ⟨ds, e2.symm⟩
    · refine .inr fun d hd => ?_
      obtain ⟨a, ha, rfl⟩ := List.mem_map.mp hd
      have ht := List.all_eq_true.mp h4 a ha
      have hv := (vdat_of (hf a ha)).1
      cases a <;> simp [isAtom] at ht <;> simp [vdata] at hv
      · rw [← hv]; exact ⟨by simp, by simp⟩
      · rw [← hv]; exact ⟨by simp, by simp⟩
      · rw [← hv]; exact ⟨by simp, by simp⟩
      · obtain ⟨ds, _, e⟩ := hv; rw [← e]; exact ⟨by simp, by simp⟩
      · obtain ⟨ds, _, e⟩ := hv; rw [← e]; exact ⟨by simp, by simp⟩
section
open PySem.W
variable {prog : Program} {w : World} {A : Around} {s : Shared}
/-- the call of tuple's own __lt__ -/
theorem tup_lt_call {E Q : Value → Shared → Prop} {l b : Addr} {its jts : Array Value} {e r : Nat → Bool} (hl : s.heap.IsTuple l its) (hb : s.heap.IsTuple b jts) (he : ∀ j (h1 : j < its.size) (h2 : j < jts.size), SeqAt.EqAt A.in1 s its[j] jts[j] (e j))
    (hr : ∀ j (h1 : j < its.size) (h2 : j < jts.size), e j = false → SeqAt.RcLt A.in1 s its[j] jts[j] (r j)) (h : Q (.bool (SeqAt.firstLt e r (decide (its.size < jts.size)) (List.range (min its.size jts.size)))) s) : wpAny (model prog w) A (call (.builtin "tuple.__lt__") [.ref l, .ref b]) Q E s := by
  obtain ⟨⟨c1, d1, t1, z1⟩, ho, hc, n, hd⟩ := id hl
  obtain ⟨⟨c2, d2, t2, z2⟩, ho2, hc2, n2, hd2⟩ := id hb
  simp only at hc hd hc2 hd2
  subst hc hd hc2 hd2
  exact call_meets F.slot_tuple_lt ⟨_, ho, rfl⟩ F.entry_tuple_lt (F.args_tuple_lt_2 _ _) (SeqAt.tuple_ltAt l b its jts n n2 d1 d2 z1 z2 e r) ⟨ho, ho2, he, hr, h⟩
/-- one tuple against another, by tuple's own __lt__ -/
theorem tup_oneLt {E : Value → Shared → Prop} {xs ys : List PyData} {a b : Value} {as bs : List Addr} {Q : Bool → Shared → Prop} (ra : Reads s.heap a (.tuple xs) as) (rb : Reads s.heap b (.tuple ys) bs) (h : alikeAll xs ys = true)
    (hu : A.units + min (PyData.tuple xs).depth (PyData.tuple ys).depth < cLine) (hq : Q (dataLt (.tuple xs) (.tuple ys)) s) : wpAny (model prog w) A (oneLt' true a b) Q E s := by
  cases ra with
  | @tuple l o vs n _ a1 h1 h2 h3 h4 =>
    cases rb with
    | @tuple m p ws k _ b1 k1 k2 k3 k4 =>
      have n1 : vs.size = xs.length := by simpa using SeqAt.ReadsAll.length _ _ _ h4
      have n2 : ws.size = ys.length := by simpa using SeqAt.ReadsAll.length _ _ _ k4
      rw [dataLt_tuple, ← firstLt_toks xs ys h, ← n1, ← n2] at hq
      rw [oneLt'_eq]
      simp only [if_true]
      refine wpAny_bind (wpAny_cRoomFor (SeqAt.room_here hu) (wpAny_bind (wpAny_callSpecialIfBound?_slot (T := "tuple") ⟨_, h1, h2⟩ F.slot_tuple_lt (tup_lt_call (e := SeqAt.pairEq xs ys) (r := fun j => dataLt (xs.getD j .none) (ys.getD j .none)) ⟨_, h1, h2, _, h3⟩ ⟨_, k1, k2, _, k3⟩ (fun j j1 j2 => ?_) (fun j j1 j2 hj => ?_) ?_))))
      · have q := eqAt_alikeAll xs ys A.in1 s vs.toList ws.toList _ _ h4 k4 h (SeqAt.room_in hu) j (by simpa using j1) (by simpa using j2)
        simpa using q
      · have q := rcLt_alikeAll xs ys A.in1 s vs.toList ws.toList _ _ h4 k4 h (SeqAt.room_in hu) j (by simpa using j1) (by simpa using j2) hj
        simpa using q
      · exact wpAny_truthy_bool hq
def emptyTup : PyData → Bool
  | .tuple [] => true
  | _ => false
theorem emptyTup_iff {d : PyData} : emptyTup d = true ↔ d = .tuple [] := by
  constructor
  · intro h
    cases d with
    | tuple xs => cases xs with
      | nil => rfl
      | cons x r => cases h
    | _ => cases h
  · rintro rfl
    rfl
/-- the first items of tuples -/
theorem tup_firsts {E : Value → Shared → Prop} : ∀ (vs : List Value) (ds : List PyData) {Q : List (Option Value) → Shared → Prop}, EachIs (fun v d => ∃ as, Reads s.heap v d as) vs ds → (∀ d ∈ ds, ∃ r, d = .tuple r) →
    (∀ fs : List (Option Value), fs.map Option.isSome = ds.map (fun d => !emptyTup d) → Q fs s) → wpAny (model prog w) A (vs.mapM firstOfTuple') Q E s
  | [], _, _, .nil, _, h => by rw [List.mapM_nil]; exact wpAny_pure (h [] rfl)
  | v :: vs, d :: ds, Q, .cons ⟨as, r⟩ t, ht, h => by
    obtain ⟨xs, rfl⟩ := ht d (List.mem_cons_self ..)
    cases r with
    | @tuple l o us n _ a1 h1 h2 h3 h4 =>
      rw [List.mapM_cons]
      refine wpAny_bind ?_
      rw [kas_first_eq]
      refine wpAny_bind (Looks.here (show Looks (model prog w) s.heap (typeOf (.ref l)) o.cls from (Looks.ld h1).andThen .now) ?_)
      rw [h2, if_neg (by first | decide | simp)]
      refine wpAny_bind (listItems_at h1 h3 (wpAny_pure (wpAny_bind (tup_firsts vs ds (Q := fun bs s' => wpAny (model prog w) A (pure (us[0]? :: bs)) Q E s') t (fun d hd => ht d (List.mem_cons_of_mem _ hd)) fun fs hf => wpAny_pure (h _ ?_)))))
      have n1 : us.size = xs.length := by simpa using SeqAt.ReadsAll.length _ _ _ h4
      rw [List.map_cons, List.map_cons, hf]
      congr 1
      cases xs with
      | nil =>
        have : us[0]? = none := Array.getElem?_eq_none (by rw [n1]; exact Nat.le_refl _)
        rw [this]
        rfl
      | cons x xs =>
        have hlt : 0 < us.size := by rw [n1]; exact Nat.succ_pos _
        have : us[0]? = some us[0] := Array.getElem?_eq_getElem hlt
        rw [this]
        rfl
/-- tuples can be sorted, empty ones too -/
theorem sortsAt_tups {vs : List Value} {ds : List PyData} (e : EachIs (fun v d => ∃ as, Reads s.heap v d as) vs ds) (hal : AllAlike ds) (ht : ∀ d ∈ ds, ∃ r, d = .tuple r) (hu : ∀ d ∈ ds, A.units + d.depth < cLine) : SortsAt prog w A s (dataKind s.heap ds) vs := by
  by_cases hne : ∀ d ∈ ds, d ≠ .tuple []
  · refine SortsAt.data e hal (.inl fun d hd => ?_) hu
    obtain ⟨r, rfl⟩ := ht d hd
    cases r with
    | nil => exact absurd rfl (hne _ hd)
    | cons x r => exact ⟨x, r, rfl⟩
  · have room : ∀ {d d' : PyData}, d ∈ ds → A.units + min d.depth d'.depth < cLine := fun {d d'} hd => Nat.lt_of_le_of_lt (Nat.add_le_add_left (Nat.min_le_left _ _) _) (hu d hd)
    refine ⟨fun v hv => ?_, if (ds.map emptyTup).head? = some true then oneType' else general', ?_, fun h2 E Q hq => ?_⟩
    · obtain ⟨d, hd, as, r⟩ := e.left v hv
      exact ⟨_, dataKind_some hal hd r⟩
    · intro E x y a b Q ha hb hq
      obtain ⟨d, as, hd, ra, rfl⟩ := dataKind_inv ha
      obtain ⟨d', as', hd', rb, rfl⟩ := dataKind_inv hb
      obtain ⟨xs, rfl⟩ := ht d hd
      obtain ⟨ys, rfl⟩ := ht d' hd'
      have h1 := hal _ hd _ hd'
      split
      · rw [keyLt'_oneType]
        exact tup_oneLt ra rb (by simpa [alike] using h1) (room hd) hq
      · show wpAny (model prog w) A (oneLt' false x y) Q E s
        exact oneLt_alike (fun z => by cases z) ra rb h1 (by simp) (room hd) hq
    · rw [kat_kind_eq, List.mapM_toArray, map_eq_pure_bind]
      refine wpAny_bind (wpAny_bind (tup_firsts vs ds e ht fun fs hf => wpAny_pure ?_))
      have hall : ¬ (fs.toArray.all fun x => x.isSome) = true := by
        intro h
        apply hne
        intro d hd
        have h3 : ∀ b ∈ fs.map Option.isSome, b = true := by
          intro b hb
          obtain ⟨x, hx, rfl⟩ := List.mem_map.mp hb
          rw [List.all_toArray, List.all_eq_true] at h
          exact h x hx
        rw [hf] at h3
        have h4 := h3 _ (List.mem_map.mpr ⟨d, hd, rfl⟩)
        intro q
        rw [emptyTup_iff.mpr q] at h4
        cases h4
      rw [if_neg hall]
      have h0 : fs.toArray[0]? = fs.head? := by cases fs <;> simp
      rw [h0]
      cases ds with
      | nil =>
        cases e
        exact absurd h2 (by simp)
      | cons d0 ds0 =>
        cases fs with
        | nil => simp at hf
        | cons f0 fs0 =>
          rw [List.map_cons, List.map_cons] at hf
          obtain ⟨hf0, _⟩ := List.cons.inj hf
          show wpAny (model prog w) A (if (((some f0 : Option (Option Value)).bind id).isSome) = true then _ else _) Q E s
          rw [show ((some f0 : Option (Option Value)).bind id) = f0 from rfl, hf0]
          rw [List.map_cons] at hq
          rw [show (emptyTup d0 :: List.map emptyTup ds0).head? = some (emptyTup d0) from rfl] at hq
          cases h1 : emptyTup d0 with
          | true =>
            rw [if_neg (by simp)]
            rw [h1, if_pos rfl] at hq
            rw [oneTypeOnly'_eq, List.mapM_toArray, map_eq_pure_bind]
            refine wpAny_bind (wpAny_bind (wpAny_bind (kas_mapM (r := Value.type "tuple") _ (fun v hv Q' hq' => ?_) (wpAny_pure ?_))))
            · obtain ⟨d, hd, as, r⟩ := e.left v hv
              obtain ⟨r', rfl⟩ := ht d hd
              exact (looks_reads r).here hq'
            · cases vs with
              | nil => exact absurd h2 (by simp)
              | cons v0 vs0 =>
                have hall2 : ((List.map (fun _ => Value.type "tuple") (v0 :: vs0)).toArray.all fun x => x == Value.type "tuple") = true := by
                  simp only [List.all_toArray, List.all_map, List.all_eq_true]
                  intro _ _
                  exact beq_self_eq_true _
                have h4 : (List.map (fun _ => Value.type "tuple") (v0 :: vs0)).toArray[0]? = some (Value.type "tuple") := by simp
                rw [h4]
                simp only [hall2, if_true]
                exact wpAny_pure (wpAny_pure hq)
          | false =>
            rw [if_pos (by simp)]
            rw [h1, if_neg (by simp)] at hq
            exact wpAny_pure hq
theorem sortsAt_of {vs : List Value} {ds : List PyData} (e : EachIs (fun v d => ∃ as, Reads s.heap v d as) vs ds) (hal : AllAlike ds) (hk : Sortly ds) (hu : ∀ d ∈ ds, A.units + d.depth < cLine) : SortsAt prog w A s (dataKind s.heap ds) vs :=
  hk.elim (fun h => sortsAt_tups e hal h hu) fun h => SortsAt.data e hal (.inr h) hu
/-- a list of values sorted: what the list's sort gives -/
theorem sorts_out {β : Type} {R : Value → β → Prop} {enc : β → PyData} {vs : List Value} {bs : List β} {l : Addr} {Q : Value → Shared → Prop} {E : Value → Shared → Prop} (hl : s.heap.IsList l vs.toArray) (e : EachIs R vs bs) (er : EachIs (fun v b => ∃ as, Reads s.heap v (enc b) as) vs bs)
    (hal : AllAlike (bs.map enc)) (hk : Sortly (bs.map enc)) (hL : bs.length ≤ sizeLine) (hu : ∀ b ∈ bs, A.units + 2 + (enc b).depth < cLine)
    (h : ∀ out, out.length = bs.length → EachIs R out (bs.mergeSort (dataLe false enc)) → Q (.ref (s.heap.objs.size + 1)) { s with heap := sortedAll s.heap vs (List.toArray out) }) : wpAny (model prog w) A (call (.builtin "sorted") [.ref l]) Q E s := by
  have er2 := er.mono fun _ _ q => (⟨q.choose, Reads.keeps (fun _ _ => sorting_copy_old (vs := vs)) q.choose_spec⟩ : ∃ as, Reads (sortingHeap (copyHeap s.heap vs) (s.heap.objs.size + 1) vs) _ (enc _) as)
  refine sorted_vals hl (sortsAt_of (s := { s with heap := sortingHeap (copyHeap s.heap vs) (s.heap.objs.size + 1) vs }) (each_map (R := fun v d => ∃ as, Reads (sortingHeap (copyHeap s.heap vs) (s.heap.objs.size + 1) vs) v d as) enc er2) hal hk fun d hd => ?_) (by rw [e.length]; exact hL) ?_
  · obtain ⟨b, hb, rfl⟩ := List.mem_map.mp hd
    exact hu b hb
  · exact h _ (by rw [sortVals_length false rfl, e.length]) (sortVals_data false e er2 hal)
end
theorem sv_reads (I : Inv X pins σ H s) {u : Value} {v : Val} (h : Sv X W H u v) (hf : vflat 60 v = true) : ∃ as, Reads s.heap u (vdat v) as := by
  obtain ⟨x, q, r⟩ := h
  exact Dp.reads I _ x u (Rep.dp _ _ _ r (vdat_of hf).1) q
theorem each_mono_mem {α β : Type} {R S : α → β → Prop} : ∀ {as : List α} {bs : List β}, PySem.W.EachIs R as bs → (∀ a b, b ∈ bs → R a b → S a b) → PySem.W.EachIs S as bs
  | _, _, .nil, _ => .nil
  | _, _, .cons h t, f => .cons (f _ _ (List.mem_cons_self ..) h) (each_mono_mem t fun a b hb => f a b (List.mem_cons_of_mem _ hb))
/-- sorted(a list) -/
def bSorted : List Val → Sto → Option (List Val)
  | [v], st => match vlist st v with
    | some xs => if sortOk xs = true then some (vsort xs) else none
    | none => none
  | _, _ => none
def rSortedV (X : Cx) : List V → Hp → VK → Prop := fun vs H Q => ∃ W a Vs xs, vs = [.ref a] ∧ SqL X.K H a Vs ∧ Reps X.K W H xs Vs ∧ sortOk xs = true ∧ ∀ p Zs, H p = none → Reps X.K W H (vsort xs) Zs → Q (.ref p) (upd H p (.lst Zs))
theorem cr_sortedV (hu : X.A.units + 80 < cLine) : CallR X (.builtin "sorted") (rSortedV X) := by
  intro pins s σ H vs us Q I r h
  obtain ⟨W, a, Vs, xs, rfl, hs, rp, ho, q⟩ := h
  obtain ⟨its, rv, hl, _⟩ := I.list hs
  rw [Vals.ref1 r]
  obtain ⟨h1, h2, h3, h4⟩ := sort_prem ho
  have e := each_sv rp rv
  refine sorts_out (R := Sv X W H) (enc := vdat) hl.isList e (each_mono_mem e fun u v hv z => sv_reads I z (h2 v hv)) h3 h4 h1 (fun b hb => by have := (vdat_of (h2 b hb)).2; omega) fun out hlen eo => ?_
  obtain ⟨Zs, z1, z2⟩ := sv_each eo
  obtain ⟨ep, he⟩ := PyProof.Rows.sortedAll_at s.heap its out.toArray
  have hz : Zs.length ≤ sizeLine := by rw [z2.length, hlen]; exact h1
  exact ⟨.ref _, upd H (s.heap.objs.size + 1) (.lst Zs), I.laid (t' := s.toks) (fun _ _ => PyProof.Rows.sortedAll_old) (Nat.le_succ _) ⟨hz, out, ep, z2, by simpa using he⟩, rfl, q _ Zs (I.hok.fresh (Nat.le_succ _)) z1⟩
theorem okF_sorted : CallF X (rSortedV X) bSorted := by
  intro W H st vs ys xs Q g r e q
  unfold bSorted at e
  split at e
  · split at e
    · rename_i zs ez
      split at e
      · rename_i ho
        cases e
        cases r with
        | cons r1 r2 =>
          cases r2
          obtain ⟨a, Vs, rfl, h1, h2⟩ := vlist_ok g r1 ez
          exact ⟨W, a, Vs, zs, rfl, h1, h2, ho, fun p Zs hp hz => fresh_end Ext.refl g hz hp q⟩
      · cases e
    · cases e
  · cases e
theorem sf_sorted (hu : X.A.units + 80 < cLine) {e : Expr} {p pos : Pos} {ma : MA} (ha : PA X [e] (RA X ma)) (hm : X.mg "sorted" = none) (hg : Gl X "sorted" := by rfl) (hs : starEach [e] X.env = (false, eval e X.env) :: starEach [] X.env := by rfl) : PE X (.Call (.Name "sorted" p) [e] [] pos) (rdF X (fB bSorted ma)) :=
  sf_callB (cr_sortedV hu) okF_sorted (by decide +kernel) hm ha hg (by decide) (by decide) hs rfl

/-! ### a local name = a comprehension on one line -/
theorem rdF_fz {m : MA} {i : Nat} {D : Ends} {σ : L2.St} {H : Hp} (h : RS X (sSet i (mFz m)) D σ H) : rdF X m σ H (fun x H1 => gName i x σ H1 D.nx) := by
  obtain ⟨W, env, st, fl, env', st', g, er, e, q⟩ := h
  unfold sSet at e
  split at e
  · rename_i v st1 e1
    cases e
    obtain ⟨xs, st2, e2, e3⟩ := mBind_some e1
    cases e3
    refine ⟨W, env, st, xs, _, g, er, e2, fun W' H' Vs p x g' r hp hm hF hn => ?_⟩
    exact q (W'.frz p) H' _ (x.frz hn) (g'.frz hp hm) ((er.ext (x.frz hn).toExt0).set (.lst (.inr rfl) hp (Reps.ext Ext0.frz _ _ r)) i)
  · cases e
theorem rdF_new {m : MA} {i : Nat} {D : Ends} {σ : L2.St} {H : Hp} (h : RS X (sSet i (mNew m)) D σ H) : rdF X m σ H (fun x H1 => gName i x σ H1 D.nx) := by
  obtain ⟨W, env, st, fl, env', st', g, er, e, q⟩ := h
  unfold sSet at e
  split at e
  · rename_i v st1 e1
    cases e
    obtain ⟨xs, st2, e2, e3⟩ := mBind_some e1
    cases e3
    refine ⟨W, env, st, xs, _, g, er, e2, fun W' H' Vs p x g' r hp hm hF hn => ?_⟩
    have x2 : Ext0 W' H' (W'.add p) H' := Ext0.add
    have x3 : Ext W H (W'.add p) H' := ⟨x.toExt0.trans x2, x.kp, fun a ha => by
      have ha : a ∈ W'.ms ++ [p] := ha
      rcases List.mem_append.mp ha with z | z
      · exact x.nw a z
      · have e : a = p := by simpa using z
        exact .inr (e ▸ hn), x.nf⟩
    exact q (W'.add p) H' _ x3 (g'.add hm hF ⟨Vs, hp, Reps.ext x2 _ _ r⟩) ((er.ext x3.toExt0).set (.ref (add_at g')) i)
  · cases e
/-- a comprehension's reading -/
theorem lcw {own vs : List Nat} {mi : MI} {vsg : List Nat} {g : MG} {t : MT} {m : ME} {σ : L2.St} {H : Hp} {Q : VK} (hsub : ∀ i ∈ vsg, i ∈ vs) (h : rdF X (fLc vs mi g t m) σ H Q) : tLc (RI X mi) (RG X vsg g) (RT X t) (RE X m) vs σ H Q := by
  obtain ⟨W, env, st, ys, st', g0, er, e, q⟩ := h
  unfold fLc fLcOf at e
  split at e
  · rename_i src st1 e1
    split at e
    · rename_i zs st2 e2
      split at e
      · rename_i hl
        cases e
        refine ⟨W, env, st, src, st1, g0, er, e1, fun W1 H1 J x1 g1 it D hD => ?_⟩
        have er1 := (er.ext x1.toExt0).wipe vs
        refine lc_loop (lc_turn (vsg := vsg) (D := D) (W0 := W1) (H0 := H1) er1 hsub) it (lc_start g1 hD) (Ext.same (W := W1) (same_new hD)).toExt0 e2 (by rw [List.nil_append]; exact of_decide_eq_true hl) fun W' H' _ a => ?_
        obtain ⟨Vs, h1, h2⟩ := a.l
        exact q W' H' Vs D (x1.trans a.x) a.g h2 h1 a.m a.f (x1.none_of g1 hD)
      · cases e
    · cases e
  · cases e
theorem lcw2 {vs : List Nat} {mi mi1 : MI} {vsg vsg1 vs1 : List Nat} {g g1 : MG} {t t1 : MT} {m : ME} {σ : L2.St} {H : Hp} {Q : VK} (hsub : ∀ i ∈ vsg, i ∈ vs) (hsub1 : ∀ i ∈ vsg1, i ∈ vs1) (h : rdF X (fLc2 vs mi g t mi1 vs1 g1 t1 m) σ H Q) :
    tLc2 (RI X mi) (RG X vsg g) (RT X t) (RI X mi1) (RG X vsg1 g1) (RT X t1) (RE X m) vs vs1 σ H Q := by
  obtain ⟨W, env, st, ys, st', g0, er, e, q⟩ := h
  unfold fLc2 fLcOf at e
  split at e
  · rename_i src st1 e1
    split at e
    · rename_i zs st2 e2
      split at e
      · rename_i hl
        cases e
        refine ⟨W, env, st, src, st1, g0, er, e1, fun W1 H1 J x1 g1 it D hD => ?_⟩
        have er1 := (er.ext x1.toExt0).wipe vs
        refine lc_loop (lc_turn2 (vsg := vsg) (vsg1 := vsg1) (D := D) (W0 := W1) (H0 := H1) er1 hsub hsub1) it (lc_start g1 hD) (Ext.same (W := W1) (same_new hD)).toExt0 e2 (by rw [List.nil_append]; exact of_decide_eq_true hl) fun W' H' _ a => ?_
        obtain ⟨Vs, h1, h2⟩ := a.l
        exact q W' H' Vs D (x1.trans a.x) a.g h2 h1 a.m a.f (x1.none_of g1 hD)
      · cases e
    · cases e
  · cases e
/-- how the fresh list is kept -/
inductive Keep where
  | fz | new
def mKeep : Keep → MA → ME
  | .fz => mFz
  | .new => mNew
theorem rdF_keep {kp : Keep} {m : MA} {i : Nat} {D : Ends} {σ : L2.St} {H : Hp} (h : RS X (sSet i (mKeep kp m)) D σ H) : rdF X m σ H (fun x H1 => gName i x σ H1 D.nx) := by
  cases kp with
  | fz => exact rdF_fz h
  | new => exact rdF_new h
theorem ss_setLc {kp : Keep} {i : Nat} {y : Str} {py : Pos} {elt tg iter : Expr} {ifs : List Expr} {scope : Scope} {own : List (Str × Nat)} {pos spos : Pos} {mi : MI} {vsg : List Nat} {g : MG} {t : MT} {m : ME} (hc : X.calm = true) (hN : X.N.Nodup)
    (hi : PI X tg iter (RI X mi)) (ok : BlkOk X.N X.env.scope scope own)
    (hg : ∀ (s : Shared) (H : Hp) (C : Addr) (cl : List (Str × Addr)) (fp : List Addr), PG (X.blk s H scope (compEnvC scope cl C X.env) fp) tg (RG X vsg g)) (ht : ∀ (s : Shared) (H : Hp) (C : Addr) (cl : List (Str × Addr)) (fp : List Addr), PTs (X.blk s H scope (compEnvC scope cl C X.env) fp) ifs (RT X t))
    (he : ∀ (s : Shared) (H : Hp) (C : Addr) (cl : List (Str × Addr)) (fp : List Addr), PE (X.blk s H scope (compEnvC scope cl C X.env) fp) elt (RE X m)) (hy : X.N[i]? = some y := by rfl) (hyl : X.env.scope.names.lookup y = some .local := by rfl) (hsub : ∀ i ∈ vsg, i ∈ own.map (·.2) := by decide)
    (hk : X.env.scope.kind = .function := by rfl) (hln : (py.line == pos.line) = true := by decide) (hnn : (scope.names.any fun (n, k) => n == y && (k == .local || k == .cell)) = false := by decide +kernel) (hs : ∀ x, foldedSetIterable iter X.env x = pure x := by intro _; rfl) :
    PS X (.Assign [.Name y py] (.ListComp elt [⟨tg, iter, ifs, 0⟩] scope pos) spos) (RS X (sSet i (mKeep kp (fLc (own.map (·.2)) mi g t m)))) :=
  ps_weak (ps_setLc hc hN hy hyl (sw_true hk hyl hln hnn) hi ok hg ht he hs) fun D σ H h => lcw (own := []) hsub (rdF_keep h)
theorem ss_setLc2 {kp : Keep} {i : Nat} {y : Str} {py : Pos} {elt tg iter tg1 iter1 : Expr} {ifs ifs1 : List Expr} {scope : Scope} {own : List (Str × Nat)} {vs1 : List Nat} {pos spos : Pos} {mi mi1 : MI} {vsg vsg1 : List Nat} {g g1 : MG} {t t1 : MT} {m : ME} (hc : X.calm = true) (hN : X.N.Nodup)
    (hi : PI X tg iter (RI X mi)) (ok : BlkOk X.N X.env.scope scope own) (hv : ∀ i ∈ vs1, i ∈ own.map (·.2))
    (hg : ∀ (s : Shared) (H : Hp) (C : Addr) (cl : List (Str × Addr)) (fp : List Addr), PG (X.blk s H scope (compEnvC scope cl C X.env) fp) tg (RG X vsg g)) (ht : ∀ (s : Shared) (H : Hp) (C : Addr) (cl : List (Str × Addr)) (fp : List Addr), PTs (X.blk s H scope (compEnvC scope cl C X.env) fp) ifs (RT X t))
    (hi1 : ∀ (s : Shared) (H : Hp) (C : Addr) (cl : List (Str × Addr)) (fp : List Addr), PI (X.blk s H scope (compEnvC scope cl C X.env) fp) tg1 iter1 (RI (X.blk s H scope (compEnvC scope cl C X.env) fp) mi1))
    (hg1 : ∀ (s : Shared) (H : Hp) (C : Addr) (cl : List (Str × Addr)) (fp : List Addr), PG (X.blk s H scope (compEnvC scope cl C X.env) fp) tg1 (RG X vsg1 g1)) (ht1 : ∀ (s : Shared) (H : Hp) (C : Addr) (cl : List (Str × Addr)) (fp : List Addr), PTs (X.blk s H scope (compEnvC scope cl C X.env) fp) ifs1 (RT X t1))
    (he : ∀ (s : Shared) (H : Hp) (C : Addr) (cl : List (Str × Addr)) (fp : List Addr), PE (X.blk s H scope (compEnvC scope cl C X.env) fp) elt (RE X m)) (hy : X.N[i]? = some y := by rfl) (hyl : X.env.scope.names.lookup y = some .local := by rfl) (hsub : ∀ i ∈ vsg, i ∈ own.map (·.2) := by decide) (hsub1 : ∀ i ∈ vsg1, i ∈ vs1 := by decide)
    (hk : X.env.scope.kind = .function := by rfl) (hln : (py.line == pos.line) = true := by decide) (hnn : (scope.names.any fun (n, k) => n == y && (k == .local || k == .cell)) = false := by decide +kernel) (hs : ∀ x, foldedSetIterable iter X.env x = pure x := by intro _; rfl) (hs1 : ∀ env x, foldedSetIterable iter1 env x = pure x := by intro _ _; rfl) :
    PS X (.Assign [.Name y py] (.ListComp elt [⟨tg, iter, ifs, 0⟩, ⟨tg1, iter1, ifs1, 0⟩] scope pos) spos) (RS X (sSet i (mKeep kp (fLc2 (own.map (·.2)) mi g t mi1 vs1 g1 t1 m)))) :=
  ps_weak (ps_setLc2 hc hN hy hyl (sw_true hk hyl hln hnn) hi ok hv hg ht (fun s H C cl fp => pi_blk (hi1 s H C cl fp)) hg1 ht1 he hs hs1) fun D σ H h => lcw2 hsub hsub1 (rdF_keep h)
end
end Sh

-- part Sh16
set_option Elab.async false
set_option linter.all false
set_option maxRecDepth 100000
set_option maxHeartbeats 1000000
namespace Sh
open PySem PySem.Spec PyProof.Rows L2

section
variable {X : Cx} {W : Wd} {H : Hp} {st : Sto} {pins : List (Addr × Obj)} {σ : L2.St} {s : Shared} {A : Around} {E : Value → Shared → Prop}
/-! ### dict comprehensions -/
/-- a put into the dict at D -/
def tPut (X : Cx) (D : Addr) (y z : V) (H : Hp) (N : Hp → Prop) : Prop := ∃ W st i kvs k v, GoodX X W H st ∧ W.ms[i]? = some D ∧ st[i]? = some (.dct kvs) ∧ keyFit kvs k = true ∧ kvs.length ≤ 1000000 ∧ Rep X.K W H k y ∧ Rep X.K W H v z ∧
  ∀ ob, GoodX X W (upd H D ob) (st.set i (.dct (dput kvs k v))) → N (upd H D ob)
def tDcV (X : Cx) (wi : TI) (g : TG) (tt : TT) (tk tv : TE) (vs : List Nat) : TE := fun σ H Q => wi σ H fun J H1 => ∀ D, H1 D = none → ∃ Wv : Nat → Nat → Hp → Prop, (∃ m, Wv 0 m (upd H1 D (.dK []))) ∧ ∀ i m H, Wv i m H →
  (J.stop i H ∧ Q (.ref D) H) ∨ (J.go i H ∧ ∃ Nx : Hp → Prop, (∀ H', Nx H' → ∃ m', m' < m ∧ Wv (i + 1) m' H') ∧ ∀ x H', J.yld i H x H' → g x (wipe σ vs) H' fun σ2 H2 => wipe σ2 vs = wipe σ vs ∧ tt σ2 H2 fun b H3 =>
    if b = true then tk σ2 H3 fun y H4 => tv σ2 H4 fun z H5 => tPut X D y z H5 Nx else Nx H3)
theorem dcV_core {Q : VK} {kx vx tg iter : Expr} {ifs : List Expr} {scope : Scope} {own : List (Str × Nat)} {pos pos' : Pos} {wi : TI} {g : TG} {tt : TT} {tk tv : TE} {use : Option (Value → Sem Unit)} {Qf : Value → Shared → Prop}
    (hu : X.A.units + 80 < cLine) (calm : X.calm = true) (nd : X.N.Nodup) (I : Inv X pins σ H s) (iters : PI X tg iter wi) (blk : BlkOk X.N X.env.scope scope own)
    (hg : ∀ (s : Shared) (H : Hp) (C : Addr) (cl : List (Str × Addr)) (fp : List Addr), PG (X.blk s H scope (compEnvC scope cl C X.env) fp) tg g) (ht : ∀ (s : Shared) (H : Hp) (C : Addr) (cl : List (Str × Addr)) (fp : List Addr), PTs (X.blk s H scope (compEnvC scope cl C X.env) fp) ifs tt)
    (hk : ∀ (s : Shared) (H : Hp) (C : Addr) (cl : List (Str × Addr)) (fp : List Addr), PE (X.blk s H scope (compEnvC scope cl C X.env) fp) kx tk)
    (hv : ∀ (s : Shared) (H : Hp) (C : Addr) (cl : List (Str × Addr)) (fp : List Addr), PE (X.blk s H scope (compEnvC scope cl C X.env) fp) vx tv) (folded : ∀ x, foldedSetIterable iter X.env x = pure x)
    (h : tDcV X wi g tt tk tv (own.map (·.2)) σ H Q)
    (fin : ∀ D C s' m H', Inv X pins σ H' s' → Q (.ref D) H' → s'.heap.Ns C m → FpOk X pins H' C → compPost (model X.prog X.w) X.A X.xe use Qf (.ref D) C (.ok .next) s') :
    wpAny (model X.prog X.w) X.A (comprehension (.DictComp kx vx [⟨tg, iter, ifs, 0⟩] scope pos) scope X.env pos' newDict false (eval iter X.env) use) Qf X.xe s := by
  have frees : ∀ y ∈ scope.names, y.2 = .free → ∃ c, X.env.cells.lookup y.1 = some c := fun y hy e => (blk.free y hy e).elim (fun k => I.ok.has _ (.inl k)) fun k => I.ok.has _ (.inr k)
  refine wpAny_comprehension_free (use := use) rfl folded (closure_ok frees) blk.kind (fun y hy e => by rw [blk.uniq y hy, e]) (thn (iters.run pins s σ H _ I h) fun xv s1 hx => thn hx fun itv s2 ⟨it, fp, tn, J, H2, e, I2, T, st2, f2, q⟩ => ?_)
  subst e
  refine wpAny_newObj_type (newEnv_comp ?_)
  generalize hD : s2.heap.objs.size = D
  have dn : H2 D = none := I2.hok.fresh (Nat.le_of_eq hD)
  obtain ⟨Wv, ⟨m0, w0⟩, turn⟩ := q D dn
  generalize hs3 : ({ s2 with heap := s2.heap.push { cls := .type "dict", data := .dict #[] } } : Shared) = s3
  have hp3 : s3.heap = s2.heap.push { cls := .type "dict", data := .dict #[] } := by rw [← hs3]
  have I3 : Inv X pins σ (upd H2 D (.dK [])) s3 := by
    rw [← hs3]
    refine I2.laid (t' := s2.toks) (fun _ _ z => Heap.get?_push_of_some _ z) (Nat.le_of_eq hD) ?_
    rw [← hD]
    exact dk_empty s2.heap I2.big
  have small : ∀ b ∈ fp, b < s2.heap.objs.size := fun b hb => let ⟨_, z, _⟩ := T.obj _ _ st2 b hb; Heap.lt_size z
  have f3 : ∀ b ∈ fp, FpOk X pins (upd H2 D (.dK [])) b ∧ b < s3.heap.objs.size := fun b hb => by
    have hlt := small b hb
    have hne : b ≠ D := by rw [← hD]; exact Nat.ne_of_lt hlt
    exact ⟨⟨(upd_ne hne).trans (f2 b hb).1, (f2 b hb).2⟩, by rw [hp3, Heap.size_push]; exact Nat.lt_succ_of_lt hlt⟩
  have st3 : tn 0 s3.heap := T.keep _ _ _ st2 fun b _ o z => by rw [hp3]; exact Heap.get?_push_of_some _ z
  have I4 := block_start I3 blk nd f3
  generalize hcl : cellsFrom (s3.heap.objs.size + 1) scope.names (cloFrom X.env.cells scope.names []) = cl at I4
  have pg := hg s3 (upd H2 D (.dK [])) s3.heap.objs.size cl fp
  have pt := ht s3 (upd H2 D (.dK [])) s3.heap.objs.size cl fp
  have pk := hk s3 (upd H2 D (.dK [])) s3.heap.objs.size cl fp
  have pv := hv s3 (upd H2 D (.dK [])) s3.heap.objs.size cl fp
  show codeAny _ _ (.compStart (.DictComp kx vx [⟨tg, iter, ifs, 0⟩] scope pos) 0 (.ref it) (.ref D) (compEnvC scope cl s3.heap.objs.size X.env)) (compPost (model X.prog X.w) X.A X.xe use Qf (.ref D) s3.heap.objs.size) { s3 with heap := pushCells (s3.heap.push { cls := .type "dict", data := .dict #[] }) scope.names }
  have none3 : ∀ b ∈ fp, (upd H2 D (.dK [])) b = none := fun b hb => (f3 b hb).1.1
  generalize hce : compEnvC scope cl s3.heap.objs.size X.env = ce at I4 pg pt pk pv ⊢
  have atC : ce.locals = s3.heap.objs.size := by subst hce; rfl
  generalize hH3 : upd H2 D (.dK []) = H3 at I3 I4 pg pt pk pv w0 none3 f3
  generalize hs4 : ({ s3 with heap := pushCells (s3.heap.push { cls := .type "dict", data := .dict #[] }) scope.names } : Shared) = s4 at I4 ⊢
  have st4 : tn 0 s4.heap := T.keep _ _ _ st3 fun b _ o z => by rw [← hs4]; exact pushCells_keeps _ _ _ _ (Heap.get?_push_of_some _ z)
  have still : ∀ {σ' : L2.St} {H' : Hp} {s' : Shared}, Inv (X.blk s3 H3 scope ce fp) [] σ' H' s' → (∀ b ∈ fp, H' b = none) → ∀ b ∈ fp, FpOk (X.blk s3 H3 scope ce fp) [] H' b := fun {σ' H' s'} I' hn b hb =>
    ⟨hn b hb, (I'.ok.exf b hb).1, I'.ok.exfs b hb, .inl hb, fun x c z => (I'.ok.exf b hb).2 x c z, fun p hp => absurd (show p ∈ ([] : List (Addr × Obj)) ++ [] from hp) (by simp)⟩
  refine codeAny_compStart_dict ?loop (T.self X.A 0 _ _ _ st4 ?loop)
  case loop =>
    refine compLoop_anyD (fun n s' => ∃ i H', Inv (X.blk s3 H3 scope ce fp) [] (wipe σ (own.map (·.2))) H' s' ∧ tn i s'.heap ∧ (∀ b ∈ fp, H' b = none) ∧ Wv i n H') ?_ m0 ⟨0, H3, I4, st4, none3, w0⟩
    rintro n s5 ⟨i, H5, I5, st5, n5, w5⟩
    rcases turn i n H5 w5 with ⟨stop, qq⟩ | ⟨go, Nx, hNx, step⟩
    · refine thnF (T.done (X.blk s3 H3 scope ce fp) rfl rfl rfl calm i [] s5 _ H5 (fun _ _ => False) I5 (still I5 n5) st5 stop) fun r s6 ⟨hr, I6⟩ => ?_
      subst hr
      have I7 : Inv X pins σ H5 s6 := I3.call' (ch := fp) I6.os I6.base I6.hok I6.bare fun b hb => let ⟨_, z1, _, z3, z4, z5⟩ := (f3 b hb).1; ⟨z3, z1, z4, z5⟩
      have nC : H5 ce.locals = none := I6.free
      obtain ⟨m, hn, _⟩ := I6.loc
      have hn : s6.heap.Ns ce.locals m := hn
      rw [atC] at hn nC
      exact fin D s3.heap.objs.size s6 m H5 I7 qq hn (I3.fpOk (Nat.le_refl _) nC)
    · refine thnF (T.item (X.blk s3 H3 scope ce fp) rfl rfl rfl calm i [] s5 _ H5 (fun _ _ => False) I5 (still I5 n5) st5 go) fun r s6 ⟨u, hr, h6⟩ => ?_
      subst hr
      refine thnF h6 fun _ s7 ⟨x, H7, I7, r7, y7, st7, n7⟩ => ?_
      have I7p := I7.pinned (still I7 n7) (T.obj _ _ st7)
      refine thnF (pg.run _ s7 _ H7 x u _ I7p r7 (step x H7 y7)) fun _ s8 ⟨σ8, H8, I8, hw8, q8⟩ => thnF (pt.run _ s8 σ8 H8 _ I8 q8) fun b s9 ⟨H9, I9, q9⟩ => ?_
      have turnEnd : ∀ {s' : Shared} {H' : Hp}, Inv (X.blk s3 H3 scope ce fp) ([] ++ pinsAt fp s7.heap) σ8 H' s' → Nx H' → ∃ m, m < n ∧ ∃ i H', Inv (X.blk s3 H3 scope ce fp) [] (wipe σ (own.map (·.2))) H' s' ∧ tn i s'.heap ∧ (∀ b ∈ fp, H' b = none) ∧ Wv i m H' := fun {s' H'} I' nx => by
        obtain ⟨m', hm, w'⟩ := hNx H' nx
        have pinned : ∀ b ∈ fp, ∀ o, s7.heap.get? b = some o → s'.heap.get? b = some o ∧ H' b = none := fun b hb o z =>
          let q := I'.pin (b, o) (List.mem_append_right _ (List.mem_append_right _ (mem_pinsAt hb z)))
          ⟨q.1, q.2.1⟩
        have hl : (wipe σ (own.map (·.2))).length = σ8.length := by rw [← hw8, wipe_length]
        refine ⟨m', hm, i + 1, H', (I'.unpinned (pins := [])).weak hl (fun j v z => ?_), T.keep _ _ _ st7 fun b hb o z => (pinned b hb o z).1, fun b hb => ?_, w'⟩
        · rw [← hw8] at z
          exact (wipe_some z).1
        · obtain ⟨o, z, _⟩ := T.obj _ _ st7 b hb
          exact (pinned b hb o z).2
      cases b with
      | false =>
        rw [if_neg Bool.false_ne_true] at q9 ⊢
        exact turnEnd I9 q9
      | true =>
        rw [if_pos rfl] at q9 ⊢
        refine thnF (pk.run _ s9 σ8 H9 _ I9 q9) fun z s10 ⟨yk, H10, I10, r10, q10⟩ => thnF (pv.run _ s10 σ8 H10 _ I10 q10) fun z2 s11 ⟨yv, H11, I11, r11, W1, sto, j, kvs, k, v, g1, hj, hs, f, hl, rk, rv, nx⟩ => ?_
        exact dct_dictSet (X := X.blk s3 H3 scope ce fp) hu I11 g1 hj hs f hl rk r10 rv r11 fun s12 ob I12 g12 => turnEnd I12 (nx ob g12)
theorem pe_dcV {kx vx tg iter : Expr} {ifs : List Expr} {scope : Scope} {own : List (Str × Nat)} {pos : Pos} {wi : TI} {g : TG} {tt : TT} {tk tv : TE} (hu : X.A.units + 80 < cLine) (hc : X.calm = true) (hN : X.N.Nodup) (hi : PI X tg iter wi) (ok : BlkOk X.N X.env.scope scope own)
    (hg : ∀ (s : Shared) (H : Hp) (C : Addr) (cl : List (Str × Addr)) (fp : List Addr), PG (X.blk s H scope (compEnvC scope cl C X.env) fp) tg g) (ht : ∀ (s : Shared) (H : Hp) (C : Addr) (cl : List (Str × Addr)) (fp : List Addr), PTs (X.blk s H scope (compEnvC scope cl C X.env) fp) ifs tt)
    (hk : ∀ (s : Shared) (H : Hp) (C : Addr) (cl : List (Str × Addr)) (fp : List Addr), PE (X.blk s H scope (compEnvC scope cl C X.env) fp) kx tk)
    (hv : ∀ (s : Shared) (H : Hp) (C : Addr) (cl : List (Str × Addr)) (fp : List Addr), PE (X.blk s H scope (compEnvC scope cl C X.env) fp) vx tv) (hs : ∀ x, foldedSetIterable iter X.env x = pure x := by intro _; rfl) :
    PE X (.DictComp kx vx [⟨tg, iter, ifs, 0⟩] scope pos) (tDcV X wi g tt tk tv (own.map (·.2))) := ⟨fun pins s σ H Q I h => by
  rw [arm_eval_DictComp]
  exact dcV_core hu hc hN I hi ok hg ht hk hv hs h fun D C s' m H' I' q hn f => ⟨m, hn, fun h'' sb => ⟨.ref D, H', I'.turned (t' := s'.toks) (fun b o hb e => (sb.2 b hb).trans e) f.1 f.2.1 f.2.2.2.1 f.2.2.2.2.1 f.2.2.2.2.2, rfl, q⟩⟩⟩
/-- .. to a local name on one line -/
theorem ps_setDcV {i : Nat} {y : Str} {py : Pos} {kx vx tg iter : Expr} {ifs : List Expr} {scope : Scope} {own : List (Str × Nat)} {pos spos : Pos} {wi : TI} {g : TG} {tt : TT} {tk tv : TE} (hu : X.A.units + 80 < cLine) (hc : X.calm = true) (hN : X.N.Nodup) (hy : X.N[i]? = some y) (hyl : X.env.scope.names.lookup y = some .local)
    (hsw : swapsWith (.DictComp kx vx [⟨tg, iter, ifs, 0⟩] scope pos) (some (.Name y py)) spos.line X.env = pure true) (hi : PI X tg iter wi) (ok : BlkOk X.N X.env.scope scope own)
    (hg : ∀ (s : Shared) (H : Hp) (C : Addr) (cl : List (Str × Addr)) (fp : List Addr), PG (X.blk s H scope (compEnvC scope cl C X.env) fp) tg g) (ht : ∀ (s : Shared) (H : Hp) (C : Addr) (cl : List (Str × Addr)) (fp : List Addr), PTs (X.blk s H scope (compEnvC scope cl C X.env) fp) ifs tt)
    (hk : ∀ (s : Shared) (H : Hp) (C : Addr) (cl : List (Str × Addr)) (fp : List Addr), PE (X.blk s H scope (compEnvC scope cl C X.env) fp) kx tk)
    (hv : ∀ (s : Shared) (H : Hp) (C : Addr) (cl : List (Str × Addr)) (fp : List Addr), PE (X.blk s H scope (compEnvC scope cl C X.env) fp) vx tv) (hs : ∀ x, foldedSetIterable iter X.env x = pure x := by intro _; rfl) :
    PS X (.Assign [.Name y py] (.DictComp kx vx [⟨tg, iter, ifs, 0⟩] scope pos) spos) (tAsg (tDcV X wi g tt tk tv (own.map (·.2))) (gName i)) := ⟨fun pins s σ H D I h => by
  rw [exec_Assign_Name_used _ _ _ _ hsw]
  refine wpAny_bind (wpAny_standAt (wpAny_bind ?_))
  have h : tDcV X wi g tt tk tv (own.map (·.2)) σ H (fun x H1 => gName i x σ H1 D.nx) := h
  show wpAny _ X.A (do let _ ← comprehension (.DictComp kx vx [⟨tg, iter, ifs, 0⟩] scope pos) scope X.env (firstIterPos [⟨tg, iter, ifs, 0⟩] pos) newDict false (eval iter X.env) (some (assign (.Name y py) X.env))) _ _ s
  refine wpAny_bind (thn (dcV_core (Qf := fun _ s' => SP X pins D .next s') hu hc hN I hi ok hg ht hk hv hs h fun L C s' m H' I' q hn f => ?_) fun _ s' hq => wpAny_pure (wpAny_pure hq))
  refine wpAny_assign_Name (store_ok2 (v := V.ref L) I' hN hy (.inl hyl) rfl (fun s2 I2 ⟨a, sb, ha⟩ => ?_) (.inr hyl))
  have hC : C ≠ a := ha.elim (fun z => by rw [z]; exact f.2.1) fun z => fun e => f.2.2.2.2.1 y a z e.symm
  exact ⟨m, hn.sameBut sb hC, fun h3 sb3 => ⟨_, H', I2.turned (t' := s2.toks) (fun b o hb e => (sb3.2 b hb).trans e) f.1 f.2.1 f.2.2.2.1 f.2.2.2.2.1 f.2.2.2.2.2, q⟩⟩⟩
end
end Sh

-- part Sh17
set_option Elab.async false
set_option linter.all false
set_option maxRecDepth 100000
set_option maxHeartbeats 1000000
namespace Sh
open PySem PySem.Spec PyProof.Rows L2

section
variable {X : Cx} {W : Wd} {H : Hp} {st : Sto} {pins : List (Addr × Obj)} {σ : L2.St} {s : Shared} {A : Around} {E : Value → Shared → Prop}
/-- a put into the n-th object -/
def putN (n : Nat) (k v : Val) (st : Sto) : Option Sto := match st[n]? with
  | some (.dct kvs) => if (keyFit kvs k && lenOk kvs.length) = true then some (st.set n (.dct (dput kvs k v))) else none
  | _ => none
def dcTurn (n : Nat) (g : MG) (t : MT) (mk mv : ME) (env0 : Env) (x : Val) (st : Sto) : Option Sto := match g x env0 st with
  | none => none
  | some (env1, st1) => match t env1 st1 with
    | none => none
    | some (false, st2) => some st2
    | some (true, st2) => match mk env1 st2 with
      | none => none
      | some (k, st3) => match mv env1 st3 with
        | none => none
        | some (v, st4) => putN n k v st4
def dcL (n : Nat) (g : MG) (t : MT) (mk mv : ME) (env0 : Env) : List Val → Sto → Option Sto
  | [], st => some st
  | x :: xs, st => match dcTurn n g t mk mv env0 x st with
    | some st1 => dcL n g t mk mv env0 xs st1
    | none => none
def mDc (vs : List Nat) (mi : MI) (g : MG) (t : MT) (mk mv : ME) : ME := fun env st => match mi env st with
  | some (.vals xs, st1) => match dcL st1.length g t mk mv (wipeE env vs) xs (st1 ++ [.dct []]) with
    | some st2 => some (.ref st1.length, st2)
    | none => none
  | _ => none
theorem putN_ok (g : GoodX X W H st) {n : Nat} {D : Addr} {k v : Val} {y z : V} {st1 : Sto} {N : Hp → Prop} (hn : W.ms[n]? = some D) (e : putN n k v st = some st1) (rk : Rep X.K W H k y) (rv : Rep X.K W H v z)
    (hN : ∀ ob, Ext W H W (upd H D ob) → GoodX X W (upd H D ob) st1 → N (upd H D ob)) : tPut X D y z H N := by
  unfold putN at e
  split at e
  · rename_i kvs es
    split at e
    · rename_i f
      cases e
      rw [Bool.and_eq_true] at f
      have hl := of_decide_eq_true f.2
      exact ⟨W, st, n, kvs, k, v, g, hn, es, f.1, hl, rk, rv, fun ob g' => hN ob (Ext.upd g (List.mem_of_getElem? hn) ob) g'⟩
    · cases e
  · cases e
theorem dc_turn {Ws : Wd} {Hs : Hp} {n : Nat} {D : Addr} {vsg vs : List Nat} {g : MG} {t : MT} {mk mv : ME} {env0 : Env} {σ0 : L2.St} {v : Val} {x : V} {st1 : Sto} {Nx : Hp → Prop} (er0 : EnvR X.K Ws Hs env0 (wipe σ0 vs)) (hsub : ∀ i ∈ vsg, i ∈ vs)
    (x0 : Ext Ws Hs W H) (g0 : GoodX X W H st) (hn : W.ms[n]? = some D) (r : Rep X.K W H v x) (e : dcTurn n g t mk mv env0 v st = some st1) (hN : ∀ W1 H1, Ext W H W1 H1 → GoodX X W1 H1 st1 → Nx H1) :
    RG X vsg g x (wipe σ0 vs) H fun σ2 H2 => wipe σ2 vs = wipe σ0 vs ∧ RT X t σ2 H2 fun b H3 => if b = true then RE X mk σ2 H3 fun y H4 => RE X mv σ2 H4 fun z H5 => tPut X D y z H5 Nx else Nx H3 := by
  unfold dcTurn at e
  split at e
  · cases e
  · rename_i env1 st2 e1
    refine ⟨W, env0, st, v, env1, st2, g0, er0.ext x0.toExt0, r, e1, fun W1 H1 σ1 x1 g1 er1 u1 => ⟨(u1 vs hsub).trans (wipe_wipe σ0 vs vs fun _ h => h), ?_⟩⟩
    split at e
    · cases e
    · rename_i st3 e2
      cases e
      refine ⟨W1, env1, st2, false, _, g1, er1, e2, fun W2 H2 b x2 g2 hb => ?_⟩
      subst hb
      rw [if_neg Bool.false_ne_true]
      exact hN W2 H2 (x1.trans x2) g2
    · rename_i st3 e2
      refine ⟨W1, env1, st2, true, st3, g1, er1, e2, fun W2 H2 b x2 g2 hb => ?_⟩
      subst hb
      rw [if_pos rfl]
      split at e
      · cases e
      · rename_i k st4 e3
        refine ⟨W2, env1, st3, k, st4, g2, er1.ext x2.toExt0, e3, fun W3 H3 y x3 g3 rk => ?_⟩
        split at e
        · cases e
        · rename_i u st5 e4
          refine ⟨W3, env1, st4, u, st5, g3, er1.ext (x2.trans x3).toExt0, e4, fun W4 H4 z x4 g4 rv => ?_⟩
          have x14 := ((x1.trans x2).trans x3).trans x4
          exact putN_ok g4 (x14.mm _ _ hn) e (Rep.ext x4.toExt0 _ _ rk) rv fun ob x5 g5 => hN W4 _ (x14.trans x5) g5
theorem walk_loop {J : It} {n : Nat} {G : Hp → Prop} {Y : Nat → Hp → V → Hp → Prop} (w : Walk J n G Y) {B : V → Hp → (Hp → Prop) → Prop} {Qd : Hp → Prop} (Pv : Nat → Hp → Prop) (h0 : Pv 0 H) (hG : ∀ i H, i ≤ n → Pv i H → G H)
    (hs : ∀ i x H H', i < n → Pv i H → Y i H x H' → B x H' (Pv (i + 1))) (hd : ∀ H, Pv n H → Qd H) :
    ∃ Wv : Nat → Nat → Hp → Prop, (∃ m, Wv 0 m H) ∧ ∀ i m H, Wv i m H → (J.stop i H ∧ Qd H) ∨ (J.go i H ∧ ∃ Nx : Hp → Prop, (∀ H', Nx H' → ∃ m', m' < m ∧ Wv (i + 1) m' H') ∧ ∀ x H', J.yld i H x H' → B x H' Nx) := by
  refine ⟨fun i m H1 => m = n - i ∧ i ≤ n ∧ Pv i H1, ⟨n, by simp, Nat.zero_le _, h0⟩, ?_⟩
  rintro i m H1 ⟨rfl, hi, p⟩
  by_cases hlt : i < n
  · exact .inr ⟨w.goes i H1 hlt (hG i H1 hi p), Pv (i + 1), fun H' p' => ⟨n - (i + 1), by omega, rfl, hlt, p'⟩, fun x H' y => hs i x H1 H' hlt p (w.yields i H1 x H' hlt (hG i H1 hi p) y)⟩
  · have e : i = n := by omega
    subst e
    exact .inl ⟨w.stops H1 (hG _ H1 hi p), hd H1 p⟩
theorem dcw {vs : List Nat} {mi : MI} {vsg : List Nat} {g : MG} {t : MT} {mk mv : ME} {σ : L2.St} {H : Hp} {Q : VK} (hsub : ∀ i ∈ vsg, i ∈ vs) (h : RE X (mDc vs mi g t mk mv) σ H Q) : tDcV X (RI X mi) (RG X vsg g) (RT X t) (RE X mk) (RE X mv) vs σ H Q := by
  obtain ⟨W, env, st, c, st', g0, er, e, q⟩ := h
  unfold mDc at e
  split at e
  · rename_i xs st1 e1
    split at e
    · rename_i st2 e2
      cases e
      refine ⟨W, env, st, _, st1, g0, er, e1, fun W1 H1 J x1 g1 it D hD => ?_⟩
      have er1 := (er.ext x1.toExt0).wipe vs
      have xn : Ext W1 H1 (W1.add D) (upd H1 D (.dK [])) := Ext.new hD
      have gn : GoodX X (W1.add D) (upd H1 D (.dK [])) (st1 ++ [.dct []]) := (g1.same (same_new hD)).add (g1.notIn hD) (g1.notF hD) (.inl ⟨[], upd_same, .nil⟩)
      have hn : (W1.add D).ms[st1.length]? = some D := add_at g1
      cases it with
      | @vals J xs G Y w hG hY =>
        refine walk_loop w (fun i H2 => ∃ W2 st3, Ext (W1.add D) (upd H1 D (.dK [])) W2 H2 ∧ GoodX X W2 H2 st3 ∧ dcL st1.length g t mk mv (wipeE env vs) (xs.drop i) st3 = some st') ⟨W1.add D, _, Ext.refl, gn, e2⟩ (fun i H2 _ ⟨W2, st3, x2, _⟩ => hG W2 H2 (xn.trans x2).toExt0)
          (fun i x H2 H3 hi ⟨W2, st3, x2, g2, e3⟩ hy => ?_) fun H2 ⟨W2, st3, x2, g2, e3⟩ => ?_
        · obtain ⟨sm, v, ev, r⟩ := hY i W2 H2 x H3 (xn.trans x2).toExt0 hy
          have ed : xs.drop i = v :: xs.drop (i + 1) := by
            obtain ⟨hl, rfl⟩ := List.getElem?_eq_some_iff.mp ev
            exact List.drop_eq_getElem_cons hl
          rw [ed, dcL] at e3
          split at e3
          · rename_i st4 e4
            have x3 : Ext W2 H2 W2 H3 := Ext.same sm
            exact dc_turn er1 hsub ((xn.trans x2).trans x3) (g2.same sm) (x2.mm _ _ hn) r e4 fun W4 H4 x4 g4 => ⟨W4, st4, (x2.trans x3).trans x4, g4, e3⟩
          · cases e3
        · rw [List.drop_length] at e3
          cases e3
          exact q W2 H2 _ ((x1.trans xn).trans x2) g2 (.ref (x2.mm _ _ hn))
    · cases e
  · cases e
theorem se_dc {kx vx tg iter : Expr} {ifs : List Expr} {scope : Scope} {own : List (Str × Nat)} {pos : Pos} {mi : MI} {vsg : List Nat} {g : MG} {t : MT} {mk mv : ME} (hu : X.A.units + 80 < cLine) (hc : X.calm = true) (hN : X.N.Nodup) (hi : PI X tg iter (RI X mi)) (ok : BlkOk X.N X.env.scope scope own)
    (hg : ∀ (s : Shared) (H : Hp) (C : Addr) (cl : List (Str × Addr)) (fp : List Addr), PG (X.blk s H scope (compEnvC scope cl C X.env) fp) tg (RG X vsg g)) (ht : ∀ (s : Shared) (H : Hp) (C : Addr) (cl : List (Str × Addr)) (fp : List Addr), PTs (X.blk s H scope (compEnvC scope cl C X.env) fp) ifs (RT X t))
    (hk : ∀ (s : Shared) (H : Hp) (C : Addr) (cl : List (Str × Addr)) (fp : List Addr), PE (X.blk s H scope (compEnvC scope cl C X.env) fp) kx (RE X mk))
    (hv : ∀ (s : Shared) (H : Hp) (C : Addr) (cl : List (Str × Addr)) (fp : List Addr), PE (X.blk s H scope (compEnvC scope cl C X.env) fp) vx (RE X mv)) (hsub : ∀ i ∈ vsg, i ∈ own.map (·.2) := by decide) (hs : ∀ x, foldedSetIterable iter X.env x = pure x := by intro _; rfl) :
    PE X (.DictComp kx vx [⟨tg, iter, ifs, 0⟩] scope pos) (RE X (mDc (own.map (·.2)) mi g t mk mv)) := pe_weak (pe_dcV hu hc hN hi ok hg ht hk hv hs) fun σ H Q h => dcw hsub h
theorem rE_set {m : ME} {i : Nat} {D : Ends} {σ : L2.St} {H : Hp} (h : RS X (sSet i m) D σ H) : RE X m σ H (fun x H1 => gName i x σ H1 D.nx) := by
  obtain ⟨W, env, st, fl, env', st', g, er, e, q⟩ := h
  refine sbind (k := fun v env st1 => some (.nx, env.set i (some v), st1)) g er e fun v st1 e1 W1 H1 x x1 g1 er1 r => ?_
  cases e1
  exact q W1 H1 _ x1 g1 (er1.set r i)
theorem swd_true {kx vx : Expr} {gs : List Comprehension} {scope : Scope} {pos py : Pos} {y : Str} {l : Nat} {env : PySem.Env} (hk : env.scope.kind = .function) (hy : env.scope.names.lookup y = some .local) (hl : (py.line == pos.line) = true)
    (ha : (scope.names.any fun (n, k) => n == y && (k == .local || k == .cell)) = false) : swapsWith (.DictComp kx vx gs scope pos) (some (.Name y py)) l env = pure true := by
  have ky : env.kindOf y = some .local := hy
  have hb : env.blockKind = .function := by unfold PySem.Env.blockKind; rw [hk]; rfl
  unfold swapsWith
  simp only [hb, ky, ha, Expr.pos, hl]
  rfl
theorem ss_setDc {i : Nat} {y : Str} {py : Pos} {kx vx tg iter : Expr} {ifs : List Expr} {scope : Scope} {own : List (Str × Nat)} {pos spos : Pos} {mi : MI} {vsg : List Nat} {g : MG} {t : MT} {mk mv : ME} (hu : X.A.units + 80 < cLine) (hc : X.calm = true) (hN : X.N.Nodup)
    (hi : PI X tg iter (RI X mi)) (ok : BlkOk X.N X.env.scope scope own)
    (hg : ∀ (s : Shared) (H : Hp) (C : Addr) (cl : List (Str × Addr)) (fp : List Addr), PG (X.blk s H scope (compEnvC scope cl C X.env) fp) tg (RG X vsg g)) (ht : ∀ (s : Shared) (H : Hp) (C : Addr) (cl : List (Str × Addr)) (fp : List Addr), PTs (X.blk s H scope (compEnvC scope cl C X.env) fp) ifs (RT X t))
    (hkx : ∀ (s : Shared) (H : Hp) (C : Addr) (cl : List (Str × Addr)) (fp : List Addr), PE (X.blk s H scope (compEnvC scope cl C X.env) fp) kx (RE X mk))
    (hv : ∀ (s : Shared) (H : Hp) (C : Addr) (cl : List (Str × Addr)) (fp : List Addr), PE (X.blk s H scope (compEnvC scope cl C X.env) fp) vx (RE X mv)) (hy : X.N[i]? = some y := by rfl) (hyl : X.env.scope.names.lookup y = some .local := by rfl) (hsub : ∀ i ∈ vsg, i ∈ own.map (·.2) := by decide)
    (hk : X.env.scope.kind = .function := by rfl) (hln : (py.line == pos.line) = true := by decide) (hnn : (scope.names.any fun (n, k) => n == y && (k == .local || k == .cell)) = false := by decide +kernel) (hs : ∀ x, foldedSetIterable iter X.env x = pure x := by intro _; rfl) :
    PS X (.Assign [.Name y py] (.DictComp kx vx [⟨tg, iter, ifs, 0⟩] scope pos) spos) (RS X (sSet i (mDc (own.map (·.2)) mi g t mk mv))) :=
  ps_weak (ps_setDcV hu hc hN hy hyl (swd_true hk hyl hln hnn) hi ok hg ht hkx hv hs) fun D σ H h => dcw hsub (rE_set h)

/-! ### displays of dicts -/
/-- {} -/
def mDNew : ME := fun _ st => some (.ref st.length, st ++ [.dct []])
theorem se_dnew {pos : Pos} : PE X (.Dict [] [] pos) (RE X mDNew) := pe_weak pe_dnewK fun σ H Q h => by
  obtain ⟨W, env, st, c, st', g, er, e, q⟩ := h
  cases e
  intro p hp
  exact q (W.add p) _ _ (Ext.new hp) ((g.same (same_new hp)).add (g.notIn hp) (g.notF hp) (.inl ⟨[], upd_same, .nil⟩)) (.ref (add_at g))
/-- {k: v} -/
def mD1 (mk mv : ME) : ME := fun env st => match mk env (st ++ [.dct []]) with
  | none => none
  | some (k, st1) => match mv env st1 with
    | none => none
    | some (v, st2) => match putN st.length k v st2 with
      | some st3 => some (.ref st.length, st3)
      | none => none
theorem se_d1 (hu : X.A.units + 80 < cLine) {k v : Expr} {pos : Pos} {mk mv : ME} (hk : PE X k (RE X mk)) (hv : PE X v (RE X mv)) : PE X (.Dict [some k] [v] pos) (RE X (mD1 mk mv)) := by
  refine ⟨fun pins s σ H Q I h => ?_⟩
  obtain ⟨W, env, st, c, st', g, er, e, q⟩ := h
  have hn := I.hok.fresh (Nat.le_refl s.heap.objs.size)
  have I1 := I.laid (a := s.heap.objs.size) (o := .dK []) (h' := s.heap.push { cls := .type "dict", data := .dict #[] }) (t' := s.toks) (fun _ _ q => Heap.get?_push_of_some _ q) (Nat.le_refl _) (dk_empty s.heap I.big)
  have xn : Ext W H (W.add s.heap.objs.size) (upd H s.heap.objs.size (.dK [])) := Ext.new hn
  have gn : GoodX X (W.add s.heap.objs.size) (upd H s.heap.objs.size (.dK [])) (st ++ [.dct []]) := (g.same (same_new hn)).add (g.notIn hn) (g.notF hn) (.inl ⟨[], upd_same, .nil⟩)
  have an : (W.add s.heap.objs.size).ms[st.length]? = some s.heap.objs.size := add_at g
  unfold mD1 at e
  split at e
  · cases e
  · rename_i kv st1 e1
    split at e
    · cases e
    · rename_i vv st2 e2
      split at e
      · rename_i st3 e3
        cases e
        have key : tPairs [(RE X mk, RE X mv)] σ (upd H s.heap.objs.size (.dK [])) fun ps H2 => ∃ y z W2, ps = [(y, z)] ∧ Ext W H W2 H2 ∧ GoodX X W2 H2 st2 ∧ Rep X.K W2 H2 kv y ∧ Rep X.K W2 H2 vv z ∧ W2.ms[st.length]? = some s.heap.objs.size := by
          refine ⟨W.add s.heap.objs.size, env, _, kv, st1, gn, er.ext xn.toExt0, e1, fun W1 H1 y x1 g1 r1 => ?_⟩
          refine ⟨W1, env, st1, vv, st2, g1, er.ext (xn.trans x1).toExt0, e2, fun W2 H2 z x2 g2 r2 => ?_⟩
          exact ⟨y, z, W2, rfl, (xn.trans x1).trans x2, g2, Rep.ext x2.toExt0 _ _ r1, r2, (x1.trans x2).mm _ _ an⟩
        have hp : PPs X pos [some k] [v] [(RE X mk, RE X mv)] := pps_cons hk hv pps_nil
        rw [arm_eval_Dict]
        have hshape : (evalEachOpt [some k] X.env).zip ((evalEach [v] X.env).map fun v => do let x ← v; standAt pos; pure x) = (pairTrees [some k] [v] X.env pos).map fun p => (some p.1, p.2) := rfl
        rw [hshape, dictDisplay_pairs _ (by intro z; cases z) (by show 1 < 17; decide)]
        refine wpAny_bind (wpAny_standAt (wpAny_bind ?_))
        unfold subDict
        refine wpAny_bind (wpAny_alloc (wpAny_bind (wpAny_holding ?_)))
        rw [if_pos (show (pairTrees [some k] [v] X.env pos).length ≤ 15 by show 1 ≤ 15; decide)]
        refine wpAny_bind (thn (hp.run pins _ σ _ _ I1 key) fun ws s2 ⟨ps, H2, I2, rel, y, z, W2, ep, x2, g2, rk, rv, hm⟩ => wpAny_holding (wpAny_bind ?_))
        subst ep
        cases rel with
        | @cons _ q2 _ _ r1 r2 =>
          cases r2
          obtain ⟨u, r⟩ := q2
          rw [List.forIn_cons]
          have pk := putN_ok (N := fun H3 => ∃ W3, Ext W H W3 H3 ∧ GoodX X W3 H3 st' ∧ W3.ms[st.length]? = some s.heap.objs.size) g2 hm e3 rk rv fun ob x3 g3 => ⟨W2, x2.trans x3, g3, hm⟩
          obtain ⟨W4, sto, j, kvs, k4, v4, g4, hj, hs4, f, hl, rk4, rv4, nx⟩ := pk
          refine wpAny_bind (wpAny_bind (dct_dictSet hu I2 g4 hj hs4 f hl rk4 r1.1 rv4 r1.2 fun s3 ob I3 g5 => wpAny_pure ?_))
          dsimp only
          rw [List.forIn_nil]
          obtain ⟨W3, x3, g6, h6⟩ := nx ob g5
          exact wpAny_pure (wpAny_pure (wpAny_pure (wpAny_pure ⟨.ref s.heap.objs.size, _, I3, rfl, q W3 _ _ x3 g6 (.ref h6)⟩)))
      · cases e
end
end Sh

-- part Sh18
set_option Elab.async false
set_option linter.all false
set_option maxRecDepth 100000
set_option maxHeartbeats 1000000
namespace Sh
open PySem PySem.Spec PyProof.Rows L2

section
variable {X : Cx} {W : Wd} {H : Hp} {st : Sto} {pins : List (Addr × Obj)} {σ : L2.St} {s : Shared} {A : Around} {E : Value → Shared → Prop}
/-! ### the keys of a dict -/
/-- what stands at a dict: its entries' keys stand for its keys -/
structure KSrc (X : Cx) (W : Wd) (H : Hp) (h : Heap) (a : Addr) (o : Obj) (es : Array DictEntry) (ep : Nat) (ks : List Val) : Prop where
  at_ : h.get? a = some o
  ex : o.ExactDict
  dat : o.data = .dict es ep
  lo : (a == sysModules) = false
  len : es.size = ks.length
  fit : ks.length ≤ sizeLine
  key : ∀ (j : Nat) (en : DictEntry), es[j]? = some en → ∃ k, ks[j]? = some k ∧ Sv X W H en.key k
theorem dk_entries {kk : List (Key × V)} : ∀ {kvs : List (Val × Val)} {es : List DictEntry} {vs : List (Key × Value)}, Paired (fun p q => p.1 = kval q.1 ∧ Rep X.K W H p.2 q.2) kvs kk → KV kk vs → PySem.Pairs (mixKind X.prog X.w) es vs →
    es.length = kvs.length ∧ ∀ (j : Nat) (en : DictEntry), es[j]? = some en → ∃ k, (kvs.map (·.1))[j]? = some k ∧ Sv X W H en.key k := by
  induction kk with
  | nil =>
    intro kvs es vs r1 r2 r3
    cases r1
    cases r2
    cases r3
    exact ⟨rfl, fun j en h => by simp at h⟩
  | cons q kk ih =>
    intro kvs es vs r1 r2 r3
    cases r1 with
    | cons p1 t1 =>
      cases r2 with
      | cons p2 t2 =>
        cases r3 with
        | cons p3 p4 t3 =>
          obtain ⟨h1, h2⟩ := ih t1 t2 t3
          refine ⟨by rw [List.length_cons, List.length_cons, h1], fun j en h => ?_⟩
          cases j with
          | zero =>
            simp at h
            subst h
            refine ⟨_, rfl, kV q.1, keyIs_rel (p2.1 ▸ p3), ?_⟩
            show Rep X.K W H _ (kV q.1)
            dsimp only
            rw [p1.1]
            cases q.1 with
            | inl i => exact .int _
            | inr x => exact .str _
          | succ j => exact h2 j en (by simpa using h)
theorem dct_src {kvs : List (Val × Val)} {a : Addr} (I : Inv X pins σ H s) (d : DctR X W H kvs a) : ∃ o es ep, KSrc X W H s.heap a o es ep (kvs.map (·.1)) := by
  rcases d with ⟨kk, h1, h2⟩ | d
  · obtain ⟨hl, hd, vs, r, o, es, ep, e1, e2, e3, e4, e5, _⟩ := dk_of I.hok h1
    obtain ⟨q1, q2⟩ := dk_entries h2 r e5
    have q3 := Paired.length h2
    refine ⟨o, es, ep, e1, e2, e3, hd, ?_, ?_, fun j en h => q2 j en (by rw [Array.getElem?_toList]; exact h)⟩
    · rw [List.length_map, ← q1, Array.length_toList]
    · rw [List.length_map]; omega
  · obtain ⟨xs, ⟨o, es, ep, e1, e2, e3, e4, e5, e6⟩, h2, h3, h4, h5⟩ := dn_at I d
    have hsz : es.size = xs.length := PySem.size_of_entries e4
    refine ⟨o, es, ep, e1, e2, e3, h2, by rw [List.length_map]; omega, by rw [List.length_map]; omega, fun j en h => ?_⟩
    have q := PySem.entry_at e4 j
    rw [h] at q
    clear hsz e4 e5 e6 e3 h4 h3 h d
    induction h5 generalizing j with
    | nil => simp at q
    | @cons p y ps ys r t ih =>
      cases j with
      | zero =>
        simp at q
        subst q
        exact ⟨p.1, rfl, .ref y.2.1, rfl, r.2.2.1⟩
      | succ j => exact ih j (by simpa using q)
/-- the list of what was drawn -/
theorem src_vals {h : Heap} {a : Addr} {o : Obj} {es : Array DictEntry} {ep : Nat} {ks : List Val} (S : KSrc X W H h a o es ep ks) {us : List Value} (hl : us.length = es.size) (hk : ∀ (j : Nat) (v : Value), us[j]? = some v → ∃ en : DictEntry, es[j]? = some en ∧ v = en.key) :
    PySem.W.EachIs (Sv X W H) us ks := by
  have key : ∀ (us : List Value) (ks : List Val), us.length = ks.length → (∀ (j : Nat) (v : Value), us[j]? = some v → ∃ k, ks[j]? = some k ∧ Sv X W H v k) → PySem.W.EachIs (Sv X W H) us ks := by
    intro us
    induction us with
    | nil => intro ks h1 _; cases ks with
      | nil => exact .nil
      | cons => simp at h1
    | cons u us ih =>
      intro ks h1 h2
      cases ks with
      | nil => simp at h1
      | cons k ks =>
        obtain ⟨k', e1, e2⟩ := h2 0 u rfl
        simp at e1
        subst e1
        exact .cons e2 (ih ks (by simpa using h1) fun j v hj => h2 (j + 1) v (by simpa using hj))
  refine key us ks (hl.trans S.len) fun j v hj => ?_
  obtain ⟨en, h1, rfl⟩ := hk j v hj
  exact S.key j en h1
/-! sorted(a dict) -/
def bSortedD : List Val → Sto → Option (List Val)
  | [v], st => match vdict st v with
    | some kvs => if sortOk (kvs.map (·.1)) = true then some (vsort (kvs.map (·.1))) else none
    | none => none
  | _, _ => none
def rSortedD (X : Cx) : List V → Hp → VK → Prop := fun vs H Q => ∃ W a kvs, vs = [.ref a] ∧ DctR X W H kvs a ∧ sortOk (kvs.map (·.1)) = true ∧ ∀ p Zs, H p = none → Reps X.K W H (vsort (kvs.map (·.1))) Zs → Q (.ref p) (upd H p (.lst Zs))
theorem cr_sortedD (hu : X.A.units + 80 < cLine) (hc : X.calm = true) : CallR X (.builtin "sorted") (rSortedD X) := by
  intro pins s σ H vs us Q I r h
  obtain ⟨W, a, kvs, rfl, hd, ho, q⟩ := h
  obtain ⟨o, es, ep, S⟩ := dct_src I hd
  rw [Vals.ref1 r]
  obtain ⟨h1, h2, h3, h4⟩ := sort_prem ho
  refine PySem.Calls.call_function_entry kind_sorted plain_sorted entry_sorted (args_sorted1 _) ?_
  unfold Builtin.«sorted»
  refine wpAny_bind (m := checkCount "sorted" 1 1 _) (wpAny_pure ?_)
  refine wpAny_bind (PySem.W.kdu_collect (A := X.A.in1) (kdl_raw S.lo S.ex S.dat) (show X.A.in1.handled = none from I.ok.hd hc) S.at_ (by rw [S.len]; exact S.fit) fun h' tk acc kp it => ?_)
  have e := src_vals S (us := acc.toList) (by rw [Array.length_toList]; exact it.1) fun j v hj => it.2 j v (by rw [← Array.getElem?_toList]; exact hj)
  have el : acc.toList.length ≤ sizeLine := by rw [e.length]; exact h1
  have I1 : Inv X pins σ H { s with heap := h', toks := tk } := I.kept (t' := tk) kp
  refine wpAny_bind (wpAny_newList ?_ el)
  have hD : (h'.push (seqObj "list" acc.toList.toArray 0)).get? h'.objs.size = some (seqObj "list" acc.toList.toArray 0) := Heap.get?_push_size _ rfl
  have old : ∀ b ob, h'.get? b = some ob → (PySem.W.sortingHeap (h'.push (seqObj "list" acc.toList.toArray 0)) h'.objs.size acc.toList).get? b = some ob := fun b ob hb =>
    PySem.W.sortingHeap_old (Nat.ne_of_lt (Heap.lt_size hb)) (Heap.get?_push_of_some _ hb)
  have er : PySem.W.EachIs (fun v b => ∃ as, Reads (PySem.W.sortingHeap (h'.push (seqObj "list" acc.toList.toArray 0)) h'.objs.size acc.toList) v (vdat b) as) acc.toList (kvs.map (·.1)) := each_mono_mem e fun u v hv z => by
    obtain ⟨as, q⟩ := sv_reads I1 z (h2 v hv)
    exact ⟨as, Reads.keeps old q⟩
  have Sa := sortsAt_of (prog := X.prog) (w := X.w) (A := X.A.in1.in1) (s := { s with heap := PySem.W.sortingHeap (h'.push (seqObj "list" acc.toList.toArray 0)) h'.objs.size acc.toList, toks := tk }) (PySem.W.each_map (R := fun v d => ∃ as, Reads (PySem.W.sortingHeap (h'.push (seqObj "list" acc.toList.toArray 0)) h'.objs.size acc.toList) v d as) vdat er) h3 h4 fun d hd => by
    obtain ⟨b, hb, rfl⟩ := List.mem_map.mp hd
    have := (vdat_of (h2 b hb)).2
    show X.A.units + 2 + (vdat b).depth < cLine
    omega
  refine wpAny_bind (wpAny_holding (wpAny_call_entry slot_list_sort ⟨_, hD, rfl⟩ entry_list_sort (PySem.W.list_sort_vals (s := { s with heap := h'.push (seqObj "list" acc.toList.toArray 0), toks := tk }) (κ := PySem.W.dataKind (PySem.W.sortingHeap (h'.push (seqObj "list" acc.toList.toArray 0)) h'.objs.size acc.toList) ((kvs.map (·.1)).map vdat)) hD Sa el ⟨.none, rfl, ?_⟩) (args_list_sort _)))
  refine wpAny_pure ⟨_, rfl, ?_⟩
  have eo := PySem.W.sortVals_data (R := Sv X W H) (enc := vdat) false e er h3
  obtain ⟨Zs, z1, z2⟩ := sv_each eo
  obtain ⟨e1, he⟩ := sortedHeap_at (vs := acc.toList) (out := (PySem.W.sortVals (PySem.W.dataKind (PySem.W.sortingHeap (h'.push (seqObj "list" acc.toList.toArray 0)) h'.objs.size acc.toList) ((kvs.map (·.1)).map vdat)) false acc.toList acc.toList).toArray) hD
  have hz : Zs.length ≤ sizeLine := by rw [z2.length, PySem.W.sortVals_length false rfl]; exact el
  refine ⟨.ref h'.objs.size, upd H h'.objs.size (.lst Zs), I1.laid (a := h'.objs.size) (o := .lst Zs) (t' := tk) (fun b u hb => ?_) (Nat.le_refl _) ⟨hz, _, e1, z2, by simpa using he⟩, rfl, q _ Zs (I1.hok.fresh (Nat.le_refl _)) z1⟩
  have hlt := Heap.lt_size hb
  show (sortedHeap _ _ _ _).get? b = some u
  rw [sortedHeap_old (Nat.ne_of_lt hlt) (by rw [size_push']; exact Nat.lt_succ_of_lt hlt)]
  exact Heap.get?_push_of_some _ hb
theorem okF_sortedD : CallF X (rSortedD X) bSortedD := by
  intro W H st vs ys xs Q g r e q
  unfold bSortedD at e
  split at e
  · split at e
    · rename_i kvs ek
      split at e
      · rename_i ho
        cases e
        cases r with
        | cons r1 r2 =>
          cases r2
          obtain ⟨i, a, rfl, _, rfl, _, d⟩ := vdict_ok g r1 ek
          exact ⟨W, a, kvs, rfl, d, ho, fun p Zs hp hz => fresh_end Ext.refl g hz hp q⟩
      · cases e
    · cases e
  · cases e
theorem callF_or {f : Value} {r1 r2 : List V → Hp → VK → Prop} (h1 : CallR X f r1) (h2 : CallR X f r2) : CallR X f (fun xs H Q => r1 xs H Q ∨ r2 xs H Q) := by
  intro pins s σ H vs us Q I r h
  exact h.elim (h1 pins s σ H vs us Q I r) (h2 pins s σ H vs us Q I r)
/-- one function, or the other -/
def bOr (f g : List Val → Sto → Option (List Val)) : List Val → Sto → Option (List Val) := fun xs st => match f xs st with
  | some ys => some ys
  | none => g xs st
theorem okF_or {r1 r2 : List V → Hp → VK → Prop} {f g : List Val → Sto → Option (List Val)} (h1 : CallF X r1 f) (h2 : CallF X r2 g) : CallF X (fun xs H Q => r1 xs H Q ∨ r2 xs H Q) (bOr f g) := by
  intro W H st vs ys xs Q gd r e q
  unfold bOr at e
  split at e
  · rename_i zs ez
    cases e
    exact .inl (h1 W H st vs _ xs Q gd r ez q)
  · exact .inr (h2 W H st vs _ xs Q gd r e q)
theorem sf_sortedA (hu : X.A.units + 80 < cLine) (hc : X.calm = true) {e : Expr} {p pos : Pos} {ma : MA} (ha : PA X [e] (RA X ma)) (hm : X.mg "sorted" = none) (hg : Gl X "sorted" := by rfl) (hs : starEach [e] X.env = (false, eval e X.env) :: starEach [] X.env := by rfl) : PE X (.Call (.Name "sorted" p) [e] [] pos) (rdF X (fB (bOr bSorted bSortedD) ma)) :=
  sf_callB (callF_or (cr_sortedV hu) (cr_sortedD hu hc)) (okF_or okF_sorted okF_sortedD) (by decide +kernel) hm ha hg (by decide) (by decide) hs rfl
end
end Sh

-- part Sh19
set_option Elab.async false
set_option linter.all false
set_option maxRecDepth 100000
set_option maxHeartbeats 1000000
namespace Sh
open PySem PySem.Spec PyProof.Rows L2

section
variable {X : Cx} {W : Wd} {H : Hp} {st : Sto} {pins : List (Addr × Obj)} {σ : L2.St} {s : Shared} {A : Around} {E : Value → Shared → Prop}
/-! ### tuple(a list), the new tuple known whole -/
def rTplOf (X : Cx) : List V → Hp → VK → Prop := fun xs H Q => ∃ p ys, xs = [.ref p] ∧ SqL X.K H p ys ∧ ∀ l o, H l = none → o.dict = none → Q (.ref l) (upd H l (.frz o (.tup ys)))
theorem call_tplOf : CallR X (.type "tuple") (rTplOf X) := by
  intro pins s σ H xs us Q I r h
  obtain ⟨p, ys, rfl, hq, q⟩ := h
  rw [Vals.ref1 r]
  obtain ⟨its, r', pl, hz⟩ := I.list hq
  have hlen := r'.length
  refine call_tuple_list pl.isList (fun h' kp => ?_) (by simp only [List.size_toArray] <;> omega)
  have I1 : Inv X pins σ H { s with heap := h' } := I.kept (t' := s.toks) kp
  exact ⟨.ref h'.objs.size, _, I1.laid (o := .frz { cls := .type "tuple", data := .seq its.toArray } (.tup ys)) (t' := s.toks) (fun b o e => Heap.get?_push_of_some _ e) (Nat.le_refl _) ⟨Heap.get?_push_size _ rfl, hz, its, r', IsTup.new _ _⟩, rfl, q _ _ (I1.hok.fresh (Nat.le_refl _)) rfl⟩
def bTpl : List Val → Sto → Option (Val × Sto)
  | [v], st => match vlist st v with
    | some xs => some (.tpl xs, st)
    | none => none
  | _, _ => none
theorem ok_tpl : CallOk X (rTplOf X) bTpl := by
  intro W H st st' vs v xs Q g r e q
  unfold bTpl at e
  split at e
  · split at e
    · rename_i ys ey
      cases e
      cases r with
      | cons r1 r2 =>
        cases r2
        obtain ⟨p, Vs, rfl, h1, h2⟩ := vlist_ok g r1 ey
        refine ⟨p, Vs, rfl, h1, fun l o hl ho => ?_⟩
        have x1 : Ext W H W (upd H l (.frz o (.tup Vs))) := Ext.same (same_new hl)
        exact q W _ _ x1 (g.same (same_new hl)) (.tpl upd_same ho (Reps.ext x1.toExt0 _ _ h2))
    · cases e
  · cases e
theorem se_tplOf {e : Expr} {p pos : Pos} {ma : MA} (ha : PA X [e] (RA X ma)) (hm : X.mg "tuple" = none) (hg : Gl X "tuple" := by rfl) (hs : starEach [e] X.env = (false, eval e X.env) :: starEach [] X.env := by rfl) : PE X (.Call (.Name "tuple" p) [e] [] pos) (RE X (mB bTpl ma)) :=
  se_callTy call_tplOf ok_tpl (by decide +kernel) hm ha hg (by decide) (by decide) hs rfl

/-! ### dict(pairs) -/
def PrsOk (X : Cx) (H : Hp) : List (Key × V) → List V → Prop := Paired fun q x => ∃ T, x = .ref T ∧ SqT X.K H T [kV q.1, q.2]
theorem kV_is {k : Key} {u : Value} (h : RelV (kV k) u) : keyIs k u = true := by
  cases k with
  | inl i => obtain ⟨t, rfl⟩ := h; exact keyIs_int i t
  | inr x => obtain ⟨t, rfl⟩ := h; exact keyIs_str x t
theorem prs_vals (I : Inv X pins σ H s) : ∀ {prs : List (Key × V)} {Vs : List V} {its : List Value}, PrsOk X H prs Vs → Vals Vs its → ∃ zs : List (Key × Value × Value), KV prs (zs.map fun z => (z.1, z.2.2)) ∧ zs.length = its.length ∧
    ∀ (j : Nat) (z : Key × Value × Value), zs[j]? = some z → ∃ b, its[j]? = some (.ref b) ∧ IsTup s.heap b #[z.2.1, z.2.2] ∧ keyIs z.1 z.2.1 = true
  | _, _, _, .nil, .nil => ⟨[], .nil, rfl, fun j z h => by simp at h⟩
  | q :: prs, x :: Vs, u :: its, .cons ⟨T, e, h⟩ t, .cons r rs => by
    subst e
    obtain rfl : u = .ref T := r
    obtain ⟨zs, h1, h2, h3⟩ := prs_vals I t rs
    obtain ⟨ps, rp, ip, _⟩ := I.tuple h
    cases rp with
    | @cons _ u1 _ _ r1 r2 => cases r2 with
      | @cons _ u2 _ _ r3 r4 =>
        cases r4
        refine ⟨(q.1, u1, u2) :: zs, .cons ⟨rfl, r3⟩ h1, by rw [List.length_cons, List.length_cons, h2], fun j z hz => ?_⟩
        cases j with
        | zero =>
          simp at hz
          subst hz
          exact ⟨T, rfl, ip, kV_is r1⟩
        | succ j =>
          obtain ⟨b, b1, b2, b3⟩ := h3 j z (by simpa using hz)
          exact ⟨b, by simpa using b1, b2, b3⟩
theorem kv_merge : ∀ {more : List (Key × V)} {mv : List (Key × Value)} {kvs : List (Key × V)} {vs : List (Key × Value)}, KV more mv → KV kvs vs → KV (mergeK kvs more) (merged vs mv)
  | _, _, _, _, .nil, h => h
  | q :: more, p :: mv, kvs, vs, .cons r t, h => by
    have e : KV (putK kvs q.1 q.2) (stored vs p.1 p.2) := r.1 ▸ KV.put h q.1 r.2
    exact kv_merge (more := more) (mv := mv) t e
theorem mergeK_len : ∀ (more kvs : List (Key × V)), (mergeK kvs more).length ≤ kvs.length + more.length
  | [], kvs => Nat.le_refl _
  | q :: more, kvs => by
    have h1 := mergeK_len more (putK kvs q.1 q.2)
    have h2 := length_putK kvs q.1 q.2
    show (mergeK (putK kvs q.1 q.2) more).length ≤ _
    rw [List.length_cons]
    omega
def rDictP (X : Cx) : List V → Hp → VK → Prop := fun xs H Q => ∃ a Vs prs, xs = [.ref a] ∧ (SqL X.K H a Vs ∨ ∃ o, H a = some (.frz o (.tup Vs)) ∧ o.dict = none) ∧ PrsOk X H prs Vs ∧ ∀ D, H D = none → Q (.ref D) (upd H D (.dK (mergeK [] prs)))
theorem call_dictP (hc : X.calm = true) : CallR X (.type "dict") (rDictP X) := by
  intro pins s σ H xs us Q I r h
  obtain ⟨a, Vs, prs, rfl, hv, hp, q⟩ := h
  rw [Vals.ref1 r]
  have hlp := Paired.length hp
  have fin : ∀ (zs : List (Key × Value × Value)), KV prs (zs.map fun z => (z.1, z.2.2)) → Vs.length ≤ sizeLine → ∀ h' tk, h'.DictOf (mixKind X.prog X.w) s.heap.objs.size (merged [] (zs.map fun z => (z.1, z.2.2))) → (∀ b o, s.heap.get? b = some o → h'.get? b = some o) →
      EP X pins σ Q (.ref s.heap.objs.size) { s with heap := h', toks := tk } := fun zs k1 hl h' tk hd kp => by
    have hlen := mergeK_len prs []
    rw [List.length_nil, Nat.zero_add] at hlen
    exact ⟨.ref s.heap.objs.size, _, I.laid (t' := tk) (o := .dK (mergeK [] prs)) kp (Nat.le_refl _) ⟨by omega, beq_eq_false_iff_ne.mpr (Nat.ne_of_gt I.big), _, kv_merge k1 .nil, hd⟩, rfl, q _ (I.hok.fresh (Nat.le_refl _))⟩
  rcases hv with hv | ⟨o, hv, hd⟩
  · obtain ⟨its, rv, ⟨ol, n, e1, e2, e3, e4⟩, hz⟩ := I.list hv
    obtain ⟨zs, k1, k2, k3⟩ := prs_vals I hp rv
    have hli := rv.length
    refine L2.call_dict_pairs (prs := zs.map fun z => (z.1, z.2.2)) (I.ok.hd hc) e1 e2 e3 e4 (by simp [k2]) (by rw [List.length_map]; omega) (fun j y hy => ?_) (fin zs k1 hz)
    rw [List.getElem?_map] at hy
    cases hj : zs[j]? with
    | none => rw [hj] at hy; cases hy
    | some z =>
      rw [hj] at hy
      cases hy
      obtain ⟨b, b1, b2, b3⟩ := k3 j z hj
      exact ⟨b, z.2.1, by simpa using b1, b2, b3⟩
  · obtain ⟨e1, hz, its, rv, ⟨o', e1', e2, n, e4⟩⟩ := (show ObjOk X.prog X.w H s.heap a (.frz o (.tup Vs)) from I.hok a _ hv)
    rw [e1] at e1'
    cases e1'
    obtain ⟨zs, k1, k2, k3⟩ := prs_vals I hp rv
    have hli := rv.length
    refine PySem.call_dict_pairs (knd := mixKind X.prog X.w) (kvs := zs.map fun z => (z.1, z.2.2)) (PairArg.tuple a its.toArray (fun j => match its[j]? with | some (.ref b) => b | _ => 0) (zs.map fun z => (z.2.1, z.2.2))) (I.ok.hd hc)
      ⟨⟨o, n, e1, e2, hd, e4⟩, by simp [k2], fun j k v hj => ?_⟩ ⟨by simp, fun j k v hj => ?_⟩ (by rw [List.length_map]; omega) fun h' tk hd' kp => fin zs k1 hz h' tk hd' fun b o hb => kp b o (by simp) hb
    · rw [List.getElem?_map] at hj
      cases hj2 : zs[j]? with
      | none => rw [hj2] at hj; cases hj
      | some z =>
        rw [hj2] at hj
        cases hj
        obtain ⟨b, b1, b2, b3⟩ := k3 j z hj2
        have e : (match its[j]? with | some (.ref b) => b | _ => 0 : Addr) = b := by rw [b1]
        show its.toArray[j]? = some (.ref (match its[j]? with | some (.ref b) => b | _ => 0 : Addr)) ∧ PairAt s.heap (match its[j]? with | some (.ref b) => b | _ => 0 : Addr) z.2.1 z.2.2
        rw [e]
        exact ⟨by simpa using b1, .inl b2⟩
    · have hj : (zs.map fun z => (z.2.1, z.2.2))[j]? = some (k, v) := hj
      rw [List.getElem?_map] at hj
      cases hj2 : zs[j]? with
      | none => rw [hj2] at hj; cases hj
      | some z =>
        rw [hj2] at hj
        cases hj
        obtain ⟨b, b1, b2, b3⟩ := k3 j z hj2
        exact ⟨z.1, by rw [List.getElem?_map, hj2]; rfl, b3⟩
/-- pairs of an int or a text and a thing -/
def vpairs : List Val → Option (List (Val × Val))
  | [] => some []
  | .tup [k, v] :: r => if kleaf k = true then (vpairs r).map ((k, v) :: ·) else none
  | _ => none
def mergeV (kvs more : List (Val × Val)) : List (Val × Val) := more.foldl (fun acc kv => dput acc kv.1 kv.2) kvs
theorem kleaf_rep {k : Val} (h : kleaf k = true) : ∃ kk : Key, k = kval kk ∧ ∀ {K : PySem.W.Frag} {x : V}, Rep K W H k x → x = kV kk := by
  cases k <;> simp [kleaf] at h
  · exact ⟨.inl _, rfl, fun r => by cases r; rfl⟩
  · exact ⟨.inr _, rfl, fun r => by cases r; rfl⟩
theorem vpairs_ok : ∀ {xs : List Val} {Vs : List V} {ps : List (Val × Val)}, Reps X.K W H xs Vs → vpairs xs = some ps → ∃ prs, PrsOk X H prs Vs ∧ Paired (fun p q => p.1 = kval q.1 ∧ Rep X.K W H p.2 q.2) ps prs
  | [], _, _, .nil, e => by cases e; exact ⟨[], .nil, .nil⟩
  | x :: xs, _, ps, .cons r t, e => by
    unfold vpairs at e
    split at e
    · rename_i h; cases h
    · rename_i k v r' hx
      cases hx
      split at e
      · rename_i hk
        rw [Option.map_eq_some_iff] at e
        obtain ⟨ps', e1, rfl⟩ := e
        obtain ⟨prs, h1, h2⟩ := vpairs_ok t e1
        cases r with
        | tup s1 s2 =>
          cases s2 with
          | cons a1 a2 => cases a2 with
            | cons a3 a4 =>
              cases a4
              obtain ⟨kk, ek, fk⟩ := kleaf_rep (W := W) (H := H) hk
              have := fk a1
              subst this
              exact ⟨(kk, _) :: prs, .cons ⟨_, rfl, s1⟩ h1, .cons ⟨ek, a3⟩ h2⟩
      · cases e
    · cases e
theorem merge_pair {K : PySem.W.Frag} : ∀ {more : List (Val × Val)} {mk : List (Key × V)} {kvs : List (Val × Val)} {kk : List (Key × V)}, Paired (fun p q => p.1 = kval q.1 ∧ Rep K W H p.2 q.2) more mk → Paired (fun p q => p.1 = kval q.1 ∧ Rep K W H p.2 q.2) kvs kk →
    Paired (fun p q => p.1 = kval q.1 ∧ Rep K W H p.2 q.2) (mergeV kvs more) (mergeK kk mk)
  | _, _, _, _, .nil, h => h
  | p :: more, q :: mk, kvs, kk, .cons r t, h => merge_pair (kvs := dput kvs p.1 p.2) (kk := putK kk q.1 q.2) t (dk_put r.1 h r.2)
def vpairsOf (st : Sto) (v : Val) : Option (List (Val × Val)) := match v with
  | .tpl xs => vpairs xs
  | _ => match vlist st v with
    | some xs => vpairs xs
    | none => none
def bDict : List Val → Sto → Option (Val × Sto)
  | [v], st => match vpairsOf st v with
    | some ps => some (.ref st.length, st ++ [.dct (mergeV [] ps)])
    | none => none
  | _, _ => none
theorem ok_dict : CallOk X (rDictP X) bDict := by
  intro W H st st' vs v xs Q g r e q
  unfold bDict at e
  split at e
  · rename_i u
    split at e
    · rename_i ps eps
      cases e
      cases r with
      | cons r1 r2 =>
        cases r2
        have fin : ∀ (a : Addr) (Vs : List V) (xs : List Val), Reps X.K W H xs Vs → vpairs xs = some ps → (SqL X.K H a Vs ∨ ∃ o, H a = some (.frz o (.tup Vs)) ∧ o.dict = none) → rDictP X [.ref a] H Q := by
          intro a Vs xs rx ex hv
          obtain ⟨prs, h1, h2⟩ := vpairs_ok rx ex
          refine ⟨a, Vs, prs, rfl, hv, h1, fun D hD => ?_⟩
          have x1 : Ext W H (W.add D) (upd H D (.dK (mergeK [] prs))) := Ext.new hD
          refine q (W.add D) _ _ x1 ((g.same (same_new hD)).add (g.notIn hD) (g.notF hD) (.inl ⟨_, upd_same, ?_⟩)) (.ref (add_at g))
          exact paired_imp (merge_pair h2 .nil) fun p y z => ⟨z.1, Rep.ext x1.toExt0 _ _ z.2⟩
        unfold vpairsOf at eps
        split at eps
        · cases r1 with
          | tpl h1 h0 h2 => exact fin _ _ _ h2 eps (.inr ⟨_, h1, h0⟩)
        · split at eps
          · rename_i ys ey
            obtain ⟨p, Vs, rfl, h1, h2⟩ := vlist_ok g r1 ey
            exact fin _ _ _ h2 eps (.inl h1)
          · cases eps
    · cases e
  · cases e
theorem se_dictOf (hc : X.calm = true) {e : Expr} {p pos : Pos} {ma : MA} (ha : PA X [e] (RA X ma)) (hm : X.mg "dict" = none) (hg : Gl X "dict" := by rfl) (hs : starEach [e] X.env = (false, eval e X.env) :: starEach [] X.env := by rfl) : PE X (.Call (.Name "dict" p) [e] [] pos) (RE X (mB bDict ma)) :=
  se_callTy (call_dictP hc) ok_dict (by decide +kernel) hm ha hg (by decide) (by decide) hs rfl
/-! ### enumerate(a tuple) -/
section
variable {prog : Program} {w : World}
set_option maxHeartbeats 2000000 in
theorem meets_enum1 {v : Value} {o : Obj} {G : Heap → Prop} (B : Begins v o G) :
    Meets (Builtin.«enumerate.__new__» ⟨[.type "enumerate", v], []⟩) (fun _ R s => G s.heap ∧
      R (.ok (.ret (.ref (s.heap.push o).objs.size))) { s with heap := (s.heap.push o).push { cls := .type "enumerate", data := .fields #[.none, .bool false, .ref s.heap.objs.size, rawInt 0, .none, .none] } }) :=
  .of_wp fun prog w A R s h => by
    obtain ⟨hp, g, d, tk, os⟩ := s
    obtain ⟨h1, h⟩ := h
    have hsub := sub_enumerate
    have q1 : ∀ {A' : Around} {E : Value → Shared → Prop} {Q : Value → Shared → Prop}, Q (.ref hp.objs.size) ⟨hp.push o, g, d, tk, os⟩ → wpAny (model prog w) A' (pyIter v) Q E ⟨hp, g, d, tk, os⟩ :=
      fun q => B.iter prog w _ _ ⟨hp, g, d, tk, os⟩ _ h1 q
    wp_walk using q1
    refine wpAny_stack_any fun st => wpAny_pure ?_
    split
    · rename_i c _ _ _ _ _
      cases (c == Value.type "enumerate")
      all_goals
        wp_walk using q1
        exact ⟨_, rfl, h⟩
    · wp_walk using q1
      exact ⟨_, rfl, h⟩
theorem call_enum1 {v : Value} {o : Obj} {G : Heap → Prop} {Q : Value → Shared → Prop} (B : Begins v o G) (h1 : G s.heap)
    (h : ∀ h', IsEnum h' (s.heap.objs.size + 1) s.heap.objs.size 0 .none → h'.get? s.heap.objs.size = some o → (∀ b o, s.heap.get? b = some o → h'.get? b = some o) → Q (.ref (s.heap.objs.size + 1)) { s with heap := h' }) :
    wpAny (model prog w) A (call (.type "enumerate") [v]) Q E s := by
  refine callType_new F.called_enumerate (by decide) (F.typeCall_enumerate_1 _) (F.newCall_enumerate_1 _) (fun obj => F.args_object_init_2 obj _) F.entry_enumerate_new (meets_enum1 B) ⟨h1, ?_⟩
  have hz : (s.heap.push o).objs.size = s.heap.objs.size + 1 := Heap.size_push ..
  show _ ∧ _
  rw [hz]
  have he : IsEnum ((s.heap.push o).push { cls := .type "enumerate", data := .fields #[.none, .bool false, .ref s.heap.objs.size, rawInt 0, .none, .none] }) (s.heap.objs.size + 1) s.heap.objs.size 0 .none := by
    have q := Heap.get?_push_size (s.heap.push o) (o := { cls := .type "enumerate", data := .fields #[.none, .bool false, .ref s.heap.objs.size, rawInt 0, .none, .none] }) rfl
    rw [hz] at q
    exact q
  exact ⟨⟨_, he, rfl⟩, h _ he (Heap.get?_push_of_some _ (Heap.get?_push_size _ B.free)) fun b o x => Heap.get?_push_of_some _ (Heap.get?_push_of_some _ x)⟩
end
/-- the tuple at a at each turn, each item in a new pair -/
def IteT (K : PySem.W.Frag) (a : Addr) : It :=
  ⟨fun i H => ∃ (xs : List V) (x : V), SqT K H a xs ∧ xs[i]? = some x, fun i H v H' => ∃ T x, v = .ref T ∧ H T = none ∧ H' = upd H T (.tup [.int (i : Nat), x]) ∧ ∀ xs, SqT K H a xs → xs[i]? = some x, fun i H => ∃ xs : List V, SqT K H a xs ∧ xs.length ≤ i⟩
theorem turn_enumT {P : Program} {w : World} {K : PySem.W.Frag} {elts : List Expr} {kk : Nat} {tpos : Pos} (a e it : Addr) :
    Turn P w K (.Tuple elts kk tpos) (IteT K a) [e, it] e (fun i h => (∃ old, IsEnum h e it ((i : Nat) : Int) old) ∧ h.IsTupleIter it a i ∧ e ≠ it) where
  mem := by simp
  obj := fun i h st b hb => by
    obtain ⟨⟨old, he⟩, ⟨o, ho, hc, hd⟩, _⟩ := st
    have e' : b = e ∨ b = it := by simpa using hb
    rcases e' with z | z
    · exact z ▸ ⟨_, he, fun v q => nomatch q⟩
    · exact z ▸ ⟨o, ho, fun v q => by rw [hd] at q; cases q⟩
  keep := fun i h h' st k => let ⟨⟨old, he⟩, hi, hne⟩ := st; ⟨⟨old, k e (by simp) _ he⟩, hi.at fun o q => k it (by simp) o q, hne⟩
  item := by
    intro X hP hw hK hc i pins s σ H E I hf st hg
    subst hP hw hK
    obtain ⟨⟨old, he⟩, hit, hne⟩ := st
    obtain ⟨xs, x, hq, hx⟩ := hg
    obtain ⟨its, rv, p, hz⟩ := I.tuple hq
    obtain ⟨u, hu, ru⟩ := rv.get hx
    have hel : e < s.heap.objs.size := Heap.lt_size he
    have hil : it < s.heap.objs.size := by obtain ⟨_, q, _⟩ := hit; exact Heap.lt_size q
    have hat : it ≠ a := by
      rintro rfl
      obtain ⟨o1, q1, c1, _⟩ := hit
      obtain ⟨o2, q2, c2, _⟩ := p
      rw [q1] at q2
      cases q2
      rw [c1] at c2
      exact absurd c2 (by simp)
    have hea : e ≠ a := by
      rintro rfl
      obtain ⟨o2, q2, c2, _⟩ := p
      have q1 : s.heap.get? e = some _ := he
      rw [q1] at q2
      cases q2
      exact absurd (show Value.type "enumerate" = Value.type "tuple" from c2) (by simp)
    have hlt : i < its.length := by
      rw [← rv.length]
      exact (List.getElem?_eq_some_iff.mp hx).1
    refine wpAny_pyNext_enum_itemD (Draws.tuple (show X.A.in1.handled = none from I.ok.hd hc) it a hat.symm its.toArray) he ⟨hit, p⟩ (by simpa using hlt) hne (by simp [hne, hea]) fun u' h' tk hu' ho hit' hT hsz hk => ?_
    obtain rfl : u' = u := by
      have q : its.toArray[i]? = some u' := hu'
      rw [List.getElem?_toArray, hu] at q
      exact (Option.some.inj q).symm
    refine ⟨_, rfl, wpAny_letOwnedTupleGo_enum (s := { s with heap := h', toks := tk + 1 }) ho fun h'' he' sb => ?_⟩
    have hT2 := (sb.2 _ (Nat.ne_of_gt hel)).trans hT
    have new : ObjOk X.prog X.w (upd H s.heap.objs.size (.tup [.int (i : Nat), x])) h'' s.heap.objs.size (.tup [.int (i : Nat), x]) :=
      ⟨by show 2 ≤ sizeLine; decide, [.int i tk, u'], .cons ⟨_, rfl⟩ (.cons ru .nil), ⟨_, hT2, rfl, _, rfl⟩⟩
    have I1 : Inv X pins σ (upd H s.heap.objs.size (.tup [.int (i : Nat), x])) { s with heap := h'', toks := tk + 1 } :=
      I.turnedNew (ch := [e, it]) (fun b ob hb q => (sb.2 b (fun z => hb (by simp [z]))).trans (hk b ob (fun z => hb (by simp [z])) (fun z => hb (by simp [z])) q)) hf (Nat.le_refl _) new
    refine ⟨.ref s.heap.objs.size, _, I1, rfl, ⟨_, x, rfl, I.hok.fresh (Nat.le_refl _), rfl, fun ys hy => ?_⟩, ⟨⟨u', ?_⟩, hit'.1.at fun o q => (sb.2 it (Ne.symm hne)).trans q, hne⟩, fun b hb => ?_⟩
    · rw [I.tuple_inj hy hq]; exact hx
    · have e1 : ((i + 1 : Nat) : Int) = (i : Int) + 1 := by omega
      rw [e1]
      exact he'
    · have hb' : b < s.heap.objs.size := by
        have e' : b = e ∨ b = it := by simpa using hb
        rcases e' with z | z
        · exact z ▸ hel
        · exact z ▸ hil
      rw [upd_ne (Nat.ne_of_lt hb')]
      exact (hf b hb).1
  done := by
    intro X hP hw hK hc i pins s σ H E I hf st hg
    subst hP hw hK
    obtain ⟨⟨old, he⟩, hit, hne⟩ := st
    obtain ⟨xs, hq, hx⟩ := hg
    obtain ⟨its, rv, p, hz⟩ := I.tuple hq
    obtain ⟨f0, f1, f2, f3, f4, f5⟩ := hf it (by simp)
    have hl := rv.length
    have hat : a ≠ it := by
      rintro rfl
      obtain ⟨o1, q1, c1, _⟩ := hit
      obtain ⟨o2, q2, c2, _⟩ := p
      rw [q1] at q2
      cases q2
      rw [c1] at c2
      exact absurd c2 (by simp)
    have hT : s.TypeIs (.ref e) "enumerate" := ⟨_, he, rfl⟩
    unfold pyNext
    refine wpAny_bind (wpAny_attempt (wpAny_callSpecial?_slot (name := Str.ofString "__next__") hT F.slot_enumerate_next (wpAny_call_entry F.slot_enumerate_next hT F.entry_enumerate_next ?_ (F.args_enumerate_next_1 _))))
    show wpAny _ _ (field (.ref e) 2 >>= _) _ _ _
    refine wpAny_bind (wpAny_field he rfl (x := .ref it) rfl ?_)
    refine wpAny_bind (wpAny_nextOf_tuple_end (show X.A.in1.handled = none from I.ok.hd hc) hit p (Array.getElem?_eq_none (by simp; omega)) fun h' x he' hx' => ?_)
    obtain ⟨o, ho, hcl⟩ := hx'
    refine wpAny_bind (wpAny_isInstance (T := "StopIteration") (b := true) ⟨o, ho, hcl⟩ isSubtype_stop ?_)
    exact wpAny_pure ⟨rfl, I.turned (t' := s.toks) (fun b o hb q => he' b o hb q) f0 f1 f3 f4 f5⟩
  self := fun A i s Q E st h => let ⟨⟨_, he⟩, _⟩ := st; wpAny_pyIter_enum he h
def iEnumT (K : PySem.W.Frag) (ta : TA) : TI := fun σ H R => ta σ H fun vs H1 => ∃ a xs, vs = [.ref a] ∧ SqT K H1 a xs ∧ R (IteT K a) H1
theorem pi_enumT {e : Expr} {ta : TA} {p pos tpos : Pos} {elts : List Expr} {kk : Nat} (hg : Gl X "enumerate") (hm : X.mg "enumerate" = none) (ha : PA X [e] ta) (hs : starEach [e] X.env = [(false, eval e X.env)] := by rfl) :
    PI X (.Tuple elts kk tpos) (.Call (.Name "enumerate" p) [e] [] pos) (iEnumT X.K ta) := by
  refine ⟨fun pins s σ H R I h => ?_⟩
  refine Call_ (ld_blt I hg hm boot_enumerate (PyProof.Rows.callWith_type1 (thn (ha.run pos pins s σ H _ I h) fun us s1 ⟨vs, H1, I1, r1, q1⟩ => ?_) hs rfl))
  obtain ⟨a, xs, ex, hq, q⟩ := q1
  subst ex
  rw [Vals.ref1 r1]
  obtain ⟨its, rv, p', hz⟩ := I1.tuple hq
  refine call_enum1 (begins_tuple a its.toArray) p' fun h' he hit hk => wpAny_pyIter_enum he ?_
  have I2 : Inv X pins σ H1 { s1 with heap := h' } := I1.kept (t' := s1.toks) hk
  refine ⟨s1.heap.objs.size + 1, [s1.heap.objs.size + 1, s1.heap.objs.size], _, _, H1, rfl, I2, turn_enumT a (s1.heap.objs.size + 1) s1.heap.objs.size, ⟨⟨.none, he⟩, ⟨_, hit, rfl, rfl⟩, Nat.succ_ne_self _⟩, fun b hb => ?_, q⟩
  have hle : s1.heap.objs.size ≤ b := by
    have e' : b = s1.heap.objs.size + 1 ∨ b = s1.heap.objs.size := by simpa using hb
    rcases e' with z | z
    · exact z ▸ Nat.le_add_right _ _
    · exact z ▸ Nat.le_refl _
  exact I1.fpOk hle (I1.hok.fresh hle)
theorem walk_enumT {K : PySem.W.Frag} {a : Addr} {xs : List V} : Walk (IteT K a) xs.length (fun H => SqT K H a xs) (YPair (fun i => some (.int (i : Nat))) (fun i => xs[i]?)) := by
  refine ⟨fun i _ hi q => ⟨xs, xs[i], q, List.getElem?_eq_getElem hi⟩, fun _ q => ⟨xs, q, Nat.le_refl _⟩, fun i H v H' _ q y => ?_⟩
  obtain ⟨T, x, h1, h2, h3, h4⟩ := y
  exact ⟨T, .int (i : Nat), x, h1, h2, h3, rfl, h4 xs q⟩
def enumV (n : Nat) : List Val → List Val
  | [] => []
  | x :: xs => .tup [.int n, x] :: enumV (n + 1) xs
theorem enumV_len : ∀ (n : Nat) (xs : List Val), (enumV n xs).length = xs.length
  | _, [] => rfl
  | n, x :: xs => by rw [enumV, List.length_cons, List.length_cons, enumV_len (n + 1) xs]
theorem enumV_get : ∀ (n : Nat) {xs : List Val} {i : Nat} {x : Val}, xs[i]? = some x → (enumV n xs)[i]? = some (.tup [.int ((n + i : Nat) : Int), x])
  | _, [], _, _, h => by simp at h
  | n, y :: ys, 0, x, h => by simp at h; subst h; rfl
  | n, y :: ys, i + 1, x, h => by
    have q := enumV_get (n + 1) (xs := ys) (i := i) (by simpa using h)
    rw [show n + (i + 1) = n + 1 + i by omega]
    simpa [enumV] using q
def iEnum (as : MA) : MI := mBind as fun vs _ st => match vs with
  | [.tup xs] => some (.vals (enumV 0 xs), st)
  | [.tpl xs] => some (.vals (enumV 0 xs), st)
  | [.lst xs] => some (.vals (enumV 0 xs), st)
  | [.sc xs] => some (.vals (enumV 0 xs), st)
  | _ => none
theorem itOk_enumT {a : Addr} {xs : List Val} {Vs : List V} (h1 : SqT X.K H a Vs) (h2 : Reps X.K W H xs Vs) : ItOk X W H (IteT X.K a) (.vals (enumV 0 xs)) := by
  refine itOk_pair (n := xs.length) (by rw [h2.length]; exact walk_enumT) (enumV_len _ _) (fun W2 H2 x2 => x2.sqT h1) fun i W2 H2 x y x2 f1 f2 => ?_
  cases f1
  obtain ⟨v, v1, v2⟩ := (Reps.ext x2 _ _ h2).get' f2
  refine ⟨_, v, enumV_get 0 v1, ?_, v2⟩
  rw [Nat.zero_add]
  exact .int _
theorem itOk_enumL {a : Addr} {xs : List Val} {Vs : List V} (h1 : ∀ W' H', Ext0 W H W' H' → SqL X.K H' a Vs) (h2 : Reps X.K W H xs Vs) : ItOk X W H (Ite X.K a) (.vals (enumV 0 xs)) := by
  refine itOk_pair (n := xs.length) (by rw [h2.length]; exact walk_enum) (enumV_len _ _) h1 fun i W2 H2 x y x2 f1 f2 => ?_
  cases f1
  obtain ⟨v, v1, v2⟩ := (Reps.ext x2 _ _ h2).get' f2
  refine ⟨_, v, enumV_get 0 v1, ?_, v2⟩
  rw [Nat.zero_add]
  exact .int _
theorem si_enum {e : Expr} {p pos tpos : Pos} {elts : List Expr} {kk : Nat} {ma : MA} (ha : PA X [e] (RA X ma)) (hm : X.mg "enumerate" = none) (hg : Gl X "enumerate" := by rfl) (hs : starEach [e] X.env = [(false, eval e X.env)] := by rfl) :
    PI X (.Tuple elts kk tpos) (.Call (.Name "enumerate" p) [e] [] pos) (RI X (iEnum ma)) := by
  refine pi_weak (pi_orW (L2.pi_enum hg hm ha hs) (pi_enumT hg hm ha hs)) fun σ H R h => ?_
  obtain ⟨W, env, st, src, st', g, er, e, q⟩ := h
  obtain ⟨vs, st1, e1, e2⟩ := mBind_some e
  split at e2
  · cases e2
    refine .inr ⟨W, env, st, _, _, g, er, e1, fun W1 H1 zs x1 g1 r => ?_⟩
    cases r with
    | cons r1 r2 => cases r2; cases r1 with
      | tup h1 h2 => exact ⟨_, _, rfl, h1, q W1 H1 _ x1 g1 (itOk_enumT h1 h2)⟩
  · cases e2
    refine .inr ⟨W, env, st, _, _, g, er, e1, fun W1 H1 zs x1 g1 r => ?_⟩
    cases r with
    | cons r1 r2 => cases r2; cases r1.tpl_tup with
      | tup h1 h2 => exact ⟨_, _, rfl, h1, q W1 H1 _ x1 g1 (itOk_enumT h1 h2)⟩
  · cases e2
    refine .inl ⟨W, env, st, _, _, g, er, e1, fun W1 H1 zs x1 g1 r => ?_⟩
    cases r with
    | cons r1 r2 =>
      cases r2
      obtain ⟨a, Vs, rfl, h1, h2⟩ := vlst_st g1 r1 (.inl rfl)
      exact ⟨_, _, rfl, h1 _ _ Ext0.refl, q W1 H1 _ x1 g1 (itOk_enumL h1 h2)⟩
  · cases e2
    refine .inl ⟨W, env, st, _, _, g, er, e1, fun W1 H1 zs x1 g1 r => ?_⟩
    cases r with
    | cons r1 r2 =>
      cases r2
      obtain ⟨a, Vs, rfl, h1, h2⟩ := vlst_st g1 r1 (.inr rfl)
      exact ⟨_, _, rfl, h1 _ _ Ext0.refl, q W1 H1 _ x1 g1 (itOk_enumL h1 h2)⟩
  · cases e2
end
end Sh

-- part Sh20
set_option Elab.async false
set_option linter.all false
set_option maxRecDepth 100000
set_option maxHeartbeats 1000000
namespace Sh
open PySem PySem.Spec PyProof.Rows L2

section
variable {X : Cx} {W : Wd} {H : Hp} {st : Sto} {pins : List (Addr × Obj)} {σ : L2.St} {s : Shared} {A : Around} {E : Value → Shared → Prop}
/-! ### list(range(..)) -/
def rgFit (a b : Int) : Bool := decide (-(2 ^ 62) ≤ a ∧ a < 2 ^ 62 ∧ -(2 ^ 62) ≤ b ∧ b < 2 ^ 62 ∧ (b - a).toNat ≤ 2 ^ 24)
theorem rgV_reps {K : PySem.W.Frag} (a b : Int) : Reps K W H (rgVals a (b - a).toNat) (rgV a b) := by
  unfold rgVals rgV
  generalize (b - a).toNat = n
  have key : ∀ l : List Nat, Reps K W H (l.map fun i => .int (a + (i : Nat))) (l.map fun i => V.int (a + (i : Nat))) := by
    intro l
    induction l with
    | nil => exact .nil
    | cons x l ih => exact .cons (.int _) ih
  exact key _
def fRg1 (m : ME) : MA := mBind m fun v _ st => match v with
  | .int j => if rgFit 0 j = true then some (rgVals 0 j.toNat, st) else none
  | _ => none
def fRg2 (ma mb : ME) : MA := mBind ma fun u => mBind mb fun v _ st => match u, v with
  | .int i, .int j => if rgFit i j = true then some (rgVals i (j - i).toNat, st) else none
  | _, _ => none
theorem sf_listRg1 (hc : X.calm = true) {a : Expr} {p p2 pos pos2 : Pos} {m : ME} (ha : PE X a (RE X m)) (hm : X.mg "list" = none) (hm2 : X.mg "range" = none) (hg : Gl X "list" := by rfl) (hg2 : Gl X "range" := by rfl)
    (hs : starEach [a] X.env = (false, eval a X.env) :: starEach [] X.env := by rfl)
    (hs2 : starEach [(.Call (.Name "range" p2) [a] [] pos2)] X.env = (false, eval (.Call (.Name "range" p2) [a] [] pos2) X.env) :: starEach [] X.env := by rfl) :
    PE X (.Call (.Name "list" p) [.Call (.Name "range" p2) [a] [] pos2] [] pos) (rdF X (fRg1 m)) := by
  refine pe_weak (pe_listRg hc hg hm (prg_1 hg2 hm2 ha hs) hs2) fun σ H Q h => ?_
  obtain ⟨W, env, st, xs, st', g, er, e, q⟩ := h
  obtain ⟨v, st1, e1, e2⟩ := mBind_some e
  split at e2
  · split at e2
    · rename_i j hj
      cases e2
      refine ⟨W, env, st, _, _, g, er, e1, fun W1 H1 x x1 g1 r => ?_⟩
      cases r
      have hj := of_decide_eq_true hj
      refine ⟨j, rfl, hj, fun p hp => fresh_end x1 g1 ?_ hp q⟩
      have := rgV_reps (W := W1) (H := H1) (K := X.K) 0 j
      rw [show j - 0 = j by omega] at this
      exact this
    · cases e2
  · cases e2
theorem sf_listRg2 (hc : X.calm = true) {a b : Expr} {p p2 pos pos2 : Pos} {ma mb : ME} (ha : PE X a (RE X ma)) (hb : PE X b (RE X mb)) (hm : X.mg "list" = none) (hm2 : X.mg "range" = none) (hg : Gl X "list" := by rfl) (hg2 : Gl X "range" := by rfl)
    (hs : starEach [a, b] X.env = (false, eval a X.env) :: starEach [b] X.env := by rfl) (hsb : starEach [b] X.env = (false, eval b X.env) :: starEach [] X.env := by rfl) (hp : (backTo pos2 (starEach [b] X.env)).any (·.1) = false := by rfl)
    (hs2 : starEach [(.Call (.Name "range" p2) [a, b] [] pos2)] X.env = (false, eval (.Call (.Name "range" p2) [a, b] [] pos2) X.env) :: starEach [] X.env := by rfl) :
    PE X (.Call (.Name "list" p) [.Call (.Name "range" p2) [a, b] [] pos2] [] pos) (rdF X (fRg2 ma mb)) := by
  refine pe_weak (pe_listRg hc hg hm (prg_2 hg2 hm2 ha hb hs hsb hp) hs2) fun σ H Q h => ?_
  obtain ⟨W, env, st, xs, st', g, er, e, q⟩ := h
  obtain ⟨u, st1, e1, e2⟩ := mBind_some e
  obtain ⟨v, st2, e3, e4⟩ := mBind_some e2
  split at e4
  · split at e4
    · rename_i i j hj
      cases e4
      refine ⟨W, env, st, _, _, g, er, e1, fun W1 H1 x x1 g1 r => ?_⟩
      refine ⟨W1, env, st1, _, _, g1, er.ext x1.toExt0, e3, fun W2 H2 y x2 g2 r2 => ?_⟩
      cases r
      cases r2
      have hj := of_decide_eq_true hj
      exact ⟨i, j, rfl, rfl, hj, fun p hp => fresh_end (x1.trans x2) g2 (rgV_reps i j) hp q⟩
    · cases e4
  · cases e4
end
end Sh

-- part Sh21
set_option Elab.async false
set_option linter.all false
set_option maxRecDepth 100000
set_option maxHeartbeats 1000000
namespace Sh
open PySem PySem.Spec PyProof.Rows L2

/-! ### the head: facts, defs, tuples of the module -/
def tupsB (tb : List (Str × List He.Dv)) (K : PySem.W.Frag) : Bool := tb.all fun p => He.tupB K p.1 p.2
def hookS (n : Nat) (fa : List He.Fa) (fn : List He.DefD) (tb : List (Str × List He.Dv)) : PySem.W.Hook where
  α := He.AlD × Bool
  obs := fun s => (He.obsDG n fa fn s.heap.get?, tupsB tb (He.frG s.heap.get? (He.asD s.heap.get? n)))
  val := fun _ => (He.valD fn, true)
  says := fun _ h => ∃ K : PySem.W.Frag, K.In h ∧ He.SaysD fa fn K ∧ tupsB tb K = true
  of := fun _ _ e => ⟨_, He.frG_in, congrArg Prod.fst e, congrArg Prod.snd e⟩
  keeps := fun _ _ _ ⟨K, hK, c⟩ k => ⟨K, PySem.W.Frag.In.keeps hK k, c⟩
def obsS (n : Nat) (fa : List He.Fa) (fn : List He.DefD) (tb : List (Str × List He.Dv)) (g : Addr → Option Obj) : He.AlD × Bool := (He.obsDG n fa fn g, tupsB tb (He.frG g (He.asD g n)))
theorem obsS_eq {n : Nat} {fa : List He.Fa} {fn : List He.DefD} {tb : List (Str × List He.Dv)} {g : Addr → Option Obj} {s : Shared} (h : ∀ a, g a = s.heap.get? a) : obsS n fa fn tb g = (hookS n fa fn tb).obs s := by
  have e : g = s.heap.get? := funext h
  rw [e] <;> rfl
section
variable {K : PySem.W.Frag} {h : Heap} {mg : Str → Option Value}
theorem tups_at {tb : List (Str × List He.Dv)} (c : tupsB tb K = true) (i : Nat) {x : Str} {vs : List He.Dv} (e : tb[i]? = some (x, vs) := by rfl) : He.tupB K x vs = true :=
  List.all_eq_true.mp c (x, vs) (List.mem_of_getElem? e)
theorem cst_int {x : Str} {i : Int} (h : ∃ t, mg x = some (.int i t)) : ∃ u, mg x = some u ∧ Cst K u (.int i) := by
  obtain ⟨t, h⟩ := h
  exact ⟨_, h, ⟨.int i, ⟨t, rfl⟩, fun _ _ => .int i⟩⟩
theorem cst_str {x z : Str} (h : ∃ t, mg x = some (.str z t)) : ∃ u, mg x = some u ∧ Cst K u (.str z) := by
  obtain ⟨t, h⟩ := h
  exact ⟨_, h, ⟨.str z, ⟨t, rfl⟩, fun _ _ => .str z⟩⟩
theorem cst_tup {x : Str} {vs : List He.Dv} {us : List Val} (h : mg x = some (.ref (He.ga K x))) (c : He.tupB K x vs = true) (r : ∀ W H, Reps K W H us (vs.map (He.Dv.v K))) : ∃ u, mg x = some u ∧ Cst K u (.tup us) :=
  ⟨_, h, ⟨.ref _, rfl, fun W H => .tup (He.tupB_ok c H) (r W H)⟩⟩
end
theorem reps_ints {K : PySem.W.Frag} {W : Wd} {H : Hp} : ∀ ns : List Int, Reps K W H (ns.map .int) (ns.map V.int)
  | [] => .nil
  | n :: ns => .cons (.int n) (reps_ints ns)
/-- the law's promise, from what its model says -/
theorem law_sp {P : Program} {w : World} {K : PySem.W.Frag} {H : Hp} {a : Addr} {ns : List Int} {f : Fn} (hO : Only H) (hS : SqL K H a (ns.map V.int)) (hf : ∃ st', f [.sc (ns.map .int)] [] = some (.bl true, st')) : spF P w K 1 f [.ref a] H (fun v _ => v = .bl true) fun _ _ _ => False := by
  obtain ⟨st', hf⟩ := hf
  have g : Good P w K ⟨[], fun _ => False⟩ H [] := ⟨rfl, List.nodup_nil, fun a h => absurd h (by simp), fun i o a h => absurd h (by simp), fun a h => h.elim⟩
  have r : Rep K ⟨[], fun _ => False⟩ H (.sc (ns.map .int)) (.ref a) := by
    rcases hS with (h | ⟨o, h⟩) | h
    · rcases hO a with q | ⟨o, xs, q⟩
      · rw [h] at q; cases q
      · rw [h] at q; cases q
    · exact .fls h (reps_ints ns)
    · exact .kls h (reps_ints ns)
  refine ⟨rfl, _, [], _, _, st', g, .cons r .nil, hf, fun W' H' x _ _ r2 => ?_⟩
  cases r2
  rfl
end Sh

-- part K83
set_option Elab.async false
set_option linter.all false
set_option maxRecDepth 100000
set_option maxHeartbeats 1000000
namespace K83
open PySem PySem.Spec PyProof.Rows L2 Sh
def top (i : Nat) : Stmt := PySem.Challenge.pw_signalsaid_k83_whole_orders_counted_by_f.main.body.getD i (.Pass ⟨0, 0, 0, 0⟩)
abbrev FnP (K : PySem.W.Frag) (x : Str) (st : Stmt) (f : Addr) (fd : FuncData) : Prop := FunD K x x (defArgs st) (defBody st) (defScope st) [] [] f fd
theorem room_u80 {k : Nat} {A : Around} (r : Room k A) : A.units + 80 < cLine := by have := r.un; omega
structure Glb (K : PySem.W.Frag) (mg : Str → Option Value) : Prop where
  abs : mg "abs" = none
  all : mg "all" = none
  any : mg "any" = none
  bool : mg "bool" = none
  dict : mg "dict" = none
  enumerate : mg "enumerate" = none
  int : mg "int" = none
  isinstance : mg "isinstance" = none
  len : mg "len" = none
  list : mg "list" = none
  max : mg "max" = none
  min : mg "min" = none
  range : mg "range" = none
  sorted : mg "sorted" = none
  sum : mg "sum" = none
  tuple : mg "tuple" = none
  zip : mg "zip" = none
  AT : ∃ u, mg "AT" = some u ∧ Cst K u (.str "at")
  IN : ∃ u, mg "IN" = some u ∧ Cst K u (.str "in")
  MOST : ∃ u, mg "MOST" = some u ∧ Cst K u (.int 10000000000000000000000000000000000000000000000000000000000000000000000000000000000000000000000000000)
  MOST_CLOCK : ∃ u, mg "MOST_CLOCK" = some u ∧ Cst K u (.int 9)
  ONE : ∃ u, mg "ONE" = some u ∧ Cst K u (.tup [(.int 1), (.int 1)])
  ZERO : ∃ u, mg "ZERO" = some u ∧ Cst K u (.tup [(.int 0), (.int 1)])
abbrev b__law_take : MS := (sSeq (sIf (tOf (mBin vGt (mBin vIx (mVar 0) (mC (.int 0))) (mC (.int 0)))) (sSeq (sSet 2 (mBin vMod (mB bInt (aCons (mBin vIx (mVar 0) (mC (.int 0))) aNil)) (mVar 1))) (sSeq (sAsg (gSubM (mVar 0) (mC (.int 0))) (mBin vFloorDiv (mBin vIx (mVar 0) (mC (.int 0))) (mVar 1))) (sRet (mB bInt (aCons (mVar 2) aNil))))) sNext) (sSeq (sAsg (gSubM (mVar 0) (mC (.int 2))) (mBin vAdd (mBin vIx (mVar 0) (mC (.int 2))) (mC (.int 1)))) (sSeq (sSet 3 (mBin vIx (mFz (fLst (aCons (mC (.int 2147483647)) (aCons (mC (.int 2147483629)) (aCons (mC (.int 2147483587)) (aCons (mC (.int 2147483579)) (aCons (mC (.int 2147483563)) aNil))))))) (mBin vMod (mB bInt (aCons (mBin vIx (mVar 0) (mC (.int 2))) aNil)) (mC (.int 5))))) (sSeq (sSet 4 (mBin vMod (mB bInt (aCons (mBin vPow (mB bInt (aCons (mBin vAdd (mBin vAdd (mBin vIx (mVar 0) (mC (.int 1))) (mBin vMulI (mBin vMulI (mC (.int 77291)) (mBin vIx (mVar 0) (mC (.int 2)))) (mBin vIx (mVar 0) (mC (.int 2))))) (mC (.int 881))) aNil)) (mC (.int 3))) aNil)) (mVar 3))) (sSeq (sSet 4 (mBin vMod (mB bInt (aCons (mBin vMulI (mVar 4) (mBin vAdd (mBin vMod (mB bInt (aCons (mVar 4) aNil)) (mC (.int 10223))) (mBin vMulI (mC (.int 118)) (mBin vIx (mVar 0) (mC (.int 2)))))) aNil)) (mC (.int 2305843009213693907)))) (sRet (mBin vMod (mB bInt (aCons (mBin vFloorDiv (mVar 4) (mC (.int 149))) aNil)) (mVar 1))))))))
def f__law_take : Fn := mkFn 5 .drop b__law_take
abbrev st__law_take : Stmt := top 40
theorem sc__law_take : FnScope ["pot", "upto", "digit", "prime", "blend"] ["pot", "upto"] (defScope st__law_take) := ⟨rfl, rfl, rfl, by decide +kernel, rfl, by decide +kernel, by decide +kernel⟩
theorem ok__law_take {P : Program} {w : World} {K : PySem.W.Frag} {mg : Str → Option Value} {base : Heap} {f : Addr} {fd : FuncData} (F : FnP K "_law_take" st__law_take f fd) (G : Glb K mg)  : FnOk P w K mg base CX0 1 f fd ["pot", "upto"] (spF P w K 2 f__law_take) := by
  have S := sc__law_take
  refine fn_mk (N := ["pot", "upto", "digit", "prime", "blend"]) (ps := ["pot", "upto"]) (k := 0) (gc := .drop) (m := b__law_take) F S fun cdv A outer s H E hr => ?_
  have hu := room_u80 hr
  refine ss_cons ?_ ?_
  · skip
    refine ss_if (st_gt (se_ix hu (se_var (i := 0)) se_int) se_int) ?_ ?_
    · skip
      refine ss_cons ?_ ?_
      · skip
        exact ss_set (i := 2) S.nd (se_mod (se_intOf (sa_cons (se_ix hu (se_var (i := 0)) se_int) sa_nil) G.int) (se_var (i := 1)))
      refine ss_cons ?_ ?_
      · skip
        exact ss_asg (se_fdiv (se_ix hu (se_var (i := 0)) se_int) (se_var (i := 1))) (sg_sub hu (se_var (i := 0)) se_int)
      refine ss_one ?_
      exact ss_ret (se_intOf (sa_cons (se_var (i := 2)) sa_nil) G.int)
    · skip
      exact ss_nil
  refine ss_cons ?_ ?_
  · skip
    exact ss_asg (se_add (se_ix hu (se_var (i := 0)) se_int) se_int) (sg_sub hu (se_var (i := 0)) se_int)
  refine ss_cons ?_ ?_
  · skip
    exact ss_set (i := 3) S.nd (se_ix hu (se_fz (sf_lst (sa_cons se_int (sa_cons se_int (sa_cons se_int (sa_cons se_int (sa_cons se_int sa_nil))))))) (se_mod (se_intOf (sa_cons (se_ix hu (se_var (i := 0)) se_int) sa_nil) G.int) se_int))
  refine ss_cons ?_ ?_
  · skip
    exact ss_set (i := 4) S.nd (se_mod (se_intOf (sa_cons (se_pow (se_intOf (sa_cons (se_add (se_add (se_ix hu (se_var (i := 0)) se_int) (se_mul (se_mul se_int (se_ix hu (se_var (i := 0)) se_int)) (se_ix hu (se_var (i := 0)) se_int))) se_int) sa_nil) G.int) se_int) sa_nil) G.int) (se_var (i := 3)))
  refine ss_cons ?_ ?_
  · skip
    exact ss_set (i := 4) S.nd (se_mod (se_intOf (sa_cons (se_mul (se_var (i := 4)) (se_add (se_mod (se_intOf (sa_cons (se_var (i := 4)) sa_nil) G.int) se_int) (se_mul se_int (se_ix hu (se_var (i := 0)) se_int)))) sa_nil) G.int) se_int)
  refine ss_one ?_
  exact ss_ret (se_mod (se_intOf (sa_cons (se_fdiv (se_var (i := 4)) se_int) sa_nil) G.int) (se_var (i := 1)))

abbrev b__law_some : MS := (sSeq (sPar 3 4 (aCons (mNew (fB bList (aCons (mVar 1) aNil))) (aCons (mNew (fLst aNil)) aNil))) (sSeq (sFor (iRange1 (mB bMin2 (aCons (mVar 2) (aCons (mB bLen (aCons (mVar 3) aNil)) aNil)))) (gNameM 5) (sEx (mLM2 lAppend (mVar 4) (aCons (mLM2 lPopAt (mVar 3) (aCons (mCall 2 f__law_take (aCons (mVar 0) (aCons (mB bLen (aCons (mVar 3) aNil)) aNil))) aNil)) aNil)))) (sRet (mVar 4))))
def f__law_some : Fn := mkFn 6 .keep b__law_some
abbrev st__law_some : Stmt := top 42
theorem sc__law_some : FnScope ["pot", "pool", "many", "rests", "found", "lap"] ["pot", "pool", "many"] (defScope st__law_some) := ⟨rfl, rfl, rfl, by decide +kernel, rfl, by decide +kernel, by decide +kernel⟩
theorem ok__law_some {P : Program} {w : World} {K : PySem.W.Frag} {mg : Str → Option Value} {base : Heap} {f : Addr} {fd : FuncData} (F : FnP K "_law_some" st__law_some f fd) (G : Glb K mg) {a__law_take : Addr} {d__law_take : FuncData} {ps__law_take : List Str} (D__law_take : Def P w K mg base 1 "_law_take" 2 f__law_take a__law_take d__law_take ps__law_take) : FnOk P w K mg base CX0 2 f fd ["pot", "pool", "many"] (spF P w K 3 f__law_some) := by
  have S := sc__law_some
  refine fn_mk (N := ["pot", "pool", "many", "rests", "found", "lap"]) (ps := ["pot", "pool", "many"]) (k := 1) (gc := .keep) (m := b__law_some) F S fun cdv A outer s H E hr => ?_
  have hu := room_u80 hr
  refine ss_cons ?_ ?_
  · skip
    exact ss_par (i := 3) (j := 4) rfl S.nd (sa_cons (se_new (sf_listOf (sa_cons (se_var (i := 1)) sa_nil) G.list)) (sa_cons (se_new (sf_lst sa_nil)) sa_nil))
  refine ss_cons ?_ ?_
  · skip
    refine ss_for PassesOwn.never rfl (si_range1 (se_min2 rfl (sa_cons (se_var (i := 2)) (sa_cons (se_len (sa_cons (se_var (i := 3)) sa_nil) G.len) sa_nil)) G.min) G.range) (sg_name (i := 5) S.nd) ?_
    · skip
      refine ss_one ?_
      exact ss_ex (se_append (se_var (i := 4)) (sa_cons (se_popAt (se_var (i := 3)) (sa_cons (se_callD D__law_take hr (sa_cons (se_var (i := 0)) (sa_cons (se_len (sa_cons (se_var (i := 3)) sa_nil) G.len) sa_nil))) sa_nil)) sa_nil))
  refine ss_one ?_
  exact ss_ret (se_var (i := 4))

abbrev b__law_lots : MS := (sSeq (sSet 1 (mFz (fLst (aCons (mTup aNil) aNil)))) (sSeq (sFor (iSeq (mVar 0)) (gNameM 2) (sSet 1 (mBin vAdd (mVar 1) (mFz (fLc (([("lot", 3)] : List (Str × Nat)).map (·.2)) (iSeq (mVar 1)) (gNameM 3) tYesM (mBin vAdd (mVar 3) (mTup (aCons (mVar 2) aNil)))))))) (sRet (mVar 1))))
def f__law_lots : Fn := mkFn 4 .drop b__law_lots
abbrev st__law_lots : Stmt := top 43
theorem sc__law_lots : FnScope ["clocks", "found", "clock", "lot"] ["clocks"] (defScope st__law_lots) := ⟨rfl, rfl, rfl, by decide +kernel, rfl, by decide +kernel, by decide +kernel⟩
theorem ok__law_lots {P : Program} {w : World} {K : PySem.W.Frag} {mg : Str → Option Value} {base : Heap} {f : Addr} {fd : FuncData} (F : FnP K "_law_lots" st__law_lots f fd) (G : Glb K mg)  : FnOk P w K mg base CX0 1 f fd ["clocks"] (spF P w K 1 f__law_lots) := by
  have S := sc__law_lots
  refine fn_mk (N := ["clocks", "found", "clock", "lot"]) (ps := ["clocks"]) (k := 0) (gc := .drop) (m := b__law_lots) F S fun cdv A outer s H E hr => ?_
  have hu := room_u80 hr
  refine ss_cons ?_ ?_
  · skip
    exact ss_set (i := 1) S.nd (se_fz (sf_lst (sa_cons (se_tup sa_nil) sa_nil)))
  refine ss_cons ?_ ?_
  · skip
    refine ss_for PassesOwn.never rfl (si_seq (se_var (i := 0))) (sg_name (i := 2) S.nd) ?_
    · skip
      refine ss_one ?_
      exact ss_set (i := 1) S.nd (se_add (se_var (i := 1)) (se_fz (sf_lc (own := [("lot", 3)]) rfl S.nd (si_seq (se_var (i := 1))) (blkOk_by (N := ["clocks", "found", "clock", "lot"]) (sc := defScope st__law_lots) (by decide +kernel)) (fun _ _ _ _ _ => (sg_name (i := 3) S.nd)) (fun _ _ _ _ _ => sts_nil) (fun _ _ _ _ _ => (se_add (se_var (i := 3)) (se_tup (sa_cons (se_var (i := 2)) sa_nil)))))))
  refine ss_one ?_
  exact ss_ret (se_var (i := 1))

abbrev b__law_ranks : MS := (sSeq (sSet 1 (mNew (fLst (aCons (mC (.int 1)) aNil)))) (sSeq (sFor (iRange2 (mC (.int 1)) (mBin vAdd (mVar 0) (mC (.int 1)))) (gNameM 2) (sSeq (sSet 3 (mC (.int 0))) (sSeq (sFor (iRange2 (mC (.int 1)) (mBin vAdd (mVar 2) (mC (.int 1)))) (gNameM 4) (sSeq (sSet 5 (mC (.int 1))) (sSeq (sFor (iRange1 (mVar 4)) (gNameM 6) (sSet 5 (mBin vFloorDiv (mBin vMulI (mVar 5) (mBin vSub (mVar 2) (mVar 6))) (mBin vAdd (mVar 6) (mC (.int 1)))))) (sSet 3 (mBin vAdd (mVar 3) (mBin vMulI (mVar 5) (mBin vIx (mVar 1) (mBin vSub (mVar 2) (mVar 4))))))))) (sEx (mLM2 lAppend (mVar 1) (aCons (mVar 3) aNil)))))) (sRet (mBin vIx (mVar 1) (mVar 0)))))
def f__law_ranks : Fn := mkFn 7 .drop b__law_ranks
abbrev st__law_ranks : Stmt := top 44
theorem sc__law_ranks : FnScope ["many", "found", "more", "total", "first", "ways", "at"] ["many"] (defScope st__law_ranks) := ⟨rfl, rfl, rfl, by decide +kernel, rfl, by decide +kernel, by decide +kernel⟩
theorem ok__law_ranks {P : Program} {w : World} {K : PySem.W.Frag} {mg : Str → Option Value} {base : Heap} {f : Addr} {fd : FuncData} (F : FnP K "_law_ranks" st__law_ranks f fd) (G : Glb K mg)  : FnOk P w K mg base CX0 1 f fd ["many"] (spF P w K 1 f__law_ranks) := by
  have S := sc__law_ranks
  refine fn_mk (N := ["many", "found", "more", "total", "first", "ways", "at"]) (ps := ["many"]) (k := 0) (gc := .drop) (m := b__law_ranks) F S fun cdv A outer s H E hr => ?_
  have hu := room_u80 hr
  refine ss_cons ?_ ?_
  · skip
    exact ss_set (i := 1) S.nd (se_new (sf_lst (sa_cons se_int sa_nil)))
  refine ss_cons ?_ ?_
  · skip
    refine ss_for PassesOwn.never rfl (si_range2 se_int (se_add (se_var (i := 0)) se_int) G.range) (sg_name (i := 2) S.nd) ?_
    · skip
      refine ss_cons ?_ ?_
      · skip
        exact ss_set (i := 3) S.nd se_int
      refine ss_cons ?_ ?_
      · skip
        refine ss_for PassesOwn.never rfl (si_range2 se_int (se_add (se_var (i := 2)) se_int) G.range) (sg_name (i := 4) S.nd) ?_
        · skip
          refine ss_cons ?_ ?_
          · skip
            exact ss_set (i := 5) S.nd se_int
          refine ss_cons ?_ ?_
          · skip
            refine ss_for PassesOwn.never rfl (si_range1 (se_var (i := 4)) G.range) (sg_name (i := 6) S.nd) ?_
            · skip
              refine ss_one ?_
              exact ss_set (i := 5) S.nd (se_fdiv (se_mul (se_var (i := 5)) (se_sub (se_var (i := 2)) (se_var (i := 6)))) (se_add (se_var (i := 6)) se_int))
          refine ss_one ?_
          exact ss_set (i := 3) S.nd (se_add (se_var (i := 3)) (se_mul (se_var (i := 5)) (se_ix hu (se_var (i := 1)) (se_sub (se_var (i := 2)) (se_var (i := 4))))))
      refine ss_one ?_
      exact ss_ex (se_append (se_var (i := 1)) (sa_cons (se_var (i := 3)) sa_nil))
  refine ss_one ?_
  exact ss_ret (se_ix hu (se_var (i := 1)) (se_var (i := 0)))

abbrev b_is_tuple : MS := (sRet (mAnd (mIsi "tuple" (mVar 0)) (mChain vLe vLe (mVar 1) (mB bLen (aCons (mVar 0) aNil)) (mVar 2))))
def f_is_tuple : Fn := mkFn 3 .drop b_is_tuple
abbrev st_is_tuple : Stmt := top 2
theorem sc_is_tuple : FnScope ["value", "least", "most"] ["value", "least", "most"] (defScope st_is_tuple) := ⟨rfl, rfl, rfl, by decide +kernel, rfl, by decide +kernel, by decide +kernel⟩
theorem ok_is_tuple {P : Program} {w : World} {K : PySem.W.Frag} {mg : Str → Option Value} {base : Heap} {f : Addr} {fd : FuncData} (F : FnP K "is_tuple" st_is_tuple f fd) (G : Glb K mg)  : FnOk P w K mg base CX0 1 f fd ["value", "least", "most"] (spF P w K 3 f_is_tuple) := by
  have S := sc_is_tuple
  refine fn_mk (N := ["value", "least", "most"]) (ps := ["value", "least", "most"]) (k := 0) (gc := .drop) (m := b_is_tuple) F S fun cdv A outer s H E hr => ?_
  have hu := room_u80 hr
  refine ss_one ?_
  exact ss_ret (se_and (se_isi (n := "tuple") (se_var (i := 0)) G.isinstance G.tuple) (se_one (se_leLe (se_var (i := 1)) (se_len (sa_cons (se_var (i := 0)) sa_nil) G.len) (se_var (i := 2)))))

abbrev b_is_integer : MS := (sRet (mAnd (mIsi "int" (mVar 0)) (mAnd (mNot (mIsi "bool" (mVar 0))) (mChain vLe vLe (mVar 1) (mVar 0) (mVar 2)))))
def f_is_integer : Fn := mkFn 3 .drop b_is_integer
abbrev st_is_integer : Stmt := top 1
theorem sc_is_integer : FnScope ["value", "low", "high"] ["value", "low", "high"] (defScope st_is_integer) := ⟨rfl, rfl, rfl, by decide +kernel, rfl, by decide +kernel, by decide +kernel⟩
theorem ok_is_integer {P : Program} {w : World} {K : PySem.W.Frag} {mg : Str → Option Value} {base : Heap} {f : Addr} {fd : FuncData} (F : FnP K "is_integer" st_is_integer f fd) (G : Glb K mg)  : FnOk P w K mg base CX0 1 f fd ["value", "low", "high"] (spF P w K 3 f_is_integer) := by
  have S := sc_is_integer
  refine fn_mk (N := ["value", "low", "high"]) (ps := ["value", "low", "high"]) (k := 0) (gc := .drop) (m := b_is_integer) F S fun cdv A outer s H E hr => ?_
  have hu := room_u80 hr
  refine ss_one ?_
  exact ss_ret (se_and (se_isi (n := "int") (se_var (i := 0)) G.isinstance G.int) (se_and (se_not (se_isi (n := "bool") (se_var (i := 0)) G.isinstance G.bool)) (se_one (se_leLe (se_var (i := 1)) (se_var (i := 0)) (se_var (i := 2))))))

abbrev b_is_ascending : MS := (sSeq (sIf (tOrM (tNotM (tOf (mCall 3 f_is_tuple (aCons (mVar 0) (aCons (mC (.int 0)) (aCons (mBin vAdd (mBin vSub (mVar 2) (mVar 1)) (mC (.int 1))) aNil)))))) (tNotM (tOf (mB bAll (aCons (mFz (fLc (([("one", 3)] : List (Str × Nat)).map (·.2)) (iSeq (mVar 0)) (gNameM 3) tYesM (mCall 3 f_is_integer (aCons (mVar 3) (aCons (mVar 1) (aCons (mVar 2) aNil)))))) aNil))))) (sRet (mC (.bl false))) sNext) (sRet (mB bAll (aCons (mFz (fLc (([("one", 3), ("other", 4)] : List (Str × Nat)).map (·.2)) (iZip (aCons (mVar 0) (aCons (mSl (mVar 0) (oSome (mC (.int 1))) oNone) aNil))) (gTupM (gConsM (gNameM 3) (gConsM (gNameM 4) gNilM))) tYesM (mBin vLt (mVar 3) (mVar 4)))) aNil))))
def f_is_ascending : Fn := mkFn 5 .drop b_is_ascending
abbrev st_is_ascending : Stmt := top 3
theorem sc_is_ascending : FnScope ["value", "low", "high", "one", "other"] ["value", "low", "high"] (defScope st_is_ascending) := ⟨rfl, rfl, rfl, by decide +kernel, rfl, by decide +kernel, by decide +kernel⟩
theorem ok_is_ascending {P : Program} {w : World} {K : PySem.W.Frag} {mg : Str → Option Value} {base : Heap} {f : Addr} {fd : FuncData} (F : FnP K "is_ascending" st_is_ascending f fd) (G : Glb K mg) {a_is_tuple : Addr} {d_is_tuple : FuncData} {ps_is_tuple : List Str} (D_is_tuple : Def P w K mg base 1 "is_tuple" 3 f_is_tuple a_is_tuple d_is_tuple ps_is_tuple) {a_is_integer : Addr} {d_is_integer : FuncData} {ps_is_integer : List Str} (D_is_integer : Def P w K mg base 1 "is_integer" 3 f_is_integer a_is_integer d_is_integer ps_is_integer) : FnOk P w K mg base CX0 2 f fd ["value", "low", "high"] (spF P w K 3 f_is_ascending) := by
  have S := sc_is_ascending
  refine fn_mk (N := ["value", "low", "high", "one", "other"]) (ps := ["value", "low", "high"]) (k := 1) (gc := .drop) (m := b_is_ascending) F S fun cdv A outer s H E hr => ?_
  have hu := room_u80 hr
  refine ss_cons ?_ ?_
  · skip
    refine ss_if (st_bool (sw_or (st_not (st_val (se_callD D_is_tuple hr (sa_cons (se_var (i := 0)) (sa_cons se_int (sa_cons (se_add (se_sub (se_var (i := 2)) (se_var (i := 1))) se_int) sa_nil)))))) (sw_or1 (st_not (st_val (se_all rfl (sa_cons (se_fz (sf_lc (own := [("one", 3)]) rfl S.nd (si_seq (se_var (i := 0))) (blkOk_by (N := ["value", "low", "high", "one", "other"]) (sc := defScope st_is_ascending) (by decide +kernel)) (fun _ _ _ _ _ => (sg_name (i := 3) S.nd)) (fun _ _ _ _ _ => sts_nil) (fun _ _ _ _ _ => (se_callD D_is_integer hr (sa_cons (se_var (i := 3)) (sa_cons (se_var (i := 1)) (sa_cons (se_var (i := 2)) sa_nil))))))) sa_nil) G.all)))))) ?_ ?_
    · skip
      refine ss_one ?_
      exact ss_ret se_bl
    · skip
      exact ss_nil
  refine ss_one ?_
  exact ss_ret (se_all rfl (sa_cons (se_fz (sf_lc (own := [("one", 3), ("other", 4)]) rfl S.nd (si_zip (sa_cons (se_var (i := 0)) (sa_cons (se_slice (se_var (i := 0)) (so_some se_int) so_none) sa_nil)) G.zip) (blkOk_by (N := ["value", "low", "high", "one", "other"]) (sc := defScope st_is_ascending) (by decide +kernel)) (fun _ _ _ _ _ => (sg_tup (n := 2) rfl (sgs_cons (sg_name (i := 3) S.nd) (sgs_cons (sg_name (i := 4) S.nd) sgs_nil)) (gCons_len (gCons_len gNil_len)))) (fun _ _ _ _ _ => sts_nil) (fun _ _ _ _ _ => (se_lt (se_var (i := 3)) (se_var (i := 4)))))) sa_nil) G.all)

abbrev b_is_group : MS := (sRet (mAnd (mCall 3 f_is_ascending (aCons (mVar 0) (aCons (mC (.int 0)) (aCons (mC (.int 9)) aNil)))) (mBin vNe (mVar 0) (mTup aNil))))
def f_is_group : Fn := mkFn 1 .drop b_is_group
abbrev st_is_group : Stmt := top 23
theorem sc_is_group : FnScope ["value"] ["value"] (defScope st_is_group) := ⟨rfl, rfl, rfl, by decide +kernel, rfl, by decide +kernel, by decide +kernel⟩
theorem ok_is_group {P : Program} {w : World} {K : PySem.W.Frag} {mg : Str → Option Value} {base : Heap} {f : Addr} {fd : FuncData} (F : FnP K "is_group" st_is_group f fd) (G : Glb K mg) {a_is_ascending : Addr} {d_is_ascending : FuncData} {ps_is_ascending : List Str} (D_is_ascending : Def P w K mg base 2 "is_ascending" 3 f_is_ascending a_is_ascending d_is_ascending ps_is_ascending) : FnOk P w K mg base CX0 3 f fd ["value"] (spF P w K 1 f_is_group) := by
  have S := sc_is_group
  obtain ⟨u_MOST_CLOCK, hm_MOST_CLOCK, hc_MOST_CLOCK⟩ := G.MOST_CLOCK
  refine fn_mk (N := ["value"]) (ps := ["value"]) (k := 2) (gc := .drop) (m := b_is_group) F S fun cdv A outer s H E hr => ?_
  have hu := room_u80 hr
  refine ss_one ?_
  exact ss_ret (se_and (se_callD D_is_ascending hr (sa_cons (se_var (i := 0)) (sa_cons se_int (sa_cons (se_glob hm_MOST_CLOCK hc_MOST_CLOCK) sa_nil)))) (se_one (se_ne hu (se_var (i := 0)) (se_tup sa_nil))))

abbrev b_is_order : MS := (sSeq (sIf (tOrM (tNotM (tOf (mCall 3 f_is_tuple (aCons (mVar 0) (aCons (mC (.int 0)) (aCons (mBin vAdd (mC (.int 9)) (mC (.int 1))) aNil)))))) (tNotM (tOf (mB bAll (aCons (mFz (fLc (([("group", 2)] : List (Str × Nat)).map (·.2)) (iSeq (mVar 0)) (gNameM 2) tYesM (mCall 1 f_is_group (aCons (mVar 2) aNil)))) aNil))))) (sRet (mC (.bl false))) sNext) (sSeq (sSet 1 (mKeep .fz (fLc2 (([("group", 2), ("clock", 3)] : List (Str × Nat)).map (·.2)) (iSeq (mVar 0)) (gNameM 2) tYesM (iSeq (mVar 2)) [3] (gNameM 3) tYesM (mVar 3)))) (sRet (mBin vEq (mB bLen (aCons (mDc (([("clock", 3)] : List (Str × Nat)).map (·.2)) (iSeq (mVar 1)) (gNameM 3) tYesM (mVar 3) (mC (.bl true))) aNil)) (mB bLen (aCons (mVar 1) aNil))))))
def f_is_order : Fn := mkFn 4 .drop b_is_order
abbrev st_is_order : Stmt := top 24
theorem sc_is_order : FnScope ["value", "clocks", "group", "clock"] ["value"] (defScope st_is_order) := ⟨rfl, rfl, rfl, by decide +kernel, rfl, by decide +kernel, by decide +kernel⟩
theorem ok_is_order {P : Program} {w : World} {K : PySem.W.Frag} {mg : Str → Option Value} {base : Heap} {f : Addr} {fd : FuncData} (F : FnP K "is_order" st_is_order f fd) (G : Glb K mg) {a_is_tuple : Addr} {d_is_tuple : FuncData} {ps_is_tuple : List Str} (D_is_tuple : Def P w K mg base 1 "is_tuple" 3 f_is_tuple a_is_tuple d_is_tuple ps_is_tuple) {a_is_group : Addr} {d_is_group : FuncData} {ps_is_group : List Str} (D_is_group : Def P w K mg base 3 "is_group" 1 f_is_group a_is_group d_is_group ps_is_group) : FnOk P w K mg base CX0 4 f fd ["value"] (spF P w K 1 f_is_order) := by
  have S := sc_is_order
  obtain ⟨u_MOST_CLOCK, hm_MOST_CLOCK, hc_MOST_CLOCK⟩ := G.MOST_CLOCK
  refine fn_mk (N := ["value", "clocks", "group", "clock"]) (ps := ["value"]) (k := 3) (gc := .drop) (m := b_is_order) F S fun cdv A outer s H E hr => ?_
  have hu := room_u80 hr
  refine ss_cons ?_ ?_
  · skip
    refine ss_if (st_bool (sw_or (st_not (st_val (se_callD D_is_tuple hr (sa_cons (se_var (i := 0)) (sa_cons se_int (sa_cons (se_add (se_glob hm_MOST_CLOCK hc_MOST_CLOCK) se_int) sa_nil)))))) (sw_or1 (st_not (st_val (se_all rfl (sa_cons (se_fz (sf_lc (own := [("group", 2)]) rfl S.nd (si_seq (se_var (i := 0))) (blkOk_by (N := ["value", "clocks", "group", "clock"]) (sc := defScope st_is_order) (by decide +kernel)) (fun _ _ _ _ _ => (sg_name (i := 2) S.nd)) (fun _ _ _ _ _ => sts_nil) (fun _ _ _ _ _ => (se_callD D_is_group hr (sa_cons (se_var (i := 2)) sa_nil))))) sa_nil) G.all)))))) ?_ ?_
    · skip
      refine ss_one ?_
      exact ss_ret se_bl
    · skip
      exact ss_nil
  refine ss_cons ?_ ?_
  · skip
    exact ss_setLc2 (kp := .fz) (i := 1) (own := [("group", 2), ("clock", 3)]) (vs1 := [3]) rfl S.nd (si_seq (se_var (i := 0))) (blkOk_by (N := ["value", "clocks", "group", "clock"]) (sc := defScope st_is_order) (by decide +kernel)) (by decide) (fun _ _ _ _ _ => (sg_name (i := 2) S.nd)) (fun _ _ _ _ _ => sts_nil) (fun _ _ _ _ _ => (si_seq (se_var (i := 2)))) (fun _ _ _ _ _ => (sg_name (i := 3) S.nd)) (fun _ _ _ _ _ => sts_nil) (fun _ _ _ _ _ => (se_var (i := 3)))
  refine ss_one ?_
  exact ss_ret (se_eq hu (se_len (sa_cons (se_dc (own := [("clock", 3)]) hu rfl S.nd (si_seq (se_var (i := 1))) (blkOk_by (N := ["value", "clocks", "group", "clock"]) (sc := defScope st_is_order) (by decide +kernel)) (fun _ _ _ _ _ => (sg_name (i := 3) S.nd)) (fun _ _ _ _ _ => sts_nil) (fun _ _ _ _ _ => (se_var (i := 3))) (fun _ _ _ _ _ => se_bl)) sa_nil) G.len) (se_len (sa_cons (se_var (i := 1)) sa_nil) G.len))

abbrev b_check_order : MS := (sIf (tNotM (tOf (mCall 1 f_is_order (aCons (mVar 0) aNil)))) sStuck sNext)
def f_check_order : Fn := mkFn 1 .drop b_check_order
abbrev st_check_order : Stmt := top 25
theorem sc_check_order : FnScope ["order"] ["order"] (defScope st_check_order) := ⟨rfl, rfl, rfl, by decide +kernel, rfl, by decide +kernel, by decide +kernel⟩
theorem ok_check_order {P : Program} {w : World} {K : PySem.W.Frag} {mg : Str → Option Value} {base : Heap} {f : Addr} {fd : FuncData} (F : FnP K "check_order" st_check_order f fd) (G : Glb K mg) {a_is_order : Addr} {d_is_order : FuncData} {ps_is_order : List Str} (D_is_order : Def P w K mg base 4 "is_order" 1 f_is_order a_is_order d_is_order ps_is_order) : FnOk P w K mg base CX0 5 f fd ["order"] (spF P w K 1 f_check_order) := by
  have S := sc_check_order
  refine fn_mk (N := ["order"]) (ps := ["order"]) (k := 4) (gc := .drop) (m := b_check_order) F S fun cdv A outer s H E hr => ?_
  have hu := room_u80 hr
  refine ss_one ?_
  refine ss_if (st_not (st_val (se_callD D_is_order hr (sa_cons (se_var (i := 0)) sa_nil)))) ?_ ?_
  · skip
    refine ss_one ?_
    exact ss_stuck
  · skip
    exact ss_nil

abbrev b_divisor : MS := (sSeq (sWhile 300 (tOf (mBin vNe (mVar 1) (mC (.int 0)))) (sPar 0 1 (aCons (mVar 1) (aCons (mBin vMod (mVar 0) (mVar 1)) aNil)))) (sRet (mVar 0)))
def f_divisor : Fn := mkFn 2 .drop b_divisor
abbrev st_divisor : Stmt := top 14
theorem sc_divisor : FnScope ["one", "other"] ["one", "other"] (defScope st_divisor) := ⟨rfl, rfl, rfl, by decide +kernel, rfl, by decide +kernel, by decide +kernel⟩
theorem ok_divisor {P : Program} {w : World} {K : PySem.W.Frag} {mg : Str → Option Value} {base : Heap} {f : Addr} {fd : FuncData} (F : FnP K "divisor" st_divisor f fd) (G : Glb K mg)  : FnOk P w K mg base CX0 1 f fd ["one", "other"] (spF P w K 2 f_divisor) := by
  have S := sc_divisor
  refine fn_mk (N := ["one", "other"]) (ps := ["one", "other"]) (k := 0) (gc := .drop) (m := b_divisor) F S fun cdv A outer s H E hr => ?_
  have hu := room_u80 hr
  refine ss_cons ?_ ?_
  · skip
    refine ss_while PassesOwn.never (st_ne hu (se_var (i := 1)) se_int) ?_
    · skip
      refine ss_one ?_
      exact ss_par (i := 0) (j := 1) rfl S.nd (sa_cons (se_var (i := 1)) (sa_cons (se_mod (se_var (i := 0)) (se_var (i := 1))) sa_nil))
  refine ss_one ?_
  exact ss_ret (se_var (i := 0))

abbrev b_lowest : MS := (sSeq (sSet 2 (mCall 2 f_divisor (aCons (mVar 0) (aCons (mVar 1) aNil)))) (sRet (mTup (aCons (mBin vFloorDiv (mVar 0) (mVar 2)) (aCons (mBin vFloorDiv (mVar 1) (mVar 2)) aNil)))))
def f_lowest : Fn := mkFn 3 .drop b_lowest
abbrev st_lowest : Stmt := top 16
theorem sc_lowest : FnScope ["over", "under", "common"] ["over", "under"] (defScope st_lowest) := ⟨rfl, rfl, rfl, by decide +kernel, rfl, by decide +kernel, by decide +kernel⟩
theorem ok_lowest {P : Program} {w : World} {K : PySem.W.Frag} {mg : Str → Option Value} {base : Heap} {f : Addr} {fd : FuncData} (F : FnP K "lowest" st_lowest f fd) (G : Glb K mg) {a_divisor : Addr} {d_divisor : FuncData} {ps_divisor : List Str} (D_divisor : Def P w K mg base 1 "divisor" 2 f_divisor a_divisor d_divisor ps_divisor) : FnOk P w K mg base CX0 2 f fd ["over", "under"] (spF P w K 2 f_lowest) := by
  have S := sc_lowest
  refine fn_mk (N := ["over", "under", "common"]) (ps := ["over", "under"]) (k := 1) (gc := .drop) (m := b_lowest) F S fun cdv A outer s H E hr => ?_
  have hu := room_u80 hr
  refine ss_cons ?_ ?_
  · skip
    exact ss_set (i := 2) S.nd (se_callD D_divisor hr (sa_cons (se_var (i := 0)) (sa_cons (se_var (i := 1)) sa_nil)))
  refine ss_one ?_
  exact ss_ret (se_tup (sa_cons (se_fdiv (se_var (i := 0)) (se_var (i := 2))) (sa_cons (se_fdiv (se_var (i := 1)) (se_var (i := 2))) sa_nil)))

abbrev b_made : MS := (sSeq (sSet 2 (mCall 2 f_lowest (aCons (mVar 0) (aCons (mVar 1) aNil)))) (sSeq (sIf (tOrM (tOf (mBin vGt (mBin vIx (mVar 2) (mC (.int 0))) (mC (.int 10000000000000000000000000000000000000000000000000000000000000000000000000000000000000000000000000000)))) (tOf (mBin vGt (mBin vIx (mVar 2) (mC (.int 1))) (mC (.int 10000000000000000000000000000000000000000000000000000000000000000000000000000000000000000000000000000))))) sStuck sNext) (sRet (mVar 2))))
def f_made : Fn := mkFn 3 .drop b_made
abbrev st_made : Stmt := top 17
theorem sc_made : FnScope ["over", "under", "found"] ["over", "under"] (defScope st_made) := ⟨rfl, rfl, rfl, by decide +kernel, rfl, by decide +kernel, by decide +kernel⟩
theorem ok_made {P : Program} {w : World} {K : PySem.W.Frag} {mg : Str → Option Value} {base : Heap} {f : Addr} {fd : FuncData} (F : FnP K "made" st_made f fd) (G : Glb K mg) {a_lowest : Addr} {d_lowest : FuncData} {ps_lowest : List Str} (D_lowest : Def P w K mg base 2 "lowest" 2 f_lowest a_lowest d_lowest ps_lowest) : FnOk P w K mg base CX0 3 f fd ["over", "under"] (spF P w K 2 f_made) := by
  have S := sc_made
  obtain ⟨u_MOST, hm_MOST, hc_MOST⟩ := G.MOST
  refine fn_mk (N := ["over", "under", "found"]) (ps := ["over", "under"]) (k := 2) (gc := .drop) (m := b_made) F S fun cdv A outer s H E hr => ?_
  have hu := room_u80 hr
  refine ss_cons ?_ ?_
  · skip
    exact ss_set (i := 2) S.nd (se_callD D_lowest hr (sa_cons (se_var (i := 0)) (sa_cons (se_var (i := 1)) sa_nil)))
  refine ss_cons ?_ ?_
  · skip
    refine ss_if (st_bool (sw_or (st_gt (se_ix hu (se_var (i := 2)) se_int) (se_glob hm_MOST hc_MOST)) (sw_or1 (st_gt (se_ix hu (se_var (i := 2)) se_int) (se_glob hm_MOST hc_MOST))))) ?_ ?_
    · skip
      refine ss_one ?_
      exact ss_stuck
    · skip
      exact ss_nil
  refine ss_one ?_
  exact ss_ret (se_var (i := 2))

abbrev b_some_values : MS := (sSeq (sEx (mCall 1 f_check_order (aCons (mVar 0) aNil))) (sSeq (sSet 1 (mNew (fLst aNil))) (sSeq (sFor (iEnum (aCons (mVar 0) aNil)) (gTupM (gConsM (gNameM 2) (gConsM (gNameM 3) gNilM))) (sEx (mLM2 lExtend (mVar 1) (aCons (mFz (fLc (([("clock", 4)] : List (Str × Nat)).map (·.2)) (iSeq (mVar 3)) (gNameM 4) tYesM (mTup (aCons (mVar 4) (aCons (mCall 2 f_made (aCons (mBin vAdd (mVar 2) (mC (.int 1))) (aCons (mBin vAdd (mB bLen (aCons (mVar 0) aNil)) (mC (.int 1))) aNil))) aNil))))) aNil)))) (sRet (mB bTpl (aCons (mFz (fB (bOr bSorted bSortedD) (aCons (mVar 1) aNil))) aNil))))))
def f_some_values : Fn := mkFn 5 .drop b_some_values
abbrev st_some_values : Stmt := top 37
theorem sc_some_values : FnScope ["order", "found", "number", "group", "clock"] ["order"] (defScope st_some_values) := ⟨rfl, rfl, rfl, by decide +kernel, rfl, by decide +kernel, by decide +kernel⟩
theorem ok_some_values {P : Program} {w : World} {K : PySem.W.Frag} {mg : Str → Option Value} {base : Heap} {f : Addr} {fd : FuncData} (F : FnP K "some_values" st_some_values f fd) (G : Glb K mg) {a_check_order : Addr} {d_check_order : FuncData} {ps_check_order : List Str} (D_check_order : Def P w K mg base 5 "check_order" 1 f_check_order a_check_order d_check_order ps_check_order) {a_made : Addr} {d_made : FuncData} {ps_made : List Str} (D_made : Def P w K mg base 3 "made" 2 f_made a_made d_made ps_made) : FnOk P w K mg base CX0 6 f fd ["order"] (spF P w K 1 f_some_values) := by
  have S := sc_some_values
  refine fn_mk (N := ["order", "found", "number", "group", "clock"]) (ps := ["order"]) (k := 5) (gc := .drop) (m := b_some_values) F S fun cdv A outer s H E hr => ?_
  have hu := room_u80 hr
  refine ss_cons ?_ ?_
  · skip
    exact ss_ex (se_callD D_check_order hr (sa_cons (se_var (i := 0)) sa_nil))
  refine ss_cons ?_ ?_
  · skip
    exact ss_set (i := 1) S.nd (se_new (sf_lst sa_nil))
  refine ss_cons ?_ ?_
  · skip
    refine ss_for PassesOwn.never rfl (si_enum (sa_cons (se_var (i := 0)) sa_nil) G.enumerate) (sg_tup (n := 2) rfl (sgs_cons (sg_name (i := 2) S.nd) (sgs_cons (sg_name (i := 3) S.nd) sgs_nil)) (gCons_len (gCons_len gNil_len))) ?_
    · skip
      refine ss_one ?_
      exact ss_ex (se_extend (se_var (i := 1)) (sa_cons (se_fz (sf_lc (own := [("clock", 4)]) rfl S.nd (si_seq (se_var (i := 3))) (blkOk_by (N := ["order", "found", "number", "group", "clock"]) (sc := defScope st_some_values) (by decide +kernel)) (fun _ _ _ _ _ => (sg_name (i := 4) S.nd)) (fun _ _ _ _ _ => sts_nil) (fun _ _ _ _ _ => (se_tup (sa_cons (se_var (i := 4)) (sa_cons (se_callD D_made hr (sa_cons (se_add (se_var (i := 2)) se_int) (sa_cons (se_add (se_len (sa_cons (se_var (i := 0)) sa_nil) G.len) se_int) sa_nil))) sa_nil)))))) sa_nil))
  refine ss_one ?_
  exact ss_ret (se_tplOf (sa_cons (se_fz (sf_sortedA hu rfl (sa_cons (se_var (i := 1)) sa_nil) G.sorted)) sa_nil) G.tuple)

abbrev b_check_clocks : MS := (sIf (tNotM (tOf (mCall 3 f_is_ascending (aCons (mVar 0) (aCons (mC (.int 0)) (aCons (mC (.int 9)) aNil)))))) sStuck sNext)
def f_check_clocks : Fn := mkFn 1 .drop b_check_clocks
abbrev st_check_clocks : Stmt := top 26
theorem sc_check_clocks : FnScope ["clocks"] ["clocks"] (defScope st_check_clocks) := ⟨rfl, rfl, rfl, by decide +kernel, rfl, by decide +kernel, by decide +kernel⟩
theorem ok_check_clocks {P : Program} {w : World} {K : PySem.W.Frag} {mg : Str → Option Value} {base : Heap} {f : Addr} {fd : FuncData} (F : FnP K "check_clocks" st_check_clocks f fd) (G : Glb K mg) {a_is_ascending : Addr} {d_is_ascending : FuncData} {ps_is_ascending : List Str} (D_is_ascending : Def P w K mg base 2 "is_ascending" 3 f_is_ascending a_is_ascending d_is_ascending ps_is_ascending) : FnOk P w K mg base CX0 3 f fd ["clocks"] (spF P w K 1 f_check_clocks) := by
  have S := sc_check_clocks
  obtain ⟨u_MOST_CLOCK, hm_MOST_CLOCK, hc_MOST_CLOCK⟩ := G.MOST_CLOCK
  refine fn_mk (N := ["clocks"]) (ps := ["clocks"]) (k := 2) (gc := .drop) (m := b_check_clocks) F S fun cdv A outer s H E hr => ?_
  have hu := room_u80 hr
  refine ss_one ?_
  refine ss_if (st_not (st_val (se_callD D_is_ascending hr (sa_cons (se_var (i := 0)) (sa_cons se_int (sa_cons (se_glob hm_MOST_CLOCK hc_MOST_CLOCK) sa_nil)))))) ?_ ?_
  · skip
    refine ss_one ?_
    exact ss_stuck
  · skip
    exact ss_nil

abbrev b_oldest_of : MS := (sRet (mIf (tOf (mBin vNe (mVar 0) (mTup aNil))) (mBin vIx (mVar 0) (mNeg (mC (.int 1)))) (mTup aNil)))
def f_oldest_of : Fn := mkFn 1 .drop b_oldest_of
abbrev st_oldest_of : Stmt := top 29
theorem sc_oldest_of : FnScope ["order"] ["order"] (defScope st_oldest_of) := ⟨rfl, rfl, rfl, by decide +kernel, rfl, by decide +kernel, by decide +kernel⟩
theorem ok_oldest_of {P : Program} {w : World} {K : PySem.W.Frag} {mg : Str → Option Value} {base : Heap} {f : Addr} {fd : FuncData} (F : FnP K "oldest_of" st_oldest_of f fd) (G : Glb K mg)  : FnOk P w K mg base CX0 1 f fd ["order"] (spF P w K 1 f_oldest_of) := by
  have S := sc_oldest_of
  refine fn_mk (N := ["order"]) (ps := ["order"]) (k := 0) (gc := .drop) (m := b_oldest_of) F S fun cdv A outer s H E hr => ?_
  have hu := room_u80 hr
  refine ss_one ?_
  exact ss_ret (se_if (st_ne hu (se_var (i := 0)) (se_tup sa_nil)) (se_ix hu (se_var (i := 0)) (se_neg se_int)) (se_tup sa_nil))

abbrev b_at_one : MS := (sRet (mIf (tOf (mBin vEq (mVar 1) (mC (.str "at")))) (mCall 1 f_oldest_of (aCons (mVar 0) aNil)) (mTup aNil)))
def f_at_one : Fn := mkFn 2 .drop b_at_one
abbrev st_at_one : Stmt := top 31
theorem sc_at_one : FnScope ["order", "way"] ["order", "way"] (defScope st_at_one) := ⟨rfl, rfl, rfl, by decide +kernel, rfl, by decide +kernel, by decide +kernel⟩
theorem ok_at_one {P : Program} {w : World} {K : PySem.W.Frag} {mg : Str → Option Value} {base : Heap} {f : Addr} {fd : FuncData} (F : FnP K "at_one" st_at_one f fd) (G : Glb K mg) {a_oldest_of : Addr} {d_oldest_of : FuncData} {ps_oldest_of : List Str} (D_oldest_of : Def P w K mg base 1 "oldest_of" 1 f_oldest_of a_oldest_of d_oldest_of ps_oldest_of) : FnOk P w K mg base CX0 2 f fd ["order", "way"] (spF P w K 2 f_at_one) := by
  have S := sc_at_one
  obtain ⟨u_AT, hm_AT, hc_AT⟩ := G.AT
  refine fn_mk (N := ["order", "way"]) (ps := ["order", "way"]) (k := 1) (gc := .drop) (m := b_at_one) F S fun cdv A outer s H E hr => ?_
  have hu := room_u80 hr
  refine ss_one ?_
  exact ss_ret (se_if (st_eq hu (se_var (i := 1)) (se_glob hm_AT hc_AT)) (se_callD D_oldest_of hr (sa_cons (se_var (i := 0)) sa_nil)) (se_tup sa_nil))

abbrev b_behind_of : MS := (sSeq (sSet 4 (mFz (fLst (aStar (mCall 2 f_at_one (aCons (mVar 0) (aCons (mVar 1) aNil))) (aStar (mVar 2) (aStar (mVar 3) aNil)))))) (sSeq (sSet 5 (mIf (tOf (mBin vNe (mVar 2) (mTup aNil))) (mNew (fLst (aCons (mVar 2) aNil))) (mNew (fLst aNil)))) (sSeq (sFor (iSeq (mVar 0)) (gNameM 6) (sSeq (sSet 7 (mB bTuple (aCons (mFz (fLc (([("clock", 8)] : List (Str × Nat)).map (·.2)) (iSeq (mVar 6)) (gNameM 8) (tOf (mBin vNotIn (mVar 8) (mVar 4))) (mVar 8))) aNil))) (sEx (mLM2 lExtend (mVar 5) (aCons (mIf (tOf (mBin vNe (mVar 7) (mTup aNil))) (mFz (fLst (aCons (mVar 7) aNil))) (mFz (fLst aNil))) aNil))))) (sRet (mB bTuple (aCons (mVar 5) aNil))))))
def f_behind_of : Fn := mkFn 9 .drop b_behind_of
abbrev st_behind_of : Stmt := top 32
theorem sc_behind_of : FnScope ["order", "way", "reset", "dropped", "gone", "found", "group", "left", "clock"] ["order", "way", "reset", "dropped"] (defScope st_behind_of) := ⟨rfl, rfl, rfl, by decide +kernel, rfl, by decide +kernel, by decide +kernel⟩
theorem ok_behind_of {P : Program} {w : World} {K : PySem.W.Frag} {mg : Str → Option Value} {base : Heap} {f : Addr} {fd : FuncData} (F : FnP K "behind_of" st_behind_of f fd) (G : Glb K mg) {a_at_one : Addr} {d_at_one : FuncData} {ps_at_one : List Str} (D_at_one : Def P w K mg base 2 "at_one" 2 f_at_one a_at_one d_at_one ps_at_one) : FnOk P w K mg base CX0 3 f fd ["order", "way", "reset", "dropped"] (spF P w K 4 f_behind_of) := by
  have S := sc_behind_of
  refine fn_mk (N := ["order", "way", "reset", "dropped", "gone", "found", "group", "left", "clock"]) (ps := ["order", "way", "reset", "dropped"]) (k := 2) (gc := .drop) (m := b_behind_of) F S fun cdv A outer s H E hr => ?_
  have hu := room_u80 hr
  refine ss_cons ?_ ?_
  · skip
    exact ss_set (i := 4) S.nd (se_fz (sf_lst (sa_star (se_callD D_at_one hr (sa_cons (se_var (i := 0)) (sa_cons (se_var (i := 1)) sa_nil))) (sa_star (se_var (i := 2)) (sa_star (se_var (i := 3)) sa_nil)))))
  refine ss_cons ?_ ?_
  · skip
    exact ss_set (i := 5) S.nd (se_if (st_ne hu (se_var (i := 2)) (se_tup sa_nil)) (se_new (sf_lst (sa_cons (se_var (i := 2)) sa_nil))) (se_new (sf_lst sa_nil)))
  refine ss_cons ?_ ?_
  · skip
    refine ss_for PassesOwn.never rfl (si_seq (se_var (i := 0))) (sg_name (i := 6) S.nd) ?_
    · skip
      refine ss_cons ?_ ?_
      · skip
        exact ss_set (i := 7) S.nd (se_tupleOf (sa_cons (se_fz (sf_lc (own := [("clock", 8)]) rfl S.nd (si_seq (se_var (i := 6))) (blkOk_by (N := ["order", "way", "reset", "dropped", "gone", "found", "group", "left", "clock"]) (sc := defScope st_behind_of) (by decide +kernel)) (fun _ _ _ _ _ => (sg_name (i := 8) S.nd)) (fun _ _ _ _ _ => (sts_one (st_notIn hu (se_var (i := 8)) (se_var (i := 4))))) (fun _ _ _ _ _ => (se_var (i := 8))))) sa_nil) G.tuple)
      refine ss_one ?_
      exact ss_ex (se_extend (se_var (i := 5)) (sa_cons (se_if (st_ne hu (se_var (i := 7)) (se_tup sa_nil)) (se_fz (sf_lst (sa_cons (se_var (i := 7)) sa_nil))) (se_fz (sf_lst sa_nil))) sa_nil))
  refine ss_one ?_
  exact ss_ret (se_tupleOf (sa_cons (se_var (i := 5)) sa_nil) G.tuple)

abbrev b_orders_from : MS := (sSeq (sEx (mCall 1 f_check_order (aCons (mVar 0) aNil))) (sSeq (sEx (mCall 1 f_check_clocks (aCons (mVar 1) aNil))) (sSeq (sSet 2 (mIf (tOf (mBin vNe (mVar 0) (mTup aNil))) (mTup (aCons (mC (.str "at")) (aCons (mC (.str "in")) aNil))) (mTup (aCons (mC (.str "in")) aNil)))) (sRet (mB bTuple (aCons (mFz (fB (bOr bSorted bSortedD) (aCons (mDc (([("way", 3)] : List (Str × Nat)).map (·.2)) (iSeq (mVar 2)) (gNameM 3) tYesM (mCall 4 f_behind_of (aCons (mVar 0) (aCons (mVar 3) (aCons (mVar 1) (aCons (mTup aNil) aNil))))) (mC (.bl true))) aNil))) aNil))))))
def f_orders_from : Fn := mkFn 4 .drop b_orders_from
abbrev st_orders_from : Stmt := top 33
theorem sc_orders_from : FnScope ["order", "reset", "ways", "way"] ["order", "reset"] (defScope st_orders_from) := ⟨rfl, rfl, rfl, by decide +kernel, rfl, by decide +kernel, by decide +kernel⟩
theorem ok_orders_from {P : Program} {w : World} {K : PySem.W.Frag} {mg : Str → Option Value} {base : Heap} {f : Addr} {fd : FuncData} (F : FnP K "orders_from" st_orders_from f fd) (G : Glb K mg) {a_check_order : Addr} {d_check_order : FuncData} {ps_check_order : List Str} (D_check_order : Def P w K mg base 5 "check_order" 1 f_check_order a_check_order d_check_order ps_check_order) {a_check_clocks : Addr} {d_check_clocks : FuncData} {ps_check_clocks : List Str} (D_check_clocks : Def P w K mg base 3 "check_clocks" 1 f_check_clocks a_check_clocks d_check_clocks ps_check_clocks) {a_behind_of : Addr} {d_behind_of : FuncData} {ps_behind_of : List Str} (D_behind_of : Def P w K mg base 3 "behind_of" 4 f_behind_of a_behind_of d_behind_of ps_behind_of) : FnOk P w K mg base CX0 6 f fd ["order", "reset"] (spF P w K 2 f_orders_from) := by
  have S := sc_orders_from
  obtain ⟨u_AT, hm_AT, hc_AT⟩ := G.AT
  obtain ⟨u_IN, hm_IN, hc_IN⟩ := G.IN
  refine fn_mk (N := ["order", "reset", "ways", "way"]) (ps := ["order", "reset"]) (k := 5) (gc := .drop) (m := b_orders_from) F S fun cdv A outer s H E hr => ?_
  have hu := room_u80 hr
  refine ss_cons ?_ ?_
  · skip
    exact ss_ex (se_callD D_check_order hr (sa_cons (se_var (i := 0)) sa_nil))
  refine ss_cons ?_ ?_
  · skip
    exact ss_ex (se_callD D_check_clocks hr (sa_cons (se_var (i := 1)) sa_nil))
  refine ss_cons ?_ ?_
  · skip
    exact ss_set (i := 2) S.nd (se_if (st_ne hu (se_var (i := 0)) (se_tup sa_nil)) (se_tup (sa_cons (se_glob hm_AT hc_AT) (sa_cons (se_glob hm_IN hc_IN) sa_nil))) (se_tup (sa_cons (se_glob hm_IN hc_IN) sa_nil)))
  refine ss_one ?_
  exact ss_ret (se_tupleOf (sa_cons (se_fz (sf_sortedA hu rfl (sa_cons (se_dc (own := [("way", 3)]) hu rfl S.nd (si_seq (se_var (i := 2))) (blkOk_by (N := ["order", "reset", "ways", "way"]) (sc := defScope st_orders_from) (by decide +kernel)) (fun _ _ _ _ _ => (sg_name (i := 3) S.nd)) (fun _ _ _ _ _ => sts_nil) (fun _ _ _ _ _ => (se_callD D_behind_of hr (sa_cons (se_var (i := 0)) (sa_cons (se_var (i := 3)) (sa_cons (se_var (i := 1)) (sa_cons (se_tup sa_nil) sa_nil)))))) (fun _ _ _ _ _ => se_bl)) sa_nil) G.sorted)) sa_nil) G.tuple)

abbrev b_is_before : MS := (sRet (mBin vLt (mBin vMulI (mBin vIx (mVar 0) (mC (.int 0))) (mBin vIx (mVar 1) (mC (.int 1)))) (mBin vMulI (mBin vIx (mVar 1) (mC (.int 0))) (mBin vIx (mVar 0) (mC (.int 1))))))
def f_is_before : Fn := mkFn 2 .drop b_is_before
abbrev st_is_before : Stmt := top 18
theorem sc_is_before : FnScope ["one", "other"] ["one", "other"] (defScope st_is_before) := ⟨rfl, rfl, rfl, by decide +kernel, rfl, by decide +kernel, by decide +kernel⟩
theorem ok_is_before {P : Program} {w : World} {K : PySem.W.Frag} {mg : Str → Option Value} {base : Heap} {f : Addr} {fd : FuncData} (F : FnP K "is_before" st_is_before f fd) (G : Glb K mg)  : FnOk P w K mg base CX0 1 f fd ["one", "other"] (spF P w K 2 f_is_before) := by
  have S := sc_is_before
  refine fn_mk (N := ["one", "other"]) (ps := ["one", "other"]) (k := 0) (gc := .drop) (m := b_is_before) F S fun cdv A outer s H E hr => ?_
  have hu := room_u80 hr
  refine ss_one ?_
  exact ss_ret (se_lt (se_mul (se_ix hu (se_var (i := 0)) se_int) (se_ix hu (se_var (i := 1)) se_int)) (se_mul (se_ix hu (se_var (i := 1)) se_int) (se_ix hu (se_var (i := 0)) se_int)))

abbrev b_do_values_fit : MS := (sSeq (sAsg (gTupM (gConsM (gNameM 2) (gConsM (gNameM 3) gNilM))) (mTup (aCons (mB bDict (aCons (mVar 1) aNil)) (aCons (mC (.tup [(.int 0), (.int 1)])) aNil)))) (sSeq (sFor (iSeq (mVar 0)) (gNameM 4) (sSeq (sSet 5 (mBin vIx (mVar 2) (mBin vIx (mVar 4) (mC (.int 0))))) (sSeq (sIf (tOrM (tOf (mB bAny (aCons (mFz (fLc (([("clock", 6)] : List (Str × Nat)).map (·.2)) (iSeq (mVar 4)) (gNameM 6) tYesM (mBin vNe (mBin vIx (mVar 2) (mVar 6)) (mVar 5)))) aNil))) (tNotM (tOf (mCall 2 f_is_before (aCons (mVar 3) (aCons (mVar 5) aNil)))))) (sRet (mC (.bl false))) sNext) (sSet 3 (mVar 5))))) (sRet (mCall 2 f_is_before (aCons (mVar 3) (aCons (mC (.tup [(.int 1), (.int 1)])) aNil))))))
def f_do_values_fit : Fn := mkFn 7 .drop b_do_values_fit
abbrev st_do_values_fit : Stmt := top 35
theorem sc_do_values_fit : FnScope ["order", "values", "table", "last", "group", "here", "clock"] ["order", "values"] (defScope st_do_values_fit) := ⟨rfl, rfl, rfl, by decide +kernel, rfl, by decide +kernel, by decide +kernel⟩
theorem ok_do_values_fit {P : Program} {w : World} {K : PySem.W.Frag} {mg : Str → Option Value} {base : Heap} {f : Addr} {fd : FuncData} (F : FnP K "do_values_fit" st_do_values_fit f fd) (G : Glb K mg) {a_is_before : Addr} {d_is_before : FuncData} {ps_is_before : List Str} (D_is_before : Def P w K mg base 1 "is_before" 2 f_is_before a_is_before d_is_before ps_is_before) : FnOk P w K mg base CX0 2 f fd ["order", "values"] (spF P w K 2 f_do_values_fit) := by
  have S := sc_do_values_fit
  obtain ⟨u_ONE, hm_ONE, hc_ONE⟩ := G.ONE
  obtain ⟨u_ZERO, hm_ZERO, hc_ZERO⟩ := G.ZERO
  refine fn_mk (N := ["order", "values", "table", "last", "group", "here", "clock"]) (ps := ["order", "values"]) (k := 1) (gc := .drop) (m := b_do_values_fit) F S fun cdv A outer s H E hr => ?_
  have hu := room_u80 hr
  refine ss_cons ?_ ?_
  · skip
    exact ss_asg (se_tup (sa_cons (se_dictOf rfl (sa_cons (se_var (i := 1)) sa_nil) G.dict) (sa_cons (se_glob hm_ZERO hc_ZERO) sa_nil))) (sg_tup (n := 2) rfl (sgs_cons (sg_name (i := 2) S.nd) (sgs_cons (sg_name (i := 3) S.nd) sgs_nil)) (gCons_len (gCons_len gNil_len)))
  refine ss_cons ?_ ?_
  · skip
    refine ss_for PassesOwn.never rfl (si_seq (se_var (i := 0))) (sg_name (i := 4) S.nd) ?_
    · skip
      refine ss_cons ?_ ?_
      · skip
        exact ss_set (i := 5) S.nd (se_ix hu (se_var (i := 2)) (se_ix hu (se_var (i := 4)) se_int))
      refine ss_cons ?_ ?_
      · skip
        refine ss_if (st_bool (sw_or (st_val (se_any rfl (sa_cons (se_fz (sf_lc (own := [("clock", 6)]) rfl S.nd (si_seq (se_var (i := 4))) (blkOk_by (N := ["order", "values", "table", "last", "group", "here", "clock"]) (sc := defScope st_do_values_fit) (by decide +kernel)) (fun _ _ _ _ _ => (sg_name (i := 6) S.nd)) (fun _ _ _ _ _ => sts_nil) (fun _ _ _ _ _ => (se_ne hu (se_ix hu (se_var (i := 2)) (se_var (i := 6))) (se_var (i := 5)))))) sa_nil) G.any)) (sw_or1 (st_not (st_val (se_callD D_is_before hr (sa_cons (se_var (i := 3)) (sa_cons (se_var (i := 5)) sa_nil)))))))) ?_ ?_
        · skip
          refine ss_one ?_
          exact ss_ret se_bl
        · skip
          exact ss_nil
      refine ss_one ?_
      exact ss_set (i := 3) S.nd (se_var (i := 5))
  refine ss_one ?_
  exact ss_ret (se_callD D_is_before hr (sa_cons (se_var (i := 3)) (sa_cons (se_glob hm_ONE hc_ONE) sa_nil)))

abbrev b_young_of : MS := (sRet (mB bTuple (aCons (mFz (fB (bOr bSorted bSortedD) (aCons (mFz (fLc2 (([("group", 1), ("clock", 2)] : List (Str × Nat)).map (·.2)) (iSeq (mVar 0)) (gNameM 1) tYesM (iSeq (mVar 1)) [2] (gNameM 2) tYesM (mVar 2))) aNil))) aNil)))
def f_young_of : Fn := mkFn 3 .drop b_young_of
abbrev st_young_of : Stmt := top 27
theorem sc_young_of : FnScope ["order", "group", "clock"] ["order"] (defScope st_young_of) := ⟨rfl, rfl, rfl, by decide +kernel, rfl, by decide +kernel, by decide +kernel⟩
theorem ok_young_of {P : Program} {w : World} {K : PySem.W.Frag} {mg : Str → Option Value} {base : Heap} {f : Addr} {fd : FuncData} (F : FnP K "young_of" st_young_of f fd) (G : Glb K mg)  : FnOk P w K mg base CX0 1 f fd ["order"] (spF P w K 1 f_young_of) := by
  have S := sc_young_of
  refine fn_mk (N := ["order", "group", "clock"]) (ps := ["order"]) (k := 0) (gc := .drop) (m := b_young_of) F S fun cdv A outer s H E hr => ?_
  have hu := room_u80 hr
  refine ss_one ?_
  exact ss_ret (se_tupleOf (sa_cons (se_fz (sf_sortedA hu rfl (sa_cons (se_fz (sf_lc2 (own := [("group", 1), ("clock", 2)]) (vs1 := [2]) rfl S.nd (si_seq (se_var (i := 0))) (blkOk_by (N := ["order", "group", "clock"]) (sc := defScope st_young_of) (by decide +kernel)) (by decide) (fun _ _ _ _ _ => (sg_name (i := 1) S.nd)) (fun _ _ _ _ _ => sts_nil) (fun _ _ _ _ _ => (si_seq (se_var (i := 1)))) (fun _ _ _ _ _ => (sg_name (i := 2) S.nd)) (fun _ _ _ _ _ => sts_nil) (fun _ _ _ _ _ => (se_var (i := 2))))) sa_nil) G.sorted)) sa_nil) G.tuple)

abbrev b_is_time : MS := (sSeq (sIf (tOrM (tNotM (tOf (mCall 3 f_is_tuple (aCons (mVar 0) (aCons (mC (.int 2)) (aCons (mC (.int 2)) aNil)))))) (tOrM (tNotM (tOf (mCall 3 f_is_integer (aCons (mBin vIx (mVar 0) (mC (.int 0))) (aCons (mC (.int 0)) (aCons (mC (.int 10000000000000000000000000000000000000000000000000000000000000000000000000000000000000000000000000000)) aNil)))))) (tNotM (tOf (mCall 3 f_is_integer (aCons (mBin vIx (mVar 0) (mC (.int 1))) (aCons (mC (.int 1)) (aCons (mC (.int 10000000000000000000000000000000000000000000000000000000000000000000000000000000000000000000000000000)) aNil)))))))) (sRet (mC (.bl false))) sNext) (sRet (mBin vEq (mCall 2 f_divisor (aCons (mBin vIx (mVar 0) (mC (.int 0))) (aCons (mBin vIx (mVar 0) (mC (.int 1))) aNil))) (mC (.int 1)))))
def f_is_time : Fn := mkFn 1 .drop b_is_time
abbrev st_is_time : Stmt := top 15
theorem sc_is_time : FnScope ["value"] ["value"] (defScope st_is_time) := ⟨rfl, rfl, rfl, by decide +kernel, rfl, by decide +kernel, by decide +kernel⟩
theorem ok_is_time {P : Program} {w : World} {K : PySem.W.Frag} {mg : Str → Option Value} {base : Heap} {f : Addr} {fd : FuncData} (F : FnP K "is_time" st_is_time f fd) (G : Glb K mg) {a_divisor : Addr} {d_divisor : FuncData} {ps_divisor : List Str} (D_divisor : Def P w K mg base 1 "divisor" 2 f_divisor a_divisor d_divisor ps_divisor) {a_is_tuple : Addr} {d_is_tuple : FuncData} {ps_is_tuple : List Str} (D_is_tuple : Def P w K mg base 1 "is_tuple" 3 f_is_tuple a_is_tuple d_is_tuple ps_is_tuple) {a_is_integer : Addr} {d_is_integer : FuncData} {ps_is_integer : List Str} (D_is_integer : Def P w K mg base 1 "is_integer" 3 f_is_integer a_is_integer d_is_integer ps_is_integer) : FnOk P w K mg base CX0 2 f fd ["value"] (spF P w K 1 f_is_time) := by
  have S := sc_is_time
  obtain ⟨u_MOST, hm_MOST, hc_MOST⟩ := G.MOST
  refine fn_mk (N := ["value"]) (ps := ["value"]) (k := 1) (gc := .drop) (m := b_is_time) F S fun cdv A outer s H E hr => ?_
  have hu := room_u80 hr
  refine ss_cons ?_ ?_
  · skip
    refine ss_if (st_bool (sw_or (st_not (st_val (se_callD D_is_tuple hr (sa_cons (se_var (i := 0)) (sa_cons se_int (sa_cons se_int sa_nil)))))) (sw_or (st_not (st_val (se_callD D_is_integer hr (sa_cons (se_ix hu (se_var (i := 0)) se_int) (sa_cons se_int (sa_cons (se_glob hm_MOST hc_MOST) sa_nil)))))) (sw_or1 (st_not (st_val (se_callD D_is_integer hr (sa_cons (se_ix hu (se_var (i := 0)) se_int) (sa_cons se_int (sa_cons (se_glob hm_MOST hc_MOST) sa_nil)))))))))) ?_ ?_
    · skip
      refine ss_one ?_
      exact ss_ret se_bl
    · skip
      exact ss_nil
  refine ss_one ?_
  exact ss_ret (se_eq hu (se_callD D_divisor hr (sa_cons (se_ix hu (se_var (i := 0)) se_int) (sa_cons (se_ix hu (se_var (i := 0)) se_int) sa_nil))) se_int)

abbrev b_is_value : MS := (sRet (mAnd (mCall 3 f_is_tuple (aCons (mVar 0) (aCons (mC (.int 2)) (aCons (mC (.int 2)) aNil)))) (mAnd (mCall 3 f_is_integer (aCons (mBin vIx (mVar 0) (mC (.int 0))) (aCons (mC (.int 0)) (aCons (mC (.int 9)) aNil)))) (mCall 1 f_is_time (aCons (mBin vIx (mVar 0) (mC (.int 1))) aNil)))))
def f_is_value : Fn := mkFn 1 .drop b_is_value
abbrev st_is_value : Stmt := top 34
theorem sc_is_value : FnScope ["value"] ["value"] (defScope st_is_value) := ⟨rfl, rfl, rfl, by decide +kernel, rfl, by decide +kernel, by decide +kernel⟩
theorem ok_is_value {P : Program} {w : World} {K : PySem.W.Frag} {mg : Str → Option Value} {base : Heap} {f : Addr} {fd : FuncData} (F : FnP K "is_value" st_is_value f fd) (G : Glb K mg) {a_is_tuple : Addr} {d_is_tuple : FuncData} {ps_is_tuple : List Str} (D_is_tuple : Def P w K mg base 1 "is_tuple" 3 f_is_tuple a_is_tuple d_is_tuple ps_is_tuple) {a_is_integer : Addr} {d_is_integer : FuncData} {ps_is_integer : List Str} (D_is_integer : Def P w K mg base 1 "is_integer" 3 f_is_integer a_is_integer d_is_integer ps_is_integer) {a_is_time : Addr} {d_is_time : FuncData} {ps_is_time : List Str} (D_is_time : Def P w K mg base 2 "is_time" 1 f_is_time a_is_time d_is_time ps_is_time) : FnOk P w K mg base CX0 3 f fd ["value"] (spF P w K 1 f_is_value) := by
  have S := sc_is_value
  obtain ⟨u_MOST_CLOCK, hm_MOST_CLOCK, hc_MOST_CLOCK⟩ := G.MOST_CLOCK
  refine fn_mk (N := ["value"]) (ps := ["value"]) (k := 2) (gc := .drop) (m := b_is_value) F S fun cdv A outer s H E hr => ?_
  have hu := room_u80 hr
  refine ss_one ?_
  exact ss_ret (se_and (se_callD D_is_tuple hr (sa_cons (se_var (i := 0)) (sa_cons se_int (sa_cons se_int sa_nil)))) (se_and (se_callD D_is_integer hr (sa_cons (se_ix hu (se_var (i := 0)) se_int) (sa_cons se_int (sa_cons (se_glob hm_MOST_CLOCK hc_MOST_CLOCK) sa_nil)))) (se_one (se_callD D_is_time hr (sa_cons (se_ix hu (se_var (i := 0)) se_int) sa_nil)))))

abbrev b_values_fit : MS := (sSeq (sEx (mCall 1 f_check_order (aCons (mVar 0) aNil))) (sSeq (sIf (tOrM (tNotM (tOf (mCall 3 f_is_tuple (aCons (mVar 1) (aCons (mC (.int 0)) (aCons (mBin vAdd (mC (.int 9)) (mC (.int 1))) aNil)))))) (tNotM (tOf (mB bAll (aCons (mFz (fLc (([("value", 2)] : List (Str × Nat)).map (·.2)) (iSeq (mVar 1)) (gNameM 2) tYesM (mCall 1 f_is_value (aCons (mVar 2) aNil)))) aNil))))) sStuck sNext) (sSeq (sIf (tOf (mBin vNe (mB bTuple (aCons (mFz (fLc (([("clock", 3), ("time", 4)] : List (Str × Nat)).map (·.2)) (iSeq (mVar 1)) (gTupM (gConsM (gNameM 3) (gConsM (gNameM 4) gNilM))) tYesM (mVar 3))) aNil)) (mCall 1 f_young_of (aCons (mVar 0) aNil)))) sStuck sNext) (sRet (mCall 2 f_do_values_fit (aCons (mVar 0) (aCons (mVar 1) aNil)))))))
def f_values_fit : Fn := mkFn 5 .drop b_values_fit
abbrev st_values_fit : Stmt := top 36
theorem sc_values_fit : FnScope ["order", "values", "value", "clock", "time"] ["order", "values"] (defScope st_values_fit) := ⟨rfl, rfl, rfl, by decide +kernel, rfl, by decide +kernel, by decide +kernel⟩
theorem ok_values_fit {P : Program} {w : World} {K : PySem.W.Frag} {mg : Str → Option Value} {base : Heap} {f : Addr} {fd : FuncData} (F : FnP K "values_fit" st_values_fit f fd) (G : Glb K mg) {a_check_order : Addr} {d_check_order : FuncData} {ps_check_order : List Str} (D_check_order : Def P w K mg base 5 "check_order" 1 f_check_order a_check_order d_check_order ps_check_order) {a_do_values_fit : Addr} {d_do_values_fit : FuncData} {ps_do_values_fit : List Str} (D_do_values_fit : Def P w K mg base 2 "do_values_fit" 2 f_do_values_fit a_do_values_fit d_do_values_fit ps_do_values_fit) {a_young_of : Addr} {d_young_of : FuncData} {ps_young_of : List Str} (D_young_of : Def P w K mg base 1 "young_of" 1 f_young_of a_young_of d_young_of ps_young_of) {a_is_tuple : Addr} {d_is_tuple : FuncData} {ps_is_tuple : List Str} (D_is_tuple : Def P w K mg base 1 "is_tuple" 3 f_is_tuple a_is_tuple d_is_tuple ps_is_tuple) {a_is_value : Addr} {d_is_value : FuncData} {ps_is_value : List Str} (D_is_value : Def P w K mg base 3 "is_value" 1 f_is_value a_is_value d_is_value ps_is_value) : FnOk P w K mg base CX0 6 f fd ["order", "values"] (spF P w K 2 f_values_fit) := by
  have S := sc_values_fit
  obtain ⟨u_MOST_CLOCK, hm_MOST_CLOCK, hc_MOST_CLOCK⟩ := G.MOST_CLOCK
  refine fn_mk (N := ["order", "values", "value", "clock", "time"]) (ps := ["order", "values"]) (k := 5) (gc := .drop) (m := b_values_fit) F S fun cdv A outer s H E hr => ?_
  have hu := room_u80 hr
  refine ss_cons ?_ ?_
  · skip
    exact ss_ex (se_callD D_check_order hr (sa_cons (se_var (i := 0)) sa_nil))
  refine ss_cons ?_ ?_
  · skip
    refine ss_if (st_bool (sw_or (st_not (st_val (se_callD D_is_tuple hr (sa_cons (se_var (i := 1)) (sa_cons se_int (sa_cons (se_add (se_glob hm_MOST_CLOCK hc_MOST_CLOCK) se_int) sa_nil)))))) (sw_or1 (st_not (st_val (se_all rfl (sa_cons (se_fz (sf_lc (own := [("value", 2)]) rfl S.nd (si_seq (se_var (i := 1))) (blkOk_by (N := ["order", "values", "value", "clock", "time"]) (sc := defScope st_values_fit) (by decide +kernel)) (fun _ _ _ _ _ => (sg_name (i := 2) S.nd)) (fun _ _ _ _ _ => sts_nil) (fun _ _ _ _ _ => (se_callD D_is_value hr (sa_cons (se_var (i := 2)) sa_nil))))) sa_nil) G.all)))))) ?_ ?_
    · skip
      refine ss_one ?_
      exact ss_stuck
    · skip
      exact ss_nil
  refine ss_cons ?_ ?_
  · skip
    refine ss_if (st_ne hu (se_tupleOf (sa_cons (se_fz (sf_lc (own := [("clock", 3), ("time", 4)]) rfl S.nd (si_seq (se_var (i := 1))) (blkOk_by (N := ["order", "values", "value", "clock", "time"]) (sc := defScope st_values_fit) (by decide +kernel)) (fun _ _ _ _ _ => (sg_tup (n := 2) rfl (sgs_cons (sg_name (i := 3) S.nd) (sgs_cons (sg_name (i := 4) S.nd) sgs_nil)) (gCons_len (gCons_len gNil_len)))) (fun _ _ _ _ _ => sts_nil) (fun _ _ _ _ _ => (se_var (i := 3))))) sa_nil) G.tuple) (se_callD D_young_of hr (sa_cons (se_var (i := 0)) sa_nil))) ?_ ?_
    · skip
      refine ss_one ?_
      exact ss_stuck
    · skip
      exact ss_nil
  refine ss_one ?_
  exact ss_ret (se_callD D_do_values_fit hr (sa_cons (se_var (i := 0)) (sa_cons (se_var (i := 1)) sa_nil)))

abbrev b_young : MS := (sSeq (sEx (mCall 1 f_check_order (aCons (mVar 0) aNil))) (sRet (mCall 1 f_young_of (aCons (mVar 0) aNil))))
def f_young : Fn := mkFn 1 .drop b_young
abbrev st_young : Stmt := top 28
theorem sc_young : FnScope ["order"] ["order"] (defScope st_young) := ⟨rfl, rfl, rfl, by decide +kernel, rfl, by decide +kernel, by decide +kernel⟩
theorem ok_young {P : Program} {w : World} {K : PySem.W.Frag} {mg : Str → Option Value} {base : Heap} {f : Addr} {fd : FuncData} (F : FnP K "young" st_young f fd) (G : Glb K mg) {a_check_order : Addr} {d_check_order : FuncData} {ps_check_order : List Str} (D_check_order : Def P w K mg base 5 "check_order" 1 f_check_order a_check_order d_check_order ps_check_order) {a_young_of : Addr} {d_young_of : FuncData} {ps_young_of : List Str} (D_young_of : Def P w K mg base 1 "young_of" 1 f_young_of a_young_of d_young_of ps_young_of) : FnOk P w K mg base CX0 6 f fd ["order"] (spF P w K 1 f_young) := by
  have S := sc_young
  refine fn_mk (N := ["order"]) (ps := ["order"]) (k := 5) (gc := .drop) (m := b_young) F S fun cdv A outer s H E hr => ?_
  have hu := room_u80 hr
  refine ss_cons ?_ ?_
  · skip
    exact ss_ex (se_callD D_check_order hr (sa_cons (se_var (i := 0)) sa_nil))
  refine ss_one ?_
  exact ss_ret (se_callD D_young_of hr (sa_cons (se_var (i := 0)) sa_nil))

abbrev b_oldest : MS := (sSeq (sEx (mCall 1 f_check_order (aCons (mVar 0) aNil))) (sRet (mCall 1 f_oldest_of (aCons (mVar 0) aNil))))
def f_oldest : Fn := mkFn 1 .drop b_oldest
abbrev st_oldest : Stmt := top 30
theorem sc_oldest : FnScope ["order"] ["order"] (defScope st_oldest) := ⟨rfl, rfl, rfl, by decide +kernel, rfl, by decide +kernel, by decide +kernel⟩
theorem ok_oldest {P : Program} {w : World} {K : PySem.W.Frag} {mg : Str → Option Value} {base : Heap} {f : Addr} {fd : FuncData} (F : FnP K "oldest" st_oldest f fd) (G : Glb K mg) {a_check_order : Addr} {d_check_order : FuncData} {ps_check_order : List Str} (D_check_order : Def P w K mg base 5 "check_order" 1 f_check_order a_check_order d_check_order ps_check_order) {a_oldest_of : Addr} {d_oldest_of : FuncData} {ps_oldest_of : List Str} (D_oldest_of : Def P w K mg base 1 "oldest_of" 1 f_oldest_of a_oldest_of d_oldest_of ps_oldest_of) : FnOk P w K mg base CX0 6 f fd ["order"] (spF P w K 1 f_oldest) := by
  have S := sc_oldest
  refine fn_mk (N := ["order"]) (ps := ["order"]) (k := 5) (gc := .drop) (m := b_oldest) F S fun cdv A outer s H E hr => ?_
  have hu := room_u80 hr
  refine ss_cons ?_ ?_
  · skip
    exact ss_ex (se_callD D_check_order hr (sa_cons (se_var (i := 0)) sa_nil))
  refine ss_one ?_
  exact ss_ret (se_callD D_oldest_of hr (sa_cons (se_var (i := 0)) sa_nil))

abbrev b__law_right : MS := (sSeq (sSet 1 (mBin vAdd (mC (.int 3)) (mB bInt (aCons (mCall 2 f__law_take (aCons (mVar 0) (aCons (mC (.int 2)) aNil))) aNil)))) (sSeq (sSet 2 (mFz (fB (bOr bSorted bSortedD) (aCons (mCall 3 f__law_some (aCons (mVar 0) (aCons (mFz (fRg1 (mC (.int 10)))) (aCons (mVar 1) aNil)))) aNil)))) (sSeq (sPar 3 4 (aCons (mTup (aCons (mB bTuple (aCons (mVar 2) aNil)) aNil)) (aCons (mCall 1 f__law_lots (aCons (mVar 2) aNil)) aNil))) (sSeq (sPar 5 6 (aCons (mD1 (mVar 3) (mC (.bl true))) (aCons (mNew (fLst (aCons (mVar 3) aNil))) aNil))) (sSeq (sFor (iRange1 (mC (.int 80))) (gNameM 7) (sSeq (sIf (tOf (mBin vEq (mVar 6) (mFz (fLst aNil)))) sBk sNext) (sSeq (sSet 8 (mLM2 lPop (mVar 6) aNil)) (sFor (iSeq (mVar 4)) (gNameM 9) (sSeq (sSet 10 (mCall 2 f_orders_from (aCons (mVar 8) (aCons (mVar 9) aNil)))) (sSeq (sIf (tOf (mBin vNe (mB bLen (aCons (mVar 10) aNil)) (mIf (tOf (mB bAll (aCons (mFz (fLc (([("clock", 14)] : List (Str × Nat)).map (·.2)) (iSeq (mCall 1 f_oldest (aCons (mVar 8) aNil))) (gNameM 14) tYesM (mBin vIn (mVar 14) (mVar 9)))) aNil))) (mC (.int 1)) (mC (.int 2))))) (sRet (mC (.bl false))) sNext) (sFor (iSeq (mVar 10)) (gNameM 11) (sIf (tAndM (tOf (mBin vEq (mFz (fB bList (aCons (mCall 1 f_young (aCons (mVar 11) aNil)) aNil))) (mVar 2))) (tOf (mBin vNotIn (mVar 11) (mVar 5)))) (sSeq (sAsg (gSubM (mVar 5) (mVar 11)) (mC (.bl true))) (sEx (mLM2 lAppend (mVar 6) (aCons (mVar 11) aNil)))) sNext)))))))) (sSeq (sIf (tOf (mBin vNe (mB bLen (aCons (mVar 5) aNil)) (mCall 1 f__law_ranks (aCons (mVar 1) aNil)))) (sRet (mC (.bl false))) sNext) (sSeq (sSet 12 (mCall 3 f__law_some (aCons (mVar 0) (aCons (mFz (fB (bOr bSorted bSortedD) (aCons (mVar 5) aNil))) (aCons (mC (.int 6)) aNil))))) (sSeq (sFor (iSeq (mVar 12)) (gNameM 8) (sSeq (sSet 13 (mCall 1 f_some_values (aCons (mVar 8) aNil))) (sIf (tOrM (tOf (mBin vIsNot (mCall 1 f_is_order (aCons (mVar 8) aNil)) (mC (.bl true)))) (tOf (mBin vNe (mFz (fLc (([("other", 15)] : List (Str × Nat)).map (·.2)) (iSeq (mVar 12)) (gNameM 15) (tOf (mCall 2 f_values_fit (aCons (mVar 15) (aCons (mVar 13) aNil)))) (mVar 15))) (mFz (fLst (aCons (mVar 8) aNil)))))) (sRet (mC (.bl false))) sNext))) (sRet (mC (.bl true)))))))))))
def f__law_right : Fn := mkFn 16 .drop b__law_right
abbrev st__law_right : Stmt := top 45
theorem sc__law_right : FnScope ["pot", "many", "clocks", "first", "lots", "known", "waiting", "lap", "order", "lot", "told", "new", "some", "values", "clock", "other"] ["pot"] (defScope st__law_right) := ⟨rfl, rfl, rfl, by decide +kernel, rfl, by decide +kernel, by decide +kernel⟩
theorem ok__law_right {P : Program} {w : World} {K : PySem.W.Frag} {mg : Str → Option Value} {base : Heap} {f : Addr} {fd : FuncData} (F : FnP K "_law_right" st__law_right f fd) (G : Glb K mg) {a__law_some : Addr} {d__law_some : FuncData} {ps__law_some : List Str} (D__law_some : Def P w K mg base 2 "_law_some" 3 f__law_some a__law_some d__law_some ps__law_some) {a__law_lots : Addr} {d__law_lots : FuncData} {ps__law_lots : List Str} (D__law_lots : Def P w K mg base 1 "_law_lots" 1 f__law_lots a__law_lots d__law_lots ps__law_lots) {a__law_ranks : Addr} {d__law_ranks : FuncData} {ps__law_ranks : List Str} (D__law_ranks : Def P w K mg base 1 "_law_ranks" 1 f__law_ranks a__law_ranks d__law_ranks ps__law_ranks) {a_some_values : Addr} {d_some_values : FuncData} {ps_some_values : List Str} (D_some_values : Def P w K mg base 6 "some_values" 1 f_some_values a_some_values d_some_values ps_some_values) {a__law_take : Addr} {d__law_take : FuncData} {ps__law_take : List Str} (D__law_take : Def P w K mg base 1 "_law_take" 2 f__law_take a__law_take d__law_take ps__law_take) {a_orders_from : Addr} {d_orders_from : FuncData} {ps_orders_from : List Str} (D_orders_from : Def P w K mg base 6 "orders_from" 2 f_orders_from a_orders_from d_orders_from ps_orders_from) {a_is_order : Addr} {d_is_order : FuncData} {ps_is_order : List Str} (D_is_order : Def P w K mg base 4 "is_order" 1 f_is_order a_is_order d_is_order ps_is_order) {a_values_fit : Addr} {d_values_fit : FuncData} {ps_values_fit : List Str} (D_values_fit : Def P w K mg base 6 "values_fit" 2 f_values_fit a_values_fit d_values_fit ps_values_fit) {a_young : Addr} {d_young : FuncData} {ps_young : List Str} (D_young : Def P w K mg base 6 "young" 1 f_young a_young d_young ps_young) {a_oldest : Addr} {d_oldest : FuncData} {ps_oldest : List Str} (D_oldest : Def P w K mg base 6 "oldest" 1 f_oldest a_oldest d_oldest ps_oldest) : FnOk P w K mg base CX0 7 f fd ["pot"] (spF P w K 1 f__law_right) := by
  have S := sc__law_right
  refine fn_mk (N := ["pot", "many", "clocks", "first", "lots", "known", "waiting", "lap", "order", "lot", "told", "new", "some", "values", "clock", "other"]) (ps := ["pot"]) (k := 6) (gc := .drop) (m := b__law_right) F S fun cdv A outer s H E hr => ?_
  have hu := room_u80 hr
  refine ss_cons ?_ ?_
  · skip
    exact ss_set (i := 1) S.nd (se_add se_int (se_intOf (sa_cons (se_callD D__law_take hr (sa_cons (se_var (i := 0)) (sa_cons se_int sa_nil))) sa_nil) G.int))
  refine ss_cons ?_ ?_
  · skip
    exact ss_set (i := 2) S.nd (se_fz (sf_sortedA hu rfl (sa_cons (se_callD D__law_some hr (sa_cons (se_var (i := 0)) (sa_cons (se_fz (sf_listRg1 rfl se_int G.list G.range)) (sa_cons (se_var (i := 1)) sa_nil)))) sa_nil) G.sorted))
  refine ss_cons ?_ ?_
  · skip
    exact ss_par (i := 3) (j := 4) rfl S.nd (sa_cons (se_tup (sa_cons (se_tupleOf (sa_cons (se_var (i := 2)) sa_nil) G.tuple) sa_nil)) (sa_cons (se_callD D__law_lots hr (sa_cons (se_var (i := 2)) sa_nil)) sa_nil))
  refine ss_cons ?_ ?_
  · skip
    exact ss_par (i := 5) (j := 6) rfl S.nd (sa_cons (se_d1 hu (se_var (i := 3)) se_bl) (sa_cons (se_new (sf_lst (sa_cons (se_var (i := 3)) sa_nil))) sa_nil))
  refine ss_cons ?_ ?_
  · skip
    refine ss_for PassesOwn.never rfl (si_range1 se_int G.range) (sg_name (i := 7) S.nd) ?_
    · skip
      refine ss_cons ?_ ?_
      · skip
        refine ss_if (st_eq hu (se_var (i := 6)) (se_fz (sf_lst sa_nil))) ?_ ?_
        · skip
          refine ss_one ?_
          exact ss_break
        · skip
          exact ss_nil
      refine ss_cons ?_ ?_
      · skip
        exact ss_set (i := 8) S.nd (se_pop (se_var (i := 6)))
      refine ss_one ?_
      refine ss_for PassesOwn.never rfl (si_seq (se_var (i := 4))) (sg_name (i := 9) S.nd) ?_
      · skip
        refine ss_cons ?_ ?_
        · skip
          exact ss_set (i := 10) S.nd (se_callD D_orders_from hr (sa_cons (se_var (i := 8)) (sa_cons (se_var (i := 9)) sa_nil)))
        refine ss_cons ?_ ?_
        · skip
          refine ss_if (st_ne hu (se_len (sa_cons (se_var (i := 10)) sa_nil) G.len) (se_if (st_val (se_all rfl (sa_cons (se_fz (sf_lc (own := [("clock", 14)]) rfl S.nd (si_seq (se_callD D_oldest hr (sa_cons (se_var (i := 8)) sa_nil))) (blkOk_by (N := ["pot", "many", "clocks", "first", "lots", "known", "waiting", "lap", "order", "lot", "told", "new", "some", "values", "clock", "other"]) (sc := defScope st__law_right) (by decide +kernel)) (fun _ _ _ _ _ => (sg_name (i := 14) S.nd)) (fun _ _ _ _ _ => sts_nil) (fun _ _ _ _ _ => (se_in hu (se_var (i := 14)) (se_var (i := 9)))))) sa_nil) G.all)) se_int se_int)) ?_ ?_
          · skip
            refine ss_one ?_
            exact ss_ret se_bl
          · skip
            exact ss_nil
        refine ss_one ?_
        refine ss_for PassesOwn.never rfl (si_seq (se_var (i := 10))) (sg_name (i := 11) S.nd) ?_
        · skip
          refine ss_one ?_
          refine ss_if (st_bool (sw_and (st_eq hu (se_fz (sf_listOf (sa_cons (se_callD D_young hr (sa_cons (se_var (i := 11)) sa_nil)) sa_nil) G.list)) (se_var (i := 2))) (sw_and1 (st_notIn hu (se_var (i := 11)) (se_var (i := 5)))))) ?_ ?_
          · skip
            refine ss_cons ?_ ?_
            · skip
              exact ss_asg se_bl (sg_sub hu (se_var (i := 5)) (se_var (i := 11)))
            refine ss_one ?_
            exact ss_ex (se_append (se_var (i := 6)) (sa_cons (se_var (i := 11)) sa_nil))
          · skip
            exact ss_nil
  refine ss_cons ?_ ?_
  · skip
    refine ss_if (st_ne hu (se_len (sa_cons (se_var (i := 5)) sa_nil) G.len) (se_callD D__law_ranks hr (sa_cons (se_var (i := 1)) sa_nil))) ?_ ?_
    · skip
      refine ss_one ?_
      exact ss_ret se_bl
    · skip
      exact ss_nil
  refine ss_cons ?_ ?_
  · skip
    exact ss_set (i := 12) S.nd (se_callD D__law_some hr (sa_cons (se_var (i := 0)) (sa_cons (se_fz (sf_sortedA hu rfl (sa_cons (se_var (i := 5)) sa_nil) G.sorted)) (sa_cons se_int sa_nil))))
  refine ss_cons ?_ ?_
  · skip
    refine ss_for PassesOwn.never rfl (si_seq (se_var (i := 12))) (sg_name (i := 8) S.nd) ?_
    · skip
      refine ss_cons ?_ ?_
      · skip
        exact ss_set (i := 13) S.nd (se_callD D_some_values hr (sa_cons (se_var (i := 8)) sa_nil))
      refine ss_one ?_
      refine ss_if (st_bool (sw_or (st_isNot (se_callD D_is_order hr (sa_cons (se_var (i := 8)) sa_nil)) se_bl) (sw_or1 (st_ne hu (se_fz (sf_lc (own := [("other", 15)]) rfl S.nd (si_seq (se_var (i := 12))) (blkOk_by (N := ["pot", "many", "clocks", "first", "lots", "known", "waiting", "lap", "order", "lot", "told", "new", "some", "values", "clock", "other"]) (sc := defScope st__law_right) (by decide +kernel)) (fun _ _ _ _ _ => (sg_name (i := 15) S.nd)) (fun _ _ _ _ _ => (sts_one (st_val (se_callD D_values_fit hr (sa_cons (se_var (i := 15)) (sa_cons (se_var (i := 13)) sa_nil)))))) (fun _ _ _ _ _ => (se_var (i := 15))))) (se_fz (sf_lst (sa_cons (se_var (i := 8)) sa_nil))))))) ?_ ?_
      · skip
        refine ss_one ?_
        exact ss_ret se_bl
      · skip
        exact ss_nil
  refine ss_one ?_
  exact ss_ret se_bl

abbrev b__law_pot : MS := (sSeq (sSet 2 (mIf (tOf (mBin vLt (mVar 1) (mB bLen (aCons (mVar 0) aNil)))) (mBin vIx (mVar 0) (mVar 1)) (mBin vAdd (mBin vAdd (mBin vMod (mB bSum (aCons (mSl (mVar 0) oNone (oSome (mC (.int 1)))) aNil)) (mC (.int 1000003))) (mBin vMulI (mC (.int 5171)) (mVar 1))) (mC (.int 613))))) (sSeq (sSet 3 (mBin vMulI (mBin vMod (mB bInt (aCons (mB bAbs (aCons (mVar 2) aNil)) aNil)) (mBin vPow (mBin vPow (mC (.int 10)) (mC (.int 60))) (mC (.int 5)))) (mB bInt (aCons (mBin vGe (mB bAbs (aCons (mVar 2) aNil)) (mBin vPow (mC (.int 10)) (mC (.int 18)))) aNil)))) (sSeq (sSet 4 (mBin vMod (mB bInt (aCons (mVar 2) aNil)) (mC (.int 2305843009213693951)))) (sRet (mNew (fLst (aCons (mVar 3) (aCons (mBin vMod (mB bInt (aCons (mBin vAdd (mBin vAdd (mBin vMulI (mVar 4) (mC (.int 81703))) (mBin vMulI (mBin vMulI (mC (.int 7919)) (mVar 1)) (mVar 1))) (mC (.int 1013))) aNil)) (mC (.int 2305843009213693921))) (aCons (mC (.int 0)) aNil)))))))))
def f__law_pot : Fn := mkFn 5 .keep b__law_pot
abbrev st__law_pot : Stmt := top 39
theorem sc__law_pot : FnScope ["script", "place", "cell", "own", "small"] ["script", "place"] (defScope st__law_pot) := ⟨rfl, rfl, rfl, by decide +kernel, rfl, by decide +kernel, by decide +kernel⟩
theorem ok__law_pot {P : Program} {w : World} {K : PySem.W.Frag} {mg : Str → Option Value} {base : Heap} {f : Addr} {fd : FuncData} (F : FnP K "_law_pot" st__law_pot f fd) (G : Glb K mg)  : FnOk P w K mg base CX0 1 f fd ["script", "place"] (spF P w K 2 f__law_pot) := by
  have S := sc__law_pot
  refine fn_mk (N := ["script", "place", "cell", "own", "small"]) (ps := ["script", "place"]) (k := 0) (gc := .keep) (m := b__law_pot) F S fun cdv A outer s H E hr => ?_
  have hu := room_u80 hr
  refine ss_cons ?_ ?_
  · skip
    exact ss_set (i := 2) S.nd (se_if (st_lt (se_var (i := 1)) (se_len (sa_cons (se_var (i := 0)) sa_nil) G.len)) (se_ix hu (se_var (i := 0)) (se_var (i := 1))) (se_add (se_add (se_mod (se_sum rfl (sa_cons (se_slice (se_var (i := 0)) so_none (so_some se_int)) sa_nil) G.sum) se_int) (se_mul se_int (se_var (i := 1)))) se_int))
  refine ss_cons ?_ ?_
  · skip
    exact ss_set (i := 3) S.nd (se_mul (se_mod (se_intOf (sa_cons (se_abs (sa_cons (se_var (i := 2)) sa_nil) G.abs) sa_nil) G.int) (se_pow (se_pow se_int se_int) se_int)) (se_intOf (sa_cons (se_ge (se_abs (sa_cons (se_var (i := 2)) sa_nil) G.abs) (se_pow se_int se_int)) sa_nil) G.int))
  refine ss_cons ?_ ?_
  · skip
    exact ss_set (i := 4) S.nd (se_mod (se_intOf (sa_cons (se_var (i := 2)) sa_nil) G.int) se_int)
  refine ss_one ?_
  exact ss_ret (se_new (sf_lst (sa_cons (se_var (i := 3)) (sa_cons (se_mod (se_intOf (sa_cons (se_add (se_add (se_mul (se_var (i := 4)) se_int) (se_mul (se_mul se_int (se_var (i := 1))) (se_var (i := 1)))) se_int) sa_nil) G.int) se_int) (sa_cons se_int sa_nil)))))

abbrev b__law_places : MS := (sRet (mFz (fRg1 (mB bMax2 (aCons (mC (.int 1)) (aCons (mB bMin2 (aCons (mVar 1) (aCons (mB bLen (aCons (mVar 0) aNil)) aNil))) aNil))))))
def f__law_places : Fn := mkFn 2 .drop b__law_places
abbrev st__law_places : Stmt := top 41
theorem sc__law_places : FnScope ["script", "most"] ["script", "most"] (defScope st__law_places) := ⟨rfl, rfl, rfl, by decide +kernel, rfl, by decide +kernel, by decide +kernel⟩
theorem ok__law_places {P : Program} {w : World} {K : PySem.W.Frag} {mg : Str → Option Value} {base : Heap} {f : Addr} {fd : FuncData} (F : FnP K "_law_places" st__law_places f fd) (G : Glb K mg)  : FnOk P w K mg base CX0 1 f fd ["script", "most"] (spF P w K 2 f__law_places) := by
  have S := sc__law_places
  refine fn_mk (N := ["script", "most"]) (ps := ["script", "most"]) (k := 0) (gc := .drop) (m := b__law_places) F S fun cdv A outer s H E hr => ?_
  have hu := room_u80 hr
  refine ss_one ?_
  exact ss_ret (se_fz (sf_listRg1 rfl (se_max2 rfl (sa_cons se_int (sa_cons (se_min2 rfl (sa_cons (se_var (i := 1)) (sa_cons (se_len (sa_cons (se_var (i := 0)) sa_nil) G.len) sa_nil)) G.min) sa_nil)) G.max) G.list G.range))

abbrev b_law : MS := (sRet (mB bAll (aCons (mFz (fLc (([("place", 1)] : List (Str × Nat)).map (·.2)) (iSeq (mCall 2 f__law_places (aCons (mVar 0) (aCons (mC (.int 2)) aNil)))) (gNameM 1) tYesM (mCall 1 f__law_right (aCons (mCall 2 f__law_pot (aCons (mVar 0) (aCons (mVar 1) aNil))) aNil)))) aNil)))
def f_law : Fn := mkFn 2 .drop b_law
abbrev st_law : Stmt := top 46
theorem sc_law : FnScope ["script", "place"] ["script"] (defScope st_law) := ⟨rfl, rfl, rfl, by decide +kernel, rfl, by decide +kernel, by decide +kernel⟩
theorem ok_law {P : Program} {w : World} {K : PySem.W.Frag} {mg : Str → Option Value} {base : Heap} {f : Addr} {fd : FuncData} (F : FnP K "law" st_law f fd) (G : Glb K mg) {a__law_right : Addr} {d__law_right : FuncData} {ps__law_right : List Str} (D__law_right : Def P w K mg base 7 "_law_right" 1 f__law_right a__law_right d__law_right ps__law_right) {a__law_pot : Addr} {d__law_pot : FuncData} {ps__law_pot : List Str} (D__law_pot : Def P w K mg base 1 "_law_pot" 2 f__law_pot a__law_pot d__law_pot ps__law_pot) {a__law_places : Addr} {d__law_places : FuncData} {ps__law_places : List Str} (D__law_places : Def P w K mg base 1 "_law_places" 2 f__law_places a__law_places d__law_places ps__law_places) : FnOk P w K mg base CX0 8 f fd ["script"] (spF P w K 1 f_law) := by
  have S := sc_law
  refine fn_mk (N := ["script", "place"]) (ps := ["script"]) (k := 7) (gc := .drop) (m := b_law) F S fun cdv A outer s H E hr => ?_
  have hu := room_u80 hr
  refine ss_one ?_
  exact ss_ret (se_all rfl (sa_cons (se_fz (sf_lc (own := [("place", 1)]) rfl S.nd (si_seq (se_callD D__law_places hr (sa_cons (se_var (i := 0)) (sa_cons se_int sa_nil)))) (blkOk_by (N := ["script", "place"]) (sc := defScope st_law) (by decide +kernel)) (fun _ _ _ _ _ => (sg_name (i := 1) S.nd)) (fun _ _ _ _ _ => sts_nil) (fun _ _ _ _ _ => (se_callD D__law_right hr (sa_cons (se_callD D__law_pot hr (sa_cons (se_var (i := 0)) (sa_cons (se_var (i := 1)) sa_nil))) sa_nil))))) sa_nil) G.all)

def dd__law_take : He.DefD := ⟨("_law_take", none), "_law_take", "_law_take", defArgs st__law_take, defBody st__law_take, defScope st__law_take, [], []⟩
def dd__law_some : He.DefD := ⟨("_law_some", none), "_law_some", "_law_some", defArgs st__law_some, defBody st__law_some, defScope st__law_some, [], []⟩
def dd__law_lots : He.DefD := ⟨("_law_lots", none), "_law_lots", "_law_lots", defArgs st__law_lots, defBody st__law_lots, defScope st__law_lots, [], []⟩
def dd__law_ranks : He.DefD := ⟨("_law_ranks", none), "_law_ranks", "_law_ranks", defArgs st__law_ranks, defBody st__law_ranks, defScope st__law_ranks, [], []⟩
def dd_is_tuple : He.DefD := ⟨("is_tuple", none), "is_tuple", "is_tuple", defArgs st_is_tuple, defBody st_is_tuple, defScope st_is_tuple, [], []⟩
def dd_is_integer : He.DefD := ⟨("is_integer", none), "is_integer", "is_integer", defArgs st_is_integer, defBody st_is_integer, defScope st_is_integer, [], []⟩
def dd_is_ascending : He.DefD := ⟨("is_ascending", none), "is_ascending", "is_ascending", defArgs st_is_ascending, defBody st_is_ascending, defScope st_is_ascending, [], []⟩
def dd_is_group : He.DefD := ⟨("is_group", none), "is_group", "is_group", defArgs st_is_group, defBody st_is_group, defScope st_is_group, [], []⟩
def dd_is_order : He.DefD := ⟨("is_order", none), "is_order", "is_order", defArgs st_is_order, defBody st_is_order, defScope st_is_order, [], []⟩
def dd_check_order : He.DefD := ⟨("check_order", none), "check_order", "check_order", defArgs st_check_order, defBody st_check_order, defScope st_check_order, [], []⟩
def dd_divisor : He.DefD := ⟨("divisor", none), "divisor", "divisor", defArgs st_divisor, defBody st_divisor, defScope st_divisor, [], []⟩
def dd_lowest : He.DefD := ⟨("lowest", none), "lowest", "lowest", defArgs st_lowest, defBody st_lowest, defScope st_lowest, [], []⟩
def dd_made : He.DefD := ⟨("made", none), "made", "made", defArgs st_made, defBody st_made, defScope st_made, [], []⟩
def dd_some_values : He.DefD := ⟨("some_values", none), "some_values", "some_values", defArgs st_some_values, defBody st_some_values, defScope st_some_values, [], []⟩
def dd_check_clocks : He.DefD := ⟨("check_clocks", none), "check_clocks", "check_clocks", defArgs st_check_clocks, defBody st_check_clocks, defScope st_check_clocks, [], []⟩
def dd_oldest_of : He.DefD := ⟨("oldest_of", none), "oldest_of", "oldest_of", defArgs st_oldest_of, defBody st_oldest_of, defScope st_oldest_of, [], []⟩
def dd_at_one : He.DefD := ⟨("at_one", none), "at_one", "at_one", defArgs st_at_one, defBody st_at_one, defScope st_at_one, [], []⟩
def dd_behind_of : He.DefD := ⟨("behind_of", none), "behind_of", "behind_of", defArgs st_behind_of, defBody st_behind_of, defScope st_behind_of, [], []⟩
def dd_orders_from : He.DefD := ⟨("orders_from", none), "orders_from", "orders_from", defArgs st_orders_from, defBody st_orders_from, defScope st_orders_from, [], []⟩
def dd_is_before : He.DefD := ⟨("is_before", none), "is_before", "is_before", defArgs st_is_before, defBody st_is_before, defScope st_is_before, [], []⟩
def dd_do_values_fit : He.DefD := ⟨("do_values_fit", none), "do_values_fit", "do_values_fit", defArgs st_do_values_fit, defBody st_do_values_fit, defScope st_do_values_fit, [], []⟩
def dd_young_of : He.DefD := ⟨("young_of", none), "young_of", "young_of", defArgs st_young_of, defBody st_young_of, defScope st_young_of, [], []⟩
def dd_is_time : He.DefD := ⟨("is_time", none), "is_time", "is_time", defArgs st_is_time, defBody st_is_time, defScope st_is_time, [], []⟩
def dd_is_value : He.DefD := ⟨("is_value", none), "is_value", "is_value", defArgs st_is_value, defBody st_is_value, defScope st_is_value, [], []⟩
def dd_values_fit : He.DefD := ⟨("values_fit", none), "values_fit", "values_fit", defArgs st_values_fit, defBody st_values_fit, defScope st_values_fit, [], []⟩
def dd_young : He.DefD := ⟨("young", none), "young", "young", defArgs st_young, defBody st_young, defScope st_young, [], []⟩
def dd_oldest : He.DefD := ⟨("oldest", none), "oldest", "oldest", defArgs st_oldest, defBody st_oldest, defScope st_oldest, [], []⟩
def dd__law_right : He.DefD := ⟨("_law_right", none), "_law_right", "_law_right", defArgs st__law_right, defBody st__law_right, defScope st__law_right, [], []⟩
def dd__law_pot : He.DefD := ⟨("_law_pot", none), "_law_pot", "_law_pot", defArgs st__law_pot, defBody st__law_pot, defScope st__law_pot, [], []⟩
def dd__law_places : He.DefD := ⟨("_law_places", none), "_law_places", "_law_places", defArgs st__law_places, defBody st__law_places, defScope st__law_places, [], []⟩
def dd_law : He.DefD := ⟨("law", none), "law", "law", defArgs st_law, defBody st_law, defScope st_law, [], []⟩
def fn : List He.DefD := [dd__law_take, dd__law_some, dd__law_lots, dd__law_ranks, dd_is_tuple, dd_is_integer, dd_is_ascending, dd_is_group, dd_is_order, dd_check_order, dd_divisor, dd_lowest, dd_made, dd_some_values, dd_check_clocks, dd_oldest_of, dd_at_one, dd_behind_of, dd_orders_from, dd_is_before, dd_do_values_fit, dd_young_of, dd_is_time, dd_is_value, dd_values_fit, dd_young, dd_oldest, dd__law_right, dd__law_pot, dd__law_places, dd_law]
def fa : List He.Fa := [.glo "_law_take", .glo "_law_some", .glo "_law_lots", .glo "_law_ranks", .glo "is_tuple", .glo "is_integer", .glo "is_ascending", .glo "is_group", .glo "is_order", .glo "check_order", .glo "divisor", .glo "lowest", .glo "made", .glo "some_values", .glo "check_clocks", .glo "oldest_of", .glo "at_one", .glo "behind_of", .glo "orders_from", .glo "is_before", .glo "do_values_fit", .glo "young_of", .glo "is_time", .glo "is_value", .glo "values_fit", .glo "young", .glo "oldest", .glo "_law_right", .glo "_law_pot", .glo "_law_places", .glo "law", .free "abs", .free "all", .free "any", .free "bool", .free "dict", .free "enumerate", .free "int", .free "isinstance", .free "len", .free "list", .free "max", .free "min", .free "range", .free "sorted", .free "sum", .free "tuple", .free "zip", .str "AT" "at", .str "IN" "in", .int "MOST" 10000000000000000000000000000000000000000000000000000000000000000000000000000000000000000000000000000, .int "MOST_CLOCK" 9, .glo "ONE", .glo "ZERO"]
def tb : List (Str × List He.Dv) := [("ONE", [.int 1, .int 1]), ("ZERO", [.int 0, .int 1])]
theorem facts {P : Program} {w : World} {K : PySem.W.Frag} {h : Heap} {mg : Str → Option Value} {f : Addr} (X : K.In h) (G : h.Ns mainGlobals mg) (hfa : mg ("law" : Str) = some (.ref f)) (c : He.SaysD fa fn K) (ht : tupsB tb K = true) :
    ∃ fd : FuncData, (∀ (s : Shared) (v : Value), BindsTo s fd ⟨[v], []⟩ [("script", v)]) ∧ ∀ base : Heap, K.In base → base.Ns mainGlobals mg → FnOk P w K mg base CX0 8 f fd ["script"] (spF P w K 1 f_law) := by
  have GL : Glb K mg := by
    constructor
    · exact He.free_ok X G (c.fact 31 (f := .free "abs") rfl)
    · exact He.free_ok X G (c.fact 32 (f := .free "all") rfl)
    · exact He.free_ok X G (c.fact 33 (f := .free "any") rfl)
    · exact He.free_ok X G (c.fact 34 (f := .free "bool") rfl)
    · exact He.free_ok X G (c.fact 35 (f := .free "dict") rfl)
    · exact He.free_ok X G (c.fact 36 (f := .free "enumerate") rfl)
    · exact He.free_ok X G (c.fact 37 (f := .free "int") rfl)
    · exact He.free_ok X G (c.fact 38 (f := .free "isinstance") rfl)
    · exact He.free_ok X G (c.fact 39 (f := .free "len") rfl)
    · exact He.free_ok X G (c.fact 40 (f := .free "list") rfl)
    · exact He.free_ok X G (c.fact 41 (f := .free "max") rfl)
    · exact He.free_ok X G (c.fact 42 (f := .free "min") rfl)
    · exact He.free_ok X G (c.fact 43 (f := .free "range") rfl)
    · exact He.free_ok X G (c.fact 44 (f := .free "sorted") rfl)
    · exact He.free_ok X G (c.fact 45 (f := .free "sum") rfl)
    · exact He.free_ok X G (c.fact 46 (f := .free "tuple") rfl)
    · exact He.free_ok X G (c.fact 47 (f := .free "zip") rfl)
    · exact cst_str (He.str_ok X G (c.fact 48 (f := .str "AT" "at") rfl))
    · exact cst_str (He.str_ok X G (c.fact 49 (f := .str "IN" "in") rfl))
    · exact cst_int (He.int_ok X G (c.fact 50 (f := .int "MOST" 10000000000000000000000000000000000000000000000000000000000000000000000000000000000000000000000000000) rfl))
    · exact cst_int (He.int_ok X G (c.fact 51 (f := .int "MOST_CLOCK" 9) rfl))
    · exact cst_tup (He.glo_ok X G (c.fact 52 (f := .glo "ONE") rfl)) (tups_at ht 0) fun _ _ => (.cons (.int _) (.cons (.int _) .nil))
    · exact cst_tup (He.glo_ok X G (c.fact 53 (f := .glo "ZERO") rfl)) (tups_at ht 1) fun _ _ => (.cons (.int _) (.cons (.int _) .nil))
  obtain ⟨fd__law_take, F__law_take⟩ := c.def_ 0 (d := dd__law_take) rfl
  obtain ⟨fd__law_some, F__law_some⟩ := c.def_ 1 (d := dd__law_some) rfl
  obtain ⟨fd__law_lots, F__law_lots⟩ := c.def_ 2 (d := dd__law_lots) rfl
  obtain ⟨fd__law_ranks, F__law_ranks⟩ := c.def_ 3 (d := dd__law_ranks) rfl
  obtain ⟨fd_is_tuple, F_is_tuple⟩ := c.def_ 4 (d := dd_is_tuple) rfl
  obtain ⟨fd_is_integer, F_is_integer⟩ := c.def_ 5 (d := dd_is_integer) rfl
  obtain ⟨fd_is_ascending, F_is_ascending⟩ := c.def_ 6 (d := dd_is_ascending) rfl
  obtain ⟨fd_is_group, F_is_group⟩ := c.def_ 7 (d := dd_is_group) rfl
  obtain ⟨fd_is_order, F_is_order⟩ := c.def_ 8 (d := dd_is_order) rfl
  obtain ⟨fd_check_order, F_check_order⟩ := c.def_ 9 (d := dd_check_order) rfl
  obtain ⟨fd_divisor, F_divisor⟩ := c.def_ 10 (d := dd_divisor) rfl
  obtain ⟨fd_lowest, F_lowest⟩ := c.def_ 11 (d := dd_lowest) rfl
  obtain ⟨fd_made, F_made⟩ := c.def_ 12 (d := dd_made) rfl
  obtain ⟨fd_some_values, F_some_values⟩ := c.def_ 13 (d := dd_some_values) rfl
  obtain ⟨fd_check_clocks, F_check_clocks⟩ := c.def_ 14 (d := dd_check_clocks) rfl
  obtain ⟨fd_oldest_of, F_oldest_of⟩ := c.def_ 15 (d := dd_oldest_of) rfl
  obtain ⟨fd_at_one, F_at_one⟩ := c.def_ 16 (d := dd_at_one) rfl
  obtain ⟨fd_behind_of, F_behind_of⟩ := c.def_ 17 (d := dd_behind_of) rfl
  obtain ⟨fd_orders_from, F_orders_from⟩ := c.def_ 18 (d := dd_orders_from) rfl
  obtain ⟨fd_is_before, F_is_before⟩ := c.def_ 19 (d := dd_is_before) rfl
  obtain ⟨fd_do_values_fit, F_do_values_fit⟩ := c.def_ 20 (d := dd_do_values_fit) rfl
  obtain ⟨fd_young_of, F_young_of⟩ := c.def_ 21 (d := dd_young_of) rfl
  obtain ⟨fd_is_time, F_is_time⟩ := c.def_ 22 (d := dd_is_time) rfl
  obtain ⟨fd_is_value, F_is_value⟩ := c.def_ 23 (d := dd_is_value) rfl
  obtain ⟨fd_values_fit, F_values_fit⟩ := c.def_ 24 (d := dd_values_fit) rfl
  obtain ⟨fd_young, F_young⟩ := c.def_ 25 (d := dd_young) rfl
  obtain ⟨fd_oldest, F_oldest⟩ := c.def_ 26 (d := dd_oldest) rfl
  obtain ⟨fd__law_right, F__law_right⟩ := c.def_ 27 (d := dd__law_right) rfl
  obtain ⟨fd__law_pot, F__law_pot⟩ := c.def_ 28 (d := dd__law_pot) rfl
  obtain ⟨fd__law_places, F__law_places⟩ := c.def_ 29 (d := dd__law_places) rfl
  obtain ⟨fd_law, F_law⟩ := c.def_ 30 (d := dd_law) rfl
  have e := hfa.symm.trans (He.glo_ok X G (c.fact 30 (f := .glo "law") rfl))
  cases e
  have bl := FunD.bindsA (ps := ["script"]) F_law fun _ _ _ _ _ _ us hl => match us, hl with | [_], _ => rfl
  refine ⟨fd_law, fun s v => bl s [v] rfl, fun base _ _ => ?_⟩
  have D__law_take : Def P w K mg base 1 "_law_take" 2 f__law_take _ fd__law_take ["pot", "upto"] := ⟨ok__law_take F__law_take GL , He.glo_ok X G (c.fact 0 (f := .glo "_law_take") rfl), F__law_take.kp, F__law_take.bindsN fun _ _ _ _ _ _ us hl => match us, hl with | [_, _], _ => rfl⟩
  have D__law_some : Def P w K mg base 2 "_law_some" 3 f__law_some _ fd__law_some ["pot", "pool", "many"] := ⟨ok__law_some F__law_some GL D__law_take, He.glo_ok X G (c.fact 1 (f := .glo "_law_some") rfl), F__law_some.kp, F__law_some.bindsN fun _ _ _ _ _ _ us hl => match us, hl with | [_, _, _], _ => rfl⟩
  have D__law_lots : Def P w K mg base 1 "_law_lots" 1 f__law_lots _ fd__law_lots ["clocks"] := ⟨ok__law_lots F__law_lots GL , He.glo_ok X G (c.fact 2 (f := .glo "_law_lots") rfl), F__law_lots.kp, F__law_lots.bindsN fun _ _ _ _ _ _ us hl => match us, hl with | [_], _ => rfl⟩
  have D__law_ranks : Def P w K mg base 1 "_law_ranks" 1 f__law_ranks _ fd__law_ranks ["many"] := ⟨ok__law_ranks F__law_ranks GL , He.glo_ok X G (c.fact 3 (f := .glo "_law_ranks") rfl), F__law_ranks.kp, F__law_ranks.bindsN fun _ _ _ _ _ _ us hl => match us, hl with | [_], _ => rfl⟩
  have D_is_tuple : Def P w K mg base 1 "is_tuple" 3 f_is_tuple _ fd_is_tuple ["value", "least", "most"] := ⟨ok_is_tuple F_is_tuple GL , He.glo_ok X G (c.fact 4 (f := .glo "is_tuple") rfl), F_is_tuple.kp, F_is_tuple.bindsN fun _ _ _ _ _ _ us hl => match us, hl with | [_, _, _], _ => rfl⟩
  have D_is_integer : Def P w K mg base 1 "is_integer" 3 f_is_integer _ fd_is_integer ["value", "low", "high"] := ⟨ok_is_integer F_is_integer GL , He.glo_ok X G (c.fact 5 (f := .glo "is_integer") rfl), F_is_integer.kp, F_is_integer.bindsN fun _ _ _ _ _ _ us hl => match us, hl with | [_, _, _], _ => rfl⟩
  have D_is_ascending : Def P w K mg base 2 "is_ascending" 3 f_is_ascending _ fd_is_ascending ["value", "low", "high"] := ⟨ok_is_ascending F_is_ascending GL D_is_tuple D_is_integer, He.glo_ok X G (c.fact 6 (f := .glo "is_ascending") rfl), F_is_ascending.kp, F_is_ascending.bindsN fun _ _ _ _ _ _ us hl => match us, hl with | [_, _, _], _ => rfl⟩
  have D_is_group : Def P w K mg base 3 "is_group" 1 f_is_group _ fd_is_group ["value"] := ⟨ok_is_group F_is_group GL D_is_ascending, He.glo_ok X G (c.fact 7 (f := .glo "is_group") rfl), F_is_group.kp, F_is_group.bindsN fun _ _ _ _ _ _ us hl => match us, hl with | [_], _ => rfl⟩
  have D_is_order : Def P w K mg base 4 "is_order" 1 f_is_order _ fd_is_order ["value"] := ⟨ok_is_order F_is_order GL D_is_tuple D_is_group, He.glo_ok X G (c.fact 8 (f := .glo "is_order") rfl), F_is_order.kp, F_is_order.bindsN fun _ _ _ _ _ _ us hl => match us, hl with | [_], _ => rfl⟩
  have D_check_order : Def P w K mg base 5 "check_order" 1 f_check_order _ fd_check_order ["order"] := ⟨ok_check_order F_check_order GL D_is_order, He.glo_ok X G (c.fact 9 (f := .glo "check_order") rfl), F_check_order.kp, F_check_order.bindsN fun _ _ _ _ _ _ us hl => match us, hl with | [_], _ => rfl⟩
  have D_divisor : Def P w K mg base 1 "divisor" 2 f_divisor _ fd_divisor ["one", "other"] := ⟨ok_divisor F_divisor GL , He.glo_ok X G (c.fact 10 (f := .glo "divisor") rfl), F_divisor.kp, F_divisor.bindsN fun _ _ _ _ _ _ us hl => match us, hl with | [_, _], _ => rfl⟩
  have D_lowest : Def P w K mg base 2 "lowest" 2 f_lowest _ fd_lowest ["over", "under"] := ⟨ok_lowest F_lowest GL D_divisor, He.glo_ok X G (c.fact 11 (f := .glo "lowest") rfl), F_lowest.kp, F_lowest.bindsN fun _ _ _ _ _ _ us hl => match us, hl with | [_, _], _ => rfl⟩
  have D_made : Def P w K mg base 3 "made" 2 f_made _ fd_made ["over", "under"] := ⟨ok_made F_made GL D_lowest, He.glo_ok X G (c.fact 12 (f := .glo "made") rfl), F_made.kp, F_made.bindsN fun _ _ _ _ _ _ us hl => match us, hl with | [_, _], _ => rfl⟩
  have D_some_values : Def P w K mg base 6 "some_values" 1 f_some_values _ fd_some_values ["order"] := ⟨ok_some_values F_some_values GL D_check_order D_made, He.glo_ok X G (c.fact 13 (f := .glo "some_values") rfl), F_some_values.kp, F_some_values.bindsN fun _ _ _ _ _ _ us hl => match us, hl with | [_], _ => rfl⟩
  have D_check_clocks : Def P w K mg base 3 "check_clocks" 1 f_check_clocks _ fd_check_clocks ["clocks"] := ⟨ok_check_clocks F_check_clocks GL D_is_ascending, He.glo_ok X G (c.fact 14 (f := .glo "check_clocks") rfl), F_check_clocks.kp, F_check_clocks.bindsN fun _ _ _ _ _ _ us hl => match us, hl with | [_], _ => rfl⟩
  have D_oldest_of : Def P w K mg base 1 "oldest_of" 1 f_oldest_of _ fd_oldest_of ["order"] := ⟨ok_oldest_of F_oldest_of GL , He.glo_ok X G (c.fact 15 (f := .glo "oldest_of") rfl), F_oldest_of.kp, F_oldest_of.bindsN fun _ _ _ _ _ _ us hl => match us, hl with | [_], _ => rfl⟩
  have D_at_one : Def P w K mg base 2 "at_one" 2 f_at_one _ fd_at_one ["order", "way"] := ⟨ok_at_one F_at_one GL D_oldest_of, He.glo_ok X G (c.fact 16 (f := .glo "at_one") rfl), F_at_one.kp, F_at_one.bindsN fun _ _ _ _ _ _ us hl => match us, hl with | [_, _], _ => rfl⟩
  have D_behind_of : Def P w K mg base 3 "behind_of" 4 f_behind_of _ fd_behind_of ["order", "way", "reset", "dropped"] := ⟨ok_behind_of F_behind_of GL D_at_one, He.glo_ok X G (c.fact 17 (f := .glo "behind_of") rfl), F_behind_of.kp, F_behind_of.bindsN fun _ _ _ _ _ _ us hl => match us, hl with | [_, _, _, _], _ => rfl⟩
  have D_orders_from : Def P w K mg base 6 "orders_from" 2 f_orders_from _ fd_orders_from ["order", "reset"] := ⟨ok_orders_from F_orders_from GL D_check_order D_check_clocks D_behind_of, He.glo_ok X G (c.fact 18 (f := .glo "orders_from") rfl), F_orders_from.kp, F_orders_from.bindsN fun _ _ _ _ _ _ us hl => match us, hl with | [_, _], _ => rfl⟩
  have D_is_before : Def P w K mg base 1 "is_before" 2 f_is_before _ fd_is_before ["one", "other"] := ⟨ok_is_before F_is_before GL , He.glo_ok X G (c.fact 19 (f := .glo "is_before") rfl), F_is_before.kp, F_is_before.bindsN fun _ _ _ _ _ _ us hl => match us, hl with | [_, _], _ => rfl⟩
  have D_do_values_fit : Def P w K mg base 2 "do_values_fit" 2 f_do_values_fit _ fd_do_values_fit ["order", "values"] := ⟨ok_do_values_fit F_do_values_fit GL D_is_before, He.glo_ok X G (c.fact 20 (f := .glo "do_values_fit") rfl), F_do_values_fit.kp, F_do_values_fit.bindsN fun _ _ _ _ _ _ us hl => match us, hl with | [_, _], _ => rfl⟩
  have D_young_of : Def P w K mg base 1 "young_of" 1 f_young_of _ fd_young_of ["order"] := ⟨ok_young_of F_young_of GL , He.glo_ok X G (c.fact 21 (f := .glo "young_of") rfl), F_young_of.kp, F_young_of.bindsN fun _ _ _ _ _ _ us hl => match us, hl with | [_], _ => rfl⟩
  have D_is_time : Def P w K mg base 2 "is_time" 1 f_is_time _ fd_is_time ["value"] := ⟨ok_is_time F_is_time GL D_divisor D_is_tuple D_is_integer, He.glo_ok X G (c.fact 22 (f := .glo "is_time") rfl), F_is_time.kp, F_is_time.bindsN fun _ _ _ _ _ _ us hl => match us, hl with | [_], _ => rfl⟩
  have D_is_value : Def P w K mg base 3 "is_value" 1 f_is_value _ fd_is_value ["value"] := ⟨ok_is_value F_is_value GL D_is_tuple D_is_integer D_is_time, He.glo_ok X G (c.fact 23 (f := .glo "is_value") rfl), F_is_value.kp, F_is_value.bindsN fun _ _ _ _ _ _ us hl => match us, hl with | [_], _ => rfl⟩
  have D_values_fit : Def P w K mg base 6 "values_fit" 2 f_values_fit _ fd_values_fit ["order", "values"] := ⟨ok_values_fit F_values_fit GL D_check_order D_do_values_fit D_young_of D_is_tuple D_is_value, He.glo_ok X G (c.fact 24 (f := .glo "values_fit") rfl), F_values_fit.kp, F_values_fit.bindsN fun _ _ _ _ _ _ us hl => match us, hl with | [_, _], _ => rfl⟩
  have D_young : Def P w K mg base 6 "young" 1 f_young _ fd_young ["order"] := ⟨ok_young F_young GL D_check_order D_young_of, He.glo_ok X G (c.fact 25 (f := .glo "young") rfl), F_young.kp, F_young.bindsN fun _ _ _ _ _ _ us hl => match us, hl with | [_], _ => rfl⟩
  have D_oldest : Def P w K mg base 6 "oldest" 1 f_oldest _ fd_oldest ["order"] := ⟨ok_oldest F_oldest GL D_check_order D_oldest_of, He.glo_ok X G (c.fact 26 (f := .glo "oldest") rfl), F_oldest.kp, F_oldest.bindsN fun _ _ _ _ _ _ us hl => match us, hl with | [_], _ => rfl⟩
  have D__law_right : Def P w K mg base 7 "_law_right" 1 f__law_right _ fd__law_right ["pot"] := ⟨ok__law_right F__law_right GL D__law_some D__law_lots D__law_ranks D_some_values D__law_take D_orders_from D_is_order D_values_fit D_young D_oldest, He.glo_ok X G (c.fact 27 (f := .glo "_law_right") rfl), F__law_right.kp, F__law_right.bindsN fun _ _ _ _ _ _ us hl => match us, hl with | [_], _ => rfl⟩
  have D__law_pot : Def P w K mg base 1 "_law_pot" 2 f__law_pot _ fd__law_pot ["script", "place"] := ⟨ok__law_pot F__law_pot GL , He.glo_ok X G (c.fact 28 (f := .glo "_law_pot") rfl), F__law_pot.kp, F__law_pot.bindsN fun _ _ _ _ _ _ us hl => match us, hl with | [_, _], _ => rfl⟩
  have D__law_places : Def P w K mg base 1 "_law_places" 2 f__law_places _ fd__law_places ["script", "most"] := ⟨ok__law_places F__law_places GL , He.glo_ok X G (c.fact 29 (f := .glo "_law_places") rfl), F__law_places.kp, F__law_places.bindsN fun _ _ _ _ _ _ us hl => match us, hl with | [_, _], _ => rfl⟩
  exact ok_law F_law GL D__law_right D__law_pot D__law_places
end K83

-- part M1
set_option Elab.async false
set_option linter.all false
set_option maxRecDepth 100000
set_option maxHeartbeats 400000
namespace Sh
open PySem PySem.Spec L2
/-! ### how models compute -/
/-- the store knows nothing that it does not hold -/
def StOk (st : Sto) : Prop := st.all (obelow st.length) = true
theorem gc_drop {st : Sto} {v : Val} {n : Nat} (h : StOk st) (hn : n = st.length) (hv : vbelow n v = true) : gcF .drop n v st = some (v, st) := by
  subst hn
  unfold gcF
  simp only [List.take_length]
  rw [hv, h]
  rfl
/-- a def that leaves newer things behind -/
theorem gc_cut {st new : Sto} {v : Val} {n : Nat} (h : StOk st) (hn : n = st.length) (hv : vbelow n v = true) : gcF .drop n v (st ++ new) = some (v, st) := by
  subst hn
  unfold gcF
  simp only [List.take_left']
  rw [hv, h]
  rfl
theorem mkFn_rt {N : Nat} {gc : GC} {b : MS} {args : List Val} {st st' : Sto} {v : Val} {env : Env} (h : b (args.map some ++ List.replicate (N - args.length) none) st = some (.rt v, env, st')) : mkFn N gc b args st = gcF gc st.length v st' := by
  unfold mkFn
  rw [h]
theorem mkFn_nx {N : Nat} {gc : GC} {b : MS} {args : List Val} {st st' : Sto} {env : Env} (h : b (args.map some ++ List.replicate (N - args.length) none) st = some (.nx, env, st')) : mkFn N gc b args st = gcF gc st.length .non st' := by
  unfold mkFn
  rw [h]
theorem fn_rt {N : Nat} {b : MS} {args : List Val} {st : Sto} {v : Val} {env : Env} (hs : StOk st) (h : b (args.map some ++ List.replicate (N - args.length) none) st = some (.rt v, env, st)) (hv : vbelow st.length v = true) : mkFn N .drop b args st = some (v, st) :=
  (mkFn_rt h).trans (gc_drop hs rfl hv)
theorem fn_nx {N : Nat} {b : MS} {args : List Val} {st : Sto} {env : Env} (hs : StOk st) (h : b (args.map some ++ List.replicate (N - args.length) none) st = some (.nx, env, st)) : mkFn N .drop b args st = some (.non, st) :=
  (mkFn_nx h).trans (gc_drop hs rfl rfl)
theorem fn_cut {N : Nat} {b : MS} {args : List Val} {st new : Sto} {v : Val} {env : Env} (hs : StOk st) (h : b (args.map some ++ List.replicate (N - args.length) none) st = some (.rt v, env, st ++ new)) (hv : vbelow st.length v = true) : mkFn N .drop b args st = some (v, st) :=
  (mkFn_rt h).trans (gc_cut hs rfl hv)
theorem seq_nx {a b : MS} {env env1 : Env} {st st1 : Sto} (h : a env st = some (.nx, env1, st1)) : sSeq a b env st = b env1 st1 := by
  unfold sSeq
  rw [h]
theorem seq_rt {a b : MS} {env env1 : Env} {st st1 : Sto} {v : Val} (h : a env st = some (.rt v, env1, st1)) : sSeq a b env st = some (.rt v, env1, st1) := by
  unfold sSeq
  rw [h]
theorem if_t {t : MT} {a b : MS} {env : Env} {st st1 : Sto} (h : t env st = some (true, st1)) : sIf t a b env st = a env st1 := by
  unfold sIf
  rw [h]
  rfl
theorem if_f {t : MT} {a b : MS} {env : Env} {st st1 : Sto} (h : t env st = some (false, st1)) : sIf t a b env st = b env st1 := by
  unfold sIf
  rw [h]
  rfl
theorem set_ok {i : Nat} {m : ME} {env : Env} {st st1 : Sto} {v : Val} (h : m env st = some (v, st1)) : sSet i m env st = some (.nx, env.set i (some v), st1) := by
  unfold sSet
  rw [h]
theorem ret_ok {m : ME} {env : Env} {st st1 : Sto} {v : Val} (h : m env st = some (v, st1)) : sRet m env st = some (.rt v, env, st1) := by
  unfold sRet
  rw [h]
/-! comprehensions whose turns leave the store -/
theorem lcL_pure {f : MP} {h : Val → List Val} {st : Sto} : ∀ xs : List Val, (∀ x ∈ xs, f x st = some (h x, st)) → lcL f xs st = some (xs.flatMap h, st)
  | [], _ => rfl
  | x :: xs, hf => by
    rw [lcL, hf x (List.mem_cons_self ..)]
    dsimp only
    rw [lcL_pure xs fun y hy => hf y (List.mem_cons_of_mem _ hy)]
    rfl
theorem lcV_pure {f : MP} {h : Val → List Val} {st : Sto} {k : Nat} {xs : List Val} (hk : st[k]? = some (.lst xs)) (hf : ∀ x ∈ xs, f x st = some (h x, st)) : ∀ (n i : Nat), xs.length - i < n → lcV f k n i st = some ((xs.drop i).flatMap h, st)
  | 0, _, hn => absurd hn (Nat.not_lt_zero _)
  | n + 1, i, hn => by
    rw [lcV, hk]
    dsimp only
    by_cases hi : i < xs.length
    · rw [List.getElem?_eq_getElem hi]
      dsimp only
      rw [hf _ (List.getElem_mem hi)]
      dsimp only
      rw [lcV_pure hk hf n (i + 1) (by omega)]
      dsimp only
      rw [List.drop_eq_getElem_cons hi, List.flatMap_cons]
    · rw [List.getElem?_eq_none (by omega), List.drop_eq_nil_of_le (by omega)]
      rfl
theorem fLc_vals {vs : List Nat} {mi : MI} {g : MG} {t : MT} {m : ME} {env : Env} {st st0 : Sto} {xs : List Val} {h : Val → List Val} (hi : mi env st0 = some (.vals xs, st)) (hf : ∀ x ∈ xs, step1 g t m (wipeE env vs) x st = some (h x, st)) (hl : (xs.flatMap h).length ≤ 1000000) :
    fLc vs mi g t m env st0 = some (xs.flatMap h, st) := by
  unfold fLc fLcOf
  rw [hi]
  dsimp only
  unfold lcS
  dsimp only
  rw [lcL_pure xs hf]
  dsimp only
  rw [if_pos (show lenOk _ = true from decide_eq_true hl)]
theorem fLc_live {vs : List Nat} {mi : MI} {g : MG} {t : MT} {m : ME} {env : Env} {st st0 : Sto} {k : Nat} {xs : List Val} {h : Val → List Val} (hi : mi env st0 = some (.live k, st)) (hk : st[k]? = some (.lst xs)) (hx : xs.length < 1000000) (hf : ∀ x ∈ xs, step1 g t m (wipeE env vs) x st = some (h x, st)) (hl : (xs.flatMap h).length ≤ 1000000) :
    fLc vs mi g t m env st0 = some (xs.flatMap h, st) := by
  unfold fLc fLcOf
  rw [hi]
  dsimp only
  unfold lcS
  dsimp only
  rw [lcV_pure hk hf loopFuel 0 (by unfold loopFuel; omega), List.drop_zero]
  dsimp only
  rw [if_pos (show lenOk _ = true from decide_eq_true hl)]
/-- one value a turn -/
theorem flat_one {α β : Type} (f : α → β) : ∀ xs : List α, xs.flatMap (fun x => [f x]) = xs.map f
  | [] => rfl
  | x :: xs => by rw [List.flatMap_cons, flat_one f xs]; rfl
theorem flat_if {α : Type} (p : α → Bool) : ∀ xs : List α, xs.flatMap (fun x => if p x = true then [x] else []) = xs.filter p
  | [] => rfl
  | x :: xs => by
    rw [List.flatMap_cons, flat_if p xs, List.filter_cons]
    cases p x <;> rfl
theorem vbools_all (xs : List Bool) : vbools (xs.map Val.bl) = some xs := by
  induction xs with
  | nil => rfl
  | cons x xs ih => rw [List.map_cons, vbools, ih]; rfl
/-! data of natural numbers -/
def vN (n : Nat) : Val := .int (n : Int)
def vG (g : List Nat) : Val := .tup (g.map vN)
def vO (o : List (List Nat)) : Val := .tup (o.map vG)
theorem vflats_map {α : Type} {f : α → Val} {n : Nat} (h : ∀ a, vflat n (f a) = true) : ∀ xs : List α, vflats n (xs.map f) = true
  | [] => by simp [vflats]
  | x :: xs => by rw [List.map_cons, vflats, h x, vflats_map h xs]; rfl
theorem vflat_N (n m : Nat) : vflat m (vN n) = true := by unfold vN; cases m <;> simp [vflat]
theorem vflat_G (g : List Nat) (m : Nat) : vflat (m + 1) (vG g) = true := by
  unfold vG
  rw [vflat]
  exact vflats_map (fun a => vflat_N a m) g
theorem vflat_O (o : List (List Nat)) (m : Nat) : vflat (m + 2) (vO o) = true := by
  unfold vO
  rw [vflat]
  exact vflats_map (fun a => vflat_G a m) o
theorem vbelows_map {α : Type} {f : α → Val} {n : Nat} (h : ∀ a, vbelow n (f a) = true) : ∀ xs : List α, vbelows n (xs.map f) = true
  | [] => rfl
  | x :: xs => by rw [List.map_cons, vbelows, h x, vbelows_map h xs]; rfl
theorem vbelow_N (n m : Nat) : vbelow m (vN n) = true := rfl
theorem vbelow_G (g : List Nat) (m : Nat) : vbelow m (vG g) = true := vbelows_map (fun a => vbelow_N a m) g
theorem vbelow_O (o : List (List Nat)) (m : Nat) : vbelow m (vO o) = true := vbelows_map (fun a => vbelow_G a m) o
theorem veq_N (a b : Nat) : veq (vN a) (vN b) = decide (a = b) := by
  unfold vN
  rw [veq]
  by_cases h : a = b
  · subst h; simp
  · simp [h, Int.natCast_inj]
theorem veqs_inj {α : Type} [DecidableEq α] {f : α → Val} (h : ∀ a b, veq (f a) (f b) = decide (a = b)) : ∀ xs ys : List α, veqs (xs.map f) (ys.map f) = decide (xs = ys)
  | [], [] => by simp [veqs]
  | [], y :: ys => by simp [veqs]
  | x :: xs, [] => by simp [veqs]
  | x :: xs, y :: ys => by
    rw [List.map_cons, List.map_cons, veqs, h, veqs_inj h xs ys]
    by_cases h1 : x = y <;> by_cases h2 : xs = ys <;> simp [h1, h2]
theorem veq_G (a b : List Nat) : veq (vG a) (vG b) = decide (a = b) := by
  unfold vG
  rw [veq]
  exact veqs_inj veq_N a b
theorem veq_O (a b : List (List Nat)) : veq (vO a) (vO b) = decide (a = b) := by
  unfold vO
  rw [veq]
  exact veqs_inj veq_G a b
theorem dref_O (st : Sto) (o : List (List Nat)) : dref st (vO o) = vO o := rfl
theorem dref_G (st : Sto) (o : List Nat) : dref st (vG o) = vG o := rfl
theorem vEq_O (a b : List (List Nat)) (st : Sto) : vEq (vO a) (vO b) st = some (.bl (decide (a = b)), st) := by
  unfold vEq
  rw [dref_O, dref_O, vflat_O, vflat_O, veq_O]
  rfl
theorem vNe_O (a b : List (List Nat)) (st : Sto) : vNe (vO a) (vO b) st = some (.bl (!decide (a = b)), st) := by
  unfold vNe
  rw [dref_O, dref_O, vflat_O, vflat_O, veq_O]
  rfl
theorem vNe_G (a b : List Nat) (st : Sto) : vNe (vG a) (vG b) st = some (.bl (!decide (a = b)), st) := by
  unfold vNe
  rw [dref_G, dref_G, vflat_G, vflat_G, veq_G]
  rfl
end Sh
namespace K83
open PySem PySem.Spec L2 Sh
theorem kB1 : kitB "int" "int" = some true := by decide +kernel
theorem kB2 : kitB "int" "bool" = some false := by decide +kernel
theorem kB3 : kitB "tuple" "tuple" = some true := by decide +kernel
theorem is_integer_ok {st : Sto} (h : StOk st) (n a b : Int) : f_is_integer [.int n, .int a, .int b] st = some (.bl (decide (a ≤ n) && decide (n ≤ b)), st) := by
  refine fn_rt h (ret_ok ?_) rfl
  by_cases h1 : a ≤ n
  · have e1 : decide (a ≤ n) = true := decide_eq_true h1
    simp [mAnd, mOr, mNot, mIsi, mChain, mBin, mBind, mVar, mC, aCons, aNil, aStar, mTup, mIf, mCall, tOf, tAndM, tOrM, tNotM, tyName, dref, vtru, vLt, vLe, vGt, vGe, vSub, vI2, vI2C, mB, bLen, vdict, bAll, bAny, vlist, vlistM, vseq, iSeq, Sh.iZip, Sh.iEnum, vtup2, vlst2, mSl, oNone, oSome, vSl, gNameM, gTupM, gConsM, gNilM, mFz, mNew, fLst, sSet, sPar, sAsg, sRet, sEx, sNext, sBk, sCt, tYesM, e1, kB1, kB2]
  · have e1 : decide (a ≤ n) = false := decide_eq_false h1
    simp [mAnd, mOr, mNot, mIsi, mChain, mBin, mBind, mVar, mC, aCons, aNil, aStar, mTup, mIf, mCall, tOf, tAndM, tOrM, tNotM, tyName, dref, vtru, vLt, vLe, vGt, vGe, vSub, vI2, vI2C, mB, bLen, vdict, bAll, bAny, vlist, vlistM, vseq, iSeq, Sh.iZip, Sh.iEnum, vtup2, vlst2, mSl, oNone, oSome, vSl, gNameM, gTupM, gConsM, gNilM, mFz, mNew, fLst, sSet, sPar, sAsg, sRet, sEx, sNext, sBk, sCt, tYesM, e1, kB1, kB2]
theorem is_tuple_ok {st : Sto} (h : StOk st) (xs : List Val) (a b : Int) : f_is_tuple [.tup xs, .int a, .int b] st = some (.bl (decide (a ≤ (xs.length : Int)) && decide ((xs.length : Int) ≤ b)), st) := by
  refine fn_rt h (ret_ok ?_) rfl
  by_cases h1 : a ≤ (xs.length : Int)
  · have e1 : decide (a ≤ (xs.length : Int)) = true := decide_eq_true h1
    simp [mAnd, mOr, mNot, mIsi, mChain, mBin, mBind, mVar, mC, aCons, aNil, aStar, mTup, mIf, mCall, tOf, tAndM, tOrM, tNotM, tyName, dref, vtru, vLt, vLe, vGt, vGe, vSub, vI2, vI2C, mB, bLen, vdict, bAll, bAny, vlist, vlistM, vseq, iSeq, Sh.iZip, Sh.iEnum, vtup2, vlst2, mSl, oNone, oSome, vSl, gNameM, gTupM, gConsM, gNilM, mFz, mNew, fLst, sSet, sPar, sAsg, sRet, sEx, sNext, sBk, sCt, tYesM, e1, kB3]
  · have e1 : decide (a ≤ (xs.length : Int)) = false := decide_eq_false h1
    simp [mAnd, mOr, mNot, mIsi, mChain, mBin, mBind, mVar, mC, aCons, aNil, aStar, mTup, mIf, mCall, tOf, tAndM, tOrM, tNotM, tyName, dref, vtru, vLt, vLe, vGt, vGe, vSub, vI2, vI2C, mB, bLen, vdict, bAll, bAny, vlist, vlistM, vseq, iSeq, Sh.iZip, Sh.iEnum, vtup2, vlst2, mSl, oNone, oSome, vSl, gNameM, gTupM, gConsM, gNilM, mFz, mNew, fLst, sSet, sPar, sAsg, sRet, sEx, sNext, sBk, sCt, tYesM, e1, kB3]
theorem is_tuple_okP {st : Sto} (h : StOk st) (xs : List Val) (a b : Int) : f_is_tuple [.tpl xs, .int a, .int b] st = some (.bl (decide (a ≤ (xs.length : Int)) && decide ((xs.length : Int) ≤ b)), st) := by
  refine fn_rt h (ret_ok ?_) rfl
  by_cases h1 : a ≤ (xs.length : Int)
  · have e1 : decide (a ≤ (xs.length : Int)) = true := decide_eq_true h1
    simp [mAnd, mOr, mNot, mIsi, mChain, mBin, mBind, mVar, mC, aCons, aNil, aStar, mTup, mIf, mCall, tOf, tAndM, tOrM, tNotM, tyName, dref, vtru, vLt, vLe, vGt, vGe, vSub, vI2, vI2C, mB, bLen, vdict, bAll, bAny, vlist, vlistM, vseq, iSeq, Sh.iZip, Sh.iEnum, vtup2, vlst2, mSl, oNone, oSome, vSl, gNameM, gTupM, gConsM, gNilM, mFz, mNew, fLst, sSet, sPar, sAsg, sRet, sEx, sNext, sBk, sCt, tYesM, e1, kB3]
  · have e1 : decide (a ≤ (xs.length : Int)) = false := decide_eq_false h1
    simp [mAnd, mOr, mNot, mIsi, mChain, mBin, mBind, mVar, mC, aCons, aNil, aStar, mTup, mIf, mCall, tOf, tAndM, tOrM, tNotM, tyName, dref, vtru, vLt, vLe, vGt, vGe, vSub, vI2, vI2C, mB, bLen, vdict, bAll, bAny, vlist, vlistM, vseq, iSeq, Sh.iZip, Sh.iEnum, vtup2, vlst2, mSl, oNone, oSome, vSl, gNameM, gTupM, gConsM, gNilM, mFz, mNew, fLst, sSet, sPar, sAsg, sRet, sEx, sNext, sBk, sCt, tYesM, e1, kB3]
end K83

-- part M2
set_option Elab.async false
set_option linter.all false
set_option maxRecDepth 100000
set_option maxHeartbeats 400000
namespace Sh
open PySem PySem.Spec L2
theorem vbools_map {α : Type} (p : α → Bool) : ∀ xs : List α, vbools (xs.map fun x => Val.bl (p x)) = some (xs.map p)
  | [] => rfl
  | x :: xs => by rw [List.map_cons, vbools, vbools_map p xs]; rfl
theorem all_fz {α : Type} {C : MA} {env : Sh.Env} {st st0 : Sto} {xs : List α} {p : α → Bool} (h : C env st0 = some (xs.map (fun x => Val.bl (p x)), st)) : mB bAll (aCons (mFz C) aNil) env st0 = some (.bl (xs.all p), st) := by
  simp [mB, aCons, aNil, mFz, mBind, h, bAll, vlist, dref, vbools_map, List.all_map, Function.comp_def]
theorem any_fz {α : Type} {C : MA} {env : Sh.Env} {st st0 : Sto} {xs : List α} {p : α → Bool} (h : C env st0 = some (xs.map (fun x => Val.bl (p x)), st)) : mB bAny (aCons (mFz C) aNil) env st0 = some (.bl (xs.any p), st) := by
  simp [mB, aCons, aNil, mFz, mBind, h, bAny, vlist, dref, vbools_map, List.any_map, Function.comp_def]
/-- a comprehension over values, one value a turn -/
theorem fLc_map {α : Type} {vs : List Nat} {mi : MI} {g : MG} {t : MT} {m : ME} {env : Sh.Env} {st st0 : Sto} {xs : List α} {f : α → Val} {h : α → Val} (hi : mi env st0 = some (.vals (xs.map f), st)) (hf : ∀ x ∈ xs, step1 g t m (wipeE env vs) (f x) st = some ([h x], st)) (hl : xs.length ≤ 1000000) :
    fLc vs mi g t m env st0 = some (xs.map h, st) := by
  unfold fLc fLcOf
  rw [hi]
  dsimp only
  unfold lcS
  dsimp only
  have key : ∀ ys : List α, (∀ x ∈ ys, step1 g t m (wipeE env vs) (f x) st = some ([h x], st)) → lcL (step1 g t m (wipeE env vs)) (ys.map f) st = some (ys.map h, st) := by
    intro ys
    induction ys with
    | nil => intro _; rfl
    | cons y ys ih =>
      intro hy
      rw [List.map_cons, lcL, hy y (List.mem_cons_self ..)]
      dsimp only
      rw [ih fun z hz => hy z (List.mem_cons_of_mem _ hz)]
      rfl
  rw [key xs hf]
  dsimp only
  rw [if_pos (show lenOk _ = true from decide_eq_true (by rw [List.length_map]; exact hl))]
theorem fLc_filter {α : Type} {vs : List Nat} {mi : MI} {g : MG} {t : MT} {m : ME} {env : Sh.Env} {st st0 : Sto} {xs : List α} {f : α → Val} {h : α → Val} {p : α → Bool} (hi : mi env st0 = some (.vals (xs.map f), st)) (hf : ∀ x ∈ xs, step1 g t m (wipeE env vs) (f x) st = some (if p x = true then [h x] else [], st)) (hl : xs.length ≤ 1000000) :
    fLc vs mi g t m env st0 = some ((xs.filter p).map h, st) := by
  unfold fLc fLcOf
  rw [hi]
  dsimp only
  unfold lcS
  dsimp only
  have key : ∀ ys : List α, (∀ x ∈ ys, step1 g t m (wipeE env vs) (f x) st = some (if p x = true then [h x] else [], st)) → lcL (step1 g t m (wipeE env vs)) (ys.map f) st = some ((ys.filter p).map h, st) := by
    intro ys
    induction ys with
    | nil => intro _; rfl
    | cons y ys ih =>
      intro hy
      rw [List.map_cons, lcL, hy y (List.mem_cons_self ..)]
      dsimp only
      rw [ih fun z hz => hy z (List.mem_cons_of_mem _ hz), List.filter_cons]
      cases p y <;> rfl
  rw [key xs hf]
  dsimp only
  have hz : ((xs.filter p).map h).length ≤ 1000000 := by
    rw [List.length_map]
    exact Nat.le_trans (List.length_filter_le ..) hl
  rw [if_pos (show lenOk _ = true from decide_eq_true hz)]
/-- two fors over lists of lists: the items themselves -/
theorem fLc2_flat {α : Type} {vs : List Nat} {mi : MI} {g : MG} {t : MT} {mi1 : MI} {vs1 : List Nat} {g1 : MG} {t1 : MT} {m : ME} {env : Sh.Env} {st st0 : Sto} {xs : List α} {f : α → Val} {h : α → List Val} (hi : mi env st0 = some (.vals (xs.map f), st))
    (hf : ∀ x ∈ xs, step2 g t mi1 vs1 g1 t1 m (wipeE env vs) (f x) st = some (h x, st)) (hl : (xs.flatMap h).length ≤ 1000000) : fLc2 vs mi g t mi1 vs1 g1 t1 m env st0 = some (xs.flatMap h, st) := by
  unfold fLc2 fLcOf
  rw [hi]
  dsimp only
  unfold lcS
  dsimp only
  have key : ∀ ys : List α, (∀ x ∈ ys, step2 g t mi1 vs1 g1 t1 m (wipeE env vs) (f x) st = some (h x, st)) → lcL (step2 g t mi1 vs1 g1 t1 m (wipeE env vs)) (ys.map f) st = some (ys.flatMap h, st) := by
    intro ys
    induction ys with
    | nil => intro _; rfl
    | cons y ys ih =>
      intro hy
      rw [List.map_cons, lcL, hy y (List.mem_cons_self ..)]
      dsimp only
      rw [ih fun z hz => hy z (List.mem_cons_of_mem _ hz)]
      rfl
  rw [key xs hf]
  dsimp only
  rw [if_pos (show lenOk _ = true from decide_eq_true hl)]
theorem lcL_map {α : Type} {f : MP} {st : Sto} {e : α → Val} {h : α → Val} : ∀ ys : List α, (∀ x ∈ ys, f (e x) st = some ([h x], st)) → lcL f (ys.map e) st = some (ys.map h, st)
  | [], _ => rfl
  | y :: ys, hy => by
    rw [List.map_cons, lcL, hy y (List.mem_cons_self ..)]
    dsimp only
    rw [lcL_map ys fun z hz => hy z (List.mem_cons_of_mem _ hz)]
    rfl
theorem a_nil {env : Sh.Env} {st : Sto} : aNil env st = some ([], st) := rfl
theorem a_cons {m : ME} {r : MA} {env : Sh.Env} {st st1 st2 : Sto} {v : Val} {vs : List Val} (h : m env st = some (v, st1)) (hr : r env st1 = some (vs, st2)) : aCons m r env st = some (v :: vs, st2) := by
  unfold aCons mBind
  rw [h]
  dsimp only
  rw [hr]
theorem a_one {m : ME} {env : Sh.Env} {st st1 : Sto} {v : Val} (h : m env st = some (v, st1)) : aCons m aNil env st = some ([v], st1) := a_cons h a_nil
theorem mB_ok {f : List Val → Sto → Option (Val × Sto)} {as : MA} {env : Sh.Env} {st st1 : Sto} {vs : List Val} (h : as env st = some (vs, st1)) : mB f as env st = f vs st1 := by
  unfold mB mBind
  rw [h]
theorem fB_ok {f : List Val → Sto → Option (List Val)} {as : MA} {env : Sh.Env} {st st1 : Sto} {vs ys : List Val} (h : as env st = some (vs, st1)) (hf : f vs st1 = some ys) : fB f as env st = some (ys, st1) := by
  unfold fB mBind
  rw [h]
  dsimp only
  rw [hf]
theorem call_ok2 {n : Nat} {f : Fn} {as : MA} {env : Sh.Env} {st st1 : Sto} {vs : List Val} (h : as env st = some (vs, st1)) (hn : vs.length = n) : mCall n f as env st = f vs st1 := by
  unfold mCall mBind
  rw [h]
  dsimp only
  rw [if_pos hn]
theorem seq_tup {m : ME} {env : Sh.Env} {st st1 : Sto} {xs : List Val} (h : m env st = some (.tup xs, st1)) : iSeq m env st = some (.vals xs, st1) := by
  unfold iSeq mBind
  rw [h]
theorem seq_lst {m : ME} {env : Sh.Env} {st st1 : Sto} {xs : List Val} (h : m env st = some (.lst xs, st1)) : iSeq m env st = some (.vals xs, st1) := by
  unfold iSeq mBind
  rw [h]
theorem seq_live {m : ME} {env : Sh.Env} {st st1 : Sto} {k : Nat} {xs : List Val} (h : m env st = some (.ref k, st1)) (hk : st1[k]? = some (.lst xs)) : iSeq m env st = some (.live k, st1) := by
  unfold iSeq mBind
  rw [h]
  dsimp only
  rw [hk]
theorem var_ok {i : Nat} {env : Sh.Env} {st : Sto} {v : Val} (h : env[i]? = some (some v)) : mVar i env st = some (v, st) := by
  unfold mVar
  rw [h]
theorem step1_yes {g : MG} {m : ME} {env0 env1 : Sh.Env} {x v : Val} {st st1 st2 : Sto} (hg : g x env0 st = some (env1, st1)) (hm : m env1 st1 = some (v, st2)) : step1 g tYesM m env0 x st = some ([v], st2) := by
  unfold step1
  rw [hg]
  dsimp only
  unfold tYesM
  dsimp only
  rw [hm]
theorem mfz_ok {C : MA} {env : Sh.Env} {st st1 : Sto} {xs : List Val} (h : C env st = some (xs, st1)) : mFz C env st = some (.lst xs, st1) := by
  unfold mFz mBind
  rw [h]
theorem bin_ok2 {f : Val → Val → Sto → Option (Val × Sto)} {a b : ME} {env : Sh.Env} {st st1 st2 : Sto} {u v : Val} (ha : a env st = some (u, st1)) (hb : b env st1 = some (v, st2)) : mBin f a b env st = f u v st2 := by
  unfold mBin mBind
  rw [ha]
  dsimp only
  rw [hb]
theorem tor_f {a b : MT} {env : Sh.Env} {st st1 : Sto} {r : Option (Bool × Sto)} (h : a env st = some (false, st1)) (h2 : b env st1 = r) : tOrM a b env st = r := by
  unfold tOrM mBind
  rw [h]
  exact h2
theorem tor_t {a b : MT} {env : Sh.Env} {st st1 : Sto} (h : a env st = some (true, st1)) : tOrM a b env st = some (true, st1) := by
  unfold tOrM mBind
  rw [h]
  rfl
theorem tand_t {a b : MT} {env : Sh.Env} {st st1 : Sto} {r : Option (Bool × Sto)} (h : a env st = some (true, st1)) (h2 : b env st1 = r) : tAndM a b env st = r := by
  unfold tAndM mBind
  rw [h]
  exact h2
theorem tand_f {a b : MT} {env : Sh.Env} {st st1 : Sto} (h : a env st = some (false, st1)) : tAndM a b env st = some (false, st1) := by
  unfold tAndM mBind
  rw [h]
  rfl
theorem tnot {a : MT} {env : Sh.Env} {st st1 : Sto} {b : Bool} (h : a env st = some (b, st1)) : tNotM a env st = some (!b, st1) := by
  unfold tNotM mBind
  rw [h]
theorem tof_bl {m : ME} {env : Sh.Env} {st st1 : Sto} {b : Bool} (h : m env st = some (.bl b, st1)) : tOf m env st = some (b, st1) := by
  unfold tOf mBind
  rw [h]
  rfl
/-- lists of small numbers, each once, are short -/
theorem short_of {g : List Nat} {n : Nat} (h1 : g.Nodup) (h2 : ∀ x ∈ g, x < n) : g.length ≤ n := by
  have := h1.length_le_of_subset (l₂ := List.range n) fun x hx => List.mem_range.mpr (h2 x hx)
  rwa [List.length_range] at this
theorem zip_pairs {α : Type} (f : α → Val) : ∀ (g : List α), zipV (g.map f) ((g.map f).drop 1) = (g.zip (g.drop 1)).map fun p => .tup [f p.1, f p.2] := by
  have key : ∀ (g h : List α), zipV (g.map f) (h.map f) = (g.zip h).map fun p => .tup [f p.1, f p.2] := by
    intro g
    induction g with
    | nil => intro h; simp [zipV]
    | cons x g ih =>
      intro h
      cases h with
      | nil => simp [zipV]
      | cons y h => simp [zipV, ih h]
  intro g
  rw [← List.map_drop]
  exact key g _
theorem vcut_1 (xs : List Val) : vcut xs (some 1) none = xs.drop 1 := by
  unfold vcut
  cases xs with
  | nil => simp
  | cons x xs =>
    have e1 : HT.sIx (x :: xs).length 0 (some 1) = 1 := by
      unfold HT.sIx
      simp
    have e2 : HT.sIx (x :: xs).length (x :: xs).length none = (x :: xs).length := by
      unfold HT.sIx
      simp
    rw [e1, e2]
    simp
/-- a group: ascending, small -/
structure Asc (g : List Nat) : Prop where
  lt : g.Pairwise (· < ·)
  sm : ∀ n ∈ g, n ≤ 9
theorem Asc.nodup {g : List Nat} (h : Asc g) : g.Nodup := h.lt.imp fun h => Nat.ne_of_lt h
theorem Asc.short {g : List Nat} (h : Asc g) : g.length ≤ 10 := short_of h.nodup fun x hx => Nat.lt_succ_of_le (h.sm x hx)
theorem pairwise_zip : ∀ {g : List Nat}, g.Pairwise (· < ·) → ∀ p ∈ g.zip (g.drop 1), p.1 < p.2
  | [], _, p, hp => by simp at hp
  | [_], _, p, hp => by simp at hp
  | x :: y :: g, h, p, hp => by
    have hp : p ∈ (x, y) :: (y :: g).zip ((y :: g).drop 1) := by simpa using hp
    rcases List.mem_cons.mp hp with rfl | hp
    · exact (List.pairwise_cons.mp h).1 y (List.mem_cons_self ..)
    · exact pairwise_zip (List.pairwise_cons.mp h).2 p hp
end Sh
namespace K83
open PySem PySem.Spec L2 Sh
theorem asc_ok {st : Sto} (h : StOk st) {g : List Nat} (a : Asc g) : f_is_ascending [vG g, .int 0, .int 9] st = some (.bl true, st) := by
  have hs := a.short
  have hs1 : g.length ≤ 1000000 := by omega
  have hz : (g.zip (g.drop 1)).length ≤ 1000000 := by
    rw [List.length_zip]
    omega
  refine fn_rt h (env := [some (vG g), some (.int 0), some (.int 9), none, none]) ?_ rfl
  have e1 : fLc [3] (iSeq (mVar 0)) (gNameM 3) tYesM (mCall 3 f_is_integer (aCons (mVar 3) (aCons (mVar 1) (aCons (mVar 2) aNil)))) [some (vG g), some (.int 0), some (.int 9), none, none] st = some (g.map (fun n => Val.bl true), st) := by
    refine fLc_map (f := vN) (by simp [mAnd, mOr, mNot, mIsi, mChain, mBin, mBind, mVar, mC, aCons, aNil, aStar, mTup, mIf, mCall, tOf, tAndM, tOrM, tNotM, tyName, dref, vtru, vLt, vLe, vGt, vGe, vSub, vI2, vI2C, mB, bLen, vdict, bAll, bAny, vlist, vlistM, vseq, iSeq, Sh.iZip, Sh.iEnum, vtup2, vlst2, mSl, oNone, oSome, vSl, gNameM, gTupM, gConsM, gNilM, mFz, mNew, fLst, sSet, sPar, sAsg, sRet, sEx, sNext, sBk, sCt, tYesM, vG]) (fun n hn => ?_) hs1
    have := a.sm n hn
    have e0 := is_integer_ok h (n : Int) 0 9
    have e00 : decide ((n : Int) ≤ 9) = true := decide_eq_true (by omega)
    simp [step1, wipeE, mAnd, mOr, mNot, mIsi, mChain, mBin, mBind, mVar, mC, aCons, aNil, aStar, mTup, mIf, mCall, tOf, tAndM, tOrM, tNotM, tyName, dref, vtru, vLt, vLe, vGt, vGe, vSub, vI2, vI2C, mB, bLen, vdict, bAll, bAny, vlist, vlistM, vseq, iSeq, Sh.iZip, Sh.iEnum, vtup2, vlst2, mSl, oNone, oSome, vSl, gNameM, gTupM, gConsM, gNilM, mFz, mNew, fLst, sSet, sPar, sAsg, sRet, sEx, sNext, sBk, sCt, tYesM, vN, e0, e00]
  have e2 : mB bAll (aCons (mFz (fLc [3] (iSeq (mVar 0)) (gNameM 3) tYesM (mCall 3 f_is_integer (aCons (mVar 3) (aCons (mVar 1) (aCons (mVar 2) aNil)))))) aNil) [some (vG g), some (.int 0), some (.int 9), none, none] st = some (.bl true, st) := by
    rw [all_fz e1]
    simp
  have e3 : mCall 3 f_is_tuple (aCons (mVar 0) (aCons (mC (.int 0)) (aCons (mBin vAdd (mBin vSub (mVar 2) (mVar 1)) (mC (.int 1))) aNil))) [some (vG g), some (.int 0), some (.int 9), none, none] st = some (.bl true, st) := by
    have := is_tuple_ok h (g.map vN) 0 10
    have e00 : decide (((g.map vN).length : Int) ≤ 10) = true := decide_eq_true (by rw [List.length_map]; omega)
    rw [e00] at this
    simp [mAnd, mOr, mNot, mIsi, mChain, mBin, mBind, mVar, mC, aCons, aNil, aStar, mTup, mIf, mCall, tOf, tAndM, tOrM, tNotM, tyName, dref, vtru, vLt, vLe, vGt, vGe, vSub, vI2, vI2C, mB, bLen, vdict, bAll, bAny, vlist, vlistM, vseq, iSeq, Sh.iZip, Sh.iEnum, vtup2, vlst2, mSl, oNone, oSome, vSl, gNameM, gTupM, gConsM, gNilM, mFz, mNew, fLst, sSet, sPar, sAsg, sRet, sEx, sNext, sBk, sCt, tYesM, vAdd, vG] at this ⊢
    exact this
  have e4 : fLc [3, 4] (Sh.iZip (aCons (mVar 0) (aCons (mSl (mVar 0) (oSome (mC (.int 1))) oNone) aNil))) (gTupM (gConsM (gNameM 3) (gConsM (gNameM 4) gNilM))) tYesM (mBin vLt (mVar 3) (mVar 4)) [some (vG g), some (.int 0), some (.int 9), none, none] st = some ((g.zip (g.drop 1)).map (fun _ => Val.bl true), st) := by
    refine fLc_map (f := fun p : Nat × Nat => .tup [vN p.1, vN p.2]) ?_ (fun p hp => ?_) hz
    · have e0 := zip_pairs vN g
      simp [mAnd, mOr, mNot, mIsi, mChain, mBin, mBind, mVar, mC, aCons, aNil, aStar, mTup, mIf, mCall, tOf, tAndM, tOrM, tNotM, tyName, dref, vtru, vLt, vLe, vGt, vGe, vSub, vI2, vI2C, mB, bLen, vdict, bAll, bAny, vlist, vlistM, vseq, iSeq, Sh.iZip, Sh.iEnum, vtup2, vlst2, mSl, oNone, oSome, vSl, gNameM, gTupM, gConsM, gNilM, mFz, mNew, fLst, sSet, sPar, sAsg, sRet, sEx, sNext, sBk, sCt, tYesM, vG, oSome, vcut_1] at e0 ⊢
      exact e0
    · have := pairwise_zip a.lt p hp
      simp [step1, wipeE, mAnd, mOr, mNot, mIsi, mChain, mBin, mBind, mVar, mC, aCons, aNil, aStar, mTup, mIf, mCall, tOf, tAndM, tOrM, tNotM, tyName, dref, vtru, vLt, vLe, vGt, vGe, vSub, vI2, vI2C, mB, bLen, vdict, bAll, bAny, vlist, vlistM, vseq, iSeq, Sh.iZip, Sh.iEnum, vtup2, vlst2, mSl, oNone, oSome, vSl, gNameM, gTupM, gConsM, gNilM, mFz, mNew, fLst, sSet, sPar, sAsg, sRet, sEx, sNext, sBk, sCt, tYesM, vN]
      omega
  refine (seq_nx (env1 := [some (vG g), some (.int 0), some (.int 9), none, none]) (st1 := st) ?_).trans (ret_ok ?_)
  · exact (if_f (tor_f (tnot (tof_bl e3)) (tnot (tof_bl e2)))).trans rfl
  · refine (all_fz e4).trans ?_
    simp
/-- check_clocks -/
theorem chk_clocks {st : Sto} (h : StOk st) {g : List Nat} (a : Asc g) : f_check_clocks [vG g] st = some (.non, st) := by
  refine fn_nx h (env := [some (vG g)]) ?_
  have e : mCall 3 f_is_ascending (aCons (mVar 0) (aCons (mC (.int 0)) (aCons (mC (.int 9)) aNil))) [some (vG g)] st = some (.bl true, st) := by
    have := asc_ok h a
    simp [mAnd, mOr, mNot, mIsi, mChain, mBin, mBind, mVar, mC, aCons, aNil, aStar, mTup, mIf, mCall, tOf, tAndM, tOrM, tNotM, tyName, dref, vtru, vLt, vLe, vGt, vGe, vSub, vI2, vI2C, mB, bLen, vdict, bAll, bAny, vlist, vlistM, vseq, iSeq, Sh.iZip, Sh.iEnum, vtup2, vlst2, mSl, oNone, oSome, vSl, gNameM, gTupM, gConsM, gNilM, mFz, mNew, fLst, sSet, sPar, sAsg, sRet, sEx, sNext, sBk, sCt, tYesM, this]
  exact (if_f (tnot (tof_bl e))).trans rfl
theorem group_ok {st : Sto} (h : StOk st) {g : List Nat} (a : Asc g) (hn : g ≠ []) : f_is_group [vG g] st = some (.bl true, st) := by
  refine fn_rt h (ret_ok ?_) rfl
  have := asc_ok h a
  have e2 := vNe_G g [] st
  have e3 : vG [] = .tup [] := rfl
  rw [e3] at e2
  simp [mAnd, mOr, mNot, mIsi, mChain, mBin, mBind, mVar, mC, aCons, aNil, aStar, mTup, mIf, mCall, tOf, tAndM, tOrM, tNotM, tyName, dref, vtru, vLt, vLe, vGt, vGe, vSub, vI2, vI2C, mB, bLen, vdict, bAll, bAny, vlist, vlistM, vseq, iSeq, Sh.iZip, Sh.iEnum, vtup2, vlst2, mSl, oNone, oSome, vSl, gNameM, gTupM, gConsM, gNilM, mFz, mNew, fLst, sSet, sPar, sAsg, sRet, sEx, sNext, sBk, sCt, tYesM, this, e2, hn, lenOk]
/-- an order -/
structure Ord (o : List (List Nat)) : Prop where
  grp : ∀ g ∈ o, Asc g ∧ g ≠ []
  nd : o.flatten.Nodup
theorem Ord.sm {o : List (List Nat)} (h : Ord o) : ∀ n ∈ o.flatten, n < 10 := by
  intro n hn
  obtain ⟨g, h1, h2⟩ := List.mem_flatten.mp hn
  exact Nat.lt_succ_of_le ((h.grp g h1).1.sm n h2)
theorem Ord.short {o : List (List Nat)} (h : Ord o) : o.flatten.length ≤ 10 := short_of h.nd h.sm
theorem len_le_flat : ∀ {o : List (List Nat)}, (∀ g ∈ o, g ≠ []) → o.length ≤ o.flatten.length
  | [], _ => Nat.le_refl _
  | g :: o, h => by
    have h1 := len_le_flat (o := o) fun x hx => h x (List.mem_cons_of_mem _ hx)
    have h2 : 0 < g.length := List.length_pos_iff.mpr (h g (List.mem_cons_self ..))
    rw [List.flatten_cons, List.length_append, List.length_cons]
    omega
theorem Ord.len {o : List (List Nat)} (h : Ord o) : o.length ≤ 10 := Nat.le_trans (len_le_flat fun g hg => (h.grp g hg).2) h.short
theorem flat_map (o : List (List Nat)) : o.flatMap (fun g => g.map vN) = o.flatten.map vN := by
  induction o with
  | nil => rfl
  | cons g o ih => rw [List.flatMap_cons, ih, List.flatten_cons, List.map_append]
/-- [clock for group in order for clock in group] -/
theorem lc_flat {st : Sto} {o : List (List Nat)} {env : Sh.Env} {i j k : Nat} (hv : env[i]? = some (some (vO o))) (hj : j < env.length) (hk : k < env.length) (hjk : j ≠ k) (hl : o.flatten.length ≤ 1000000) :
    fLc2 [j, k] (iSeq (mVar i)) (gNameM j) tYesM (iSeq (mVar j)) [k] (gNameM k) tYesM (mVar k) env st = some (o.flatten.map vN, st) := by
  rw [← flat_map]
  refine fLc2_flat (f := vG) ?_ (fun g hg => ?_) (by rw [flat_map, List.length_map]; exact hl)
  · simp [mAnd, mOr, mNot, mIsi, mChain, mBin, mBind, mVar, mC, aCons, aNil, aStar, mTup, mIf, mCall, tOf, tAndM, tOrM, tNotM, tyName, dref, vtru, vLt, vLe, vGt, vGe, vSub, vI2, vI2C, mB, bLen, vdict, bAll, bAny, vlist, vlistM, vseq, iSeq, Sh.iZip, Sh.iEnum, vtup2, vlst2, mSl, oNone, oSome, vSl, gNameM, gTupM, gConsM, gNilM, mFz, mNew, fLst, sSet, sPar, sAsg, sRet, sEx, sNext, sBk, sCt, tYesM, hv, vO]
  · have w1 : (wipeE env [j, k]).length = env.length := by simp [wipeE]
    have q1 : ((wipeE env [j, k]).set j (some (vG g)))[j]? = some (some (vG g)) := List.getElem?_set_self (by rw [w1]; exact hj)
    have e1 : step2 (gNameM j) tYesM (iSeq (mVar j)) [k] (gNameM k) tYesM (mVar k) (wipeE env [j, k]) (vG g) st = lcS (step1 (gNameM k) tYesM (mVar k) (wipeE ((wipeE env [j, k]).set j (some (vG g))) [k])) (.vals (g.map vN)) st := by
      have e0 : iSeq (mVar j) ((wipeE env [j, k]).set j (some (vG g))) st = some (.vals (g.map vN), st) := seq_tup (var_ok q1)
      unfold step2 gNameM
      dsimp only
      unfold tYesM
      dsimp only
      rw [e0]
    rw [e1]
    unfold lcS
    refine lcL_map g fun n hn => ?_
    have q2 : ((wipeE ((wipeE env [j, k]).set j (some (vG g))) [k]).set k (some (vN n)))[k]? = some (some (vN n)) := List.getElem?_set_self (by simp [wipeE]; exact hk)
    simp [step1, mAnd, mOr, mNot, mIsi, mChain, mBin, mBind, mVar, mC, aCons, aNil, aStar, mTup, mIf, mCall, tOf, tAndM, tOrM, tNotM, tyName, dref, vtru, vLt, vLe, vGt, vGe, vSub, vI2, vI2C, mB, bLen, vdict, bAll, bAny, vlist, vlistM, vseq, iSeq, Sh.iZip, Sh.iEnum, vtup2, vlst2, mSl, oNone, oSome, vSl, gNameM, gTupM, gConsM, gNilM, mFz, mNew, fLst, sSet, sPar, sAsg, sRet, sEx, sNext, sBk, sCt, tYesM, q2]
/-- a put of a new key -/
theorem dput_new {kvs : List (Val × Val)} {k v : Val} (h : ∀ p ∈ kvs, veq p.1 k = false) : dput kvs k v = kvs ++ [(k, v)] := by
  unfold dput
  rw [if_neg]
  intro q
  obtain ⟨p, hp, hq⟩ := List.any_eq_true.mp q
  rw [h p hp] at hq
  cases hq
theorem get_last {α : Type} (l : List α) (a : α) : (l ++ [a])[l.length]? = some a := by simp
theorem set_last {α : Type} (l : List α) (a b : α) : (l ++ [a]).set l.length b = l ++ [b] := by simp
theorem dc_nat {st : Sto} {env : Sh.Env} {k : Nat} (hk : k < env.length) : ∀ (l acc : List Nat), (acc ++ l).Nodup → (acc ++ l).length ≤ 1000000 →
    dcL st.length (gNameM k) tYesM (mVar k) (mC (.bl true)) env (l.map vN) (st ++ [.dct (acc.map fun n => (vN n, .bl true))]) = some (st ++ [.dct ((acc ++ l).map fun n => (vN n, .bl true))])
  | [], acc, _, _ => by rw [List.append_nil]; rfl
  | n :: l, acc, hn, hl => by
    have q1 : (env.set k (some (vN n)))[k]? = some (some (vN n)) := List.getElem?_set_self hk
    have hfit : keyFit (acc.map fun n => (vN n, Val.bl true)) (vN n) = true := by
      cases acc with
      | nil => rfl
      | cons a acc => rfl
    have hput : dput (acc.map fun n => (vN n, Val.bl true)) (vN n) (.bl true) = (acc ++ [n]).map fun n => (vN n, Val.bl true) := by
      rw [dput_new, List.map_append]
      · rfl
      · intro p hp
        obtain ⟨a, ha, rfl⟩ := List.mem_map.mp hp
        rw [veq_N]
        refine decide_eq_false fun e => ?_
        subst e
        exact (List.nodup_append.mp hn).2.2 a ha a (List.mem_cons_self ..) rfl
    have hlen : lenOk (acc.map fun n => (vN n, Val.bl true)).length = true := by
      refine decide_eq_true ?_
      rw [List.length_map]
      rw [List.length_append] at hl
      omega
    have e1 : dcTurn st.length (gNameM k) tYesM (mVar k) (mC (.bl true)) env (vN n) (st ++ [.dct (acc.map fun n => (vN n, .bl true))]) = some (st ++ [.dct ((acc ++ [n]).map fun n => (vN n, .bl true))]) := by
      simp only [dcTurn, gNameM, tYesM, mVar, mC, q1, putN, get_last, hfit, hlen, hput, set_last]
      rfl
    have e2 := dc_nat (st := st) hk l (acc ++ [n]) (by simpa using hn) (by simpa using hl)
    rw [List.map_cons, dcL, e1]
    dsimp only
    rw [e2]
    simp
theorem order_ok {st : Sto} (h : StOk st) {o : List (List Nat)} (a : Ord o) : f_is_order [vO o] st = some (.bl true, st) := by
  have hs := a.short
  have hl := a.len
  have hs1 : o.flatten.length ≤ 1000000 := by omega
  have e1 : fLc [2] (iSeq (mVar 0)) (gNameM 2) tYesM (mCall 1 f_is_group (aCons (mVar 2) aNil)) [some (vO o), none, none, none] st = some (o.map (fun n => Val.bl true), st) := by
    refine fLc_map (f := vG) (by simp [mAnd, mOr, mNot, mIsi, mChain, mBin, mBind, mVar, mC, aCons, aNil, aStar, mTup, mIf, mCall, tOf, tAndM, tOrM, tNotM, tyName, dref, vtru, vLt, vLe, vGt, vGe, vSub, vI2, vI2C, mB, bLen, vdict, bAll, bAny, vlist, vlistM, vseq, iSeq, Sh.iZip, Sh.iEnum, vtup2, vlst2, mSl, oNone, oSome, vSl, gNameM, gTupM, gConsM, gNilM, mFz, mNew, fLst, sSet, sPar, sAsg, sRet, sEx, sNext, sBk, sCt, tYesM, vO]) (fun g hg => ?_) (by omega)
    have e0 := group_ok h (a.grp g hg).1 (a.grp g hg).2
    simp [step1, wipeE, mAnd, mOr, mNot, mIsi, mChain, mBin, mBind, mVar, mC, aCons, aNil, aStar, mTup, mIf, mCall, tOf, tAndM, tOrM, tNotM, tyName, dref, vtru, vLt, vLe, vGt, vGe, vSub, vI2, vI2C, mB, bLen, vdict, bAll, bAny, vlist, vlistM, vseq, iSeq, Sh.iZip, Sh.iEnum, vtup2, vlst2, mSl, oNone, oSome, vSl, gNameM, gTupM, gConsM, gNilM, mFz, mNew, fLst, sSet, sPar, sAsg, sRet, sEx, sNext, sBk, sCt, tYesM, e0]
  have e2 : mB bAll (aCons (mFz (fLc [2] (iSeq (mVar 0)) (gNameM 2) tYesM (mCall 1 f_is_group (aCons (mVar 2) aNil)))) aNil) [some (vO o), none, none, none] st = some (.bl true, st) := by
    rw [all_fz e1]
    simp
  have e3 : mCall 3 f_is_tuple (aCons (mVar 0) (aCons (mC (.int 0)) (aCons (mBin vAdd (mC (.int 9)) (mC (.int 1))) aNil))) [some (vO o), none, none, none] st = some (.bl true, st) := by
    have := is_tuple_ok h (o.map vG) 0 10
    have e00 : decide (((o.map vG).length : Int) ≤ 10) = true := decide_eq_true (by rw [List.length_map]; omega)
    rw [e00] at this
    simp [mAnd, mOr, mNot, mIsi, mChain, mBin, mBind, mVar, mC, aCons, aNil, aStar, mTup, mIf, mCall, tOf, tAndM, tOrM, tNotM, tyName, dref, vtru, vLt, vLe, vGt, vGe, vSub, vI2, vI2C, mB, bLen, vdict, bAll, bAny, vlist, vlistM, vseq, iSeq, Sh.iZip, Sh.iEnum, vtup2, vlst2, mSl, oNone, oSome, vSl, gNameM, gTupM, gConsM, gNilM, mFz, mNew, fLst, sSet, sPar, sAsg, sRet, sEx, sNext, sBk, sCt, tYesM, vAdd, vO] at this ⊢
    exact this
  have e4 := lc_flat (st := st) (o := o) (env := [some (vO o), none, none, none]) (i := 0) (j := 2) (k := 3) rfl (by simp) (by simp) (by simp) hs1
  have e5 : mDc [3] (iSeq (mVar 1)) (gNameM 3) tYesM (mVar 3) (mC (.bl true)) [some (vO o), some (.lst (o.flatten.map vN)), none, none] st = some (.ref st.length, st ++ [.dct (o.flatten.map fun n => (vN n, .bl true))]) := by
    have q := dc_nat (st := st) (env := [some (vO o), some (.lst (o.flatten.map vN)), none, none]) (k := 3) (by simp) o.flatten [] (by simpa using a.nd) (by simpa using hs1)
    rw [List.map_nil, List.nil_append] at q
    unfold mDc
    rw [show iSeq (mVar 1) [some (vO o), some (.lst (o.flatten.map vN)), none, none] st = some (.vals (o.flatten.map vN), st) from rfl]
    dsimp only
    rw [show wipeE [some (vO o), some (.lst (o.flatten.map vN)), none, none] [3] = [some (vO o), some (.lst (o.flatten.map vN)), none, none] from rfl, q]
  refine fn_cut (new := [.dct (o.flatten.map fun n => (vN n, .bl true))]) h (env := [some (vO o), some (.lst (o.flatten.map vN)), none, none]) ?_ rfl
  refine (seq_nx (env1 := [some (vO o), none, none, none]) (st1 := st) ?_).trans ((seq_nx (env1 := [some (vO o), some (.lst (o.flatten.map vN)), none, none]) (st1 := st) ?_).trans (ret_ok ?_))
  · exact (if_f (tor_f (tnot (tof_bl e3)) (tnot (tof_bl e2)))).trans rfl
  · exact (set_ok (mfz_ok e4)).trans rfl
  · have e6 : mB bLen (aCons (mDc [3] (iSeq (mVar 1)) (gNameM 3) tYesM (mVar 3) (mC (.bl true))) aNil) [some (vO o), some (.lst (o.flatten.map vN)), none, none] st = some (.int o.flatten.length, st ++ [.dct (o.flatten.map fun n => (vN n, .bl true))]) := by
      refine (mB_ok (a_one e5)).trans ?_
      unfold bLen vdict
      dsimp only
      rw [get_last]
      dsimp only
      rw [List.length_map]
    have e7 : ∀ st2 : Sto, mB bLen (aCons (mVar 1) aNil) [some (vO o), some (.lst (o.flatten.map vN)), none, none] st2 = some (.int o.flatten.length, st2) := by
      intro st2
      refine (mB_ok (a_one (var_ok rfl))).trans ?_
      unfold bLen vdict dref
      dsimp only
      rw [List.length_map]
    refine (bin_ok2 e6 (e7 _)).trans ?_
    simp [vEq, dref, vflat, veq]
/-- check_order -/
theorem chk_order {st : Sto} (h : StOk st) {o : List (List Nat)} (a : Ord o) : f_check_order [vO o] st = some (.non, st) := by
  refine fn_nx h (env := [some (vO o)]) ?_
  have e : mCall 1 f_is_order (aCons (mVar 0) aNil) [some (vO o)] st = some (.bl true, st) := by
    have := order_ok h a
    simp [mAnd, mOr, mNot, mIsi, mChain, mBin, mBind, mVar, mC, aCons, aNil, aStar, mTup, mIf, mCall, tOf, tAndM, tOrM, tNotM, tyName, dref, vtru, vLt, vLe, vGt, vGe, vSub, vI2, vI2C, mB, bLen, vdict, bAll, bAny, vlist, vlistM, vseq, iSeq, Sh.iZip, Sh.iEnum, vtup2, vlst2, mSl, oNone, oSome, vSl, gNameM, gTupM, gConsM, gNilM, mFz, mNew, fLst, sSet, sPar, sAsg, sRet, sEx, sNext, sBk, sCt, tYesM, this]
  exact (if_f (tnot (tof_bl e))).trans rfl
end K83

-- part M3
set_option Elab.async false
set_option linter.all false
set_option maxRecDepth 100000
set_option maxHeartbeats 400000
namespace Sh
open PySem PySem.Spec L2
def sortN (l : List Nat) : List Nat := l.mergeSort fun a b => decide (a ≤ b)
theorem vle_N (a b : Nat) : vle (vN a) (vN b) = decide (a ≤ b) := by
  unfold vle
  rw [PySem.W.dataLe_eq]
  show (!PySem.W.dataLt (vdat (vN b)) (vdat (vN a))) = _
  have e : ∀ n : Nat, vdat (vN n) = .int (n : Int) := fun n => rfl
  rw [e, e, PySem.W.dataLt_int]
  by_cases h : a ≤ b
  · have h2 : ¬ (b : Int) < (a : Int) := by omega
    simp [h, h2]
  · have h2 : (b : Int) < (a : Int) := by omega
    simp [h, h2]
theorem vsort_N (l : List Nat) : vsort (l.map vN) = (sortN l).map vN := by
  unfold vsort sortN
  exact (List.map_mergeSort (fun a _ b _ => (vle_N a b).symm)).symm
theorem sortOk_of {α : Type} {f : α → Val} {xs : List α} (hl : xs.length ≤ 1000000) (h1 : ∀ a, vflat 60 (f a) = true) (h2 : ∀ a b, valike (f a) (f b) = true) (h3 : (∀ a, isTup (f a) = true) ∨ ∀ a, isAtom (f a) = true) : sortOk (xs.map f) = true := by
  unfold sortOk
  rw [Bool.and_eq_true, Bool.and_eq_true, Bool.and_eq_true]
  refine ⟨⟨⟨decide_eq_true (by rw [List.length_map]; exact hl), ?_⟩, ?_⟩, ?_⟩
  · simp [h1]
  · simp [h2]
  · rw [Bool.or_eq_true]
    rcases h3 with h3 | h3
    · exact .inl (by simp [h3])
    · exact .inr (by simp [h3])
theorem sorted_lst {st : Sto} {xs : List Val} (h : sortOk xs = true) : bOr bSorted bSortedD [.lst xs] st = some (vsort xs) := by
  unfold bOr bSorted vlist dref
  dsimp only
  rw [if_pos h]
theorem sorted_lst_N {st : Sto} {l : List Nat} (h : l.length ≤ 1000000) : bOr bSorted bSortedD [.lst (l.map vN)] st = some ((sortN l).map vN) := by
  rw [sorted_lst (sortOk_of h (fun a => vflat_N a 60) (fun a b => rfl) (.inr fun a => rfl)), vsort_N]
theorem sortN_perm (l : List Nat) : (sortN l).Perm l := List.mergeSort_perm _ _
theorem sortN_len (l : List Nat) : (sortN l).length = l.length := (sortN_perm l).length_eq
theorem sortN_le (l : List Nat) : (sortN l).Pairwise (· ≤ ·) := by
  have := List.pairwise_mergeSort (le := fun a b : Nat => decide (a ≤ b)) (by intro a b c; simp; omega) (by intro a b; simp; omega) l
  exact this.imp fun h => of_decide_eq_true h
theorem sortN_lt {l : List Nat} (h : l.Nodup) : (sortN l).Pairwise (· < ·) := by
  have h1 := sortN_le l
  have h2 : (sortN l).Pairwise (· ≠ ·) := ((sortN_perm l).nodup_iff).mpr h
  exact (h1.and h2).imp fun h => Nat.lt_of_le_of_ne h.1 h.2
/-- sorted lists of the same things are the same -/
theorem sortN_eq {l c : List Nat} (h : l.Perm c) (hc : c.Pairwise (· < ·)) : sortN l = c := by
  refine List.Perm.eq_of_pairwise (le := (· ≤ ·)) (fun a b _ _ h1 h2 => Nat.le_antisymm h1 h2) (sortN_le l) (hc.imp fun h => Nat.le_of_lt h) ((sortN_perm l).trans h)
theorem tuple_lst {st : Sto} {xs : List Val} : bTuple [.lst xs] st = some (.tup xs, st) := rfl
theorem if_ok_t {t : MT} {a b : ME} {env : Sh.Env} {st st1 : Sto} (h : t env st = some (true, st1)) : mIf t a b env st = a env st1 := by
  unfold mIf mBind
  rw [h]
  rfl
theorem if_ok_f {t : MT} {a b : ME} {env : Sh.Env} {st st1 : Sto} (h : t env st = some (false, st1)) : mIf t a b env st = b env st1 := by
  unfold mIf mBind
  rw [h]
  rfl
theorem ex_ok {m : ME} {env : Sh.Env} {st st1 : Sto} {v : Val} (h : m env st = some (v, st1)) : sEx m env st = some (.nx, env, st1) := by
  unfold sEx
  rw [h]
theorem mtup_ok {as : MA} {env : Sh.Env} {st st1 : Sto} {xs : List Val} (h : as env st = some (xs, st1)) (hl : xs.length ≤ 1000000) : mTup as env st = some (.tup xs, st1) := by
  unfold mTup mBind
  rw [h]
  dsimp only
  rw [if_pos (show lenOk _ = true from decide_eq_true hl)]
theorem flst_ok {as : MA} {env : Sh.Env} {st st1 : Sto} {xs : List Val} (h : as env st = some (xs, st1)) (hl : xs.length ≤ 1000000) : fLst as env st = some (xs, st1) := by
  unfold fLst mBind
  rw [h]
  dsimp only
  rw [if_pos (show lenOk _ = true from decide_eq_true hl)]
theorem mnew_ok {C : MA} {env : Sh.Env} {st st1 : Sto} {xs : List Val} (h : C env st = some (xs, st1)) : mNew C env st = some (.ref st1.length, st1 ++ [.lst xs]) := by
  unfold mNew mBind
  rw [h]
theorem a_star {m : ME} {r : MA} {env : Sh.Env} {st st1 st2 : Sto} {v : Val} {xs ys : List Val} (h : m env st = some (v, st1)) (hv : vseq st1 v = some xs) (hr : r env st1 = some (ys, st2)) : aStar m r env st = some (xs ++ ys, st2) := by
  unfold aStar mBind
  rw [h]
  dsimp only
  rw [hv]
  dsimp only
  rw [hr]
end Sh
namespace K83
open PySem PySem.Spec L2 Sh
theorem young_of_ok {st : Sto} (h : StOk st) {o : List (List Nat)} (hl : o.flatten.length ≤ 1000000) : f_young_of [vO o] st = some (vG (sortN o.flatten), st) := by
  refine fn_rt h (env := [some (vO o), none, none]) (ret_ok ?_) (vbelow_G _ _)
  have e := lc_flat (st := st) (o := o) (env := [some (vO o), none, none]) (i := 0) (j := 1) (k := 2) rfl (by simp) (by simp) (by simp) hl
  exact (mB_ok (a_one (mfz_ok (fB_ok (a_one (mfz_ok e)) (sorted_lst_N hl))))).trans rfl
theorem young_ok {st : Sto} (h : StOk st) {o : List (List Nat)} (a : Ord o) : f_young [vO o] st = some (vG (sortN o.flatten), st) := by
  have hl := a.short
  refine fn_rt h (env := [some (vO o)]) ((seq_nx (ex_ok ((call_ok2 (a_one (var_ok rfl)) rfl).trans (chk_order h a)))).trans (ret_ok ?_)) (vbelow_G _ _)
  exact (call_ok2 (a_one (var_ok rfl)) rfl).trans (young_of_ok h (by omega))
def lastG (o : List (List Nat)) : List Nat := o.getLastD []
theorem oldest_of_ok {st : Sto} (h : StOk st) (o : List (List Nat)) : f_oldest_of [vO o] st = some (vG (lastG o), st) := by
  refine fn_rt h (env := [some (vO o)]) (ret_ok ?_) (vbelow_G _ _)
  have e0 : mTup aNil [some (vO o)] st = some (vO [], st) := mtup_ok a_nil (by simp)
  have e1 : tOf (mBin vNe (mVar 0) (mTup aNil)) [some (vO o)] st = some (!decide (o = []), st) := by
    refine tof_bl ((bin_ok2 (var_ok rfl) e0).trans (vNe_O o [] st))
  cases o with
  | nil => exact (if_ok_f e1).trans e0
  | cons g o =>
    refine (if_ok_t e1).trans ?_
    refine (bin_ok2 (v := .int (-1)) (var_ok rfl) rfl).trans ?_
    have e2 : atI ((g :: o).map vG) (-1) = some (vG (lastG (g :: o))) := by
      unfold atI ixN
      have hz : ((g :: o).map vG).length = o.length + 1 := by simp
      rw [hz]
      rw [if_neg (by omega)]
      rw [if_pos (by omega)]
      have hj : ((-1 : Int) + ((o.length + 1 : Nat) : Int)).toNat = o.length := by omega
      simp only [Option.bind_some]
      rw [hj, List.getElem?_map]
      unfold lastG
      have : (g :: o)[o.length]? = some ((g :: o).getLastD []) := by
        rw [List.getLastD_eq_getLast?, List.getLast?_eq_getElem?]
        simp
      rw [this]
      rfl
    unfold vIx vdict vO dref
    dsimp only
    rw [e2]
theorem at_one_ok {st : Sto} (h : StOk st) (o : List (List Nat)) (w : Str) (hw : PyData.canLay0 (.str w) = true) : f_at_one [vO o, .str w] st = some (vG (if w == "at" then lastG o else []), st) := by
  refine fn_rt h (env := [some (vO o), some (.str w)]) (ret_ok ?_) (vbelow_G _ _)
  have e1 : tOf (mBin vEq (mVar 1) (mC (.str "at"))) [some (vO o), some (.str w)] st = some (w == "at", st) := by
    refine tof_bl ((bin_ok2 (v := .str "at") (var_ok rfl) rfl).trans ?_)
    have e2 : vflat 64 (.str w) = true := hw
    have e3 : vflat 64 (.str "at") = true := by decide +kernel
    unfold vEq dref
    dsimp only
    rw [e2, e3]
    rfl
  cases hq : (w == "at") with
  | true =>
    rw [hq] at e1
    exact (if_ok_t e1).trans ((call_ok2 (a_one (var_ok rfl)) rfl).trans (oldest_of_ok h o))
  | false =>
    rw [hq] at e1
    exact (if_ok_f e1).trans (mtup_ok a_nil (by simp))
theorem oldest_ok {st : Sto} (h : StOk st) {o : List (List Nat)} (a : Ord o) : f_oldest [vO o] st = some (vG (lastG o), st) := by
  refine fn_rt h (env := [some (vO o)]) ((seq_nx (ex_ok ((call_ok2 (a_one (var_ok rfl)) rfl).trans (chk_order h a)))).trans (ret_ok ?_)) (vbelow_G _ _)
  exact (call_ok2 (a_one (var_ok rfl)) rfl).trans (oldest_of_ok h o)
end K83

-- part M4
set_option Elab.async false
set_option linter.all false
set_option maxRecDepth 100000
set_option maxHeartbeats 400000
namespace Sh
open PySem PySem.Spec L2
theorem lm_ok2 {f : Sto → List Val → List Val → Option (Val × List Val)} {o : ME} {as : MA} {env : Sh.Env} {st st1 st2 : Sto} {i : Nat} {xs0 xs ys zs : List Val} {r : Val} (h : o env st = some (.ref i, st1)) (h0 : st1[i]? = some (.lst xs0)) (ha : as env st1 = some (ys, st2)) (h2 : st2[i]? = some (.lst xs)) (hf : f st2 xs ys = some (r, zs)) :
    mLM2 f o as env st = some (r, st2.set i (.lst zs)) := by
  unfold mLM2 mBind
  rw [h]
  dsimp only
  rw [h0]
  rw [if_pos (show isLst (some (Ob.lst xs0)) = true from rfl), ha]
  dsimp only
  rw [h2]
  dsimp only
  rw [hf]
theorem extend_ok {st : Sto} {xs ys : List Val} (h : xs.length + ys.length ≤ 1000000) : lExtend st xs [.lst ys] = some (.non, xs ++ ys) := by
  unfold lExtend vlistM dref
  dsimp only
  rw [if_pos (show lenOk _ = true from decide_eq_true h)]
theorem append_ok {st : Sto} {xs : List Val} {y : Val} (h : xs.length + 1 ≤ 1000000) : lAppend st xs [y] = some (.non, xs ++ [y]) := by
  unfold lAppend
  dsimp only
  rw [if_pos (show lenOk _ = true from decide_eq_true h)]
theorem any_veq {α : Type} [DecidableEq α] {f : α → Val} (h : ∀ a b, veq (f a) (f b) = decide (a = b)) (c : α) : ∀ xs : List α, ((xs.map f).any fun z => veq z (f c)) = decide (c ∈ xs)
  | [] => by simp
  | x :: xs => by
    rw [List.map_cons, List.any_cons, h, any_veq h c xs]
    by_cases h1 : x = c
    · subst h1; simp
    · by_cases h2 : c ∈ xs
      · simp [h1, h2]
      · have h3 : ¬ c = x := fun e => h1 e.symm
        simp [h1, h2, h3]
theorem in_lst {α : Type} [DecidableEq α] {f : α → Val} (h : ∀ a b, veq (f a) (f b) = decide (a = b)) (h1 : ∀ a, vflat 63 (f a) = true) (h2 : ∀ a, vflat 64 (f a) = true) (c : α) (xs : List α) (st : Sto) : vInC (f c) (.lst (xs.map f)) st = some (decide (c ∈ xs)) := by
  unfold vInC vdict vseq dref
  dsimp only
  rw [h2, vflats_map h1, any_veq h]
  rfl
theorem in_tup {α : Type} [DecidableEq α] {f : α → Val} (h : ∀ a b, veq (f a) (f b) = decide (a = b)) (h1 : ∀ a, vflat 63 (f a) = true) (h2 : ∀ a, vflat 64 (f a) = true) (c : α) (xs : List α) (st : Sto) : vInC (f c) (.tup (xs.map f)) st = some (decide (c ∈ xs)) := by
  unfold vInC vdict vseq dref
  dsimp only
  rw [h2, vflats_map h1, any_veq h]
  rfl
theorem step1_if {g : MG} {t : MT} {m : ME} {env0 env1 : Sh.Env} {x v : Val} {st st1 st2 : Sto} {b : Bool} (hg : g x env0 st = some (env1, st1)) (ht : t env1 st1 = some (b, st2)) (hm : b = true → m env1 st2 = some (v, st2)) : step1 g t m env0 x st = some (if b = true then [v] else [], st2) := by
  unfold step1
  rw [hg]
  dsimp only
  rw [ht]
  cases b with
  | true =>
    dsimp only
    rw [hm rfl]
    rfl
  | false => rfl
end Sh
namespace K83
open PySem PySem.Spec L2 Sh
def leftOf (gone g : List Nat) : List Nat := g.filter fun c => !decide (c ∈ gone)
def behindP (gone reset : List Nat) (o : List (List Nat)) : List (List Nat) := (if reset = [] then [] else [reset]) ++ (o.map (leftOf gone)).filter fun g => !decide (g = [])
abbrev bodyB : MS := sSeq (sSet 7 (mB bTuple (aCons (mFz (fLc [8] (iSeq (mVar 6)) (gNameM 8) (tOf (mBin vNotIn (mVar 8) (mVar 4))) (mVar 8))) aNil))) (sEx (mLM2 lExtend (mVar 5) (aCons (mIf (tOf (mBin vNe (mVar 7) (mTup aNil))) (mFz (fLst (aCons (mVar 7) aNil))) (mFz (fLst aNil))) aNil)))
theorem turnB {st : Sto} {a0 a1 a2 a3 e6 e7 e8 : Option Val} {gone g : List Nat} {acc : List (List Nat)} (hg : g.length ≤ 1000000) (ha : acc.length < 1000000) :
    turnM (gNameM 6) bodyB (vG g) [a0, a1, a2, a3, some (.lst (gone.map vN)), some (.ref st.length), e6, e7, e8] (st ++ [.lst (acc.map vG)]) =
      some (.nx, [a0, a1, a2, a3, some (.lst (gone.map vN)), some (.ref st.length), some (vG g), some (vG (leftOf gone g)), e8], st ++ [.lst ((acc ++ if leftOf gone g = [] then [] else [leftOf gone g]).map vG)]) := by
  have e1 : fLc [8] (iSeq (mVar 6)) (gNameM 8) (tOf (mBin vNotIn (mVar 8) (mVar 4))) (mVar 8) [a0, a1, a2, a3, some (.lst (gone.map vN)), some (.ref st.length), some (vG g), e7, e8] (st ++ [.lst (acc.map vG)]) = some ((leftOf gone g).map vN, st ++ [.lst (acc.map vG)]) := by
    refine fLc_filter (f := vN) (p := fun c => !decide (c ∈ gone)) (seq_tup (var_ok rfl)) (fun c hc => ?_) hg
    refine step1_if (env1 := [a0, a1, a2, a3, some (.lst (gone.map vN)), some (.ref st.length), some (vG g), e7, some (vN c)]) rfl (tof_bl ((bin_ok2 (var_ok rfl) (var_ok rfl)).trans ?_)) fun _ => var_ok rfl
    unfold vNotIn
    rw [in_lst veq_N (fun a => vflat_N a 63) (fun a => vflat_N a 64)]
  have e2 : sSet 7 (mB bTuple (aCons (mFz (fLc [8] (iSeq (mVar 6)) (gNameM 8) (tOf (mBin vNotIn (mVar 8) (mVar 4))) (mVar 8))) aNil)) [a0, a1, a2, a3, some (.lst (gone.map vN)), some (.ref st.length), some (vG g), e7, e8] (st ++ [.lst (acc.map vG)]) =
      some (.nx, [a0, a1, a2, a3, some (.lst (gone.map vN)), some (.ref st.length), some (vG g), some (vG (leftOf gone g)), e8], st ++ [.lst (acc.map vG)]) :=
    (set_ok ((mB_ok (a_one (mfz_ok e1))).trans tuple_lst)).trans rfl
  have e3 : tOf (mBin vNe (mVar 7) (mTup aNil)) [a0, a1, a2, a3, some (.lst (gone.map vN)), some (.ref st.length), some (vG g), some (vG (leftOf gone g)), e8] (st ++ [.lst (acc.map vG)]) = some (!decide (leftOf gone g = []), st ++ [.lst (acc.map vG)]) :=
    tof_bl ((bin_ok2 (v := vG []) (var_ok rfl) (mtup_ok a_nil (by simp))).trans (vNe_G _ [] _))
  show sSeq _ _ _ _ = _
  refine (seq_nx e2).trans ?_
  by_cases hz : leftOf gone g = []
  · rw [decide_eq_true hz] at e3
    rw [if_pos hz, List.append_nil]
    refine (ex_ok (lm_ok2 (r := .non) (zs := acc.map vG) (var_ok rfl) (get_last st _) (a_one ((if_ok_f e3).trans (mfz_ok (flst_ok a_nil (by simp))))) (get_last st _) ?_)).trans ?_
    · rw [extend_ok (by simp; omega), List.append_nil]
    · rw [set_last]
  · rw [decide_eq_false hz] at e3
    rw [if_neg hz, List.map_append]
    refine (ex_ok (lm_ok2 (r := .non) (zs := acc.map vG ++ [vG (leftOf gone g)]) (var_ok rfl) (get_last st _) (a_one ((if_ok_t e3).trans (mfz_ok (flst_ok (a_one (var_ok rfl)) (by simp))))) (get_last st _) ?_)).trans ?_
    · rw [extend_ok (by simp; omega)]
    · rw [set_last]
      rfl
theorem filt_cons (gone g : List Nat) (o : List (List Nat)) : ((g :: o).map (leftOf gone)).filter (fun g => !decide (g = [])) = (if leftOf gone g = [] then [] else [leftOf gone g]) ++ (o.map (leftOf gone)).filter fun g => !decide (g = []) := by
  rw [List.map_cons, List.filter_cons]
  by_cases h : leftOf gone g = []
  · simp [h]
  · simp [h]
theorem loopB {st : Sto} {a0 a1 a2 a3 e8 : Option Val} {gone : List Nat} : ∀ (o : List (List Nat)) (acc : List (List Nat)) (e6 e7 : Option Val), (∀ g ∈ o, g.length ≤ 1000000) → acc.length + o.length < 1000000 →
    ∃ e6' e7', forL (gNameM 6) bodyB (o.map vG) [a0, a1, a2, a3, some (.lst (gone.map vN)), some (.ref st.length), e6, e7, e8] (st ++ [.lst (acc.map vG)]) =
      some (.nx, [a0, a1, a2, a3, some (.lst (gone.map vN)), some (.ref st.length), e6', e7', e8], st ++ [.lst ((acc ++ (o.map (leftOf gone)).filter fun g => !decide (g = [])).map vG)])
  | [], acc, e6, e7, _, _ => ⟨e6, e7, by simp [forL]⟩
  | g :: o, acc, e6, e7, h, hl => by
    rw [List.length_cons] at hl
    have hl2 : (acc ++ if leftOf gone g = [] then [] else [leftOf gone g]).length + o.length < 1000000 := by
      rw [List.length_append]
      split <;> simp <;> omega
    obtain ⟨e6', e7', q⟩ := loopB o (acc ++ if leftOf gone g = [] then [] else [leftOf gone g]) (some (vG g)) (some (vG (leftOf gone g))) (fun x hx => h x (List.mem_cons_of_mem _ hx)) hl2
    refine ⟨e6', e7', ?_⟩
    rw [List.map_cons, forL, turnB (h g (List.mem_cons_self ..)) (by omega)]
    dsimp only
    rw [q, filt_cons, List.append_assoc]
theorem behind_ok {st : Sto} (h : StOk st) {o : List (List Nat)} {reset : List Nat} (w : Str) (hw : PyData.canLay0 (.str w) = true) (ho : Ord o) (hr : Asc reset) :
    f_behind_of [vO o, .str w, vG reset, vG []] st = some (vO (behindP ((if w == "at" then lastG o else []) ++ reset) reset o), st) := by
  have hl := ho.len
  have hs := hr.short
  have hlast : (lastG o).length ≤ 10 := by
    unfold lastG
    rw [List.getLastD_eq_getLast?]
    cases q : o.getLast? with
    | none => simp
    | some g => exact (ho.grp g (List.mem_of_getLast? q)).1.short
  generalize hgone : ((if w == "at" then lastG o else []) ++ reset) = gone
  have e1 : mFz (fLst (aStar (mCall 2 f_at_one (aCons (mVar 0) (aCons (mVar 1) aNil))) (aStar (mVar 2) (aStar (mVar 3) aNil)))) [some (vO o), some (.str w), some (vG reset), some (vG []), none, none, none, none, none] st = some (.lst (gone.map vN), st) := by
    refine mfz_ok (flst_ok ?_ ?_)
    · have q := a_star (r := aStar (mVar 2) (aStar (mVar 3) aNil)) (env := [some (vO o), some (.str w), some (vG reset), some (vG []), none, none, none, none, none]) ((call_ok2 (n := 2) (f := f_at_one) (a_cons (var_ok (i := 0) rfl) (a_one (var_ok (i := 1) rfl))) rfl).trans (at_one_ok h o w hw)) (xs := (if w == "at" then lastG o else []).map vN) rfl (a_star (var_ok rfl) (xs := reset.map vN) rfl (a_star (var_ok rfl) (xs := []) rfl a_nil))
      rw [q, ← hgone]
      simp
    · rw [List.length_map, ← hgone, List.length_append]
      split
      · omega
      · rw [List.length_nil]; omega
  generalize hini : (if reset = [] then [] else [reset] : List (List Nat)) = ini
  have e2 : mIf (tOf (mBin vNe (mVar 2) (mTup aNil))) (mNew (fLst (aCons (mVar 2) aNil))) (mNew (fLst aNil)) [some (vO o), some (.str w), some (vG reset), some (vG []), some (.lst (gone.map vN)), none, none, none, none] st = some (.ref st.length, st ++ [.lst (ini.map vG)]) := by
    have e0 : tOf (mBin vNe (mVar 2) (mTup aNil)) [some (vO o), some (.str w), some (vG reset), some (vG []), some (.lst (gone.map vN)), none, none, none, none] st = some (!decide (reset = []), st) :=
      tof_bl ((bin_ok2 (v := vG []) (var_ok rfl) (mtup_ok a_nil (by simp))).trans (vNe_G _ [] _))
    by_cases hz : reset = []
    · rw [decide_eq_true hz] at e0
      rw [if_pos hz] at hini
      subst hini
      exact (if_ok_f e0).trans (mnew_ok (flst_ok a_nil (by simp)))
    · rw [decide_eq_false hz] at e0
      rw [if_neg hz] at hini
      subst hini
      exact (if_ok_t e0).trans (mnew_ok (flst_ok (a_one (var_ok rfl)) (by simp)))
  have hil : ini.length ≤ 1 := by
    subst hini
    split <;> simp
  obtain ⟨e6, e7, e3⟩ := loopB (st := st) (a0 := some (vO o)) (a1 := some (.str w)) (a2 := some (vG reset)) (a3 := some (vG [])) (e8 := none) (gone := gone) o ini none none (fun g hg => by have := (ho.grp g hg).1.short; omega) (by omega)
  have eb : behindP gone reset o = ini ++ (o.map (leftOf gone)).filter fun g => !decide (g = []) := by
    unfold behindP
    rw [hini]
  rw [eb]
  generalize ini ++ (o.map (leftOf gone)).filter (fun g => !decide (g = [])) = res at e3
  refine fn_cut (new := [.lst (res.map vG)]) h (env := [some (vO o), some (.str w), some (vG reset), some (vG []), some (.lst (gone.map vN)), some (.ref st.length), e6, e7, none]) ?_ (vbelow_O _ _)
  have s1 := set_ok (i := 4) e1
  have s2 := set_ok (i := 5) e2
  refine (seq_nx s1).trans ((seq_nx s2).trans ((seq_nx (env1 := [some (vO o), some (.str w), some (vG reset), some (vG []), some (.lst (gone.map vN)), some (.ref st.length), e6, e7, none]) (st1 := st ++ [.lst (res.map vG)]) ?_).trans (ret_ok ?_)))
  · show sFor _ _ _ _ _ = _
    unfold sFor
    rw [show iSeq (mVar 0) _ _ = some (.vals (o.map vG), st ++ [.lst (ini.map vG)]) from seq_tup (var_ok rfl)]
    exact e3
  · refine (mB_ok (a_one (var_ok rfl))).trans ?_
    unfold bTuple vseq dref
    dsimp only
    rw [get_last]
    rfl
end K83

-- part M5
set_option Elab.async false
set_option linter.all false
set_option maxRecDepth 100000
set_option maxHeartbeats 400000
namespace Sh
open PySem PySem.Spec L2
mutual
theorem vbelow_mono {n m : Nat} (h : n ≤ m) : ∀ v : Val, vbelow n v = true → vbelow m v = true
  | .non, _ => rfl
  | .bl _, _ => rfl
  | .int _, _ => rfl
  | .str _, _ => rfl
  | .tup xs, e => by rw [vbelow] at e ⊢; exact vbelows_mono h xs e
  | .tpl xs, e => by rw [vbelow] at e ⊢; exact vbelows_mono h xs e
  | .lst xs, e => by rw [vbelow] at e ⊢; exact vbelows_mono h xs e
  | .sc xs, e => by rw [vbelow] at e ⊢; exact vbelows_mono h xs e
  | .ref i, e => by
    rw [vbelow] at e ⊢
    exact decide_eq_true (Nat.lt_of_lt_of_le (of_decide_eq_true e) h)
theorem vbelows_mono {n m : Nat} (h : n ≤ m) : ∀ vs : List Val, vbelows n vs = true → vbelows m vs = true
  | [], _ => rfl
  | v :: vs, e => by
    rw [vbelows, Bool.and_eq_true] at e ⊢
    exact ⟨vbelow_mono h v e.1, vbelows_mono h vs e.2⟩
end
theorem obelow_mono {n m : Nat} (h : n ≤ m) {o : Ob} (e : obelow n o = true) : obelow m o = true := by
  cases o with
  | lst xs => exact vbelows_mono h xs e
  | dct kvs =>
    unfold obelow at e ⊢
    rw [List.all_eq_true] at e ⊢
    intro p hp
    have := e p hp
    rw [Bool.and_eq_true] at this ⊢
    exact ⟨vbelow_mono h _ this.1, vbelow_mono h _ this.2⟩
theorem StOk.add {st : Sto} (h : StOk st) {o : Ob} (ho : obelow (st.length + 1) o = true) : StOk (st ++ [o]) := by
  unfold StOk at h ⊢
  rw [List.all_append, Bool.and_eq_true, List.length_append]
  refine ⟨?_, ?_⟩
  · rw [List.all_eq_true] at h ⊢
    exact fun x hx => obelow_mono (Nat.le_add_right _ _) (h x hx)
  · rw [List.all_cons, List.all_nil, Bool.and_true]
    exact ho
theorem StOk.set {st : Sto} (h : StOk st) {i : Nat} {o : Ob} (ho : obelow st.length o = true) : StOk (st.set i o) := by
  unfold StOk at h ⊢
  rw [List.length_set, List.all_eq_true]
  rw [List.all_eq_true] at h
  intro x hx
  rcases List.mem_or_eq_of_mem_set hx with hx | rfl
  · exact h x hx
  · exact ho
theorem tkeys_map {α : Type} {f : α → Val} {n : Nat} (h : ∀ a, tkey n (f a) = true) : ∀ xs : List α, tkeys n (xs.map f) = true
  | [] => by simp [tkeys]
  | x :: xs => by rw [List.map_cons, tkeys, h x, tkeys_map h xs]; rfl
theorem tkey_N (n m : Nat) : tkey m (vN n) = true := by unfold vN; cases m <;> simp [tkey]
theorem tkey_G (g : List Nat) (m : Nat) : tkey (m + 1) (vG g) = true := by
  unfold vG
  rw [tkey]
  exact tkeys_map (fun a => tkey_N a m) g
theorem ktup_O (o : List (List Nat)) : ktup (vO o) = true := by
  unfold vO ktup
  exact tkeys_map (fun a => tkey_G a 6) o
theorem keyFit_nil (b : List (List Nat)) : keyFit [] (vO b) = true := by
  unfold keyFit
  dsimp only
  rw [ktup_O, Bool.or_true]
theorem keyFit_cons (a b : List (List Nat)) (v : Val) (kvs : List (Val × Val)) : keyFit ((vO a, v) :: kvs) (vO b) = true := by
  unfold keyFit
  dsimp only
  rw [ktup_O, ktup_O, Bool.and_self, Bool.or_true]
theorem valikes_map {α : Type} {f : α → Val} (h : ∀ a b, valike (f a) (f b) = true) : ∀ xs ys : List α, valikes (xs.map f) (ys.map f) = true
  | [], _ => by cases ‹List α› <;> simp [valikes]
  | x :: xs, [] => by simp [valikes]
  | x :: xs, y :: ys => by rw [List.map_cons, List.map_cons, valikes, h, valikes_map h xs ys]; rfl
theorem valike_G (a b : List Nat) : valike (vG a) (vG b) = true := by
  unfold vG
  rw [valike]
  exact valikes_map (fun _ _ => rfl) a b
theorem valike_O (a b : List (List Nat)) : valike (vO a) (vO b) = true := by
  unfold vO
  rw [valike]
  exact valikes_map valike_G a b
theorem vsort_map {α : Type} (f : α → Val) (l : List α) : ∃ ts : List α, ts.Perm l ∧ vsort (l.map f) = ts.map f :=
  ⟨l.mergeSort fun a b => vle (f a) (f b), List.mergeSort_perm _ _, (List.map_mergeSort (r := fun a b => vle (f a) (f b)) (s := vle) (f := f) (l := l) (fun _ _ _ _ => rfl)).symm⟩
theorem sorted_dct {st : Sto} {i : Nat} {kvs : List (Val × Val)} (hi : st[i]? = some (.dct kvs)) (h : sortOk (kvs.map (·.1)) = true) : bOr bSorted bSortedD [.ref i] st = some (vsort (kvs.map (·.1))) := by
  unfold bOr bSorted vlist dref
  dsimp only
  rw [hi]
  dsimp only
  unfold bSortedD vdict
  dsimp only
  rw [hi]
  dsimp only
  rw [if_pos h]
theorem sortOk_O {l : List (List (List Nat))} (h : l.length ≤ 1000000) : sortOk (l.map vO) = true := sortOk_of h (fun a => vflat_O a 58) valike_O (.inl fun a => rfl)
end Sh
namespace K83
open PySem PySem.Spec L2 Sh
def bAt (o : List (List Nat)) (reset : List Nat) : List (List Nat) := behindP (lastG o ++ reset) reset o
def bIn (o : List (List Nat)) (reset : List Nat) : List (List Nat) := behindP reset reset o
def toldP (o : List (List Nat)) (reset : List Nat) : List (List (List Nat)) := if bAt o reset = bIn o reset then [bAt o reset] else [bAt o reset, bIn o reset]
theorem layAt : PyData.canLay0 (.str "at") = true := by decide +kernel
theorem layIn : PyData.canLay0 (.str "in") = true := by decide +kernel
theorem vsO_below (n : Nat) (l : List (List (List Nat))) : vbelow n (.tup (l.map vO)) = true := by
  rw [vbelow]
  exact vbelows_map (fun a => vbelow_O a n) l
theorem from_ok {st : Sto} (h : StOk st) {o : List (List Nat)} {reset : List Nat} (ho : Ord o) (hne : o ≠ []) (hr : Asc reset) : ∃ ts, List.Perm ts (toldP o reset) ∧ f_orders_from [vO o, vG reset] st = some (.tup (ts.map vO), st) := by
  have c1 : sEx (mCall 1 f_check_order (aCons (mVar 0) aNil)) [some (vO o), some (vG reset), none, none] st = some (.nx, [some (vO o), some (vG reset), none, none], st) :=
    ex_ok ((call_ok2 (a_one (var_ok rfl)) rfl).trans (chk_order h ho))
  have c2 : sEx (mCall 1 f_check_clocks (aCons (mVar 1) aNil)) [some (vO o), some (vG reset), none, none] st = some (.nx, [some (vO o), some (vG reset), none, none], st) :=
    ex_ok ((call_ok2 (a_one (var_ok rfl)) rfl).trans (chk_clocks h hr))
  have c3 : sSet 2 (mIf (tOf (mBin vNe (mVar 0) (mTup aNil))) (mTup (aCons (mC (.str "at")) (aCons (mC (.str "in")) aNil))) (mTup (aCons (mC (.str "in")) aNil))) [some (vO o), some (vG reset), none, none] st = some (.nx, [some (vO o), some (vG reset), some (.tup [.str "at", .str "in"]), none], st) := by
    refine (set_ok (v := .tup [.str "at", .str "in"]) ((if_ok_t ?_).trans (mtup_ok (a_cons rfl (a_one rfl)) (by simp)))).trans rfl
    have := vNe_O o [] st
    rw [decide_eq_false hne] at this
    exact tof_bl ((bin_ok2 (v := vO []) (var_ok rfl) (mtup_ok a_nil (by simp))).trans this)
  let env : Sh.Env := [some (vO o), some (vG reset), some (.tup [.str "at", .str "in"]), none]
  have key : ∀ (kvs : List (Val × Val)) (w : Str), PyData.canLay0 (.str w) = true → StOk (st ++ [.dct kvs]) → keyFit kvs (vO (behindP ((if w == "at" then lastG o else []) ++ reset) reset o)) = true → kvs.length ≤ 1000000 →
      dcTurn st.length (gNameM 3) tYesM (mCall 4 f_behind_of (aCons (mVar 0) (aCons (mVar 3) (aCons (mVar 1) (aCons (mTup aNil) aNil))))) (mC (.bl true)) env (.str w) (st ++ [.dct kvs]) = some (st ++ [.dct (dput kvs (vO (behindP ((if w == "at" then lastG o else []) ++ reset) reset o)) (.bl true))]) := by
    intro kvs w hw hs hf hl
    have q1 : mCall 4 f_behind_of (aCons (mVar 0) (aCons (mVar 3) (aCons (mVar 1) (aCons (mTup aNil) aNil)))) [some (vO o), some (vG reset), some (.tup [.str "at", .str "in"]), some (.str w)] (st ++ [.dct kvs]) = some (vO (behindP ((if w == "at" then lastG o else []) ++ reset) reset o), st ++ [.dct kvs]) :=
      (call_ok2 (a_cons (var_ok (i := 0) rfl) (a_cons (var_ok (i := 3) rfl) (a_cons (var_ok (i := 1) rfl) (a_one (v := vG []) (mtup_ok a_nil (by simp)))))) rfl).trans (behind_ok hs w hw ho hr)
    unfold dcTurn
    rw [show gNameM 3 (.str w) env (st ++ [.dct kvs]) = some ([some (vO o), some (vG reset), some (.tup [.str "at", .str "in"]), some (.str w)], st ++ [.dct kvs]) from rfl]
    dsimp only
    unfold tYesM
    dsimp only
    rw [q1]
    dsimp only
    unfold mC
    dsimp only
    unfold putN
    rw [get_last]
    dsimp only
    rw [hf, show lenOk kvs.length = true from decide_eq_true hl]
    simp only [Bool.and_self, if_true]
    rw [set_last]
  have g1 : (if ("at" : Str) == "at" then lastG o else []) ++ reset = lastG o ++ reset := by rw [if_pos (beq_self_eq_true _)]
  have g2 : (if ("in" : Str) == "at" then lastG o else []) ++ reset = reset := by
    rw [if_neg (by decide +kernel)]
    rfl
  have k1 := key [] "at" layAt (h.add rfl) (keyFit_nil _) (by simp)
  rw [g1] at k1
  have e1 : dput [] (vO (bAt o reset)) (.bl true) = [(vO (bAt o reset), .bl true)] := rfl
  have k2 := key [(vO (bAt o reset), .bl true)] "in" layIn (h.add (by show ([(vO (bAt o reset), Val.bl true)].all fun p => vbelow _ p.1 && vbelow _ p.2) = true; simp [vbelow_O, vbelow])) (keyFit_cons _ _ _ _) (by simp)
  rw [g2] at k2
  have e2 : dput [(vO (bAt o reset), .bl true)] (vO (bIn o reset)) (.bl true) = (toldP o reset).map fun b => (vO b, Val.bl true) := by
    unfold dput toldP
    rw [List.any_cons, List.any_nil, Bool.or_false, veq_O]
    by_cases hb : bAt o reset = bIn o reset
    · rw [if_pos (decide_eq_true hb), if_pos hb, List.map_cons, List.map_nil, veq_O, if_pos (decide_eq_true hb)]
      rfl
    · rw [if_neg (by simp [hb]), if_neg hb]
      rfl
  have d1 : mDc [3] (iSeq (mVar 2)) (gNameM 3) tYesM (mCall 4 f_behind_of (aCons (mVar 0) (aCons (mVar 3) (aCons (mVar 1) (aCons (mTup aNil) aNil))))) (mC (.bl true)) env st = some (.ref st.length, st ++ [.dct ((toldP o reset).map fun b => (vO b, Val.bl true))]) := by
    unfold mDc
    rw [show iSeq (mVar 2) env st = some (.vals [.str "at", .str "in"], st) from rfl]
    dsimp only
    rw [show wipeE env [3] = env from rfl, dcL, k1]
    dsimp only
    rw [dcL, show behindP (lastG o ++ reset) reset o = bAt o reset from rfl, e1, k2]
    dsimp only
    rw [dcL, show behindP reset reset o = bIn o reset from rfl, e2]
  obtain ⟨ts, t1, t2⟩ := vsort_map vO (toldP o reset)
  refine ⟨ts, t1, ?_⟩
  have hk : ((toldP o reset).map fun b => (vO b, Val.bl true)).map (·.1) = (toldP o reset).map vO := by rw [List.map_map]; rfl
  have hz : (toldP o reset).length ≤ 1000000 := by unfold toldP; split <;> simp
  have d2 : mB bTuple (aCons (mFz (fB (bOr bSorted bSortedD) (aCons (mDc [3] (iSeq (mVar 2)) (gNameM 3) tYesM (mCall 4 f_behind_of (aCons (mVar 0) (aCons (mVar 3) (aCons (mVar 1) (aCons (mTup aNil) aNil))))) (mC (.bl true))) aNil))) aNil) env st = some (.tup (ts.map vO), st ++ [.dct ((toldP o reset).map fun b => (vO b, Val.bl true))]) := by
    refine (mB_ok (a_one (mfz_ok (fB_ok (ys := ts.map vO) (a_one d1) ?_)))).trans rfl
    rw [sorted_dct (get_last st _) (by rw [hk]; exact sortOk_O hz), hk, t2]
  refine fn_cut (env := env) (new := [.dct ((toldP o reset).map fun b => (vO b, Val.bl true))]) h ?_ (vsO_below _ _)
  exact (seq_nx c1).trans ((seq_nx c2).trans ((seq_nx c3).trans (ret_ok d2)))
end K83

-- part M6
set_option Elab.async false
set_option linter.all false
set_option maxRecDepth 100000
set_option maxHeartbeats 400000
namespace Sh
open PySem PySem.Spec L2
theorem lg {x : Int} {k : Nat} (h : x.natAbs < 2 ^ k) : x.natAbs.log2 ≤ k := by
  by_cases h0 : x.natAbs = 0
  · rw [h0]; simp
  · exact Nat.le_of_lt ((Nat.log2_lt h0).mpr h)
theorem mul_ok {i j : Int} {st : Sto} (k l : Nat) (h : i.natAbs < 2 ^ k) (h' : j.natAbs < 2 ^ l) (hkl : k + l < 1000000) : vMulI (.int i) (.int j) st = some (.int (i * j), st) := by
  have h1 := lg h
  have h2 := lg h'
  unfold vMulI vI2C
  dsimp only
  rw [if_pos (show mulOk i j = true from decide_eq_true (by omega))]
theorem mod_ok {i j : Int} {st : Sto} (h : 0 < j) : vMod (.int i) (.int j) st = some (.int (i % j), st) := by
  unfold vMod vI2C
  dsimp only
  rw [if_pos (decide_eq_true h)]
theorem fdiv_ok {i j : Int} {st : Sto} (h : 0 < j) (k : Nat) (h2 : j.natAbs < 2 ^ k) (hk : k < 9000) : vFloorDiv (.int i) (.int j) st = some (.int (i / j), st) := by
  have h3 := lg h2
  unfold vFloorDiv vI2C
  dsimp only
  rw [if_pos (show divOk i j = true from decide_eq_true ⟨h, by omega⟩)]
theorem pow_ok {i j : Int} {st : Sto} (h : 0 ≤ j) (k : Nat) (h2 : i.natAbs < 2 ^ k) (hk : k ≤ 10000) (h3 : j ≤ 60) : vPow (.int i) (.int j) st = some (.int (i ^ j.toNat), st) := by
  have h4 := lg h2
  have h5 : j.toNat ≤ 60 := by omega
  have h6 : (i.natAbs.log2 + 1) * j.toNat ≤ 10001 * 60 := Nat.mul_le_mul (by omega) h5
  unfold vPow vI2C
  dsimp only
  rw [if_pos (show powOk i j = true from decide_eq_true ⟨h, by omega⟩)]
theorem ix_store {st : Sto} {k : Nat} {xs : List Val} {i : Int} {v : Val} (h : st[k]? = some (.lst xs)) (hi : atI xs i = some v) : vIx (.ref k) (.int i) st = some (v, st) := by
  unfold vIx vdict
  dsimp only
  rw [h]
  unfold dref
  dsimp only
  rw [h]
  dsimp only
  rw [hi]
/-- the pot: three numbers -/
structure Pot (st : Sto) (k : Nat) (n : Int) : Prop where
  ex : ∃ a b c : Int, st[k]? = some (.lst [.int a, .int b, .int c]) ∧ 0 ≤ b ∧ b < 2 ^ 61 ∧ 0 ≤ c ∧ c ≤ n
theorem vset_ok {st : Sto} {k : Nat} {xs : List Val} {i : Nat} {v : Val} (h : st[k]? = some (.lst xs)) (hi : i < xs.length) (hl : xs.length ≤ 1000000) : vSet (.ref k) (.int i) v st = some (st.set k (.lst (xs.set i v))) := by
  have h1 : ixN xs.length (i : Int) = some i := by
    unfold ixN
    rw [if_pos (by omega), if_pos (by omega)]
    rfl
  unfold vSet
  dsimp only
  rw [h]
  dsimp only
  rw [h1]
theorem gsub_ok {mo mi : ME} {env : Sh.Env} {st st1 st2 st3 : Sto} {o i v : Val} (ho : mo env st = some (o, st1)) (hi : mi env st1 = some (i, st2)) (hv : vSet o i v st2 = some st3) : gSubM mo mi v env st = some (env, st3) := by
  unfold gSubM
  rw [ho]
  dsimp only
  rw [hi]
  dsimp only
  rw [hv]
theorem asg_ok {g : MG} {m : ME} {env env2 : Sh.Env} {st st1 st2 : Sto} {v : Val} (h : m env st = some (v, st1)) (hg : g v env st1 = some (env2, st2)) : sAsg g m env st = some (.nx, env2, st2) := by
  unfold sAsg
  rw [h]
  dsimp only
  rw [hg]
theorem nat_lt_pow {x : Int} {k : Nat} (h1 : -(2 ^ k : Int) < x) (h2 : x < 2 ^ k) : x.natAbs < 2 ^ k := by
  have e : ((2 ^ k : Nat) : Int) = (2 : Int) ^ k := by simp
  omega
theorem gc_set {st' : Sto} {v : Val} {n : Nat} (h : StOk st') (hl : st'.length = n) (hv : vbelow n v = true) : gcF .drop n v st' = some (v, st') := gc_drop h hl.symm hv
end Sh
namespace K83
open PySem PySem.Spec L2 Sh
theorem take_ok {st : Sto} {k : Nat} {n m : Int} (h : StOk st) (hp : Pot st k n) (hn : n ≤ 1000) (hm : 0 < m) (hm2 : m ≤ 1000) :
    ∃ d a b c : Int, f__law_take [.ref k, .int m] st = some (.int d, st.set k (.lst [.int a, .int b, .int c])) ∧ 0 ≤ d ∧ d < m ∧ 0 ≤ b ∧ b < 2 ^ 61 ∧ 0 ≤ c ∧ c ≤ n + 1 := by
  obtain ⟨a, b, c, hk, hb0, hb1, hc0, hc1⟩ := hp.ex
  have hkl : k < st.length := (List.getElem?_eq_some_iff.mp hk).1
  have ok : ∀ x y z : Int, StOk (st.set k (.lst [.int x, .int y, .int z])) := fun x y z => h.set rfl
  have i0 : ∀ (env : Sh.Env) (st2 : Sto) (x y z : Int), env[0]? = some (some (.ref k)) → st2[k]? = some (.lst [.int x, .int y, .int z]) → mBin vIx (mVar 0) (mC (.int 0)) env st2 = some (.int x, st2) := fun env st2 x y z he hs => (bin_ok2 (var_ok he) rfl).trans (ix_store hs rfl)
  have i1 : ∀ (env : Sh.Env) (st2 : Sto) (x y z : Int), env[0]? = some (some (.ref k)) → st2[k]? = some (.lst [.int x, .int y, .int z]) → mBin vIx (mVar 0) (mC (.int 1)) env st2 = some (.int y, st2) := fun env st2 x y z he hs => (bin_ok2 (var_ok he) rfl).trans (ix_store hs rfl)
  have i2 : ∀ (env : Sh.Env) (st2 : Sto) (x y z : Int), env[0]? = some (some (.ref k)) → st2[k]? = some (.lst [.int x, .int y, .int z]) → mBin vIx (mVar 0) (mC (.int 2)) env st2 = some (.int z, st2) := fun env st2 x y z he hs => (bin_ok2 (var_ok he) rfl).trans (ix_store hs rfl)
  have t0 : tOf (mBin vGt (mBin vIx (mVar 0) (mC (.int 0))) (mC (.int 0))) [some (.ref k), some (.int m), none, none, none] st = some (decide (0 < a), st) := tof_bl ((bin_ok2 (i0 _ _ _ _ _ rfl hk) rfl).trans rfl)
  by_cases ha : 0 < a
  · rw [decide_eq_true ha] at t0
    refine ⟨a % m, a / m, b, c, ?_, Int.emod_nonneg _ (by omega), Int.emod_lt_of_pos _ hm, hb0, hb1, hc0, by omega⟩
    have s1 : sSet 2 (mBin vMod (mB bInt (aCons (mBin vIx (mVar 0) (mC (.int 0))) aNil)) (mVar 1)) [some (.ref k), some (.int m), none, none, none] st = some (.nx, [some (.ref k), some (.int m), some (.int (a % m)), none, none], st) :=
      set_ok ((bin_ok2 ((mB_ok (a_one (i0 _ _ _ _ _ rfl hk))).trans rfl) (var_ok rfl)).trans (mod_ok hm))
    have s2 : sAsg (gSubM (mVar 0) (mC (.int 0))) (mBin vFloorDiv (mBin vIx (mVar 0) (mC (.int 0))) (mVar 1)) [some (.ref k), some (.int m), some (.int (a % m)), none, none] st = some (.nx, [some (.ref k), some (.int m), some (.int (a % m)), none, none], st.set k (.lst [.int (a / m), .int b, .int c])) :=
      asg_ok ((bin_ok2 (i0 _ _ _ _ _ rfl hk) (var_ok rfl)).trans (fdiv_ok hm 10 (by omega) (by omega))) (gsub_ok (var_ok rfl) rfl ((vset_ok (i := 0) hk (by simp) (by simp)).trans rfl))
    refine (mkFn_rt (st' := st.set k (.lst [.int (a / m), .int b, .int c])) (v := .int (a % m)) (env := [some (.ref k), some (.int m), some (.int (a % m)), none, none]) ?_).trans (gc_set (ok _ _ _) (by simp) rfl)
    exact seq_rt ((if_t t0).trans ((seq_nx s1).trans ((seq_nx s2).trans (ret_ok ((mB_ok (a_one (var_ok rfl))).trans rfl)))))
  · rw [decide_eq_false ha] at t0
    have hst1 : (st.set k (.lst [.int a, .int b, .int (c + 1)]))[k]? = some (.lst [.int a, .int b, .int (c + 1)]) := List.getElem?_set_self hkl
    have s1 : sAsg (gSubM (mVar 0) (mC (.int 2))) (mBin vAdd (mBin vIx (mVar 0) (mC (.int 2))) (mC (.int 1))) [some (.ref k), some (.int m), none, none, none] st = some (.nx, [some (.ref k), some (.int m), none, none, none], st.set k (.lst [.int a, .int b, .int (c + 1)])) :=
      asg_ok ((bin_ok2 (i2 _ _ _ _ _ rfl hk) rfl).trans rfl) (gsub_ok (var_ok rfl) rfl ((vset_ok (i := 2) hk (by simp) (by simp)).trans rfl))
    obtain ⟨p, hp0, hp1, hprime⟩ : ∃ p : Int, 0 < p ∧ p ≤ 2147483647 ∧ atI ([.int 2147483647, .int 2147483629, .int 2147483587, .int 2147483579, .int 2147483563] : List Val) ((c + 1) % 5) = some (.int p) := by
      have h1 : (c + 1) % 5 = 0 ∨ (c + 1) % 5 = 1 ∨ (c + 1) % 5 = 2 ∨ (c + 1) % 5 = 3 ∨ (c + 1) % 5 = 4 := by omega
      rcases h1 with e | e | e | e | e <;> rw [e] <;> exact ⟨_, by decide, by decide, rfl⟩
    have hok := ok a b (c + 1)
    have hlen : (st.set k (.lst [.int a, .int b, .int (c + 1)])).length = st.length := by simp
    generalize hS : st.set k (.lst [.int a, .int b, .int (c + 1)]) = st1 at hst1 s1 hok hlen
    generalize hz : c + 1 = z at hst1 hprime
    have hz0 : 0 ≤ z := by omega
    have hz1 : z ≤ 1001 := by omega
    have s2 : sSet 3 (mBin vIx (mFz (fLst (aCons (mC (.int 2147483647)) (aCons (mC (.int 2147483629)) (aCons (mC (.int 2147483587)) (aCons (mC (.int 2147483579)) (aCons (mC (.int 2147483563)) aNil))))))) (mBin vMod (mB bInt (aCons (mBin vIx (mVar 0) (mC (.int 2))) aNil)) (mC (.int 5)))) [some (.ref k), some (.int m), none, none, none] st1 = some (.nx, [some (.ref k), some (.int m), none, some (.int p), none], st1) := by
      refine set_ok ((bin_ok2 (v := .int (z % 5)) (mfz_ok (flst_ok rfl (by simp))) ((bin_ok2 ((mB_ok (a_one (i2 _ _ _ _ _ rfl hst1))).trans rfl) rfl).trans (mod_ok (by omega)))).trans ?_)
      unfold vIx vdict dref
      dsimp only
      rw [hprime]
    have hzz : (77291 * z * z) ≤ 77291 * 1001 * 1001 := Int.mul_le_mul (Int.mul_le_mul_of_nonneg_left hz1 (by omega)) hz1 hz0 (by omega)
    have hzz0 : 0 ≤ 77291 * z * z := Int.mul_nonneg (Int.mul_nonneg (by omega) hz0) hz0
    have x1 : ∀ env : Sh.Env, env[0]? = some (some (.ref k)) → mBin vAdd (mBin vAdd (mBin vIx (mVar 0) (mC (.int 1))) (mBin vMulI (mBin vMulI (mC (.int 77291)) (mBin vIx (mVar 0) (mC (.int 2)))) (mBin vIx (mVar 0) (mC (.int 2))))) (mC (.int 881)) env st1 = some (.int (b + 77291 * z * z + 881), st1) := fun env he =>
      (bin_ok2 ((bin_ok2 (i1 _ _ _ _ _ he hst1) ((bin_ok2 ((bin_ok2 rfl (i2 _ _ _ _ _ he hst1)).trans (mul_ok 20 20 (by decide) (by omega) (by omega))) (i2 _ _ _ _ _ he hst1)).trans (mul_ok 40 20 (by omega) (by omega) (by omega)))).trans rfl) rfl).trans rfl
    generalize hx : b + 77291 * z * z + 881 = x at x1
    have hx0 : 0 ≤ x := by omega
    have hx1 : x.natAbs < 2 ^ 62 := by omega
    have s3 : sSet 4 (mBin vMod (mB bInt (aCons (mBin vPow (mB bInt (aCons (mBin vAdd (mBin vAdd (mBin vIx (mVar 0) (mC (.int 1))) (mBin vMulI (mBin vMulI (mC (.int 77291)) (mBin vIx (mVar 0) (mC (.int 2)))) (mBin vIx (mVar 0) (mC (.int 2))))) (mC (.int 881))) aNil)) (mC (.int 3))) aNil)) (mVar 3)) [some (.ref k), some (.int m), none, some (.int p), none] st1 = some (.nx, [some (.ref k), some (.int m), none, some (.int p), some (.int (x ^ (3 : Int).toNat % p))], st1) :=
      set_ok ((bin_ok2 ((mB_ok (a_one ((bin_ok2 ((mB_ok (a_one (x1 _ rfl))).trans rfl) rfl).trans (pow_ok (by omega) 62 hx1 (by omega) (by omega))))).trans rfl) (var_ok rfl)).trans (mod_ok hp0))
    generalize hy : x ^ (3 : Int).toNat % p = y at s3
    have hy0 : 0 ≤ y := hy ▸ Int.emod_nonneg _ (by omega)
    have hy1 : y < p := hy ▸ Int.emod_lt_of_pos _ hp0
    have hw0 : 0 ≤ y % 10223 := Int.emod_nonneg _ (by omega)
    have hw1 : y % 10223 < 10223 := Int.emod_lt_of_pos _ (by omega)
    have s4 : sSet 4 (mBin vMod (mB bInt (aCons (mBin vMulI (mVar 4) (mBin vAdd (mBin vMod (mB bInt (aCons (mVar 4) aNil)) (mC (.int 10223))) (mBin vMulI (mC (.int 118)) (mBin vIx (mVar 0) (mC (.int 2)))))) aNil)) (mC (.int 2305843009213693907))) [some (.ref k), some (.int m), none, some (.int p), some (.int y)] st1 = some (.nx, [some (.ref k), some (.int m), none, some (.int p), some (.int (y * (y % 10223 + 118 * z) % 2305843009213693907))], st1) :=
      set_ok ((bin_ok2 ((mB_ok (a_one ((bin_ok2 (var_ok rfl) ((bin_ok2 ((bin_ok2 ((mB_ok (a_one (var_ok rfl))).trans rfl) rfl).trans (mod_ok (by omega))) ((bin_ok2 rfl (i2 _ _ _ _ _ rfl hst1)).trans (mul_ok 20 20 (by decide) (by omega) (by omega)))).trans rfl)).trans (mul_ok 40 40 (by omega) (by omega) (by omega))))).trans rfl) rfl).trans (mod_ok (by omega)))
    generalize y * (y % 10223 + 118 * z) % 2305843009213693907 = u at s4
    have s5 : sRet (mBin vMod (mB bInt (aCons (mBin vFloorDiv (mVar 4) (mC (.int 149))) aNil)) (mVar 1)) [some (.ref k), some (.int m), none, some (.int p), some (.int u)] st1 = some (.rt (.int (u / 149 % m)), [some (.ref k), some (.int m), none, some (.int p), some (.int u)], st1) :=
      ret_ok ((bin_ok2 ((mB_ok (a_one ((bin_ok2 (var_ok rfl) rfl).trans (fdiv_ok (by omega) 10 (by decide) (by omega))))).trans rfl) (var_ok rfl)).trans (mod_ok hm))
    refine ⟨u / 149 % m, a, b, c + 1, ?_, Int.emod_nonneg _ (by omega), Int.emod_lt_of_pos _ hm, hb0, hb1, by omega, by omega⟩
    rw [hS]
    refine (mkFn_rt (st' := st1) (v := .int (u / 149 % m)) (env := [some (.ref k), some (.int m), none, some (.int p), some (.int u)]) ?_).trans (gc_set hok hlen rfl)
    exact (seq_nx (if_f t0)).trans ((seq_nx s1).trans ((seq_nx s2).trans ((seq_nx s3).trans ((seq_nx s4).trans s5))))
end K83

-- part M7
set_option Elab.async false
set_option linter.all false
set_option maxRecDepth 100000
set_option maxHeartbeats 400000
namespace Sh
open PySem PySem.Spec L2
theorem vbelows_iff {n : Nat} : ∀ {xs : List Val}, vbelows n xs = true ↔ ∀ x ∈ xs, vbelow n x = true
  | [] => by simp [vbelows]
  | x :: xs => by
    rw [vbelows, Bool.and_eq_true, vbelows_iff]
    simp
theorem popAt_ok {st : Sto} {xs : List Val} {d : Nat} (h : d < xs.length) (hl : xs.length ≤ 1000000) : lPopAt st xs [.int d] = some (xs[d], xs.eraseIdx d) := by
  have h1 : ixN xs.length (d : Int) = some d := by
    unfold ixN
    rw [if_pos (by omega), if_pos (by omega)]
    rfl
  unfold lPopAt
  dsimp only
  rw [if_pos (show lenOk _ = true from decide_eq_true hl), h1]
  dsimp only
  rw [List.getElem?_eq_getElem h]
theorem cons_erase_perm {α : Type} : ∀ (l : List α) {d : Nat} (h : d < l.length), ([l[d]] ++ l.eraseIdx d).Perm l
  | [], d, h => absurd h (Nat.not_lt_zero _)
  | x :: l, 0, _ => .refl _
  | x :: l, d + 1, h => by
    have := cons_erase_perm l (d := d) (by simpa using h)
    show (l[d]'(by simpa using h) :: x :: l.eraseIdx d).Perm (x :: l)
    exact (List.Perm.swap x _ _).trans (this.cons x)
theorem Pot.of {st st' : Sto} {k : Nat} {n : Int} (h : Pot st k n) (e : st'[k]? = st[k]?) : Pot st' k n := by
  obtain ⟨a, b, c, h1, h2⟩ := h.ex
  exact ⟨a, b, c, e.trans h1, h2⟩
theorem Pot.lt {st : Sto} {k : Nat} {n : Int} (h : Pot st k n) : k < st.length := by
  obtain ⟨a, b, c, h1, _⟩ := h.ex
  exact (List.getElem?_eq_some_iff.mp h1).1
end Sh
namespace K83
open PySem PySem.Spec L2 Sh
abbrev bodyS : MS := sEx (mLM2 lAppend (mVar 4) (aCons (mLM2 lPopAt (mVar 3) (aCons (mCall 2 f__law_take (aCons (mVar 0) (aCons (mB bLen (aCons (mVar 3) aNil)) aNil))) aNil)) aNil))
structure SomeAt (st S : Sto) (k L : Nat) (c : Int) (chosen rest : List Val) : Prop where
  len : S.length = L + 2
  kL : k < L
  ok : StOk S
  pot : Pot S k c
  r : S[L]? = some (.lst rest)
  f : S[L + 1]? = some (.lst chosen)
  keep : ∀ j < L, j ≠ k → S[j]? = st[j]?
  below : ∀ x ∈ chosen ++ rest, vbelow L x = true
theorem turnS {st S : Sto} {k L : Nat} {c : Int} {chosen rest : List Val} {a1 a2 e5 : Option Val} {v : Val} (h : SomeAt st S k L c chosen rest) (hr : 0 < rest.length) (hr2 : rest.length ≤ 1000) (hc : c ≤ 1000) (hch : chosen.length ≤ 1000) :
    ∃ S' d, ∃ hd : d < rest.length, turnM (gNameM 5) bodyS v [some (.ref k), a1, a2, some (.ref L), some (.ref (L + 1)), e5] S = some (.nx, [some (.ref k), a1, a2, some (.ref L), some (.ref (L + 1)), some v], S') ∧ SomeAt st S' k L (c + 1) (chosen ++ [rest[d]]) (rest.eraseIdx d) := by
  obtain ⟨d, x, y, z, t1, t2, t3, t4, t5, t6, t7⟩ := take_ok (m := (rest.length : Int)) h.ok h.pot hc (by omega) (by omega)
  have hkL := h.kL
  have hlen := h.len
  have hrL := h.r
  have hfL := h.f
  obtain ⟨D, rfl⟩ : ∃ D : Nat, d = D := ⟨d.toNat, by omega⟩
  have hD : D < rest.length := by omega
  have l1 : mB bLen (aCons (mVar 3) aNil) [some (.ref k), a1, a2, some (.ref L), some (.ref (L + 1)), some v] S = some (.int rest.length, S) := by
    refine (mB_ok (a_one (var_ok rfl))).trans ?_
    unfold bLen vdict dref
    dsimp only
    rw [hrL]
  generalize hS1 : S.set k (.lst [.int x, .int y, .int z]) = S1 at t1
  have l2 : mCall 2 f__law_take (aCons (mVar 0) (aCons (mB bLen (aCons (mVar 3) aNil)) aNil)) [some (.ref k), a1, a2, some (.ref L), some (.ref (L + 1)), some v] S = some (.int D, S1) :=
    (call_ok2 (a_cons (var_ok rfl) (a_one l1)) rfl).trans t1
  have n1 : S1.length = L + 2 := by rw [← hS1, List.length_set]; exact hlen
  have n2 : S1[L]? = some (.lst rest) := by rw [← hS1, List.getElem?_set_ne (by omega)]; exact hrL
  have n3 : S1[L + 1]? = some (.lst chosen) := by rw [← hS1, List.getElem?_set_ne (by omega)]; exact hfL
  have n4 : S1[k]? = some (.lst [.int x, .int y, .int z]) := by rw [← hS1]; exact List.getElem?_set_self (by omega)
  have n5 : StOk S1 := hS1 ▸ h.ok.set rfl
  have l3 : mLM2 lPopAt (mVar 3) (aCons (mCall 2 f__law_take (aCons (mVar 0) (aCons (mB bLen (aCons (mVar 3) aNil)) aNil))) aNil) [some (.ref k), a1, a2, some (.ref L), some (.ref (L + 1)), some v] S = some (rest[D], S1.set L (.lst (rest.eraseIdx D))) :=
    lm_ok2 (var_ok rfl) hrL (a_one l2) n2 (popAt_ok hD (by omega))
  have b1 : ∀ x ∈ rest, vbelow L x = true := fun x hx => h.below x (List.mem_append_right _ hx)
  have b2 : ∀ x ∈ chosen, vbelow L x = true := fun x hx => h.below x (List.mem_append_left _ hx)
  generalize hS2 : S1.set L (.lst (rest.eraseIdx D)) = S2 at l3
  have m1 : S2.length = L + 2 := by rw [← hS2, List.length_set]; exact n1
  have m2 : S2[L]? = some (.lst (rest.eraseIdx D)) := by rw [← hS2]; exact List.getElem?_set_self (by omega)
  have m3 : S2[L + 1]? = some (.lst chosen) := by rw [← hS2, List.getElem?_set_ne (by omega)]; exact n3
  have m4 : S2[k]? = some (.lst [.int x, .int y, .int z]) := by rw [← hS2, List.getElem?_set_ne (by omega)]; exact n4
  have m5 : StOk S2 := hS2 ▸ n5.set (vbelows_iff.mpr fun x hx => vbelow_mono (by omega) x (b1 x (List.mem_of_mem_eraseIdx hx)))
  refine ⟨S2.set (L + 1) (.lst (chosen ++ [rest[D]])), D, hD, ?_, ?_⟩
  · show sEx _ [some (.ref k), a1, a2, some (.ref L), some (.ref (L + 1)), some v] S = _
    exact ex_ok (lm_ok2 (var_ok rfl) hfL (a_one l3) m3 (append_ok (by omega)))
  · refine ⟨by rw [List.length_set]; exact m1, hkL, m5.set (vbelows_iff.mpr fun x hx => ?_), ⟨x, y, z, by rw [List.getElem?_set_ne (by omega)]; exact m4, t4, t5, t6, t7⟩, by rw [List.getElem?_set_ne (by omega)]; exact m2, List.getElem?_set_self (by omega), fun j hj hjk => ?_, fun x hx => ?_⟩
    · refine vbelow_mono (n := L) (by omega) x ?_
      rcases List.mem_append.mp hx with hx | hx
      · exact b2 x hx
      · rw [List.mem_singleton] at hx
        exact hx ▸ b1 _ (List.getElem_mem hD)
    · rw [List.getElem?_set_ne (by omega), ← hS2, List.getElem?_set_ne (by omega), ← hS1, List.getElem?_set_ne (by omega)]
      exact h.keep j hj hjk
    · rcases List.mem_append.mp hx with hx | hx
      · rcases List.mem_append.mp hx with hx | hx
        · exact b2 x hx
        · rw [List.mem_singleton] at hx
          exact hx ▸ b1 _ (List.getElem_mem hD)
      · exact b1 x (List.mem_of_mem_eraseIdx hx)
theorem loopS {st : Sto} {k L : Nat} {a1 a2 : Option Val} : ∀ (vs : List Val) (S : Sto) (c : Int) (chosen rest : List Val) (e5 : Option Val), SomeAt st S k L c chosen rest → vs.length ≤ rest.length → rest.length ≤ 1000 → c + vs.length ≤ 1000 → chosen.length + vs.length ≤ 1000 →
    ∃ S' chosen' rest' e5', forL (gNameM 5) bodyS vs [some (.ref k), a1, a2, some (.ref L), some (.ref (L + 1)), e5] S = some (.nx, [some (.ref k), a1, a2, some (.ref L), some (.ref (L + 1)), e5'], S') ∧
      SomeAt st S' k L (c + vs.length) chosen' rest' ∧ (chosen' ++ rest').Perm (chosen ++ rest) ∧ chosen'.length = chosen.length + vs.length
  | [], S, c, chosen, rest, e5, h, _, _, _, _ => ⟨S, chosen, rest, e5, rfl, by simpa using h, .refl _, rfl⟩
  | v :: vs, S, c, chosen, rest, e5, h, h1, h2, h3, h4 => by
    rw [List.length_cons] at h1 h3 h4
    obtain ⟨S1, d, hd, q1, q2⟩ := turnS (a1 := a1) (a2 := a2) (e5 := e5) (v := v) h (by omega) h2 (by omega) (by omega)
    have hz : (rest.eraseIdx d).length = rest.length - 1 := List.length_eraseIdx_of_lt hd
    obtain ⟨S', ch, re, e5', q3, q4, q5, q6⟩ := loopS vs S1 (c + 1) (chosen ++ [rest[d]]) (rest.eraseIdx d) (some v) q2 (by omega) (by omega) (by push_cast at h3; omega) (by rw [List.length_append, List.length_singleton]; omega)
    refine ⟨S', ch, re, e5', ?_, ?_, ?_, ?_⟩
    · rw [forL, q1]
      exact q3
    · rw [List.length_cons]
      have e : c + 1 + (vs.length : Int) = c + ((vs.length + 1 : Nat) : Int) := by push_cast; omega
      rw [← e]
      exact q4
    · refine q5.trans ?_
      rw [List.append_assoc]
      exact (cons_erase_perm rest hd).append_left chosen
    · rw [q6]
      simp
      omega
/-- _law_some -/
theorem some_ok {st : Sto} {k : Nat} {c : Int} {pool : Val} {xs : List Val} {m : Nat} (h : StOk st) (hp : Pot st k c) (hv : vseq st pool = some xs) (hb : ∀ x ∈ xs, vbelow st.length x = true) (hx : xs.length ≤ 1000) (hm : m ≤ 500) (hc0 : 0 ≤ c) (hc : c ≤ 400) :
    ∃ S chosen rest, f__law_some [.ref k, pool, .int m] st = some (.ref (st.length + 1), S) ∧ SomeAt st S k st.length (c + min m xs.length) chosen rest ∧ (chosen ++ rest).Perm xs ∧ chosen.length = min m xs.length := by
  have hk := hp.lt
  have p1 : aCons (mNew (fB bList (aCons (mVar 1) aNil))) (aCons (mNew (fLst aNil)) aNil) [some (.ref k), some pool, some (.int m), none, none, none] st = some ([.ref st.length, .ref (st.length + 1)], (st ++ [.lst xs]) ++ [.lst []]) := by
    refine a_cons (mnew_ok (fB_ok (ys := xs) (a_one (var_ok rfl)) ?_)) (a_one ((mnew_ok (flst_ok a_nil (by simp))).trans ?_))
    · unfold bList
      dsimp only
      exact hv
    · rw [List.length_append]
      rfl
  have s1 : sPar 3 4 (aCons (mNew (fB bList (aCons (mVar 1) aNil))) (aCons (mNew (fLst aNil)) aNil)) [some (.ref k), some pool, some (.int m), none, none, none] st = some (.nx, [some (.ref k), some pool, some (.int m), some (.ref st.length), some (.ref (st.length + 1)), none], (st ++ [.lst xs]) ++ [.lst []]) := by
    unfold sPar
    rw [p1]
    rfl
  have a0 : SomeAt st ((st ++ [.lst xs]) ++ [.lst []]) k st.length c [] xs := by
    refine ⟨by simp, hk, (h.add (o := .lst xs) (vbelows_iff.mpr fun x hx => vbelow_mono (Nat.le_add_right _ _) x (hb x hx))).add rfl, hp.of ?_, ?_, ?_, fun j hj _ => ?_, fun x hx => hb x (by simpa using hx)⟩
    · rw [List.append_assoc, List.getElem?_append_left hk]
    · rw [List.append_assoc, List.getElem?_append_right (Nat.le_refl _)]
      simp
    · rw [List.getElem?_append_right (by simp)]
      simp
    · rw [List.append_assoc, List.getElem?_append_left hj]
  generalize (st ++ [.lst xs]) ++ [.lst []] = S0 at s1 a0
  have e1 : iRange1 (mB bMin2 (aCons (mVar 2) (aCons (mB bLen (aCons (mVar 3) aNil)) aNil))) [some (.ref k), some pool, some (.int m), some (.ref st.length), some (.ref (st.length + 1)), none] S0 = some (.vals (rgVals 0 (min m xs.length)), S0) := by
    have l1 : mB bLen (aCons (mVar 3) aNil) [some (.ref k), some pool, some (.int m), some (.ref st.length), some (.ref (st.length + 1)), none] S0 = some (.int xs.length, S0) := by
      refine (mB_ok (a_one (var_ok rfl))).trans ?_
      unfold bLen vdict dref
      dsimp only
      rw [a0.r]
    have l2 : mB bMin2 (aCons (mVar 2) (aCons (mB bLen (aCons (mVar 3) aNil)) aNil)) [some (.ref k), some pool, some (.int m), some (.ref st.length), some (.ref (st.length + 1)), none] S0 = some (.int (min m xs.length : Nat), S0) := by
      refine (mB_ok (a_cons (var_ok rfl) (a_one l1))).trans ?_
      unfold bMin2 minI
      dsimp only
      by_cases hlt : xs.length < m
      · rw [if_pos (by omega), Nat.min_eq_right (by omega)]
      · rw [if_neg (by omega), Nat.min_eq_left (by omega)]
    unfold iRange1 mBind
    rw [l2]
    dsimp only
    rw [if_pos (show rgOk _ = true from decide_eq_true (by omega))]
    rfl
  have hrl : (rgVals 0 (min m xs.length)).length = min m xs.length := rgVals_len _ _
  obtain ⟨S', ch, re, e5', q1, q2, q3, q4⟩ := loopS (a1 := some pool) (a2 := some (.int m)) (rgVals 0 (min m xs.length)) S0 c [] xs none a0 (by rw [hrl]; omega) hx (by rw [hrl]; omega) (by rw [hrl]; simp; omega)
  rw [hrl] at q2 q4
  refine ⟨S', ch, re, ?_, q2, by simpa using q3, by simpa using q4⟩
  have s2 : sFor (iRange1 (mB bMin2 (aCons (mVar 2) (aCons (mB bLen (aCons (mVar 3) aNil)) aNil)))) (gNameM 5) bodyS [some (.ref k), some pool, some (.int m), some (.ref st.length), some (.ref (st.length + 1)), none] S0 = some (.nx, [some (.ref k), some pool, some (.int m), some (.ref st.length), some (.ref (st.length + 1)), e5'], S') := by
    unfold sFor
    rw [e1]
    exact q1
  exact mkFn_rt ((seq_nx s1).trans ((seq_nx s2).trans (ret_ok (var_ok rfl))))
end K83

-- part M8
set_option Elab.async false
set_option linter.all false
set_option maxRecDepth 100000
set_option maxHeartbeats 1000000
namespace K83
open PySem PySem.Spec L2 Sh
def lotsF : List (List Nat) → List Nat → List (List Nat)
  | f, [] => f
  | f, c :: cs => lotsF (f ++ f.map fun l => l ++ [c]) cs
abbrev bodyL : MS := sSet 1 (mBin vAdd (mVar 1) (mFz (fLc [3] (iSeq (mVar 1)) (gNameM 3) tYesM (mBin vAdd (mVar 3) (mTup (aCons (mVar 2) aNil))))))
theorem turnL {st : Sto} {f : List (List Nat)} {c : Nat} {a0 e2 e3 : Option Val} (hf : f.length ≤ 1000) (hl : ∀ l ∈ f, l.length ≤ 1000) : turnM (gNameM 2) bodyL (vN c) [a0, some (.lst (f.map vG)), e2, e3] st = some (.nx, [a0, some (.lst ((f ++ f.map fun l => l ++ [c]).map vG)), some (vN c), e3], st) := by
  have e1 : fLc [3] (iSeq (mVar 1)) (gNameM 3) tYesM (mBin vAdd (mVar 3) (mTup (aCons (mVar 2) aNil))) [a0, some (.lst (f.map vG)), some (vN c), e3] st = some (f.map (fun l => vG (l ++ [c])), st) := by
    refine fLc_map (f := vG) (seq_lst (var_ok rfl)) (fun l hl2 => step1_yes (env1 := [a0, some (.lst (f.map vG)), some (vN c), some (vG l)]) rfl ((bin_ok2 (var_ok rfl) (mtup_ok (a_one (var_ok rfl)) (by simp))).trans ?_)) (by omega)
    have := hl l hl2
    unfold vG vAdd
    dsimp only
    rw [if_pos (show lenOk _ = true from decide_eq_true (by simp; omega)), List.map_append]
    rfl
  show sSet _ _ _ _ = _
  refine (set_ok (v := .lst ((f ++ f.map fun l => l ++ [c]).map vG)) ((bin_ok2 (var_ok rfl) (mfz_ok e1)).trans ?_)).trans rfl
  · unfold vAdd
    dsimp only
    unfold vAddL vlistM dref
    dsimp only
    rw [if_pos (show lenOk _ = true from decide_eq_true (by simp; omega)), List.map_append, List.map_map]
    rfl
theorem loopL {st : Sto} {a0 : Option Val} : ∀ (cs : List Nat) (f : List (List Nat)) (n : Nat) (e2 e3 : Option Val), f.length * 2 ^ cs.length ≤ 1000 → (∀ l ∈ f, l.length ≤ n) → n + cs.length ≤ 1000 →
    ∃ e2', forL (gNameM 2) bodyL (cs.map vN) [a0, some (.lst (f.map vG)), e2, e3] st = some (.nx, [a0, some (.lst ((lotsF f cs).map vG)), e2', e3], st)
  | [], f, n, e2, e3, _, _, _ => ⟨e2, rfl⟩
  | c :: cs, f, n, e2, e3, h1, h2, h3 => by
    rw [List.length_cons, Nat.pow_succ] at h1
    rw [List.length_cons] at h3
    have hp : 0 < 2 ^ cs.length := Nat.pow_pos (by omega)
    have h4 : f.length ≤ f.length * (2 ^ cs.length * 2) := Nat.le_mul_of_pos_right _ (by omega)
    obtain ⟨e2', q⟩ := loopL cs (f ++ f.map fun l => l ++ [c]) (n + 1) (some (vN c)) e3 (by
      rw [List.length_append, List.length_map]
      have : (f.length + f.length) * 2 ^ cs.length = f.length * (2 ^ cs.length * 2) := by rw [Nat.add_mul, Nat.mul_comm (2 ^ cs.length) 2, Nat.two_mul, Nat.mul_add]
      omega) (fun l hl => by
        rcases List.mem_append.mp hl with hl | hl
        · have := h2 l hl; omega
        · obtain ⟨l', h5, rfl⟩ := List.mem_map.mp hl
          have := h2 l' h5
          simp
          omega) (by omega)
    refine ⟨e2', ?_⟩
    rw [List.map_cons, forL, turnL (by omega) fun l hl => by have := h2 l hl; omega]
    exact q
theorem lots_ok {st : Sto} (h : StOk st) {cs : List Nat} (hl : cs.length ≤ 4) : f__law_lots [.lst (cs.map vN)] st = some (.lst ((lotsF [[]] cs).map vG), st) := by
  have hp : 2 ^ cs.length ≤ 2 ^ 4 := Nat.pow_le_pow_right (by omega) hl
  obtain ⟨e2, q⟩ := loopL (st := st) (a0 := some (.lst (cs.map vN))) cs [[]] 0 none none (by simp; omega) (by simp) (by omega)
  have s1 : sSet 1 (mFz (fLst (aCons (mTup aNil) aNil))) [some (.lst (cs.map vN)), none, none, none] st = some (.nx, [some (.lst (cs.map vN)), some (.lst ([[]].map vG)), none, none], st) :=
    set_ok (mfz_ok (flst_ok (a_one (v := vG []) (mtup_ok a_nil (by simp))) (by simp)))
  have s2 : sFor (iSeq (mVar 0)) (gNameM 2) bodyL [some (.lst (cs.map vN)), some (.lst ([[]].map vG)), none, none] st = some (.nx, [some (.lst (cs.map vN)), some (.lst ((lotsF [[]] cs).map vG)), e2, none], st) := by
    unfold sFor
    rw [show iSeq (mVar 0) _ st = some (.vals (cs.map vN), st) from seq_lst (var_ok rfl)]
    exact q
  exact fn_rt h ((seq_nx s1).trans ((seq_nx s2).trans (ret_ok (var_ok rfl)))) (by rw [vbelow]; exact vbelows_map (fun a => vbelow_G a _) _)
/-! ranks -/
abbrev innerR : MS := sFor (iRange2 (mC (.int 1)) (mBin vAdd (mVar 2) (mC (.int 1)))) (gNameM 4) (sSeq (sSet 5 (mC (.int 1))) (sSeq (sFor (iRange1 (mVar 4)) (gNameM 6) (sSet 5 (mBin vFloorDiv (mBin vMulI (mVar 5) (mBin vSub (mVar 2) (mVar 6))) (mBin vAdd (mVar 6) (mC (.int 1)))))) (sSet 3 (mBin vAdd (mVar 3) (mBin vMulI (mVar 5) (mBin vIx (mVar 1) (mBin vSub (mVar 2) (mVar 4)))))))) 
abbrev bodyR : MS := sSeq (sSet 3 (mC (.int 0))) (sSeq innerR (sEx (mLM2 lAppend (mVar 1) (aCons (mVar 3) aNil))))
theorem inner1 {S : Sto} {L : Nat} {a0 e2 e3 e4 e5 e6 : Option Val} (h : S[L]? = some (.lst [.int 1])) : turnM (gNameM 2) bodyR (.int 1) [a0, some (.ref L), e2, e3, e4, e5, e6] S = some (.nx, [a0, some (.ref L), some (.int 1), some (.int 1), some (.int 1), some (.int 1), some (.int 0)], S.set L (.lst [.int 1, .int 1])) := by
  simp (decide := true) [bodyR, sFor, forL, turnM, iRange1, iRange2, rgVals, rgOk, sSeq, mAnd, mOr, mNot, mIsi, mChain, mBin, mBind, mVar, mC, aCons, aNil, aStar, mTup, mIf, mCall, tOf, tAndM, tOrM, tNotM, tyName, dref, vtru, vLt, vLe, vGt, vGe, vSub, vI2, vI2C, mB, bLen, vdict, bAll, bAny, vlist, vlistM, vseq, iSeq, Sh.iZip, Sh.iEnum, vtup2, vlst2, mSl, oNone, oSome, vSl, gNameM, gTupM, gConsM, gNilM, mFz, mNew, fLst, sSet, sPar, sAsg, sRet, sEx, sNext, sBk, sCt, tYesM, vAdd, vFloorDiv, vMulI, vIx, atI, ixN, h, List.range_succ, mulOk, divOk, mLM2, isLst, lAppend, lenOk]
theorem inner2 {S : Sto} {L : Nat} {a0 e2 e3 e4 e5 e6 : Option Val} (h : S[L]? = some (.lst [.int 1, .int 1])) : turnM (gNameM 2) bodyR (.int 2) [a0, some (.ref L), e2, e3, e4, e5, e6] S = some (.nx, [a0, some (.ref L), some (.int 2), some (.int 3), some (.int 2), some (.int 1), some (.int 1)], S.set L (.lst [.int 1, .int 1, .int 3])) := by
  simp (decide := true) [bodyR, sFor, forL, turnM, iRange1, iRange2, rgVals, rgOk, sSeq, mAnd, mOr, mNot, mIsi, mChain, mBin, mBind, mVar, mC, aCons, aNil, aStar, mTup, mIf, mCall, tOf, tAndM, tOrM, tNotM, tyName, dref, vtru, vLt, vLe, vGt, vGe, vSub, vI2, vI2C, mB, bLen, vdict, bAll, bAny, vlist, vlistM, vseq, iSeq, Sh.iZip, Sh.iEnum, vtup2, vlst2, mSl, oNone, oSome, vSl, gNameM, gTupM, gConsM, gNilM, mFz, mNew, fLst, sSet, sPar, sAsg, sRet, sEx, sNext, sBk, sCt, tYesM, vAdd, vFloorDiv, vMulI, vIx, atI, ixN, h, List.range_succ, mulOk, divOk, mLM2, isLst, lAppend, lenOk]
theorem inner3 {S : Sto} {L : Nat} {a0 e2 e3 e4 e5 e6 : Option Val} (h : S[L]? = some (.lst [.int 1, .int 1, .int 3])) : turnM (gNameM 2) bodyR (.int 3) [a0, some (.ref L), e2, e3, e4, e5, e6] S = some (.nx, [a0, some (.ref L), some (.int 3), some (.int 13), some (.int 3), some (.int 1), some (.int 2)], S.set L (.lst [.int 1, .int 1, .int 3, .int 13])) := by
  simp (decide := true) [bodyR, sFor, forL, turnM, iRange1, iRange2, rgVals, rgOk, sSeq, mAnd, mOr, mNot, mIsi, mChain, mBin, mBind, mVar, mC, aCons, aNil, aStar, mTup, mIf, mCall, tOf, tAndM, tOrM, tNotM, tyName, dref, vtru, vLt, vLe, vGt, vGe, vSub, vI2, vI2C, mB, bLen, vdict, bAll, bAny, vlist, vlistM, vseq, iSeq, Sh.iZip, Sh.iEnum, vtup2, vlst2, mSl, oNone, oSome, vSl, gNameM, gTupM, gConsM, gNilM, mFz, mNew, fLst, sSet, sPar, sAsg, sRet, sEx, sNext, sBk, sCt, tYesM, vAdd, vFloorDiv, vMulI, vIx, atI, ixN, h, List.range_succ, mulOk, divOk, mLM2, isLst, lAppend, lenOk]
theorem inner4 {S : Sto} {L : Nat} {a0 e2 e3 e4 e5 e6 : Option Val} (h : S[L]? = some (.lst [.int 1, .int 1, .int 3, .int 13])) : turnM (gNameM 2) bodyR (.int 4) [a0, some (.ref L), e2, e3, e4, e5, e6] S = some (.nx, [a0, some (.ref L), some (.int 4), some (.int 75), some (.int 4), some (.int 1), some (.int 3)], S.set L (.lst [.int 1, .int 1, .int 3, .int 13, .int 75])) := by
  simp (decide := true) [bodyR, sFor, forL, turnM, iRange1, iRange2, rgVals, rgOk, sSeq, mAnd, mOr, mNot, mIsi, mChain, mBin, mBind, mVar, mC, aCons, aNil, aStar, mTup, mIf, mCall, tOf, tAndM, tOrM, tNotM, tyName, dref, vtru, vLt, vLe, vGt, vGe, vSub, vI2, vI2C, mB, bLen, vdict, bAll, bAny, vlist, vlistM, vseq, iSeq, Sh.iZip, Sh.iEnum, vtup2, vlst2, mSl, oNone, oSome, vSl, gNameM, gTupM, gConsM, gNilM, mFz, mNew, fLst, sSet, sPar, sAsg, sRet, sEx, sNext, sBk, sCt, tYesM, vAdd, vFloorDiv, vMulI, vIx, atI, ixN, h, List.range_succ, mulOk, divOk, mLM2, isLst, lAppend, lenOk]
theorem ranks3 {st : Sto} (h : StOk st) : f__law_ranks [.int 3] st = some (.int 13, st) := by
  have s1 : sSet 1 (mNew (fLst (aCons (mC (.int 1)) aNil))) [some (.int 3), none, none, none, none, none, none] st = some (.nx, [some (.int 3), some (.ref st.length), none, none, none, none, none], st ++ [.lst [.int 1]]) :=
    set_ok (mnew_ok (flst_ok (a_one rfl) (by simp)))
  have s2 : sFor (iRange2 (mC (.int 1)) (mBin vAdd (mVar 0) (mC (.int 1)))) (gNameM 2) bodyR [some (.int 3), some (.ref st.length), none, none, none, none, none] (st ++ [.lst [.int 1]]) = some (.nx, [some (.int 3), some (.ref st.length), some (.int 3), some (.int 13), some (.int 3), some (.int 1), some (.int 2)], st ++ [.lst [.int 1, .int 1, .int 3, .int 13]]) := by
    unfold sFor
    rw [show iRange2 (mC (.int 1)) (mBin vAdd (mVar 0) (mC (.int 1))) [some (.int 3), some (.ref st.length), none, none, none, none, none] (st ++ [.lst [.int 1]]) = some (.vals [.int 1, .int 2, .int 3], st ++ [.lst [.int 1]]) by simp (decide := true) [iRange2, mAnd, mOr, mNot, mIsi, mChain, mBin, mBind, mVar, mC, aCons, aNil, aStar, mTup, mIf, mCall, tOf, tAndM, tOrM, tNotM, tyName, dref, vtru, vLt, vLe, vGt, vGe, vSub, vI2, vI2C, mB, bLen, vdict, bAll, bAny, vlist, vlistM, vseq, iSeq, Sh.iZip, Sh.iEnum, vtup2, vlst2, mSl, oNone, oSome, vSl, gNameM, gTupM, gConsM, gNilM, mFz, mNew, fLst, sSet, sPar, sAsg, sRet, sEx, sNext, sBk, sCt, tYesM, vAdd, rgVals, rgOk, List.range_succ]]
    dsimp only
    rw [forL, inner1 (get_last st _), set_last]
    dsimp only
    rw [forL, inner2 (get_last st _), set_last]
    dsimp only
    rw [forL, inner3 (get_last st _), set_last]
    dsimp only
    rw [forL]
  refine fn_cut (new := [.lst [.int 1, .int 1, .int 3, .int 13]]) h ((seq_nx s1).trans ((seq_nx s2).trans (ret_ok ((bin_ok2 (var_ok rfl) (var_ok rfl)).trans (ix_store (get_last st _) rfl))))) rfl
theorem ranks4 {st : Sto} (h : StOk st) : f__law_ranks [.int 4] st = some (.int 75, st) := by
  have s1 : sSet 1 (mNew (fLst (aCons (mC (.int 1)) aNil))) [some (.int 4), none, none, none, none, none, none] st = some (.nx, [some (.int 4), some (.ref st.length), none, none, none, none, none], st ++ [.lst [.int 1]]) :=
    set_ok (mnew_ok (flst_ok (a_one rfl) (by simp)))
  have s2 : sFor (iRange2 (mC (.int 1)) (mBin vAdd (mVar 0) (mC (.int 1)))) (gNameM 2) bodyR [some (.int 4), some (.ref st.length), none, none, none, none, none] (st ++ [.lst [.int 1]]) = some (.nx, [some (.int 4), some (.ref st.length), some (.int 4), some (.int 75), some (.int 4), some (.int 1), some (.int 3)], st ++ [.lst [.int 1, .int 1, .int 3, .int 13, .int 75]]) := by
    unfold sFor
    rw [show iRange2 (mC (.int 1)) (mBin vAdd (mVar 0) (mC (.int 1))) [some (.int 4), some (.ref st.length), none, none, none, none, none] (st ++ [.lst [.int 1]]) = some (.vals [.int 1, .int 2, .int 3, .int 4], st ++ [.lst [.int 1]]) by simp (decide := true) [iRange2, mAnd, mOr, mNot, mIsi, mChain, mBin, mBind, mVar, mC, aCons, aNil, aStar, mTup, mIf, mCall, tOf, tAndM, tOrM, tNotM, tyName, dref, vtru, vLt, vLe, vGt, vGe, vSub, vI2, vI2C, mB, bLen, vdict, bAll, bAny, vlist, vlistM, vseq, iSeq, Sh.iZip, Sh.iEnum, vtup2, vlst2, mSl, oNone, oSome, vSl, gNameM, gTupM, gConsM, gNilM, mFz, mNew, fLst, sSet, sPar, sAsg, sRet, sEx, sNext, sBk, sCt, tYesM, vAdd, rgVals, rgOk, List.range_succ]]
    dsimp only
    rw [forL, inner1 (get_last st _), set_last]
    dsimp only
    rw [forL, inner2 (get_last st _), set_last]
    dsimp only
    rw [forL, inner3 (get_last st _), set_last]
    dsimp only
    rw [forL, inner4 (get_last st _), set_last]
    dsimp only
    rw [forL]
  refine fn_cut (new := [.lst [.int 1, .int 1, .int 3, .int 13, .int 75]]) h ((seq_nx s1).trans ((seq_nx s2).trans (ret_ok ((bin_ok2 (var_ok rfl) (var_ok rfl)).trans (ix_store (get_last st _) rfl))))) rfl
end K83

-- part M9
set_option Elab.async false
set_option linter.all false
set_option maxRecDepth 100000
set_option maxHeartbeats 400000
namespace K83
open PySem PySem.Spec L2 Sh
abbrev Odr := List (List Nat)
/-- an order of the clocks cs -/
structure OP (cs : List Nat) (o : Odr) : Prop where
  ord : Ord o
  pm : o.flatten.Perm cs
theorem leftOf_sub (gone g : List Nat) : (leftOf gone g).Sublist g := List.filter_sublist
theorem _root_.Sh.Asc.sub {g h : List Nat} (a : Asc g) (s : h.Sublist g) : Asc h := ⟨a.lt.sublist s, fun n hn => a.sm n (s.subset hn)⟩
theorem flat_ne (l : List (List Nat)) : (l.filter fun g => !decide (g = [])).flatten = l.flatten := by
  induction l with
  | nil => rfl
  | cons g l ih =>
    rw [List.filter_cons]
    by_cases h : g = []
    · subst h; simpa using ih
    · simp [h]; simpa using ih
theorem flat_left (gone : List Nat) (o : Odr) : (o.map (leftOf gone)).flatten = leftOf gone o.flatten := by
  induction o with
  | nil => rfl
  | cons g o ih =>
    rw [List.map_cons, List.flatten_cons, ih, List.flatten_cons]
    unfold leftOf
    rw [List.filter_append]
theorem flat_behind (gone reset : List Nat) (o : Odr) : (behindP gone reset o).flatten = reset ++ leftOf gone o.flatten := by
  unfold behindP
  rw [List.flatten_append, flat_ne, flat_left]
  congr 1
  by_cases h : reset = []
  · simp [h]
  · simp [h]
theorem mem_left {gone g : List Nat} {c : Nat} : c ∈ leftOf gone g ↔ c ∈ g ∧ c ∉ gone := by
  unfold leftOf
  rw [List.mem_filter]
  simp
theorem behind_ord {gone reset : List Nat} {o : Odr} (ho : Ord o) (hr : Asc reset) (hs : ∀ c ∈ reset, c ∈ gone) : Ord (behindP gone reset o) := by
  refine ⟨fun g hg => ?_, ?_⟩
  · unfold behindP at hg
    rcases List.mem_append.mp hg with h | h
    · by_cases hz : reset = []
      · rw [if_pos hz] at h; cases h
      · rw [if_neg hz, List.mem_singleton] at h
        subst h
        exact ⟨hr, hz⟩
    · rw [List.mem_filter] at h
      obtain ⟨h1, h2⟩ := h
      obtain ⟨g', h3, rfl⟩ := List.mem_map.mp h1
      exact ⟨(ho.grp g' h3).1.sub (leftOf_sub _ _), by simpa using h2⟩
  · rw [flat_behind, List.nodup_append]
    refine ⟨hr.nodup, ho.nd.sublist (leftOf_sub _ _), fun a ha b hb e => ?_⟩
    subst e
    exact (mem_left.mp hb).2 (hs a ha)
theorem bAt_ord {o : Odr} {r : List Nat} (ho : Ord o) (hr : Asc r) : Ord (bAt o r) := behind_ord ho hr fun c hc => List.mem_append_right _ hc
theorem bIn_ord {o : Odr} {r : List Nat} (ho : Ord o) (hr : Asc r) : Ord (bIn o r) := behind_ord ho hr fun c hc => hc
theorem told_ord {o : Odr} {r : List Nat} (ho : Ord o) (hr : Asc r) : ∀ x ∈ toldP o r, Ord x := by
  intro x hx
  unfold toldP at hx
  split at hx
  · rw [List.mem_singleton] at hx
    exact hx ▸ bAt_ord ho hr
  · rcases List.mem_cons.mp hx with rfl | hx
    · exact bAt_ord ho hr
    · rw [List.mem_singleton] at hx
      exact hx ▸ bIn_ord ho hr
theorem in_told (o : Odr) (r : List Nat) : bIn o r ∈ toldP o r := by
  unfold toldP
  split
  · rename_i h
    rw [h]
    exact List.mem_singleton.mpr rfl
  · simp
/-- one result or two -/
theorem told_len {o : Odr} {r : List Nat} (ho : Ord o) : (toldP o r).length = if (lastG o).all (fun c => decide (c ∈ r)) = true then 1 else 2 := by
  have hsub : ∀ c ∈ lastG o, c ∈ o.flatten := by
    intro c hc
    unfold lastG at hc
    rw [List.getLastD_eq_getLast?] at hc
    cases q : o.getLast? with
    | none => rw [q] at hc; cases hc
    | some g =>
      rw [q] at hc
      exact List.mem_flatten.mpr ⟨g, List.mem_of_getLast? q, hc⟩
  have key : bAt o r = bIn o r ↔ (lastG o).all (fun c => decide (c ∈ r)) = true := by
    constructor
    · intro h
      rw [List.all_eq_true]
      intro c hc
      refine decide_eq_true ?_
      apply Classical.byContradiction
      intro hn
      have h1 : c ∈ (bIn o r).flatten := by
        unfold bIn
        rw [flat_behind]
        exact List.mem_append_right _ (mem_left.mpr ⟨hsub c hc, hn⟩)
      rw [← h] at h1
      unfold bAt at h1
      rw [flat_behind] at h1
      rcases List.mem_append.mp h1 with h1 | h1
      · exact hn h1
      · exact (mem_left.mp h1).2 (List.mem_append_left _ hc)
    · intro h
      rw [List.all_eq_true] at h
      have e : leftOf (lastG o ++ r) = leftOf r := by
        funext g
        unfold leftOf
        congr 1
        funext c
        by_cases hc : c ∈ r
        · simp [hc]
        · have : c ∉ lastG o := fun q => hc (of_decide_eq_true (h c q))
          simp [hc, this]
      unfold bAt bIn behindP
      rw [e]
  unfold toldP
  by_cases h : bAt o r = bIn o r
  · rw [if_pos h, if_pos (key.mp h)]
    rfl
  · rw [if_neg h, if_neg (fun q => h (key.mpr q))]
    rfl
/-! lots -/
theorem lots_mem : ∀ (cs : List Nat) (f : List (List Nat)) (l : List Nat), l ∈ lotsF f cs ↔ ∃ a ∈ f, ∃ s, List.Sublist s cs ∧ l = a ++ s
  | [], f, l => by
    unfold lotsF
    constructor
    · intro h
      exact ⟨l, h, [], .slnil, by simp⟩
    · rintro ⟨a, ha, s, hs, rfl⟩
      cases hs
      simpa using ha
  | c :: cs, f, l => by
    unfold lotsF
    rw [lots_mem cs]
    constructor
    · rintro ⟨a, ha, s, hs, rfl⟩
      rcases List.mem_append.mp ha with ha | ha
      · exact ⟨a, ha, s, hs.cons c, rfl⟩
      · obtain ⟨a', h1, rfl⟩ := List.mem_map.mp ha
        exact ⟨a', h1, c :: s, hs.cons_cons c, by simp⟩
    · rintro ⟨a, ha, s, hs, rfl⟩
      cases hs with
      | cons _ h => exact ⟨a, List.mem_append_left _ ha, s, h, rfl⟩
      | cons_cons _ h => exact ⟨a ++ [c], List.mem_append_right _ (List.mem_map.mpr ⟨a, ha, rfl⟩), _, h, by simp⟩
theorem lots_sub {cs l : List Nat} : l ∈ lotsF [[]] cs ↔ l.Sublist cs := by
  rw [lots_mem]
  constructor
  · rintro ⟨a, ha, s, hs, rfl⟩
    rw [List.mem_singleton] at ha
    subst ha
    exact hs
  · intro h
    exact ⟨[], List.mem_singleton.mpr rfl, l, h, rfl⟩
theorem asc_ext {g h : List Nat} (a : g.Pairwise (· < ·)) (b : h.Pairwise (· < ·)) (e : ∀ c, c ∈ g ↔ c ∈ h) : g = h := by
  have n1 : g.Nodup := a.imp fun h => Nat.ne_of_lt h
  have n2 : h.Nodup := b.imp fun h => Nat.ne_of_lt h
  exact List.Perm.eq_of_pairwise (le := (· < ·)) (fun x y _ _ h1 h2 => absurd (Nat.lt_trans h1 h2) (Nat.lt_irrefl _)) a b ((List.perm_ext_iff_of_nodup n1 n2).mpr e)
theorem asc_sublist {g cs : List Nat} (a : Asc g) (b : cs.Pairwise (· < ·)) (h : ∀ c ∈ g, c ∈ cs) : g.Sublist cs := by
  have e : g = cs.filter fun c => decide (c ∈ g) := asc_ext a.lt (b.sublist List.filter_sublist) fun c => by
    rw [List.mem_filter]
    simp
    exact h c
  rw [e]
  exact List.filter_sublist
/-! all orders are reached by resets -/
def restOf (cs : List Nat) (suf : Odr) : List Nat := leftOf suf.flatten cs
def reachO (cs : List Nat) (suf : Odr) : Odr := suf ++ (if restOf cs suf = [] then [] else [restOf cs suf])
theorem reach_flat (cs : List Nat) (suf : Odr) : (reachO cs suf).flatten = suf.flatten ++ restOf cs suf := by
  unfold reachO
  rw [List.flatten_append]
  congr 1
  by_cases h : restOf cs suf = []
  · simp [h]
  · simp [h]
theorem reach_op {cs : List Nat} (hc : Asc cs) {suf : Odr} (hs : Ord suf) (hsub : ∀ c ∈ suf.flatten, c ∈ cs) : OP cs (reachO cs suf) := by
  have hn : (suf.flatten ++ restOf cs suf).Nodup := by
    rw [List.nodup_append]
    refine ⟨hs.nd, hc.nodup.sublist (leftOf_sub _ _), fun a ha b hb e => ?_⟩
    subst e
    exact (mem_left.mp hb).2 ha
  refine ⟨⟨fun g hg => ?_, by rw [reach_flat]; exact hn⟩, ?_⟩
  · unfold reachO at hg
    rcases List.mem_append.mp hg with h | h
    · exact hs.grp g h
    · by_cases hz : restOf cs suf = []
      · rw [if_pos hz] at h; cases h
      · rw [if_neg hz, List.mem_singleton] at h
        subst h
        exact ⟨hc.sub (leftOf_sub _ _), hz⟩
  · rw [reach_flat]
    refine (List.perm_ext_iff_of_nodup hn hc.nodup).mpr fun c => ?_
    rw [List.mem_append]
    constructor
    · rintro (h | h)
      · exact hsub c h
      · exact (mem_left.mp h).1
    · intro h
      by_cases hm : c ∈ suf.flatten
      · exact .inl hm
      · exact .inr (mem_left.mpr ⟨h, hm⟩)
theorem left_none {g h : List Nat} (d : ∀ c ∈ h, c ∉ g) : leftOf g h = h := by
  unfold leftOf
  rw [List.filter_eq_self]
  intro c hc
  simpa using d c hc
theorem reach_step {cs : List Nat} {g : List Nat} {suf : Odr} (hs : Ord (g :: suf)) : bIn (reachO cs suf) g = reachO cs (g :: suf) := by
  have hg := hs.grp g (List.mem_cons_self ..)
  have hd : ∀ h ∈ suf, leftOf g h = h := fun h hh => left_none fun c hc hcg => by
    have := hs.nd
    rw [List.flatten_cons, List.nodup_append] at this
    exact this.2.2 c hcg c (List.mem_flatten.mpr ⟨h, hh, hc⟩) rfl
  have e1 : suf.map (leftOf g) = suf := by
    have := List.map_congr_left (f := leftOf g) (g := id) hd
    rw [this, List.map_id]
  have e2 : (suf.filter fun g => !decide (g = [])) = suf := by
    rw [List.filter_eq_self]
    intro h hh
    simpa using (hs.grp h (List.mem_cons_of_mem _ hh)).2
  have e3 : restOf cs (g :: suf) = leftOf g (restOf cs suf) := by
    unfold restOf leftOf
    rw [List.filter_filter, List.flatten_cons]
    congr 1
    funext c
    by_cases h1 : c ∈ g <;> by_cases h2 : c ∈ suf.flatten <;> simp [h1, h2, -List.mem_flatten]
  unfold bIn behindP reachO
  rw [if_neg hg.2, List.map_append, List.filter_append, e1, e2, e3]
  by_cases hz : restOf cs suf = []
  · rw [if_pos hz, hz]
    simp [leftOf]
  · rw [if_neg hz]
    by_cases hy : leftOf g (restOf cs suf) = []
    · simp [hy]
    · simp [hy]
/-- closed under resets -/
structure Closed (cs : List Nat) (K : List Odr) : Prop where
  first : [cs] ∈ K
  step : ∀ o ∈ K, ∀ lot ∈ lotsF [[]] cs, OP cs (bIn o lot) → bIn o lot ∈ K
theorem all_reached {cs : List Nat} (hc : Asc cs) (hne : cs ≠ []) {K : List Odr} (h : Closed cs K) : ∀ o, OP cs o → o ∈ K := by
  have key : ∀ suf : Odr, Ord suf → (∀ c ∈ suf.flatten, c ∈ cs) → reachO cs suf ∈ K := by
    intro suf
    induction suf with
    | nil =>
      intro _ _
      have e : reachO cs [] = [cs] := by
        have : restOf cs [] = cs := by unfold restOf leftOf; simp
        unfold reachO
        rw [this, if_neg hne]
        rfl
      rw [e]
      exact h.first
    | cons g suf ih =>
      intro hs hsub
      have hs' : Ord suf := ⟨fun x hx => hs.grp x (List.mem_cons_of_mem _ hx), by have := hs.nd; rw [List.flatten_cons, List.nodup_append] at this; exact this.2.1⟩
      have h1 := ih hs' fun c hm => hsub c (by rw [List.flatten_cons]; exact List.mem_append_right _ hm)
      have hg := hs.grp g (List.mem_cons_self ..)
      have hl : g ∈ lotsF [[]] cs := lots_sub.mpr (asc_sublist hg.1 hc.lt fun c hm => hsub c (by rw [List.flatten_cons]; exact List.mem_append_left _ hm))
      have := h.step _ h1 g hl
      rw [reach_step hs] at this
      exact this (reach_op hc hs hsub)
  intro o ho
  have h1 := key o ho.ord fun c hm => ho.pm.mem_iff.mp hm
  have e : reachO cs o = o := by
    have : restOf cs o = [] := by
      unfold restOf leftOf
      rw [List.filter_eq_nil_iff]
      intro c hm
      have := ho.pm.mem_iff.mpr hm
      simp [this, -List.mem_flatten]
    unfold reachO
    rw [if_pos this, List.append_nil]
  rwa [e] at h1
end K83

-- part M10
set_option Elab.async false
set_option linter.all false
set_option maxRecDepth 100000
set_option maxHeartbeats 1000000
namespace K83
open PySem PySem.Spec L2 Sh
def insO (c : Nat) : Odr → List Odr
  | [] => [[[c]]]
  | g :: o => ([c] :: g :: o) :: ((c :: g) :: o) :: (insO c o).map (g :: ·)
def genO : List Nat → List Odr
  | [] => [[]]
  | c :: cs => (genO cs).flatMap (insO c)
def okO (cs : List Nat) (o : Odr) : Bool := o.all (fun g => !decide (g = []) && decide (g.Pairwise (· < ·))) && o.flatten.isPerm cs
def chkO (cs : List Nat) : Bool := decide (genO cs).Nodup && ((genO cs).all (okO cs) && (decide ([cs] ∈ genO cs) && (genO cs).all fun o => (lotsF [[]] cs).all fun l => decide (bIn o l ∈ genO cs)))
theorem chk3 : chkO [0, 1, 2] = true := by decide +kernel
theorem chk4 : chkO [0, 1, 2, 3] = true := by decide +kernel
theorem len3 : (genO [0, 1, 2]).length = 13 := by decide +kernel
theorem len4 : (genO [0, 1, 2, 3]).length = 75 := by decide +kernel
/-! renaming -/
def mapO (f : Nat → Nat) (o : Odr) : Odr := o.map fun g => g.map f
section
variable {f : Nat → Nat} (hf : ∀ i j, i < j → f i < f j)
include hf
theorem f_inj {i j : Nat} (h : f i = f j) : i = j := by
  rcases Nat.lt_trichotomy i j with h1 | h1 | h1
  · have := hf i j h1; omega
  · exact h1
  · have := hf j i h1; omega
theorem mem_map_f {c : Nat} {l : List Nat} : f c ∈ l.map f ↔ c ∈ l := by
  constructor
  · intro h
    obtain ⟨d, h1, h2⟩ := List.mem_map.mp h
    exact f_inj hf h2 ▸ h1
  · exact fun h => List.mem_map.mpr ⟨c, h, rfl⟩
theorem left_map (gone g : List Nat) : leftOf (gone.map f) (g.map f) = (leftOf gone g).map f := by
  unfold leftOf
  rw [List.filter_map]
  congr 1
  congr 1
  funext c
  have := mem_map_f hf (c := c) (l := gone)
  show (!decide (f c ∈ gone.map f)) = !decide (c ∈ gone)
  rw [decide_eq_decide.mpr this]
theorem bIn_map (o : Odr) (r : List Nat) : bIn (mapO f o) (r.map f) = mapO f (bIn o r) := by
  unfold bIn behindP mapO
  rw [List.map_append]
  congr 1
  · by_cases h : r = []
    · simp [h]
    · simp [h]
  · have e0 : (o.map fun g => g.map f).map (leftOf (r.map f)) = (o.map (leftOf r)).map fun g => g.map f := by
      rw [List.map_map, List.map_map]
      apply List.map_congr_left
      intro g _
      exact left_map hf r g
    rw [e0, List.filter_map]
    congr 1
    congr 1
    funext g
    simp
theorem mapO_inj {a b : Odr} (h : mapO f a = mapO f b) : a = b := by
  have hinj : ∀ x y : List Nat, x.map f = y.map f → x = y := by
    intro x
    induction x with
    | nil => intro y hy; cases y with
      | nil => rfl
      | cons => simp at hy
    | cons c x ih =>
      intro y hy
      cases y with
      | nil => simp at hy
      | cons d y =>
        simp only [List.map_cons, List.cons.injEq] at hy
        rw [f_inj hf hy.1, ih y hy.2]
  unfold mapO at h
  induction a generalizing b with
  | nil => cases b with
    | nil => rfl
    | cons => simp at h
  | cons c x ih =>
    cases b with
    | nil => simp at h
    | cons d y =>
      simp only [List.map_cons, List.cons.injEq] at h
      rw [hinj _ _ h.1, ih h.2]
end
theorem lots_map (f : Nat → Nat) : ∀ (cs : List Nat) (F : List (List Nat)), lotsF (F.map fun g => g.map f) (cs.map f) = (lotsF F cs).map fun g => g.map f
  | [], F => rfl
  | c :: cs, F => by
    rw [List.map_cons, lotsF, lotsF, ← lots_map f cs]
    congr 1
    rw [List.map_append, List.map_map, List.map_map]
    congr 1
    apply List.map_congr_left
    intro l _
    simp
theorem flat_mapO (f : Nat → Nat) (o : Odr) : (mapO f o).flatten = o.flatten.map f := by
  unfold mapO
  rw [List.map_flatten]
/-- the orders of cs0, renamed, are all orders -/
theorem all_gen {f : Nat → Nat} (hf : ∀ i j, i < j → f i < f j) {cs0 : List Nat} (hk : chkO cs0 = true) (hc : Asc (cs0.map f)) (hne : cs0 ≠ []) :
    ((genO cs0).map (mapO f)).Nodup ∧ (∀ o ∈ (genO cs0).map (mapO f), OP (cs0.map f) o) ∧ ∀ o, OP (cs0.map f) o → o ∈ (genO cs0).map (mapO f) := by
  unfold chkO at hk
  rw [Bool.and_eq_true, Bool.and_eq_true, Bool.and_eq_true] at hk
  obtain ⟨h1, h2, h3, h4⟩ := hk
  have h1 := of_decide_eq_true h1
  have h3 := of_decide_eq_true h3
  have hop : ∀ o ∈ (genO cs0).map (mapO f), OP (cs0.map f) o := by
    intro o ho
    obtain ⟨o0, h5, rfl⟩ := List.mem_map.mp ho
    have h6 := List.all_eq_true.mp h2 o0 h5
    unfold okO at h6
    rw [Bool.and_eq_true, List.all_eq_true, List.isPerm_iff] at h6
    have pm : (mapO f o0).flatten.Perm (cs0.map f) := by
      rw [flat_mapO]
      exact h6.2.map f
    refine ⟨⟨fun g hg => ?_, pm.nodup_iff.mpr hc.nodup⟩, pm⟩
    unfold mapO at hg
    obtain ⟨g0, h7, rfl⟩ := List.mem_map.mp hg
    have h8 := h6.1 g0 h7
    rw [Bool.and_eq_true] at h8
    refine ⟨⟨?_, fun n hn => hc.sm n (pm.mem_iff.mp (List.mem_flatten.mpr ⟨_, List.mem_map.mpr ⟨g0, h7, rfl⟩, hn⟩))⟩, ?_⟩
    · exact List.Pairwise.map f (fun a b h => hf a b h) (of_decide_eq_true h8.2)
    · have := h8.1
      simpa using this
  refine ⟨?_, hop, ?_⟩
  · exact List.Pairwise.map _ (fun a b h e => h (mapO_inj hf e)) h1
  · refine all_reached hc (by simpa using hne) ⟨?_, fun o ho lot hl _ => ?_⟩
    · exact List.mem_map.mpr ⟨[cs0], h3, rfl⟩
    · obtain ⟨o0, h5, rfl⟩ := List.mem_map.mp ho
      have e := lots_map f cs0 [[]]
      rw [show ([[]] : List (List Nat)).map (fun g => g.map f) = [[]] from rfl] at e
      rw [e] at hl
      obtain ⟨l0, h6, rfl⟩ := List.mem_map.mp hl
      rw [bIn_map hf]
      have h7 := List.all_eq_true.mp (List.all_eq_true.mp h4 o0 h5) l0 h6
      exact List.mem_map.mpr ⟨_, of_decide_eq_true h7, rfl⟩
def phi (cs : List Nat) (i : Nat) : Nat := if i < cs.length then cs.getD i 0 else 10 + i
theorem phi_mono {cs : List Nat} (hc : Asc cs) : ∀ i j, i < j → phi cs i < phi cs j := by
  intro i j hij
  unfold phi
  have get : ∀ k (hk : k < cs.length), cs.getD k 0 = cs[k] := fun k hk => by simp [List.getD, hk]
  by_cases hj : j < cs.length
  · have hi : i < cs.length := by omega
    rw [if_pos hi, if_pos hj, get i hi, get j hj]
    exact List.pairwise_iff_getElem.mp hc.lt i j hi hj hij
  · rw [if_neg hj]
    by_cases hi : i < cs.length
    · rw [if_pos hi, get i hi]
      have := hc.sm _ (List.getElem_mem hi)
      omega
    · rw [if_neg hi]
      omega
theorem phi_map (cs : List Nat) : (List.range cs.length).map (phi cs) = cs := by
  apply List.ext_getElem
  · simp
  · intro i h1 h2
    simp [phi, List.getD, h2]
/-- how many orders there are -/
def nOrd (n : Nat) : Nat := if n = 3 then 13 else 75
theorem orders_of {cs : List Nat} (hc : Asc cs) (hn : cs.length = 3 ∨ cs.length = 4) : ∃ E : List Odr, E.length = nOrd cs.length ∧ E.Nodup ∧ (∀ o ∈ E, OP cs o) ∧ ∀ o, OP cs o → o ∈ E := by
  have e := phi_map cs
  rcases hn with h | h
  · rw [h] at e
    have e2 : List.range 3 = [0, 1, 2] := by decide
    rw [e2] at e
    obtain ⟨a, b, c⟩ := all_gen (phi_mono hc) chk3 (by rw [e]; exact hc) (by simp)
    rw [e] at b c
    exact ⟨_, by rw [List.length_map, len3, h]; rfl, a, b, c⟩
  · rw [h] at e
    have e2 : List.range 4 = [0, 1, 2, 3] := by decide
    rw [e2] at e
    obtain ⟨a, b, c⟩ := all_gen (phi_mono hc) chk4 (by rw [e]; exact hc) (by simp)
    rw [e] at b c
    exact ⟨_, by rw [List.length_map, len4, h]; rfl, a, b, c⟩
theorem count_le {cs : List Nat} (hc : Asc cs) (hn : cs.length = 3 ∨ cs.length = 4) {K : List Odr} (h1 : K.Nodup) (h2 : ∀ o ∈ K, OP cs o) : K.length ≤ 75 := by
  obtain ⟨E, e1, e2, e3, e4⟩ := orders_of hc hn
  have := h1.length_le_of_subset (l₂ := E) fun o ho => e4 o (h2 o ho)
  rw [e1] at this
  unfold nOrd at this
  split at this <;> omega
theorem count_eq {cs : List Nat} (hc : Asc cs) (hn : cs.length = 3 ∨ cs.length = 4) {K : List Odr} (h1 : K.Nodup) (h2 : ∀ o ∈ K, OP cs o) (h3 : Closed cs K) : K.length = nOrd cs.length := by
  obtain ⟨E, e1, e2, e3, e4⟩ := orders_of hc hn
  have a := h1.length_le_of_subset (l₂ := E) fun o ho => e4 o (h2 o ho)
  have b := e2.length_le_of_subset (l₂ := K) fun o ho => all_reached hc (by intro q; subst q; simp at hn) h3 o (e3 o ho)
  omega
end K83

-- part M11
set_option Elab.async false
set_option linter.all false
set_option maxRecDepth 100000
set_option maxHeartbeats 400000
namespace K83
open PySem PySem.Spec L2 Sh
def kvO (o : Odr) : Val × Val := (vO o, .bl true)
abbrev SS (B : Sto) (K W : List Odr) : Sto := (B ++ [.dct (K.map kvO)]) ++ [.lst (W.map vO)]
section
variable {B : Sto} {K W : List Odr}
theorem ss_len : (SS B K W).length = B.length + 2 := by simp
theorem ss_k : (SS B K W)[B.length]? = some (.dct (K.map kvO)) := by
  unfold SS
  rw [List.append_assoc, List.getElem?_append_right (Nat.le_refl _)]
  simp
theorem ss_w : (SS B K W)[B.length + 1]? = some (.lst (W.map vO)) := by
  rw [List.getElem?_append_right (by simp)]
  simp
theorem ss_setk (K' : List Odr) : (SS B K W).set B.length (.dct (K'.map kvO)) = SS B K' W := by simp [SS]
theorem ss_setw (W' : List Odr) : (SS B K W).set (B.length + 1) (.lst (W'.map vO)) = SS B K W' := by
  have : B.length + 1 = (B ++ [Ob.dct (K.map kvO)]).length := by simp
  unfold SS
  rw [this, set_last]
theorem ss_ok (h : StOk B) : StOk (SS B K W) := by
  refine (h.add (o := .dct (K.map kvO)) ?_).add (o := .lst (W.map vO)) ?_
  · show ((K.map kvO).all fun p => vbelow _ p.1 && vbelow _ p.2) = true
    simp [kvO, vbelow_O, vbelow]
  · exact vbelows_map (fun a => vbelow_O a _) _
theorem ss_low {j : Nat} (h : j < B.length) : (SS B K W)[j]? = B[j]? := by
  unfold SS
  rw [List.append_assoc, List.getElem?_append_left h]
end
def addP (cs : List Nat) (s : List Odr × List Odr) (x : Odr) : List Odr × List Odr := if sortN x.flatten = cs ∧ x ∉ s.1 then (s.1 ++ [x], s.2 ++ [x]) else s
abbrev bodyT : MS := sIf (tAndM (tOf (mBin vEq (mFz (fB bList (aCons (mCall 1 f_young (aCons (mVar 11) aNil)) aNil))) (mVar 2))) (tOf (mBin vNotIn (mVar 11) (mVar 5)))) (sSeq (sAsg (gSubM (mVar 5) (mVar 11)) (mC (.bl true))) (sEx (mLM2 lAppend (mVar 6) (aCons (mVar 11) aNil)))) sNext
theorem vEq_lst (a b : List Nat) (st : Sto) : vEq (.lst (a.map vN)) (.lst (b.map vN)) st = some (.bl (decide (a = b)), st) := by
  have h1 : ∀ l : List Nat, vflat 64 (.lst (l.map vN)) = true := fun l => by
    rw [vflat]
    exact vflats_map (fun a => vflat_N a _) l
  unfold vEq dref
  dsimp only
  rw [h1, h1, veq, veqs_inj veq_N]
  rfl
theorem keyFit_K {K : List Odr} (x : Odr) : keyFit (K.map kvO) (vO x) = true := by
  cases K with
  | nil => exact keyFit_nil x
  | cons k K => exact keyFit_cons k x _ _
theorem any_K (x : Odr) : ∀ K : List Odr, ((K.map kvO).any fun p => veq p.1 (vO x)) = decide (x ∈ K)
  | [] => by simp
  | k :: K => by
    rw [List.map_cons, List.any_cons, any_K x K]
    show (veq (vO k) (vO x) || decide (x ∈ K)) = _
    rw [veq_O]
    by_cases h1 : k = x
    · subst h1; simp
    · have h3 : ¬ x = k := fun e => h1 e.symm
      by_cases h2 : x ∈ K <;> simp [h1, h2, h3]
variable {B : Sto} {cs : List Nat} {a0 a1 a3 a4 e7 e8 e9 e10 e11 e12 e13 e14 e15 : Option Val}
theorem turnT {K W : List Odr} (h : StOk B) {x : Odr} (hx : Ord x) (hK : K.length < 1000000) (hW : W.length < 1000000) :
    turnM (gNameM 11) bodyT (vO x) [a0, a1, some (.lst (cs.map vN)), a3, a4, some (.ref B.length), some (.ref (B.length + 1)), e7, e8, e9, e10, e11, e12, e13, e14, e15] (SS B K W) =
      some (.nx, [a0, a1, some (.lst (cs.map vN)), a3, a4, some (.ref B.length), some (.ref (B.length + 1)), e7, e8, e9, e10, some (vO x), e12, e13, e14, e15], SS B (addP cs (K, W) x).1 (addP cs (K, W) x).2) := by
  show sIf _ _ _ [a0, a1, some (.lst (cs.map vN)), a3, a4, some (.ref B.length), some (.ref (B.length + 1)), e7, e8, e9, e10, some (vO x), e12, e13, e14, e15] (SS B K W) = _
  have ok : StOk (SS B K W) := ss_ok h
  have t1 : tOf (mBin vEq (mFz (fB bList (aCons (mCall 1 f_young (aCons (mVar 11) aNil)) aNil))) (mVar 2)) [a0, a1, some (.lst (cs.map vN)), a3, a4, some (.ref B.length), some (.ref (B.length + 1)), e7, e8, e9, e10, some (vO x), e12, e13, e14, e15] (SS B K W) = some (decide (sortN x.flatten = cs), SS B K W) := by
    refine tof_bl ((bin_ok2 (mfz_ok (fB_ok (ys := (sortN x.flatten).map vN) (a_one ((call_ok2 (a_one (var_ok rfl)) rfl).trans (young_ok ok hx))) rfl)) (var_ok rfl)).trans (vEq_lst _ _ _))
  have t2 : tOf (mBin vNotIn (mVar 11) (mVar 5)) [a0, a1, some (.lst (cs.map vN)), a3, a4, some (.ref B.length), some (.ref (B.length + 1)), e7, e8, e9, e10, some (vO x), e12, e13, e14, e15] (SS B K W) = some (!decide (x ∈ K), SS B K W) := by
    refine tof_bl ((bin_ok2 (var_ok rfl) (var_ok rfl)).trans ?_)
    unfold vNotIn vInC vdict
    dsimp only
    rw [ss_k]
    dsimp only
    rw [if_pos (keyFit_K x), ← dget_any, any_K]
  unfold addP
  dsimp only
  by_cases h1 : sortN x.flatten = cs
  · rw [decide_eq_true h1] at t1
    by_cases h2 : x ∈ K
    · rw [decide_eq_true h2] at t2
      rw [if_neg (fun q => q.2 h2)]
      exact (if_f ((tand_t t1 t2).trans rfl)).trans rfl
    · rw [decide_eq_false h2] at t2
      rw [if_pos ⟨h1, h2⟩]
      refine (if_t ((tand_t t1 t2).trans rfl)).trans ?_
      have p1 : dput (K.map kvO) (vO x) (.bl true) = (K ++ [x]).map kvO := by
        rw [dput_new, List.map_append]
        · rfl
        · intro p hp
          obtain ⟨k, hk, rfl⟩ := List.mem_map.mp hp
          show veq (vO k) (vO x) = false
          rw [veq_O]
          exact decide_eq_false fun e => h2 (e ▸ hk)
      have p2 : vSet (.ref B.length) (vO x) (.bl true) (SS B K W) = some (SS B (K ++ [x]) W) := by
        unfold vSet
        dsimp only
        rw [ss_k]
        dsimp only
        rw [keyFit_K, show lenOk (K.map kvO).length = true from decide_eq_true (by rw [List.length_map]; omega)]
        rw [if_pos (show (true && true) = true from rfl), p1, ss_setk]
      refine (seq_nx (asg_ok rfl (gsub_ok (var_ok rfl) (var_ok rfl) p2))).trans ?_
      refine (ex_ok (lm_ok2 (r := .non) (zs := W.map vO ++ [vO x]) (var_ok rfl) ss_w (a_one (var_ok rfl)) ss_w (append_ok (by rw [List.length_map]; omega)))).trans ?_
      rw [show W.map vO ++ [vO x] = (W ++ [x]).map vO by rw [List.map_append]; rfl, ss_setw]
  · rw [decide_eq_false h1] at t1
    rw [if_neg (fun q => h1 q.1)]
    exact (if_f (tand_f t1)).trans rfl
theorem addP_len (s : List Odr × List Odr) (x : Odr) : (addP cs s x).1.length ≤ s.1.length + 1 ∧ (addP cs s x).2.length ≤ s.2.length + 1 := by
  unfold addP
  split
  · simp
  · omega
theorem loopT (h : StOk B) : ∀ (ts : List Odr) (K W : List Odr) (e11 : Option Val), (∀ x ∈ ts, Ord x) → K.length + ts.length < 1000000 → W.length + ts.length < 1000000 →
    ∃ e11', forL (gNameM 11) bodyT (ts.map vO) [a0, a1, some (.lst (cs.map vN)), a3, a4, some (.ref B.length), some (.ref (B.length + 1)), e7, e8, e9, e10, e11, e12, e13, e14, e15] (SS B K W) =
      some (.nx, [a0, a1, some (.lst (cs.map vN)), a3, a4, some (.ref B.length), some (.ref (B.length + 1)), e7, e8, e9, e10, e11', e12, e13, e14, e15], SS B (ts.foldl (addP cs) (K, W)).1 (ts.foldl (addP cs) (K, W)).2)
  | [], K, W, e11, _, _, _ => ⟨e11, rfl⟩
  | x :: ts, K, W, e11, hx, hK, hW => by
    rw [List.length_cons] at hK hW
    have hl := addP_len (cs := cs) (K, W) x
    obtain ⟨e11', q⟩ := loopT h ts (addP cs (K, W) x).1 (addP cs (K, W) x).2 (some (vO x)) (fun y hy => hx y (List.mem_cons_of_mem _ hy)) (by have := hl.1; dsimp only at this; omega) (by have := hl.2; dsimp only at this; omega)
    refine ⟨e11', ?_⟩
    rw [List.map_cons, forL, turnT h (hx x (List.mem_cons_self ..)) (by omega) (by omega)]
    exact q
abbrev bodyM : MS := sSeq (sSet 10 (mCall 2 f_orders_from (aCons (mVar 8) (aCons (mVar 9) aNil)))) (sSeq (sIf (tOf (mBin vNe (mB bLen (aCons (mVar 10) aNil)) (mIf (tOf (mB bAll (aCons (mFz (fLc [14] (iSeq (mCall 1 f_oldest (aCons (mVar 8) aNil))) (gNameM 14) tYesM (mBin vIn (mVar 14) (mVar 9)))) aNil))) (mC (.int 1)) (mC (.int 2))))) (sRet (mC (.bl false))) sNext) (sFor (iSeq (mVar 10)) (gNameM 11) bodyT))
theorem turnM_ok {K W : List Odr} (h : StOk B) {o : Odr} {lot : List Nat} (ho : Ord o) (hne : o ≠ []) (hl : Asc lot) (hK : K.length + 2 < 1000000) (hW : W.length + 2 < 1000000) :
    ∃ ts e11', List.Perm ts (toldP o lot) ∧ turnM (gNameM 9) bodyM (vG lot) [a0, a1, some (.lst (cs.map vN)), a3, a4, some (.ref B.length), some (.ref (B.length + 1)), e7, some (vO o), e9, e10, e11, e12, e13, e14, e15] (SS B K W) =
      some (.nx, [a0, a1, some (.lst (cs.map vN)), a3, a4, some (.ref B.length), some (.ref (B.length + 1)), e7, some (vO o), some (vG lot), some (.tup (ts.map vO)), e11', e12, e13, e14, e15], SS B (ts.foldl (addP cs) (K, W)).1 (ts.foldl (addP cs) (K, W)).2) := by
  have ok : StOk (SS B K W) := ss_ok h
  obtain ⟨ts, t1, t2⟩ := from_ok ok ho hne hl
  have tl : ts.length ≤ 2 := by
    rw [t1.length_eq]
    unfold toldP
    split <;> simp
  obtain ⟨e11', q⟩ := loopT (a0 := a0) (a1 := a1) (a3 := a3) (a4 := a4) (e7 := e7) (e8 := some (vO o)) (e9 := some (vG lot)) (e10 := some (.tup (ts.map vO))) (e12 := e12) (e13 := e13) (e14 := e14) (e15 := e15) (cs := cs) h ts K W e11 (fun x hx => told_ord ho hl x (t1.mem_iff.mp hx)) (by omega) (by omega)
  refine ⟨ts, e11', t1, ?_⟩
  show sSeq _ _ [a0, a1, some (.lst (cs.map vN)), a3, a4, some (.ref B.length), some (.ref (B.length + 1)), e7, some (vO o), some (vG lot), e10, e11, e12, e13, e14, e15] (SS B K W) = _
  refine (seq_nx ((set_ok ((call_ok2 (a_cons (var_ok rfl) (a_one (var_ok rfl))) rfl).trans t2)).trans rfl)).trans ?_
  have c1 : fLc [14] (iSeq (mCall 1 f_oldest (aCons (mVar 8) aNil))) (gNameM 14) tYesM (mBin vIn (mVar 14) (mVar 9)) [a0, a1, some (.lst (cs.map vN)), a3, a4, some (.ref B.length), some (.ref (B.length + 1)), e7, some (vO o), some (vG lot), some (.tup (ts.map vO)), e11, e12, e13, e14, e15] (SS B K W) = some ((lastG o).map (fun c => Val.bl (decide (c ∈ lot))), SS B K W) := by
    have hlast : (lastG o).length ≤ 1000000 := by
      unfold lastG
      rw [List.getLastD_eq_getLast?]
      cases qq : o.getLast? with
      | none => simp
      | some g => have := (ho.grp g (List.mem_of_getLast? qq)).1.short; simp; omega
    refine fLc_map (f := vN) (seq_tup ((call_ok2 (a_one (var_ok rfl)) rfl).trans (oldest_ok ok ho))) (fun c hc => step1_yes (env1 := [a0, a1, some (.lst (cs.map vN)), a3, a4, some (.ref B.length), some (.ref (B.length + 1)), e7, some (vO o), some (vG lot), some (.tup (ts.map vO)), e11, e12, e13, some (vN c), e15]) rfl ((bin_ok2 (var_ok rfl) (var_ok rfl)).trans ?_)) hlast
    unfold vIn vG
    rw [in_tup veq_N (fun a => vflat_N a 63) (fun a => vflat_N a 64)]
  have c2 := tof_bl (all_fz c1)
  have c3 : mIf (tOf (mB bAll (aCons (mFz (fLc [14] (iSeq (mCall 1 f_oldest (aCons (mVar 8) aNil))) (gNameM 14) tYesM (mBin vIn (mVar 14) (mVar 9)))) aNil))) (mC (.int 1)) (mC (.int 2)) [a0, a1, some (.lst (cs.map vN)), a3, a4, some (.ref B.length), some (.ref (B.length + 1)), e7, some (vO o), some (vG lot), some (.tup (ts.map vO)), e11, e12, e13, e14, e15] (SS B K W) = some (.int (toldP o lot).length, SS B K W) := by
    rw [told_len ho]
    cases hq : (lastG o).all fun c => decide (c ∈ lot) with
    | true =>
      rw [hq] at c2
      exact if_ok_t c2
    | false =>
      rw [hq] at c2
      exact if_ok_f c2
  have c4 : tOf (mBin vNe (mB bLen (aCons (mVar 10) aNil)) (mIf (tOf (mB bAll (aCons (mFz (fLc [14] (iSeq (mCall 1 f_oldest (aCons (mVar 8) aNil))) (gNameM 14) tYesM (mBin vIn (mVar 14) (mVar 9)))) aNil))) (mC (.int 1)) (mC (.int 2)))) [a0, a1, some (.lst (cs.map vN)), a3, a4, some (.ref B.length), some (.ref (B.length + 1)), e7, some (vO o), some (vG lot), some (.tup (ts.map vO)), e11, e12, e13, e14, e15] (SS B K W) = some (false, SS B K W) := by
    refine tof_bl ((bin_ok2 (u := .int (ts.map vO).length) ((mB_ok (a_one (var_ok rfl))).trans rfl) c3).trans ?_)
    rw [List.length_map, t1.length_eq]
    simp [vNe, dref, vflat, veq]
  refine (seq_nx (if_f c4)).trans ?_
  unfold sFor
  rw [show iSeq (mVar 10) _ _ = some (.vals (ts.map vO), SS B K W) from seq_tup (var_ok rfl)]
  exact q
end K83

-- part M12
set_option Elab.async false
set_option linter.all false
set_option maxRecDepth 100000
set_option maxHeartbeats 400000
namespace K83
open PySem PySem.Spec L2 Sh
theorem op_iff {cs : List Nat} (hc : Asc cs) {x : Odr} (hx : Ord x) : OP cs x ↔ sortN x.flatten = cs := by
  constructor
  · exact fun h => sortN_eq h.pm hc.lt
  · intro h
    exact ⟨hx, h ▸ (sortN_perm x.flatten).symm⟩
structure BS (cs : List Nat) (K W : List Odr) (o : Odr) (dn : List (List Nat)) (t : Nat) : Prop where
  nd : K.Nodup
  op : ∀ x ∈ K, OP cs x
  first : [cs] ∈ K
  wk : ∀ x ∈ W, x ∈ K
  wnd : W.Nodup
  len : K.length = W.length + t
  oin : o ∈ K
  onw : o ∉ W
  i1 : ∀ x ∈ K, x ∉ W → x ≠ o → ∀ lot ∈ lotsF [[]] cs, OP cs (bIn x lot) → bIn x lot ∈ K
  i2 : ∀ lot ∈ dn, OP cs (bIn o lot) → bIn o lot ∈ K
theorem nodup_snoc {α : Type} {l : List α} {a : α} (h : l.Nodup) (ha : a ∉ l) : (l ++ [a]).Nodup := by
  rw [List.nodup_append]
  refine ⟨h, by simp, fun x hx y hy e => ?_⟩
  rw [List.mem_singleton] at hy
  exact ha (hy ▸ e ▸ hx)
theorem bs_add {cs : List Nat} (hc : Asc cs) {K W : List Odr} {o x : Odr} {dn : List (List Nat)} {t : Nat} (h : BS cs K W o dn t) (hx : Ord x) :
    BS cs (addP cs (K, W) x).1 (addP cs (K, W) x).2 o dn t ∧ (∀ y ∈ K, y ∈ (addP cs (K, W) x).1) ∧ (OP cs x → x ∈ (addP cs (K, W) x).1) := by
  unfold addP
  dsimp only
  by_cases hh : sortN x.flatten = cs ∧ x ∉ K
  · rw [if_pos hh]
    dsimp only
    have hxw : x ∉ W := fun q => hh.2 (h.wk x q)
    refine ⟨⟨nodup_snoc h.nd hh.2, fun y hy => ?_, List.mem_append_left _ h.first, fun y hy => ?_, nodup_snoc h.wnd hxw, by simp [h.len]; omega, List.mem_append_left _ h.oin, fun q => ?_, fun y hy hyw hyo lot hl hop => ?_, fun lot hl hop => List.mem_append_left _ (h.i2 lot hl hop)⟩, fun y hy => List.mem_append_left _ hy, fun _ => by simp⟩
    · rcases List.mem_append.mp hy with q | q
      · exact h.op y q
      · rw [List.mem_singleton] at q
        exact q ▸ (op_iff hc hx).mpr hh.1
    · rcases List.mem_append.mp hy with q | q
      · exact List.mem_append_left _ (h.wk y q)
      · exact List.mem_append_right _ q
    · rcases List.mem_append.mp q with q | q
      · exact h.onw q
      · rw [List.mem_singleton] at q
        exact hh.2 (q ▸ h.oin)
    · rcases List.mem_append.mp hy with q | q
      · exact List.mem_append_left _ (h.i1 y q (fun z => hyw (List.mem_append_left _ z)) hyo lot hl hop)
      · exact absurd (List.mem_append_right _ q) hyw
  · rw [if_neg hh]
    refine ⟨h, fun y hy => hy, fun q => ?_⟩
    apply Classical.byContradiction
    intro hn
    exact hh ⟨(op_iff hc hx).mp q, hn⟩
theorem bs_fold {cs : List Nat} (hc : Asc cs) {o : Odr} {dn : List (List Nat)} {t : Nat} : ∀ (ts : List Odr) (K W : List Odr), BS cs K W o dn t → (∀ x ∈ ts, Ord x) →
    BS cs (ts.foldl (addP cs) (K, W)).1 (ts.foldl (addP cs) (K, W)).2 o dn t ∧ (∀ y ∈ K, y ∈ (ts.foldl (addP cs) (K, W)).1) ∧ ∀ x ∈ ts, OP cs x → x ∈ (ts.foldl (addP cs) (K, W)).1
  | [], K, W, h, _ => ⟨h, fun y hy => hy, fun x hx => by cases hx⟩
  | x :: ts, K, W, h, ho => by
    obtain ⟨h1, h2, h3⟩ := bs_add hc h (ho x (List.mem_cons_self ..))
    obtain ⟨h4, h5, h6⟩ := bs_fold hc ts _ _ h1 fun y hy => ho y (List.mem_cons_of_mem _ hy)
    rw [List.foldl_cons]
    refine ⟨h4, fun y hy => h5 y (h2 y hy), fun y hy hop => ?_⟩
    rcases List.mem_cons.mp hy with rfl | hy
    · exact h5 _ (h3 hop)
    · exact h6 y hy hop
section
variable {B : Sto} {cs : List Nat} {a0 a1 a3 a4 e12 e13 e14 e15 : Option Val}
theorem loopM (h : StOk B) (hc : Asc cs) (hn : cs.length = 3 ∨ cs.length = 4) {o : Odr} (ho : Ord o) (hne : o ≠ []) {t : Nat} {e7 : Option Val} : ∀ (lots : List (List Nat)) (K W : List Odr) (dn : List (List Nat)) (e9 e10 e11 : Option Val), (∀ l ∈ lots, Asc l) → BS cs K W o dn t →
    ∃ K' W' e9' e10' e11', forL (gNameM 9) bodyM (lots.map vG) [a0, a1, some (.lst (cs.map vN)), a3, a4, some (.ref B.length), some (.ref (B.length + 1)), e7, some (vO o), e9, e10, e11, e12, e13, e14, e15] (SS B K W) =
      some (.nx, [a0, a1, some (.lst (cs.map vN)), a3, a4, some (.ref B.length), some (.ref (B.length + 1)), e7, some (vO o), e9', e10', e11', e12, e13, e14, e15], SS B K' W') ∧ BS cs K' W' o (dn ++ lots) t
  | [], K, W, dn, e9, e10, e11, _, hb => ⟨K, W, e9, e10, e11, rfl, by rw [List.append_nil]; exact hb⟩
  | l :: lots, K, W, dn, e9, e10, e11, hl, hb => by
    have hk := count_le hc hn hb.nd hb.op
    have hw := hb.len
    have hasc := hl l (List.mem_cons_self ..)
    obtain ⟨ts, e11', t1, q1⟩ := turnM_ok (a0 := a0) (a1 := a1) (a3 := a3) (a4 := a4) (cs := cs) (e7 := e7) (e9 := e9) (e10 := e10) (e11 := e11) (e12 := e12) (e13 := e13) (e14 := e14) (e15 := e15) (K := K) (W := W) h ho hne hasc (by omega) (by omega)
    obtain ⟨b1, b2, b3⟩ := bs_fold hc ts K W hb fun x hx => told_ord ho hasc x (t1.mem_iff.mp hx)
    have b4 : BS cs (ts.foldl (addP cs) (K, W)).1 (ts.foldl (addP cs) (K, W)).2 o (dn ++ [l]) t := by
      refine ⟨b1.nd, b1.op, b1.first, b1.wk, b1.wnd, b1.len, b1.oin, b1.onw, b1.i1, fun lot hlot hop => ?_⟩
      rcases List.mem_append.mp hlot with q | q
      · exact b1.i2 lot q hop
      · rw [List.mem_singleton] at q
        subst q
        exact b3 _ (t1.mem_iff.mpr (in_told o lot)) hop
    obtain ⟨K', W', e9', e10', e11'', q2, b5⟩ := loopM h hc hn ho hne lots _ _ (dn ++ [l]) (some (vG l)) (some (.tup (ts.map vO))) e11' (fun x hx => hl x (List.mem_cons_of_mem _ hx)) b4
    refine ⟨K', W', e9', e10', e11'', ?_, by rw [List.append_assoc] at b5; exact b5⟩
    rw [List.map_cons, forL, q1]
    exact q2
structure BO (cs : List Nat) (K W : List Odr) (t : Nat) : Prop where
  nd : K.Nodup
  op : ∀ x ∈ K, OP cs x
  first : [cs] ∈ K
  wk : ∀ x ∈ W, x ∈ K
  wnd : W.Nodup
  len : K.length = W.length + t
  i : ∀ x ∈ K, x ∉ W → ∀ lot ∈ lotsF [[]] cs, OP cs (bIn x lot) → bIn x lot ∈ K
abbrev bodyLap : MS := sSeq (sIf (tOf (mBin vEq (mVar 6) (mFz (fLst aNil)))) sBk sNext) (sSeq (sSet 8 (mLM2 lPop (mVar 6) aNil)) (sFor (iSeq (mVar 4)) (gNameM 9) bodyM))
theorem test_empty {K W : List Odr} {e7 e8 e9 e10 e11 : Option Val} : tOf (mBin vEq (mVar 6) (mFz (fLst aNil))) [a0, a1, some (.lst (cs.map vN)), a3, a4, some (.ref B.length), some (.ref (B.length + 1)), e7, e8, e9, e10, e11, e12, e13, e14, e15] (SS B K W) = some (decide (W = []), SS B K W) := by
  refine tof_bl ((bin_ok2 (v := .lst []) (var_ok rfl) (mfz_ok (flst_ok a_nil (by simp)))).trans ?_)
  have d1 : dref (SS B K W) (.ref (B.length + 1)) = .lst (W.map vO) := by
    unfold dref
    dsimp only
    rw [ss_w]
  unfold vEq
  rw [d1, show dref (SS B K W) (.lst []) = .lst [] from rfl]
  have h1 : vflat 64 (.lst (W.map vO)) = true := by
    rw [vflat]
    exact vflats_map (fun a => vflat_O a _) W
  rw [h1]
  rw [show vflat 64 (.lst []) = true from by simp [vflat, vflats]]
  rw [if_pos (show (true && true) = true from rfl)]
  cases W with
  | nil => simp [veq, veqs]
  | cons w W => simp [veq, veqs]
theorem loopLap (h : StOk B) (hc : Asc cs) (hn : cs.length = 3 ∨ cs.length = 4) : ∀ (vs : List Val) (K W : List Odr) (t : Nat) (e7 e8 e9 e10 e11 : Option Val), BO cs K W t → t + vs.length = 80 →
    ∃ K' e7' e8' e9' e10' e11' t', forL (gNameM 7) bodyLap vs [a0, a1, some (.lst (cs.map vN)), a3, some (.lst ((lotsF [[]] cs).map vG)), some (.ref B.length), some (.ref (B.length + 1)), e7, e8, e9, e10, e11, e12, e13, e14, e15] (SS B K W) =
      some (.nx, [a0, a1, some (.lst (cs.map vN)), a3, some (.lst ((lotsF [[]] cs).map vG)), some (.ref B.length), some (.ref (B.length + 1)), e7', e8', e9', e10', e11', e12, e13, e14, e15], SS B K' []) ∧ BO cs K' [] t'
  | [], K, W, t, e7, e8, e9, e10, e11, hb, ht => by
    have := count_le hc hn hb.nd hb.op
    have := hb.len
    rw [List.length_nil] at ht
    omega
  | v :: vs, K, W, t, e7, e8, e9, e10, e11, hb, ht => by
    have hk := count_le hc hn hb.nd hb.op
    have hlen := hb.len
    rw [List.length_cons] at ht
    have te := test_empty (B := B) (cs := cs) (a0 := a0) (a1 := a1) (a3 := a3) (a4 := some (.lst ((lotsF [[]] cs).map vG))) (e7 := some v) (e8 := e8) (e9 := e9) (e10 := e10) (e11 := e11) (e12 := e12) (e13 := e13) (e14 := e14) (e15 := e15) (K := K) (W := W)
    by_cases hw : W = []
    · subst hw
      rw [decide_eq_true rfl] at te
      refine ⟨K, some v, e8, e9, e10, e11, t, ?_, hb⟩
      have q : turnM (gNameM 7) bodyLap v [a0, a1, some (.lst (cs.map vN)), a3, some (.lst ((lotsF [[]] cs).map vG)), some (.ref B.length), some (.ref (B.length + 1)), e7, e8, e9, e10, e11, e12, e13, e14, e15] (SS B K []) = some (.bk, [a0, a1, some (.lst (cs.map vN)), a3, some (.lst ((lotsF [[]] cs).map vG)), some (.ref B.length), some (.ref (B.length + 1)), some v, e8, e9, e10, e11, e12, e13, e14, e15], SS B K []) := by
        show sSeq _ _ [a0, a1, some (.lst (cs.map vN)), a3, some (.lst ((lotsF [[]] cs).map vG)), some (.ref B.length), some (.ref (B.length + 1)), some v, e8, e9, e10, e11, e12, e13, e14, e15] _ = _
        unfold sSeq
        rw [if_t te]
        rfl
      rw [forL, q]
    · rw [decide_eq_false hw] at te
      obtain ⟨W0, o, rfl⟩ : ∃ W0 o, W = W0 ++ [o] := ⟨W.dropLast, W.getLast hw, (List.dropLast_concat_getLast hw).symm⟩
      have hoK : o ∈ K := hb.wk o (by simp)
      have hoW : o ∉ W0 := by
        have := hb.wnd
        rw [List.nodup_append] at this
        exact fun q => this.2.2 o q o (List.mem_singleton.mpr rfl) rfl
      have hop := hb.op o hoK
      have hone : o ≠ [] := by
        rintro rfl
        have := hop.pm.length_eq
        simp at this
        omega
      have b0 : BS cs K W0 o [] (t + 1) := by
        refine ⟨hb.nd, hb.op, hb.first, fun x hx => hb.wk x (List.mem_append_left _ hx), by have := hb.wnd; rw [List.nodup_append] at this; exact this.1, by rw [hlen, List.length_append, List.length_singleton]; omega, hoK, hoW, fun x hx hxw hxo => hb.i x hx fun q => ?_, fun lot hl => by cases hl⟩
        rcases List.mem_append.mp q with q | q
        · exact hxw q
        · exact hxo (List.mem_singleton.mp q)
      obtain ⟨K', W', e9', e10', e11', q2, b5⟩ := loopM (a0 := a0) (a1 := a1) (a3 := a3) (a4 := some (.lst ((lotsF [[]] cs).map vG))) (e12 := e12) (e13 := e13) (e14 := e14) (e15 := e15) (e7 := some v) h hc hn hop.ord hone (lotsF [[]] cs) K W0 [] e9 e10 e11 (fun l hl => hc.sub (lots_sub.mp hl)) b0
      rw [List.nil_append] at b5
      have b6 : BO cs K' W' (t + 1) := by
        refine ⟨b5.nd, b5.op, b5.first, b5.wk, b5.wnd, b5.len, fun x hx hxw lot hl hop2 => ?_⟩
        by_cases hxo : x = o
        · rw [hxo] at hop2 ⊢
          exact b5.i2 lot hl hop2
        · exact b5.i1 x hx hxw hxo lot hl hop2
      have p1 : mLM2 lPop (mVar 6) aNil [a0, a1, some (.lst (cs.map vN)), a3, some (.lst ((lotsF [[]] cs).map vG)), some (.ref B.length), some (.ref (B.length + 1)), some v, e8, e9, e10, e11, e12, e13, e14, e15] (SS B K (W0 ++ [o])) = some (vO o, SS B K W0) := by
        refine (lm_ok2 (r := vO o) (zs := W0.map vO) (var_ok rfl) ss_w a_nil ss_w ?_).trans (by rw [ss_setw])
        unfold lPop
        dsimp only
        rw [List.map_append, List.length_append, List.length_map, List.map_cons, List.map_nil, List.length_singleton, Nat.add_sub_cancel, List.getElem?_append_right (by rw [List.length_map]; exact Nat.le_refl _), List.length_map, Nat.sub_self, List.dropLast_concat]
        rfl
      have q : turnM (gNameM 7) bodyLap v [a0, a1, some (.lst (cs.map vN)), a3, some (.lst ((lotsF [[]] cs).map vG)), some (.ref B.length), some (.ref (B.length + 1)), e7, e8, e9, e10, e11, e12, e13, e14, e15] (SS B K (W0 ++ [o])) = some (.nx, [a0, a1, some (.lst (cs.map vN)), a3, some (.lst ((lotsF [[]] cs).map vG)), some (.ref B.length), some (.ref (B.length + 1)), some v, some (vO o), e9', e10', e11', e12, e13, e14, e15], SS B K' W') := by
        show sSeq _ _ [a0, a1, some (.lst (cs.map vN)), a3, some (.lst ((lotsF [[]] cs).map vG)), some (.ref B.length), some (.ref (B.length + 1)), some v, e8, e9, e10, e11, e12, e13, e14, e15] _ = _
        refine (seq_nx (if_f te)).trans ((seq_nx ((set_ok p1).trans rfl)).trans ?_)
        unfold sFor
        rw [show iSeq (mVar 4) _ _ = some (.vals ((lotsF [[]] cs).map vG), SS B K W0) from seq_lst (var_ok rfl)]
        exact q2
      obtain ⟨K2, f7, f8, f9, f10, f11, t', q3, b7⟩ := loopLap h hc hn vs K' W' (t + 1) (some v) (some (vO o)) e9' e10' e11' b6 (by omega)
      refine ⟨K2, f7, f8, f9, f10, f11, t', ?_, b7⟩
      rw [forL, q]
      exact q3
theorem bo_closed {K : List Odr} {t : Nat} (h : BO cs K [] t) : Closed cs K := ⟨h.first, fun o ho lot hl hop => h.i o ho (by simp) lot hl hop⟩
end
end K83

-- part M13
set_option Elab.async false
set_option linter.all false
set_option maxRecDepth 100000
set_option maxHeartbeats 1000000
namespace K83
open PySem PySem.Spec L2 Sh
def frA : Nat → Nat → Nat × Nat
  | 1, 0 => (1, 2)
  | 2, 0 => (1, 3)
  | 2, 1 => (2, 3)
  | 3, 0 => (1, 4)
  | 3, 1 => (1, 2)
  | 3, 2 => (3, 4)
  | 4, 0 => (1, 5)
  | 4, 1 => (2, 5)
  | 4, 2 => (3, 5)
  | 4, 3 => (4, 5)
  | _, _ => (1, 1)
def fr (k i : Nat) : Val := .tup [.int (frA k i).1, .int (frA k i).2]
theorem fr_cases {P : Nat → Nat → Prop} (h10 : P 1 0) (h20 : P 2 0) (h21 : P 2 1) (h30 : P 3 0) (h31 : P 3 1) (h32 : P 3 2) (h40 : P 4 0) (h41 : P 4 1) (h42 : P 4 2) (h43 : P 4 3) {k i : Nat} (h : i < k) (hk : k ≤ 4) : P k i := by
  rcases k with _ | _ | _ | _ | _ | k
  · omega
  · rcases i with _ | i
    · exact h10
    · omega
  · rcases i with _ | _ | i
    · exact h20
    · exact h21
    · omega
  · rcases i with _ | _ | _ | i
    · exact h30
    · exact h31
    · exact h32
    · omega
  · rcases i with _ | _ | _ | _ | i
    · exact h40
    · exact h41
    · exact h42
    · exact h43
    · omega
  · omega
theorem made_ok {st : Sto} (h : StOk st) {k i : Nat} (hi : i < k) (hk : k ≤ 4) : f_made [.int ((i : Int) + 1), .int ((k : Int) + 1)] st = some (fr k i, st) := by
  have dv : ∀ (a b c : Int), (b_divisor [some (.int a), some (.int b)] st).map (fun r => (r.1, r.2.2)) = some (.rt (.int c), st) → f_divisor [.int a, .int b] st = some (.int c, st) := fun a b c q => by
    rw [Option.map_eq_some_iff] at q
    obtain ⟨⟨r1, r2, r3⟩, q1, q2⟩ := q
    cases q2
    exact fn_rt h q1 rfl
  have lw : ∀ (a b c d e : Int) , f_divisor [.int a, .int b] st = some (.int c, st) → 0 < c → c < 1000 → a / c = d → b / c = e → f_lowest [.int a, .int b] st = some (.tup [.int d, .int e], st) := fun a b c d e q hc hc2 h1 h2 => by
    subst h1 h2
    refine fn_rt h ((seq_nx ((set_ok ((call_ok2 (a_cons (var_ok rfl) (a_one (var_ok rfl))) rfl).trans q)).trans rfl)).trans (ret_ok (mtup_ok (a_cons ((bin_ok2 (var_ok rfl) (var_ok rfl)).trans (fdiv_ok hc 10 (by omega) (by omega))) (a_one ((bin_ok2 (var_ok rfl) (var_ok rfl)).trans (fdiv_ok hc 10 (by omega) (by omega))))) (by simp)))) rfl
  have md : ∀ (a b d e : Int), f_lowest [.int a, .int b] st = some (.tup [.int d, .int e], st) → d < 1000 → e < 1000 → f_made [.int a, .int b] st = some (.tup [.int d, .int e], st) := fun a b d e q h1 h2 => by
    have t1 : tOf (mBin vGt (mBin vIx (mVar 2) (mC (.int 0))) (mC (.int 10000000000000000000000000000000000000000000000000000000000000000000000000000000000000000000000000000))) [some (.int a), some (.int b), some (.tup [.int d, .int e])] st = some (false, st) :=
      tof_bl ((bin_ok2 (u := .int d) rfl rfl).trans (by unfold vGt vI2; dsimp only; rw [decide_eq_false (by omega)]))
    have t2 : tOf (mBin vGt (mBin vIx (mVar 2) (mC (.int 1))) (mC (.int 10000000000000000000000000000000000000000000000000000000000000000000000000000000000000000000000000000))) [some (.int a), some (.int b), some (.tup [.int d, .int e])] st = some (false, st) :=
      tof_bl ((bin_ok2 (u := .int e) rfl rfl).trans (by unfold vGt vI2; dsimp only; rw [decide_eq_false (by omega)]))
    exact fn_rt h ((seq_nx ((set_ok ((call_ok2 (a_cons (var_ok rfl) (a_one (var_ok rfl))) rfl).trans q)).trans rfl)).trans ((seq_nx ((if_f (tor_f t1 t2)).trans rfl)).trans (ret_ok (var_ok rfl)))) rfl
  revert hk
  revert hi
  intro hi hk
  refine fr_cases (P := fun k i => f_made [.int ((i : Int) + 1), .int ((k : Int) + 1)] st = some (fr k i, st)) ?_ ?_ ?_ ?_ ?_ ?_ ?_ ?_ ?_ ?_ hi hk
  · exact md _ _ 1 2 (lw _ _ 1 _ _ (dv _ _ _ (by kernel_rfl)) (by decide) (by decide) (by decide) (by decide)) (by decide) (by decide)
  · exact md _ _ 1 3 (lw _ _ 1 _ _ (dv _ _ _ (by kernel_rfl)) (by decide) (by decide) (by decide) (by decide)) (by decide) (by decide)
  · exact md _ _ 2 3 (lw _ _ 1 _ _ (dv _ _ _ (by kernel_rfl)) (by decide) (by decide) (by decide) (by decide)) (by decide) (by decide)
  · exact md _ _ 1 4 (lw _ _ 1 _ _ (dv _ _ _ (by kernel_rfl)) (by decide) (by decide) (by decide) (by decide)) (by decide) (by decide)
  · exact md _ _ 1 2 (lw _ _ 2 _ _ (dv _ _ _ (by kernel_rfl)) (by decide) (by decide) (by decide) (by decide)) (by decide) (by decide)
  · exact md _ _ 3 4 (lw _ _ 1 _ _ (dv _ _ _ (by kernel_rfl)) (by decide) (by decide) (by decide) (by decide)) (by decide) (by decide)
  · exact md _ _ 1 5 (lw _ _ 1 _ _ (dv _ _ _ (by kernel_rfl)) (by decide) (by decide) (by decide) (by decide)) (by decide) (by decide)
  · exact md _ _ 2 5 (lw _ _ 1 _ _ (dv _ _ _ (by kernel_rfl)) (by decide) (by decide) (by decide) (by decide)) (by decide) (by decide)
  · exact md _ _ 3 5 (lw _ _ 1 _ _ (dv _ _ _ (by kernel_rfl)) (by decide) (by decide) (by decide) (by decide)) (by decide) (by decide)
  · exact md _ _ 4 5 (lw _ _ 1 _ _ (dv _ _ _ (by kernel_rfl)) (by decide) (by decide) (by decide) (by decide)) (by decide) (by decide)
end K83

-- part M14
set_option Elab.async false
set_option linter.all false
set_option maxRecDepth 100000
set_option maxHeartbeats 1000000
namespace K83
open PySem PySem.Spec L2 Sh
theorem frA_lt : ∀ k, k < 5 → ∀ i, i < k → ∀ j, j < k → (decide ((frA k i).1 * (frA k j).2 < (frA k j).1 * (frA k i).2) = decide (i < j) ∧ decide (frA k i = frA k j) = decide (i = j) ∧ 0 < (frA k i).1 ∧ (frA k i).1 < (frA k i).2 ∧ (frA k i).2 ≤ 5) := by decide
theorem before_ok {st : Sto} (h : StOk st) {a b c d : Nat} (ha : a < 100) (hb : b < 100) (hc : c < 100) (hd : d < 100) : f_is_before [.tup [.int a, .int b], .tup [.int c, .int d]] st = some (.bl (decide (a * d < c * b)), st) := by
  refine fn_rt h (ret_ok ((bin_ok2 (u := .int ((a : Int) * d)) (v := .int ((c : Int) * b)) ((bin_ok2 (u := .int a) (v := .int d) rfl rfl).trans (mul_ok 20 20 (by omega) (by omega) (by omega))) ((bin_ok2 (u := .int c) (v := .int b) rfl rfl).trans (mul_ok 20 20 (by omega) (by omega) (by omega)))).trans ?_)) rfl
  unfold vLt vI2
  dsimp only
  congr 3
  have : ((a : Int) * d < c * b) ↔ a * d < c * b := by
    rw [← Int.natCast_mul, ← Int.natCast_mul]
    exact Int.ofNat_lt
  exact decide_eq_decide.mpr this
theorem before_fr {st : Sto} (h : StOk st) {k i j : Nat} (hk : k ≤ 4) (hi : i < k) (hj : j < k) : f_is_before [fr k i, fr k j] st = some (.bl (decide (i < j)), st) := by
  obtain ⟨h1, h2, h3, h4, h5⟩ := frA_lt k (by omega) i hi j hj
  obtain ⟨_, _, h6, h7, h8⟩ := frA_lt k (by omega) j hj i hi
  rw [← h1]
  exact before_ok h (by omega) (by omega) (by omega) (by omega)
theorem before_0 {st : Sto} (h : StOk st) {k i : Nat} (hk : k ≤ 4) (hi : i < k) : f_is_before [.tup [.int 0, .int 1], fr k i] st = some (.bl true, st) := by
  obtain ⟨_, _, h3, h4, h5⟩ := frA_lt k (by omega) i hi i hi
  have := before_ok (st := st) h (a := 0) (b := 1) (c := (frA k i).1) (d := (frA k i).2) (by omega) (by omega) (by omega) (by omega)
  rw [decide_eq_true (by omega)] at this
  exact this
theorem before_1 {st : Sto} (h : StOk st) {k i : Nat} (hk : k ≤ 4) (hi : i < k) : f_is_before [fr k i, .tup [.int 1, .int 1]] st = some (.bl true, st) := by
  obtain ⟨_, _, h3, h4, h5⟩ := frA_lt k (by omega) i hi i hi
  have := before_ok (st := st) h (a := (frA k i).1) (b := (frA k i).2) (c := 1) (d := 1) (by omega) (by omega) (by omega) (by omega)
  rw [decide_eq_true (by omega)] at this
  exact this
theorem before_01 {st : Sto} (h : StOk st) : f_is_before [.tup [.int 0, .int 1], .tup [.int 1, .int 1]] st = some (.bl true, st) := before_ok (st := st) h (a := 0) (b := 1) (c := 1) (d := 1) (by omega) (by omega) (by omega) (by omega)
theorem veq_fr {k i j : Nat} (hk : k ≤ 4) (hi : i < k) (hj : j < k) : veq (fr k i) (fr k j) = decide (i = j) := by
  obtain ⟨_, h2, _⟩ := frA_lt k (by omega) i hi j hj
  rw [← h2]
  unfold fr
  rw [veq, veqs, veqs, veqs, veq, veq]
  have e : frA k i = frA k j ↔ ((frA k i).1 = (frA k j).1 ∧ (frA k i).2 = (frA k j).2) := by rw [Prod.ext_iff]
  by_cases h1 : (frA k i).1 = (frA k j).1 <;> by_cases h3 : (frA k i).2 = (frA k j).2 <;> simp [e, h1, h3, Int.natCast_inj]
theorem time_ok {st : Sto} (h : StOk st) {k i : Nat} (hi : i < k) (hk : k ≤ 4) : f_is_time [fr k i] st = some (.bl true, st) := by
  have dv : ∀ (a b : Int), (b_divisor [some (.int a), some (.int b)] st).map (fun r => (r.1, r.2.2)) = some (.rt (.int 1), st) → f_divisor [.int a, .int b] st = some (.int 1, st) := fun a b q => by
    rw [Option.map_eq_some_iff] at q
    obtain ⟨⟨r1, r2, r3⟩, q1, q2⟩ := q
    cases q2
    exact fn_rt h q1 rfl
  have key : ∀ (a b : Int), f_divisor [.int a, .int b] st = some (.int 1, st) → 0 ≤ a → a ≤ 100 → 1 ≤ b → b ≤ 100 → f_is_time [.tup [.int a, .int b]] st = some (.bl true, st) := fun a b q h1 h2 h3 h4 => by
    have e1 : mCall 3 f_is_tuple (aCons (mVar 0) (aCons (mC (.int 2)) (aCons (mC (.int 2)) aNil))) [some (.tup [.int a, .int b])] st = some (.bl true, st) := (call_ok2 (a_cons (var_ok rfl) (a_cons rfl (a_one rfl))) rfl).trans (is_tuple_ok h _ 2 2)
    have e2 : mCall 3 f_is_integer (aCons (mBin vIx (mVar 0) (mC (.int 0))) (aCons (mC (.int 0)) (aCons (mC (.int 10000000000000000000000000000000000000000000000000000000000000000000000000000000000000000000000000000)) aNil))) [some (.tup [.int a, .int b])] st = some (.bl true, st) := by
      refine (call_ok2 (a_cons (v := .int a) rfl (a_cons rfl (a_one rfl))) rfl).trans ((is_integer_ok h _ _ _).trans ?_)
      rw [decide_eq_true (show (0 : Int) ≤ a from h1), decide_eq_true (by omega)]
      rfl
    have e3 : mCall 3 f_is_integer (aCons (mBin vIx (mVar 0) (mC (.int 1))) (aCons (mC (.int 1)) (aCons (mC (.int 10000000000000000000000000000000000000000000000000000000000000000000000000000000000000000000000000000)) aNil))) [some (.tup [.int a, .int b])] st = some (.bl true, st) := by
      refine (call_ok2 (a_cons (v := .int b) rfl (a_cons rfl (a_one rfl))) rfl).trans ((is_integer_ok h _ _ _).trans ?_)
      rw [decide_eq_true (show (1 : Int) ≤ b from h3), decide_eq_true (by omega)]
      rfl
    have e4 : mBin vEq (mCall 2 f_divisor (aCons (mBin vIx (mVar 0) (mC (.int 0))) (aCons (mBin vIx (mVar 0) (mC (.int 1))) aNil))) (mC (.int 1)) [some (.tup [.int a, .int b])] st = some (.bl true, st) := by
      refine (bin_ok2 ((call_ok2 (a_cons (v := .int a) rfl (a_one (v := .int b) rfl)) rfl).trans q) rfl).trans ?_
      simp [vEq, dref, vflat, veq]
    exact fn_rt h ((seq_nx (if_f (tor_f (tnot (tof_bl e1)) (tor_f (tnot (tof_bl e2)) (tnot (tof_bl e3)))))).trans (ret_ok e4)) rfl
  refine fr_cases (P := fun k i => f_is_time [fr k i] st = some (.bl true, st)) ?_ ?_ ?_ ?_ ?_ ?_ ?_ ?_ ?_ ?_ hi hk
  all_goals exact key _ _ (dv _ _ (by kernel_rfl)) (by decide) (by decide) (by decide) (by decide)
/-- a clock and its time -/
def vP (k : Nat) (p : Nat × Nat) : Val := .tup [vN p.1, fr k p.2]
theorem value_ok {st : Sto} (h : StOk st) {k c i : Nat} (hi : i < k) (hk : k ≤ 4) (hc : c ≤ 9) : f_is_value [vP k (c, i)] st = some (.bl true, st) := by
  refine fn_rt h (ret_ok ?_) rfl
  have e1 : mCall 3 f_is_tuple (aCons (mVar 0) (aCons (mC (.int 2)) (aCons (mC (.int 2)) aNil))) [some (vP k (c, i))] st = some (.bl true, st) := (call_ok2 (a_cons (var_ok rfl) (a_cons rfl (a_one rfl))) rfl).trans (is_tuple_ok h _ 2 2)
  have e2 : mCall 3 f_is_integer (aCons (mBin vIx (mVar 0) (mC (.int 0))) (aCons (mC (.int 0)) (aCons (mC (.int 9)) aNil))) [some (vP k (c, i))] st = some (.bl true, st) := by
    refine (call_ok2 (a_cons (v := .int c) rfl (a_cons rfl (a_one rfl))) rfl).trans ((is_integer_ok h _ _ _).trans ?_)
    rw [decide_eq_true (show (0 : Int) ≤ c by omega), decide_eq_true (by omega)]
    rfl
  have e3 : mCall 1 f_is_time (aCons (mBin vIx (mVar 0) (mC (.int 1))) aNil) [some (vP k (c, i))] st = some (.bl true, st) := (call_ok2 (a_one (v := fr k i) rfl) rfl).trans (time_ok h hi hk)
  show mAnd _ _ [some (vP k (c, i))] st = _
  have and_t : ∀ {a b : ME} {env : Sh.Env}, a env st = some (.bl true, st) → mAnd a b env st = b env st := fun {a b env} q => by
    unfold mAnd mBind
    rw [q]
    rfl
  exact (and_t e1).trans ((and_t e2).trans e3)
/-! the times that some_values gives -/
def idxO : Odr → Nat → Nat
  | [], _ => 0
  | g :: o, c => if c ∈ g then 0 else idxO o c + 1
theorem idx_lt : ∀ {o : Odr} {c : Nat}, c ∈ o.flatten → idxO o c < o.length
  | [], c, h => by simp at h
  | g :: o, c, h => by
    unfold idxO
    split
    · simp
    · rename_i hc
      have : c ∈ o.flatten := by
        rw [List.flatten_cons, List.mem_append] at h
        exact h.resolve_left hc
      have := idx_lt this
      rw [List.length_cons]
      omega
abbrev bodyV : MS := sEx (mLM2 lExtend (mVar 1) (aCons (mFz (fLc [4] (iSeq (mVar 3)) (gNameM 4) tYesM (mTup (aCons (mVar 4) (aCons (mCall 2 f_made (aCons (mBin vAdd (mVar 2) (mC (.int 1))) (aCons (mBin vAdd (mB bLen (aCons (mVar 0) aNil)) (mC (.int 1))) aNil))) aNil))))) aNil))
theorem loopV {B : Sto} (h : StOk B) {o : Odr} (hk : o.length ≤ 4) : ∀ (gs : Odr) (n : Nat) (acc : List (Nat × Nat)) (e2 e3 : Option Val), n + gs.length ≤ o.length → (∀ g ∈ gs, g.length ≤ 10) → acc.length + 10 * gs.length ≤ 1000 → ∃ e2' e3',
    forL (gTupM (gConsM (gNameM 2) (gConsM (gNameM 3) gNilM))) bodyV (enumV n (gs.map vG)) [some (vO o), some (.ref B.length), e2, e3, none] (B ++ [.lst (acc.map (vP o.length))]) =
      some (.nx, [some (vO o), some (.ref B.length), e2', e3', none], B ++ [.lst ((acc ++ (gs.zipIdx n).flatMap fun q => q.1.map fun c => (c, q.2)).map (vP o.length))])
  | [], n, acc, e2, e3, _, _, _ => ⟨e2, e3, by simp [enumV, forL]⟩
  | g :: gs, n, acc, e2, e3, hn, hg, ha => by
    rw [List.length_cons] at hn ha
    have ok : StOk (B ++ [.lst (acc.map (vP o.length))]) := h.add (vbelows_map (fun a => rfl) _)
    have g10 := hg g (List.mem_cons_self ..)
    obtain ⟨e2', e3', q⟩ := loopV h hk gs (n + 1) (acc ++ g.map fun c => (c, n)) (some (.int (n : Nat))) (some (vG g)) (by omega) (fun x hx => hg x (List.mem_cons_of_mem _ hx)) (by rw [List.length_append, List.length_map]; omega)
    refine ⟨e2', e3', ?_⟩
    have c1 : fLc [4] (iSeq (mVar 3)) (gNameM 4) tYesM (mTup (aCons (mVar 4) (aCons (mCall 2 f_made (aCons (mBin vAdd (mVar 2) (mC (.int 1))) (aCons (mBin vAdd (mB bLen (aCons (mVar 0) aNil)) (mC (.int 1))) aNil))) aNil))) [some (vO o), some (.ref B.length), some (.int (n : Nat)), some (vG g), none] (B ++ [.lst (acc.map (vP o.length))]) = some (g.map (fun c => vP o.length (c, n)), B ++ [.lst (acc.map (vP o.length))]) := by
      refine fLc_map (f := vN) (seq_tup (var_ok rfl)) (fun c hc => step1_yes (env1 := [some (vO o), some (.ref B.length), some (.int (n : Nat)), some (vG g), some (vN c)]) rfl ?_) (by omega)
      have l1 : mB bLen (aCons (mVar 0) aNil) [some (vO o), some (.ref B.length), some (.int (n : Nat)), some (vG g), some (vN c)] (B ++ [.lst (acc.map (vP o.length))]) = some (.int (o.length : Int), B ++ [.lst (acc.map (vP o.length))]) := by
        refine (mB_ok (a_one (var_ok rfl))).trans ?_
        unfold bLen vdict dref vO
        dsimp only
        rw [List.length_map]
      exact mtup_ok (a_cons (var_ok rfl) (a_one ((call_ok2 (a_cons ((bin_ok2 (var_ok rfl) rfl).trans rfl) (a_one ((bin_ok2 l1 rfl).trans rfl))) rfl).trans (made_ok ok (by omega) hk)))) (by simp)
    have t1 : turnM (gTupM (gConsM (gNameM 2) (gConsM (gNameM 3) gNilM))) bodyV (.tup [.int (n : Nat), vG g]) [some (vO o), some (.ref B.length), e2, e3, none] (B ++ [.lst (acc.map (vP o.length))]) = some (.nx, [some (vO o), some (.ref B.length), some (.int (n : Nat)), some (vG g), none], B ++ [.lst ((acc ++ g.map fun c => (c, n)).map (vP o.length))]) := by
      show sEx _ [some (vO o), some (.ref B.length), some (.int (n : Nat)), some (vG g), none] _ = _
      refine (ex_ok (lm_ok2 (r := .non) (zs := (acc ++ g.map fun c => (c, n)).map (vP o.length)) (var_ok rfl) (get_last B _) (a_one (mfz_ok c1)) (get_last B _) ?_)).trans (by rw [set_last])
      rw [extend_ok (by simp; omega), List.map_append, List.map_map]
      rfl
    rw [List.map_cons, enumV, forL, t1]
    dsimp only
    rw [q, List.zipIdx_cons, List.flatMap_cons, List.append_assoc]
end K83

-- part M15
set_option Elab.async false
set_option linter.all false
set_option maxRecDepth 100000
set_option maxHeartbeats 1000000
namespace K83
open PySem PySem.Spec L2 Sh
/-- clocks with their groups' numbers -/
def idxP (o : Odr) (cs : List Nat) : List (Nat × Nat) := cs.map fun c => (c, idxO o c)
theorem zip_idx : ∀ (gs : Odr) (n : Nat) (o : Odr), gs.flatten.Nodup → (∀ c ∈ gs.flatten, idxO o c = n + idxO gs c) → ((gs.zipIdx n).flatMap fun q => q.1.map fun c => (c, q.2)) = idxP o gs.flatten
  | [], n, o, _, _ => rfl
  | g :: gs, n, o, hn, hi => by
    rw [List.flatten_cons, List.nodup_append] at hn
    rw [List.zipIdx_cons, List.flatMap_cons, List.flatten_cons]
    unfold idxP
    rw [List.map_append]
    congr 1
    · apply List.map_congr_left
      intro c hc
      have := hi c (by rw [List.flatten_cons]; exact List.mem_append_left _ hc)
      rw [this]
      unfold idxO
      rw [if_pos hc]
      rfl
    · refine zip_idx gs (n + 1) o hn.2.1 fun c hc => ?_
      have := hi c (by rw [List.flatten_cons]; exact List.mem_append_right _ hc)
      rw [this]
      have hcg : c ∉ g := fun q => hn.2.2 c q c hc rfl
      rw [show idxO (g :: gs) c = idxO gs c + 1 by rw [idxO, if_neg hcg]]
      omega
theorem vle_P {k : Nat} {p q : Nat × Nat} (h : p = q ∨ p.1 ≠ q.1) : vle (vP k p) (vP k q) = decide (p.1 ≤ q.1) := by
  unfold vle
  rw [PySem.W.dataLe_eq]
  show (!PySem.W.dataLt (vdat (vP k q)) (vdat (vP k p))) = _
  have e : ∀ p : Nat × Nat, vdat (vP k p) = .tuple [.int (p.1 : Int), .tuple [.int ((frA k p.2).1 : Int), .int ((frA k p.2).2 : Int)]] := fun p => rfl
  rw [e, e, PySem.W.dataLt_pair (by simp [PySem.W.alike]) (by simp [PySem.W.alike, PySem.W.alikeAll])]
  rcases h with rfl | h
  · have hl : ∀ d : List PyData, PySem.W.dataLt (.tuple d) (.tuple d) = false := fun d => by
      rw [PySem.W.dataLt_tuple]
      exact PyProof.Rows.lex_irrefl _
    rw [hl, if_pos (show PyData.eqv (.int (p.1 : Int)) (.int (p.1 : Int)) = true by simp [PyData.eqv]), ite_self]
    simp
  · rw [if_neg (by simp [PyData.eqv]; omega), PySem.W.dataLt_int]
    by_cases hle : p.1 ≤ q.1
    · have : ¬ (q.1 : Int) < (p.1 : Int) := by omega
      simp [hle, this]
    · have : (q.1 : Int) < (p.1 : Int) := by omega
      simp [hle, this]
theorem sort_P {o : Odr} (k : Nat) {l : List Nat} (hn : l.Nodup) : vsort ((idxP o l).map (vP k)) = (idxP o (sortN l)).map (vP k) := by
  have e1 : vsort ((idxP o l).map (vP k)) = (((idxP o l).mergeSort fun p q => decide (p.1 ≤ q.1))).map (vP k) := by
    unfold vsort
    refine (List.map_mergeSort (r := fun p q => decide (p.1 ≤ q.1)) (s := vle) (f := vP k) (l := idxP o l) fun p hp q hq => ?_).symm
    refine (vle_P ?_).symm
    unfold idxP at hp hq
    obtain ⟨c, _, rfl⟩ := List.mem_map.mp hp
    obtain ⟨d, _, rfl⟩ := List.mem_map.mp hq
    by_cases h : c = d
    · exact .inl (by rw [h])
    · exact .inr h
  have e2 : (idxP o l).mergeSort (fun p q => decide (p.1 ≤ q.1)) = idxP o (sortN l) := by
    unfold idxP sortN
    exact (List.map_mergeSort (r := fun a b => decide (a ≤ b)) (s := fun p q => decide (p.1 ≤ q.1)) (f := fun c => (c, idxO o c)) (l := l) fun a _ b _ => rfl).symm
  rw [e1, e2]
theorem sortOk_P {k : Nat} {l : List (Nat × Nat)} (h : l.length ≤ 1000000) : sortOk (l.map (vP k)) = true :=
  sortOk_of h (fun p => by simp [vP, vN, fr, vflat, vflats]) (fun p q => by simp [vP, vN, fr, valike, valikes]) (.inl fun p => rfl)
theorem values_ok {st : Sto} (h : StOk st) {o : Odr} (ho : Ord o) (hk : o.length ≤ 4) : f_some_values [vO o] st = some (.tpl ((idxP o (sortN o.flatten)).map (vP o.length)), st) := by
  have hs := ho.short
  obtain ⟨e2, e3, q⟩ := loopV h (o := o) hk o 0 [] none none (by omega) (fun g hg => (ho.grp g hg).1.short) (by simp; omega)
  rw [List.nil_append, zip_idx o 0 o ho.nd (fun c _ => by omega)] at q
  have s1 : sEx (mCall 1 f_check_order (aCons (mVar 0) aNil)) [some (vO o), none, none, none, none] st = some (.nx, [some (vO o), none, none, none, none], st) := ex_ok ((call_ok2 (a_one (var_ok rfl)) rfl).trans (chk_order h ho))
  have s2 : sSet 1 (mNew (fLst aNil)) [some (vO o), none, none, none, none] st = some (.nx, [some (vO o), some (.ref st.length), none, none, none], st ++ [.lst []]) := set_ok (mnew_ok (flst_ok a_nil (by simp)))
  have s3 : sFor (Sh.iEnum (aCons (mVar 0) aNil)) (gTupM (gConsM (gNameM 2) (gConsM (gNameM 3) gNilM))) bodyV [some (vO o), some (.ref st.length), none, none, none] (st ++ [.lst []]) = some (.nx, [some (vO o), some (.ref st.length), e2, e3, none], st ++ [.lst ((idxP o o.flatten).map (vP o.length))]) := by
    unfold sFor
    rw [show Sh.iEnum (aCons (mVar 0) aNil) [some (vO o), some (.ref st.length), none, none, none] (st ++ [.lst []]) = some (.vals (enumV 0 (o.map vG)), st ++ [.lst []]) from rfl]
    exact q
  have hz : (idxP o o.flatten).length ≤ 1000000 := by unfold idxP; rw [List.length_map]; omega
  have s4 : sRet (mB bTpl (aCons (mFz (fB (bOr bSorted bSortedD) (aCons (mVar 1) aNil))) aNil)) [some (vO o), some (.ref st.length), e2, e3, none] (st ++ [.lst ((idxP o o.flatten).map (vP o.length))]) = some (.rt (.tpl ((idxP o (sortN o.flatten)).map (vP o.length))), [some (vO o), some (.ref st.length), e2, e3, none], st ++ [.lst ((idxP o o.flatten).map (vP o.length))]) := by
    refine ret_ok ((mB_ok (a_one (mfz_ok (fB_ok (ys := (idxP o (sortN o.flatten)).map (vP o.length)) (a_one (var_ok rfl)) ?_)))).trans rfl)
    unfold bOr bSorted vlist dref
    dsimp only
    rw [get_last]
    dsimp only
    rw [if_pos (sortOk_P hz), sort_P _ ho.nd]
  refine fn_cut (new := [.lst ((idxP o o.flatten).map (vP o.length))]) h ((seq_nx s1).trans ((seq_nx s2).trans ((seq_nx s3).trans s4))) ?_
  rw [vbelow]
  exact vbelows_map (fun p => rfl) _
/-! do_values_fit -/
def befP (last : Option Nat) (i : Nat) : Bool := match last with
  | none => true
  | some j => decide (j < i)
def fitL (idx : Nat → Nat) : Option Nat → Odr → Bool
  | _, [] => true
  | last, H :: Hs => if (H.any (fun c => !decide (idx c = idx (H.headD 0))) || !befP last (idx (H.headD 0))) = true then false else fitL idx (some (idx (H.headD 0))) Hs
theorem fit_gt {idx : Nat → Nat} : ∀ {Hs : Odr} {e : Nat}, fitL idx (some e) Hs = true → ∀ c ∈ Hs.flatten, e < idx c
  | [], e, _, c, hc => by simp at hc
  | H :: Hs, e, h, c, hc => by
    unfold fitL at h
    generalize H.headD 0 = hd at h
    split at h
    · cases h
    · rename_i hn
      have h1 : (H.any fun c => !decide (idx c = idx hd)) = false ∧ befP (some e) (idx hd) = true := by
        cases ha : (H.any fun c => !decide (idx c = idx hd)) <;> cases hb : befP (some e) (idx hd) <;> simp [ha, hb] at hn ⊢
      have h2 : e < idx hd := of_decide_eq_true h1.2
      rw [List.flatten_cons, List.mem_append] at hc
      rcases hc with hc | hc
      · have := List.any_eq_false.mp h1.1 c hc
        simp at this
        omega
      · have := fit_gt h c hc
        omega
theorem fit_eq {idx : Nat → Nat} : ∀ (o o' : Odr) (n : Nat) (last : Option Nat), Ord o → Ord o' → (∀ c, c ∈ o.flatten ↔ c ∈ o'.flatten) → (∀ c ∈ o.flatten, idx c = n + idxO o c) → (∀ j, last = some j → j < n) → fitL idx last o' = decide (o' = o)
  | [], o', n, last, ho, ho', he, hi, hl => by
    cases o' with
    | nil => rfl
    | cons H Hs =>
      exfalso
      have hne := (ho'.grp H (List.mem_cons_self ..)).2
      cases H with
      | nil => exact hne rfl
      | cons c H =>
        have := (he c).mpr (by simp)
        simp at this
  | G :: Gs, [], n, last, ho, ho', he, hi, hl => by
    exfalso
    have hne := (ho.grp G (List.mem_cons_self ..)).2
    cases G with
    | nil => exact hne rfl
    | cons c G =>
      have := (he c).mp (by simp)
      simp at this
  | G :: Gs, H :: Hs, n, last, ho, ho', he, hi, hl => by
    have oG := ho.grp G (List.mem_cons_self ..)
    have oH := ho'.grp H (List.mem_cons_self ..)
    have oGs : Ord Gs := ⟨fun x hx => ho.grp x (List.mem_cons_of_mem _ hx), by have := ho.nd; rw [List.flatten_cons, List.nodup_append] at this; exact this.2.1⟩
    have oHs : Ord Hs := ⟨fun x hx => ho'.grp x (List.mem_cons_of_mem _ hx), by have := ho'.nd; rw [List.flatten_cons, List.nodup_append] at this; exact this.2.1⟩
    have dG : ∀ c ∈ G, c ∉ Gs.flatten := fun c hc q => by have := ho.nd; rw [List.flatten_cons, List.nodup_append] at this; exact this.2.2 c hc c q rfl
    have dH : ∀ c ∈ H, c ∉ Hs.flatten := fun c hc q => by have := ho'.nd; rw [List.flatten_cons, List.nodup_append] at this; exact this.2.2 c hc c q rfl
    have iG : ∀ c ∈ G, idx c = n := fun c hc => by
      have := hi c (by rw [List.flatten_cons]; exact List.mem_append_left _ hc)
      rw [this, idxO, if_pos hc]
      rfl
    have iGs : ∀ c ∈ Gs.flatten, idx c = n + 1 + idxO Gs c := fun c hc => by
      have := hi c (by rw [List.flatten_cons]; exact List.mem_append_right _ hc)
      rw [this, idxO, if_neg (fun q => dG c q hc)]
      omega
    have hin : ∀ c ∈ H, c ∈ G ∨ c ∈ Gs.flatten := fun c hc => by
      have := (he c).mpr (by rw [List.flatten_cons]; exact List.mem_append_left _ hc)
      rwa [List.flatten_cons, List.mem_append] at this
    have head : H.headD 0 ∈ H := by
      cases H with
      | nil => exact absurd rfl oH.2
      | cons c H => exact List.mem_cons_self ..
    generalize hhd : H.headD 0 = hd at head
    by_cases hGH : H = G
    · subst hGH
      have ih := fit_eq Gs Hs (n + 1) (some n) oGs oHs (fun c => by
        have q := he c
        rw [List.flatten_cons, List.flatten_cons, List.mem_append, List.mem_append] at q
        constructor
        · intro h
          exact (q.mp (.inr h)).resolve_left fun z => dG c z h
        · intro h
          exact (q.mpr (.inr h)).resolve_left fun z => dH c z h) iGs (fun j hj => by cases hj; omega)
      have e1 : (H.any fun c => !decide (idx c = idx hd)) = false := by
        rw [List.any_eq_false]
        intro c hc
        simp [iG c hc, iG _ head]
      have e2 : befP last (idx hd) = true := by
        rw [iG _ head]
        unfold befP
        cases last with
        | none => rfl
        | some j => exact decide_eq_true (hl j rfl)
      rw [fitL, hhd, e1, e2, if_neg (by simp), iG _ head, ih]
      by_cases hq : Hs = Gs <;> simp [hq]
    · rw [decide_eq_false (fun q => hGH (by injection q))]
      rw [fitL, hhd]
      split
      · rfl
      · rename_i hn
        have h1 : (H.any fun c => !decide (idx c = idx hd)) = false := by
          cases ha : (H.any fun c => !decide (idx c = idx hd)) <;> simp [ha] at hn ⊢
        have hall : ∀ c ∈ H, idx c = idx hd := fun c hc => by
          have := List.any_eq_false.mp h1 c hc
          simpa using this
        cases hf : fitL idx (some (idx hd)) Hs with
        | false => rfl
        | true =>
          exfalso
          have hgt := fit_gt hf
          have hge : n ≤ idx hd := by
            rcases hin _ head with q | q
            · rw [iG _ q]; exact Nat.le_refl _
            · rw [iGs _ q]; omega
          have hGsub : ∀ c ∈ G, c ∈ H := fun c hc => by
            have q := (he c).mp (by rw [List.flatten_cons]; exact List.mem_append_left _ hc)
            rw [List.flatten_cons, List.mem_append] at q
            rcases q with q | q
            · exact q
            · have := hgt c q
              rw [iG c hc] at this
              omega
          obtain ⟨g, hg⟩ : ∃ g, g ∈ G := by
            cases G with
            | nil => exact absurd rfl oG.2
            | cons g G => exact ⟨g, List.mem_cons_self ..⟩
          have hen : idx hd = n := by rw [← hall g (hGsub g hg), iG g hg]
          have hHsub : ∀ c ∈ H, c ∈ G := fun c hc => by
            rcases hin c hc with q | q
            · exact q
            · have := iGs c q
              rw [hall c hc, hen] at this
              omega
          exact hGH (asc_ext oH.1.lt oG.1.lt fun c => ⟨hHsub c, hGsub c⟩)
end K83

-- part M16
set_option Elab.async false
set_option linter.all false
set_option maxRecDepth 100000
set_option maxHeartbeats 1000000
namespace K83
open PySem PySem.Spec L2 Sh
def kvP (k : Nat) (p : Nat × Nat) : Val × Val := (vN p.1, fr k p.2)
theorem vpairs_P (k : Nat) : ∀ l : List (Nat × Nat), vpairs (l.map (vP k)) = some (l.map (kvP k))
  | [] => rfl
  | p :: l => by
    rw [List.map_cons]
    show vpairs (.tup [vN p.1, fr k p.2] :: l.map (vP k)) = _
    rw [vpairs, if_pos (show kleaf (vN p.1) = true from rfl), vpairs_P k l]
    rfl
theorem merge_P (k : Nat) : ∀ (l acc : List (Nat × Nat)), ((acc ++ l).map (·.1)).Nodup → mergeV (acc.map (kvP k)) (l.map (kvP k)) = (acc ++ l).map (kvP k)
  | [], acc, _ => by rw [List.append_nil]; rfl
  | p :: l, acc, h => by
    have e : dput (acc.map (kvP k)) (vN p.1) (fr k p.2) = (acc ++ [p]).map (kvP k) := by
      rw [dput_new, List.map_append]
      · rfl
      · intro q hq
        obtain ⟨a, ha, rfl⟩ := List.mem_map.mp hq
        show veq (vN a.1) (vN p.1) = false
        rw [veq_N]
        refine decide_eq_false fun e => ?_
        rw [List.map_append, List.nodup_append] at h
        exact h.2.2 a.1 (List.mem_map.mpr ⟨a, ha, rfl⟩) p.1 (by simp) e
    have := merge_P k l (acc ++ [p]) (by simpa using h)
    rw [List.append_assoc] at this
    rw [List.map_cons]
    show mergeV (dput (acc.map (kvP k)) (vN p.1) (fr k p.2)) (l.map (kvP k)) = _
    rw [e]
    exact this
theorem dget_P (k : Nat) (o : Odr) (c : Nat) : ∀ cs : List Nat, c ∈ cs → dget ((idxP o cs).map (kvP k)) (vN c) = some (fr k (idxO o c))
  | [], h => by cases h
  | d :: cs, h => by
    unfold dget idxP
    rw [List.map_cons, List.map_cons, List.find?_cons]
    show (match veq (vN d) (vN c) with | true => some (kvP k (d, idxO o d)) | false => List.find? (fun p => veq p.1 (vN c)) ((idxP o cs).map (kvP k)) : Option (Val × Val)).map (·.2) = _
    rw [veq_N]
    by_cases e : d = c
    · subst e
      rw [decide_eq_true rfl]
      rfl
    · rw [decide_eq_false e]
      have := dget_P k o c cs (by
        rcases List.mem_cons.mp h with q | q
        · exact absurd q.symm e
        · exact q)
      exact this
theorem fit_P {k : Nat} (o : Odr) (cs : List Nat) (c : Nat) : keyFit ((idxP o cs).map (kvP k)) (vN c) = true := by
  cases cs with
  | nil => rfl
  | cons d cs => rfl
def lastV (k : Nat) : Option Nat → Val
  | none => .tup [.int 0, .int 1]
  | some j => fr k j
abbrev bodyF : MS := sSeq (sSet 5 (mBin vIx (mVar 2) (mBin vIx (mVar 4) (mC (.int 0))))) (sSeq (sIf (tOrM (tOf (mB bAny (aCons (mFz (fLc [6] (iSeq (mVar 4)) (gNameM 6) tYesM (mBin vNe (mBin vIx (mVar 2) (mVar 6)) (mVar 5)))) aNil))) (tNotM (tOf (mCall 2 f_is_before (aCons (mVar 3) (aCons (mVar 5) aNil)))))) (sRet (mC (.bl false))) sNext) (sSet 3 (mVar 5)))
theorem ix_tab {B : Sto} {k : Nat} {o : Odr} {cs : List Nat} {c : Nat} (h : c ∈ cs) : vIx (.ref B.length) (vN c) (B ++ [.dct ((idxP o cs).map (kvP k))]) = some (fr k (idxO o c), B ++ [.dct ((idxP o cs).map (kvP k))]) := by
  unfold vIx vdict
  dsimp only
  rw [get_last]
  dsimp only
  rw [if_pos (fit_P o cs c), dget_P k o c cs h]
theorem obs_P (n k : Nat) (o : Odr) (cs : List Nat) : obelow n (.dct ((idxP o cs).map (kvP k))) = true := by
  show (((idxP o cs).map (kvP k)).all fun p => vbelow n p.1 && vbelow n p.2) = true
  simp [kvP, vN, fr, vbelow, vbelows]
theorem vNe_fr {k i j : Nat} {st : Sto} (hk : k ≤ 4) (hi : i < k) (hj : j < k) : vNe (fr k i) (fr k j) st = some (.bl (!decide (i = j)), st) := by
  have d : ∀ x, dref st (fr k x) = fr k x := fun x => rfl
  have f : ∀ x, vflat 64 (fr k x) = true := fun x => by simp [fr, vflat, vflats]
  unfold vNe
  rw [d, d, f, f, veq_fr hk hi hj]
  rfl
theorem loopF {B : Sto} (h : StOk B) {k : Nat} (hk : k ≤ 4) {o : Odr} {cs : List Nat} (hidx : ∀ c ∈ cs, idxO o c < k) {a0 a1 : Option Val} : ∀ (Hs : Odr) (last : Option Nat) (e4 e5 e6 : Option Val), (∀ H ∈ Hs, H ≠ [] ∧ H.length ≤ 10 ∧ ∀ c ∈ H, c ∈ cs) → (∀ j, last = some j → j < k) → ∃ e4' e5' e6' last',
    (∀ j, last' = some j → j < k) ∧ forL (gNameM 4) bodyF (Hs.map vG) [a0, a1, some (.ref B.length), some (lastV k last), e4, e5, e6] (B ++ [.dct ((idxP o cs).map (kvP k))]) =
      some (if fitL (idxO o) last Hs = true then .nx else .rt (.bl false), [a0, a1, some (.ref B.length), some (lastV k last'), e4', e5', e6'], B ++ [.dct ((idxP o cs).map (kvP k))])
  | [], last, e4, e5, e6, _, hl => ⟨e4, e5, e6, last, hl, by simp [forL, fitL]⟩
  | H :: Hs, last, e4, e5, e6, hH, hl => by
    obtain ⟨hne, h10, hsub⟩ := hH H (List.mem_cons_self ..)
    have ok : StOk (B ++ [.dct ((idxP o cs).map (kvP k))]) := h.add (obs_P _ _ _ _)
    have head : H.headD 0 ∈ H := by
      cases H with
      | nil => exact absurd rfl hne
      | cons c H => exact List.mem_cons_self ..
    have s1 : sSet 5 (mBin vIx (mVar 2) (mBin vIx (mVar 4) (mC (.int 0)))) [a0, a1, some (.ref B.length), some (lastV k last), some (vG H), e5, e6] (B ++ [.dct ((idxP o cs).map (kvP k))]) = some (.nx, [a0, a1, some (.ref B.length), some (lastV k last), some (vG H), some (fr k (idxO o (H.headD 0))), e6], B ++ [.dct ((idxP o cs).map (kvP k))]) := by
      refine set_ok ((bin_ok2 (v := vN (H.headD 0)) (var_ok rfl) ((bin_ok2 (var_ok rfl) rfl).trans ?_)).trans (ix_tab (hsub _ head)))
      cases H with
      | nil => exact absurd rfl hne
      | cons c H =>
        unfold vIx vdict dref vG
        dsimp only
        rw [show atI ((c :: H).map vN) 0 = some (vN c) by unfold atI ixN; simp]
        rfl
    have s2 : fLc [6] (iSeq (mVar 4)) (gNameM 6) tYesM (mBin vNe (mBin vIx (mVar 2) (mVar 6)) (mVar 5)) [a0, a1, some (.ref B.length), some (lastV k last), some (vG H), some (fr k (idxO o (H.headD 0))), e6] (B ++ [.dct ((idxP o cs).map (kvP k))]) = some (H.map (fun c => Val.bl (!decide (idxO o c = idxO o (H.headD 0)))), B ++ [.dct ((idxP o cs).map (kvP k))]) := by
      refine fLc_map (f := vN) (seq_tup (var_ok rfl)) (fun c hc => step1_yes (env1 := [a0, a1, some (.ref B.length), some (lastV k last), some (vG H), some (fr k (idxO o (H.headD 0))), some (vN c)]) rfl ((bin_ok2 ((bin_ok2 (var_ok rfl) (var_ok rfl)).trans (ix_tab (hsub c hc))) (var_ok rfl)).trans (vNe_fr hk (hidx c (hsub c hc)) (hidx _ (hsub _ head))))) (by omega)
    have s3 : mCall 2 f_is_before (aCons (mVar 3) (aCons (mVar 5) aNil)) [a0, a1, some (.ref B.length), some (lastV k last), some (vG H), some (fr k (idxO o (H.headD 0))), e6] (B ++ [.dct ((idxP o cs).map (kvP k))]) = some (.bl (befP last (idxO o (H.headD 0))), B ++ [.dct ((idxP o cs).map (kvP k))]) := by
      refine (call_ok2 (a_cons (var_ok rfl) (a_one (var_ok rfl))) rfl).trans ?_
      cases last with
      | none => exact before_0 ok hk (hidx _ (hsub _ head))
      | some j => exact before_fr ok hk (hl j rfl) (hidx _ (hsub _ head))
    have s4 : tOrM (tOf (mB bAny (aCons (mFz (fLc [6] (iSeq (mVar 4)) (gNameM 6) tYesM (mBin vNe (mBin vIx (mVar 2) (mVar 6)) (mVar 5)))) aNil))) (tNotM (tOf (mCall 2 f_is_before (aCons (mVar 3) (aCons (mVar 5) aNil))))) [a0, a1, some (.ref B.length), some (lastV k last), some (vG H), some (fr k (idxO o (H.headD 0))), e6] (B ++ [.dct ((idxP o cs).map (kvP k))]) = some ((H.any fun c => !decide (idxO o c = idxO o (H.headD 0))) || !befP last (idxO o (H.headD 0)), B ++ [.dct ((idxP o cs).map (kvP k))]) := by
      have q := tof_bl (any_fz s2)
      cases ha : (H.any fun c => !decide (idxO o c = idxO o (H.headD 0))) with
      | true =>
        rw [ha] at q
        exact tor_t q
      | false =>
        rw [ha] at q
        rw [Bool.false_or]
        exact tor_f q (tnot (tof_bl s3))
    rw [List.map_cons, forL]
    unfold fitL
    by_cases hb : ((H.any fun c => !decide (idxO o c = idxO o (H.headD 0))) || !befP last (idxO o (H.headD 0))) = true
    · rw [hb] at s4
      refine ⟨some (vG H), some (fr k (idxO o (H.headD 0))), e6, last, hl, ?_⟩
      have t : turnM (gNameM 4) bodyF (vG H) [a0, a1, some (.ref B.length), some (lastV k last), e4, e5, e6] (B ++ [.dct ((idxP o cs).map (kvP k))]) = some (.rt (.bl false), [a0, a1, some (.ref B.length), some (lastV k last), some (vG H), some (fr k (idxO o (H.headD 0))), e6], B ++ [.dct ((idxP o cs).map (kvP k))]) := by
        show sSeq _ _ [a0, a1, some (.ref B.length), some (lastV k last), some (vG H), e5, e6] _ = _
        exact (seq_nx s1).trans (seq_rt ((if_t s4).trans (ret_ok rfl)))
      rw [t, if_pos hb]
      rfl
    · have hb2 : ((H.any fun c => !decide (idxO o c = idxO o (H.headD 0))) || !befP last (idxO o (H.headD 0))) = false := by
        cases q : ((H.any fun c => !decide (idxO o c = idxO o (H.headD 0))) || !befP last (idxO o (H.headD 0))) with
        | true => exact absurd q hb
        | false => rfl
      rw [hb2] at s4
      obtain ⟨e4', e5', e6', last', hl', q⟩ := loopF h hk hidx Hs (some (idxO o (H.headD 0))) (some (vG H)) (some (fr k (idxO o (H.headD 0)))) e6 (fun x hx => hH x (List.mem_cons_of_mem _ hx)) (fun j hj => by cases hj; exact hidx _ (hsub _ head))
      refine ⟨e4', e5', e6', last', hl', ?_⟩
      have t : turnM (gNameM 4) bodyF (vG H) [a0, a1, some (.ref B.length), some (lastV k last), e4, e5, e6] (B ++ [.dct ((idxP o cs).map (kvP k))]) = some (.nx, [a0, a1, some (.ref B.length), some (lastV k (some (idxO o (H.headD 0)))), some (vG H), some (fr k (idxO o (H.headD 0))), e6], B ++ [.dct ((idxP o cs).map (kvP k))]) := by
        show sSeq _ _ [a0, a1, some (.ref B.length), some (lastV k last), some (vG H), e5, e6] _ = _
        exact (seq_nx s1).trans ((seq_nx ((if_f s4).trans rfl)).trans ((set_ok (var_ok rfl)).trans rfl))
      rw [t, if_neg hb]
      exact q
theorem do_fit {st : Sto} (h : StOk st) {k : Nat} (hk : k ≤ 4) {o o' : Odr} {cs : List Nat} (hn : cs.Nodup) (hidx : ∀ c ∈ cs, idxO o c < k) (ho : Ord o') (hsub : ∀ c ∈ o'.flatten, c ∈ cs) : f_do_values_fit [vO o', .tpl ((idxP o cs).map (vP k))] st = some (.bl (fitL (idxO o) none o'), st) := by
  have d1 : mB bDict (aCons (mVar 1) aNil) [some (vO o'), some (.tpl ((idxP o cs).map (vP k))), none, none, none, none, none] st = some (.ref st.length, st ++ [.dct ((idxP o cs).map (kvP k))]) := by
    refine (mB_ok (a_one (var_ok rfl))).trans ?_
    unfold bDict vpairsOf
    dsimp only
    rw [vpairs_P]
    dsimp only
    rw [show mergeV [] ((idxP o cs).map (kvP k)) = (idxP o cs).map (kvP k) from merge_P k (idxP o cs) [] (by
      rw [List.nil_append]
      unfold idxP
      rw [List.map_map]
      have e : ((fun x : Nat × Nat => x.1) ∘ fun c => (c, idxO o c)) = id := rfl
      rw [e, List.map_id]
      exact hn)]
  have s1 : sAsg (gTupM (gConsM (gNameM 2) (gConsM (gNameM 3) gNilM))) (mTup (aCons (mB bDict (aCons (mVar 1) aNil)) (aCons (mC (.tup [(.int 0), (.int 1)])) aNil))) [some (vO o'), some (.tpl ((idxP o cs).map (vP k))), none, none, none, none, none] st = some (.nx, [some (vO o'), some (.tpl ((idxP o cs).map (vP k))), some (.ref st.length), some (lastV k none), none, none, none], st ++ [.dct ((idxP o cs).map (kvP k))]) :=
    asg_ok (mtup_ok (a_cons d1 (a_one rfl)) (by simp)) rfl
  have ok : StOk (st ++ [.dct ((idxP o cs).map (kvP k))]) := h.add (obs_P _ _ _ _)
  obtain ⟨e4, e5, e6, last, hl, q⟩ := loopF h hk hidx (a0 := some (vO o')) (a1 := some (.tpl ((idxP o cs).map (vP k)))) o' none none none none (fun H hH => ⟨(ho.grp H hH).2, (ho.grp H hH).1.short, fun c hc => hsub c (List.mem_flatten.mpr ⟨H, hH, hc⟩)⟩) (fun j hj => by cases hj)
  have s2 : sFor (iSeq (mVar 0)) (gNameM 4) bodyF [some (vO o'), some (.tpl ((idxP o cs).map (vP k))), some (.ref st.length), some (lastV k none), none, none, none] (st ++ [.dct ((idxP o cs).map (kvP k))]) = some (if fitL (idxO o) none o' = true then .nx else .rt (.bl false), [some (vO o'), some (.tpl ((idxP o cs).map (vP k))), some (.ref st.length), some (lastV k last), e4, e5, e6], st ++ [.dct ((idxP o cs).map (kvP k))]) := by
    unfold sFor
    rw [show iSeq (mVar 0) _ _ = some (.vals (o'.map vG), st ++ [.dct ((idxP o cs).map (kvP k))]) from seq_tup (var_ok rfl)]
    exact q
  refine fn_cut (env := [some (vO o'), some (.tpl ((idxP o cs).map (vP k))), some (.ref st.length), some (lastV k last), e4, e5, e6]) (new := [.dct ((idxP o cs).map (kvP k))]) h ((seq_nx s1).trans ?_) rfl
  cases hf : fitL (idxO o) none o' with
  | true =>
    rw [hf, if_pos rfl] at s2
    refine (seq_nx s2).trans (ret_ok ((call_ok2 (a_cons (var_ok rfl) (a_one rfl)) rfl).trans ?_))
    cases last with
    | none => exact before_01 ok
    | some j => exact before_1 ok hk (hl j rfl)
  | false =>
    rw [hf, if_neg (by simp)] at s2
    exact seq_rt s2
theorem fit_ok {st : Sto} (h : StOk st) {cs : List Nat} (hc : Asc cs) (h4 : cs.length ≤ 4) {o o' : Odr} (ho : OP cs o) (ho' : OP cs o') : f_values_fit [vO o', .tpl ((idxP o cs).map (vP o.length))] st = some (.bl (decide (o' = o)), st) := by
  have hk : o.length ≤ 4 := by
    have := len_le_flat fun g hg => (ho.ord.grp g hg).2
    have := ho.pm.length_eq
    omega
  have hidx : ∀ c ∈ cs, idxO o c < o.length := fun c hc => idx_lt (ho.pm.mem_iff.mpr hc)
  have s1 : sEx (mCall 1 f_check_order (aCons (mVar 0) aNil)) [some (vO o'), some (.tpl ((idxP o cs).map (vP o.length))), none, none, none] st = some (.nx, [some (vO o'), some (.tpl ((idxP o cs).map (vP o.length))), none, none, none], st) := ex_ok ((call_ok2 (a_one (var_ok rfl)) rfl).trans (chk_order h ho'.ord))
  have e1 : mCall 3 f_is_tuple (aCons (mVar 1) (aCons (mC (.int 0)) (aCons (mBin vAdd (mC (.int 9)) (mC (.int 1))) aNil))) [some (vO o'), some (.tpl ((idxP o cs).map (vP o.length))), none, none, none] st = some (.bl true, st) := by
    refine (call_ok2 (a_cons (var_ok rfl) (a_cons rfl (a_one (v := .int 10) rfl))) rfl).trans ((is_tuple_okP h _ 0 10).trans ?_)
    have hz : (((idxP o cs).map (vP o.length)).length : Int) ≤ 10 := by unfold idxP; rw [List.length_map, List.length_map]; omega
    rw [decide_eq_true hz, decide_eq_true (by omega)]
    rfl
  have e2 : fLc [2] (iSeq (mVar 1)) (gNameM 2) tYesM (mCall 1 f_is_value (aCons (mVar 2) aNil)) [some (vO o'), some (.tpl ((idxP o cs).map (vP o.length))), none, none, none] st = some ((idxP o cs).map (fun _ => Val.bl true), st) := by
    refine fLc_map (f := vP o.length) rfl (fun p hp => step1_yes (env1 := [some (vO o'), some (.tpl ((idxP o cs).map (vP o.length))), some (vP o.length p), none, none]) rfl ((call_ok2 (a_one (var_ok rfl)) rfl).trans ?_)) (by unfold idxP; rw [List.length_map]; omega)
    unfold idxP at hp
    obtain ⟨c, hcc, rfl⟩ := List.mem_map.mp hp
    exact value_ok h (hidx c hcc) hk (hc.sm c hcc)
  have e3 : mB bAll (aCons (mFz (fLc [2] (iSeq (mVar 1)) (gNameM 2) tYesM (mCall 1 f_is_value (aCons (mVar 2) aNil)))) aNil) [some (vO o'), some (.tpl ((idxP o cs).map (vP o.length))), none, none, none] st = some (.bl true, st) := by
    rw [all_fz e2]
    simp
  have e4 : fLc [3, 4] (iSeq (mVar 1)) (gTupM (gConsM (gNameM 3) (gConsM (gNameM 4) gNilM))) tYesM (mVar 3) [some (vO o'), some (.tpl ((idxP o cs).map (vP o.length))), none, none, none] st = some ((idxP o cs).map (fun p => vN p.1), st) := by
    refine fLc_map (f := vP o.length) rfl (fun p hp => step1_yes (env1 := [some (vO o'), some (.tpl ((idxP o cs).map (vP o.length))), none, some (vN p.1), some (fr o.length p.2)]) rfl (var_ok rfl)) (by unfold idxP; rw [List.length_map]; omega)
  have e5 : mBin vNe (mB bTuple (aCons (mFz (fLc [3, 4] (iSeq (mVar 1)) (gTupM (gConsM (gNameM 3) (gConsM (gNameM 4) gNilM))) tYesM (mVar 3))) aNil)) (mCall 1 f_young_of (aCons (mVar 0) aNil)) [some (vO o'), some (.tpl ((idxP o cs).map (vP o.length))), none, none, none] st = some (.bl false, st) := by
    have hy : sortN o'.flatten = cs := sortN_eq ho'.pm hc.lt
    have hl : o'.flatten.length ≤ 1000000 := by have := ho'.ord.short; omega
    have q := young_of_ok h hl
    rw [hy] at q
    refine (bin_ok2 (u := vG cs) ((mB_ok (a_one (mfz_ok e4))).trans ?_) ((call_ok2 (a_one (var_ok rfl)) rfl).trans q)).trans ((vNe_G cs cs st).trans (by simp))
    unfold bTuple vseq dref vG idxP
    dsimp only
    rw [List.map_map]
    rfl
  have s4 := do_fit (k := o.length) h hk (o := o) (o' := o') (cs := cs) hc.nodup hidx ho'.ord (fun c hcc => ho'.pm.mem_iff.mp hcc)
  rw [fit_eq o o' 0 none ho.ord ho'.ord (fun c => ⟨fun q => ho'.pm.mem_iff.mpr (ho.pm.mem_iff.mp q), fun q => ho.pm.mem_iff.mpr (ho'.pm.mem_iff.mp q)⟩) (fun c _ => by omega) (fun j hj => by cases hj)] at s4
  exact fn_rt h ((seq_nx s1).trans ((seq_nx ((if_f (tor_f (tnot (tof_bl e1)) (tnot (tof_bl e3)))).trans rfl)).trans ((seq_nx ((if_f (tof_bl e5)).trans rfl)).trans (ret_ok ((call_ok2 (a_cons (var_ok rfl) (a_one (var_ok rfl))) rfl).trans s4))))) rfl
end K83

-- part M17
set_option Elab.async false
set_option linter.all false
set_option maxRecDepth 100000
set_option maxHeartbeats 1000000
namespace K83
open PySem PySem.Spec L2 Sh
/-- a list of things that stand for things of K, each once -/
theorem of_map {α : Type} {f : α → Val} (hf : ∀ a b, f a = f b → a = b) : ∀ {l : List Val} {K : List α}, (∀ v ∈ l, ∃ a ∈ K, f a = v) → l.Nodup → ∃ l' : List α, l = l'.map f ∧ l'.Nodup ∧ ∀ a ∈ l', a ∈ K
  | [], K, _, _ => ⟨[], rfl, by simp, by simp⟩
  | v :: l, K, h, hn => by
    obtain ⟨a, ha, rfl⟩ := h v (List.mem_cons_self ..)
    rw [List.nodup_cons] at hn
    obtain ⟨l', h1, h2, h3⟩ := of_map hf (l := l) (K := K) (fun x hx => h x (List.mem_cons_of_mem _ hx)) hn.2
    refine ⟨a :: l', by rw [h1]; rfl, ?_, ?_⟩
    · rw [List.nodup_cons]
      refine ⟨fun q => hn.1 (h1 ▸ List.mem_map.mpr ⟨a, q, rfl⟩), h2⟩
    · intro x hx
      rcases List.mem_cons.mp hx with rfl | hx
      · exact ha
      · exact h3 x hx
theorem chosen_of {α : Type} {f : α → Val} (hf : ∀ a b, f a = f b → a = b) {ch re : List Val} {K : List α} (hK : K.Nodup) (h : (ch ++ re).Perm (K.map f)) : ∃ l : List α, ch = l.map f ∧ l.Nodup ∧ ∀ a ∈ l, a ∈ K := by
  have hn : (K.map f).Nodup := List.Pairwise.map f (fun a b h e => h (hf a b e)) hK
  have hn2 := h.nodup_iff.mpr hn
  rw [List.nodup_append] at hn2
  refine of_map hf (fun v hv => ?_) hn2.1
  have := h.mem_iff.mp (List.mem_append_left _ hv)
  obtain ⟨a, h1, h2⟩ := List.mem_map.mp this
  exact ⟨a, h1, h2⟩
theorem vN_inj (a b : Nat) (h : vN a = vN b) : a = b := by
  unfold vN at h
  injection h with h
  omega
theorem vG_inj (a b : List Nat) (h : vG a = vG b) : a = b := by
  have := veq_G a b
  rw [h, veq_G, decide_eq_true rfl] at this
  exact of_decide_eq_true this.symm
theorem vO_inj (a b : Odr) (h : vO a = vO b) : a = b := by
  have := veq_O a b
  rw [h, veq_O, decide_eq_true rfl] at this
  exact of_decide_eq_true this.symm
/-! the last loop -/
abbrev bodyZ : MS := sSeq (sSet 13 (mCall 1 f_some_values (aCons (mVar 8) aNil))) (sIf (tOrM (tOf (mBin vIsNot (mCall 1 f_is_order (aCons (mVar 8) aNil)) (mC (.bl true)))) (tOf (mBin vNe (mFz (fLc [15] (iSeq (mVar 12)) (gNameM 15) (tOf (mCall 2 f_values_fit (aCons (mVar 15) (aCons (mVar 13) aNil)))) (mVar 15))) (mFz (fLst (aCons (mVar 8) aNil)))))) (sRet (mC (.bl false))) sNext)
open Classical in
theorem flatMap_if_map (p : Odr → Bool) : ∀ ch : List Odr, (ch.map vO).flatMap (fun v => if (∃ x, vO x = v ∧ p x = true) then [v] else []) = (ch.filter p).map vO := by
  intro ch
  induction ch with
  | nil => rfl
  | cons x ch ih =>
    rw [List.map_cons, List.flatMap_cons, ih, List.filter_cons]
    by_cases h : p x = true
    · rw [if_pos ⟨x, rfl, h⟩, if_pos h]
      rfl
    · rw [if_neg (by rintro ⟨y, h1, h2⟩; rw [vO_inj _ _ h1] at h2; exact h h2), if_neg h]
      rfl
theorem filter_eq {α : Type} [DecidableEq α] {a : α} : ∀ {l : List α}, l.Nodup → a ∈ l → l.filter (fun x => decide (x = a)) = [a]
  | [], _, h => by cases h
  | x :: l, hn, h => by
    rw [List.nodup_cons] at hn
    rw [List.filter_cons]
    by_cases e : x = a
    · subst e
      rw [if_pos (decide_eq_true rfl)]
      have : l.filter (fun y => decide (y = x)) = [] := by
        rw [List.filter_eq_nil_iff]
        intro y hy q
        exact hn.1 (of_decide_eq_true q ▸ hy)
      rw [this]
    · rw [if_neg (by simp [e])]
      refine filter_eq hn.2 ?_
      rcases List.mem_cons.mp h with q | q
      · exact absurd q.symm e
      · exact q
section
variable {S : Sto} {cs : List Nat} {k : Nat} {b0 b1 b2 b3 b4 b5 b6 b7 b9 b10 b11 b14 b15 : Option Val}
theorem turnZ (h : StOk S) (hc : Asc cs) (h4 : cs.length ≤ 4) {ch : List Odr} (hk : S[k]? = some (.lst (ch.map vO))) (hn : ch.Nodup) (hop : ∀ o ∈ ch, OP cs o) (hl : ch.length ≤ 1000) {o : Odr} (ho : o ∈ ch) {e8 e13 : Option Val} :
    turnM (gNameM 8) bodyZ (vO o) [b0, b1, b2, b3, b4, b5, b6, b7, e8, b9, b10, b11, some (.ref k), e13, b14, b15] S = some (.nx, [b0, b1, b2, b3, b4, b5, b6, b7, some (vO o), b9, b10, b11, some (.ref k), some (.tpl ((idxP o cs).map (vP o.length))), b14, b15], S) := by
  have op := hop o ho
  have hok : o.length ≤ 4 := by
    have := len_le_flat fun g hg => (op.ord.grp g hg).2
    have := op.pm.length_eq
    omega
  have hy : sortN o.flatten = cs := sortN_eq op.pm hc.lt
  have v1 := values_ok h op.ord hok
  rw [hy] at v1
  have s1 : sSet 13 (mCall 1 f_some_values (aCons (mVar 8) aNil)) [b0, b1, b2, b3, b4, b5, b6, b7, some (vO o), b9, b10, b11, some (.ref k), e13, b14, b15] S = some (.nx, [b0, b1, b2, b3, b4, b5, b6, b7, some (vO o), b9, b10, b11, some (.ref k), some (.tpl ((idxP o cs).map (vP o.length))), b14, b15], S) :=
    set_ok ((call_ok2 (a_one (var_ok rfl)) rfl).trans v1)
  have t1 : tOf (mBin vIsNot (mCall 1 f_is_order (aCons (mVar 8) aNil)) (mC (.bl true))) [b0, b1, b2, b3, b4, b5, b6, b7, some (vO o), b9, b10, b11, some (.ref k), some (.tpl ((idxP o cs).map (vP o.length))), b14, b15] S = some (false, S) :=
    tof_bl ((bin_ok2 ((call_ok2 (a_one (var_ok rfl)) rfl).trans (order_ok h op.ord)) rfl).trans rfl)
  classical
  have c1 : fLc [15] (iSeq (mVar 12)) (gNameM 15) (tOf (mCall 2 f_values_fit (aCons (mVar 15) (aCons (mVar 13) aNil)))) (mVar 15) [b0, b1, b2, b3, b4, b5, b6, b7, some (vO o), b9, b10, b11, some (.ref k), some (.tpl ((idxP o cs).map (vP o.length))), b14, b15] S = some ((ch.map vO).flatMap (fun v => if (∃ x, vO x = v ∧ decide (x = o) = true) then [v] else []), S) := by
    refine fLc_live (h := fun v => if (∃ x, vO x = v ∧ decide (x = o) = true) then [v] else []) (seq_live (var_ok rfl) hk) hk (by rw [List.length_map]; omega) (fun v hv => ?_) ?_
    · obtain ⟨x, hx, rfl⟩ := List.mem_map.mp hv
      have q := step1_if (g := gNameM 15) (t := tOf (mCall 2 f_values_fit (aCons (mVar 15) (aCons (mVar 13) aNil)))) (m := mVar 15) (env0 := wipeE [b0, b1, b2, b3, b4, b5, b6, b7, some (vO o), b9, b10, b11, some (.ref k), some (.tpl ((idxP o cs).map (vP o.length))), b14, b15] [15]) (env1 := [b0, b1, b2, b3, b4, b5, b6, b7, some (vO o), b9, b10, b11, some (.ref k), some (.tpl ((idxP o cs).map (vP o.length))), b14, some (vO x)]) (x := vO x) (v := vO x) (st := S) (st1 := S) (st2 := S) (b := decide (x = o)) rfl (tof_bl ((call_ok2 (a_cons (var_ok rfl) (a_one (var_ok rfl))) rfl).trans (fit_ok h hc h4 op (hop x hx)))) fun _ => var_ok rfl
      rw [q]
      by_cases e : decide (x = o) = true
      · rw [if_pos e, if_pos ⟨x, rfl, e⟩]
      · rw [if_neg e, if_neg (by rintro ⟨y, h1, h2⟩; rw [vO_inj _ _ h1] at h2; exact e h2)]
    · rw [flatMap_if_map fun x => decide (x = o), filter_eq hn ho]
      simp
  rw [flatMap_if_map fun x => decide (x = o), filter_eq hn ho] at c1
  have t2 : tOf (mBin vNe (mFz (fLc [15] (iSeq (mVar 12)) (gNameM 15) (tOf (mCall 2 f_values_fit (aCons (mVar 15) (aCons (mVar 13) aNil)))) (mVar 15))) (mFz (fLst (aCons (mVar 8) aNil)))) [b0, b1, b2, b3, b4, b5, b6, b7, some (vO o), b9, b10, b11, some (.ref k), some (.tpl ((idxP o cs).map (vP o.length))), b14, b15] S = some (false, S) := by
    refine tof_bl ((bin_ok2 (mfz_ok c1) (mfz_ok (flst_ok (a_one (var_ok rfl)) (by simp)))).trans ?_)
    have hf : vflat 64 (.lst [vO o]) = true := by
      rw [vflat, vflats, vflat_O]
      rfl
    unfold vNe
    rw [show dref S (.lst ([o].map vO)) = .lst [vO o] from rfl, show dref S (.lst [vO o]) = .lst [vO o] from rfl, hf, if_pos (show (true && true) = true from rfl), veq, veqs, veqs, veq_O]
    simp
  show sSeq _ _ [b0, b1, b2, b3, b4, b5, b6, b7, some (vO o), b9, b10, b11, some (.ref k), e13, b14, b15] S = _
  exact (seq_nx s1).trans ((if_f (tor_f t1 t2)).trans rfl)
theorem loopZ (h : StOk S) (hc : Asc cs) (h4 : cs.length ≤ 4) {ch : List Odr} (hk : S[k]? = some (.lst (ch.map vO))) (hn : ch.Nodup) (hop : ∀ o ∈ ch, OP cs o) (hl : ch.length ≤ 1000) : ∀ (n i : Nat) (e8 e13 : Option Val), ch.length - i < n → ∃ e8' e13', forV (gNameM 8) bodyZ k n i [b0, b1, b2, b3, b4, b5, b6, b7, e8, b9, b10, b11, some (.ref k), e13, b14, b15] S = some (.nx, [b0, b1, b2, b3, b4, b5, b6, b7, e8', b9, b10, b11, some (.ref k), e13', b14, b15], S)
  | 0, i, e8, e13, hi => absurd hi (Nat.not_lt_zero _)
  | n + 1, i, e8, e13, hi => by
    rw [forV, hk]
    dsimp only
    by_cases hlt : i < ch.length
    · rw [List.getElem?_map, List.getElem?_eq_getElem hlt]
      dsimp only [Option.map_some]
      rw [turnZ h hc h4 hk hn hop hl (List.getElem_mem hlt)]
      dsimp only
      exact loopZ h hc h4 hk hn hop hl n (i + 1) _ _ (by omega)
    · rw [List.getElem?_map, List.getElem?_eq_none (by omega)]
      exact ⟨e8, e13, rfl⟩
end
/-! the pot -/
theorem ints_sum : ∀ l : List Int, vints (l.map Val.int) = some l
  | [] => rfl
  | x :: l => by rw [List.map_cons, vints, ints_sum l]; rfl
theorem pot_ok {st : Sto} {ns : List Int} {p : Nat} (hp : p ≤ 1) (hlt : p < ns.length ∨ (ns = [] ∧ p = 0)) : ∃ a b : Int, f__law_pot [.sc (ns.map .int), .int p] st = some (.ref st.length, st ++ [.lst [.int a, .int b, .int 0]]) ∧ 0 ≤ b ∧ b < 2 ^ 61 := by
  have l1 : mB bLen (aCons (mVar 0) aNil) [some (.sc (ns.map .int)), some (.int p), none, none, none] st = some (.int (ns.length : Nat), st) := by
    refine (mB_ok (a_one (var_ok rfl))).trans ?_
    unfold bLen vdict dref
    dsimp only
    rw [List.length_map]
  have t1 : tOf (mBin vLt (mVar 1) (mB bLen (aCons (mVar 0) aNil))) [some (.sc (ns.map .int)), some (.int p), none, none, none] st = some (decide ((p : Int) < (ns.length : Nat)), st) := tof_bl ((bin_ok2 (var_ok rfl) l1).trans rfl)
  obtain ⟨cell, s1⟩ : ∃ cell : Int, sSet 2 (mIf (tOf (mBin vLt (mVar 1) (mB bLen (aCons (mVar 0) aNil)))) (mBin vIx (mVar 0) (mVar 1)) (mBin vAdd (mBin vAdd (mBin vMod (mB bSum (aCons (mSl (mVar 0) oNone (oSome (mC (.int 1)))) aNil)) (mC (.int 1000003))) (mBin vMulI (mC (.int 5171)) (mVar 1))) (mC (.int 613)))) [some (.sc (ns.map .int)), some (.int p), none, none, none] st = some (.nx, [some (.sc (ns.map .int)), some (.int p), some (.int cell), none, none], st) := by
    by_cases hq : p < ns.length
    · rw [decide_eq_true (by omega)] at t1
      refine ⟨ns[p], (set_ok (v := .int ns[p]) ((if_ok_t t1).trans ((bin_ok2 (var_ok rfl) (var_ok rfl)).trans ?_))).trans rfl⟩
      have : atI (ns.map Val.int) (p : Int) = some (.int ns[p]) := by
        unfold atI ixN
        rw [if_pos (by omega), if_pos (by rw [List.length_map]; omega)]
        show (ns.map Val.int)[(p : Int).toNat]? = _
        rw [show (p : Int).toNat = p from rfl, List.getElem?_map, List.getElem?_eq_getElem hq]
        rfl
      unfold vIx vdict dref
      dsimp only
      rw [this]
    · rw [decide_eq_false (by omega)] at t1
      rcases hlt with h | ⟨rfl, rfl⟩
      · exact absurd h hq
      · refine ⟨613, (set_ok (v := .int 613) ((if_ok_f t1).trans ?_)).trans rfl⟩
        have e1 : mSl (mVar 0) oNone (oSome (mC (.int 1))) [some (.sc (([] : List Int).map .int)), some (.int ((0 : Nat) : Int)), none, none, none] st = some (.lst [], st) := by
          unfold mSl mBind
          rw [show mVar 0 [some (.sc (([] : List Int).map .int)), some (.int ((0 : Nat) : Int)), none, none, none] st = some (.sc [], st) from rfl]
          dsimp only
          unfold oNone oSome mBind mC vSl dref vcut
          simp
        refine (bin_ok2 (u := .int 0) ((bin_ok2 (u := .int 0) (v := .int 0) ((bin_ok2 ((mB_ok (a_one e1)).trans rfl) rfl).trans (mod_ok (by decide))) ((bin_ok2 rfl (var_ok rfl)).trans (mul_ok 20 20 (by decide) (by decide) (by decide)))).trans rfl) rfl).trans rfl
  have ab : mB bAbs (aCons (mVar 2) aNil) [some (.sc (ns.map .int)), some (.int p), some (.int cell), none, none] st = some (.int (absI cell), st) := (mB_ok (a_one (var_ok rfl))).trans rfl
  have p1 : mBin vPow (mBin vPow (mC (.int 10)) (mC (.int 60))) (mC (.int 5)) [some (.sc (ns.map .int)), some (.int p), some (.int cell), none, none] st = some (.int (((10 : Int) ^ (60 : Int).toNat) ^ (5 : Int).toNat), st) :=
    (bin_ok2 ((bin_ok2 rfl rfl).trans (pow_ok (by decide) 4 (by decide) (by decide) (by decide))) rfl).trans (pow_ok (by decide) 200 (by decide +kernel) (by decide) (by decide))
  have p2 : mBin vPow (mC (.int 10)) (mC (.int 18)) [some (.sc (ns.map .int)), some (.int p), some (.int cell), none, none] st = some (.int ((10 : Int) ^ (18 : Int).toNat), st) := (bin_ok2 rfl rfl).trans (pow_ok (by decide) 4 (by decide) (by decide) (by decide))
  have hP : (0 : Int) < ((10 : Int) ^ (60 : Int).toNat) ^ (5 : Int).toNat := by decide +kernel
  have hP2 : ((10 : Int) ^ (60 : Int).toNat) ^ (5 : Int).toNat < 2 ^ 1000 := by decide +kernel
  generalize ((10 : Int) ^ (60 : Int).toNat) ^ (5 : Int).toNat = P at p1 hP hP2
  have g1 : mB bInt (aCons (mBin vGe (mB bAbs (aCons (mVar 2) aNil)) (mBin vPow (mC (.int 10)) (mC (.int 18)))) aNil) [some (.sc (ns.map .int)), some (.int p), some (.int cell), none, none] st = some (.int (if decide ((10 : Int) ^ (18 : Int).toNat ≤ absI cell) then 1 else 0), st) := (mB_ok (a_one ((bin_ok2 ab p2).trans rfl))).trans rfl
  have hx0 := Int.emod_nonneg (absI cell) (show P ≠ 0 by omega)
  have hx1 := Int.emod_lt_of_pos (absI cell) hP
  have s2 : ∃ own : Int, sSet 3 (mBin vMulI (mBin vMod (mB bInt (aCons (mB bAbs (aCons (mVar 2) aNil)) aNil)) (mBin vPow (mBin vPow (mC (.int 10)) (mC (.int 60))) (mC (.int 5)))) (mB bInt (aCons (mBin vGe (mB bAbs (aCons (mVar 2) aNil)) (mBin vPow (mC (.int 10)) (mC (.int 18)))) aNil))) [some (.sc (ns.map .int)), some (.int p), some (.int cell), none, none] st = some (.nx, [some (.sc (ns.map .int)), some (.int p), some (.int cell), some (.int own), none], st) := by
    refine ⟨absI cell % P * (if decide ((10 : Int) ^ (18 : Int).toNat ≤ absI cell) then 1 else 0), (set_ok ((bin_ok2 ((bin_ok2 ((mB_ok (a_one ab)).trans rfl) p1).trans (mod_ok hP)) g1).trans (mul_ok 1000 20 (nat_lt_pow (by omega) (by omega)) ?_ (by omega)))).trans rfl⟩
    split <;> decide
  obtain ⟨own, s2⟩ := s2
  have s3 : sSet 4 (mBin vMod (mB bInt (aCons (mVar 2) aNil)) (mC (.int 2305843009213693951))) [some (.sc (ns.map .int)), some (.int p), some (.int cell), some (.int own), none] st = some (.nx, [some (.sc (ns.map .int)), some (.int p), some (.int cell), some (.int own), some (.int (cell % 2305843009213693951))], st) :=
    set_ok ((bin_ok2 ((mB_ok (a_one (var_ok rfl))).trans rfl) rfl).trans (mod_ok (by decide)))
  have hm0 := Int.emod_nonneg cell (show (2305843009213693951 : Int) ≠ 0 by decide)
  have hm1 := Int.emod_lt_of_pos cell (show (0 : Int) < 2305843009213693951 by decide)
  generalize cell % 2305843009213693951 = sm at s3 hm0 hm1
  have b1 : mBin vMod (mB bInt (aCons (mBin vAdd (mBin vAdd (mBin vMulI (mVar 4) (mC (.int 81703))) (mBin vMulI (mBin vMulI (mC (.int 7919)) (mVar 1)) (mVar 1))) (mC (.int 1013))) aNil)) (mC (.int 2305843009213693921)) [some (.sc (ns.map .int)), some (.int p), some (.int cell), some (.int own), some (.int sm)] st = some (.int ((sm * 81703 + 7919 * p * p + 1013) % 2305843009213693921), st) :=
    (bin_ok2 ((mB_ok (a_one ((bin_ok2 ((bin_ok2 ((bin_ok2 (var_ok rfl) rfl).trans (mul_ok 62 20 (by omega) (by decide) (by omega))) ((bin_ok2 ((bin_ok2 rfl (var_ok rfl)).trans (mul_ok 20 20 (by decide) (by omega) (by omega))) (var_ok rfl)).trans (mul_ok 40 20 (by omega) (by omega) (by omega)))).trans rfl) rfl).trans rfl))).trans rfl) rfl).trans (mod_ok (by decide))
  refine ⟨own, _, (mkFn_rt ((seq_nx s1).trans ((seq_nx s2).trans ((seq_nx s3).trans (ret_ok (mnew_ok (flst_ok (a_cons (var_ok rfl) (a_cons b1 (a_one rfl))) (by simp)))))))).trans rfl, Int.emod_nonneg _ (by decide), ?_⟩
  have := Int.emod_lt_of_pos (sm * 81703 + 7919 * p * p + 1013) (show (0 : Int) < 2305843009213693921 by decide)
  omega
theorem places_ok {st : Sto} (h : StOk st) (ns : List Int) (hl : ns.length ≤ 63) : ∃ n : Nat, f__law_places [.sc (ns.map .int), .int 2] st = some (.lst ((List.range n).map vN), st) ∧ n ≤ 2 ∧ (n ≤ ns.length ∨ (ns = [] ∧ n = 1)) := by
  have l1 : mB bLen (aCons (mVar 0) aNil) [some (.sc (ns.map .int)), some (.int 2)] st = some (.int (ns.length : Nat), st) := by
    refine (mB_ok (a_one (var_ok rfl))).trans ?_
    unfold bLen vdict dref
    dsimp only
    rw [List.length_map]
  have key : ∀ n : Nat, maxI 1 (minI 2 (ns.length : Nat)) = (n : Int) → n ≤ 2 → f__law_places [.sc (ns.map .int), .int 2] st = some (.lst ((List.range n).map vN), st) := by
    intro n hn hn2
    have e1 : mB bMax2 (aCons (mC (.int 1)) (aCons (mB bMin2 (aCons (mVar 1) (aCons (mB bLen (aCons (mVar 0) aNil)) aNil))) aNil)) [some (.sc (ns.map .int)), some (.int 2)] st = some (.int n, st) := by
      refine (mB_ok (a_cons rfl (a_one ((mB_ok (a_cons (var_ok rfl) (a_one l1))).trans rfl)))).trans ?_
      unfold bMax2
      dsimp only
      rw [hn]
    have e2 : fRg1 (mB bMax2 (aCons (mC (.int 1)) (aCons (mB bMin2 (aCons (mVar 1) (aCons (mB bLen (aCons (mVar 0) aNil)) aNil))) aNil))) [some (.sc (ns.map .int)), some (.int 2)] st = some ((List.range n).map vN, st) := by
      unfold fRg1 mBind
      rw [e1]
      dsimp only
      rw [if_pos (show rgFit 0 n = true from decide_eq_true (by omega))]
      have : rgVals 0 (n : Int).toNat = (List.range n).map vN := by
        unfold rgVals vN
        simp
      rw [this]
    refine fn_rt h (ret_ok (mfz_ok e2)) ?_
    rw [vbelow]
    exact vbelows_map (fun a => rfl) _
  by_cases h0 : ns = []
  · subst h0
    exact ⟨1, key 1 (by decide) (by decide), by decide, .inr ⟨rfl, rfl⟩⟩
  · have hpos : 0 < ns.length := List.length_pos_iff.mpr h0
    by_cases h1 : ns.length = 1
    · exact ⟨1, key 1 (by rw [h1]; decide) (by decide), by decide, .inl (by omega)⟩
    · refine ⟨2, key 2 ?_ (by decide), by decide, .inl (by omega)⟩
      have e : minI 2 ((ns.length : Nat) : Int) = 2 := by
        unfold minI
        rw [if_neg (by omega)]
      rw [e]
      decide
end K83

-- part M18
set_option Elab.async false
set_option linter.all false
set_option maxRecDepth 100000
set_option maxHeartbeats 1000000
namespace K83
open PySem PySem.Spec L2 Sh
theorem ranks_ok {st : Sto} (h : StOk st) {n : Nat} (hn : n = 3 ∨ n = 4) : f__law_ranks [.int n] st = some (.int (nOrd n), st) := by
  rcases hn with rfl | rfl
  · exact ranks3 h
  · exact ranks4 h
theorem rg10 (st : Sto) (env : Sh.Env) : mFz (fRg1 (mC (.int 10))) env st = some (.lst ((List.range 10).map vN), st) := by
  have : rgVals 0 10 = (List.range 10).map vN := by
    unfold rgVals vN
    simp
  unfold mFz fRg1 mC mBind
  dsimp only
  rw [if_pos (show rgFit 0 10 = true by decide)]
  show some (Val.lst (rgVals 0 10), st) = _
  rw [this]
theorem right_ok {st : Sto} (h : StOk st) {k : Nat} (hp : Pot st k 0) : ∃ st', f__law_right [.ref k] st = some (.bl true, st') ∧ StOk st' := by
  -- how many clocks
  obtain ⟨d, x, y, z, t1, t2, t3, t4, t5, t6, t7⟩ := take_ok (m := 2) h hp (by omega) (by omega) (by omega)
  have hkl := hp.lt
  obtain ⟨M, hM, hM2⟩ : ∃ M : Nat, (3 + d = (M : Int)) ∧ (M = 3 ∨ M = 4) := ⟨(3 + d).toNat, by omega, by omega⟩
  generalize hS1 : st.set k (.lst [.int x, .int y, .int z]) = st1 at t1
  have h1 : StOk st1 := hS1 ▸ h.set rfl
  have l1 : st1.length = st.length := by rw [← hS1, List.length_set]
  have p1 : Pot st1 k 1 := ⟨x, y, z, by rw [← hS1]; exact List.getElem?_set_self hkl, t4, t5, t6, by omega⟩
  have s1 : sSet 1 (mBin vAdd (mC (.int 3)) (mB bInt (aCons (mCall 2 f__law_take (aCons (mVar 0) (aCons (mC (.int 2)) aNil))) aNil))) [some (.ref k), none, none, none, none, none, none, none, none, none, none, none, none, none, none, none] st = some (.nx, [some (.ref k), some (.int M), none, none, none, none, none, none, none, none, none, none, none, none, none, none], st1) := by
    refine (set_ok (v := .int M) ((bin_ok2 rfl ((mB_ok (a_one ((call_ok2 (a_cons (var_ok rfl) (a_one rfl)) rfl).trans t1))).trans rfl)).trans ?_)).trans rfl
    rw [← hM]
    rfl
  -- the clocks
  obtain ⟨B, chV, reV, u1, u2, u3, u4⟩ := some_ok (pool := .lst ((List.range 10).map vN)) (xs := (List.range 10).map vN) (m := M) h1 p1 rfl (fun v hv => by obtain ⟨a, _, rfl⟩ := List.mem_map.mp hv; rfl) (by simp) (by omega) (by omega) (by omega)
  obtain ⟨ch, rfl, ch1, ch2⟩ := chosen_of vN_inj List.nodup_range u3
  have chl : ch.length = M := by
    rw [List.length_map, List.length_map, List.length_range] at u4
    omega
  have hcs : Asc (sortN ch) := ⟨sortN_lt ch1, fun n hn => by have := List.mem_range.mp (ch2 n ((sortN_perm ch).mem_iff.mp hn)); omega⟩
  have hcl : (sortN ch).length = M := by rw [sortN_len, chl]
  have s2 : sSet 2 (mFz (fB (bOr bSorted bSortedD) (aCons (mCall 3 f__law_some (aCons (mVar 0) (aCons (mFz (fRg1 (mC (.int 10)))) (aCons (mVar 1) aNil)))) aNil))) [some (.ref k), some (.int M), none, none, none, none, none, none, none, none, none, none, none, none, none, none] st1 = some (.nx, [some (.ref k), some (.int M), some (.lst ((sortN ch).map vN)), none, none, none, none, none, none, none, none, none, none, none, none, none], B) := by
    refine (set_ok (mfz_ok (fB_ok (ys := (sortN ch).map vN) (a_one ((call_ok2 (a_cons (var_ok rfl) (a_cons (rg10 _ _) (a_one (var_ok rfl)))) rfl).trans u1)) ?_))).trans rfl
    unfold bOr bSorted vlist dref
    dsimp only
    rw [u2.f]
    dsimp only
    rw [if_pos (sortOk_of (f := vN) (by omega) (fun a => vflat_N a 60) (fun a b => rfl) (.inr fun a => rfl)), vsort_N]
  generalize sortN ch = cs at s2 hcs hcl
  have hB := u2.ok
  have hBl := u2.len
  have hBk : k < B.length := by have := u2.kL; omega
  have hn34 : cs.length = 3 ∨ cs.length = 4 := by omega
  have hcne : cs ≠ [] := by intro q; subst q; simp at hn34
  have ofirst : OP cs [cs] := ⟨⟨fun g hg => by rw [List.mem_singleton] at hg; exact hg ▸ ⟨hcs, hcne⟩, by simpa using hcs.nodup⟩, by simp⟩
  have s3 : sPar 3 4 (aCons (mTup (aCons (mB bTuple (aCons (mVar 2) aNil)) aNil)) (aCons (mCall 1 f__law_lots (aCons (mVar 2) aNil)) aNil)) [some (.ref k), some (.int M), some (.lst (cs.map vN)), none, none, none, none, none, none, none, none, none, none, none, none, none] B = some (.nx, [some (.ref k), some (.int M), some (.lst (cs.map vN)), some (vO [cs]), some (.lst ((lotsF [[]] cs).map vG)), none, none, none, none, none, none, none, none, none, none, none], B) := by
    have q : aCons (mTup (aCons (mB bTuple (aCons (mVar 2) aNil)) aNil)) (aCons (mCall 1 f__law_lots (aCons (mVar 2) aNil)) aNil) [some (.ref k), some (.int M), some (.lst (cs.map vN)), none, none, none, none, none, none, none, none, none, none, none, none, none] B = some ([vO [cs], .lst ((lotsF [[]] cs).map vG)], B) :=
      a_cons (mtup_ok (a_one ((mB_ok (a_one (var_ok rfl))).trans tuple_lst)) (by simp)) (a_one ((call_ok2 (a_one (var_ok rfl)) rfl).trans (lots_ok hB (by omega))))
    unfold sPar
    rw [q]
    rfl
  have s4 : sPar 5 6 (aCons (mD1 (mVar 3) (mC (.bl true))) (aCons (mNew (fLst (aCons (mVar 3) aNil))) aNil)) [some (.ref k), some (.int M), some (.lst (cs.map vN)), some (vO [cs]), some (.lst ((lotsF [[]] cs).map vG)), none, none, none, none, none, none, none, none, none, none, none] B = some (.nx, [some (.ref k), some (.int M), some (.lst (cs.map vN)), some (vO [cs]), some (.lst ((lotsF [[]] cs).map vG)), some (.ref B.length), some (.ref (B.length + 1)), none, none, none, none, none, none, none, none, none], SS B [[cs]] [[cs]]) := by
    have q1 : mD1 (mVar 3) (mC (.bl true)) [some (.ref k), some (.int M), some (.lst (cs.map vN)), some (vO [cs]), some (.lst ((lotsF [[]] cs).map vG)), none, none, none, none, none, none, none, none, none, none, none] B = some (.ref B.length, B ++ [.dct ([[cs]].map kvO)]) := by
      unfold mD1
      rw [show mVar 3 [some (.ref k), some (.int M), some (.lst (cs.map vN)), some (vO [cs]), some (.lst ((lotsF [[]] cs).map vG)), none, none, none, none, none, none, none, none, none, none, none] (B ++ [.dct []]) = some (vO [cs], B ++ [.dct []]) from rfl]
      dsimp only
      unfold mC
      dsimp only
      unfold putN
      rw [get_last]
      dsimp only
      rw [keyFit_nil, if_pos (show (true && lenOk ([] : List (Val × Val)).length) = true by decide), set_last]
      rfl
    have q2 : mNew (fLst (aCons (mVar 3) aNil)) [some (.ref k), some (.int M), some (.lst (cs.map vN)), some (vO [cs]), some (.lst ((lotsF [[]] cs).map vG)), none, none, none, none, none, none, none, none, none, none, none] (B ++ [.dct ([[cs]].map kvO)]) = some (.ref (B.length + 1), SS B [[cs]] [[cs]]) := by
      refine (mnew_ok (flst_ok (a_one (var_ok rfl)) (by simp))).trans ?_
      rw [List.length_append]
      rfl
    unfold sPar
    rw [show aCons (mD1 (mVar 3) (mC (.bl true))) (aCons (mNew (fLst (aCons (mVar 3) aNil))) aNil) _ B = some ([.ref B.length, .ref (B.length + 1)], SS B [[cs]] [[cs]]) from a_cons q1 (a_one q2)]
    rfl
  -- the search
  have bo : BO cs [[cs]] [[cs]] 0 := ⟨by simp, fun x hx => by rw [List.mem_singleton] at hx; exact hx ▸ ofirst, by simp, fun x hx => hx, by simp, rfl, fun x hx hw => absurd hx hw⟩
  obtain ⟨K, f7, f8, f9, f10, f11, t', q5, bo2⟩ := loopLap (a0 := some (.ref k)) (a1 := some (.int M)) (a3 := some (vO [cs])) (e12 := none) (e13 := none) (e14 := none) (e15 := none) hB hcs hn34 (rgVals 0 80) [[cs]] [[cs]] 0 none none none none none bo (by rw [rgVals_len])
  have s5 : sFor (iRange1 (mC (.int 80))) (gNameM 7) bodyLap [some (.ref k), some (.int M), some (.lst (cs.map vN)), some (vO [cs]), some (.lst ((lotsF [[]] cs).map vG)), some (.ref B.length), some (.ref (B.length + 1)), none, none, none, none, none, none, none, none, none] (SS B [[cs]] [[cs]]) = some (.nx, [some (.ref k), some (.int M), some (.lst (cs.map vN)), some (vO [cs]), some (.lst ((lotsF [[]] cs).map vG)), some (.ref B.length), some (.ref (B.length + 1)), f7, f8, f9, f10, f11, none, none, none, none], SS B K []) := by
    unfold sFor
    rw [show iRange1 (mC (.int 80)) [some (.ref k), some (.int M), some (.lst (cs.map vN)), some (vO [cs]), some (.lst ((lotsF [[]] cs).map vG)), some (.ref B.length), some (.ref (B.length + 1)), none, none, none, none, none, none, none, none, none] (SS B [[cs]] [[cs]]) = some (.vals (rgVals 0 80), SS B [[cs]] [[cs]]) from rfl]
    exact q5
  have hT : StOk (SS B K []) := ss_ok hB
  have hcnt := count_eq hcs hn34 bo2.nd bo2.op (bo_closed bo2)
  have hK75 := count_le hcs hn34 bo2.nd bo2.op
  -- the count
  have s6 : tOf (mBin vNe (mB bLen (aCons (mVar 5) aNil)) (mCall 1 f__law_ranks (aCons (mVar 1) aNil))) [some (.ref k), some (.int M), some (.lst (cs.map vN)), some (vO [cs]), some (.lst ((lotsF [[]] cs).map vG)), some (.ref B.length), some (.ref (B.length + 1)), f7, f8, f9, f10, f11, none, none, none, none] (SS B K []) = some (false, SS B K []) := by
    have q1 : mB bLen (aCons (mVar 5) aNil) [some (.ref k), some (.int M), some (.lst (cs.map vN)), some (vO [cs]), some (.lst ((lotsF [[]] cs).map vG)), some (.ref B.length), some (.ref (B.length + 1)), f7, f8, f9, f10, f11, none, none, none, none] (SS B K []) = some (.int (nOrd M : Nat), SS B K []) := by
      refine (mB_ok (a_one (var_ok rfl))).trans ?_
      unfold bLen vdict
      dsimp only
      rw [ss_k]
      dsimp only
      rw [List.length_map, hcnt, hcl]
    refine tof_bl ((bin_ok2 q1 ((call_ok2 (a_one (var_ok rfl)) rfl).trans (ranks_ok hT hM2))).trans ?_)
    simp [vNe, dref, vflat, veq]
  -- six of them
  obtain ⟨K', k1, k2⟩ := vsort_map vO K
  have hK'n : K'.Nodup := k1.nodup_iff.mpr bo2.nd
  have hpT : Pot (SS B K []) k (1 + 10) := by
    have := u2.pot.of (st' := SS B K []) (ss_low hBk)
    obtain ⟨a, b, c, e1, e2, e3, e4, e5⟩ := this.ex
    exact ⟨a, b, c, e1, e2, e3, e4, by have : min M ((List.range 10).map vN).length ≤ 10 := by simp; omega
                                       omega⟩
  obtain ⟨T, chV2, reV2, w1, w2, w3, w4⟩ := some_ok (pool := .lst (K'.map vO)) (xs := K'.map vO) (m := 6) hT hpT rfl (fun v hv => by obtain ⟨a, _, rfl⟩ := List.mem_map.mp hv; exact vbelow_O _ _) (by rw [List.length_map, k1.length_eq]; omega) (by omega) (by omega) (by omega)
  obtain ⟨ch6, rfl, c61, c62⟩ := chosen_of vO_inj hK'n w3
  have hop6 : ∀ o ∈ ch6, OP cs o := fun o ho => bo2.op o (k1.mem_iff.mp (c62 o ho))
  have hl6 : ch6.length ≤ 1000 := by
    rw [List.length_map] at w4
    omega
  have s7 : sSet 12 (mCall 3 f__law_some (aCons (mVar 0) (aCons (mFz (fB (bOr bSorted bSortedD) (aCons (mVar 5) aNil))) (aCons (mC (.int 6)) aNil)))) [some (.ref k), some (.int M), some (.lst (cs.map vN)), some (vO [cs]), some (.lst ((lotsF [[]] cs).map vG)), some (.ref B.length), some (.ref (B.length + 1)), f7, f8, f9, f10, f11, none, none, none, none] (SS B K []) = some (.nx, [some (.ref k), some (.int M), some (.lst (cs.map vN)), some (vO [cs]), some (.lst ((lotsF [[]] cs).map vG)), some (.ref B.length), some (.ref (B.length + 1)), f7, f8, f9, f10, f11, some (.ref ((SS B K []).length + 1)), none, none, none], T) := by
    refine (set_ok ((call_ok2 (a_cons (var_ok rfl) (a_cons (mfz_ok (fB_ok (ys := K'.map vO) (a_one (var_ok rfl)) ?_)) (a_one rfl))) rfl).trans w1)).trans rfl
    have hkk : (K.map kvO).map (·.1) = K.map vO := by rw [List.map_map]; rfl
    rw [sorted_dct ss_k (by rw [hkk]; exact sortOk_O (by omega)), hkk, k2]
  obtain ⟨g8, g13, q8⟩ := loopZ (b0 := some (.ref k)) (b1 := some (.int M)) (b2 := some (.lst (cs.map vN))) (b3 := some (vO [cs])) (b4 := some (.lst ((lotsF [[]] cs).map vG))) (b5 := some (.ref B.length)) (b6 := some (.ref (B.length + 1))) (b7 := f7) (b9 := f9) (b10 := f10) (b11 := f11) (b14 := none) (b15 := none) w2.ok hcs (by omega) w2.f c61 hop6 hl6 loopFuel 0 f8 none (by unfold loopFuel; omega)
  have s8 : sFor (iSeq (mVar 12)) (gNameM 8) bodyZ [some (.ref k), some (.int M), some (.lst (cs.map vN)), some (vO [cs]), some (.lst ((lotsF [[]] cs).map vG)), some (.ref B.length), some (.ref (B.length + 1)), f7, f8, f9, f10, f11, some (.ref ((SS B K []).length + 1)), none, none, none] T = some (.nx, [some (.ref k), some (.int M), some (.lst (cs.map vN)), some (vO [cs]), some (.lst ((lotsF [[]] cs).map vG)), some (.ref B.length), some (.ref (B.length + 1)), f7, g8, f9, f10, f11, some (.ref ((SS B K []).length + 1)), g13, none, none], T) := by
    unfold sFor
    rw [show iSeq (mVar 12) _ T = some (.live ((SS B K []).length + 1), T) from seq_live (var_ok rfl) w2.f]
    exact q8
  -- what stands behind it
  have low : (T.take st.length).all (obelow st.length) = true := by
    rw [List.all_eq_true]
    intro o ho
    obtain ⟨j, hj⟩ := List.getElem?_of_mem ho
    have hjl : j < st.length := by
      have := (List.getElem?_eq_some_iff.mp hj).1
      rw [List.length_take] at this
      omega
    rw [List.getElem?_take_of_lt hjl] at hj
    by_cases hjk : j = k
    · subst hjk
      obtain ⟨a, b, c, e1, _⟩ := w2.pot.ex
      rw [e1] at hj
      cases hj
      rfl
    · have e1 := w2.keep j (by rw [ss_len]; omega) hjk
      have e2 := u2.keep j (by omega) hjk
      rw [hj, ss_low (by omega), e2, ← hS1, List.getElem?_set_ne (fun q => hjk q.symm)] at e1
      have : o ∈ st := List.mem_of_getElem? e1.symm
      exact List.all_eq_true.mp h o this
  have fin : gcF .drop st.length (.bl true) T = some (.bl true, T.take st.length) := by
    unfold gcF
    dsimp only
    rw [low]
    rfl
  have hTl : st.length ≤ T.length := by rw [w2.len, ss_len]; omega
  refine ⟨T.take st.length, (mkFn_rt ((seq_nx s1).trans ((seq_nx s2).trans ((seq_nx s3).trans ((seq_nx s4).trans ((seq_nx s5).trans ((seq_nx ((if_f s6).trans rfl)).trans ((seq_nx s7).trans ((seq_nx s8).trans (ret_ok rfl)))))))))).trans fin, ?_⟩
  unfold StOk
  rw [List.length_take, Nat.min_eq_left hTl]
  exact low
theorem lcL_st {f : MP} : ∀ (xs : List Val) (st : Sto), StOk st → (∀ x ∈ xs, ∀ st, StOk st → ∃ st', f x st = some ([.bl true], st') ∧ StOk st') → ∃ st', lcL f xs st = some (xs.map (fun _ => Val.bl true), st') ∧ StOk st'
  | [], st, h, _ => ⟨st, rfl, h⟩
  | x :: xs, st, h, hf => by
    obtain ⟨st1, h1, h2⟩ := hf x (List.mem_cons_self ..) st h
    obtain ⟨st2, h3, h4⟩ := lcL_st xs st1 h2 fun y hy => hf y (List.mem_cons_of_mem _ hy)
    exact ⟨st2, by rw [lcL, h1]; dsimp only; rw [h3]; rfl, h4⟩
theorem law_true (ns : List Int) (hl : ns.length ≤ 63) : ∃ st', f_law [.sc (ns.map .int)] [] = some (.bl true, st') := by
  have h0 : StOk [] := rfl
  obtain ⟨n, p1, p2, p3⟩ := places_ok h0 ns hl
  have e1 : iSeq (mCall 2 f__law_places (aCons (mVar 0) (aCons (mC (.int 2)) aNil))) [some (.sc (ns.map .int)), none] [] = some (.vals ((List.range n).map vN), []) :=
    seq_lst ((call_ok2 (a_cons (var_ok rfl) (a_one rfl)) rfl).trans p1)
  obtain ⟨st', q1, q2⟩ := lcL_st (f := step1 (gNameM 1) tYesM (mCall 1 f__law_right (aCons (mCall 2 f__law_pot (aCons (mVar 0) (aCons (mVar 1) aNil))) aNil)) [some (.sc (ns.map .int)), none]) ((List.range n).map vN) [] h0 (fun v hv st hst => by
    obtain ⟨j, hj, rfl⟩ := List.mem_map.mp hv
    have hj := List.mem_range.mp hj
    obtain ⟨a, b, r1, r2, r3⟩ := pot_ok (st := st) (ns := ns) (p := j) (by omega) (by
      rcases p3 with q | ⟨q, q'⟩
      · exact .inl (by omega)
      · exact .inr ⟨q, by omega⟩)
    have ok1 : StOk (st ++ [.lst [.int a, .int b, .int 0]]) := hst.add rfl
    obtain ⟨st2, r4, r5⟩ := right_ok ok1 (k := st.length) ⟨a, b, 0, get_last st _, r2, r3, by omega, by omega⟩
    exact ⟨st2, step1_yes (env1 := [some (.sc (ns.map .int)), some (vN j)]) rfl ((call_ok2 (a_one ((call_ok2 (a_cons (var_ok rfl) (a_one (var_ok rfl))) rfl).trans r1)) rfl).trans r4), r5⟩)
  have e2 : fLc [1] (iSeq (mCall 2 f__law_places (aCons (mVar 0) (aCons (mC (.int 2)) aNil)))) (gNameM 1) tYesM (mCall 1 f__law_right (aCons (mCall 2 f__law_pot (aCons (mVar 0) (aCons (mVar 1) aNil))) aNil)) [some (.sc (ns.map .int)), none] [] = some ((List.range n).map (fun _ => Val.bl true), st') := by
    unfold fLc fLcOf
    rw [e1]
    dsimp only
    unfold lcS
    dsimp only
    rw [show wipeE [some (.sc (ns.map .int)), none] [1] = [some (.sc (ns.map .int)), none] from rfl, q1]
    dsimp only
    rw [if_pos (show lenOk _ = true from decide_eq_true (by simp; omega)), List.map_map]
    rfl
  have e3 : mB bAll (aCons (mFz (fLc [1] (iSeq (mCall 2 f__law_places (aCons (mVar 0) (aCons (mC (.int 2)) aNil)))) (gNameM 1) tYesM (mCall 1 f__law_right (aCons (mCall 2 f__law_pot (aCons (mVar 0) (aCons (mVar 1) aNil))) aNil)))) aNil) [some (.sc (ns.map .int)), none] [] = some (.bl true, st') := by
    rw [all_fz e2]
    simp
  exact ⟨[], (mkFn_rt (ret_ok e3)).trans (by unfold gcF; simp [vbelow])⟩
end K83

-- part End83
set_option Elab.async false
set_option linter.all false
set_option maxRecDepth 100000
set_option maxHeartbeats 0
namespace K83
open PySem PySem.Spec PyProof.Rows L2 Sh
abbrev RR : PySem.W.OpenRow := PySem.W.OpenLaw.row PySem.Challenge.rw_signalsaid_k83_whole_orders_counted_by_f
abbrev hk : PySem.W.Hook := hookS 4 fa fn tb
def ob (s : PySem.W.SharedT) : He.AlD × Bool := obsS 4 fa fn tb (HandSHeadRun.getT s)
theorem ob_eq (s : PySem.W.SharedT) : ob s = hk.obs s.abs := obsS_eq (HandSHeadRun.getT_eq s)
def loose0 : List PySem.Str := ["is_integer", "is_tuple", "is_ascending", "SignalError", "BadOrder", "BadClocks", "BadValues", "TooMany", "MOST", "ZERO", "ONE", "divisor", "is_time", "lowest", "made", "is_before", "AT", "IN", "MOST_CLOCK", "is_group", "is_order", "check_order", "check_clocks", "young_of", "young", "oldest_of", "oldest", "at_one", "behind_of", "orders_from"]
def loose1 : List PySem.Str := ["is_value", "do_values_fit", "values_fit", "some_values", "_law_pot", "_law_take", "_law_places", "_law_some", "_law_lots", "_law_ranks", "_law_right"]
def loose : List PySem.Str := loose0 ++ loose1
theorem run (w : World) : HandSHeadRun.RunEq RR (PySem.W.view RR.prog [46]) hk ob 4000 loose w := by
  intro os
  kernel_rfl
end K83
open PySem PySem.W PySem.Calls PyProof.Rows
theorem PySem.Challenge.cw_signalsaid_k83_whole_orders_counted_by_f_holds : PySem.Challenge.rw_signalsaid_k83_whole_orders_counted_by_f.Holds := by
  w_on; o_law
  refine HandSHeadRun.head_any (r := K83.RR) (q := view K83.RR.prog [46]) (H := K83.hk) (ob := K83.ob) (M := 4000) (loose := K83.loose) (d := HandSHeadRun.topDef K83.RR.prog 46) (kwd := []) K83.ob_eq
    (by kernel_rfl) (fun s => by kernel_rfl) K83.run (by kernel_rfl) (by kernel_rfl) (by kernel_rfl) (by rfl) (by first | assumption | decide +kernel) (by decide +kernel) ⟨rfl, rfl, rfl, rfl, rfl, by decide +kernel⟩ ?hw ?hc
  case hw => w_witness2
  case hc =>
    refine L2.walk_ofE (l := PySem.Challenge.rw_signalsaid_k83_whole_orders_counted_by_f) (n := 63) (k := 8) (x := "script") (CX := L2.CX0) rfl (by decide) (by kernel_rfl) ⟨rfl, by decide, by decide⟩ ?F fun _ _ _ _ z => z
    intro w mg fa h ⟨K, KX, c, ht⟩ G hmg0
    have hmg : mg ("law" : PySem.Str) = some (.ref fa) := by
      have e : (HandSHeadRun.topDef K83.RR.prog 46).name = ("law" : PySem.Str) := by kernel_rfl
      exact e ▸ hmg0
    obtain ⟨fd, hb, hF⟩ := K83.facts (P := PySem.Challenge.rw_signalsaid_k83_whole_orders_counted_by_f.prog) (w := w) KX G hmg c ht
    exact ⟨K, fd, Sh.spF _ w K 1 K83.f_law, KX, hb, fun H a ns hl hO hS => Sh.law_sp hO hS (K83.law_true ns hl), hF⟩
