import PyProof.Rows.All
import Wide.All
import OpenK.AllK
import Wide.FinOn
import PySem.Challenge.RW_pactloom_k22_whole_ready_is_exact
import KE.KStateDown
import HandS.ForMost
import HandS.Deep
import HandS.Conv
import HandS.Wide
import HandS.SortRule
import KE.KeyNested
import KE.KDictKeyed
import KE.KDictWalk
import KE.KDictDisplayH
import KE.SortKeyed
import HandS.Zip
import HandS.IsInst
import HandS.SetFor
import PyProof.StrBlock2
import PyProof.StrOps2
import PyProof.Claim2Refuses
import KE.GoesEnum
import KE.GoesDict
import HandS.SetKeys
import HandS.DictComp
import KE.SortCalls
import KE.KDictSum
import KE.KDictCopyH
import HandS.ForSpec
import HandS.Defaults
import HandS.Head0
import HandS.Head1
import HandS.Head2
import HandS.HeadEnd
import HandS.HeadHook1
import HandS.HeadHook2
set_option Elab.async false
set_option linter.all false
set_option maxRecDepth 100000
set_option maxHeartbeats 4000000
namespace N
open PySem PySem.Spec PyProof.Rows L2

abbrev D := PyData
/-- a key of a dict, as data -/
def kD : Key → D
  | .inl i => .int i
  | .inr x => .str x

mutual
/-- the value v in the heap F is the data d (never changed) -/
inductive Den (F : Hp) : V → D → Prop
  | non : Den F .non .none
  | bl (b : Bool) : Den F (.bl b) (.bool b)
  | int (i : Int) : Den F (.int i) (.int i)
  | str (x : Str) : Den F (.str x) (.str x)
  | lst {a : Addr} {vs : List V} {ds : List D} : F a = some (.lst vs) → DenL F vs ds → Den F (.ref a) (.list ds)
  | tup {a : Addr} {vs : List V} {ds : List D} : F a = some (.tup vs) → DenL F vs ds → Den F (.ref a) (.tuple ds)
  | dk {a : Addr} {o : Obj} {kvs : List (Key × V)} {es : List (D × D)} : F a = some (.frz o (.dK kvs)) → DenK F kvs es → Den F (.ref a) (.dict es)
inductive DenL (F : Hp) : List V → List D → Prop
  | nil : DenL F [] []
  | cons {v : V} {vs : List V} {d : D} {ds : List D} : Den F v d → DenL F vs ds → DenL F (v :: vs) (d :: ds)
inductive DenK (F : Hp) : List (Key × V) → List (D × D) → Prop
  | nil : DenK F [] []
  | cons {k : Key} {v : V} {kvs : List (Key × V)} {d : D} {es : List (D × D)} : Den F v d → DenK F kvs es → DenK F ((k, v) :: kvs) ((kD k, d) :: es)
end

section
variable {F F' : Hp}
mutual
theorem Den.mono (e : Same F F') : ∀ (d : D) (v : V), Den F v d → Den F' v d
  | .none, _, h => by cases h; exact .non
  | .bool b, _, h => by cases h; exact .bl b
  | .int i, _, h => by cases h; exact .int i
  | .str x, _, h => by cases h; exact .str x
  | .list ds, _, h => by
    cases h with
    | lst h1 h2 => exact .lst (e _ _ h1) (DenL.mono e ds _ h2)
  | .tuple ds, _, h => by
    cases h with
    | tup h1 h2 => exact .tup (e _ _ h1) (DenL.mono e ds _ h2)
  | .dict es, _, h => by
    cases h with
    | dk h1 h2 => exact .dk (e _ _ h1) (DenK.mono e es _ h2)
theorem DenL.mono (e : Same F F') : ∀ (ds : List D) (vs : List V), DenL F vs ds → DenL F' vs ds
  | [], _, h => by cases h; exact .nil
  | d :: ds, _, h => by
    cases h with
    | cons h1 h2 => exact .cons (Den.mono e d _ h1) (DenL.mono e ds _ h2)
theorem DenK.mono (e : Same F F') : ∀ (es : List (D × D)) (kvs : List (Key × V)), DenK F kvs es → DenK F' kvs es
  | [], _, h => by cases h; exact .nil
  | (x, d) :: es, _, h => by
    cases h with
    | cons h1 h2 => exact .cons (Den.mono e d _ h1) (DenK.mono e es _ h2)
end
theorem DenL.length : ∀ {ds : List D} {vs : List V}, DenL F vs ds → vs.length = ds.length
  | [], _, h => by cases h; rfl
  | _ :: _, _, h => by
    cases h with
    | cons h1 h2 => rw [List.length_cons, List.length_cons, DenL.length h2]
theorem DenL.get : ∀ {ds : List D} {vs : List V} {i : Nat} {d : D}, DenL F vs ds → ds[i]? = some d → ∃ v, vs[i]? = some v ∧ Den F v d
  | [], _, _, _, _, e => by simp at e
  | _ :: _, _, 0, _, .cons h1 _, e => by
    simp at e
    subst e
    exact ⟨_, rfl, h1⟩
  | _ :: _, _, i + 1, _, .cons _ h2, e => by
    obtain ⟨v, h3, h4⟩ := DenL.get (i := i) h2 (by simpa using e)
    exact ⟨v, by simpa using h3, h4⟩
theorem DenL.append : ∀ {ds es : List D} {vs us : List V}, DenL F vs ds → DenL F us es → DenL F (vs ++ us) (ds ++ es)
  | _, _, _, _, .nil, h => h
  | _, _, _, _, .cons h1 h2, h => .cons h1 (DenL.append h2 h)
end

/-! ### references and contents -/
/-- what an expression is worth: data, or the i-th object of one's own -/
inductive Rf where
  | dat (d : D)
  | own (i : Nat)
/-- what an object of one's own holds -/
inductive Ct where
  | gone
  | lst (xs : List Rf)
  | dk (kvs : List (Key × Rf))
  | dn (kvs : List (D × Rf))
  | dz (o : Obj) (kvs : List (D × Rf))
/-- the abstract state: slots, objects of one's own -/
structure AS where
  sl : List (Option Rf)
  m : List Ct

section
variable (P : Program) (w : World)
def RfOk (F : Hp) (as : List Addr) (v : V) : Rf → Prop
  | .dat d => Den F v d
  | .own i => ∃ a, as[i]? = some a ∧ v = .ref a
abbrev RfL (F : Hp) (as : List Addr) : List V → List Rf → Prop := Paired fun v r => RfOk F as v r
abbrev RfK (F : Hp) (as : List Addr) : List (Key × V) → List (Key × Rf) → Prop := Paired fun p q => p.1 = q.1 ∧ RfOk F as p.2 q.2
end

section
variable {F F' : Hp} {as as' : List Addr}
/-- the frozen part and the addresses grow -/
structure Grow (F : Hp) (as : List Addr) (F' : Hp) (as' : List Addr) : Prop where
  f : Same F F'
  a : ∃ l, as' = as ++ l
theorem Grow.refl (F : Hp) (as : List Addr) : Grow F as F as := ⟨Same.refl F, [], by simp⟩
theorem Grow.trans {F1 F2 F3 : Hp} {a1 a2 a3 : List Addr} (h : Grow F1 a1 F2 a2) (k : Grow F2 a2 F3 a3) : Grow F1 a1 F3 a3 := by
  obtain ⟨h1, l, rfl⟩ := h
  obtain ⟨k1, l2, rfl⟩ := k
  exact ⟨h1.trans k1, l ++ l2, by simp⟩
theorem RfOk.mono (g : Grow F as F' as') : ∀ {v : V} {r : Rf}, RfOk F as v r → RfOk F' as' v r
  | v, .dat d, h => Den.mono g.f d v h
  | v, .own i, h => by
    obtain ⟨a, h1, h2⟩ := h
    obtain ⟨l, rfl⟩ := g.a
    exact ⟨a, by rw [List.getElem?_append_left (List.getElem?_eq_some_iff.mp h1).1]; exact h1, h2⟩
theorem RfL.mono (g : Grow F as F' as') {vs : List V} {rs : List Rf} (h : RfL F as vs rs) : RfL F' as' vs rs := Paired.mapP h fun _ _ => RfOk.mono g
theorem RfK.mono (g : Grow F as F' as') {vs : List (Key × V)} {rs : List (Key × Rf)} (h : RfK F as vs rs) : RfK F' as' vs rs := Paired.mapP h fun _ _ z => ⟨z.1, RfOk.mono g z.2⟩
theorem Paired.get {α β : Type} {R : α → β → Prop} : ∀ {l : List α} {m : List β} {i : Nat} {y : β}, Paired R l m → m[i]? = some y → ∃ x, l[i]? = some x ∧ R x y
  | _, _, _, _, .nil, e => by simp at e
  | _, _, 0, _, .cons h _, e => by
    simp at e
    subst e
    exact ⟨_, rfl, h⟩
  | _, _, i + 1, _, .cons _ t, e => by
    obtain ⟨x, h1, h2⟩ := Paired.get (i := i) t (by simpa using e)
    exact ⟨x, by simpa using h1, h2⟩
theorem Paired.len {α β : Type} {R : α → β → Prop} {l : List α} {m : List β} (h : Paired R l m) : l.length = m.length := Paired.length h
theorem Paired.app {α β : Type} {R : α → β → Prop} : ∀ {l l' : List α} {m m' : List β}, Paired R l m → Paired R l' m' → Paired R (l ++ l') (m ++ m')
  | _, _, _, _, .nil, h => h
  | _, _, _, _, .cons h t, h' => .cons h (Paired.app t h')
theorem Paired.setP {α β : Type} {R : α → β → Prop} {x : α} {y : β} (r : R x y) : ∀ {l : List α} {m : List β} (i : Nat), Paired R l m → Paired R (l.set i x) (m.set i y)
  | _, _, _, .nil => .nil
  | _, _, 0, .cons _ t => .cons r t
  | _, _, i + 1, .cons q t => .cons q (Paired.setP r i t)
theorem Paired.dropLastP {α β : Type} {R : α → β → Prop} : ∀ {l : List α} {m : List β}, Paired R l m → Paired R l.dropLast m.dropLast
  | _, _, .nil => .nil
  | _, _, .cons _ .nil => .nil
  | _, _, .cons h (.cons h2 t) => .cons h (Paired.dropLastP (.cons h2 t))
theorem rfl_dat : ∀ {vs : List V} {ds : List D}, RfL F as vs (ds.map Rf.dat) ↔ DenL F vs ds
  | [], [] => ⟨fun _ => .nil, fun _ => .nil⟩
  | [], _ :: _ => ⟨fun h => (nomatch h), fun h => (nomatch h)⟩
  | _ :: _, [] => ⟨fun h => (nomatch h), fun h => (nomatch h)⟩
  | v :: vs, d :: ds => ⟨fun h => by
      cases h with
      | cons h1 h2 => exact .cons h1 (rfl_dat.mp h2), fun h => by
      cases h with
      | cons h1 h2 => exact .cons h1 (rfl_dat.mpr h2)⟩
end

/-! ### a dict with tuple keys, as it stands -/
mutual
/-- a key: ints, texts, None, tuples of such -/
def toN : D → NestedKey
  | .none => .none
  | .bool b => .num (if b then 1 else 0)
  | .int i => .num i
  | .str x => .text x
  | .list _ => .none
  | .tuple ds => .tup (toNs ds)
  | .dict _ => .none
def toNs : List D → List NestedKey
  | [] => []
  | d :: ds => toN d :: toNs ds
end
mutual
/-- ints, texts, tuples of such: no two differ and are == -/
def keyish : D → Bool
  | .none => false
  | .bool _ => false
  | .int _ => true
  | .str _ => true
  | .list _ => false
  | .tuple ds => keyishs ds
  | .dict _ => false
def keyishs : List D → Bool
  | [] => true
  | d :: ds => keyish d && keyishs ds
end
mutual
theorem toN_inj : ∀ (a b : D), keyish a = true → keyish b = true → toN a = toN b → a = b
  | .none, _, h, _, _ => by simp [keyish] at h
  | .bool _, _, h, _, _ => by simp [keyish] at h
  | .list _, _, h, _, _ => by simp [keyish] at h
  | .dict _, _, h, _, _ => by simp [keyish] at h
  | .int i, b, _, hb, e => by
    cases b with
    | int j => simp only [toN, NestedKey.num.injEq] at e; rw [e]
    | str y => simp [toN] at e
    | tuple ys => simp [toN] at e
    | none => simp [keyish] at hb
    | bool _ => simp [keyish] at hb
    | list _ => simp [keyish] at hb
    | dict _ => simp [keyish] at hb
  | .str x, b, _, hb, e => by
    cases b with
    | int j => simp [toN] at e
    | str y => simp only [toN, NestedKey.text.injEq] at e; rw [e]
    | tuple ys => simp [toN] at e
    | none => simp [keyish] at hb
    | bool _ => simp [keyish] at hb
    | list _ => simp [keyish] at hb
    | dict _ => simp [keyish] at hb
  | .tuple xs, b, ha, hb, e => by
    cases b with
    | int j => simp [toN] at e
    | str y => simp [toN] at e
    | tuple ys =>
      simp only [toN, NestedKey.tup.injEq] at e
      simp only [keyish] at ha hb
      rw [toNs_inj xs ys ha hb e]
    | none => simp [keyish] at hb
    | bool _ => simp [keyish] at hb
    | list _ => simp [keyish] at hb
    | dict _ => simp [keyish] at hb
theorem toNs_inj : ∀ (a b : List D), keyishs a = true → keyishs b = true → toNs a = toNs b → a = b
  | [], [], _, _, _ => rfl
  | [], _ :: _, _, _, e => by simp [toNs] at e
  | _ :: _, [], _, _, e => by simp [toNs] at e
  | x :: xs, y :: ys, ha, hb, e => by
    simp only [toNs, List.cons.injEq] at e
    simp only [keyishs, Bool.and_eq_true] at ha hb
    rw [toN_inj x y ha.1 hb.1 e.1, toNs_inj xs ys ha.2 hb.2 e.2]
end
end N
set_option Elab.async false
set_option linter.all false
set_option maxRecDepth 100000
set_option maxHeartbeats 4000000
namespace N
open PySem PySem.Spec PyProof.Rows L2

/-- a key of a dict with tuple keys -/
def keyOk (d : D) : Bool := keyish d && decide ((toN d).depth ≤ 8)
theorem keyOk_ish {d : D} (h : keyOk d = true) : keyish d = true := (Bool.and_eq_true_iff.mp h).1
theorem keyOk_depth {d : D} (h : keyOk d = true) : (toN d).depth ≤ 8 := of_decide_eq_true (Bool.and_eq_true_iff.mp h).2

section
variable {P : Program} {w : World} {H : Hp} {h : Heap}
mutual
theorem nested_of (ok : HOk P w H h) : ∀ (d : D) (v : V) (u : Value), Den H v d → keyish d = true → RelV v u → NestedIs h (toN d) u
  | .none, _, _, _, k, _ => by simp [keyish] at k
  | .bool _, _, _, _, k, _ => by simp [keyish] at k
  | .list _, _, _, _, k, _ => by simp [keyish] at k
  | .dict _, _, _, _, k, _ => by simp [keyish] at k
  | .int i, _, _, x, _, r => by
    cases x
    obtain ⟨t, rfl⟩ := r
    exact .int i t
  | .str y, _, _, x, _, r => by
    cases x
    obtain ⟨t, rfl⟩ := r
    exact .text y t
  | .tuple ds, _, _, x, k, r => by
    cases x with
    | tup h1 h2 =>
      cases r
      obtain ⟨_, its, rv, o, ho, hc, n, hd⟩ := ok _ _ h1
      simp only [keyish] at k
      exact .tup ho hc hd (by simpa using nesteds_of ok ds _ _ h2 k rv)
theorem nesteds_of (ok : HOk P w H h) : ∀ (ds : List D) (vs : List V) (us : List Value), DenL H vs ds → keyishs ds = true → Vals vs us → NestedAll h (toNs ds) us
  | [], _, _, x, _, r => by
    cases x
    cases r
    exact .nil
  | d :: ds, _, _, x, k, r => by
    cases x with
    | cons x1 x2 =>
      cases r with
      | cons r1 r2 =>
        simp only [keyishs, Bool.and_eq_true] at k
        exact .cons (nested_of ok d _ _ x1 k.1 r1) (nesteds_of ok ds _ _ x2 k.2 r2)
end
theorem key_is (ok : HOk P w H h) {d : D} {a : Addr} (x : Den H (.ref a) d) (k : keyOk d = true) : (nestedKind P w).is h (toN d) a :=
  ⟨nested_of ok d _ _ x (keyOk_ish k) rfl, keyOk_depth k⟩
end

/-- the dict at a is the object o -/
def dOb (a : Addr) (o : Obj) : HO := .ext fun h => h.get? a = some o
theorem dOb_ok {P : Program} {w : World} {H : Hp} {h : Heap} {a : Addr} {o : Obj} (e : h.get? a = some o) : ObjOk P w H h a (dOb a o) :=
  ⟨e, ⟨o, e⟩, fun _ _ p k => k o p⟩
/-- its entries: keys (known in F) and values -/
abbrev DnP (F : Hp) : List (D × V) → List (NestedKey × Addr × Value) → Prop := Paired fun p x => x.1 = toN p.1 ∧ keyOk p.1 = true ∧ Den F (.ref x.2.1) p.1 ∧ RelV p.2 x.2.2
structure DnR (P : Program) (w : World) (F : Hp) (o : Obj) (kvs : List (D × V)) (xs : List (NestedKey × Addr × Value)) : Prop where
  len : kvs.length ≤ sizeLine
  ex : o.ExactDict
  dat : ∃ es ep, o.data = .dict es ep ∧ es.toList = xs.map (entryOfKey (nestedKind P w))
  nd : (xs.map (·.1)).Nodup
  rel : DnP F kvs xs
/-- at a stands a dict with tuple keys -/
def DnO (P : Program) (w : World) (F H : Hp) (a : Addr) (kvs : List (D × V)) : Prop :=
  (a == sysModules) = false ∧ ∃ o xs, H a = some (dOb a o) ∧ DnR P w F o kvs xs

def lookN {α : Type} (kvs : List (D × α)) (k : D) : Option α := (kvs.find? fun kv => decide (toN kv.1 = toN k)).map (·.2)
def putN {α : Type} (kvs : List (D × α)) (k : D) (v : α) : List (D × α) :=
  if (lookN kvs k).isSome then kvs.map fun kv => if toN kv.1 = toN k then (kv.1, v) else kv else kvs ++ [(k, v)]
theorem length_putN {α : Type} (kvs : List (D × α)) (k : D) (v : α) : (putN kvs k v).length ≤ kvs.length + 1 := by
  unfold putN
  split
  · rw [List.length_map]; exact Nat.le_succ _
  · rw [List.length_append]; exact Nat.le_refl _

section
variable {F F' : Hp}
theorem DnP.mono (e : Same F F') {kvs : List (D × V)} {xs : List (NestedKey × Addr × Value)} (r : DnP F kvs xs) : DnP F' kvs xs :=
  Paired.mapP r fun _ _ z => ⟨z.1, z.2.1, Den.mono e _ _ z.2.2.1, z.2.2.2⟩
theorem DnR.mono {P : Program} {w : World} {o : Obj} (e : Same F F') {kvs : List (D × V)} {xs : List (NestedKey × Addr × Value)} (r : DnR P w F o kvs xs) : DnR P w F' o kvs xs :=
  ⟨r.len, r.ex, r.dat, r.nd, r.rel.mono e⟩
theorem DnP.look : ∀ {kvs : List (D × V)} {xs : List (NestedKey × Addr × Value)} (r : DnP F kvs xs) (k : D), RelO (lookN kvs k) ((atKey xs (toN k)).map (·.2))
  | _, _, .nil, k => by simp [lookN, atKey, RelO]
  | _, _, .cons (a := p) (b := x) h t, k => by
    have ih := DnP.look t k
    by_cases e : toN p.1 = toN k
    · have e1 : ∀ l, lookN (p :: l) k = some p.2 := fun l => by simp [lookN, List.find?_cons, e]
      have e2 : ∀ l, (atKey (x :: l) (toN k)).map (·.2) = some x.2.2 := fun l => by simp [atKey, List.find?_cons, h.1, e]
      rw [e1, e2]
      exact h.2.2.2
    · have e1 : ∀ l, lookN (p :: l) k = lookN l k := fun l => by simp [lookN, List.find?_cons, e]
      have e2 : ∀ l, atKey (x :: l) (toN k) = atKey l (toN k) := fun l => by simp [atKey, List.find?_cons, h.1, e]
      rw [e1, e2]
      exact ih
theorem relO_isSome {o : Option V} {u : Option Value} (r : RelO o u) : o.isSome = u.isSome := by
  cases o <;> cases u <;> first | rfl | exact (show False from r).elim
theorem DnP.put {kvs : List (D × V)} {xs : List (NestedKey × Addr × Value)} (r : DnP F kvs xs) {k : D} {b : Addr} {v : V} {u : Value} (kk : keyOk k = true) (hb : Den F (.ref b) k) (rv : RelV v u) :
    DnP F (putN kvs k v) (storedH xs (toN k) b u) := by
  have q := relO_isSome (r.look k)
  rw [Option.isSome_map] at q
  unfold putN storedH
  rw [q]
  split
  · have : ∀ {kvs : List (D × V)} {xs : List (NestedKey × Addr × Value)}, DnP F kvs xs → DnP F (kvs.map fun kv => if toN kv.1 = toN k then (kv.1, v) else kv) (xs.map (putAt (toN k) u)) := by
      intro kvs xs r
      induction r with
      | nil => exact .nil
      | @cons p x l m h t ih =>
        rw [List.map_cons, List.map_cons]
        refine .cons ?_ ih
        unfold putAt
        by_cases e : toN p.1 = toN k
        · rw [if_pos e, if_pos (h.1.trans e)]
          exact ⟨h.1, h.2.1, h.2.2.1, rv⟩
        · rw [if_neg e, if_neg (fun z => e (h.1.symm.trans z))]
          exact h
    exact this r
  · exact Paired.app r (.cons ⟨rfl, kk, hb, rv⟩ .nil)
end

section
variable {X : Cx} {pins : List (Addr × Obj)} {σ : L2.St} {F H : Hp} {s : Shared} {a b : Addr} {kvs : List (D × V)} {k : D} {v : V} {u r : Value} {A : Around} {E : Value → Shared → Prop} {o : Obj} {xs : List (NestedKey × Addr × Value)}
theorem dn_get? (I : Inv X pins σ H s) (e : H a = some (dOb a o)) : s.heap.get? a = some o := (I.hok a _ e).1
theorem dn_of (I : Inv X pins σ H s) (f : Same F H) (e : H a = some (dOb a o)) (d : DnR X.prog X.w F o kvs xs) : s.heap.DictOfH (nestedKind X.prog X.w) a xs := by
  obtain ⟨es, ep, h1, h2⟩ := d.dat
  refine ⟨o, es, ep, dn_get? I e, d.ex, h1, h2, fun x hx => ?_, d.nd⟩
  have : ∀ {kvs : List (D × V)} {xs : List (NestedKey × Addr × Value)}, DnP F kvs xs → x ∈ xs → (nestedKind X.prog X.w).is s.heap x.1 x.2.1 := by
    intro kvs xs r
    induction r with
    | nil => intro h; cases h
    | @cons p y l m h t ih =>
      intro hm
      rcases List.mem_cons.mp hm with e | hm
      · subst e
        rw [h.1]
        exact key_is I.hok (Den.mono f _ _ h.2.2.1) h.2.1
      · exact ih hm
  exact this d.rel hx
theorem nroom {A : Around} (hu : A.units + 64 < cLine) : (nestedKind X.prog X.w).room A.in1 := by
  show A.units + 1 + 8 < cLine
  omega
theorem dn_in {Q : Value → Shared → Prop} (hu : A.units + 64 < cLine) (I : Inv X pins σ H s) (f : Same F H) (g : DnO X.prog X.w F H a kvs) (hk : keyOk k = true) (hb : Den F (.ref b) k) (h : ∀ s', Inv X pins σ H s' → Q (.bool (lookN kvs k).isSome) s') :
    wpAny (model X.prog X.w) A (compareOp .In (.ref b) (.ref a)) Q E s := by
  obtain ⟨hd, o, xs, e, d⟩ := g
  refine wpAny_in_heap (nroom hu) (key_is I.hok (Den.mono f _ _ hb) hk) hd (dn_of I f e d) ?_
  have q := relO_isSome (d.rel.look k)
  rw [Option.isSome_map] at q
  rw [← q]
  exact h _ (I.tok _)
theorem dn_notIn {Q : Value → Shared → Prop} (hu : A.units + 64 < cLine) (I : Inv X pins σ H s) (f : Same F H) (g : DnO X.prog X.w F H a kvs) (hk : keyOk k = true) (hb : Den F (.ref b) k) (h : ∀ s', Inv X pins σ H s' → Q (.bool (!(lookN kvs k).isSome)) s') :
    wpAny (model X.prog X.w) A (compareOp .NotIn (.ref b) (.ref a)) Q E s := by
  obtain ⟨hd, o, xs, e, d⟩ := g
  refine wpAny_notIn_heap (nroom hu) (key_is I.hok (Den.mono f _ _ hb) hk) hd (dn_of I f e d) ?_
  have q := relO_isSome (d.rel.look k)
  rw [Option.isSome_map] at q
  rw [← q]
  exact h _ (I.tok _)
theorem dn_getItem {Q : Value → Shared → Prop} (hu : A.units + 64 < cLine) (I : Inv X pins σ H s) (f : Same F H) (g : DnO X.prog X.w F H a kvs) (hk : keyOk k = true) (hb : Den F (.ref b) k) (hv : lookN kvs k = some v) (h : ∀ w' s', Inv X pins σ H s' → RelV v w' → Q w' s') :
    wpAny (model X.prog X.w) A (getItem (.ref a) (.ref b)) Q E s := by
  obtain ⟨hd, o, xs, e, d⟩ := g
  have q := d.rel.look k
  rw [hv] at q
  cases e2 : atKey xs (toN k) with
  | none =>
    rw [e2] at q
    exact (show False from q).elim
  | some p =>
    rw [e2] at q
    exact wpAny_getItem_heap (nroom hu) (key_is I.hok (Den.mono f _ _ hb) hk) (dn_of I f e d) e2 (h _ _ (I.tok _) q)
theorem dOb_mut {H : Hp} {a : Addr} {o : Obj} (e : H a = some (dOb a o)) : Mut (H a) := by rw [e]; exact True.intro
theorem dn_stored (g : DnR X.prog X.w F o kvs xs) (hk : keyOk k = true) (hb : Den F (.ref b) k) (rv : RelV v r) (hl : kvs.length < sizeLine) {h' : Heap} (dd : h'.DictOfH (nestedKind X.prog X.w) a (storedH xs (toN k) b r)) :
    ∃ o', h'.get? a = some o' ∧ DnR X.prog X.w F o' (putN kvs k v) (storedH xs (toN k) b r) := by
  obtain ⟨o', es, ep, h1, h2, h3, h4, _, h5⟩ := dd
  exact ⟨o', h1, ⟨by have := length_putN kvs k v; omega, h2, ⟨es, ep, h3, h4⟩, h5, g.rel.put hk hb rv⟩⟩
theorem dn_setItem {Q : Unit → Shared → Prop} (hu : A.units + 64 < cLine) (I : Inv X pins σ H s) (f : Same F H) (hd : (a == sysModules) = false) (e : H a = some (dOb a o)) (d : DnR X.prog X.w F o kvs xs) (hk : keyOk k = true) (hb : Den F (.ref b) k) (rv : RelV v r) (hl : kvs.length < sizeLine)
    (h : ∀ o' xs' s', DnR X.prog X.w F o' (putN kvs k v) xs' → Inv X pins σ (upd H a (dOb a o')) s' → Q () s') :
    wpAny (model X.prog X.w) A (setItem (.ref a) (.ref b) r) Q E s := by
  have hz : xs.length ≤ sizeLine := by rw [← Paired.length d.rel]; omega
  refine wpAny_setItem_heap (hsz := hz) (nroom hu) (key_is I.hok (Den.mono f _ _ hb) hk) (dn_of I f e d) fun h' dd hs => ?_
  obtain ⟨o', h1, d'⟩ := dn_stored d hk hb rv hl dd
  exact h o' _ _ d' (d_write I (dOb_mut e) hs ⟨o', h1⟩ (dOb_ok h1))
theorem dn_setdefault {Q : Value → Shared → Prop} (hu : A.units + 64 < cLine) (I : Inv X pins σ H s) (f : Same F H) (hd : (a == sysModules) = false) (e : H a = some (dOb a o)) (d : DnR X.prog X.w F o kvs xs) (hk : keyOk k = true) (hb : Den F (.ref b) k) (rv : RelV v r) (hl : kvs.length < sizeLine)
    (h1 : ∀ v', lookN kvs k = some v' → ∀ w' s', Inv X pins σ H s' → RelV v' w' → Q w' s')
    (h2 : lookN kvs k = none → ∀ o' xs' s', DnR X.prog X.w F o' (putN kvs k v) xs' → Inv X pins σ (upd H a (dOb a o')) s' → Q r s') :
    wpAny (model X.prog X.w) A (call (.builtin "dict.setdefault") [.ref a, .ref b, r]) Q E s := by
  have hz : xs.length ≤ sizeLine := by rw [← Paired.length d.rel]; omega
  have q := d.rel.look k
  refine call_setdefault_heap (hsz := hz) (nroom hu) (key_is I.hok (Den.mono f _ _ hb) hk) hd (dn_of I f e d) (fun p hp => ?_) fun hn h' dd hs => ?_
  · rw [hp] at q
    cases e2 : lookN kvs k with
    | none =>
      rw [e2] at q
      exact (show False from q).elim
    | some v' =>
      rw [e2] at q
      exact h1 v' e2 _ _ (I.tok _) q
  · rw [hn] at q
    cases e2 : lookN kvs k with
    | some v' =>
      rw [e2] at q
      exact (show False from q).elim
    | none =>
      obtain ⟨o', g1, d'⟩ := dn_stored d hk hb rv hl dd
      exact h2 e2 o' _ _ d' (d_write I (dOb_mut e) hs ⟨o', g1⟩ (dOb_ok g1))
/-- {}: a new dict for tuple keys -/
theorem dnR_nil {P : Program} {w : World} : DnR P w F { cls := .type "dict", data := .dict #[] } [] [] :=
  ⟨Nat.zero_le _, ⟨rfl, rfl, rfl⟩, ⟨#[], _, rfl, rfl⟩, List.nodup_nil, .nil⟩
end
end N
set_option Elab.async false
set_option linter.all false
set_option maxRecDepth 100000
set_option maxHeartbeats 4000000
namespace N
open PySem PySem.Spec PyProof.Rows L2

/-! ### the abstract state held -/
def CtOk (P : Program) (w : World) (H F : Hp) (as : List Addr) (a : Addr) : Ct → Prop
  | .gone => ∃ o, H a = some o
  | .lst xs => ∃ vs, H a = some (.lst vs) ∧ RfL F as vs xs
  | .dk kvs => ∃ vs, H a = some (.dK vs) ∧ RfK F as vs kvs
  | .dn kvs => ∃ vs, DnO P w F H a vs ∧ Paired (fun (p : D × V) (q : D × Rf) => p.1 = q.1 ∧ RfOk F as p.2 q.2) vs kvs
  | .dz o kvs => ∃ vs, ((a == sysModules) = false ∧ ∃ xs, H a = some (dOb a o) ∧ DnR P w F o vs xs) ∧ Paired (fun (p : D × V) (q : D × Rf) => p.1 = q.1 ∧ RfOk F as p.2 q.2) vs kvs
/-- the frozen part, the addresses, at an earlier moment -/
structure Fz where
  f : Hp
  a : List Addr
structure Base where
  G : Hp
  F0 : Fz
structure Fit (P : Program) (w : World) (B : Base) (as : List Addr) (F : Hp) (σ : L2.St) (H : Hp) (s : AS) : Prop where
  kept : Same B.G H
  froz : Same B.F0.f F
  fin : Same F H
  fresh : ∀ a, B.G a ≠ none → B.F0.f a = none → F a = none
  len : as.length = s.m.length
  nd : as.Nodup
  own : ∀ (i : Nat) (a : Addr) (c : Ct), as[i]? = some a → s.m[i]? = some c → B.G a = none ∧ CtOk P w H F as a c ∧ (c ≠ .gone → F a = none)
  sll : σ.length = s.sl.length
  slot : ∀ (i : Nat) (r : Rf), s.sl[i]? = some (some r) → ∃ v, σ[i]? = some (some v) ∧ RfOk F as v r
  pre : ∃ l, as = B.F0.a ++ l

section
variable {P : Program} {w : World} {B : Base} {as : List Addr} {F H : Hp} {σ : L2.St} {s : AS}
theorem CtOk.there {a : Addr} {c : Ct} (h : CtOk P w H F as a c) : H a ≠ none := by
  cases c with
  | gone => obtain ⟨o, e⟩ := h; rw [e]; exact fun z => nomatch z
  | lst xs => obtain ⟨o, e, _⟩ := h; rw [e]; exact fun z => nomatch z
  | dk xs => obtain ⟨o, e, _⟩ := h; rw [e]; exact fun z => nomatch z
  | dn xs => obtain ⟨o, ⟨_, o', x, e, _⟩, _⟩ := h; rw [e]; exact fun z => nomatch z
  | dz o xs => obtain ⟨o, ⟨_, x, e, _⟩, _⟩ := h; rw [e]; exact fun z => nomatch z
theorem CtOk.mono {F' H' : Hp} {as' : List Addr} {a : Addr} (g : Grow F as F' as') (e : ∀ o, H a = some o → H' a = some o) : ∀ {c : Ct}, CtOk P w H F as a c → CtOk P w H' F' as' a c
  | .gone, h => let ⟨o, q⟩ := h; ⟨o, e o q⟩
  | .lst xs, h => let ⟨vs, q, r⟩ := h; ⟨vs, e _ q, RfL.mono g r⟩
  | .dk xs, h => let ⟨vs, q, r⟩ := h; ⟨vs, e _ q, RfK.mono g r⟩
  | .dn xs, h => let ⟨vs, ⟨hd, o, ys, q, d⟩, r⟩ := h; ⟨vs, ⟨hd, o, ys, e _ q, d.mono g.f⟩, Paired.mapP r fun _ _ z => ⟨z.1, RfOk.mono g z.2⟩⟩
  | .dz o xs, h => let ⟨vs, ⟨hd, ys, q, d⟩, r⟩ := h; ⟨vs, ⟨hd, ys, e _ q, d.mono g.f⟩, Paired.mapP r fun _ _ z => ⟨z.1, RfOk.mono g z.2⟩⟩

theorem Fit.own_there (x : Fit P w B as F σ H s) {i : Nat} {a : Addr} (h : as[i]? = some a) : H a ≠ none ∧ B.G a = none ∧ ∃ c, s.m[i]? = some c := by
  have hi := (List.getElem?_eq_some_iff.mp h).1
  have hm : i < s.m.length := by rw [← x.len]; exact hi
  obtain ⟨h1, h2, h3⟩ := x.own i a s.m[i] h (List.getElem?_eq_getElem hm)
  exact ⟨h2.there, h1, _, List.getElem?_eq_getElem hm⟩
theorem Fit.new_not (x : Fit P w B as F σ H s) {p : Addr} (hp : H p = none) : p ∉ as ∧ F p = none ∧ B.G p = none ∧ B.F0.f p = none := by
  refine ⟨fun hm => ?_, ?_, ?_, ?_⟩
  · obtain ⟨i, hi, e⟩ := List.getElem_of_mem hm
    exact (x.own_there (i := i) (by rw [List.getElem?_eq_getElem hi, e])).1 hp
  · exact x.fin.free hp
  · exact x.kept.free hp
  · exact x.froz.free (x.fin.free hp)
theorem Fit.addr (x : Fit P w B as F σ H s) {i : Nat} {c : Ct} (h : s.m[i]? = some c) : ∃ a, as[i]? = some a := by
  have hi := (List.getElem?_eq_some_iff.mp h).1
  rw [← x.len] at hi
  exact ⟨as[i], List.getElem?_eq_getElem hi⟩

/-- a new object, frozen at once -/
theorem Fit.newDat (x : Fit P w B as F σ H s) {p : Addr} {o : HO} (hp : H p = none) : Fit P w B as (upd F p o) σ (upd H p o) s ∧ Grow F as (upd F p o) as := by
  obtain ⟨n1, n2, n3, n4⟩ := x.new_not hp
  have g : Grow F as (upd F p o) as := ⟨fun b ob e => by rw [upd_ne (ne_of_none e n2)]; exact e, [], by simp⟩
  refine ⟨⟨fun b ob e => ?_, x.froz.trans g.f, fun b ob e => ?_, fun a h1 h2 => ?_, x.len, x.nd, fun i a c h1 h2 => ?_, x.sll, fun i r h => ?_, x.pre⟩, g⟩
  · have e' := x.kept b ob e
    rw [upd_ne (ne_of_none e' hp)]
    exact e'
  · by_cases hb : b = p
    · subst hb
      rw [upd_same] at e ⊢
      exact e
    · rw [upd_ne hb] at e ⊢
      exact x.fin b ob e
  · have : a ≠ p := fun z => h1 (z ▸ n3)
    rw [upd_ne this]
    exact x.fresh a h1 h2
  · obtain ⟨k1, k2, k3⟩ := x.own i a c h1 h2
    have hne : a ≠ p := fun z => n1 (z ▸ List.mem_of_getElem? h1)
    exact ⟨k1, k2.mono g fun ob e => by rw [upd_ne hne]; exact e, fun hc => by rw [upd_ne hne]; exact k3 hc⟩
  · obtain ⟨v, h1, h2⟩ := x.slot i r h
    exact ⟨v, h1, h2.mono g⟩
/-- a new object of one's own -/
theorem Fit.newOwn (x : Fit P w B as F σ H s) {p : Addr} {o : HO} {c : Ct} (hp : H p = none) (hc : CtOk P w (upd H p o) F (as ++ [p]) p c) :
    Fit P w B (as ++ [p]) F σ (upd H p o) { s with m := s.m ++ [c] } ∧ Grow F as F (as ++ [p]) := by
  obtain ⟨n1, n2, n3, n4⟩ := x.new_not hp
  have g : Grow F as F (as ++ [p]) := ⟨Same.refl F, [p], rfl⟩
  refine ⟨⟨fun b ob e => ?_, x.froz, fun b ob e => ?_, x.fresh, ?_, ?_, fun i a c' h1 h2 => ?_, x.sll, fun i r h => ?_, let ⟨l, e⟩ := x.pre; ⟨l ++ [p], by rw [e, List.append_assoc]⟩⟩, g⟩
  · have e' := x.kept b ob e
    rw [upd_ne (ne_of_none e' hp)]
    exact e'
  · have e' := x.fin b ob e
    rw [upd_ne (ne_of_none e' hp)]
    exact e'
  · show (as ++ [p]).length = (s.m ++ [c]).length
    rw [List.length_append, List.length_append, x.len] <;> rfl
  · refine List.nodup_append.mpr ⟨x.nd, by simp, fun a ha b hb => ?_⟩
    have : b = p := by simpa using hb
    subst this
    exact fun z => n1 (z ▸ ha)
  · by_cases hi : i < as.length
    · rw [List.getElem?_append_left hi] at h1
      have hi2 : i < s.m.length := by rw [← x.len]; exact hi
      have h2' : (s.m ++ [c])[i]? = some c' := h2
      rw [List.getElem?_append_left hi2] at h2'
      obtain ⟨k1, k2, k3⟩ := x.own i a c' h1 h2'
      have hne : a ≠ p := fun z => n1 (z ▸ List.mem_of_getElem? h1)
      exact ⟨k1, k2.mono g fun ob e => by rw [upd_ne hne]; exact e, k3⟩
    · have hi' : i = as.length := by
        have := (List.getElem?_eq_some_iff.mp h1).1
        rw [List.length_append, List.length_singleton] at this
        omega
      subst hi'
      rw [List.getElem?_append_right (Nat.le_refl _)] at h1
      have h2' : (s.m ++ [c])[as.length]? = some c' := h2
      rw [x.len, List.getElem?_append_right (Nat.le_refl _)] at h2'
      simp at h1 h2'
      subst h1
      subst h2'
      exact ⟨n3, hc, fun _ => n2⟩
  · obtain ⟨v, h1, h2⟩ := x.slot i r h
    exact ⟨v, h1, h2.mono g⟩
/-- an object of one's own written -/
theorem Fit.write (x : Fit P w B as F σ H s) {i : Nat} {a : Addr} {c c' : Ct} {o : HO} (ha : as[i]? = some a) (hc : s.m[i]? = some c) (live : c ≠ .gone) (new : CtOk P w (upd H a o) F as a c') :
    Fit P w B as F σ (upd H a o) { s with m := s.m.set i c' } := by
  obtain ⟨k1, k2, k3⟩ := x.own i a c ha hc
  have fa := k3 live
  refine ⟨fun b ob e => ?_, x.froz, fun b ob e => ?_, x.fresh, ?_, x.nd, fun j b d h1 h2 => ?_, x.sll, x.slot, x.pre⟩
  · rw [upd_ne (ne_of_none e k1)]
    exact x.kept b ob e
  · rw [upd_ne (ne_of_none e fa)]
    exact x.fin b ob e
  · show as.length = (s.m.set i c').length
    rw [List.length_set]
    exact x.len
  · by_cases hj : j = i
    · subst hj
      rw [ha] at h1
      cases h1
      have h2' : (s.m.set j c')[j]? = some d := h2
      rw [List.getElem?_set_self (List.getElem?_eq_some_iff.mp hc).1] at h2'
      cases h2'
      exact ⟨k1, new, fun _ => fa⟩
    · have h2' : (s.m.set i c')[j]? = some d := h2
      rw [List.getElem?_set_ne (Ne.symm hj)] at h2'
      obtain ⟨q1, q2, q3⟩ := x.own j b d h1 h2'
      have hne : b ≠ a := fun z => by
        subst z
        obtain ⟨i1, e1⟩ := List.getElem?_eq_some_iff.mp ha
        obtain ⟨i2, e2⟩ := List.getElem?_eq_some_iff.mp h1
        exact hj ((List.getElem_inj x.nd).mp (e2.trans e1.symm))
      exact ⟨q1, q2.mono (Grow.refl F as) fun ob e => by rw [upd_ne hne]; exact e, q3⟩
/-- a name is stored -/
theorem Fit.setSlot (x : Fit P w B as F σ H s) {i : Nat} {v : V} {r : Rf} (h : RfOk F as v r) : Fit P w B as F (σ.set i (some v)) H { s with sl := s.sl.set i (some r) } := by
  refine ⟨x.kept, x.froz, x.fin, x.fresh, x.len, x.nd, x.own, ?_, fun j r' hj => ?_, x.pre⟩
  · show (σ.set i (some v)).length = (s.sl.set i (some r)).length
    rw [List.length_set, List.length_set]
    exact x.sll
  · have hj' : (s.sl.set i (some r))[j]? = some (some r') := hj
    by_cases e : j = i
    · subst e
      have hl : j < s.sl.length := by
        have := (List.getElem?_eq_some_iff.mp hj').1
        rwa [List.length_set] at this
      rw [List.getElem?_set_self hl] at hj'
      cases hj'
      exact ⟨v, by rw [List.getElem?_set_self (by rw [x.sll]; exact hl)], h⟩
    · rw [List.getElem?_set_ne (Ne.symm e)] at hj'
      obtain ⟨v', h1, h2⟩ := x.slot j r' hj'
      exact ⟨v', by rw [List.getElem?_set_ne (Ne.symm e)]; exact h1, h2⟩
/-- fewer slots are known -/
theorem Fit.weak (x : Fit P w B as F σ H s) {sl : List (Option Rf)} (hl : sl.length = s.sl.length) (h : ∀ (i : Nat) (r : Rf), sl[i]? = some (some r) → s.sl[i]? = some (some r)) : Fit P w B as F σ H { s with sl := sl } :=
  ⟨x.kept, x.froz, x.fin, x.fresh, x.len, x.nd, x.own, x.sll.trans hl.symm, fun i r e => x.slot i r (h i r e), x.pre⟩

/-! ### freezing -/
def frzR (i : Nat) (d : D) : Rf → Rf
  | .dat e => .dat e
  | .own j => if j = i then .dat d else .own j
def frzC (i : Nat) (d : D) : Ct → Ct
  | .gone => .gone
  | .lst xs => .lst (xs.map (frzR i d))
  | .dk kvs => .dk (kvs.map fun q => (q.1, frzR i d q.2))
  | .dn kvs => .dn (kvs.map fun q => (q.1, frzR i d q.2))
  | .dz o kvs => .dz o (kvs.map fun q => (q.1, frzR i d q.2))
def AS.frz (s : AS) (i : Nat) (d : D) : AS := ⟨s.sl.map (Option.map (frzR i d)), (s.m.map (frzC i d)).set i .gone⟩
theorem frzR_ok {F F' : Hp} {as : List Addr} {i : Nat} {d : D} {a : Addr} (e : Same F F') (ha : as[i]? = some a) (hd : Den F' (.ref a) d) : ∀ {v : V} {r : Rf}, RfOk F as v r → RfOk F' as v (frzR i d r)
  | v, .dat x, h => Den.mono e x v h
  | v, .own j, h => by
    show RfOk F' as v (if j = i then .dat d else .own j)
    by_cases hj : j = i
    · rw [if_pos hj]
      subst hj
      obtain ⟨b, h1, h2⟩ := h
      rw [ha] at h1
      cases h1
      rw [h2]
      exact hd
    · rw [if_neg hj]
      exact h
theorem Paired.mapR {α β γ : Type} {R : α → β → Prop} {S : α → γ → Prop} {f : β → γ} (h : ∀ a b, R a b → S a (f b)) : ∀ {l : List α} {m : List β}, Paired R l m → Paired S l (m.map f)
  | _, _, .nil => .nil
  | _, _, .cons r t => .cons (h _ _ r) (Paired.mapR h t)
theorem frzC_ok {F F' : Hp} {as : List Addr} {i : Nat} {d : D} {a b : Addr} (e : Same F F') (ha : as[i]? = some a) (hd : Den F' (.ref a) d) : ∀ {c : Ct}, CtOk P w H F as b c → CtOk P w H F' as b (frzC i d c)
  | .gone, h => h
  | .lst xs, h => let ⟨vs, q, r⟩ := h; ⟨vs, q, Paired.mapR (fun _ _ z => frzR_ok e ha hd z) r⟩
  | .dk xs, h => let ⟨vs, q, r⟩ := h; ⟨vs, q, Paired.mapR (fun _ _ z => ⟨z.1, frzR_ok e ha hd z.2⟩) r⟩
  | .dn xs, h => let ⟨vs, ⟨hd', o, ys, q, dd⟩, r⟩ := h; ⟨vs, ⟨hd', o, ys, q, dd.mono e⟩, Paired.mapR (fun _ _ z => ⟨z.1, frzR_ok e ha hd z.2⟩) r⟩
  | .dz o xs, h => let ⟨vs, ⟨hd', ys, q, dd⟩, r⟩ := h; ⟨vs, ⟨hd', ys, q, dd.mono e⟩, Paired.mapR (fun _ _ z => ⟨z.1, frzR_ok e ha hd z.2⟩) r⟩
/-- the object of a dict told -/
theorem Fit.pin (x : Fit P w B as F σ H s) {i : Nat} {kvs : List (D × Rf)} (h : s.m[i]? = some (.dn kvs)) : ∃ o, Fit P w B as F σ H { s with m := s.m.set i (.dz o kvs) } := by
  obtain ⟨a, ha⟩ := x.addr h
  obtain ⟨k1, ⟨vs, ⟨hd, o, xs, e, dd⟩, r⟩, k4⟩ := x.own i a _ ha h
  refine ⟨o, ⟨x.kept, x.froz, x.fin, x.fresh, ?_, x.nd, fun j b c h1 h2 => ?_, x.sll, x.slot, x.pre⟩⟩
  · show as.length = (s.m.set i _).length
    rw [List.length_set]
    exact x.len
  · have h2' : (s.m.set i (.dz o kvs))[j]? = some c := h2
    by_cases hj : j = i
    · subst hj
      rw [ha] at h1
      cases h1
      rw [List.getElem?_set_self (List.getElem?_eq_some_iff.mp h).1] at h2'
      cases h2'
      exact ⟨k1, ⟨vs, ⟨hd, xs, e, dd⟩, r⟩, fun _ => k4 (fun z => nomatch z)⟩
    · rw [List.getElem?_set_ne (Ne.symm hj)] at h2'
      exact x.own j b c h1 h2'
theorem Fit.freeze (x : Fit P w B as F σ H s) {i : Nat} {ds : List D} (h : s.m[i]? = some (.lst (ds.map .dat))) :
    ∃ F' a, as[i]? = some a ∧ Fit P w B as F' σ H (s.frz i (.list ds)) ∧ Grow F as F' as ∧ Den F' (.ref a) (.list ds) := by
  obtain ⟨a, ha⟩ := x.addr h
  obtain ⟨k1, ⟨vs, k2, k3⟩, k4⟩ := x.own i a _ ha h
  have fa := k4 (fun z => nomatch z)
  have e : Same F (upd F a (.lst vs)) := fun b o q => by rw [upd_ne (ne_of_none q fa)]; exact q
  have hd : Den (upd F a (.lst vs)) (.ref a) (.list ds) := .lst upd_same (DenL.mono e ds vs (rfl_dat.mp k3))
  refine ⟨upd F a (.lst vs), a, ha, ⟨x.kept, x.froz.trans e, fun b o q => ?_, fun b h1 h2 => ?_, ?_, x.nd, fun j b c h1 h2 => ?_, ?_, fun j r hj => ?_, x.pre⟩, ⟨e, [], by simp⟩, hd⟩
  · by_cases hb : b = a
    · subst hb
      rw [upd_same] at q
      cases q
      exact k2
    · rw [upd_ne hb] at q
      exact x.fin b o q
  · have : b ≠ a := fun z => h1 (z ▸ k1)
    rw [upd_ne this]
    exact x.fresh b h1 h2
  · show as.length = ((s.m.map (frzC i (.list ds))).set i .gone).length
    rw [List.length_set, List.length_map]
    exact x.len
  · have h2' : ((s.m.map (frzC i (.list ds))).set i .gone)[j]? = some c := h2
    by_cases hj : j = i
    · subst hj
      rw [ha] at h1
      cases h1
      rw [List.getElem?_set_self (by rw [List.length_map]; exact (List.getElem?_eq_some_iff.mp h).1)] at h2'
      cases h2'
      exact ⟨k1, ⟨_, k2⟩, fun z => (z rfl).elim⟩
    · rw [List.getElem?_set_ne (Ne.symm hj), List.getElem?_map] at h2'
      cases q : s.m[j]? with
      | none => rw [q] at h2'; cases h2'
      | some c0 =>
        rw [q] at h2'
        cases h2'
        obtain ⟨q1, q2, q3⟩ := x.own j b c0 h1 q
        refine ⟨q1, frzC_ok e ha hd q2, fun hc => ?_⟩
        have hne : b ≠ a := fun z => by
          subst z
          obtain ⟨i1, e1⟩ := List.getElem?_eq_some_iff.mp ha
          obtain ⟨i2, e2⟩ := List.getElem?_eq_some_iff.mp h1
          exact hj ((List.getElem_inj x.nd).mp (e2.trans e1.symm))
        rw [upd_ne hne]
        exact q3 fun z => hc (by subst z; rfl)
  · show σ.length = (s.sl.map _).length
    rw [List.length_map]
    exact x.sll
  · have hj' : (s.sl.map (Option.map (frzR i (.list ds))))[j]? = some (some r) := hj
    rw [List.getElem?_map] at hj'
    cases q : s.sl[j]? with
    | none => rw [q] at hj'; cases hj'
    | some o =>
      rw [q] at hj'
      cases o with
      | none => simp at hj'
      | some r0 =>
        simp at hj'
        subst hj'
        obtain ⟨v, h1, h2⟩ := x.slot j r0 q
        exact ⟨v, h1, frzR_ok e ha hd h2⟩
/-- behind a callee: it made new things, F' is known now -/
theorem Fit.after (x : Fit P w B as F σ H s) {F' H' : Hp} (k : Same H H') (e : Same F F') (f : Same F' H') (fr : ∀ a, H a ≠ none → F a = none → F' a = none) : Fit P w B as F' σ H' s ∧ Grow F as F' as := by
  have g : Grow F as F' as := ⟨e, [], by simp⟩
  refine ⟨⟨x.kept.trans k, x.froz.trans e, f, fun a h1 h2 => ?_, x.len, x.nd, fun i a c h1 h2 => ?_, x.sll, fun i r h => ?_, x.pre⟩, g⟩
  · refine fr a (fun z => ?_) (x.fresh a h1 h2)
    exact h1 (x.kept.free z)
  · obtain ⟨k1, k2, k3⟩ := x.own i a c h1 h2
    exact ⟨k1, k2.mono g fun o q => k a o q, fun hc => fr a k2.there (k3 hc)⟩
  · obtain ⟨v, h1, h2⟩ := x.slot i r h
    exact ⟨v, h1, h2.mono g⟩
/-- behind a callee that changed the object at as[i] -/
theorem Fit.after1 (x : Fit P w B as F σ H s) {F' H' : Hp} {i : Nat} {a : Addr} {c c' : Ct} (ha : as[i]? = some a) (hc : s.m[i]? = some c) (live : c ≠ .gone) (k : ∀ b o, b ≠ a → H b = some o → H' b = some o) (e : Same F F') (f : Same F' H')
    (fr : ∀ a, H a ≠ none → F a = none → F' a = none) (new : CtOk P w H' F' as a c') : Fit P w B as F' σ H' { s with m := s.m.set i c' } ∧ Grow F as F' as := by
  have g : Grow F as F' as := ⟨e, [], by simp⟩
  obtain ⟨k1, k2, k3⟩ := x.own i a c ha hc
  have fa := fr a k2.there (k3 live)
  refine ⟨⟨fun b o q => k b o (ne_of_none q k1) (x.kept b o q), x.froz.trans e, f, fun b h1 h2 => ?_, ?_, x.nd, fun j b d h1 h2 => ?_, x.sll, fun j r h => ?_, x.pre⟩, g⟩
  · refine fr b (fun z => ?_) (x.fresh b h1 h2)
    exact h1 (x.kept.free z)
  · show as.length = (s.m.set i c').length
    rw [List.length_set]
    exact x.len
  · have h2' : (s.m.set i c')[j]? = some d := h2
    by_cases hj : j = i
    · subst hj
      rw [ha] at h1
      cases h1
      rw [List.getElem?_set_self (List.getElem?_eq_some_iff.mp hc).1] at h2'
      cases h2'
      exact ⟨k1, new, fun _ => fa⟩
    · rw [List.getElem?_set_ne (Ne.symm hj)] at h2'
      obtain ⟨q1, q2, q3⟩ := x.own j b d h1 h2'
      have hne : b ≠ a := fun z => by
        subst z
        obtain ⟨i1, e1⟩ := List.getElem?_eq_some_iff.mp ha
        obtain ⟨i2, e2⟩ := List.getElem?_eq_some_iff.mp h1
        exact hj ((List.getElem_inj x.nd).mp (e2.trans e1.symm))
      exact ⟨q1, q2.mono g fun o q => k b o hne q, fun hc => fr b q2.there (q3 hc)⟩
  · obtain ⟨v, h1, h2⟩ := x.slot j r h
    exact ⟨v, h1, h2.mono g⟩
/-- the base forgotten, put anew -/
theorem Fit.base (x : Fit P w B as F σ H s) : Fit P w { G := B.G, F0 := ⟨F, as⟩ } as F σ H s :=
  ⟨x.kept, Same.refl F, x.fin, fun _ _ h => h, x.len, x.nd, x.own, x.sll, x.slot, [], by simp⟩
theorem Fit.unbase {F1 : Hp} {a1 : List Addr} (x : Fit P w { G := B.G, F0 := ⟨F1, a1⟩ } as F σ H s) (g : Grow B.F0.f B.F0.a F1 a1) (h1 : ∀ a, B.G a ≠ none → B.F0.f a = none → F1 a = none) : Fit P w B as F σ H s :=
  ⟨x.kept, g.f.trans x.froz, x.fin, fun a h2 h3 => x.fresh a h2 (h1 a h2 h3), x.len, x.nd, x.own, x.sll, x.slot, let ⟨l, e⟩ := g.a; let ⟨l2, e2⟩ := x.pre; ⟨l ++ l2, by rw [e2, e, List.append_assoc]⟩⟩
theorem Fit.grow (x : Fit P w B as F σ H s) : Grow B.F0.f B.F0.a F as := ⟨x.froz, x.pre⟩
end
end N
set_option Elab.async false
set_option linter.all false
set_option maxRecDepth 100000
set_option maxHeartbeats 4000000
namespace N
open PySem PySem.Spec PyProof.Rows L2

/-! ### abstract readings -/
section
variable (P : Program) (w : World) (G : Hp)
/-- from s the expression's reading comes to a reference r in a state s' with K r s' -/
def AE (t : TE) (s : AS) (K : Rf → AS → Prop) : Prop := ∀ F0 as F σ H, Fit P w ⟨G, F0⟩ as F σ H s → ∀ Q : VK,
  (∀ v H' F' as' r s', Grow F as F' as' → Fit P w ⟨G, F0⟩ as' F' σ H' s' → RfOk F' as' v r → K r s' → Q v H') → t σ H Q
def AT (t : TT) (s : AS) (K : Bool → AS → Prop) : Prop := ∀ F0 as F σ H, Fit P w ⟨G, F0⟩ as F σ H s → ∀ Q : Bool → Hp → Prop,
  (∀ b H' F' as' s', Grow F as F' as' → Fit P w ⟨G, F0⟩ as' F' σ H' s' → K b s' → Q b H') → t σ H Q
def AA (t : TA) (s : AS) (K : List Rf → AS → Prop) : Prop := ∀ F0 as F σ H, Fit P w ⟨G, F0⟩ as F σ H s → ∀ Q : List V → Hp → Prop,
  (∀ vs H' F' as' rs s', Grow F as F' as' → Fit P w ⟨G, F0⟩ as' F' σ H' s' → RfL F' as' vs rs → K rs s' → Q vs H') → t σ H Q
/-- an operation on two values; on a list of them -/
def AO (r : R2) (x y : Rf) (s : AS) (K : Rf → AS → Prop) : Prop := ∀ F0 as F σ H u v, Fit P w ⟨G, F0⟩ as F σ H s → RfOk F as u x → RfOk F as v y → ∀ Q : VK,
  (∀ v H' F' as' r s', Grow F as F' as' → Fit P w ⟨G, F0⟩ as' F' σ H' s' → RfOk F' as' v r → K r s' → Q v H') → r u v H Q
def AR (r : List V → Hp → VK → Prop) (xs : List Rf) (s : AS) (K : Rf → AS → Prop) : Prop := ∀ F0 as F σ H us, Fit P w ⟨G, F0⟩ as F σ H s → RfL F as us xs → ∀ Q : VK,
  (∀ v H' F' as' r s', Grow F as F' as' → Fit P w ⟨G, F0⟩ as' F' σ H' s' → RfOk F' as' v r → K r s' → Q v H') → r us H Q
/-- a target takes r -/
def AG (g : TG) (r : Rf) (s : AS) (K : AS → Prop) : Prop := ∀ F0 as F σ H v, Fit P w ⟨G, F0⟩ as F σ H s → RfOk F as v r → ∀ Q : L2.St → Hp → Prop,
  (∀ σ' H' F' as' s', Grow F as F' as' → Fit P w ⟨G, F0⟩ as' F' σ' H' s' → K s' → Q σ' H') → g v σ H Q
def AGs (g : TGs) (rs : List Rf) (s : AS) (K : AS → Prop) : Prop := ∀ F0 as F σ H vs, Fit P w ⟨G, F0⟩ as F σ H s → RfL F as vs rs → ∀ Q : L2.St → Hp → Prop,
  (∀ σ' H' F' as' s', Grow F as F' as' → Fit P w ⟨G, F0⟩ as' F' σ' H' s' → K s' → Q σ' H') → g vs σ H Q
/-- a store o[i] = v by values -/
def ASet (g : TSet) (o i v : Rf) (s : AS) (K : AS → Prop) : Prop := ∀ F0 as F σ H ov iv vv, Fit P w ⟨G, F0⟩ as F σ H s → RfOk F as ov o → RfOk F as iv i → RfOk F as vv v → ∀ Q : Hp → Prop,
  (∀ H' F' as' s', Grow F as F' as' → Fit P w ⟨G, F0⟩ as' F' σ H' s' → K s' → Q H') → g ov iv vv H Q
structure AK where
  nx : AS → Prop
  rt : Rf → AS → Prop
  bk : AS → Prop := fun _ => False
  ct : AS → Prop := fun _ => False
structure Lift (F0 : Fz) (K : AK) (E : Ends) : Prop where
  nx : ∀ as F σ H s, Fit P w ⟨G, F0⟩ as F σ H s → K.nx s → E.nx σ H
  rt : ∀ as F σ H v r s, Fit P w ⟨G, F0⟩ as F σ H s → RfOk F as v r → K.rt r s → E.rt v H
  bk : ∀ as F σ H s, Fit P w ⟨G, F0⟩ as F σ H s → K.bk s → E.bk σ H
  ct : ∀ as F σ H s, Fit P w ⟨G, F0⟩ as F σ H s → K.ct s → E.ct σ H
def AST (t : TS) (s : AS) (K : AK) : Prop := ∀ F0 as F σ H, Fit P w ⟨G, F0⟩ as F σ H s → ∀ E : Ends, Lift P w G F0 K E → t E σ H
end

section
variable {P : Program} {w : World} {G : Hp} {s : AS} {ta tb te : TE} {K : Rf → AS → Prop} {KF : PySem.W.Frag}
theorem AE.mono {K' : Rf → AS → Prop} (h : AE P w G te s K) (k : ∀ r s, K r s → K' r s) : AE P w G te s K' := fun F0 as F σ H x Q q => h F0 as F σ H x Q fun v H' F' as' r s' g x' rv kk => q v H' F' as' r s' g x' rv (k r s' kk)
theorem AT.mono {tt : TT} {K K' : Bool → AS → Prop} (h : AT P w G tt s K) (k : ∀ r s, K r s → K' r s) : AT P w G tt s K' := fun F0 as F σ H x Q q => h F0 as F σ H x Q fun v H' F' as' s' g x' kk => q v H' F' as' s' g x' (k v s' kk)
theorem Lift.mono {F0 : Fz} {K K' : AK} {E : Ends} (l : Lift P w G F0 K' E) (h1 : ∀ s, K.nx s → K'.nx s) (h2 : ∀ r s, K.rt r s → K'.rt r s) (h3 : ∀ s, K.bk s → K'.bk s) (h4 : ∀ s, K.ct s → K'.ct s) : Lift P w G F0 K E :=
  ⟨fun as F σ H s x k => l.nx as F σ H s x (h1 s k), fun as F σ H v r s x rv k => l.rt as F σ H v r s x rv (h2 r s k), fun as F σ H s x k => l.bk as F σ H s x (h3 s k), fun as F σ H s x k => l.ct as F σ H s x (h4 s k)⟩
theorem AST.mono {t : TS} {K K' : AK} (h : AST P w G t s K) (h1 : ∀ s, K.nx s → K'.nx s) (h2 : ∀ r s, K.rt r s → K'.rt r s) (h3 : ∀ s, K.bk s → K'.bk s) (h4 : ∀ s, K.ct s → K'.ct s) : AST P w G t s K' :=
  fun F0 as F σ H x E l => h F0 as F σ H x E (l.mono h1 h2 h3 h4)

theorem RfOk.dat {F : Hp} {as : List Addr} {v : V} {d : D} (h : Den F v d) : RfOk F as v (.dat d) := h
theorem RfOk.ownI {F : Hp} {as : List Addr} {i : Nat} {a : Addr} (h : as[i]? = some a) : RfOk F as (.ref a) (.own i) := ⟨a, h, rfl⟩
/-! ### expressions -/
theorem ae_var {i : Nat} {r : Rf} (h : s.sl[i]? = some (some r)) (k : K r s) : AE P w G (tVar i) s K := fun F0 as F σ H x Q q =>
  let ⟨v, h1, h2⟩ := x.slot i r h
  ⟨v, h1, q v H F as r s (Grow.refl F as) x h2 k⟩
theorem ae_int {i : Int} (k : K (.dat (.int i)) s) : AE P w G (tC (.int i)) s K := fun F0 as F σ H x Q q => q _ H F as _ s (Grow.refl F as) x (RfOk.dat (Den.int i)) k
theorem ae_str {i : Str} (k : K (.dat (.str i)) s) : AE P w G (tC (.str i)) s K := fun F0 as F σ H x Q q => q _ H F as _ s (Grow.refl F as) x (RfOk.dat (Den.str i)) k
theorem ae_bl {i : Bool} (k : K (.dat (.bool i)) s) : AE P w G (tC (.bl i)) s K := fun F0 as F σ H x Q q => q _ H F as _ s (Grow.refl F as) x (RfOk.dat (Den.bl i)) k
theorem ae_non (k : K (.dat .none) s) : AE P w G (tC .non) s K := fun F0 as F σ H x Q q => q _ H F as _ s (Grow.refl F as) x (RfOk.dat Den.non) k
theorem ae_op {r : R2} (h : AE P w G ta s fun x s1 => AE P w G tb s1 fun y s2 => AO P w G r x y s2 K) : AE P w G (tOp r ta tb) s K := by
  intro F0 as F σ H x Q q
  refine h F0 as F σ H x _ fun v1 H1 F1 as1 r1 s1 g1 x1 rv1 k1 => ?_
  refine k1 F0 as1 F1 σ H1 x1 _ fun v2 H2 F2 as2 r2 s2 g2 x2 rv2 k2 => ?_
  exact k2 F0 as2 F2 σ H2 v1 v2 x2 (rv1.mono g2) rv2 Q fun v H' F' as' r s' g x' rv k => q v H' F' as' r s' ((g1.trans g2).trans g) x' rv k
theorem ae_cb {r : List V → Hp → VK → Prop} {t : TA} (h : AA P w G t s fun xs s1 => AR P w G r xs s1 K) : AE P w G (tCB r t) s K := by
  intro F0 as F σ H x Q q
  refine h F0 as F σ H x _ fun v1 H1 F1 as1 r1 s1 g1 x1 rv1 k1 => ?_
  exact k1 F0 as1 F1 σ H1 v1 x1 rv1 Q fun v H' F' as' r s' g x' rv k => q v H' F' as' r s' (g1.trans g) x' rv k
theorem aa_nil {K : List Rf → AS → Prop} (k : K [] s) : AA P w G tNil s K := fun F0 as F σ H x Q q => q [] H F as [] s (Grow.refl F as) x .nil k
theorem aa_cons {K : List Rf → AS → Prop} {tr : TA} (h : AE P w G ta s fun x s1 => AA P w G tr s1 fun xs s2 => K (x :: xs) s2) : AA P w G (tCons ta tr) s K := by
  intro F0 as F σ H x Q q
  refine h F0 as F σ H x _ fun v1 H1 F1 as1 r1 s1 g1 x1 rv1 k1 => ?_
  refine k1 F0 as1 F1 σ H1 x1 _ fun v2 H2 F2 as2 r2 s2 g2 x2 rv2 k2 => ?_
  exact q _ H2 F2 as2 _ s2 (g1.trans g2) x2 (.cons (rv1.mono g2) rv2) k2
/-- references that are data -/
def dats : List Rf → Option (List D)
  | [] => some []
  | .dat d :: r => (dats r).map (d :: ·)
  | .own _ :: _ => none
theorem dats_eq : ∀ {xs : List Rf} {ds : List D}, dats xs = some ds → xs = ds.map .dat
  | [], _, h => by cases h; rfl
  | .own _ :: _, _, h => by cases h
  | .dat d :: r, ds, h => by
    have h' : (dats r).map (d :: ·) = some ds := h
    cases e : dats r with
    | none => rw [e] at h'; cases h'
    | some l =>
      rw [e] at h'
      cases h'
      rw [dats_eq e]
      rfl
theorem dats_map : ∀ ds : List D, dats (ds.map .dat) = some ds
  | [] => rfl
  | d :: ds => by
    show (dats (ds.map .dat)).map (d :: ·) = some (d :: ds)
    rw [dats_map ds]
    rfl
/-- a tuple of data -/
theorem ae_tup {t : TA} (h : AA P w G t s fun xs s1 => ∃ ds, dats xs = some ds ∧ ds.length ≤ sizeLine ∧ K (.dat (.tuple ds)) s1) : AE P w G (tTup t) s K := by
  intro F0 as F σ H x Q q
  refine h F0 as F σ H x _ fun vs H1 F1 as1 rs s1 g1 x1 rv1 ⟨ds, e, hl, k⟩ => ?_
  rw [dats_eq e] at rv1
  have hd := rfl_dat.mp rv1
  refine ⟨by rw [hd.length]; exact hl, fun p hp => ?_⟩
  obtain ⟨x2, g2⟩ := x1.newDat (o := .tup vs) hp
  exact q _ _ _ _ _ _ (g1.trans g2) x2 (RfOk.dat (Den.tup upd_same (DenL.mono g2.f _ _ hd))) k
/-- a list of data, frozen -/
theorem ae_lstD {t : TA} (h : AA P w G t s fun xs s1 => ∃ ds, dats xs = some ds ∧ ds.length ≤ sizeLine ∧ K (.dat (.list ds)) s1) : AE P w G (tLst t) s K := by
  intro F0 as F σ H x Q q
  refine h F0 as F σ H x _ fun vs H1 F1 as1 rs s1 g1 x1 rv1 ⟨ds, e, hl, k⟩ => ?_
  rw [dats_eq e] at rv1
  have hd := rfl_dat.mp rv1
  refine ⟨by rw [hd.length]; exact hl, fun p hp => ?_⟩
  obtain ⟨x2, g2⟩ := x1.newDat (o := .lst vs) hp
  exact q _ _ _ _ _ _ (g1.trans g2) x2 (RfOk.dat (Den.lst upd_same (DenL.mono g2.f _ _ hd))) k
/-- a list of one's own -/
theorem ae_lst {t : TA} (h : AA P w G t s fun xs s1 => xs.length ≤ sizeLine ∧ K (.own s1.m.length) { s1 with m := s1.m ++ [.lst xs] }) : AE P w G (tLst t) s K := by
  intro F0 as F σ H x Q q
  refine h F0 as F σ H x _ fun vs H1 F1 as1 rs s1 g1 x1 rv1 ⟨hl, k⟩ => ?_
  refine ⟨by rw [Paired.len rv1]; exact hl, fun p hp => ?_⟩
  have g0 : Grow F1 as1 F1 (as1 ++ [p]) := ⟨Same.refl _, [p], rfl⟩
  obtain ⟨x2, g2⟩ := x1.newOwn (o := .lst vs) (c := .lst rs) hp ⟨vs, upd_same, RfL.mono g0 rv1⟩
  exact q _ _ _ _ _ _ (g1.trans g2) x2 (RfOk.ownI (i := s1.m.length) (a := p) (by rw [← x1.len]; simp)) k
/-- what an expression gives is frozen -/
theorem ae_frz (h : AE P w G te s fun r s1 => match r with
    | .dat d => K (.dat d) s1
    | .own i => ∃ ds : List D, s1.m[i]? = some (.lst (ds.map .dat)) ∧ K (.dat (.list ds)) (s1.frz i (.list ds))) : AE P w G te s K := by
  intro F0 as F σ H x Q q
  refine h F0 as F σ H x _ fun v H1 F1 as1 r s1 g1 x1 rv k => ?_
  cases r with
  | dat d => exact q v H1 F1 as1 _ s1 g1 x1 rv k
  | own i =>
    obtain ⟨ds, hm, k⟩ := k
    obtain ⟨F', a, ha, x2, g2, hd⟩ := x1.freeze hm
    obtain ⟨b, hb, e⟩ := rv
    rw [ha] at hb
    cases hb
    rw [e]
    exact q _ H1 F' as1 _ _ (g1.trans g2) x2 (RfOk.dat hd) k
/-- an own list frozen ahead of a statement -/
theorem as_frz {t : TS} {K : AK} (i : Nat) (ds : List D) (hm : s.m[i]? = some (.lst (ds.map .dat))) (h : AST P w G t (s.frz i (.list ds)) K) : AST P w G t s K := by
  intro F0 as F σ H x E l
  obtain ⟨F', a, ha, x2, g2, hd⟩ := x.freeze hm
  exact h F0 as F' σ H x2 E l
theorem ae_frzS (i : Nat) (ds : List D) (hm : s.m[i]? = some (.lst (ds.map .dat))) (h : AE P w G te (s.frz i (.list ds)) K) : AE P w G te s K := by
  intro F0 as F σ H x Q q
  obtain ⟨F', a, ha, x2, g2, hd⟩ := x.freeze hm
  exact h F0 as F' σ H x2 Q fun v H' F1 as' r s' g => q v H' F1 as' r s' (g2.trans g)
/-- slots are forgotten -/
theorem as_weak {t : TS} {K : AK} (sl : List (Option Rf)) (hl : sl.length = s.sl.length) (hs : ∀ (i : Nat) (r : Rf), sl[i]? = some (some r) → s.sl[i]? = some (some r)) (h : AST P w G t { s with sl := sl } K) : AST P w G t s K :=
  fun F0 as F σ H x E l => h F0 as F σ H (x.weak hl hs) E l

/-! ### tests -/
section
variable {tt tu : TT} {K : Bool → AS → Prop}
theorem at_test (h : AE P w G te s fun r s1 => ∃ b, r = .dat (.bool b) ∧ K b s1) : AT P w G (tTest te) s K := by
  intro F0 as F σ H x Q q
  refine h F0 as F σ H x _ fun v H1 F1 as1 r s1 g1 x1 rv ⟨b, e, k⟩ => ?_
  subst e
  cases rv
  exact ⟨b, rfl, q b H1 F1 as1 s1 g1 x1 k⟩
theorem at_B (h : AE P w G te s fun r s1 => ∃ b, r = .dat (.bool b) ∧ K b s1) : AT P w G (tB te) s K := by
  intro F0 as F σ H x Q q
  refine h F0 as F σ H x _ fun v H1 F1 as1 r s1 g1 x1 rv ⟨b, e, k⟩ => ?_
  subst e
  cases rv
  exact ⟨b, rfl, q b H1 F1 as1 s1 g1 x1 k⟩
theorem at_not (h : AT P w G tt s fun b s1 => K (!b) s1) : AT P w G (tNot tt) s K := fun F0 as F σ H x Q q =>
  h F0 as F σ H x _ fun b H1 F1 as1 s1 g1 x1 k => q (!b) H1 F1 as1 s1 g1 x1 k
theorem at_and (h : AT P w G tt s fun b s1 => (b = true → AT P w G tu s1 K) ∧ (b = false → K false s1)) : AT P w G (tAnd tt tu) s K := fun F0 as F σ H x Q q =>
  h F0 as F σ H x _ fun b H1 F1 as1 s1 g1 x1 k => by
    cases b with
    | true => exact k.1 rfl F0 as1 F1 σ H1 x1 Q fun b H' F' as' s' g => q b H' F' as' s' (g1.trans g)
    | false => exact q false H1 F1 as1 s1 g1 x1 (k.2 rfl)
theorem at_or (h : AT P w G tt s fun b s1 => (b = true → K true s1) ∧ (b = false → AT P w G tu s1 K)) : AT P w G (tOr tt tu) s K := fun F0 as F σ H x Q q =>
  h F0 as F σ H x _ fun b H1 F1 as1 s1 g1 x1 k => by
    cases b with
    | true => exact q true H1 F1 as1 s1 g1 x1 (k.1 rfl)
    | false => exact k.2 rfl F0 as1 F1 σ H1 x1 Q fun b H' F' as' s' g => q b H' F' as' s' (g1.trans g)
/-- a list's truth, a tuple's, a bool's -/
def TrA (s : AS) : Rf → Bool → Prop
  | .dat (.list ds), b => b = !ds.isEmpty
  | .dat (.tuple ds), b => b = !ds.isEmpty
  | .dat (.bool c), b => b = c
  | .dat .none, b => b = false
  | .dat _, _ => False
  | .own i, b => ∃ xs, s.m[i]? = some (.lst xs) ∧ b = !xs.isEmpty
theorem isE {α β : Type} {l : List α} {m : List β} (h : l.length = m.length) : l.isEmpty = m.isEmpty := by
  cases l <;> cases m <;> first | rfl | simp at h
theorem at_truth (h : AE P w G te s fun r s1 => ∃ b, TrA s1 r b ∧ K b s1) : AT P w G (fun σ H Q => te σ H fun x H' => ∃ k, TruV KF x H' k ∧ Q k H') s K := by
  intro F0 as F σ H x Q q
  refine h F0 as F σ H x _ fun v H1 F1 as1 r s1 g1 x1 rv ⟨b, e, k⟩ => ?_
  refine ⟨b, ?_, q b H1 F1 as1 s1 g1 x1 k⟩
  cases r with
  | dat d =>
    cases d with
    | list ds =>
      cases rv with
      | lst h1 h2 =>
        have e : b = !ds.isEmpty := e
        exact .inl ⟨_, SqL.of (x1.fin _ _ h1), by rw [e, isE h2.length]⟩
    | tuple ds =>
      cases rv with
      | tup h1 h2 =>
        have e : b = !ds.isEmpty := e
        exact .inr (.inl ⟨_, SqT.of (x1.fin _ _ h1), by rw [e, isE h2.length]⟩)
    | bool c => cases rv; exact e
    | none => cases rv; exact e
    | int _ => exact (show False from e).elim
    | str _ => exact (show False from e).elim
    | dict _ => exact (show False from e).elim
  | own i =>
    obtain ⟨xs, hm, e⟩ := e
    obtain ⟨a, ha, rfl⟩ := rv
    obtain ⟨_, ⟨vs, hv, hr⟩, _⟩ := x1.own i a _ ha hm
    exact .inl ⟨vs, SqL.of hv, by rw [e, isE (Paired.len hr)]⟩
theorem ae_andV {K : Rf → AS → Prop} (h : AE P w G ta s fun r s1 => ∃ b, r = .dat (.bool b) ∧ (b = true → AE P w G tb s1 K) ∧ (b = false → K (.dat (.bool false)) s1)) : AE P w G (tAndV ta tb) s K := by
  intro F0 as F σ H x Q q
  refine h F0 as F σ H x _ fun v H1 F1 as1 r s1 g1 x1 rv ⟨b, e, k1, k2⟩ => ?_
  subst e
  cases rv
  refine ⟨b, rfl, ?_⟩
  cases b with
  | true => exact k1 rfl F0 as1 F1 σ H1 x1 Q fun v H' F' as' r s' g => q v H' F' as' r s' (g1.trans g)
  | false => exact q _ H1 F1 as1 _ s1 g1 x1 (RfOk.dat (Den.bl false)) (k2 rfl)
theorem ae_orV {K : Rf → AS → Prop} (h : AE P w G ta s fun r s1 => ∃ b, r = .dat (.bool b) ∧ (b = true → K (.dat (.bool true)) s1) ∧ (b = false → AE P w G tb s1 K)) : AE P w G (tOrV ta tb) s K := by
  intro F0 as F σ H x Q q
  refine h F0 as F σ H x _ fun v H1 F1 as1 r s1 g1 x1 rv ⟨b, e, k1, k2⟩ => ?_
  subst e
  cases rv
  refine ⟨b, rfl, ?_⟩
  cases b with
  | true => exact q _ H1 F1 as1 _ s1 g1 x1 (RfOk.dat (Den.bl true)) (k1 rfl)
  | false => exact k2 rfl F0 as1 F1 σ H1 x1 Q fun v H' F' as' r s' g => q v H' F' as' r s' (g1.trans g)
theorem ae_notV {K : Rf → AS → Prop} (h : AE P w G ta s fun r s1 => ∃ b, r = .dat (.bool b) ∧ K (.dat (.bool (!b))) s1) : AE P w G (tNotV ta) s K := by
  intro F0 as F σ H x Q q
  refine h F0 as F σ H x _ fun v H1 F1 as1 r s1 g1 x1 rv ⟨b, e, k1⟩ => ?_
  subst e
  cases rv
  exact ⟨b, rfl, q _ H1 F1 as1 _ s1 g1 x1 (RfOk.dat (Den.bl _)) k1⟩
end

/-! ### targets -/
section
variable {K : AS → Prop} {g : TG} {gs : TGs}
theorem ag_name {i : Nat} {r : Rf} (k : K { s with sl := s.sl.set i (some r) }) : AG P w G (gName i) r s K := fun F0 as F σ H v x rv Q q =>
  q _ H F as _ (Grow.refl F as) (x.setSlot rv) k
theorem ags_nil (k : K s) : AGs P w G gNil [] s K := fun F0 as F σ H vs x rv Q q => by
  cases rv
  exact ⟨rfl, q σ H F as s (Grow.refl F as) x k⟩
theorem ags_cons {r : Rf} {rs : List Rf} (h : AG P w G g r s fun s1 => AGs P w G gs rs s1 K) : AGs P w G (gCons g gs) (r :: rs) s K := fun F0 as F σ H vs x rv Q q => by
  cases rv with
  | cons r1 r2 =>
    refine ⟨_, _, rfl, h F0 as F σ H _ x r1 _ fun σ' H' F' as' s' g' x' k' => ?_⟩
    exact k' F0 as' F' σ' H' _ x' (RfL.mono g' r2) Q fun σ2 H2 F2 as2 s2 g2 x2 k2 => q σ2 H2 F2 as2 s2 (g'.trans g2) x2 k2
theorem ag_tup {n : Nat} {ds : List D} (hn : ds.length = n) (h : AGs P w G gs (ds.map .dat) s K) : AG P w G (gTup KF n gs) (.dat (.tuple ds)) s K := fun F0 as F σ H v x rv Q q => by
  cases rv with
  | tup h1 h2 =>
    exact ⟨_, _, rfl, SqT.of (x.fin _ _ h1), by rw [h2.length]; exact hn, h F0 as F σ H _ x (rfl_dat.mpr h2) Q q⟩
theorem ag_sub {to ti : TE} {st : TSet} {v : Rf} (h : AE P w G to s fun o s1 => AE P w G ti s1 fun i s2 => ASet P w G st o i v s2 K) : AG P w G (gSub to ti st) v s K := by
  intro F0 as F σ H vv x rv Q q
  refine h F0 as F σ H x _ fun v1 H1 F1 as1 r1 s1 g1 x1 rv1 k1 => ?_
  refine k1 F0 as1 F1 σ H1 x1 _ fun v2 H2 F2 as2 r2 s2 g2 x2 rv2 k2 => ?_
  exact k2 F0 as2 F2 σ H2 v1 v2 vv x2 (rv1.mono g2) rv2 (rv.mono (g1.trans g2)) _ fun H' F' as' s' g x' k => q σ H' F' as' s' ((g1.trans g2).trans g) x' k
end

/-! ### statements -/
section
variable {K : AK} {t u : TS} {g : TG} {tt : TT}
theorem as_next (k : K.nx s) : AST P w G tNext s K := fun F0 as F σ H x E l => l.nx as F σ H s x k
theorem as_cont (k : K.ct s) : AST P w G tCont s K := fun F0 as F σ H x E l => l.ct as F σ H s x k
theorem as_break (k : K.bk s) : AST P w G tBreak s K := fun F0 as F σ H x E l => l.bk as F σ H s x k
theorem as_never (k : False) : AST P w G tNever s K := k.elim
theorem as_seq (h : AST P w G t s { K with nx := fun s1 => AST P w G u s1 K }) : AST P w G (tSeq t u) s K := fun F0 as F σ H x E l =>
  h F0 as F σ H x _ ⟨fun as1 F1 σ1 H1 s1 x1 k => k F0 as1 F1 σ1 H1 x1 E l, l.rt, l.bk, l.ct⟩
theorem as_asg (h : AE P w G te s fun r s1 => AG P w G g r s1 K.nx) : AST P w G (tAsg te g) s K := fun F0 as F σ H x E l =>
  h F0 as F σ H x _ fun v H1 F1 as1 r s1 g1 x1 rv k => k F0 as1 F1 σ H1 v x1 rv _ fun σ' H' F' as' s' _ x' k' => l.nx as' F' σ' H' s' x' k'
theorem as_set {i : Nat} (h : AE P w G te s fun r s1 => K.nx { s1 with sl := s1.sl.set i (some r) }) : AST P w G (tAsg te (gName i)) s K := as_asg (h.mono fun _ _ k => ag_name k)
theorem as_ret (h : AE P w G te s K.rt) : AST P w G (tRet te) s K := fun F0 as F σ H x E l =>
  h F0 as F σ H x _ fun v H1 F1 as1 r s1 g1 x1 rv k => l.rt as1 F1 σ H1 v r s1 x1 rv k
theorem as_retN (k : K.rt (.dat .none) s) : AST P w G tRetN s K := fun F0 as F σ H x E l => l.rt as F σ H .non _ s x (RfOk.dat Den.non) k
theorem as_drop (h : AE P w G te s fun _ s1 => K.nx s1) : AST P w G (tDrop te) s K := fun F0 as F σ H x E l =>
  h F0 as F σ H x _ fun v H1 F1 as1 r s1 g1 x1 rv k => l.nx as1 F1 σ H1 s1 x1 k
theorem as_if (h : AT P w G tt s fun b s1 => (b = true → AST P w G t s1 K) ∧ (b = false → AST P w G u s1 K)) : AST P w G (tIfS tt t u) s K := fun F0 as F σ H x E l =>
  h F0 as F σ H x _ fun b H1 F1 as1 s1 g1 x1 k => by
    cases b with
    | true => exact k.1 rfl F0 as1 F1 σ H1 x1 E l
    | false => exact k.2 rfl F0 as1 F1 σ H1 x1 E l
theorem as_aug {i : Nat} {f : Int → Int → Int} {a : Int} (hx : s.sl[i]? = some (some (.dat (.int a)))) (h : AE P w G te s fun r s1 => ∃ b, r = .dat (.int b) ∧ K.nx { s1 with sl := s1.sl.set i (some (.dat (.int (f a b)))) }) : AST P w G (tAug i te (ipI f)) s K := by
  intro F0 as F σ H x E l
  obtain ⟨v, h1, h2⟩ := x.slot i _ hx
  refine ⟨v, h1, h F0 as F σ H x _ fun y H1 F1 as1 r s1 g1 x1 rv ⟨b, e, k⟩ => ?_⟩
  subst e
  cases h2
  cases rv
  exact ⟨a, b, rfl, rfl, l.nx _ _ _ _ _ (x1.setSlot (show RfOk _ _ _ (.dat (.int _)) from Den.int _)) k⟩
/-- while: the invariant with its measure -/
theorem as_while (I : Nat → AS → Prop) (m0 : Nat) (h0 : I m0 s) (hs : ∀ m s, I m s → AT P w G tt s fun b s1 => (b = true → AST P w G t s1 { K with nx := fun s' => ∃ m', m' < m ∧ I m' s', ct := fun s' => ∃ m', m' < m ∧ I m' s', bk := K.nx }) ∧ (b = false → K.nx s1)) :
    AST P w G (tWhile tt t) s K := by
  intro F0 as F σ H x E l
  refine ⟨fun m σ H => ∃ as F s, Fit P w ⟨G, F0⟩ as F σ H s ∧ I m s, ⟨m0, as, F, s, x, h0⟩, fun m σ H ⟨as, F, s, x, i⟩ => ?_⟩
  refine hs m s i F0 as F σ H x _ fun b H1 F1 as1 s1 g1 x1 k => ?_
  cases b with
  | true =>
    refine ⟨fun σ' H' => ∃ m', m' < m ∧ ∃ as F s, Fit P w ⟨G, F0⟩ as F σ' H' s ∧ I m' s, fun σ' H' ⟨m', hm, q⟩ => ⟨m', hm, q⟩, ?_⟩
    exact k.1 rfl F0 as1 F1 σ H1 x1 _ ⟨fun as F σ H s x ⟨m', hm, i⟩ => ⟨m', hm, as, F, s, x, i⟩, l.rt, fun as F σ H s x k => l.nx as F σ H s x k, fun as F σ H s x ⟨m', hm, i⟩ => ⟨m', hm, as, F, s, x, i⟩⟩
  | false => exact l.nx as1 F1 σ H1 s1 x1 (k.2 rfl)
end

/-- the object of a dict told -/
theorem ae_pin {i : Nat} {kvs : List (D × Rf)} (h : s.m[i]? = some (.dn kvs)) (k : ∀ o, AE P w G te { s with m := s.m.set i (.dz o kvs) } K) : AE P w G te s K := by
  intro F0 as F σ H x Q q
  obtain ⟨o, x2⟩ := x.pin h
  exact k o F0 as F σ H x2 Q q

/-! ### what is walked -/
/-- the items that come; the states in which they do -/
def Wk (P : Program) (w : World) (G : Hp) (F0 F1 : Fz) (J : It) (items : List Rf) (ok : AS → Prop) : Prop := ∀ as F σ H s, Fit P w ⟨G, F0⟩ as F σ H s → Grow F1.f F1.a F as → ok s → ∀ i,
  (∀ r, items[i]? = some r → J.go i H ∧ ∀ x H', J.yld i H x H' → ∃ F', Grow F as F' as ∧ Fit P w ⟨G, F0⟩ as F' σ H' s ∧ RfOk F' as x r) ∧ (items.length ≤ i → J.stop i H)
section
variable (P : Program) (w : World) (G : Hp)
def AI (t : TI) (s : AS) (K : List Rf → (AS → Prop) → AS → Prop) : Prop := ∀ F0 as F σ H, Fit P w ⟨G, F0⟩ as F σ H s → ∀ R : It → Hp → Prop,
  (∀ J H' F' as' items ok s', Grow F as F' as' → Fit P w ⟨G, F0⟩ as' F' σ H' s' → Wk P w G F0 ⟨F', as'⟩ J items ok → K items ok s' → R J H') → t σ H R
end
theorem Wk.base {F0 F1 F2 : Fz} {J : It} {items : List Rf} {ok : AS → Prop} (h : Wk P w G F0 F1 J items ok) (g0 : Grow F0.f F0.a F2.f F2.a) (h1 : ∀ a, G a ≠ none → F0.f a = none → F2.f a = none) : Wk P w G F2 F1 J items ok := by
  intro as F σ H s x e o i
  have x' : Fit P w ⟨G, F0⟩ as F σ H s := Fit.unbase (B := ⟨G, F0⟩) x g0 h1
  obtain ⟨q1, q2⟩ := h as F σ H s x' e o i
  refine ⟨fun r hr => ?_, q2⟩
  obtain ⟨g, q⟩ := q1 r hr
  refine ⟨g, fun y H' hy => ?_⟩
  obtain ⟨F', g', x2, rv⟩ := q y H' hy
  exact ⟨F', g', ⟨x2.kept, x.froz.trans g'.f, x2.fin, fun a hG hF => x2.fresh a hG (by
    cases q : F0.f a with
    | none => rfl
    | some o =>
      have z : F2.f a = some o := g0.f a o q
      have hF' : F2.f a = none := hF
      rw [z] at hF'; cases hF'), x2.len, x2.nd, x2.own, x2.sll, x2.slot, x.pre⟩, rv⟩
/-- for: the invariant by the turn -/
theorem as_for {K : AK} {wi : TI} {g : TG} {tb : TS} (h : AI P w G wi s fun items ok s1 => ∃ I : Nat → AS → Prop, I 0 s1 ∧ (∀ i s, I i s → i ≤ items.length → ok s) ∧
    (∀ i r s, items[i]? = some r → I i s → AG P w G g r s fun s2 => AST P w G tb s2 { K with nx := I (i + 1), ct := I (i + 1), bk := K.nx }) ∧ (∀ s, I items.length s → K.nx s)) : AST P w G (tFor wi g tb) s K := by
  intro F0 as F σ H x E l
  refine h F0 as F σ H x _ fun J H1 F1 as1 items ok s1 g1 x1 wk ⟨I, i0, iok, step, fin⟩ => ?_
  have fr : ∀ a, G a ≠ none → F0.f a = none → F1 a = none := fun a p q => x1.fresh a p q
  have g0 : Grow F0.f F0.a F1 as1 := x1.grow
  have wk' := wk.base (F2 := ⟨F1, as1⟩) g0 fr
  have l' : Lift P w G ⟨F1, as1⟩ K E := ⟨fun as F σ H s x k => l.nx as F σ H s (Fit.unbase (B := ⟨G, F0⟩) x g0 fr) k, fun as F σ H v r s x rv k => l.rt as F σ H v r s (Fit.unbase (B := ⟨G, F0⟩) x g0 fr) rv k,
    fun as F σ H s x k => l.bk as F σ H s (Fit.unbase (B := ⟨G, F0⟩) x g0 fr) k, fun as F σ H s x k => l.ct as F σ H s (Fit.unbase (B := ⟨G, F0⟩) x g0 fr) k⟩
  refine ⟨fun i m σ H => m = items.length - i ∧ i ≤ items.length ∧ ∃ as F s, Fit P w ⟨G, ⟨F1, as1⟩⟩ as F σ H s ∧ I i s, ⟨items.length, by simp, Nat.zero_le _, as1, F1, s1, x1.base, i0⟩, ?_⟩
  rintro i m σ2 H2 ⟨rfl, hi, as2, F2, s2, x2, i2⟩
  obtain ⟨q1, q2⟩ := wk' as2 F2 σ2 H2 s2 x2 x2.grow (iok i s2 i2 hi) i
  by_cases hlt : i < items.length
  · obtain ⟨go, yl⟩ := q1 items[i] (List.getElem?_eq_getElem hlt)
    refine .inr ⟨go, fun σ' H' => ∃ as F s, Fit P w ⟨G, ⟨F1, as1⟩⟩ as F σ' H' s ∧ I (i + 1) s, fun σ' H' q => ⟨items.length - (i + 1), by omega, rfl, hlt, q⟩, fun y H' hy => ?_⟩
    obtain ⟨F3, g3, x3, r3⟩ := yl y H' hy
    refine step i items[i] s2 (List.getElem?_eq_getElem hlt) i2 ⟨F1, as1⟩ as2 F3 σ2 H' y x3 r3 _ fun σ4 H4 F4 as4 s4 g4 x4 k4 => ?_
    exact k4 ⟨F1, as1⟩ as4 F4 σ4 H4 x4 _ ⟨fun as F σ H s x k => ⟨as, F, s, x, k⟩, l'.rt, fun as F σ H s x k => l'.nx as F σ H s x k, fun as F σ H s x k => ⟨as, F, s, x, k⟩⟩
  · have e : i = items.length := by omega
    subst e
    exact .inl ⟨q2 (Nat.le_refl _), l'.nx as2 F2 σ2 H2 s2 x2 (fin s2 i2)⟩
end
end N
set_option Elab.async false
set_option linter.all false
set_option maxRecDepth 100000
set_option maxHeartbeats 4000000
namespace N
open PySem PySem.Spec PyProof.Rows L2

/-! ### data without dicts are read -/
mutual
def noDict : D → Bool
  | .none => true
  | .bool _ => true
  | .int _ => true
  | .str _ => true
  | .list ds => noDicts ds
  | .tuple ds => noDicts ds
  | .dict _ => false
def noDicts : List D → Bool
  | [] => true
  | d :: ds => noDict d && noDicts ds
end
theorem noDicts_mem : ∀ {ds : List D} {d : D}, noDicts ds = true → d ∈ ds → noDict d = true
  | x :: xs, d, h, hm => by
    simp only [noDicts, Bool.and_eq_true] at h
    rcases List.mem_cons.mp hm with e | hm
    · rw [e]; exact h.1
    · exact noDicts_mem h.2 hm
theorem noDicts_of : ∀ {ds : List D}, (∀ d ∈ ds, noDict d = true) → noDicts ds = true
  | [], _ => rfl
  | d :: ds, h => by
    simp only [noDicts, Bool.and_eq_true]
    exact ⟨h d List.mem_cons_self, noDicts_of fun x hx => h x (List.mem_cons_of_mem _ hx)⟩
section
variable {K : PySem.W.Frag} {H : Hp}
mutual
theorem den_dp : ∀ (d : D) (v : V), Den H v d → noDict d = true → Dp K H v d
  | .none, _, h, _ => by cases h; exact .non
  | .bool b, _, h, _ => by cases h; exact .bl b
  | .int i, _, h, _ => by cases h; exact .int i
  | .str x, _, h, _ => by cases h; exact .str x
  | .list ds, _, h, k => by
    simp only [noDict] at k
    cases h with
    | lst h1 h2 => exact .lst (SqL.of h1) (denL_dp ds _ h2 k)
  | .tuple ds, _, h, k => by
    simp only [noDict] at k
    cases h with
    | tup h1 h2 => exact .tup (SqT.of h1) (denL_dp ds _ h2 k)
  | .dict _, _, _, k => by simp [noDict] at k
theorem denL_dp : ∀ (ds : List D) (vs : List V), DenL H vs ds → noDicts ds = true → DpAll K H vs ds
  | [], _, h, _ => by cases h; exact .nil
  | d :: ds, _, h, k => by
    simp only [noDicts, Bool.and_eq_true] at k
    cases h with
    | cons h1 h2 => exact .cons (den_dp d _ h1 k.1) (denL_dp ds _ h2 k.2)
end
end
section
variable {X : Cx} {pins : List (Addr × Obj)} {σ : L2.St} {H : Hp} {s : Shared}
theorem den_reads (I : Inv X pins σ H s) {d : D} {v : V} {u : Value} (h : Den H v d) (k : noDict d = true) (r : RelV v u) : ∃ as, Reads s.heap u d as := Dp.reads I d v u (den_dp d v h k) r
end

/-! ### == of alike data -/
section
variable {s : Shared} {A : Around}
open PySem.W PySem.SeqAt
theorem rcAt_alike {da db : PyData} {a b : Value} {as bs : List Addr} (ra : Reads s.heap a da as) (rb : Reads s.heap b db bs) (h : alike da db = true) (hu : A.units + min da.depth db.depth < cLine) : RcAt A s a b (PyData.eqv da db) := by
  cases ra with
  | none =>
    match db, rb, h with
    | .none, .none, _ => exact RcAt.none_none
    | .bool _, _, h => exact (nomatch h)
    | .int _, _, h => exact (nomatch h)
    | .str _, _, h => exact (nomatch h)
    | .list _, _, h => exact (nomatch h)
    | .dict _, _, h => exact (nomatch h)
    | .tuple _, _, h => exact (nomatch h)
  | bool x =>
    match db, rb, h with
    | .bool _, .bool _, _ => exact RcAt.bool_bool _ _
    | .none, _, h => exact (nomatch h)
    | .int _, _, h => exact (nomatch h)
    | .str _, _, h => exact (nomatch h)
    | .list _, _, h => exact (nomatch h)
    | .dict _, _, h => exact (nomatch h)
    | .tuple _, _, h => exact (nomatch h)
  | int x t =>
    match db, rb, h with
    | .int _, .int _ _, _ => exact RcAt.int_int _ _ _ _
    | .none, _, h => exact (nomatch h)
    | .bool _, _, h => exact (nomatch h)
    | .str _, _, h => exact (nomatch h)
    | .list _, _, h => exact (nomatch h)
    | .dict _, _, h => exact (nomatch h)
    | .tuple _, _, h => exact (nomatch h)
  | str x t =>
    match db, rb, h with
    | .str _, .str _ _, _ => exact RcAt.str_str _ _ _ _
    | .none, _, h => exact (nomatch h)
    | .bool _, _, h => exact (nomatch h)
    | .int _, _, h => exact (nomatch h)
    | .list _, _, h => exact (nomatch h)
    | .dict _, _, h => exact (nomatch h)
    | .tuple _, _, h => exact (nomatch h)
  | dict => exact absurd h (by cases db <;> simp [alike])
  | @list l o vs n xs as₁ h1 h2 h3 h4 =>
    cases db with
    | list ys =>
      cases rb with
      | @list l' o' vs' n' _ bs₁ k1 k2 k3 k4 =>
        have hl : s.heap.IsList l vs := ⟨_, h1, h2, _, h3⟩
        have hl' : s.heap.IsList l' vs' := ⟨_, k1, k2, _, k3⟩
        have hal : alikeAll xs ys = true := by simpa [alike] using h
        have n1 : vs.size = xs.length := by simpa using ReadsAll.length _ _ _ h4
        have n2 : vs'.size = ys.length := by simpa using ReadsAll.length _ _ _ k4
        have he : ∀ j (j1 : j < vs.size) (j2 : j < vs'.size), EqAt A.in1 s vs[j] vs'[j] (pairEq xs ys j) := fun j j1 j2 => by
          have := eqAt_alikeAll xs ys A.in1 s vs.toList vs'.toList _ _ h4 k4 hal (room_in hu) j (by simpa using j1) (by simpa using j2)
          simpa using this
        show RcAt A s (.ref l) (.ref l') (PyData.eqvAll xs ys)
        by_cases hsz : vs.size = vs'.size
        · rw [← eqvAll_same_length (by omega : xs.length = ys.length), ← n1]
          exact RcAt.lists hl hl' hsz (room_here hu) he
        · rw [eqvAll_other_length (by omega : xs.length ≠ ys.length)]
          exact RcAt.lists_lengths hl hl' (by simpa using hsz) (room_here hu)
    | _ => exact absurd h (by simp [alike])
  | @tuple l o vs n xs as₁ h1 h2 h3 h4 =>
    cases db with
    | tuple ys =>
      cases rb with
      | @tuple l' o' vs' n' _ bs₁ k1 k2 k3 k4 =>
        have hl : s.heap.IsTuple l vs := ⟨_, h1, h2, _, h3⟩
        have hl' : s.heap.IsTuple l' vs' := ⟨_, k1, k2, _, k3⟩
        have hal : alikeAll xs ys = true := by simpa [alike] using h
        have n1 : vs.size = xs.length := by simpa using ReadsAll.length _ _ _ h4
        have n2 : vs'.size = ys.length := by simpa using ReadsAll.length _ _ _ k4
        have he : ∀ j (j1 : j < vs.size) (j2 : j < vs'.size), EqAt A.in1 s vs[j] vs'[j] (pairEq xs ys j) := fun j j1 j2 => by
          have := eqAt_alikeAll xs ys A.in1 s vs.toList vs'.toList _ _ h4 k4 hal (room_in hu) j (by simpa using j1) (by simpa using j2)
          simpa using this
        show RcAt A s (.ref l) (.ref l') (PyData.eqvAll xs ys)
        rw [← eqvAll_eq xs ys, ← n1, ← n2]
        exact RcAt.tuples hl hl' (room_here hu) he
    | _ => exact absurd h (by simp [alike])
theorem rcNeAt_alike {da db : PyData} {a b : Value} {as bs : List Addr} (ra : Reads s.heap a da as) (rb : Reads s.heap b db bs) (h : alike da db = true) (hu : A.units + min da.depth db.depth < cLine) : RcNeAt A s a b (!PyData.eqv da db) := by
  cases ra with
  | none =>
    match db, rb, h with
    | .none, .none, _ => exact RcNeAt.none_none
    | .bool _, _, h => exact (nomatch h)
    | .int _, _, h => exact (nomatch h)
    | .str _, _, h => exact (nomatch h)
    | .list _, _, h => exact (nomatch h)
    | .dict _, _, h => exact (nomatch h)
    | .tuple _, _, h => exact (nomatch h)
  | bool x =>
    match db, rb, h with
    | .bool _, .bool _, _ => exact RcNeAt.bool_bool _ _
    | .none, _, h => exact (nomatch h)
    | .int _, _, h => exact (nomatch h)
    | .str _, _, h => exact (nomatch h)
    | .list _, _, h => exact (nomatch h)
    | .dict _, _, h => exact (nomatch h)
    | .tuple _, _, h => exact (nomatch h)
  | int x t =>
    match db, rb, h with
    | .int _, .int _ _, _ => exact RcNeAt.int_int _ _ _ _
    | .none, _, h => exact (nomatch h)
    | .bool _, _, h => exact (nomatch h)
    | .str _, _, h => exact (nomatch h)
    | .list _, _, h => exact (nomatch h)
    | .dict _, _, h => exact (nomatch h)
    | .tuple _, _, h => exact (nomatch h)
  | str x t =>
    match db, rb, h with
    | .str _, .str _ _, _ => exact RcNeAt.str_str _ _ _ _
    | .none, _, h => exact (nomatch h)
    | .bool _, _, h => exact (nomatch h)
    | .int _, _, h => exact (nomatch h)
    | .list _, _, h => exact (nomatch h)
    | .dict _, _, h => exact (nomatch h)
    | .tuple _, _, h => exact (nomatch h)
  | dict => exact absurd h (by cases db <;> simp [alike])
  | @list l o vs n xs as₁ h1 h2 h3 h4 =>
    cases db with
    | list ys =>
      cases rb with
      | @list l' o' vs' n' _ bs₁ k1 k2 k3 k4 =>
        have hl : s.heap.IsList l vs := ⟨_, h1, h2, _, h3⟩
        have hl' : s.heap.IsList l' vs' := ⟨_, k1, k2, _, k3⟩
        have hal : alikeAll xs ys = true := by simpa [alike] using h
        have n1 : vs.size = xs.length := by simpa using ReadsAll.length _ _ _ h4
        have n2 : vs'.size = ys.length := by simpa using ReadsAll.length _ _ _ k4
        have he : ∀ j (j1 : j < vs.size) (j2 : j < vs'.size), EqAt A.in1 s vs[j] vs'[j] (pairEq xs ys j) := fun j j1 j2 => by
          have := eqAt_alikeAll xs ys A.in1 s vs.toList vs'.toList _ _ h4 k4 hal (room_in hu) j (by simpa using j1) (by simpa using j2)
          simpa using this
        show RcNeAt A s (.ref l) (.ref l') (!PyData.eqvAll xs ys)
        by_cases hsz : vs.size = vs'.size
        · rw [← eqvAll_same_length (by omega : xs.length = ys.length), ← n1]
          exact RcNeAt.lists hl hl' hsz (room_here hu) he
        · rw [eqvAll_other_length (by omega : xs.length ≠ ys.length)]
          exact RcNeAt.lists_lengths hl hl' (by simpa using hsz) (room_here hu)
    | _ => exact absurd h (by simp [alike])
  | @tuple l o vs n xs as₁ h1 h2 h3 h4 =>
    cases db with
    | tuple ys =>
      cases rb with
      | @tuple l' o' vs' n' _ bs₁ k1 k2 k3 k4 =>
        have hl : s.heap.IsTuple l vs := ⟨_, h1, h2, _, h3⟩
        have hl' : s.heap.IsTuple l' vs' := ⟨_, k1, k2, _, k3⟩
        have hal : alikeAll xs ys = true := by simpa [alike] using h
        have n1 : vs.size = xs.length := by simpa using ReadsAll.length _ _ _ h4
        have n2 : vs'.size = ys.length := by simpa using ReadsAll.length _ _ _ k4
        have he : ∀ j (j1 : j < vs.size) (j2 : j < vs'.size), EqAt A.in1 s vs[j] vs'[j] (pairEq xs ys j) := fun j j1 j2 => by
          have := eqAt_alikeAll xs ys A.in1 s vs.toList vs'.toList _ _ h4 k4 hal (room_in hu) j (by simpa using j1) (by simpa using j2)
          simpa using this
        show RcNeAt A s (.ref l) (.ref l') (!PyData.eqvAll xs ys)
        rw [← eqvAll_eq xs ys, ← n1, ← n2]
        exact RcNeAt.tuples hl hl' (room_here hu) he
    | _ => exact absurd h (by simp [alike])
end
/-- the two may be asked whether they are == -/
def eqOk (d e : D) : Bool := PySem.W.alike d e && (noDict d && (noDict e && decide (d.depth ≤ 64)))
theorem eqOk_of {d e : D} (h : eqOk d e = true) : PySem.W.alike d e = true ∧ noDict d = true ∧ noDict e = true ∧ d.depth ≤ 64 := by
  unfold eqOk at h
  rw [Bool.and_eq_true, Bool.and_eq_true, Bool.and_eq_true, decide_eq_true_eq] at h
  exact h
def rEqA : R2 := fun x y H Q => ∃ d e, Den H x d ∧ Den H y e ∧ eqOk d e = true ∧ Q (.bl (PyData.eqv d e)) H
def rNeA : R2 := fun x y H Q => ∃ d e, Den H x d ∧ Den H y e ∧ eqOk d e = true ∧ Q (.bl (!PyData.eqv d e)) H
section
variable {X : Cx}
theorem op_eqA (hu : X.A.units + 64 < cLine) : OpR X (compareOp .Eq) rEqA := by
  intro pins s σ H x y v u Q I rx ry ⟨d, e, hd, he, k, q⟩
  obtain ⟨k1, k2, k3, k4⟩ := eqOk_of k
  obtain ⟨as, r1⟩ := den_reads I hd k2 rx
  obtain ⟨bs, r2⟩ := den_reads I he k3 ry
  exact rcAt_alike (A := X.A) r1 r2 k1 (by have := Nat.min_le_left d.depth e.depth; omega) _ _ _ _ ⟨.bl _, H, I, rfl, q⟩
theorem op_neA (hu : X.A.units + 64 < cLine) : OpR X (compareOp .NotEq) rNeA := by
  intro pins s σ H x y v u Q I rx ry ⟨d, e, hd, he, k, q⟩
  obtain ⟨k1, k2, k3, k4⟩ := eqOk_of k
  obtain ⟨as, r1⟩ := den_reads I hd k2 rx
  obtain ⟨bs, r2⟩ := den_reads I he k3 ry
  exact rcNeAt_alike (A := X.A) r1 r2 k1 (by have := Nat.min_le_left d.depth e.depth; omega) _ _ _ _ ⟨.bl _, H, I, rfl, q⟩
end
/-- for alike data == is being the same -/
theorem eqv_same {d e : D} (h : PySem.W.alike d e = true) : PyData.eqv d e = true ↔ d = e := by
  have : ∀ (d e : D), PySem.W.alike d e = true → PyData.eqv d e = true → d = e := by
    intro d
    exact PyData.rec (motive_1 := fun d => ∀ e, PySem.W.alike d e = true → PyData.eqv d e = true → d = e)
      (motive_2 := fun ds => ∀ es, PySem.W.alikeAll ds es = true → PyData.eqvAll ds es = true → ds = es) (motive_3 := fun _ => True) (motive_4 := fun _ => True)
      (fun e h k => by cases e <;> first | rfl | simp [PySem.W.alike] at h)
      (fun b e h k => by
        cases e with
        | bool c => cases b <;> cases c <;> first | rfl | simp [PyData.eqv] at k
        | _ => simp [PySem.W.alike] at h)
      (fun i e h k => by
        cases e with
        | int c => simp [PyData.eqv] at k; rw [k]
        | _ => simp [PySem.W.alike] at h)
      (fun x e h k => by
        cases e with
        | str c => simp [PyData.eqv] at k; rw [k]
        | _ => simp [PySem.W.alike] at h)
      (fun ds ih e h k => by
        cases e with
        | list es => rw [ih es (by simpa [PySem.W.alike] using h) (by simpa [PyData.eqv] using k)]
        | _ => simp [PySem.W.alike] at h)
      (fun ds ih e h k => by
        cases e with
        | tuple es => rw [ih es (by simpa [PySem.W.alike] using h) (by simpa [PyData.eqv] using k)]
        | _ => simp [PySem.W.alike] at h)
      (fun es _ e h k => by cases e <;> simp [PySem.W.alike] at h)
      (fun es h k => by cases es <;> first | rfl | simp [PyData.eqvAll] at k)
      (fun d ds ih1 ih2 es h k => by
        cases es with
        | nil => simp [PyData.eqvAll] at k
        | cons e es =>
          simp only [PySem.W.alikeAll, Bool.and_eq_true] at h
          simp only [PyData.eqvAll, Bool.and_eq_true] at k
          rw [ih1 e h.1 k.1, ih2 es h.2 k.2])
      trivial (fun _ _ _ _ => trivial) (fun _ _ _ _ => trivial) d
  refine ⟨this d e h, fun q => ?_⟩
  subst q
  exact PySem.W.eqv_refl_alike d h
end N
set_option Elab.async false
set_option linter.all false
set_option maxRecDepth 100000
set_option maxHeartbeats 4000000
namespace N
open PySem PySem.Spec PyProof.Rows L2

/-! ### operators of several kinds -/
def rMulS : R2 := fun x y H Q => ∃ (z : Str) (n : Int), x = .str z ∧ y = .int n ∧ MulOk z n ∧ Q (.str (PySem.Txt.mul z n)) H
theorem op_mul_str {X : Cx} : OpR X (binaryOp .Mult) rMulS := by
  intro pins s σ H x y v u Q I rx ry h
  obtain ⟨z, n, rfl, rfl, hz, q⟩ := h
  obtain ⟨t, rfl⟩ := rx
  obtain ⟨t', rfl⟩ := ry
  exact PySem.SB.mul hz fun t' k => ⟨.str _, H, I.tok _, ⟨_, rfl⟩, q⟩
abbrev rAddS : R2 := fun x y H Q => ∃ (i j : Str), x = .str i ∧ y = .str j ∧ i.length + j.length ≤ sizeLine ∧ Q (.str (i ++ j)) H
abbrev rAdd : R2 := fun x y H Q => rI0 (fun i j => V.int (i + j)) x y H Q ∨ rAddS x y H Q ∨ rCat x y H Q
abbrev rMul : R2 := fun x y H Q => rI CMul (fun i j => V.int (i * j)) x y H Q ∨ rMulS x y H Q ∨ rRep x y H Q
theorem op_addA {X : Cx} : OpR X (binaryOp .Add) rAdd := OpR.or op_add (OpR.or op_add_str op_cat)
theorem op_mulA {X : Cx} : OpR X (binaryOp .Mult) rMul := OpR.or op_mul (OpR.or op_mul_str op_rep)

/-- a reference to a list of these -/
def LstOf (s : AS) : Rf → List Rf → Prop
  | .dat (.list ds), xs => xs = ds.map .dat
  | .own i, xs => s.m[i]? = some (.lst xs)
  | _, _ => False
/-- a list or a tuple of data -/
def SeqD (s : AS) : Rf → List D → Prop
  | .dat (.list ds), es => es = ds
  | .dat (.tuple ds), es => es = ds
  | .own i, es => s.m[i]? = some (.lst (es.map .dat))
  | _, _ => False
section
variable {P : Program} {w : World} {B : Base} {as : List Addr} {F H : Hp} {σ : L2.St} {s : AS} {v : V} {r : Rf} {KF : PySem.W.Frag}
theorem Fit.lst (x : Fit P w B as F σ H s) (rv : RfOk F as v r) {xs : List Rf} (h : LstOf s r xs) : ∃ a vs, v = .ref a ∧ H a = some (.lst vs) ∧ RfL F as vs xs := by
  cases r with
  | dat d =>
    cases d with
    | list ds =>
      have e : xs = ds.map .dat := h
      subst e
      cases rv with
      | lst h1 h2 => exact ⟨_, _, rfl, x.fin _ _ h1, rfl_dat.mpr h2⟩
    | _ => exact (show False from h).elim
  | own i =>
    obtain ⟨a, ha, rfl⟩ := rv
    obtain ⟨_, ⟨vs, hv, hr⟩, _⟩ := x.own i a _ ha h
    exact ⟨a, vs, rfl, hv, hr⟩
theorem Fit.seq (x : Fit P w B as F σ H s) (rv : RfOk F as v r) {es : List D} (h : SeqD s r es) : ∃ a vs, v = .ref a ∧ (SqL KF H a vs ∨ SqT KF H a vs) ∧ DenL F vs es := by
  cases r with
  | dat d =>
    cases d with
    | list ds =>
      have e : es = ds := h
      subst e
      cases rv with
      | lst h1 h2 => exact ⟨_, _, rfl, .inl (SqL.of (x.fin _ _ h1)), h2⟩
    | tuple ds =>
      have e : es = ds := h
      subst e
      cases rv with
      | tup h1 h2 => exact ⟨_, _, rfl, .inr (SqT.of (x.fin _ _ h1)), h2⟩
    | _ => exact (show False from h).elim
  | own i =>
    obtain ⟨a, ha, rfl⟩ := rv
    obtain ⟨_, ⟨vs, hv, hr⟩, _⟩ := x.own i a _ ha h
    exact ⟨a, vs, rfl, .inl (SqL.of hv), rfl_dat.mp hr⟩
end

section
variable {P : Program} {w : World} {G : Hp} {s : AS} {K : Rf → AS → Prop} {KF : PySem.W.Frag}
/-- an operation that gives a plain value and leaves all -/
theorem ao_pure {r : R2} {x y : Rf} {d : D} (h : ∀ F as H u v, Same F H → RfOk F as u x → RfOk F as v y → ∀ Q : VK, (∀ z, Den F z d → Q z H) → r u v H Q) (k : K (.dat d) s) : AO P w G r x y s K := fun F0 as F σ H u v X ru rv Q q =>
  h F as H u v X.fin ru rv Q fun z hz => q z H F as (.dat d) s (Grow.refl F as) X hz k
theorem ao_addI {i j : Int} (k : K (.dat (.int (i + j))) s) : AO P w G rAdd (.dat (.int i)) (.dat (.int j)) s K := ao_pure (fun F as H u v f ru rv Q q => by
  cases ru; cases rv; exact .inl ⟨i, j, rfl, rfl, q _ (Den.int _)⟩) k
theorem ao_addS {i j : Str} (hl : i.length + j.length ≤ sizeLine) (k : K (.dat (.str (i ++ j))) s) : AO P w G rAdd (.dat (.str i)) (.dat (.str j)) s K := ao_pure (fun F as H u v f ru rv Q q => by
  cases ru; cases rv; exact .inr (.inl ⟨i, j, rfl, rfl, hl, q _ (Den.str _)⟩)) k
theorem ao_subI {i j : Int} (k : K (.dat (.int (i - j))) s) : AO P w G (rI0 fun i j => V.int (i - j)) (.dat (.int i)) (.dat (.int j)) s K := ao_pure (fun F as H u v f ru rv Q q => by
  cases ru; cases rv; exact ⟨i, j, rfl, rfl, q _ (Den.int _)⟩) k
theorem ao_mulI {i j : Int} (hc : CMul i j) (k : K (.dat (.int (i * j))) s) : AO P w G rMul (.dat (.int i)) (.dat (.int j)) s K := ao_pure (fun F as H u v f ru rv Q q => by
  cases ru; cases rv; exact .inl ⟨i, j, rfl, rfl, hc, q _ (Den.int _)⟩) k
theorem ao_mulS {z : Str} {n : Int} (hc : MulOk z n) (k : K (.dat (.str (PySem.Txt.mul z n))) s) : AO P w G rMul (.dat (.str z)) (.dat (.int n)) s K := ao_pure (fun F as H u v f ru rv Q q => by
  cases ru; cases rv; exact .inr (.inl ⟨z, n, rfl, rfl, hc, q _ (Den.str _)⟩)) k
theorem ao_int {C : Int → Int → Prop} {g : Int → Int → Int} {i j : Int} (hc : C i j) (k : K (.dat (.int (g i j))) s) : AO P w G (rI C fun i j => V.int (g i j)) (.dat (.int i)) (.dat (.int j)) s K := ao_pure (fun F as H u v f ru rv Q q => by
  cases ru; cases rv; exact ⟨i, j, rfl, rfl, hc, q _ (Den.int _)⟩) k
theorem ao_cmp {g : Int → Int → Bool} {i j : Int} (k : K (.dat (.bool (g i j))) s) : AO P w G (rI0 fun i j => V.bl (g i j)) (.dat (.int i)) (.dat (.int j)) s K := ao_pure (fun F as H u v f ru rv Q q => by
  cases ru; cases rv; exact ⟨i, j, rfl, rfl, q _ (Den.bl _)⟩) k
theorem ao_cat {x y : Rf} {xs ys : List Rf} (hx : LstOf s x xs) (hy : LstOf s y ys) (hl : xs.length + ys.length ≤ sizeLine) (k : K (.own s.m.length) { s with m := s.m ++ [.lst (xs ++ ys)] }) : AO P w G rAdd x y s K := by
  intro F0 as F σ H u v X ru rv Q q
  obtain ⟨a, vs, rfl, ha, ra⟩ := X.lst ru hx
  obtain ⟨b, us, rfl, hb, rb⟩ := X.lst rv hy
  refine .inr (.inr ⟨a, b, vs, us, rfl, rfl, ha, hb, by rw [Paired.len ra, Paired.len rb]; exact hl, fun p hp => ?_⟩)
  have g0 : Grow F as F (as ++ [p]) := ⟨Same.refl _, [p], rfl⟩
  obtain ⟨x2, g2⟩ := X.newOwn (o := .lst (vs ++ us)) (c := .lst (xs ++ ys)) hp ⟨_, upd_same, RfL.mono g0 (Paired.app ra rb)⟩
  exact q _ _ _ _ _ _ g2 x2 (RfOk.ownI (i := s.m.length) (a := p) (by rw [← X.len]; simp)) k
/-- lists of data, the sum frozen -/
theorem ao_catD {x y : Rf} {xs ys : List D} (hx : LstOf s x (xs.map .dat)) (hy : LstOf s y (ys.map .dat)) (hl : xs.length + ys.length ≤ sizeLine) (k : K (.dat (.list (xs ++ ys))) s) : AO P w G rAdd x y s K := by
  intro F0 as F σ H u v X ru rv Q q
  obtain ⟨a, vs, rfl, ha, ra⟩ := X.lst ru hx
  obtain ⟨b, us, rfl, hb, rb⟩ := X.lst rv hy
  have da := rfl_dat.mp ra
  have db := rfl_dat.mp rb
  refine .inr (.inr ⟨a, b, vs, us, rfl, rfl, ha, hb, by rw [da.length, db.length]; exact hl, fun p hp => ?_⟩)
  obtain ⟨x2, g2⟩ := X.newDat (o := .lst (vs ++ us)) hp
  exact q _ _ _ _ _ _ g2 x2 (RfOk.dat (Den.lst upd_same (DenL.mono g2.f _ _ (DenL.append da db)))) k
theorem DenL.rep {F : Hp} {v : V} {d : D} (h : Den F v d) : ∀ n, DenL F (List.replicate n [v]).flatten (List.replicate n d)
  | 0 => .nil
  | n + 1 => by
    rw [List.replicate_succ, List.replicate_succ, List.flatten_cons]
    exact .cons h (DenL.rep h n)
/-- [x] * n -/
theorem ao_rep {x : Rf} {d : D} {n : Nat} (hx : LstOf s x [.dat d]) (hl : n ≤ sizeLine) (k : K (.dat (.list (List.replicate n d))) s) : AO P w G rMul x (.dat (.int n)) s K := by
  intro F0 as F σ H u v X ru rv Q q
  obtain ⟨a, vs, rfl, ha, ra⟩ := X.lst ru hx
  have da := rfl_dat.mp (show RfL F as vs ([d].map .dat) from ra)
  cases rv
  cases da with
  | cons d1 d2 =>
    cases d2
    have hs : (sizeLine : Int) < 2 ^ 63 := by rw [sizeLine_eq]; decide
    have hn : ((n : Nat) : Int) ≤ sizeLine := by exact_mod_cast hl
    refine .inr (.inr ⟨a, n, [_], rfl, rfl, ha, by omega, by omega, by simpa using hl, fun p hp => ?_⟩)
    obtain ⟨x2, g2⟩ := X.newDat (o := .lst (List.replicate n [_]).flatten) hp
    exact q _ _ _ _ _ _ g2 x2 (RfOk.dat (Den.lst upd_same (DenL.mono g2.f _ _ (DenL.rep d1 n)))) k

/-! ### ==, is, in -/
abbrev rEqZ (K : PySem.W.Frag) : R2 := fun x y H Q => rEqA x y H Q ∨ rEqD K x y H Q
theorem op_eqZ {X : Cx} (hu : X.A.units + 64 < cLine) : OpR X (compareOp .Eq) (rEqZ X.K) := OpR.or (op_eqA hu) (op_eqD hu)
theorem ao_eq {d e : D} (h : eqOk d e = true) (k : K (.dat (.bool (PyData.eqv d e))) s) : AO P w G (rEqZ KF) (.dat d) (.dat e) s K := ao_pure (fun F as H u v f ru rv Q q =>
  .inl ⟨d, e, Den.mono f d u ru, Den.mono f e v rv, h, q _ (Den.bl _)⟩) k
theorem ao_eqS {d e : D} (h1 : SeqAt.shaped d = true) (h2 : SeqAt.shaped e = true) (h3 : noDict d = true) (h4 : noDict e = true) (k : K (.dat (.bool (PyData.eqv d e))) s) : AO P w G (rEqZ KF) (.dat d) (.dat e) s K := ao_pure (fun F as H u v f ru rv Q q =>
  .inr ⟨d, e, den_dp d u (Den.mono f d u ru) h3, den_dp e v (Den.mono f e v rv) h4, h1, h2, q _ (Den.bl _)⟩) k
theorem ao_ne {d e : D} (h : eqOk d e = true) (k : K (.dat (.bool (!PyData.eqv d e))) s) : AO P w G rNeA (.dat d) (.dat e) s K := ao_pure (fun F as H u v f ru rv Q q =>
  ⟨d, e, Den.mono f d u ru, Den.mono f e v rv, h, q _ (Den.bl _)⟩) k
def isNone : D → Bool
  | .none => true
  | _ => false
theorem den_none {F : Hp} {v : V} {d : D} (h : Den F v d) : decide (v = V.non) = isNone d := by
  cases h <;> first | rfl | exact decide_eq_false (fun z => nomatch z)
theorem ao_isN {d : D} (k : K (.dat (.bool (isNone d))) s) : AO P w G (fun x y H Q => y = V.non ∧ Q (V.bl (decide (x = V.non))) H) (.dat d) (.dat .none) s K := ao_pure (fun F as H u v f ru rv Q q => by
  cases rv; rw [den_none ru]; exact ⟨rfl, q _ (Den.bl _)⟩) k
theorem ao_notN {d : D} (k : K (.dat (.bool (!isNone d))) s) : AO P w G (fun x y H Q => y = V.non ∧ Q (V.bl (!decide (x = V.non))) H) (.dat d) (.dat .none) s K := ao_pure (fun F as H u v f ru rv Q q => by
  cases rv; rw [den_none ru]; exact ⟨rfl, q _ (Den.bl _)⟩) k
/-- x in a list -/
def rInL (neg : Bool) : R2 := fun x y H Q => ∃ a vs ds d, y = .ref a ∧ H a = some (.lst vs) ∧ DenL H vs ds ∧ Den H x d ∧ (∀ e ∈ ds, eqOk e d = true) ∧ Q (.bl (if neg then !ds.any fun e => PyData.eqv e d else ds.any fun e => PyData.eqv e d)) H
end
section
variable {X : Cx} {pins : List (Addr × Obj)} {σ : L2.St} {H : Hp} {s : Shared}
noncomputable def eqF (h : Heap) (d : D) (u : Value) : Bool := @decide (∃ e as, Reads h u e as ∧ PyData.eqv e d = true) (Classical.propDecidable _)
theorem eqF_of {h : Heap} {d e : D} {u : Value} {as : List Addr} (r : Reads h u e as) : eqF h d u = PyData.eqv e d := by
  unfold eqF
  cases q : PyData.eqv e d with
  | true => exact @decide_eq_true _ (Classical.propDecidable _) ⟨e, as, r, q⟩
  | false =>
    refine @decide_eq_false _ (Classical.propDecidable _) fun ⟨e', as', r', q'⟩ => ?_
    have := (Reads.unique r _ _ r').1
    rw [this, q'] at q
    cases q
theorem eqF_each (I : Inv X pins σ H s) {d : D} {x : V} {v : Value} (hx : Den H x d) (kd : noDict d = true) (rx : RelV x v) (hu : X.A.units + 100 < cLine) :
    ∀ {ds : List D} {vs : List V} {us : List Value}, DenL H vs ds → Vals vs us → (∀ e ∈ ds, eqOk e d = true) → (∀ u ∈ us, SeqAt.EqAt X.A.in1 s u v (eqF s.heap d u)) ∧ us.any (eqF s.heap d) = ds.any fun e => PyData.eqv e d
  | [], _, _, h, r, _ => by
    cases h
    cases r
    exact ⟨fun u hu => absurd hu (by simp), rfl⟩
  | e :: ds, _, _, h, r, k => by
    cases h with
    | cons h1 h2 =>
      cases r with
      | cons r1 r2 =>
        obtain ⟨i1, i2⟩ := eqF_each I hx kd rx hu h2 r2 fun e he => k e (List.mem_cons_of_mem _ he)
        obtain ⟨k1, k2, k3, k4⟩ := eqOk_of (k e List.mem_cons_self)
        obtain ⟨bs, q1⟩ := den_reads I h1 k2 r1
        obtain ⟨as, q2⟩ := den_reads I hx kd rx
        refine ⟨fun u' hu' => ?_, ?_⟩
        · rcases List.mem_cons.mp hu' with e' | hu'
          · subst e'
            rw [eqF_of q1]
            refine PySem.W.eqAt_alike e d X.A.in1 s _ v bs as q1 q2 k1 ?_
            have h3 : min e.depth d.depth ≤ e.depth := Nat.min_le_left _ _
            show X.A.units + 1 + min e.depth d.depth < cLine
            exact Nat.lt_of_le_of_lt (Nat.add_le_add_left (Nat.le_trans h3 k4) _) (by omega)
          · exact i1 u' hu'
        · rw [List.any_cons, List.any_cons, eqF_of q1, i2]
theorem op_inL (hu : X.A.units + 100 < cLine) : OpR X (compareOp .In) (rInL false) := by
  intro pins s σ H x y v u Q I rx ry h
  obtain ⟨a, vs, ds, d, rfl, ha, hd, hx, k, q⟩ := h
  cases ry
  by_cases hn : ds = []
  · subst hn
    cases hd
    obtain ⟨its, r, pl, hz⟩ := I.list (SqL.of ha)
    cases r
    refine SeqAt.in_listAt (fun _ => false) pl.isList (fun w hw => by simp at hw) ⟨.bl _, H, I, rfl, by simpa using q⟩
  · obtain ⟨e, he⟩ := List.exists_mem_of_ne_nil _ hn
    have kd := (eqOk_of (k e he)).2.2.1
    obtain ⟨its, r, pl, hz⟩ := I.list (SqL.of ha)
    obtain ⟨i1, i2⟩ := eqF_each I hx kd rx hu hd r k
    refine SeqAt.in_listAt (eqF s.heap d) pl.isList (fun w hw => i1 w (by simpa using hw)) ⟨.bl _, H, I, rfl, ?_⟩
    rw [show its.toArray.any (eqF s.heap d) = its.any (eqF s.heap d) by simp, i2]
    exact q
theorem op_notInL (hu : X.A.units + 100 < cLine) : OpR X (compareOp .NotIn) (rInL true) := by
  intro pins s σ H x y v u Q I rx ry h
  obtain ⟨a, vs, ds, d, rfl, ha, hd, hx, k, q⟩ := h
  cases ry
  by_cases hn : ds = []
  · subst hn
    cases hd
    obtain ⟨its, r, pl, hz⟩ := I.list (SqL.of ha)
    cases r
    refine SeqAt.notIn_listAt (fun _ => false) pl.isList (fun w hw => by simp at hw) ⟨.bl _, H, I, rfl, by simpa using q⟩
  · obtain ⟨e, he⟩ := List.exists_mem_of_ne_nil _ hn
    have kd := (eqOk_of (k e he)).2.2.1
    obtain ⟨its, r, pl, hz⟩ := I.list (SqL.of ha)
    obtain ⟨i1, i2⟩ := eqF_each I hx kd rx hu hd r k
    refine SeqAt.notIn_listAt (eqF s.heap d) pl.isList (fun w hw => i1 w (by simpa using hw)) ⟨.bl _, H, I, rfl, ?_⟩
    rw [show its.toArray.any (eqF s.heap d) = its.any (eqF s.heap d) by simp, i2]
    exact q
end
section
variable {P : Program} {w : World} {G : Hp} {s : AS} {K : Rf → AS → Prop} {KF : PySem.W.Frag}
theorem ao_inL0 {neg : Bool} {x : D} {y : Rf} {ds : List D} (hy : LstOf s y (ds.map .dat)) (hk : ∀ e ∈ ds, eqOk e x = true) (k : K (.dat (.bool (if neg then !ds.any fun e => PyData.eqv e x else ds.any fun e => PyData.eqv e x))) s) : AO P w G (rInL neg) (.dat x) y s K := by
  intro F0 as F σ H u v X ru rv Q q
  obtain ⟨a, vs, rfl, ha, ra⟩ := X.lst rv hy
  have da := rfl_dat.mp ra
  exact ⟨a, vs, ds, x, rfl, ha, DenL.mono X.fin _ _ da, Den.mono X.fin _ _ ru, hk, q _ H F as _ s (Grow.refl F as) X (RfOk.dat (Den.bl _)) k⟩

/-! ### subscripts of sequences -/
theorem ixN_nat {n i : Nat} (h : i < n) : ixN n (i : Int) = some i := by
  unfold ixN
  rw [if_pos (by omega), if_pos (by omega)]
  simp
theorem atI_natD {α : Type} {l : List α} {i : Nat} {x : α} (h : l[i]? = some x) : atI l (i : Int) = some x := by
  unfold atI
  rw [ixN_nat (List.getElem?_eq_some_iff.mp h).1]
  exact h
/-- xs[i], t[i] of data -/
theorem ao_ixD {x : Rf} {ds : List D} {i : Nat} {d : D} (hx : SeqD s x ds) (hi : ds[i]? = some d) (k : K (.dat d) s) : AO P w G (rIx KF) x (.dat (.int i)) s K := by
  intro F0 as F σ H u v X ru rv Q q
  obtain ⟨a, vs, rfl, ha, ra⟩ := X.seq (KF := KF) ru hx
  cases rv
  obtain ⟨z, h1, h2⟩ := ra.get hi
  have fin := q z H F as (.dat d) s (Grow.refl F as) X h2 k
  rcases ha with ha | ha
  · exact .inl ⟨a, vs, _, z, rfl, rfl, ha, atI_natD h1, fin⟩
  · exact .inr (.inl ⟨a, vs, _, z, rfl, rfl, ha, atI_natD h1, fin⟩)
/-- xs[i] of a list of one's own -/
theorem ao_ixO {x : Rf} {xs : List Rf} {i : Nat} {r : Rf} (hx : LstOf s x xs) (hi : xs[i]? = some r) (k : K r s) : AO P w G (rIx KF) x (.dat (.int i)) s K := by
  intro F0 as F σ H u v X ru rv Q q
  obtain ⟨a, vs, rfl, ha, ra⟩ := X.lst ru hx
  cases rv
  obtain ⟨z, h1, h2⟩ := Paired.get ra hi
  exact .inl ⟨a, vs, _, z, rfl, rfl, SqL.of ha, atI_natD h1, q z H F as r s (Grow.refl F as) X h2 k⟩
end
end N
set_option Elab.async false
set_option linter.all false
set_option maxRecDepth 100000
set_option maxHeartbeats 4000000
namespace N
open PySem PySem.Spec PyProof.Rows L2

section
variable {P : Program} {w : World} {G : Hp} {s : AS} {K : Rf → AS → Prop} {KF : PySem.W.Frag}
/-- s[i] of a text -/
theorem ao_ixS {z : Str} {i : Nat} {c : Nat} (hz : z.length ≤ sizeLine) (hi : z.cps.toList[i]? = some c) (k : K (.dat (.str ⟨#[c]⟩)) s) : AO P w G (rIx KF) (.dat (.str z)) (.dat (.int i)) s K := ao_pure (fun F as H u v f ru rv Q q => by
  cases ru; cases rv; exact .inr (.inr ⟨z, i, c, rfl, rfl, hz, atI_natD hi, q _ (Den.str _)⟩)) k

/-! ### slices -/
abbrev rSl (KF : PySem.W.Frag) : V → Option Int → Option Int → Hp → VK → Prop := fun x lo hi H Q => rSlS x lo hi H Q ∨ rSlL KF x lo hi H Q
theorem sl_any {X : Cx} : SlR X (rSl X.K) := SlR.or sl_str sl_list
variable {te tl th : TE}
/-- a part of a slice: an int, or left out -/
def AOp (P : Program) (w : World) (G : Hp) (t : TO) (s : AS) (K : Option Int → AS → Prop) : Prop := ∀ F0 as F σ H, Fit P w ⟨G, F0⟩ as F σ H s → ∀ Q : Option Int → Hp → Prop,
  (∀ v H' F' as' s', Grow F as F' as' → Fit P w ⟨G, F0⟩ as' F' σ H' s' → K v s' → Q v H') → t σ H Q
theorem aop_none {K : Option Int → AS → Prop} (k : K none s) : AOp P w G tNoPart s K := fun F0 as F σ H x Q q => q none H F as s (Grow.refl F as) x k
theorem aop_some {K : Option Int → AS → Prop} (h : AE P w G te s fun r s1 => ∃ i, r = .dat (.int i) ∧ K (some i) s1) : AOp P w G (tPart te) s K := by
  intro F0 as F σ H x Q q
  refine h F0 as F σ H x _ fun v H1 F1 as1 r s1 g1 x1 rv ⟨i, e, k⟩ => ?_
  subst e
  cases rv
  exact ⟨i, rfl, q (some i) H1 F1 as1 s1 g1 x1 k⟩
theorem ae_slS {t1 t2 : TO} (h : AE P w G te s fun r s1 => ∃ z, r = .dat (.str z) ∧ z.length ≤ sizeLine ∧ AOp P w G t1 s1 fun l s2 => AOp P w G t2 s2 fun u s3 => K (.dat (.str (cutS z l u))) s3) : AE P w G (tSl (rSl KF) te t1 t2) s K := by
  intro F0 as F σ H x Q q
  refine h F0 as F σ H x _ fun v H1 F1 as1 r s1 g1 x1 rv ⟨z, e, hz, k⟩ => ?_
  subst e
  cases rv
  refine k F0 as1 F1 σ H1 x1 _ fun l H2 F2 as2 s2 g2 x2 k2 => ?_
  refine k2 F0 as2 F2 σ H2 x2 _ fun u H3 F3 as3 s3 g3 x3 k3 => ?_
  exact .inl ⟨z, rfl, hz, q _ H3 F3 as3 _ s3 ((g1.trans g2).trans g3) x3 (RfOk.dat (Den.str _)) k3⟩
def cutL {α : Type} (xs : List α) (lo hi : Option Int) : List α := (xs.drop (HT.sIx xs.length 0 lo)).take (HT.sIx xs.length xs.length hi - HT.sIx xs.length 0 lo)
theorem DenL.drop {F : Hp} : ∀ {ds : List D} {vs : List V} (n : Nat), DenL F vs ds → DenL F (vs.drop n) (ds.drop n)
  | _, _, 0, h => by simpa using h
  | _, _, n + 1, .nil => by simpa using DenL.nil
  | _, _, n + 1, .cons _ h => by simpa using DenL.drop n h
theorem DenL.take {F : Hp} : ∀ {ds : List D} {vs : List V} (n : Nat), DenL F vs ds → DenL F (vs.take n) (ds.take n)
  | _, _, 0, h => by simpa using DenL.nil
  | _, _, n + 1, .nil => by simpa using DenL.nil
  | _, _, n + 1, .cons h1 h => by simpa using DenL.cons h1 (DenL.take n h)
/-- a slice of a list of data, frozen -/
theorem ae_slL {t1 t2 : TO} (h : AE P w G te s fun r s1 => ∃ ds, r = .dat (.list ds) ∧ AOp P w G t1 s1 fun l s2 => AOp P w G t2 s2 fun u s3 => K (.dat (.list (cutL ds l u))) s3) : AE P w G (tSl (rSl KF) te t1 t2) s K := by
  intro F0 as F σ H x Q q
  refine h F0 as F σ H x _ fun v H1 F1 as1 r s1 g1 x1 rv ⟨ds, e, k⟩ => ?_
  subst e
  cases rv with
  | lst h1 h2 =>
    refine k F0 as1 F1 σ H1 x1 _ fun l H2 F2 as2 s2 g2 x2 k2 => ?_
    refine k2 F0 as2 F2 σ H2 x2 _ fun u H3 F3 as3 s3 g3 x3 k3 => ?_
    rename_i a vs
    have hW : ∃ W, cutV vs l u = W ∧ DenL F3 W (cutL ds l u) := by
      refine ⟨_, rfl, ?_⟩
      unfold cutV cutL
      rw [h2.length]
      exact DenL.take _ (DenL.drop _ (DenL.mono (g2.trans g3).f _ _ h2))
    obtain ⟨W, hW, hd⟩ := hW
    refine .inr ⟨a, vs, rfl, SqL.of (x3.fin _ _ ((g2.trans g3).f _ _ h1)), fun p hp => ?_⟩
    rw [hW]
    obtain ⟨x4, g4⟩ := x3.newDat (o := .lst W) hp
    exact q _ _ _ _ _ _ (((g1.trans g2).trans g3).trans g4) x4 (RfOk.dat (Den.lst upd_same (DenL.mono g4.f _ _ hd))) k3

/-! ### calls of built-ins -/
theorem ar_lenL {x : Rf} {xs : List Rf} (hx : LstOf s x xs) (k : K (.dat (.int xs.length)) s) : AR P w G (rLen KF) [x] s K := by
  intro F0 as F σ H us X ru Q q
  cases ru with
  | cons r1 r2 =>
    cases r2
    obtain ⟨a, vs, rfl, ha, ra⟩ := X.lst r1 hx
    exact ⟨_, _, rfl, .inl ⟨vs, SqL.of ha, rfl⟩, by rw [Paired.len ra]; exact q _ H F as _ s (Grow.refl F as) X (RfOk.dat (Den.int _)) k⟩
theorem ar_lenS {x : Rf} {ds : List D} (hx : SeqD s x ds) (k : K (.dat (.int ds.length)) s) : AR P w G (rLen KF) [x] s K := by
  intro F0 as F σ H us X ru Q q
  cases ru with
  | cons r1 r2 =>
    cases r2
    obtain ⟨a, vs, rfl, ha, ra⟩ := X.seq (KF := KF) r1 hx
    have fin := q (.int ds.length) H F as _ s (Grow.refl F as) X (RfOk.dat (Den.int _)) k
    rcases ha with ha | ha
    · exact ⟨_, _, rfl, .inl ⟨vs, ha, rfl⟩, by rw [ra.length]; exact fin⟩
    · exact ⟨_, _, rfl, .inr ⟨vs, ha, rfl⟩, by rw [ra.length]; exact fin⟩
abbrev rInt1 : List V → Hp → VK → Prop := fun xs H Q => (∃ i, xs = [V.int i] ∧ Q (V.int i) H) ∨ ∃ k, xs = [V.bl k] ∧ Q (V.int (if k = true then 1 else 0)) H
theorem ar_intI {i : Int} (k : K (.dat (.int i)) s) : AR P w G rInt1 [.dat (.int i)] s K := by
  intro F0 as F σ H us X ru Q q
  cases ru with
  | cons r1 r2 =>
    cases r2
    cases r1
    exact .inl ⟨i, rfl, q _ H F as _ s (Grow.refl F as) X (RfOk.dat (Den.int _)) k⟩
theorem ar_intB {b : Bool} (k : K (.dat (.int (if b = true then 1 else 0))) s) : AR P w G rInt1 [.dat (.bool b)] s K := by
  intro F0 as F σ H us X ru Q q
  cases ru with
  | cons r1 r2 =>
    cases r2
    cases r1
    exact .inr ⟨b, rfl, q _ H F as _ s (Grow.refl F as) X (RfOk.dat (Den.int _)) k⟩
abbrev rStr1 : List V → Hp → VK → Prop := fun xs H Q => ∃ i : Int, xs = [V.int i] ∧ i.natAbs.log2 < 1920 ∧ Q (V.str (Str.ofString (toString i))) H
theorem ar_strI {i : Int} (hi : i.natAbs.log2 < 1920) (k : K (.dat (.str (Str.ofString (toString i)))) s) : AR P w G rStr1 [.dat (.int i)] s K := by
  intro F0 as F σ H us X ru Q q
  cases ru with
  | cons r1 r2 =>
    cases r2
    cases r1
    exact ⟨i, rfl, hi, q _ H F as _ s (Grow.refl F as) X (RfOk.dat (Den.str _)) k⟩
abbrev rTuple1 (KF : PySem.W.Frag) : List V → Hp → VK → Prop := fun xs H Q => ∃ p ys, xs = [V.ref p] ∧ ((SqL KF H p ys ∧ ∀ (l : Addr), H l = none → Q (V.ref l) (upd H l (HO.tup ys))) ∨ SqT KF H p ys ∧ Q (V.ref p) H)
/-- tuple(xs) of a list of data -/
theorem ar_tuple {x : Rf} {ds : List D} (hx : LstOf s x (ds.map .dat)) (k : K (.dat (.tuple ds)) s) : AR P w G (rTuple1 KF) [x] s K := by
  intro F0 as F σ H us X ru Q q
  cases ru with
  | cons r1 r2 =>
    cases r2
    obtain ⟨a, vs, rfl, ha, ra⟩ := X.lst r1 hx
    refine ⟨a, vs, rfl, .inl ⟨SqL.of ha, fun p hp => ?_⟩⟩
    obtain ⟨x2, g2⟩ := X.newDat (o := .tup vs) hp
    exact q _ _ _ _ _ _ g2 x2 (RfOk.dat (Den.tup upd_same (DenL.mono g2.f _ _ (rfl_dat.mp ra)))) k
abbrev rList1 (KF : PySem.W.Frag) : List V → Hp → VK → Prop := fun xs H Q => ∃ p ys, xs = [V.ref p] ∧ (SqL KF H p ys ∨ SqT KF H p ys) ∧ ∀ (l : Addr), H l = none → Q (V.ref l) (upd H l (HO.lst ys))
/-- list(xs): a new list of one's own -/
theorem ar_list {x : Rf} {ds : List D} (hx : SeqD s x ds) (k : K (.own s.m.length) { s with m := s.m ++ [.lst (ds.map .dat)] }) : AR P w G (rList1 KF) [x] s K := by
  intro F0 as F σ H us X ru Q q
  cases ru with
  | cons r1 r2 =>
    cases r2
    obtain ⟨a, vs, rfl, ha, ra⟩ := X.seq (KF := KF) r1 hx
    refine ⟨a, vs, rfl, ha, fun p hp => ?_⟩
    have g0 : Grow F as F (as ++ [p]) := ⟨Same.refl _, [p], rfl⟩
    obtain ⟨x2, g2⟩ := X.newOwn (o := .lst vs) (c := .lst (ds.map .dat)) hp ⟨_, upd_same, RfL.mono g0 (rfl_dat.mpr ra)⟩
    exact q _ _ _ _ _ _ g2 x2 (RfOk.ownI (i := s.m.length) (a := p) (by rw [← X.len]; simp)) k
theorem ar_listD {x : Rf} {ds : List D} (hx : SeqD s x ds) (k : K (.dat (.list ds)) s) : AR P w G (rList1 KF) [x] s K := by
  intro F0 as F σ H us X ru Q q
  cases ru with
  | cons r1 r2 =>
    cases r2
    obtain ⟨a, vs, rfl, ha, ra⟩ := X.seq (KF := KF) r1 hx
    refine ⟨a, vs, rfl, ha, fun p hp => ?_⟩
    obtain ⟨x2, g2⟩ := X.newDat (o := .lst vs) hp
    exact q _ _ _ _ _ _ g2 x2 (RfOk.dat (Den.lst upd_same (DenL.mono g2.f _ _ ra))) k
/-- isinstance(x, tuple), x a tuple -/
theorem ae_isTup {ta : TE} (h : AE P w G ta s fun r s1 => ∃ ds, r = .dat (.tuple ds) ∧ K (.dat (.bool true)) s1) : AE P w G (tCB (rIsi KF) (tCons ta (tCons (tC (.ty "tuple")) tNil))) s K := by
  intro F0 as F σ H x Q q
  refine h F0 as F σ H x _ fun v H1 F1 as1 r s1 g1 x1 rv ⟨ds, e, k⟩ => ?_
  subst e
  cases rv with
  | tup h1 h2 =>
    exact ⟨_, _, _, _, true, rfl, ClsV.ty "tuple", TyX.base (TyOf.tup (x1.fin _ _ h1)), kit_ty (by decide +kernel), q _ H1 F1 as1 _ s1 g1 x1 (RfOk.dat (Den.bl _)) k⟩

/-! ### methods of lists -/
theorem ae_append {to : TE} {ta : TA} (h : AE P w G to s fun o s1 => ∃ i, o = .own i ∧ (∃ xs, s1.m[i]? = some (.lst xs)) ∧ AA P w G ta s1 fun ys s2 => ∃ y xs, ys = [y] ∧ s2.m[i]? = some (.lst xs) ∧ xs.length < sizeLine ∧ K (.dat .none) { s2 with m := s2.m.set i (.lst (xs ++ [y])) }) :
    AE P w G (tBM KF "list" rAppend to ta) s K := by
  intro F0 as F σ H x Q q
  refine h F0 as F σ H x _ fun v H1 F1 as1 r s1 g1 x1 rv ⟨i, e, ⟨xs, hm⟩, k⟩ => ?_
  subst e
  obtain ⟨a, ha, rfl⟩ := rv
  obtain ⟨_, ⟨vs, hv, hr⟩, _⟩ := x1.own i a _ ha hm
  refine ⟨.inl ⟨rfl, vs, SqL.of hv⟩, ?_⟩
  refine k F0 as1 F1 σ H1 x1 _ fun us H2 F2 as2 rs s2 g2 x2 ru ⟨y, ys, e, hm2, hl, k2⟩ => ?_
  subst e
  cases ru with
  | cons u1 u2 =>
    cases u2
    have ha2 : as2[i]? = some a := by
      obtain ⟨l, el⟩ := g2.a
      subst el
      rw [List.getElem?_append_left (List.getElem?_eq_some_iff.mp ha).1]
      exact ha
    obtain ⟨_, ⟨ws, hw, hr2⟩, _⟩ := x2.own i a _ ha2 hm2
    refine ⟨a, ws, _, rfl, rfl, hw, by rw [Paired.len hr2]; exact hl, ?_⟩
    have x3 := x2.write (o := .lst (ws ++ [_])) (c' := .lst (ys ++ [y])) ha2 hm2 (fun z => nomatch z) ⟨_, upd_same, Paired.app hr2 (.cons u1 .nil)⟩
    exact q _ _ _ _ _ _ (g1.trans g2) x3 (RfOk.dat Den.non) k2
theorem ae_pop {to : TE} (h : AE P w G to s fun o s1 => ∃ i xs y, o = .own i ∧ s1.m[i]? = some (.lst (xs ++ [y])) ∧ K y { s1 with m := s1.m.set i (.lst xs) }) : AE P w G (tBM0 KF "list" rPop to) s K := by
  intro F0 as F σ H x Q q
  refine h F0 as F σ H x _ fun v H1 F1 as1 r s1 g1 x1 rv ⟨i, xs, y, e, hm, k⟩ => ?_
  subst e
  obtain ⟨a, ha, rfl⟩ := rv
  obtain ⟨_, ⟨vs, hv, hr⟩, _⟩ := x1.own i a _ ha hm
  obtain ⟨z, hz, rz⟩ := Paired.get (i := xs.length) (y := y) hr (by simp)
  have hl := Paired.len hr
  rw [List.length_append, List.length_singleton] at hl
  refine ⟨.inl ⟨rfl, vs, SqL.of hv⟩, a, vs, z, rfl, rfl, hv, by rw [hl]; exact hz, ?_⟩
  have x3 := x1.write (o := .lst vs.dropLast) (c' := .lst xs) ha hm (fun z => nomatch z) ⟨_, upd_same, by have := Paired.dropLastP hr; rwa [List.dropLast_concat] at this⟩
  exact q _ _ _ _ _ _ g1 x3 rz k
/-- flat data: texts and whole numbers -/
def flatD : D → Bool
  | .int _ => true
  | .str _ => true
  | _ => false
theorem flat_of {F : Hp} {v : V} {d : D} (h : Den F v d) (k : flatD d = true) : flatV v = true := by
  cases h <;> first | rfl | exact absurd k (by simp [flatD])
theorem flat_eq {F : Hp} {v u : V} {d e : D} (h : Den F v d) (h2 : Den F u e) (k : flatD d = true) (k2 : flatD e = true) : eqV v u = true ↔ d = e := by
  cases h with
  | int i =>
    cases h2 with
    | int j => simp [eqV]
    | str y => simp [eqV]
    | _ => simp [flatD] at k2
  | str x =>
    cases h2 with
    | int j => simp [eqV]
    | str y => simp [eqV]
    | _ => simp [flatD] at k2
  | _ => simp [flatD] at k
theorem DenL.mem {F : Hp} : ∀ {ds : List D} {vs : List V} {v : V}, DenL F vs ds → v ∈ vs → ∃ d ∈ ds, Den F v d
  | _, _, v, .cons h1 h2, hm => by
    rcases List.mem_cons.mp hm with e | hm
    · subst e
      exact ⟨_, List.mem_cons_self, h1⟩
    · obtain ⟨d, hd, q⟩ := DenL.mem h2 hm
      exact ⟨d, List.mem_cons_of_mem _ hd, q⟩
  | _, _, v, .nil, hm => by cases hm
theorem DenL.get' {F : Hp} : ∀ {ds : List D} {vs : List V} {i : Nat} {v : V}, DenL F vs ds → vs[i]? = some v → ∃ d, ds[i]? = some d ∧ Den F v d
  | _, _, 0, v, .cons h1 h2, e => by
    simp at e
    subst e
    exact ⟨_, rfl, h1⟩
  | _, _, i + 1, v, .cons h1 h2, e => by
    obtain ⟨d, h3, h4⟩ := DenL.get' (i := i) h2 (by simpa using e)
    exact ⟨d, by simpa using h3, h4⟩
  | _, _, _, v, .nil, e => by simp at e
/-- xs.index(y), y the j-th of distinct texts -/
theorem ae_index {to : TE} {ta : TA} (h : AE P w G to s fun o s1 => ∃ ds, o = .dat (.list ds) ∧ AA P w G ta s1 fun ys s2 => ∃ (d : D) (j : Nat), ys = [.dat d] ∧ ds[j]? = some d ∧ (∀ e ∈ ds, flatD e = true) ∧ (∀ (m : Nat) (e : D), m < j → ds[m]? = some e → e ≠ d) ∧ K (.dat (.int j)) s2) :
    AE P w G (tBM KF "list" (rIndex KF) to ta) s K := by
  intro F0 as F σ H x Q q
  refine h F0 as F σ H x _ fun v H1 F1 as1 r s1 g1 x1 rv ⟨ds, e, k⟩ => ?_
  subst e
  cases rv with
  | lst h1 h2 =>
    refine ⟨.inl ⟨rfl, _, SqL.of (x1.fin _ _ h1)⟩, ?_⟩
    refine k F0 as1 F1 σ H1 x1 _ fun us H2 F2 as2 rs s2 g2 x2 ru ⟨d, j, e, hj, hf, hn, k2⟩ => ?_
    subst e
    cases ru with
    | cons u1 u2 =>
      cases u2
      have hd := DenL.mono g2.f _ _ h2
      obtain ⟨z, hz, rz⟩ := hd.get hj
      have fd := hf d (List.mem_of_getElem? hj)
      refine ⟨_, _, _, j, z, rfl, rfl, SqL.of (x2.fin _ _ (g2.f _ _ h1)), flat_of u1 fd, ?_, hz, ?_, ?_, q _ H2 F2 as2 _ s2 (g1.trans g2) x2 (RfOk.dat (Den.int _)) k2⟩
      · rw [List.all_eq_true]
        intro y hy
        obtain ⟨e, he, q⟩ := hd.mem hy
        exact flat_of q (hf e he)
      · exact (flat_eq rz u1 fd fd).mpr rfl
      · intro m z' hm hz'
        obtain ⟨e, he, q⟩ := hd.get' hz'
        rw [← Bool.not_eq_true]
        exact fun z => hn m e hm he ((flat_eq q u1 (hf e (List.mem_of_getElem? he)) fd).mp z)
end
end N
set_option Elab.async false
set_option linter.all false
set_option maxRecDepth 100000
set_option maxHeartbeats 4000000
namespace PySem
open Sem (wp)
open PyProof.Rows
section
variable {prog : Program} {w : World} {A : Around} {E : Value → Shared → Prop} {s : Shared}
theorem nd_nextOf_item {it d : Addr} {i ep : Nat} {es : Array DictEntry} {Q : Value → Shared → Prop} (hit : s.heap.IsKeyIter it d i es.size ep)
    (hm : s.heap.DictRaw d es ep) (hlt' : i < es.size) (hQ : ∀ h', h'.IsKeyIter it d (i + 1) es.size ep → Heap.SameBut it s.heap h' → Q es[i].key { s with heap := h' }) :
    wpAny (model prog w) A (Builtin.SmallTypes.nextOf (.ref it)) Q E s := by
  obtain ⟨o, ho, hc, hd⟩ := id hit
  obtain ⟨od, hod, hcd, hdd⟩ := id hm
  unfold Builtin.SmallTypes.nextOf
  refine wpAny_bind (wpAny_callSpecial?_slot (name := Str.ofString "__next__") hit.typeIs F.slot_dict_keyiterator_next
    (wpAny_call_entry F.slot_dict_keyiterator_next hit.typeIs F.entry_dict_keyiterator_next ?_ (F.args_dict_keyiterator_next_1 _)))
  refine wpAny_bind (wpAny_pure ?_)
  refine wpAny_bind ?_
  refine wpAny_bind ?_
  first | refine wpAny_bind (wpAny_typeNameOfWhole_keyiter hit.typeIs (wpAny_pure ?_)) | refine wpAny_bind (wpAny_typeNameOf_keyiter hit.typeIs (wpAny_pure ?_))
  refine wpAny_bind (wpAny_fieldsOf ho hd ?_)
  have hown : Builtin.Dict_items.ownsTuple "dict_keyiterator" = false := by decide
  simp only [hown, Bool.false_eq_true, if_false]
  show wpAny _ _ (if (Value.ref d == Value.none) = true then _ else _) _ _ s
  rw [if_neg (show ¬ ((Value.ref d == Value.none) = true) from Bool.false_ne_true)]
  refine wpAny_bind (wpAny_pure ?_)
  refine wpAny_bind (wpAny_dictEntries hod hdd ?_)
  rw [if_neg (by simp)]
  refine wpAny_bind (wpAny_pure ?_)
  refine wpAny_bind (wpAny_dictEpoch hod hdd ?_)
  rw [if_neg (by simp)]
  refine wpAny_pure ?_
  simp only [show ¬ ((i : Int) < 0) from by omega, if_false, Int.toNat_natCast, Array.getElem?_eq_getElem hlt']
  refine wpAny_bind ?_
  first | refine wpAny_bind (wpAny_typeNameOfWhole_keyiter hit.typeIs (wpAny_pure ?_)) | refine wpAny_bind (wpAny_typeNameOf_keyiter hit.typeIs (wpAny_pure ?_))
  refine wpAny_bind (wpAny_isOneOf_keyiter hit.typeIs ?_)
  show wpAny _ _ (setField (.ref it) 1 (rawInt ((i : Int) + 1)) >>= _) _ _ s
  refine wpAny_bind (wpAny_setField ho hd (by simp) ?_)
  have hit' : (s.heap.update it (Obj.mapFields (·.setIfInBounds 1 (rawInt ((i : Int) + 1))))).IsKeyIter it d (i + 1) es.size ep :=
    ⟨_, Heap.get?_update_self _ ho (Obj.isFreed_of_fields (Obj.data_mapFields hd _)), (Obj.cls_mapFields ..).trans hc, by rw [Obj.data_mapFields hd]; simp [rawInt]⟩
  refine wpAny_bind (wpAny_holding ?_)
  refine wpAny_bind (wpAny_isOneOf_keyiter (s := { s with heap := s.heap.update it (Obj.mapFields (·.setIfInBounds 1 (rawInt ((i : Int) + 1)))) }) hit'.typeIs ?_)
  show wpAny _ _ (pure es[i].key) _ _ _
  exact wpAny_pure (wpAny_pure ⟨_, rfl, wpAny_pure (hQ _ hit' (Heap.SameBut.update ..))⟩)
theorem nd_nextOf_end {it d : Addr} {i ep : Nat} {es : Array DictEntry} {Q : Value → Shared → Prop} (hh : A.handled = none) (hit : s.heap.IsKeyIter it d i es.size ep)
    (hm : s.heap.DictRaw d es ep) (hge : es.size ≤ i)
    (hE : ∀ h' e, Heap.ExtBut it s.heap h' → (∃ o, h'.get? e = some o ∧ o.cls = .type "StopIteration") → E (.ref e) { s with heap := h' }) :
    wpAny (model prog w) A (Builtin.SmallTypes.nextOf (.ref it)) Q E s := by
  obtain ⟨o, ho, hc, hd⟩ := id hit
  obtain ⟨od, hod, hcd, hdd⟩ := id hm
  unfold Builtin.SmallTypes.nextOf
  refine wpAny_bind (wpAny_callSpecial?_slot (name := Str.ofString "__next__") hit.typeIs F.slot_dict_keyiterator_next
    (wpAny_call_entry F.slot_dict_keyiterator_next hit.typeIs F.entry_dict_keyiterator_next ?_ (F.args_dict_keyiterator_next_1 _)))
  refine wpAny_bind (wpAny_pure ?_)
  refine wpAny_bind ?_
  refine wpAny_bind ?_
  first | refine wpAny_bind (wpAny_typeNameOfWhole_keyiter hit.typeIs (wpAny_pure ?_)) | refine wpAny_bind (wpAny_typeNameOf_keyiter hit.typeIs (wpAny_pure ?_))
  refine wpAny_bind (wpAny_fieldsOf ho hd ?_)
  have hown : Builtin.Dict_items.ownsTuple "dict_keyiterator" = false := by decide
  simp only [hown, Bool.false_eq_true, if_false]
  show wpAny _ _ (if (Value.ref d == Value.none) = true then _ else _) _ _ s
  rw [if_neg (show ¬ ((Value.ref d == Value.none) = true) from Bool.false_ne_true)]
  refine wpAny_bind (wpAny_pure ?_)
  refine wpAny_bind (wpAny_dictEntries hod hdd ?_)
  rw [if_neg (by simp)]
  refine wpAny_bind (wpAny_pure ?_)
  refine wpAny_bind (wpAny_dictEpoch hod hdd ?_)
  rw [if_neg (by simp)]
  refine wpAny_pure ?_
  simp only [show ¬ ((i : Int) < 0) from by omega, if_false, Int.toNat_natCast, Array.getElem?_eq_none hge]
  refine wpAny_bind ?_
  first | refine wpAny_bind (wpAny_typeNameOfWhole_keyiter hit.typeIs (wpAny_pure ?_)) | refine wpAny_bind (wpAny_typeNameOf_keyiter hit.typeIs (wpAny_pure ?_))
  show wpAny _ _ (setField (.ref it) 0 .none >>= _) _ _ s
  refine wpAny_bind (wpAny_setField ho hd (by simp) ?_)
  show wpAny _ _ (newExc (.type "StopIteration") [] >>= _) _ _ _
  refine wpAny_bind ?_
  simp only [newExc, newTuple]
  refine wpAny_bind (wpAny_newObj_type ?_ (by size_fits))
  refine wpAny_bind (m := firstArgMember _ _) (wpAny_of_eq (a := Value.none) (by first | rfl | (simp only [firstArgMember]; rfl)) ?_)
  refine wpAny_newObj_type ?_ (by size_fits)
  simp only [raiseNew]
  refine wpAny_bind (wpAny_handled ?_)
  first | rw [show A.in1.handled = none from hh] | rw [hh]
  refine wpAny_bind (wpAny_pure (wpAny_throw ?_))
  exact hE _ _ (((Heap.SameBut.update ..).extBut.push _).push _) ⟨_, Heap.get?_push_size _ rfl, rfl⟩
end
theorem nd_drawsKeys {prog : Program} {w : World} {A : Around} (hh : A.handled = none) (it d : Addr) (hne : d ≠ it) (es : Array DictEntry) (ep : Nat) :
    Draws prog w A it [it, d] es.size (fun i v => ∃ e, es[i]? = some e ∧ v = e.key) (fun i h => h.IsKeyIter it d i es.size ep ∧ h.DictRaw d es ep) where
  live := fun _ _ st => let ⟨o, ho, _⟩ := st.1; ⟨o, ho⟩
  frame := fun _ _ _ st hk => ⟨st.1.at fun o e => hk it (by simp) o e, st.2.at fun o e => hk d (by simp) o e⟩
  item := fun i s Q E hi st hQ => by
    refine nd_nextOf_item st.1 st.2 hi fun h' hit' hs' => ?_
    exact hQ _ h' s.toks ⟨es[i], by simp [hi], rfl⟩ ⟨hit', st.2.at fun o e => (hs'.2 d hne).trans e⟩ hs'
  done := fun s Q E st hE => nd_nextOf_end hh st.1 st.2 (Nat.le_refl _) hE
theorem nd_beginsKeys (d : Addr) (hd : (d == sysModules) = false) (es : Array DictEntry) (ep : Nat) : Begins (.ref d) { cls := .type "dict_keyiterator", data := .fields #[.ref d, .int 0 0, .int es.size 0, .int ep 0] } fun h => h.DictRaw d es ep where
  iter := fun prog w A E s Q hl h => wpAny_pyIter_dict_raw hd hl h
  keeps := fun h h' x hk => x.at fun o e => hk d o e
  free := rfl
set_option maxHeartbeats 1000000 in
theorem nd_enum_new {v : Value} {o : Obj} {H : Heap → Prop} (B : Begins v o H) :
    Meets (Builtin.«enumerate.__new__» ⟨[.type "enumerate", v], []⟩) (fun _ R s => H s.heap ∧
      R (.ok (.ret (.ref (s.heap.push o).objs.size))) { s with heap := (s.heap.push o).push { cls := .type "enumerate", data := .fields #[.none, .bool false, .ref s.heap.objs.size, rawInt 0, .none, .none] } }) :=
  .of_wp fun prog w A R s h => by
    obtain ⟨hp, g, d, tk, os⟩ := s; obtain ⟨h1, h⟩ := h
    have hsub := sub_enumerate
    have q1 : ∀ {A' : Around} {E : Value → Shared → Prop} {Q : Value → Shared → Prop}, Q (.ref hp.objs.size) ⟨hp.push o, g, d, tk, os⟩ → wpAny (model prog w) A' (pyIter v) Q E ⟨hp, g, d, tk, os⟩ :=
      fun q => B.iter prog w _ _ ⟨hp, g, d, tk, os⟩ _ h1 q
    wp_walk using q1
    refine wpAny_stack_any fun st => wpAny_pure ?_
    split
    · rename_i c _ _ _ _ _
      cases (c == Value.type "enumerate")
      · wp_walk using q1
        exact ⟨_, rfl, h⟩
      · wp_walk using q1
        exact ⟨_, rfl, h⟩
    · wp_walk using q1
      exact ⟨_, rfl, h⟩
section
variable {prog : Program} {w : World} {A : Around} {E : Value → Shared → Prop} {s : Shared}
theorem nd_enum_begins {v : Value} {o : Obj} {H : Heap → Prop} {Q : Value → Shared → Prop} (B : Begins v o H) (h1 : H s.heap)
    (h : ∀ h', IsEnum h' (s.heap.objs.size + 1) s.heap.objs.size 0 .none → h'.get? s.heap.objs.size = some o → h'.objs.size = s.heap.objs.size + 2 →
      (∀ b o, s.heap.get? b = some o → h'.get? b = some o) → Q (.ref (s.heap.objs.size + 1)) { s with heap := h' }) :
    wpAny (model prog w) A (call (.type "enumerate") [v]) Q E s := by
  refine callType_new F.called_enumerate (by decide) (F.typeCall_enumerate_1 _) (F.newCall_enumerate_1 _) (fun obj => F.args_object_init_2 obj _) F.entry_enumerate_new
    (nd_enum_new B) ⟨h1, ?_⟩
  have hz : (s.heap.push o).objs.size = s.heap.objs.size + 1 := Heap.size_push ..
  show _ ∧ _
  rw [hz]
  have he : IsEnum ((s.heap.push o).push { cls := .type "enumerate", data := .fields #[.none, .bool false, .ref s.heap.objs.size, rawInt 0, .none, .none] }) (s.heap.objs.size + 1) s.heap.objs.size 0 .none := by
    have := Heap.get?_push_size (s.heap.push o) (o := { cls := .type "enumerate", data := .fields #[.none, .bool false, .ref s.heap.objs.size, rawInt 0, .none, .none] }) rfl
    rw [hz] at this; exact this
  refine ⟨⟨_, he, rfl⟩, h _ he (Heap.get?_push_of_some _ (Heap.get?_push_size _ B.free)) (by rw [Heap.size_push, hz]) fun b o x => Heap.get?_push_of_some _ (Heap.get?_push_of_some _ x)⟩
end
end PySem
set_option Elab.async false
set_option linter.all false
set_option maxRecDepth 100000
set_option maxHeartbeats 4000000
namespace N
open PySem PySem.Spec PyProof.Rows L2
section
variable {X : Cx} {pins : List (Addr × Obj)} {σ : L2.St} {H : Hp} {s : Shared} {E : Value → Shared → Prop}
theorem enum_end {prog : Program} {w : World} {A : Around} {e it : Addr} {i : Int} {old : Value} {Q : Option Value → Shared → Prop} (he : IsEnum s.heap e it i old)
    (hN : ∀ (Q : Value → Shared → Prop) (E : Value → Shared → Prop), (∀ h' e, Heap.ExtBut it s.heap h' → (∃ o, h'.get? e = some o ∧ o.cls = .type "StopIteration") → E (.ref e) { s with heap := h' }) → wpAny (model prog w) A.in1 (Builtin.SmallTypes.nextOf (.ref it)) Q E s)
    (hQ : ∀ h', Heap.ExtBut it s.heap h' → Q none { s with heap := h' }) : wpAny (model prog w) A (pyNext (.ref e)) Q E s := by
  have hT : s.TypeIs (.ref e) "enumerate" := ⟨_, he, rfl⟩
  unfold pyNext
  refine wpAny_bind (wpAny_attempt (wpAny_callSpecial?_slot (name := Str.ofString "__next__") hT F.slot_enumerate_next
    (wpAny_call_entry F.slot_enumerate_next hT F.entry_enumerate_next ?_ (F.args_enumerate_next_1 _))))
  show wpAny _ _ (field (.ref e) 2 >>= _) _ _ _
  refine wpAny_bind (wpAny_field he rfl (x := .ref it) rfl ?_)
  refine wpAny_bind (hN _ _ fun h' x he' hx' => ?_)
  obtain ⟨o, ho, hc⟩ := hx'
  refine wpAny_bind (wpAny_isInstance (T := "StopIteration") (b := true) ⟨o, ho, hc⟩ isSubtype_stop ?_)
  exact wpAny_pure (hQ _ he')
theorem enum_core {elts : List Expr} {kk : Nat} {tpos : Pos} {e it : Addr} {fp : List Addr} {n i : Nat} {Pd : Nat → Value → Prop} {St : Nat → Heap → Prop} {old : Value} {x : V} (I : Inv X pins σ H s) (hf : ∀ b ∈ [e, it], FpOk X pins H b)
    (D : Draws X.prog X.w X.A.in1 it fp n Pd St) (he : IsEnum s.heap e it ((i : Nat) : Int) old) (hst : St i s.heap) (hlt : i < n) (hne : e ≠ it) (hef : e ∉ fp) (hit : ∀ h, St (i + 1) h → it < h.objs.size) (hits : it < s.heap.objs.size) (hx : ∀ u, Pd i u → RelV x u) :
    wpAny (model X.prog X.w) X.A (pyNext (.ref e)) (fun r s1 => ∃ u, r = some u ∧ wpAny (model X.prog X.w) X.A (letOwnedTupleGo (.Tuple elts kk tpos) (.ref e) u) (fun _ s2 => ∃ T, Inv X pins σ (upd H T (.tup [.int (i : Nat), x])) s2 ∧ RelV (.ref T) u ∧ H T = none ∧
      (∃ old, IsEnum s2.heap e it ((i + 1 : Nat) : Int) old) ∧ St (i + 1) s2.heap ∧ ∀ b ∈ [e, it], upd H T (.tup [.int (i : Nat), x]) b = none) E s1) E s := by
  have hel : e < s.heap.objs.size := Heap.lt_size he
  refine wpAny_pyNext_enum_itemC D he hst hlt hne hef fun u h' tk hP ho hs' hT hsz hk => ?_
  refine ⟨_, rfl, wpAny_letOwnedTupleGo_enum (s := { s with heap := h', toks := tk + 1 }) ho fun h'' he' sb => ?_⟩
  have hT2 : h''.get? s.heap.objs.size = some { cls := .type "tuple", data := .seq #[.int i tk, u] } := (sb.2 _ (Nat.ne_of_gt hel)).trans hT
  have new : ObjOk X.prog X.w (upd H s.heap.objs.size (.tup [.int (i : Nat), x])) h'' s.heap.objs.size (.tup [.int (i : Nat), x]) :=
    ⟨by show 2 ≤ sizeLine; decide, [.int i tk, u], .cons ⟨_, rfl⟩ (.cons (hx u hP) .nil), ⟨_, hT2, rfl, _, rfl⟩⟩
  have I1 : Inv X pins σ (upd H s.heap.objs.size (.tup [.int (i : Nat), x])) { s with heap := h'', toks := tk + 1 } :=
    I.turnedNew (ch := [e, it]) (fun b ob hb q => (sb.2 b (fun z => hb (by simp [z]))).trans (hk b ob (fun z => hb (by simp [z])) (fun z => hb (by simp [z])) q)) hf (Nat.le_refl _) new
  refine ⟨s.heap.objs.size, I1, rfl, I.hok.fresh (Nat.le_refl _), ⟨u, ?_⟩, D.frame _ _ _ hs' fun b hb o q => (sb.2 b (fun z => hef (z ▸ hb))).trans q, fun b hb => ?_⟩
  · have e1 : ((i + 1 : Nat) : Int) = (i : Int) + 1 := by omega
    rw [e1]
    exact he'
  · have hb' : b < s.heap.objs.size := by
      have e' : b = e ∨ b = it := by simpa using hb
      rcases e' with z | z
      · rw [z]; exact hel
      · rw [z]; exact hits
    rw [upd_ne (Nat.ne_of_lt hb')]
    exact (hf b hb).1
end

/-! ### enumerate(tuple) -/
def IteT (K : PySem.W.Frag) (a : Addr) : It :=
  ⟨fun i H => ∃ (xs : List V) (x : V), SqT K H a xs ∧ xs[i]? = some x, fun i H v H' => ∃ T x, v = .ref T ∧ H T = none ∧ H' = upd H T (.tup [.int (i : Nat), x]) ∧ ∀ xs, SqT K H a xs → xs[i]? = some x, fun i H => ∃ xs : List V, SqT K H a xs ∧ xs.length ≤ i⟩
theorem ne_cls {h : Heap} {a b : Addr} {o o' : Obj} {n m : String} (ha : h.get? a = some o) (hb : h.get? b = some o') (ca : o.cls = .type n) (cb : o'.cls = .type m) (hn : n ≠ m) : a ≠ b := by
  intro e
  subst e
  rw [ha] at hb
  cases hb
  rw [ca] at cb
  exact hn (by injection cb)
theorem turn_enumT {P : Program} {w : World} {K : PySem.W.Frag} {elts : List Expr} {kk : Nat} {tpos : Pos} (a e it : Addr) :
    Turn P w K (.Tuple elts kk tpos) (IteT K a) [e, it] e (fun i h => (∃ old, IsEnum h e it ((i : Nat) : Int) old) ∧ h.IsTupleIter it a i ∧ e ≠ it) where
  mem := by simp
  obj := fun i h st b hb => by
    obtain ⟨⟨old, he⟩, ⟨o, ho, hc, hd⟩, _⟩ := st
    have e' : b = e ∨ b = it := by simpa using hb
    rcases e' with z | z
    · rw [z]; exact ⟨_, he, fun v q => nomatch q⟩
    · rw [z]; exact ⟨o, ho, fun v q => by rw [hd] at q; cases q⟩
  keep := fun i h h' st k => let ⟨⟨old, he⟩, hi, hne⟩ := st; ⟨⟨old, k e (by simp) _ he⟩, hi.at fun o q => k it (by simp) o q, hne⟩
  item := by
    intro X hP hw hK hc i pins s σ H E I hf st hg
    subst hP hw hK
    obtain ⟨⟨old, he⟩, hit, hne⟩ := st
    obtain ⟨xs, x, hq, hx⟩ := hg
    obtain ⟨its, rv, p, hz⟩ := I.tuple hq
    obtain ⟨u, hu, ru⟩ := rv.get hx
    obtain ⟨oi, hoi, hci, hdi⟩ := id hit
    obtain ⟨oa, hoa, hca, hda⟩ := id p
    have n1 : a ≠ it := ne_cls hoa hoi hca hci (by decide)
    have n2 : a ≠ e := ne_cls hoa he hca rfl (by decide)
    have hl := rv.length
    have DD : Draws X.prog X.w X.A.in1 it [it, a] its.toArray.size (fun i v => its.toArray[i]? = some v) (fun i h => h.IsTupleIter it a i ∧ h.IsTuple a its.toArray) := Draws.tuple (A := X.A.in1) (I.ok.hd hc) it a n1 its.toArray
    have hlt : i < its.toArray.size := by have := (List.getElem?_eq_some_iff.mp hu).1; simpa using this
    have hef : e ∉ [it, a] := by
      intro z
      rcases List.mem_cons.mp z with z | z
      · exact hne z
      · exact n2 (List.mem_singleton.mp z).symm
    refine thnF (enum_core (x := x) (i := i) I hf DD he ⟨hit, p⟩ hlt hne hef (fun h st => by obtain ⟨⟨o, ho, _⟩, _⟩ := st; exact Heap.lt_size ho) (Heap.lt_size hoi) (fun v hv => ?_)) fun r s1 ⟨v, hr, q⟩ => ⟨v, hr, thnF q fun _ s2 ⟨T, I2, rT, hT, he2, st2, nn⟩ => ?_⟩
    · have : its[i]? = some v := by simpa using hv
      rw [hu] at this
      cases this
      exact ru
    · exact ⟨.ref T, _, I2, rT, ⟨T, x, rfl, hT, rfl, fun ys hy => by rw [I.tuple_inj hy hq]; exact hx⟩, ⟨he2, st2.1, hne⟩, nn⟩
  done := by
    intro X hP hw hK hc i pins s σ H E I hf st hg
    subst hP hw hK
    obtain ⟨⟨old, he⟩, hit, hne⟩ := st
    obtain ⟨xs, hq, hx⟩ := hg
    obtain ⟨its, rv, p, hz⟩ := I.tuple hq
    obtain ⟨f0, f1, f2, f3, f4, f5⟩ := hf it (by simp)
    obtain ⟨oi, hoi, hci, hdi⟩ := id hit
    obtain ⟨oa, hoa, hca, hda⟩ := id p
    have n1 : a ≠ it := ne_cls hoa hoi hca hci (by decide)
    have hl := rv.length
    exact enum_end he (fun Q E hE => wpAny_nextOf_tuple_end (A := X.A.in1) (I.ok.hd hc) hit p (by simp; omega) hE) fun h' eb => ⟨rfl, I.turned (t' := s.toks) (fun b o hb q => eb b o hb q) f0 f1 f3 f4 f5⟩
  self := fun A i s Q E st h => let ⟨⟨_, he⟩, _⟩ := st; wpAny_pyIter_enum he h

/-! ### enumerate(dict): its keys -/
def IteK (d : Addr) (o : Obj) (kvs : List (Key × V)) : It :=
  ⟨fun i H => H d = some (.frz o (.dK kvs)) ∧ i < kvs.length, fun i H v H' => ∃ T k x, v = .ref T ∧ H T = none ∧ H' = upd H T (.tup [.int (i : Nat), kV k]) ∧ kvs[i]? = some (k, x), fun i H => H d = some (.frz o (.dK kvs)) ∧ kvs.length ≤ i⟩
theorem turn_enumK {P : Program} {w : World} {K : PySem.W.Frag} {elts : List Expr} {kk : Nat} {tpos : Pos} {kvs : List (Key × V)} {d : Addr} {o : Obj} {es : Array DictEntry} {ep : Nat} (e it : Addr) (hod : o.data = .dict es ep) :
    Turn P w K (.Tuple elts kk tpos) (IteK d o kvs) [e, it] e (fun i h => (∃ old, IsEnum h e it ((i : Nat) : Int) old) ∧ h.IsKeyIter it d i es.size ep ∧ e ≠ it) where
  mem := by simp
  obj := fun i h st b hb => by
    obtain ⟨⟨old, he⟩, ⟨o, ho, hc, hd⟩, _⟩ := st
    have e' : b = e ∨ b = it := by simpa using hb
    rcases e' with z | z
    · rw [z]; exact ⟨_, he, fun v q => nomatch q⟩
    · rw [z]; exact ⟨o, ho, fun v q => by rw [hd] at q; cases q⟩
  keep := fun i h h' st k => let ⟨⟨old, he⟩, hi, hne⟩ := st; ⟨⟨old, k e (by simp) _ he⟩, hi.at fun o q => k it (by simp) o q, hne⟩
  item := by
    intro X hP hw hK hc i pins s σ H E I hf st hg
    subst hP hw hK
    obtain ⟨⟨old, he⟩, hit, hne⟩ := st
    obtain ⟨hd, hi⟩ := hg
    obtain ⟨hs, hgd, hx, es', ep', vs, hdt, hsz, kv, hm⟩ := I.frzK hd
    obtain ⟨rfl, rfl⟩ := dict_ep hod hdt
    obtain ⟨⟨k, v⟩, hkv⟩ : ∃ p, kvs[i]? = some p := ⟨kvs[i], List.getElem?_eq_getElem hi⟩
    obtain ⟨u, hu, ru⟩ := kv_get kv hkv
    obtain ⟨oi, hoi, hci, hdi⟩ := id hit
    have n1 : d ≠ it := ne_cls hgd hoi hx.1 hci (by decide)
    have n2 : d ≠ e := ne_cls hgd he hx.1 rfl (by decide)
    have raw : s.heap.DictRaw d es' ep' := ⟨o, hgd, hx, hdt⟩
    have DD : Draws X.prog X.w X.A.in1 it [it, d] es'.size (fun i v => ∃ e, es'[i]? = some e ∧ v = e.key) (fun i h => h.IsKeyIter it d i es'.size ep' ∧ h.DictRaw d es' ep') := nd_drawsKeys (A := X.A.in1) (I.ok.hd hc) it d n1 es' ep'
    have hlt : i < es'.size := by omega
    have hef : e ∉ [it, d] := by
      intro z
      rcases List.mem_cons.mp z with z | z
      · exact hne z
      · exact n2 (List.mem_singleton.mp z).symm
    refine thnF (enum_core (x := kV k) (i := i) I hf DD he ⟨hit, raw⟩ hlt hne hef (fun h st => by obtain ⟨⟨o, ho, _⟩, _⟩ := st; exact Heap.lt_size ho) (Heap.lt_size hoi) (fun v' hv => ?_)) fun r s1 ⟨v', hr, q⟩ => ⟨v', hr, thnF q fun _ s2 ⟨T, I2, rT, hT, he2, st2, nn⟩ => ?_⟩
    · obtain ⟨en, hen, rfl⟩ := hv
      obtain ⟨o2, es2, h2, _, hdt2, r2⟩ := hm
      rw [hgd] at h2
      cases h2
      rw [hdt] at hdt2
      cases hdt2
      have hk := (r2.2.1.get? (by simpa using hen) hu).1
      exact relV_key (show keyIs k en.key = true from hk)
    · exact ⟨.ref T, _, I2, rT, ⟨T, k, v, rfl, hT, rfl, hkv⟩, ⟨he2, st2.1, hne⟩, nn⟩
  done := by
    intro X hP hw hK hc i pins s σ H E I hf st hg
    subst hP hw hK
    obtain ⟨⟨old, he⟩, hit, hne⟩ := st
    obtain ⟨hd, hi⟩ := hg
    obtain ⟨hs, hgd, hx, es', ep', vs, hdt, hsz, kv, hm⟩ := I.frzK hd
    obtain ⟨rfl, rfl⟩ := dict_ep hod hdt
    obtain ⟨f0, f1, f2, f3, f4, f5⟩ := hf it (by simp)
    exact enum_end he (fun Q E hE => nd_nextOf_end (A := X.A.in1) (I.ok.hd hc) hit ⟨o, hgd, hx, hdt⟩ (by omega) hE) fun h' eb => ⟨rfl, I.turned (t' := s.toks) (fun b o hb q => eb b o hb q) f0 f1 f3 f4 f5⟩
  self := fun A i s Q E st h => let ⟨⟨_, he⟩, _⟩ := st; wpAny_pyIter_enum he h
/-! ### the keys of a dict with tuple keys, its object told -/
def Itn (d : Addr) (o : Obj) (es : Array DictEntry) : It :=
  ⟨fun i H => H d = some (dOb d o) ∧ ∃ b en, es[i]? = some en ∧ en.key = .ref b, fun i H x H' => H' = H ∧ ∃ b en, es[i]? = some en ∧ en.key = .ref b ∧ x = .ref b, fun i H => H d = some (dOb d o) ∧ es.size ≤ i⟩
theorem turn_dn {P : Program} {w : World} {K : PySem.W.Frag} {tg : Expr} {d : Addr} {o : Obj} {es : Array DictEntry} {ep : Nat} (it : Addr) (hx : o.ExactDict) (hod : o.data = .dict es ep) : Turn P w K tg (Itn d o es) [it] it (fun i h => h.IsKeyIter it d i es.size ep) where
  mem := by simp
  obj := fun i h st b hb => by
    have e : b = it := by simpa using hb
    subst e
    obtain ⟨oi, e, c, dd⟩ := st
    exact ⟨oi, e, fun v z => by rw [dd] at z; cases z⟩
  keep := fun i h h' st k => st.at fun oi e => k it (by simp) oi e
  item := by
    intro X hP hw hK hc i pins s σ H E I hf st hg
    subst hP hw hK
    obtain ⟨hd, b, en, hen, hkb⟩ := hg
    obtain ⟨f0, f1, f2, f3, f4, f5⟩ := hf it (by simp)
    have hgd := dn_get? I hd
    have hi : i < es.size := (Array.getElem?_eq_some_iff.mp hen).1
    have hei : es[i] = en := (Array.getElem?_eq_some_iff.mp hen).2
    refine wpAny_pyNext_keys_item_raw st ⟨o, hgd, hx, hod⟩ hi fun h' st' sb => ?_
    have I1 : Inv X pins σ H { s with heap := h' } := I.turned (t' := s.toks) (fun b ob hb e => (sb.2 b hb).trans e) f0 f1 f3 f4 f5
    obtain ⟨oi, e, c, dd⟩ := id st'
    refine ⟨_, rfl, go_of (s := { s with heap := h' }) e c dd (by decide) ⟨.ref b, H, I1, ?_, ⟨rfl, b, en, hen, hkb, rfl⟩, st', fun b hb => (hf b hb).1⟩⟩
    rw [hei, hkb]
    rfl
  done := by
    intro X hP hw hK hc i pins s σ H E I hf st hg
    subst hP hw hK
    obtain ⟨hd, hi⟩ := hg
    obtain ⟨f0, f1, f2, f3, f4, f5⟩ := hf it (by simp)
    exact wpAny_pyNext_keys_end_raw (I.ok.hd hc) st ⟨o, dn_get? I hd, hx, hod⟩ hi fun h' eb => ⟨rfl, I.turned (t' := s.toks) (fun b ob hb e => eb b ob hb e) f0 f1 f3 f4 f5⟩
  self := fun A i s Q E st h => wpAny_pyIter_keyiter st h
section
variable {X : Cx} {tg : Expr}
def iEnumT (K : PySem.W.Frag) (ta : TA) : TI := fun σ H R => ta σ H fun vs H1 => ∃ a xs, vs = [.ref a] ∧ SqT K H1 a xs ∧ R (IteT K a) H1
theorem pi_enumT {e : Expr} {ta : TA} {p pos tpos : Pos} {elts : List Expr} {kk : Nat} (hg : Gl X "enumerate") (hm : X.mg "enumerate" = none) (ha : PA X [e] ta) (hs : starEach [e] X.env = [(false, eval e X.env)] := by rfl) :
    PI X (.Tuple elts kk tpos) (.Call (.Name "enumerate" p) [e] [] pos) (iEnumT X.K ta) := by
  refine ⟨fun pins s σ H R I h => ?_⟩
  refine Call_ (ld_blt I hg hm boot_enumerate (PyProof.Rows.callWith_type1 (thn (ha.run pos pins s σ H _ I h) fun us s1 ⟨vs, H1, I1, r1, q1⟩ => ?_) hs rfl))
  obtain ⟨a, xs, ex, hq, q⟩ := q1
  subst ex
  cases r1 with
  | cons r rr =>
    cases rr
    cases r
    obtain ⟨its, rv, p', hz⟩ := I1.tuple hq
    refine nd_enum_begins (begins_tuple a its.toArray) p' fun h' he hit hsz hk => wpAny_pyIter_enum he ?_
    have I2 : Inv X pins σ H1 { s1 with heap := h' } := I1.kept (t' := s1.toks) hk
    refine ⟨s1.heap.objs.size + 1, [s1.heap.objs.size + 1, s1.heap.objs.size], _, _, H1, rfl, I2, turn_enumT a (s1.heap.objs.size + 1) s1.heap.objs.size, ⟨⟨.none, he⟩, ⟨_, hit, rfl, rfl⟩, Nat.succ_ne_self _⟩, fun b hb => ?_, q⟩
    have e' : b = s1.heap.objs.size + 1 ∨ b = s1.heap.objs.size := by simpa using hb
    have hle : s1.heap.objs.size ≤ b := by
      rcases e' with z | z
      · rw [z]; exact Nat.le_add_right _ _
      · rw [z]; exact Nat.le_refl _
    exact I1.fpOk hle (I1.hok.fresh hle)
def iEnumK (ta : TA) : TI := fun σ H R => ta σ H fun vs H1 => ∃ d o kvs, vs = [.ref d] ∧ H1 d = some (.frz o (.dK kvs)) ∧ R (IteK d o kvs) H1
theorem pi_enumK {e : Expr} {ta : TA} {p pos tpos : Pos} {elts : List Expr} {kk : Nat} (hg : Gl X "enumerate") (hm : X.mg "enumerate" = none) (ha : PA X [e] ta) (hs : starEach [e] X.env = [(false, eval e X.env)] := by rfl) :
    PI X (.Tuple elts kk tpos) (.Call (.Name "enumerate" p) [e] [] pos) (iEnumK ta) := by
  refine ⟨fun pins s σ H R I h => ?_⟩
  refine Call_ (ld_blt I hg hm boot_enumerate (PyProof.Rows.callWith_type1 (thn (ha.run pos pins s σ H _ I h) fun us s1 ⟨vs, H1, I1, r1, q1⟩ => ?_) hs rfl))
  obtain ⟨d, o, kvs, ex, hd, q⟩ := q1
  subst ex
  cases r1 with
  | cons r rr =>
    cases rr
    cases r
    obtain ⟨hs', hgd, hx, es, ep, vs, hdt, hsz, kv, hm'⟩ := I1.frzK hd
    refine nd_enum_begins (nd_beginsKeys d hs' es ep) ⟨o, hgd, hx, hdt⟩ fun h' he hit hsz' hk => wpAny_pyIter_enum he ?_
    have I2 : Inv X pins σ H1 { s1 with heap := h' } := I1.kept (t' := s1.toks) hk
    refine ⟨s1.heap.objs.size + 1, [s1.heap.objs.size + 1, s1.heap.objs.size], _, _, H1, rfl, I2, turn_enumK (s1.heap.objs.size + 1) s1.heap.objs.size hdt, ⟨⟨.none, he⟩, ⟨_, hit, rfl, rfl⟩, Nat.succ_ne_self _⟩, fun b hb => ?_, q⟩
    have e' : b = s1.heap.objs.size + 1 ∨ b = s1.heap.objs.size := by simpa using hb
    have hle : s1.heap.objs.size ≤ b := by
      rcases e' with z | z
      · rw [z]; exact Nat.le_add_right _ _
      · rw [z]; exact Nat.le_refl _
    exact I1.fpOk hle (I1.hok.fresh hle)
def iKeysN (td : TE) : TI := fun σ H R => td σ H fun x H1 => ∃ d o es ep, x = .ref d ∧ (d == sysModules) = false ∧ H1 d = some (dOb d o) ∧ o.ExactDict ∧ o.data = .dict es ep ∧ R (Itn d o es) H1
theorem pi_keysN {e : Expr} {td : TE} (he : PE X e td) : PI X tg e (iKeysN td) := by
  refine ⟨fun pins s σ H R I h => ?_⟩
  refine thn (he.run pins s σ H _ I h) fun u s1 ⟨x, H1, I1, rx, d, o, es, ep, ex, hs, hd, hx, hdt, q⟩ => ?_
  subst ex
  obtain rfl : u = Value.ref d := rx
  exact wpAny_pyIter_dict_raw hs ⟨o, dn_get? I1 hd, hx, hdt⟩ (pi_one (tk := s1.toks) I1 _ (turn_dn _ hx hdt) ⟨_, Heap.get?_push_size _ rfl, rfl, rfl⟩ q)
theorem PI.or {iter : Expr} {w1 w2 : TI} (h1 : PI X tg iter w1) (h2 : PI X tg iter w2) : PI X tg iter (fun σ H R => w1 σ H R ∨ w2 σ H R) := by
  refine ⟨fun pins s σ H R I h => ?_⟩
  rcases h with h | h
  · exact h1.run pins s σ H R I h
  · exact h2.run pins s σ H R I h
theorem PE.or {e : Expr} {t1 t2 : TE} (h1 : PE X e t1) (h2 : PE X e t2) : PE X e (fun σ H Q => t1 σ H Q ∨ t2 σ H Q) := by
  refine ⟨fun pins s σ H Q I h => ?_⟩
  rcases h with h | h
  · exact h1.run pins s σ H Q I h
  · exact h2.run pins s σ H Q I h
end
end N
set_option Elab.async false
set_option linter.all false
set_option maxRecDepth 100000
set_option maxHeartbeats 4000000
namespace N
open PySem PySem.Spec PyProof.Rows L2
def e0 : Obj := { cls := .type "dict", data := .dict #[] }
/-! ### readings by values -/
def rGetN (P : Program) (w : World) : R2 := fun x y H Q => ∃ a b F kvs k v, x = .ref a ∧ y = .ref b ∧ Same F H ∧ DnO P w F H a kvs ∧ keyOk k = true ∧ Den F (.ref b) k ∧ lookN kvs k = some v ∧ Q v H
def rGetK : R2 := fun x y H Q => ∃ a v, x = .ref a ∧ DGet H a y (some v) ∧ Q v H
def rInN (P : Program) (w : World) (neg : Bool) : R2 := fun y x H Q => ∃ a b F kvs k, x = .ref a ∧ y = .ref b ∧ Same F H ∧ DnO P w F H a kvs ∧ keyOk k = true ∧ Den F (.ref b) k ∧ Q (.bl (if neg then !(lookN kvs k).isSome else (lookN kvs k).isSome)) H
def rInK (neg : Bool) : R2 := fun y x H Q => ∃ a o, x = .ref a ∧ DGet H a y o ∧ Q (.bl (if neg then !o.isSome else o.isSome)) H
def rSetN (P : Program) (w : World) : TSet := fun o i v H Q => ∃ a b F ob kvs xs k, o = .ref a ∧ i = .ref b ∧ Same F H ∧ (a == sysModules) = false ∧ H a = some (dOb a ob) ∧ DnR P w F ob kvs xs ∧ keyOk k = true ∧ Den F (.ref b) k ∧ kvs.length < sizeLine ∧
  ∀ ob' xs', DnR P w F ob' (putN kvs k v) xs' → Q (upd H a (dOb a ob'))
def rSetK : TSet := fun o i v H Q => ∃ a H', o = .ref a ∧ DPut H a i v H' ∧ Q H'
section
variable {X : Cx}
theorem dn_exact {pins : List (Addr × Obj)} {σ : L2.St} {F H : Hp} {s : Shared} {a : Addr} {kvs : List (D × V)} (I : Inv X pins σ H s) (d : DnO X.prog X.w F H a kvs) : s.TypeIs (.ref a) "dict" ∧ (∀ b, Value.ref a = .ref b → ∃ ob, s.heap.get? b = some ob ∧ ob.dict = none) ∧ (a == sysModules) = false := by
  obtain ⟨hd, o, xs, e, q⟩ := d
  have h := dn_get? I e
  exact ⟨⟨o, h, q.ex.1⟩, fun b z => by cases z; exact ⟨o, h, q.ex.2.1⟩, hd⟩
theorem ix_dn (hu : X.A.units + 100 < cLine) : IxR X (rGetN X.prog X.w) := by
  intro value slice pins s σ H x y v u Q I rx ry h hs
  obtain ⟨a, b, F, kvs, k, z, rfl, rfl, f, d, kk, hb, l, q⟩ := h
  obtain rfl : v = Value.ref a := rx
  obtain rfl : u = Value.ref b := ry
  exact tail_any (dn_exact I d).1 PySem.F.slot_dict_getitem.lookup (dn_getItem (by omega) I f d kk hb l fun w' s' I' r' => ⟨z, H, I', r', q⟩) hs
theorem ix_dk (hu : X.A.units + 100 < cLine) : IxR X rGetK := by
  intro value slice pins s σ H x y v u Q I rx ry h hs
  obtain ⟨a, z, rfl, d, q⟩ := h
  obtain rfl : v = Value.ref a := rx
  exact tail_any (dict_typeIs I d) PySem.F.slot_dict_getitem.lookup (d_getItem (by omega) I d ry fun w' s' I' r' => ⟨z, H, I', r', q⟩) hs
theorem op_inN (hu : X.A.units + 100 < cLine) : OpR X (compareOp .In) (rInN X.prog X.w false) := by
  intro pins s σ H y x u v Q I ry rx h
  obtain ⟨a, b, F, kvs, k, rfl, rfl, f, d, kk, hb, q⟩ := h
  obtain rfl : v = Value.ref a := rx
  obtain rfl : u = Value.ref b := ry
  exact dn_in (by omega) I f d kk hb fun s' I' => ⟨.bl _, H, I', rfl, q⟩
theorem op_notInN (hu : X.A.units + 100 < cLine) : OpR X (compareOp .NotIn) (rInN X.prog X.w true) := by
  intro pins s σ H y x u v Q I ry rx h
  obtain ⟨a, b, F, kvs, k, rfl, rfl, f, d, kk, hb, q⟩ := h
  obtain rfl : v = Value.ref a := rx
  obtain rfl : u = Value.ref b := ry
  exact dn_notIn (by omega) I f d kk hb fun s' I' => ⟨.bl _, H, I', rfl, q⟩
theorem op_inK (hu : X.A.units + 100 < cLine) : OpR X (compareOp .In) (rInK false) := by
  intro pins s σ H y x u v Q I ry rx h
  obtain ⟨a, o, rfl, d, q⟩ := h
  obtain rfl : v = Value.ref a := rx
  exact d_in (by omega) I d ry fun s' I' => ⟨.bl _, H, I', rfl, q⟩
theorem op_notInK (hu : X.A.units + 100 < cLine) : OpR X (compareOp .NotIn) (rInK true) := by
  intro pins s σ H y x u v Q I ry rx h
  obtain ⟨a, o, rfl, d, q⟩ := h
  obtain rfl : v = Value.ref a := rx
  exact d_notIn (by omega) I d ry fun s' I' => ⟨.bl _, H, I', rfl, q⟩
theorem set_dn (hu : X.A.units + 100 < cLine) : PSet X (rSetN X.prog X.w) := by
  intro pins s σ H o i v ov iv u Q I ro ri rv h
  obtain ⟨a, b, F, ob, kvs, xs, k, rfl, rfl, f, hd, e, d, kk, hb, hl, q⟩ := h
  obtain rfl : ov = Value.ref a := ro
  obtain rfl : iv = Value.ref b := ri
  exact dn_setItem (by omega) I f hd e d kk hb rv hl fun o' xs' s' d' I' => ⟨_, I', q o' xs' d'⟩
theorem set_dk (hu : X.A.units + 100 < cLine) : PSet X rSetK := by
  intro pins s σ H o i v ov iv u Q I ro ri rv h
  obtain ⟨a, H', rfl, d, q⟩ := h
  obtain rfl : ov = Value.ref a := ro
  exact d_setItem (by omega) I d ri rv fun s' I' => ⟨_, I', q⟩
theorem PSet.or {t t' : TSet} (h : PSet X t) (h' : PSet X t') : PSet X (fun o i v H Q => t o i v H Q ∨ t' o i v H Q) := by
  intro pins s σ H o i v ov iv u Q I ro ri rv q
  rcases q with q | q
  · exact h pins s σ H o i v ov iv u Q I ro ri rv q
  · exact h' pins s σ H o i v ov iv u Q I ro ri rv q
/-! ### what the terms use -/
abbrev rGet (K : PySem.W.Frag) (P : Program) (w : World) : R2 := fun x y H Q => rIx K x y H Q ∨ rGetK x y H Q ∨ rGetN P w x y H Q
theorem ix_any (hu : X.A.units + 100 < cLine) : IxR X (rGet X.K X.prog X.w) := IxR.or ix_seq (IxR.or (ix_dk hu) (ix_dn hu))
abbrev rIn (P : Program) (w : World) (neg : Bool) : R2 := fun x y H Q => rInL neg x y H Q ∨ rInK neg x y H Q ∨ rInN P w neg x y H Q
theorem op_in (hu : X.A.units + 100 < cLine) : OpR X (compareOp .In) (rIn X.prog X.w false) := OpR.or (op_inL hu) (OpR.or (op_inK hu) (op_inN hu))
theorem op_notIn (hu : X.A.units + 100 < cLine) : OpR X (compareOp .NotIn) (rIn X.prog X.w true) := OpR.or (op_notInL hu) (OpR.or (op_notInK hu) (op_notInN hu))
abbrev rSet (P : Program) (w : World) : TSet := fun o i v H Q => rSetL o i v H Q ∨ rSetK o i v H Q ∨ rSetN P w o i v H Q
theorem set_any (hu : X.A.units + 100 < cLine) : PSet X (rSet X.prog X.w) := PSet.or set_list (PSet.or (set_dk hu) (set_dn hu))
/-- {} -/
def tDNewN : TE := fun _ H Q => ∀ p, H p = none → (p == sysModules) = false → Q (.ref p) (upd H p (dOb p e0))
theorem pe_dnewN {pos : Pos} : PE X (.Dict [] [] pos) tDNewN := ⟨fun pins s σ H Q I h => by
  have hb := I.big
  have hs : (s.heap.objs.size == sysModules) = false := beq_eq_false_iff_ne.mpr (Ne.symm (Nat.ne_of_lt hb))
  exact wpAny_Dict_empty ⟨.ref s.heap.objs.size, _, I.laid (a := s.heap.objs.size) (o := dOb s.heap.objs.size e0) (t' := s.toks) (fun _ _ q => Heap.get?_push_of_some _ q) (Nat.le_refl _) (dOb_ok (Heap.get?_push_size _ rfl)), rfl, h _ (I.hok.fresh (Nat.le_refl _)) hs⟩⟩
def tDNew : TE := fun σ H Q => tDNewK σ H Q ∨ tDNewN σ H Q
theorem pe_dnew {pos : Pos} : PE X (.Dict [] [] pos) tDNew := PE.or pe_dnewK pe_dnewN
/-- setdefault of a dict with tuple keys -/
def tDSetN (P : Program) (w : World) (td ty tx : TE) : TE := fun σ H Q => td σ H fun x H1 => ∃ a, x = .ref a ∧ (∃ F kvs, DnO P w F H1 a kvs) ∧ ty σ H1 fun y H2 => tx σ H2 fun z H3 => ∃ b F ob kvs xs k, y = .ref b ∧ Same F H3 ∧ (a == sysModules) = false ∧ H3 a = some (dOb a ob) ∧ DnR P w F ob kvs xs ∧
  keyOk k = true ∧ Den F (.ref b) k ∧ kvs.length < sizeLine ∧ (∀ v, lookN kvs k = some v → Q v H3) ∧ (lookN kvs k = none → ∀ ob' xs', DnR P w F ob' (putN kvs k z) xs' → Q z (upd H3 a (dOb a ob')))
theorem pe_dsetN {o e f : Expr} {td ty tx : TE} {apos cpos : Pos} (hu : X.A.units + 100 < cLine) (ho : PE X o td) (he : PE X e ty) (hf : PE X f tx) (m : M2 X o "setdefault" apos e f cpos) : PE X (.Call (.Attribute o "setdefault" apos) [e, f] [] cpos) (tDSetN X.prog X.w td ty tx) := by
  refine ⟨fun pins s σ H Q I h => ?_⟩
  refine wpAny_Call_method m.base m.few m.line PySem.F.plainAttrs_dict PySem.F.slot_dict_setdefault PySem.F.type_dict_setdefault (thn (ho.run pins s σ H _ I h) fun u s1 ⟨x, H1, I1, rx, a, ex, ⟨F, kvs, d⟩, q1⟩ => ?_)
  subst ex
  obtain rfl : u = Value.ref a := rx
  obtain ⟨t1, t2, _⟩ := dn_exact I1 d
  refine ⟨t1, t2, ?_⟩
  rw [m.trees]
  refine Calls.callWith_builtin rfl (Calls.evalArgs_plain (Calls.spliced_cons (thn (he.run pins s1 σ H1 _ I1 q1) fun iv s2 ⟨y, H2, I2, ry, q2⟩ =>
    Calls.spliced_cons (thn (hf.run pins s2 σ H2 _ I2 q2) fun fv s3 ⟨z, H3, I3, rz, b, F3, ob, kvs3, xs, k, ey, f3, hs, e3, d3, kk, hb, hl, q3, q4⟩ => Calls.spliced_nil ?_))))
  subst ey
  obtain rfl : iv = Value.ref b := ry
  exact dn_setdefault (by omega) I3 f3 hs e3 d3 kk hb rz hl (fun v hv w' s4 I4 rw' => ⟨v, _, I4, rw', q3 v hv⟩) fun hn o' xs' s4 d4 I4 => ⟨z, _, I4, rz, q4 hn o' xs' d4⟩
/-- {k: v}, k a tuple -/
def tDispN (P : Program) (w : World) (tk tv : TE) : TE := fun σ H Q => ∀ p, H p = none → (p == sysModules) = false → tk σ (upd H p (dOb p e0)) fun y H1 => tv σ H1 fun z H2 => H2 p = some (dOb p e0) ∧ ∃ b F k, y = .ref b ∧ Same F H2 ∧ Den F (.ref b) k ∧ keyOk k = true ∧
  ∀ ob xs, DnR P w F ob [(k, z)] xs → Q (.ref p) (upd H2 p (dOb p ob))
end
end N
set_option Elab.async false
set_option linter.all false
set_option maxRecDepth 100000
set_option maxHeartbeats 4000000
namespace N
open PySem PySem.Spec PyProof.Rows L2
section
variable {X : Cx}
theorem pe_dispN {k v : Expr} {tk tv : TE} {pos : Pos} (hu : X.A.units + 100 < cLine) (hk : PE X k tk) (hv : PE X v tv) : PE X (.Dict [some k] [v] pos) (tDispN X.prog X.w tk tv) := by
  refine ⟨fun pins s σ H Q I q => ?_⟩
  have hb := I.big
  have hs : (s.heap.objs.size == sysModules) = false := beq_eq_false_iff_ne.mpr (Ne.symm (Nat.ne_of_lt hb))
  have hn := I.hok.fresh (Nat.le_refl s.heap.objs.size)
  have I1 := I.laid (a := s.heap.objs.size) (o := dOb s.heap.objs.size e0) (h' := s.heap.push { cls := .type "dict", data := .dict #[] }) (t' := s.toks) (fun _ _ q => Heap.get?_push_of_some _ q) (Nat.le_refl _) (dOb_ok (Heap.get?_push_size _ rfl))
  rw [arm_eval_Dict, zip_pairTrees [some k] [v] X.env pos rfl rfl, dictDisplay_pairs (pairTrees [some k] [v] X.env pos) (by simp [pairTrees]) (by simp [pairTrees])]
  refine wpAny_bind (wpAny_standAt (wpAny_bind (wpAny_subDictH (knd := nestedKind X.prog X.w) (A := X.A) (Q := fun d s' => wpAny (model X.prog X.w) X.A (pure (Value.ref d)) (EP X pins σ Q) X.xe s') (show X.A.units + 8 < cLine by omega) (by simp [pairTrees]) ?_)))
  refine pairTrees_cons_walk (thn (hk.run pins _ σ _ _ I1 (q _ hn hs)) fun u s1 ⟨y, H1, I2, ry, q1⟩ => thn (hv.run pins s1 σ H1 _ I2 q1) fun w2 s2 ⟨z, H2, I3, rz, e, b, F, kd, ey, f, hb', kk, fin⟩ => pairTrees_nil_walk ?_)
  subst ey
  obtain rfl : u = Value.ref b := ry
  have key := key_is I3.hok (Den.mono f _ _ hb') kk
  have d0 : s2.heap.DictOfH (nestedKind X.prog X.w) s.heap.objs.size [] := dn_of (F := F) (kvs := []) I3 f e dnR_nil
  refine ⟨[(toN kd, b, w2)], ⟨rfl, rfl, key, True.intro⟩, d0, fun h' tk dd sb => wpAny_pure ?_⟩
  have dd' : h'.DictOfH (nestedKind X.prog X.w) s.heap.objs.size (storedH [] (toN kd) b w2) := dd
  obtain ⟨o', g1, d'⟩ := dn_stored (X := X) (F := F) (o := e0) (v := z) (r := w2) (k := kd) (kvs := []) (xs := []) dnR_nil kk hb' rz (by show 0 < sizeLine; decide) dd'
  exact ⟨.ref s.heap.objs.size, _, d_write I3 (dOb_mut e) sb ⟨o', g1⟩ (dOb_ok g1), rfl, fin o' _ d'⟩
end

/-! ### sorted -/
/-- the data in order -/
def leD (a b : D) : Bool := PySem.W.sortLe (PyProof.Rows.listOrd PyProof.Rows.itemOrd) false PySem.W.keyToks a b
def srtD (ds : List D) : List D := ds.mergeSort leD
structure SrtOk (ds : List D) : Prop where
  al : ∀ d ∈ ds, ∀ e ∈ ds, PySem.W.alike d e = true
  so : PySem.W.Sortable ds
  nd : ∀ d ∈ ds, noDict d = true
  dp : ∀ d ∈ ds, d.depth ≤ 64
/-- what is sorted: a list's items, a dict's keys -/
def Src (K : PySem.W.Frag) (P : Program) (w : World) (H : Hp) (a : Addr) (vs : List V) : Prop :=
  SqL K H a vs ∨ (∃ kvs : List (Key × V), Rd H a (.dK kvs) ∧ vs = kvs.map fun kv => kV kv.1) ∨
  ∃ F ob kvs xs, (a == sysModules) = false ∧ H a = some (dOb a ob) ∧ DnR P w F ob kvs xs ∧ vs = xs.map fun x => .ref x.2.1
def rSorted (K : PySem.W.Frag) (P : Program) (w : World) : List V → Hp → VK → Prop := fun xs H Q => ∃ a F vs ds, xs = [.ref a] ∧ Same F H ∧ Src K P w H a vs ∧ DenL F vs ds ∧ SrtOk ds ∧ vs.length ≤ sizeLine ∧ ∀ vs' p, DenL F vs' (srtD ds) → H p = none → Q (.ref p) (upd H p (.lst vs'))
section
variable {X : Cx} {pins : List (Addr × Obj)} {σ : L2.St} {F H : Hp} {s : Shared}
open PySem.W (EachIs)
theorem each_of : ∀ {ds : List D} {vs : List V} {us : List Value}, DenL F vs ds → Vals vs us → EachIs (fun u d => ∃ v, RelV v u ∧ Den F v d) us ds
  | [], _, _, h, r => by
    cases h
    cases r
    exact .nil
  | _ :: _, _, _, h, r => by
    cases h with
    | cons h1 h2 =>
      cases r with
      | cons r1 r2 => exact .cons ⟨_, r1, h1⟩ (each_of h2 r2)
theorem of_each : ∀ {ds : List D} {us : List Value}, EachIs (fun u d => ∃ v, RelV v u ∧ Den F v d) us ds → ∃ vs, Vals vs us ∧ DenL F vs ds
  | [], _, h => by
    cases h
    exact ⟨[], .nil, .nil⟩
  | _ :: _, _, h => by
    cases h with
    | cons h1 h2 =>
      obtain ⟨v, r, d⟩ := h1
      obtain ⟨vs, rs, ds⟩ := of_each h2
      exact ⟨v :: vs, .cons r rs, .cons d ds⟩
theorem each_map {R S : Value → D → Prop} : ∀ {us : List Value} {ds : List D}, EachIs R us ds → (∀ u d, d ∈ ds → R u d → S u d) → EachIs S us ds
  | _, _, .nil, _ => .nil
  | _, _, .cons r t, f => .cons (f _ _ List.mem_cons_self r) (each_map t fun u d m => f u d (List.mem_cons_of_mem _ m))
/-- the new list that a sort leaves -/
theorem sorted_out (I : Inv X pins σ H s) (f : Same F H) {ds : List D} {vs : List V} {us : List Value} (hd : DenL F vs ds) (hv : Vals vs us) (ok : SrtOk ds) {hp : Heap} (hk : ∀ b o, s.heap.get? b = some o → hp.get? b = some o) :
    EachIs (fun u d => ∃ v, RelV v u ∧ Den F v d) (PySem.W.sortVals (PySem.W.dataKind hp ds) false us us) (srtD ds) := by
  have e1 := each_of hd hv
  refine PySem.W.sortVals_each (κ := PySem.W.dataKind hp ds) (rev := false) PySem.W.keyToks e1 (each_map e1 fun u d m ⟨v, r, x⟩ => ?_)
  obtain ⟨as, q⟩ := den_reads I (Den.mono f _ _ x) (ok.nd d m) r
  exact PySem.W.dataKind_some ok.al m (PyProof.Rows.Reads.keeps hk q)
theorem sortsAt_of (I : Inv X pins σ H s) (f : Same F H) {ds : List D} {vs : List V} {us : List Value} (hd : DenL F vs ds) (hv : Vals vs us) (ok : SrtOk ds) (hu : X.A.units + 100 < cLine) {s' : Shared} (hk : ∀ b o, s.heap.get? b = some o → s'.heap.get? b = some o) :
    PySem.W.SortsAt X.prog X.w X.A.in1.in1 s' (PySem.W.dataKind s'.heap ds) us := by
  refine PySem.W.SortsAt.data (each_map (each_of hd hv) fun u d m ⟨v, r, x⟩ => ?_) ok.al ok.so fun d m => ?_
  · obtain ⟨as, q⟩ := den_reads I (Den.mono f _ _ x) (ok.nd d m) r
    exact ⟨as, PyProof.Rows.Reads.keeps hk q⟩
  · have := ok.dp d m
    show X.A.units + 1 + 1 + d.depth < cLine
    omega
theorem vals_keys {P : Program} {w : World} : ∀ {kvs : List (Key × V)} {acc : List Value}, acc.length = kvs.length → (∀ (j : Nat) (v : Value), acc[j]? = some v → ∃ k x, kvs[j]? = some (k, x) ∧ (mixKind P w).is k v = true) → Vals (kvs.map fun kv => kV kv.1) acc
  | [], [], _, _ => .nil
  | [], _ :: _, h, _ => by simp at h
  | _ :: _, [], h, _ => by simp at h
  | (k, x) :: kvs, u :: acc, hl, h => by
    refine .cons ?_ (vals_keys (P := P) (w := w) (by simpa using hl) fun j v e => ?_)
    · obtain ⟨k', x', e1, e2⟩ := h 0 u rfl
      simp at e1
      rw [← e1.1] at e2
      exact relV_key (show keyIs k u = true from e2)
    · obtain ⟨k', x', e1, e2⟩ := h (j + 1) v (by simpa using e)
      exact ⟨k', x', by simpa using e1, e2⟩
theorem vals_refs : ∀ {vs : List V} {us : List Value}, vs.length = us.length → (∀ (j : Nat) (x : V) (u : Value), vs[j]? = some x → us[j]? = some u → RelV x u) → Vals vs us
  | [], [], _, _ => .nil
  | [], _ :: _, h, _ => by simp at h
  | _ :: _, [], h, _ => by simp at h
  | _ :: _, _ :: _, hl, h => .cons (h 0 _ _ rfl rfl) (vals_refs (by simpa using hl) fun j x u h1 h2 => h (j + 1) x u (by simpa using h1) (by simpa using h2))
theorem each_len {R : Value → D → Prop} : ∀ {us : List Value} {ds : List D}, EachIs R us ds → us.length = ds.length
  | _, _, .nil => rfl
  | _, _, .cons _ t => by rw [List.length_cons, List.length_cons, each_len t]
theorem srtD_len (ds : List D) : (srtD ds).length = ds.length := List.length_mergeSort _
theorem sorted_src {ds : List D} {vs : List V} {a : Addr} {T : String} {n : Nat} {Pd : Nat → Value → Prop} {OK : Heap → Prop} {Q : VK} (hcalm : X.calm = true) (I : Inv X pins σ H s) (f : Same F H) (K : PySem.W.KdlSrc X.prog X.w T a a n Pd OK) (hok : OK s.heap) (hn : n ≤ sizeLine)
    (hv : ∀ acc : Array Value, PySem.ItemsOf Pd acc n → Vals vs acc.toList) (hd : DenL F vs ds) (ok : SrtOk ds) (hu : X.A.units + 100 < cLine) (hl : vs.length ≤ sizeLine)
    (q : ∀ vs' p, DenL F vs' (srtD ds) → H p = none → Q (.ref p) (upd H p (.lst vs'))) : wpAny (model X.prog X.w) X.A (call (.builtin "sorted") [.ref a]) (EP X pins σ Q) X.xe s := by
  refine Calls.call_function_entry PyProof.Rows.kind_sorted PyProof.Rows.plain_sorted PyProof.Rows.entry_sorted (PyProof.Rows.args_sorted1 _) ?_
  unfold Builtin.«sorted»
  refine wpAny_bind (m := checkCount "sorted" 1 1 _) (wpAny_pure ?_)
  refine wpAny_bind (PySem.W.kdu_collect (A := X.A.in1) K (I.ok.hd hcalm) hok hn fun h' tk acc hk hacc => ?_)
  have rv := hv acc hacc
  have hal : acc.toList.length = vs.length := (Paired.length rv).symm
  have I1 : Inv X pins σ H { s with heap := h', toks := tk } := I.kept hk
  refine wpAny_bind (wpAny_newList ?_ (by rw [hal]; exact hl))
  have hoL : (h'.push (seqObj "list" acc.toList.toArray 0)).get? h'.objs.size = some (seqObj "list" acc.toList.toArray 0) := Heap.get?_push_size _ rfl
  show wpAny _ _ _ _ _ { s with heap := h'.push (seqObj "list" acc.toList.toArray 0), toks := tk }
  have hk2 : ∀ b o, h'.get? b = some o → (PySem.W.sortingHeap (h'.push (seqObj "list" acc.toList.toArray 0)) h'.objs.size acc.toList).get? b = some o := fun b o e =>
    PySem.W.sortingHeap_old (Nat.ne_of_lt (Heap.lt_size e)) (Heap.get?_push_of_some _ e)
  have S := sortsAt_of (s' := { s with heap := PySem.W.sortingHeap (h'.push (seqObj "list" acc.toList.toArray 0)) h'.objs.size acc.toList, toks := tk }) I1 f hd rv ok hu hk2
  refine wpAny_bind (wpAny_holding (wpAny_call_entry PyProof.Rows.slot_list_sort ⟨_, hoL, rfl⟩ PyProof.Rows.entry_list_sort
    (PySem.W.list_sort_vals (A := X.A.in1.in1) (s := { s with heap := h'.push (seqObj "list" acc.toList.toArray 0), toks := tk }) hoL S (by rw [hal]; exact hl) ⟨_, rfl, ?_⟩) (PyProof.Rows.args_list_sort _)))
  obtain ⟨vs', rv', hd'⟩ := of_each (sorted_out I1 f hd rv ok hk2)
  obtain ⟨e', he'⟩ := PyProof.Rows.sortedHeap_at (vs := acc.toList) (out := (PySem.W.sortVals (PySem.W.dataKind (PySem.W.sortingHeap (h'.push (seqObj "list" acc.toList.toArray 0)) h'.objs.size acc.toList) ds) false acc.toList acc.toList).toArray) hoL
  have hlen : vs'.length ≤ sizeLine := by
    rw [hd'.length, srtD_len, ← hd.length]
    exact hl
  refine wpAny_pure ⟨_, rfl, .ref h'.objs.size, upd H h'.objs.size (.lst vs'), I1.laid (t' := tk) (fun b u e => ?_) (Nat.le_refl _)
    (show ObjOk X.prog X.w _ _ _ (.lst vs') from ⟨hlen, _, e', rv', he'⟩), rfl, q vs' _ hd' (I1.hok.fresh (Nat.le_refl _))⟩
  have hb : b < h'.objs.size := Heap.lt_size e
  rw [PyProof.Rows.sortedHeap_old (Nat.ne_of_lt hb) (by rw [size_push']; exact Nat.lt_succ_of_lt hb)]
  exact Heap.get?_push_of_some _ e
theorem cr_sorted (hcalm : X.calm = true) (hu : X.A.units + 100 < cLine) : CallR X (.builtin "sorted") (rSorted X.K X.prog X.w) := by
  intro pins s σ H xs us Q I r h
  obtain ⟨a, F, vs, ds, rfl, f, hs, hd, ok, hl, q⟩ := h
  obtain ⟨u, rfl, ru⟩ := vals1 r
  obtain rfl : u = Value.ref a := ru
  rcases hs with hs | ⟨kvs, hk, rfl⟩ | ⟨F2, ob, kvs, xs, hm, e, d, rfl⟩
  · obtain ⟨its, rv, pl, hz⟩ := I.list hs
    have hk2 : ∀ b o, s.heap.get? b = some o → (PySem.W.sortingHeap (PySem.W.copyHeap s.heap its) (s.heap.objs.size + 1) its).get? b = some o := fun b o e => PySem.W.sorting_copy_old e
    have S := sortsAt_of (s' := { s with heap := PySem.W.sortingHeap (PySem.W.copyHeap s.heap its) (s.heap.objs.size + 1) its }) I f hd rv ok hu hk2
    have hil : its.length ≤ sizeLine := by rw [← Paired.length rv]; exact hl
    refine PySem.W.sorted_vals pl.isList S hil ?_
    obtain ⟨vs', rv', hd'⟩ := of_each (sorted_out I f hd rv ok hk2)
    have hlen : vs'.length ≤ sizeLine := by
      rw [hd'.length, srtD_len, ← hd.length]
      exact hl
    obtain ⟨e', he'⟩ := PyProof.Rows.sortedHeap_at (out := (PySem.W.sortVals (PySem.W.dataKind (PySem.W.sortingHeap (PySem.W.copyHeap s.heap its) (s.heap.objs.size + 1) its) ds) false its its).toArray) (PySem.W.copyHeap_at s.heap its)
    refine ⟨.ref (s.heap.objs.size + 1), upd H (s.heap.objs.size + 1) (.lst vs'), I.laid (t' := s.toks) (fun b u e => ?_) (Nat.le_succ _) (show ObjOk X.prog X.w _ _ _ (.lst vs') from ⟨hlen, _, e', rv', he'⟩), rfl, q vs' _ hd' (I.hok.fresh (Nat.le_succ _))⟩
    have hb : b < s.heap.objs.size := Heap.lt_size e
    show (PyProof.Rows.sortedHeap (PySem.W.copyHeap s.heap its) (s.heap.objs.size + 1) its _).get? b = some u
    have hcz : (PySem.W.copyHeap s.heap its).objs.size = s.heap.objs.size + 2 := by
      unfold PySem.W.copyHeap
      rw [size_push', Heap.size_update, size_push']
    rw [PyProof.Rows.sortedHeap_old (Nat.ne_of_lt (Nat.lt_succ_of_lt hb)) (by rw [hcz]; exact Nat.lt_succ_of_lt (Nat.lt_succ_of_lt hb))]
    exact PySem.W.copyHeap_old e
  · obtain ⟨z, lo, ws, rel, dd⟩ := dk_rd I.hok hk
    obtain ⟨ep, hat⟩ := dd.dictAt
    have hwl : kvs.length = ws.length := Paired.length rel
    refine sorted_src hcalm I f (PySem.W.kdl_dict (knd := mixKind X.prog X.w) (kvs := ws) (ep := ep) lo) hat (by rw [← hwl]; exact z) (fun acc hacc => ?_) hd ok hu hl q
    have e2 : (kvs.map fun kv => kV kv.1) = ws.map fun kv => kV kv.1 := by
      have e3 := congrArg (List.map kV) rel.keys
      rw [List.map_map, List.map_map] at e3
      exact e3
    rw [e2]
    refine vals_refs (by rw [List.length_map]; exact hacc.1.symm.trans Array.length_toList.symm) fun j x w h1 h2 => ?_
    obtain ⟨k, y, hky, hi⟩ := hacc.2 j w (by rw [← Array.getElem?_toList]; exact h2)
    rw [List.getElem?_map, hky] at h1
    cases h1
    exact keyIs_rel hi
  · obtain ⟨es, ep, hdt, he⟩ := d.dat
    have hes : es.size = xs.length := by
      have := congrArg List.length he
      rw [List.length_map, Array.length_toList] at this
      exact this
    refine sorted_src hcalm I f (kdl_raw (es := es) (ep := ep) hm d.ex hdt) (dn_get? I e) (by rw [hes, ← Paired.length d.rel]; exact d.len) (fun acc hacc => ?_) hd ok hu hl q
    refine vals_refs (by rw [List.length_map]; exact (hes.symm.trans hacc.1.symm).trans Array.length_toList.symm) fun j x w h1 h2 => ?_
    obtain ⟨en, hen, rfl⟩ := hacc.2 j w (by rw [← Array.getElem?_toList]; exact h2)
    rw [← Array.getElem?_toList, he, List.getElem?_map] at hen
    rw [List.getElem?_map] at h1
    cases hx : xs[j]? with
    | none => rw [hx] at h1; cases h1
    | some p =>
      rw [hx] at h1 hen
      cases h1
      cases hen
      rfl
end
end N
set_option Elab.async false
set_option linter.all false
set_option maxRecDepth 100000
set_option maxHeartbeats 4000000
namespace N
open PySem PySem.Spec PyProof.Rows L2
theorem dn_dictSet {X : Cx} {pins : List (Addr × Obj)} {σ : L2.St} {F H : Hp} {s : Shared} {E : Value → Shared → Prop} {a b : Addr} {o : Obj} {kvs : List (D × V)} {xs : List (NestedKey × Addr × Value)} {k : D} {v : V} {r : Value} {Q : Unit → Shared → Prop} (hu : X.A.units + 100 < cLine) (I : Inv X pins σ H s) (f : Same F H)
    (e : H a = some (dOb a o)) (d : DnR X.prog X.w F o kvs xs) (hk : keyOk k = true) (hb : Den F (.ref b) k) (rv : RelV v r) (hl : kvs.length < sizeLine)
    (h : ∀ o' xs' s', DnR X.prog X.w F o' (putN kvs k v) xs' → Inv X pins σ (upd H a (dOb a o')) s' → Q () s') : wpAny (model X.prog X.w) X.A (dictSet a (.ref b) r) Q E s := by
  have hz : xs.length ≤ sizeLine := by rw [← Paired.length d.rel]; omega
  refine wpAny_dictSet_heap (hsz := hz) (show X.A.units + 8 < cLine by omega) (key_is I.hok (Den.mono f _ _ hb) hk) (dn_of I f e d) fun h' dd hs => ?_
  obtain ⟨o', h1, d'⟩ := dn_stored d hk hb rv hl dd
  exact h o' _ _ d' (d_write I (dOb_mut e) hs ⟨o', h1⟩ (dOb_ok h1))
section
variable {X : Cx}
/-- a dict comprehension whose keys are tuples -/
def tNc (P : Program) (w : World) (wi : TI) (g : TG) (tt : TT) (tk tv : TE) (vs : List Nat) : TE := fun σ H Q => wi σ H fun J H1 => ∀ D, H1 D = none → (D == sysModules) = false → ∃ W : Nat → Nat → Hp → Prop, (∃ m, W 0 m (upd H1 D (dOb D e0))) ∧ ∀ i m H, W i m H →
  (J.stop i H ∧ Q (.ref D) H) ∨ (J.go i H ∧ ∃ Nx : Hp → Prop, (∀ H', Nx H' → ∃ m', m' < m ∧ W (i + 1) m' H') ∧ ∀ x H', J.yld i H x H' → g x (wipe σ vs) H' fun σ2 H2 => wipe σ2 vs = wipe σ vs ∧ tt σ2 H2 fun b H3 =>
    if b = true then tk σ2 H3 fun y H4 => tv σ2 H4 fun z H5 => ∃ b F ob kvs xs k, y = .ref b ∧ Same F H5 ∧ H5 D = some (dOb D ob) ∧ DnR P w F ob kvs xs ∧ keyOk k = true ∧ Den F (.ref b) k ∧ kvs.length < sizeLine ∧ ∀ ob' xs', DnR P w F ob' (putN kvs k z) xs' → Nx (upd H5 D (dOb D ob')) else Nx H3)
theorem nc_core {pins : List (Addr × Obj)} {s : Shared} {σ : L2.St} {H : Hp} {Q : VK} {kx vx tg iter : Expr} {ifs : List Expr} {scope : Scope} {own : List (Str × Nat)} {pos pos' : Pos} {wi : TI} {g : TG} {tt : TT} {tk tv : TE} {use : Option (Value → Sem Unit)} {Qf : Value → Shared → Prop}
    (hu : X.A.units + 100 < cLine) (hc : X.calm = true) (hN : X.N.Nodup) (I : Inv X pins σ H s) (hi : PI X tg iter wi) (ok : BlkOk X.N X.env.scope scope own)
    (hg : ∀ (s : Shared) (H : Hp) (C : Addr) (cl : List (Str × Addr)) (fp : List Addr), PG (X.blk s H scope (compEnvC scope cl C X.env) fp) tg g) (ht : ∀ (s : Shared) (H : Hp) (C : Addr) (cl : List (Str × Addr)) (fp : List Addr), PTs (X.blk s H scope (compEnvC scope cl C X.env) fp) ifs tt)
    (hk : ∀ (s : Shared) (H : Hp) (C : Addr) (cl : List (Str × Addr)) (fp : List Addr), PE (X.blk s H scope (compEnvC scope cl C X.env) fp) kx tk)
    (he : ∀ (s : Shared) (H : Hp) (C : Addr) (cl : List (Str × Addr)) (fp : List Addr), PE (X.blk s H scope (compEnvC scope cl C X.env) fp) vx tv) (hs : ∀ x, foldedSetIterable iter X.env x = pure x)
    (h : tNc X.prog X.w wi g tt tk tv (own.map (·.2)) σ H Q)
    (hRR : ∀ D C s' m H', Inv X pins σ H' s' → Q (.ref D) H' → s'.heap.Ns C m → FpOk X pins H' C → compPost (model X.prog X.w) X.A X.xe use Qf (.ref D) C (.ok .next) s') :
    wpAny (model X.prog X.w) X.A (comprehension (.DictComp kx vx [⟨tg, iter, ifs, 0⟩] scope pos) scope X.env pos' newDict false (eval iter X.env) use) Qf X.xe s := by
  have hfr : ∀ y ∈ scope.names, y.2 = .free → ∃ c, X.env.cells.lookup y.1 = some c := fun y hy e => by
    rcases ok.free y hy e with k | k
    · exact I.ok.has _ (.inl k)
    · exact I.ok.has _ (.inr k)
  refine wpAny_comprehension_free (use := use) rfl hs (closure_ok hfr) ok.kind (fun y hy e => by rw [ok.uniq y hy, e])
    (thn (hi.run pins s σ H _ I h) fun xv s1 hx => thn hx fun itv s2 h2 => ?_)
  obtain ⟨it, fp, tn, J, H2, e, I2, T, st2, f2, q⟩ := h2
  subst e
  refine wpAny_newObj_type (newEnv_comp ?_)
  generalize hD : s2.heap.objs.size = D
  have hDn : H2 D = none := I2.hok.fresh (Nat.le_of_eq hD)
  have hDs : (D == sysModules) = false := beq_eq_false_iff_ne.mpr (fun z => Nat.ne_of_gt I2.big (hD.trans z))
  obtain ⟨W, ⟨m0, w0⟩, turn⟩ := q D hDn hDs
  -- the new list
  generalize hs3 : ({ s2 with heap := s2.heap.push { cls := .type "dict", data := .dict #[] } } : Shared) = s3
  have I3 : Inv X pins σ (upd H2 D (dOb D e0)) s3 := by
    rw [← hs3]
    refine I2.laid (t' := s2.toks) (fun b o e => Heap.get?_push_of_some _ e) (Nat.le_of_eq hD) ?_
    rw [← hD]
    exact dOb_ok (Heap.get?_push_size _ rfl)
  have h3 : s3.heap = s2.heap.push { cls := .type "dict", data := .dict #[] } := by rw [← hs3]
  have sz : ∀ b ∈ fp, b < s2.heap.objs.size := fun b hb => by
    obtain ⟨o, e, _⟩ := T.obj _ _ st2 b hb
    exact Heap.lt_size e
  have f3 : ∀ b ∈ fp, FpOk X pins (upd H2 D (dOb D e0)) b ∧ b < s3.heap.objs.size := fun b hb => by
    have hlt := sz b hb
    refine ⟨⟨?_, (f2 b hb).2⟩, by rw [h3, Heap.size_push]; exact Nat.lt_succ_of_lt hlt⟩
    rw [upd_ne (by rw [← hD]; exact Nat.ne_of_lt hlt)]
    exact (f2 b hb).1
  have st3 : tn 0 s3.heap := T.keep _ _ _ st2 fun b _ o e => by rw [h3]; exact Heap.get?_push_of_some _ e
  have I4 := block_start I3 ok hN f3
  have pg := hg s3 (upd H2 D (dOb D e0)) s3.heap.objs.size (cellsFrom (s3.heap.objs.size + 1) scope.names (cloFrom X.env.cells scope.names [])) fp
  have pt := ht s3 (upd H2 D (dOb D e0)) s3.heap.objs.size (cellsFrom (s3.heap.objs.size + 1) scope.names (cloFrom X.env.cells scope.names [])) fp
  have pk := hk s3 (upd H2 D (dOb D e0)) s3.heap.objs.size (cellsFrom (s3.heap.objs.size + 1) scope.names (cloFrom X.env.cells scope.names [])) fp
  have pe := he s3 (upd H2 D (dOb D e0)) s3.heap.objs.size (cellsFrom (s3.heap.objs.size + 1) scope.names (cloFrom X.env.cells scope.names [])) fp
  show codeAny _ _ (.compStart (.DictComp kx vx [⟨tg, iter, ifs, 0⟩] scope pos) 0 (.ref it) (.ref D) (compEnvC scope (cellsFrom (s3.heap.objs.size + 1) scope.names (cloFrom X.env.cells scope.names [])) s3.heap.objs.size X.env)) (compPost (model X.prog X.w) X.A X.xe use Qf (.ref D) s3.heap.objs.size) { s3 with heap := pushCells (s3.heap.push { cls := .type "dict", data := .dict #[] }) scope.names }
  have nfp : ∀ b ∈ fp, (upd H2 D (dOb D e0)) b = none := fun b hb => (f3 b hb).1.1
  generalize hce : compEnvC scope (cellsFrom (s3.heap.objs.size + 1) scope.names (cloFrom X.env.cells scope.names [])) s3.heap.objs.size X.env = ce at I4 pg pt pk pe ⊢
  have cL : ce.locals = s3.heap.objs.size := by subst hce; rfl
  generalize hH3 : upd H2 D (dOb D e0) = H3 at I3 I4 pg pt pk pe w0 nfp f3
  generalize hs4 : ({ s3 with heap := pushCells (s3.heap.push { cls := .type "dict", data := .dict #[] }) scope.names } : Shared) = s4 at I4 ⊢
  have st4 : tn 0 s4.heap := T.keep _ _ _ st3 fun b _ o e => by rw [← hs4]; exact pushCells_keeps _ _ _ _ (Heap.get?_push_of_some _ e)
  have stat : ∀ {σ' : L2.St} {H' : Hp} {s' : Shared}, Inv (X.blk s3 H3 scope ce fp) [] σ' H' s' → (∀ b ∈ fp, H' b = none) → ∀ b ∈ fp, FpOk (X.blk s3 H3 scope ce fp) [] H' b := fun {σ' H' s'} I' hn b hb =>
    ⟨hn b hb, (I'.ok.exf b hb).1, I'.ok.exfs b hb, .inl hb, fun x c e => (I'.ok.exf b hb).2 x c e, fun p hp => absurd (show p ∈ ([] : List (Addr × Obj)) ++ [] from hp) (by simp)⟩
  have loop : codeAny (model X.prog X.w) X.A (.compLoop (.DictComp kx vx [⟨tg, iter, ifs, 0⟩] scope pos) 0 (.ref it) (.ref D) ce) (compPost (model X.prog X.w) X.A X.xe use Qf (.ref D) s3.heap.objs.size) s4 := by
    refine compLoop_anyD (fun n s' => ∃ i H', Inv (X.blk s3 H3 scope ce fp) [] (wipe σ (own.map (·.2))) H' s' ∧ tn i s'.heap ∧ (∀ b ∈ fp, H' b = none) ∧ W i n H') ?_ m0 ⟨0, H3, I4, st4, nfp, w0⟩
    rintro n s5 ⟨i, H5, I5, st5, n5, w5⟩
    rcases turn i n H5 w5 with ⟨stop, qq⟩ | ⟨go, Nx, hNx, step⟩
    · have td := T.done (X.blk s3 H3 scope ce fp) rfl rfl rfl hc i [] s5 _ H5 (fun _ _ => False) I5 (stat I5 n5) st5 stop
      refine thnF td fun r s6 ⟨hr, I6⟩ => ?_
      subst hr
      -- back in the def's context
      have I7 : Inv X pins σ H5 s6 := I3.call' (ch := fp) I6.os I6.base I6.hok I6.bare fun b hb => ⟨(f3 b hb).1.2.2.2.1, (f3 b hb).1.2.1, (f3 b hb).1.2.2.2.2.1, (f3 b hb).1.2.2.2.2.2⟩
      have nC : H5 s3.heap.objs.size = none := by
        have z : H5 ce.locals = none := I6.free
        rw [cL] at z
        exact z
      obtain ⟨m, hn, _⟩ := I6.loc
      have hn : s6.heap.Ns ce.locals m := hn
      rw [cL] at hn
      exact hRR D s3.heap.objs.size s6 m H5 I7 qq hn (I3.fpOk (Nat.le_refl _) nC)
    · have ti := T.item (X.blk s3 H3 scope ce fp) rfl rfl rfl hc i [] s5 _ H5 (fun _ _ => False) I5 (stat I5 n5) st5 go
      refine thnF ti fun r s6 ⟨u, hr, h6⟩ => ?_
      subst hr
      refine thnF h6 fun _ s7 ⟨x, H7, I7, r7, y7, st7, n7⟩ => ?_
      have I7' := I7.pinned (stat I7 n7) (T.obj _ _ st7)
      refine thnF (pg.run _ s7 _ H7 x u _ I7' r7 (step x H7 y7)) fun _ s8 ⟨σ8, H8, I8, hw8, q8⟩ => ?_
      refine thnF (pt.run _ s8 σ8 H8 _ I8 q8) fun b s9 ⟨H9, I9, q9⟩ => ?_
      -- the turn's end
      have fin : ∀ {s' : Shared} {H' : Hp}, Inv (X.blk s3 H3 scope ce fp) ([] ++ pinsAt fp s7.heap) σ8 H' s' → Nx H' → ∃ m, m < n ∧ ∃ i H', Inv (X.blk s3 H3 scope ce fp) [] (wipe σ (own.map (·.2))) H' s' ∧ tn i s'.heap ∧ (∀ b ∈ fp, H' b = none) ∧ W i m H' := fun {s' H'} I' nx => by
        obtain ⟨m', hm, w'⟩ := hNx H' nx
        have pin' : ∀ b ∈ fp, ∀ o, s7.heap.get? b = some o → s'.heap.get? b = some o ∧ H' b = none := fun b hb o e =>
          let z := I'.pin (b, o) (List.mem_append_right _ (List.mem_append_right _ (mem_pinsAt hb e)))
          ⟨z.1, z.2.1⟩
        have hl : (wipe σ (own.map (·.2))).length = σ8.length := by rw [← hw8, wipe_length]
        refine ⟨m', hm, i + 1, H', (I'.unpinned (pins := [])).weak hl (fun j v e => ?_), T.keep _ _ _ st7 fun b hb o e => (pin' b hb o e).1, fun b hb => ?_, w'⟩
        · rw [← hw8] at e
          exact (wipe_some e).1
        · obtain ⟨o, e, _⟩ := T.obj _ _ st7 b hb
          exact (pin' b hb o e).2
      cases b with
      | false =>
        simp only [Bool.false_eq_true, if_false] at q9 ⊢
        exact fin I9 q9
      | true =>
        simp only [if_true] at q9 ⊢
        refine thnF (pk.run _ s9 σ8 H9 _ I9 q9) fun z s10 ⟨yk, H10, I10, r10, q10⟩ => ?_
        refine thnF (pe.run _ s10 σ8 H10 _ I10 q10) fun z2 s11 ⟨yv, H11, I11, r11, b, F, ob, kvs, xs, k, ek, f11, hD11, dd, kk, hb, hz11, nx⟩ => ?_
        subst ek
        obtain rfl : z = Value.ref b := r10
        exact dn_dictSet (X := X.blk s3 H3 scope ce fp) hu I11 f11 hD11 dd kk hb r11 hz11 fun o' xs' s12 d' I12 => fin I12 (nx o' xs' d')
  exact codeAny_compStart_dict loop (T.self X.A 0 _ _ _ st4 loop)
theorem pe_nc {kx vx tg iter : Expr} {ifs : List Expr} {scope : Scope} {own : List (Str × Nat)} {pos : Pos} {wi : TI} {g : TG} {tt : TT} {tk tv : TE} (hu : X.A.units + 100 < cLine) (hc : X.calm = true) (hN : X.N.Nodup) (hi : PI X tg iter wi) (ok : BlkOk X.N X.env.scope scope own)
    (hg : ∀ (s : Shared) (H : Hp) (C : Addr) (cl : List (Str × Addr)) (fp : List Addr), PG (X.blk s H scope (compEnvC scope cl C X.env) fp) tg g) (ht : ∀ (s : Shared) (H : Hp) (C : Addr) (cl : List (Str × Addr)) (fp : List Addr), PTs (X.blk s H scope (compEnvC scope cl C X.env) fp) ifs tt)
    (hk : ∀ (s : Shared) (H : Hp) (C : Addr) (cl : List (Str × Addr)) (fp : List Addr), PE (X.blk s H scope (compEnvC scope cl C X.env) fp) kx tk)
    (he : ∀ (s : Shared) (H : Hp) (C : Addr) (cl : List (Str × Addr)) (fp : List Addr), PE (X.blk s H scope (compEnvC scope cl C X.env) fp) vx tv) (hs : ∀ x, foldedSetIterable iter X.env x = pure x := by intro _; rfl) :
    PE X (.DictComp kx vx [⟨tg, iter, ifs, 0⟩] scope pos) (tNc X.prog X.w wi g tt tk tv (own.map (·.2))) := by
  refine ⟨fun pins s σ H Q I h => ?_⟩
  rw [arm_eval_DictComp]
  refine nc_core hu hc hN I hi ok hg ht hk he hs h fun D C s' m H' I' q hn f => ⟨m, hn, fun h'' sb => ?_⟩
  obtain ⟨f0, f1, f2, f3, f4, f5⟩ := f
  exact ⟨.ref D, H', I'.turned (t' := s'.toks) (fun b o hb e => (sb.2 b hb).trans e) f0 f1 f3 f4 f5, rfl, q⟩

end
section
variable {prog : Program} {w : World} {A : Around} {E : Value → Shared → Prop} {s : Shared}
theorem nlen_body {d : Addr} {es : Array DictEntry} {ep : Nat} {Q : Value → Shared → Prop} (hd : (d == sysModules) = false) (hm : s.heap.DictRaw d es ep) (hfit : (es.size : Int) < 2 ^ 63)
    (h : ∀ t k, Q (.int es.size t) { s with toks := k }) : wpAny (model prog w) A (Builtin.«len» ⟨[.ref d], []⟩) (fun fin s' => ∃ r, fin = .done (.ret r) ∧ Q r s') E s := by
  unfold Builtin.«len»
  refine wpAny_bind (m := oneArg "len" _) (wpAny_pure ?_)
  refine wpAny_bind (m := callSpecial? (.ref d) (Str.ofString "__len__")) (wpAny_callSpecial?_slot (name := Str.ofString "__len__") hm.typeIs PySem.F.slot_dict_len (call_len_raw hd hm ?_))
  refine wpAny_bind (wpAny_holding (wpAny_pure ?_))
  refine wpAny_bind (wpAny_letGo ?_)
  show wpAny _ _ (if ((es.size : Nat) : Int) < 0 then _ else _) _ _ _
  rw [if_neg (by omega)]
  show wpAny _ _ (if ((es.size : Nat) : Int) ≥ 2 ^ 63 then _ else _) _ _ _
  rw [if_neg (by omega)]
  exact wpAny_bind (wpAny_mkInt (wpAny_pure ⟨_, rfl, h _ _⟩))
end
/-- len of a dict -/
def rLenN (P : Program) (w : World) : List V → Hp → VK → Prop := fun xs H Q => ∃ a F kvs, xs = [.ref a] ∧ DnO P w F H a kvs ∧ Q (.int kvs.length) H
section
variable {X : Cx}
theorem call_lenN : CallR X (.builtin "len") (rLenN X.prog X.w) := by
  intro pins s σ H xs us Q I r h
  obtain ⟨a, F, kvs, rfl, ⟨hd, o, ys, e, d⟩, q⟩ := h
  obtain ⟨u, rfl, ru⟩ := vals1 r
  obtain rfl : u = Value.ref a := ru
  obtain ⟨es, ep, hdt, he⟩ := d.dat
  have hes : es.size = kvs.length := by
    have := congrArg List.length he
    rw [List.length_map, Array.length_toList] at this
    rw [this, Paired.length d.rel]
  have hz := d.len
  rw [sizeLine_eq] at hz
  refine Calls.call_function_entry kind_len plain_len entry_len (args_len1 _) (nlen_body hd ⟨o, dn_get? I e, d.ex, hdt⟩ (by omega) fun t k => ?_)
  rw [hes]
  exact ⟨.int kvs.length, H, I.tok _, ⟨t, rfl⟩, q⟩
/-- len of a dict with int and text keys -/
def rLenK : List V → Hp → VK → Prop := fun xs H Q => ∃ (a : Addr) (kvs : List (Key × V)), xs = [.ref a] ∧ Rd H a (.dK kvs) ∧ Q (.int kvs.length) H
theorem call_lenK : CallR X (.builtin "len") rLenK := by
  intro pins s σ H xs us Q I r h
  obtain ⟨a, kvs, rfl, e, q⟩ := h
  obtain ⟨u, rfl, ru⟩ := vals1 r
  obtain rfl : u = Value.ref a := ru
  exact d_len I e fun t s' I' => ⟨.int kvs.length, H, I', ⟨t, rfl⟩, q⟩
abbrev rLenA (K : PySem.W.Frag) (P : Program) (w : World) : List V → Hp → VK → Prop := fun xs H Q => rLen K xs H Q ∨ (rLenN P w xs H Q ∨ rLenK xs H Q)
theorem call_lenA : CallR X (.builtin "len") (rLenA X.K X.prog X.w) := CallR.or call_len (CallR.or call_lenN call_lenK)
theorem dedup_nodup (val : Nat → Int) : ∀ i, (PyProof.Rows.firstMet val i).Nodup
  | 0 => by rw [PyProof.Rows.firstMet_zero]; exact List.nodup_nil
  | i + 1 => by
    rw [PyProof.Rows.firstMet_succ]
    unfold PyProof.Rows.step_dedup
    have ih := dedup_nodup val i
    by_cases hb : ((PyProof.Rows.firstMet val i).any (· == val i)) = true
    · rw [if_pos hb]
      exact ih
    · rw [if_neg hb]
      refine List.nodup_append.mpr ⟨ih, by simp, fun a ha b hb' => ?_⟩
      have e : b = val i := by simpa using hb'
      intro z
      refine hb (List.any_eq_true.mpr ⟨a, ha, ?_⟩)
      rw [z, e]
      exact beq_self_eq_true _
theorem dedup_mem {ns : List Int} (k : Int) : k ∈ PyProof.Rows.firstMet (fun i => ns.getD i 0) ns.length ↔ k ∈ ns := by
  have h := PyProof.Rows.firstMet_any (fun i => ns.getD i 0) ns.length k
  have e : (List.range ns.length).map (fun i => ns.getD i 0) = ns := by
    apply List.ext_getElem
    · simp
    · intro i h1 h2
      rw [List.getElem_map, List.getElem_range, List.getD_eq_getElem?_getD, List.getElem?_eq_getElem h2]
      rfl
  rw [e] at h
  have a : ∀ l : List Int, l.any (· == k) = true ↔ k ∈ l := fun l => by
    rw [List.any_eq_true]
    exact ⟨fun ⟨x, hx, e⟩ => by rw [← eq_of_beq e]; exact hx, fun hx => ⟨k, hx, beq_self_eq_true _⟩⟩
  rw [← a, h, a]
/-- len(set(xs)) of ints -/
def tLenSet (K : PySem.W.Frag) (ta : TE) : TE := fun σ H Q => ta σ H fun x H1 => ∃ (l : Addr) (ns : List Int), x = .ref l ∧ SqL K H1 l (ns.map V.int) ∧ ns.length ≤ 4000 ∧ ∀ ds : List Int, ds.Nodup → (∀ k, k ∈ ds ↔ k ∈ ns) → Q (.int ds.length) H1
theorem pe_lenSet {a : Expr} {ta : TE} {p p2 q pos : Pos} (hg : Gl X "len") (hm : X.mg "len" = none) (hg2 : Gl X "set") (hm2 : X.mg "set" = none) (ha : PE X a ta) (hc : X.calm = true := by rfl)
    (na : starEach [a] X.env = (false, eval a X.env) :: starEach [] X.env := by rfl) : PE X (.Call (.Name "len" p) [.Call (.Name "set" p2) [a] [] q] [] pos) (tLenSet X.K ta) := by
  refine ⟨fun pins s σ H Q I h => ?_⟩
  refine Call_ (ld_blt I hg hm boot_len ?_)
  refine PyProof.Rows.callWith_builtin1 (PyProof.Rows.args_cons ?_ rfl) rfl rfl
  refine Call_ (ld_blt I hg2 hm2 boot_set ?_)
  refine PyProof.Rows.callWith_type1 (PyProof.Rows.args_cons (thn (ha.run pins s σ H _ I h) fun v s1 ⟨x, H1, I1, r1, q1⟩ => PyProof.Rows.args_nil ?_) na) na rfl
  obtain ⟨l, ns, rfl, hq, hl, q1⟩ := q1
  cases r1
  obtain ⟨its, r, pl, hz⟩ := I1.list hq
  have hlen : its.toArray.size = ns.length := by rw [List.size_toArray, ← r.length, List.length_map]
  refine call_set_list (I1.ok.hd hc) pl.isList (by simpa using intsAre_of r) (by rw [hlen]; unfold scanBound; omega) fun h' tk hS hk => ?_
  refine PyProof.Rows.args_nil ?_
  rw [hlen] at hS
  have q2 := q1 _ (dedup_nodup _ ns.length) dedup_mem
  have hle := PyProof.Rows.firstMet_length_le (fun i => ns.getD i 0) ns.length
  obtain ⟨o, es, ep, t, ho, hex, hd, _, _, _, hf, hn⟩ := hS
  have I2 : Inv X pins σ H1 { s1 with heap := h', toks := tk } := I1.kept fun b o e => hk b o (Heap.lt_size e) e
  exact call_len_set ho hex hd hf (by rw [hn] <;> omega) ⟨.int _, H1, I2.tok _, ⟨_, by rw [hn]⟩, q2⟩
end
end N
set_option Elab.async false
set_option linter.all false
set_option maxRecDepth 100000
set_option maxHeartbeats 4000000
namespace N
open PySem PySem.Spec PyProof.Rows L2

def lookK {α : Type} (kvs : List (Key × α)) (k : Key) : Option α := (kvs.find? fun kv => decide (kv.1 = k)).map (·.2)
def putKG {α : Type} (kvs : List (Key × α)) (k : Key) (v : α) : List (Key × α) :=
  if (kvs.any fun kv => decide (kv.1 = k)) = true then kvs.map (fun kv => if kv.1 = k then (kv.1, v) else kv) else kvs ++ [(k, v)]
def dkD (ks : List (Key × D)) : List (D × D) := ks.map fun p => (kD p.1, p.2)
/-- a dict with int and text keys -/
def DkRef (s : AS) : Rf → List (Key × Rf) → Prop
  | .dat (.dict es), kvs => ∃ ks : List (Key × D), es = dkD ks ∧ kvs = ks.map fun p => (p.1, Rf.dat p.2)
  | .own i, kvs => s.m[i]? = some (.dk kvs)
  | _, _ => False
/-- a dict with tuple keys -/
def DnOf (s : AS) (i : Nat) (kvs : List (D × Rf)) : Prop := s.m[i]? = some (.dn kvs) ∨ ∃ o, s.m[i]? = some (.dz o kvs)
section
variable {F : Hp} {as : List Addr}
theorem kD_inj {a b : Key} (h : kD a = kD b) : a = b := by
  cases a <;> cases b <;> simp [kD] at h <;> rw [h]
theorem den_key {v : V} {k : Key} (h : Den F v (kD k)) : v = kV k := by
  cases k <;> cases h <;> rfl
theorem rfk_look : ∀ {vs : List (Key × V)} {kvs : List (Key × Rf)} (r : RfK F as vs kvs) (k : Key), (lookK kvs k = none ∧ valV vs k = none) ∨ ∃ x v, lookK kvs k = some x ∧ valV vs k = some v ∧ RfOk F as v x
  | _, _, .nil, k => .inl ⟨rfl, rfl⟩
  | _, _, .cons (a := p) (b := q) h t, k => by
    by_cases e : p.1 = k
    · refine .inr ⟨q.2, p.2, ?_, ?_, h.2⟩
      · have e2 : q.1 = k := h.1.symm.trans e
        simp [lookK, List.find?_cons, e2]
      · simp [valV, List.find?_cons, e]
    · have e2 : ¬ q.1 = k := fun z => e (h.1.trans z)
      have a1 : ∀ l, lookK (q :: l) k = lookK l k := fun l => by simp [lookK, List.find?_cons, e2]
      have a2 : ∀ l, valV (p :: l) k = valV l k := fun l => by simp [valV, List.find?_cons, e]
      rw [a1, a2]
      exact rfk_look t k
theorem rfk_put {vs : List (Key × V)} {kvs : List (Key × Rf)} (r : RfK F as vs kvs) {k : Key} {v : V} {x : Rf} (h : RfOk F as v x) : RfK F as (putK vs k v) (putKG kvs k x) := by
  have e : (vs.any fun kv => decide (kv.1 = k)) = kvs.any fun kv => decide (kv.1 = k) := by
    induction r with
    | nil => rfl
    | cons a t ih => rw [List.any_cons, List.any_cons, ih, a.1]
  unfold putK putKG
  rw [e]
  split
  · rename_i hh
    clear hh e
    induction r with
    | nil => exact .nil
    | @cons p q l m a t ih =>
      rw [List.map_cons, List.map_cons]
      refine .cons ?_ ih
      by_cases e : p.1 = k
      · have e2 : q.1 = k := a.1.symm.trans e
        rw [if_pos e, if_pos e2]
        exact ⟨a.1, h⟩
      · have e2 : ¬ q.1 = k := fun z => e (a.1.trans z)
        rw [if_neg e, if_neg e2]
        exact a
  · exact Paired.app r (.cons ⟨rfl, h⟩ .nil)
abbrev RfN (F : Hp) (as : List Addr) : List (D × V) → List (D × Rf) → Prop := Paired fun p q => p.1 = q.1 ∧ RfOk F as p.2 q.2
theorem rfn_look : ∀ {vs : List (D × V)} {kvs : List (D × Rf)} (r : RfN F as vs kvs) (k : D), (lookN kvs k = none ∧ lookN vs k = none) ∨ ∃ x v, lookN kvs k = some x ∧ lookN vs k = some v ∧ RfOk F as v x
  | _, _, .nil, k => .inl ⟨rfl, rfl⟩
  | _, _, .cons (a := p) (b := q) h t, k => by
    by_cases e : toN p.1 = toN k
    · refine .inr ⟨q.2, p.2, ?_, ?_, h.2⟩
      · have e2 : toN q.1 = toN k := by rw [← h.1]; exact e
        simp [lookN, List.find?_cons, e2]
      · simp [lookN, List.find?_cons, e]
    · have e2 : ¬ toN q.1 = toN k := fun z => e (by rw [h.1]; exact z)
      have a1 : ∀ l, lookN (q :: l) k = lookN l k := fun l => by simp [lookN, List.find?_cons, e2]
      have a2 : ∀ l, lookN (p :: l) k = lookN l k := fun l => by simp [lookN, List.find?_cons, e]
      rw [a1, a2]
      exact rfn_look t k
theorem rfn_put {vs : List (D × V)} {kvs : List (D × Rf)} (r : RfN F as vs kvs) {k : D} {v : V} {x : Rf} (h : RfOk F as v x) : RfN F as (putN vs k v) (putN kvs k x) := by
  have e : (lookN vs k).isSome = (lookN kvs k).isSome := by
    rcases rfn_look r k with ⟨a, b⟩ | ⟨_, _, a, b, _⟩
    · rw [a, b]; rfl
    · rw [a, b]; rfl
  unfold putN
  rw [e]
  split
  · rename_i hh
    clear hh e
    induction r with
    | nil => exact .nil
    | @cons p q l m a t ih =>
      rw [List.map_cons, List.map_cons]
      refine .cons ?_ ih
      by_cases e : toN p.1 = toN k
      · have e2 : toN q.1 = toN k := by rw [← a.1]; exact e
        rw [if_pos e, if_pos e2]
        exact ⟨a.1, h⟩
      · have e2 : ¬ toN q.1 = toN k := fun z => e (by rw [a.1]; exact z)
        rw [if_neg e, if_neg e2]
        exact a
  · exact Paired.app r (.cons ⟨rfl, h⟩ .nil)
theorem denK_rfk : ∀ {vs : List (Key × V)} {ks : List (Key × D)}, DenK F vs (dkD ks) → RfK F as vs (ks.map fun p => (p.1, Rf.dat p.2))
  | [], [], _ => .nil
  | [], _ :: _, h => nomatch h
  | _ :: _, [], h => nomatch h
  | (k, v) :: vs, (k', d) :: ks, h => by
    have h' : DenK F ((k, v) :: vs) ((kD k', d) :: dkD ks) := h
    generalize e : kD k' = z at h'
    cases h' with
    | cons h1 h2 => exact .cons ⟨(kD_inj e).symm, h1⟩ (denK_rfk h2)
theorem rfk_denK : ∀ {vs : List (Key × V)} {ks : List (Key × D)}, RfK F as vs (ks.map fun p => (p.1, Rf.dat p.2)) → DenK F vs (dkD ks)
  | [], [], _ => .nil
  | [], _ :: _, h => nomatch h
  | _ :: _, [], h => nomatch h
  | (k, v) :: vs, (k', d) :: ks, h => by
    cases h with
    | cons h1 h2 =>
      have e : k = k' := h1.1
      subst e
      exact .cons h1.2 (rfk_denK h2)
end
section
variable {P : Program} {w : World} {B : Base} {as : List Addr} {F H : Hp} {σ : L2.St} {s : AS} {v : V} {r : Rf} {KF : PySem.W.Frag}
theorem Fit.dk (x : Fit P w B as F σ H s) (rv : RfOk F as v r) {kvs : List (Key × Rf)} (h : DkRef s r kvs) : ∃ a vs, v = .ref a ∧ Rd H a (.dK vs) ∧ RfK F as vs kvs := by
  cases r with
  | dat d =>
    cases d with
    | dict es =>
      obtain ⟨ks, rfl, rfl⟩ := h
      have rv' : Den F v (.dict (dkD ks)) := rv
      generalize e : dkD ks = es at rv'
      cases rv' with
      | dk h1 h2 =>
        subst e
        exact ⟨_, _, rfl, .inr ⟨_, x.fin _ _ h1⟩, denK_rfk h2⟩
    | _ => exact (show False from h).elim
  | own i =>
    obtain ⟨a, ha, rfl⟩ := rv
    obtain ⟨_, ⟨vs, hv, hr⟩, _⟩ := x.own i a _ ha h
    exact ⟨a, vs, rfl, .inl hv, hr⟩
theorem Fit.dn (x : Fit P w B as F σ H s) {i : Nat} {a : Addr} (ha : as[i]? = some a) {kvs : List (D × Rf)} (h : DnOf s i kvs) : (a == sysModules) = false ∧ ∃ vs o xs, H a = some (dOb a o) ∧ DnR P w F o vs xs ∧ RfN F as vs kvs := by
  rcases h with h | ⟨o, h⟩
  · obtain ⟨_, ⟨vs, ⟨hd, o, xs, e, d⟩, hr⟩, _⟩ := x.own i a _ ha h
    exact ⟨hd, vs, o, xs, e, d, hr⟩
  · obtain ⟨_, ⟨vs, ⟨hd, xs, e, d⟩, hr⟩, _⟩ := x.own i a _ ha h
    exact ⟨hd, vs, o, xs, e, d, hr⟩
end

section
variable {P : Program} {w : World} {G : Hp} {s : AS} {K : Rf → AS → Prop} {KF : PySem.W.Frag}
theorem key_ref {F : Hp} {v : V} {d : D} (h : Den F v d) (k : ∃ ds, d = .tuple ds) : ∃ b, v = .ref b := by
  obtain ⟨ds, rfl⟩ := k
  cases h
  exact ⟨_, rfl⟩
/-! ### reading -/
theorem ao_seqD {x : Rf} {ds : List D} {i : Nat} {d : D} (hx : SeqD s x ds) (hi : ds[i]? = some d) (k : K (.dat d) s) : AO P w G (rGet KF P w) x (.dat (.int i)) s K := fun F0 as F σ H u v X ru rv Q q => .inl (ao_ixD hx hi k F0 as F σ H u v X ru rv Q q)
theorem ao_seqO {x : Rf} {xs : List Rf} {i : Nat} {r : Rf} (hx : LstOf s x xs) (hi : xs[i]? = some r) (k : K r s) : AO P w G (rGet KF P w) x (.dat (.int i)) s K := fun F0 as F σ H u v X ru rv Q q => .inl (ao_ixO hx hi k F0 as F σ H u v X ru rv Q q)
theorem ao_seqS {z : Str} {i : Nat} {c : Nat} (hz : z.length ≤ sizeLine) (hi : z.cps.toList[i]? = some c) (k : K (.dat (.str ⟨#[c]⟩)) s) : AO P w G (rGet KF P w) (.dat (.str z)) (.dat (.int i)) s K := fun F0 as F σ H u v X ru rv Q q => .inl (ao_ixS hz hi k F0 as F σ H u v X ru rv Q q)
theorem ao_getK {x : Rf} {kvs : List (Key × Rf)} {k : Key} {r : Rf} (hx : DkRef s x kvs) (hl : lookK kvs k = some r) (kk : K r s) : AO P w G (rGet KF P w) x (.dat (kD k)) s K := by
  intro F0 as F σ H u v X ru rv Q q
  obtain ⟨a, vs, rfl, ha, ra⟩ := X.dk ru hx
  obtain rfl := den_key rv
  rcases rfk_look ra k with ⟨e, _⟩ | ⟨y, z, e, e2, ry⟩
  · rw [hl] at e; cases e
  · rw [hl] at e
    cases e
    exact .inr (.inl ⟨a, z, rfl, .inl ⟨vs, k, ha, rfl, e2.symm⟩, q z H F as r s (Grow.refl F as) X ry kk⟩)
theorem ao_getN {i : Nat} {kvs : List (D × Rf)} {ds : List D} {r : Rf} (hx : DnOf s i kvs) (hk : keyOk (.tuple ds) = true) (hl : lookN kvs (.tuple ds) = some r) (kk : K r s) : AO P w G (rGet KF P w) (.own i) (.dat (.tuple ds)) s K := by
  intro F0 as F σ H u v X ru rv Q q
  obtain ⟨a, ha, rfl⟩ := ru
  obtain ⟨hd, vs, o, xs, e, d, ra⟩ := X.dn ha hx
  obtain ⟨b, rfl⟩ := key_ref rv ⟨ds, rfl⟩
  rcases rfn_look ra (.tuple ds) with ⟨e1, _⟩ | ⟨y, z, e1, e2, ry⟩
  · rw [hl] at e1; cases e1
  · rw [hl] at e1
    cases e1
    exact .inr (.inr ⟨a, b, F, vs, .tuple ds, z, rfl, rfl, X.fin, ⟨hd, o, xs, e, d⟩, hk, rv, e2, q z H F as r s (Grow.refl F as) X ry kk⟩)
/-! ### in -/
theorem ao_inL {neg : Bool} {x : D} {y : Rf} {ds : List D} (hy : LstOf s y (ds.map .dat)) (hk : ∀ e ∈ ds, eqOk e x = true) (k : K (.dat (.bool (if neg then !ds.any fun e => PyData.eqv e x else ds.any fun e => PyData.eqv e x))) s) : AO P w G (rIn P w neg) (.dat x) y s K :=
  fun F0 as F σ H u v X ru rv Q q => .inl (ao_inL0 hy hk k F0 as F σ H u v X ru rv Q q)
theorem ao_inK {neg : Bool} {k : Key} {y : Rf} {kvs : List (Key × Rf)} (hy : DkRef s y kvs) (kk : K (.dat (.bool (if neg then !(lookK kvs k).isSome else (lookK kvs k).isSome))) s) : AO P w G (rIn P w neg) (.dat (kD k)) y s K := by
  intro F0 as F σ H u v X ru rv Q q
  obtain ⟨a, vs, rfl, ha, ra⟩ := X.dk rv hy
  obtain rfl := den_key ru
  have e : (valV vs k).isSome = (lookK kvs k).isSome := by
    rcases rfk_look ra k with ⟨a, b⟩ | ⟨_, _, a, b, _⟩
    · rw [a, b]; rfl
    · rw [a, b]; rfl
  refine .inr (.inl ⟨a, valV vs k, rfl, .inl ⟨vs, k, ha, rfl, rfl⟩, ?_⟩)
  rw [e]
  exact q _ H F as _ s (Grow.refl F as) X (RfOk.dat (Den.bl _)) kk
theorem ao_inN {neg : Bool} {i : Nat} {kvs : List (D × Rf)} {ds : List D} (hx : DnOf s i kvs) (hk : keyOk (.tuple ds) = true) (kk : K (.dat (.bool (if neg then !(lookN kvs (.tuple ds)).isSome else (lookN kvs (.tuple ds)).isSome))) s) : AO P w G (rIn P w neg) (.dat (.tuple ds)) (.own i) s K := by
  intro F0 as F σ H u v X ru rv Q q
  obtain ⟨a, ha, rfl⟩ := rv
  obtain ⟨hd, vs, o, xs, e, d, ra⟩ := X.dn ha hx
  obtain ⟨b, rfl⟩ := key_ref ru ⟨ds, rfl⟩
  have e2 : (lookN vs (.tuple ds)).isSome = (lookN kvs (.tuple ds)).isSome := by
    rcases rfn_look ra (.tuple ds) with ⟨a, b⟩ | ⟨_, _, a, b, _⟩
    · rw [a, b]; rfl
    · rw [a, b]; rfl
  refine .inr (.inr ⟨a, b, F, vs, .tuple ds, rfl, rfl, X.fin, ⟨hd, o, xs, e, d⟩, hk, ru, ?_⟩)
  rw [e2]
  exact q _ H F as _ s (Grow.refl F as) X (RfOk.dat (Den.bl _)) kk
/-! ### stores -/
theorem aset_lst {K : AS → Prop} {i j : Nat} {xs : List Rf} {r : Rf} (hx : s.m[i]? = some (.lst xs)) (hj : j < xs.length) (k : K { s with m := s.m.set i (.lst (xs.set j r)) }) : ASet P w G (rSet P w) (.own i) (.dat (.int j)) r s K := by
  intro F0 as F σ H ov iv vv X ro ri rv Q q
  obtain ⟨a, ha, rfl⟩ := ro
  cases ri
  obtain ⟨_, ⟨vs, hv, hr⟩, _⟩ := X.own i a _ ha hx
  refine .inl ⟨a, vs, j, j, rfl, rfl, hv, ixN_nat (by rw [Paired.len hr]; exact hj), ?_⟩
  have x2 := X.write (o := .lst (vs.set j vv)) (c' := .lst (xs.set j r)) ha hx (fun z => nomatch z) ⟨_, upd_same, Paired.setP rv j hr⟩
  exact q _ _ _ _ (Grow.refl F as) x2 k
theorem aset_dk {K : AS → Prop} {i : Nat} {kvs : List (Key × Rf)} {k : Key} {r : Rf} (hx : s.m[i]? = some (.dk kvs)) (hl : kvs.length < sizeLine) (kk : K { s with m := s.m.set i (.dk (putKG kvs k r)) }) : ASet P w G (rSet P w) (.own i) (.dat (kD k)) r s K := by
  intro F0 as F σ H ov iv vv X ro ri rv Q q
  obtain ⟨a, ha, rfl⟩ := ro
  obtain rfl := den_key ri
  obtain ⟨_, ⟨vs, hv, hr⟩, _⟩ := X.own i a _ ha hx
  refine .inr (.inl ⟨a, _, rfl, .inl ⟨vs, k, hv, rfl, by rw [Paired.len hr]; exact hl, rfl⟩, ?_⟩)
  have x2 := X.write (o := .dK (putK vs k vv)) (c' := .dk (putKG kvs k r)) ha hx (fun z => nomatch z) ⟨_, upd_same, rfk_put hr rv⟩
  exact q _ _ _ _ (Grow.refl F as) x2 kk
theorem aset_dn {K : AS → Prop} {i : Nat} {kvs : List (D × Rf)} {ds : List D} {r : Rf} (hx : s.m[i]? = some (.dn kvs)) (hk : keyOk (.tuple ds) = true) (hl : kvs.length < sizeLine) (kk : K { s with m := s.m.set i (.dn (putN kvs (.tuple ds) r)) }) : ASet P w G (rSet P w) (.own i) (.dat (.tuple ds)) r s K := by
  intro F0 as F σ H ov iv vv X ro ri rv Q q
  obtain ⟨a, ha, rfl⟩ := ro
  obtain ⟨b, rfl⟩ := key_ref ri ⟨ds, rfl⟩
  obtain ⟨_, ⟨vs, ⟨hd, o, xs, e, d⟩, hr⟩, _⟩ := X.own i a _ ha hx
  refine .inr (.inr ⟨a, b, F, o, vs, xs, .tuple ds, rfl, rfl, X.fin, hd, e, d, hk, ri, by rw [Paired.len hr]; exact hl, fun ob' xs' d' => ?_⟩)
  have x2 := X.write (o := dOb a ob') (c' := .dn (putN kvs (.tuple ds) r)) ha hx (fun z => nomatch z) ⟨_, ⟨hd, ob', xs', upd_same, d'⟩, rfn_put hr rv⟩
  exact q _ _ _ _ (Grow.refl F as) x2 kk
/-! ### new dicts -/
theorem ae_dnewK (k : K (.own s.m.length) { s with m := s.m ++ [.dk []] }) : AE P w G tDNew s K := by
  intro F0 as F σ H X Q q
  refine .inl fun p hp => ?_
  obtain ⟨x2, g2⟩ := X.newOwn (o := .dK []) (c := .dk []) hp ⟨[], upd_same, .nil⟩
  exact q _ _ _ _ _ _ g2 x2 (RfOk.ownI (i := s.m.length) (a := p) (by rw [← X.len]; simp)) k
theorem ae_dnewN (k : K (.own s.m.length) { s with m := s.m ++ [.dn []] }) : AE P w G tDNew s K := by
  intro F0 as F σ H X Q q
  refine .inr fun p hp hs => ?_
  obtain ⟨x2, g2⟩ := X.newOwn (o := dOb p e0) (c := .dn []) hp ⟨[], ⟨hs, e0, [], upd_same, dnR_nil⟩, .nil⟩
  exact q _ _ _ _ _ _ g2 x2 (RfOk.ownI (i := s.m.length) (a := p) (by rw [← X.len]; simp)) k
/-- {k: v} with an int or text key -/
theorem ae_dispK {tk tv : TE} (h : AE P w G tk { s with m := s.m ++ [.dk []] } fun r s1 => ∃ k, r = .dat (kD k) ∧ AE P w G tv s1 fun x s2 => s2.m[s.m.length]? = some (.dk []) ∧ K (.own s.m.length) { s2 with m := s2.m.set s.m.length (.dk [(k, x)]) }) : AE P w G (tDisp [(tk, tv)]) s K := by
  intro F0 as F σ H X Q q p hp
  obtain ⟨x1, g1⟩ := X.newOwn (o := .dK []) (c := .dk []) hp ⟨[], upd_same, .nil⟩
  refine h F0 _ _ σ _ x1 _ fun v1 H1 F1 as1 r s1 g2 x2 rv ⟨k, e, k1⟩ => ?_
  subst e
  obtain rfl := den_key rv
  refine k1 F0 _ _ σ _ x2 _ fun v2 H2 F2 as2 r2 s2 g3 x3 rv2 ⟨hm, k2⟩ => ?_
  have hp2 : as2[s.m.length]? = some p := by
    obtain ⟨l, e⟩ := (g2.trans g3).a
    rw [e, ← X.len]
    simp
  obtain ⟨_, ⟨vs, hv, hr⟩, _⟩ := x3.own _ p _ hp2 hm
  cases hr
  refine ⟨hv, [(k, v2)], rfl, by show 1 ≤ 15; decide, ?_⟩
  have x4 := x3.write (o := .dK (mergeK [] [(k, v2)])) (c' := .dk [(k, r2)]) hp2 hm (fun z => nomatch z) ⟨_, upd_same, .cons ⟨rfl, rv2⟩ .nil⟩
  exact q _ _ _ _ _ _ ((g1.trans g2).trans g3) x4 (RfOk.ownI hp2) k2
/-- {k: v} with a tuple key -/
theorem ae_dispN {tk tv : TE} (h : AE P w G tk { s with m := s.m ++ [.dz e0 []] } fun r s1 => ∃ ds, r = .dat (.tuple ds) ∧ keyOk (.tuple ds) = true ∧ AE P w G tv s1 fun x s2 => s2.m[s.m.length]? = some (.dz e0 []) ∧ K (.own s.m.length) { s2 with m := s2.m.set s.m.length (.dn [(.tuple ds, x)]) }) : AE P w G (tDispN P w tk tv) s K := by
  intro F0 as F σ H X Q q p hp hs
  obtain ⟨x1, g1⟩ := X.newOwn (o := dOb p e0) (c := .dz e0 []) hp ⟨[], ⟨hs, [], upd_same, dnR_nil⟩, .nil⟩
  refine h F0 _ _ σ _ x1 _ fun v1 H1 F1 as1 r s1 g2 x2 rv ⟨ds, e, hk, k1⟩ => ?_
  subst e
  obtain ⟨b, rfl⟩ := key_ref rv ⟨ds, rfl⟩
  refine k1 F0 _ _ σ _ x2 _ fun v2 H2 F2 as2 r2 s2 g3 x3 rv2 ⟨hm, k2⟩ => ?_
  have hp2 : as2[s.m.length]? = some p := by
    obtain ⟨l, e⟩ := (g2.trans g3).a
    rw [e, ← X.len]
    simp
  obtain ⟨_, ⟨vs, ⟨_, xs, hv, dd⟩, hr⟩, _⟩ := x3.own _ p _ hp2 hm
  refine ⟨hv, b, F2, .tuple ds, rfl, x3.fin, Den.mono g3.f _ _ rv, hk, fun ob xs' d' => ?_⟩
  have x4 := x3.write (o := dOb p ob) (c' := .dn [(.tuple ds, r2)]) hp2 hm (fun z => nomatch z) ⟨_, ⟨hs, ob, xs', upd_same, d'⟩, .cons ⟨rfl, rv2⟩ .nil⟩
  exact q _ _ _ _ _ _ ((g1.trans g2).trans g3) x4 (RfOk.ownI hp2) k2
/-- d.setdefault(k, x), tuple keys -/
theorem ae_dsetN {td ty tx : TE} (h : AE P w G td s fun o s1 => ∃ i, o = .own i ∧ (∃ kvs, s1.m[i]? = some (.dn kvs)) ∧ AE P w G ty s1 fun y s2 => ∃ ds, y = .dat (.tuple ds) ∧ keyOk (.tuple ds) = true ∧ AE P w G tx s2 fun x s3 => ∃ kvs, s3.m[i]? = some (.dn kvs) ∧ kvs.length < sizeLine ∧
    (∀ r, lookN kvs (.tuple ds) = some r → K r s3) ∧ (lookN kvs (.tuple ds) = none → K x { s3 with m := s3.m.set i (.dn (putN kvs (.tuple ds) x)) })) : AE P w G (tDSetN P w td ty tx) s K := by
  intro F0 as F σ H X Q q
  refine h F0 as F σ H X _ fun v1 H1 F1 as1 r s1 g1 x1 rv ⟨i, e, ⟨kvs0, hm0⟩, k1⟩ => ?_
  subst e
  obtain ⟨a, ha, rfl⟩ := rv
  obtain ⟨_, ⟨vs0, dd0, _⟩, _⟩ := x1.own i a _ ha hm0
  refine ⟨a, rfl, ⟨F1, vs0, dd0⟩, ?_⟩
  refine k1 F0 as1 F1 σ H1 x1 _ fun v2 H2 F2 as2 r2 s2 g2 x2 rv2 ⟨ds, e, hk, k2⟩ => ?_
  subst e
  obtain ⟨b, rfl⟩ := key_ref rv2 ⟨ds, rfl⟩
  refine k2 F0 as2 F2 σ H2 x2 _ fun v3 H3 F3 as3 r3 s3 g3 x3 rv3 ⟨kvs, hm, hl, k3, k4⟩ => ?_
  have ha3 : as3[i]? = some a := by
    obtain ⟨l, e⟩ := (g2.trans g3).a
    rw [e, List.getElem?_append_left (List.getElem?_eq_some_iff.mp ha).1]
    exact ha
  obtain ⟨_, ⟨vs, ⟨hd, o, xs, e, d⟩, hr⟩, _⟩ := x3.own i a _ ha3 hm
  refine ⟨b, F3, o, vs, xs, .tuple ds, rfl, x3.fin, hd, e, d, hk, Den.mono g3.f _ _ rv2, by rw [Paired.len hr]; exact hl, fun v hv => ?_, fun hn ob' xs' d' => ?_⟩
  · rcases rfn_look hr (.tuple ds) with ⟨e1, e2⟩ | ⟨y, z, e1, e2, ry⟩
    · rw [hv] at e2; cases e2
    · rw [hv] at e2
      cases e2
      exact q _ _ _ _ _ _ ((g1.trans g2).trans g3) x3 ry (k3 y e1)
  · rcases rfn_look hr (.tuple ds) with ⟨e1, e2⟩ | ⟨y, z, e1, e2, ry⟩
    · have x4 := x3.write (o := dOb a ob') (c' := .dn (putN kvs (.tuple ds) r3)) ha3 hm (fun z => nomatch z) ⟨_, ⟨hd, ob', xs', upd_same, d'⟩, rfn_put hr rv3⟩
      exact q _ _ _ _ _ _ ((g1.trans g2).trans g3) x4 rv3 (k4 e1)
    · rw [hn] at e2; cases e2
/-! ### calls over dicts, sorted -/
theorem ar_lenQ {x : Rf} {ds : List D} (hx : SeqD s x ds) (k : K (.dat (.int ds.length)) s) : AR P w G (rLenA KF P w) [x] s K := fun F0 as F σ H us X ru Q q => .inl (ar_lenS hx k F0 as F σ H us X ru Q q)
theorem ar_lenO {x : Rf} {xs : List Rf} (hx : LstOf s x xs) (k : K (.dat (.int xs.length)) s) : AR P w G (rLenA KF P w) [x] s K := fun F0 as F σ H us X ru Q q => .inl (ar_lenL hx k F0 as F σ H us X ru Q q)
theorem ar_lenN {i : Nat} {kvs : List (D × Rf)} (hx : DnOf s i kvs) (k : K (.dat (.int kvs.length)) s) : AR P w G (rLenA KF P w) [.own i] s K := by
  intro F0 as F σ H us X ru Q q
  cases ru with
  | cons r1 r2 =>
    cases r2
    obtain ⟨a, ha, rfl⟩ := r1
    obtain ⟨hd, vs, o, xs, e, d, ra⟩ := X.dn ha hx
    exact .inr (.inl ⟨a, F, vs, rfl, ⟨hd, o, xs, e, d⟩, by rw [Paired.len ra]; exact q _ H F as _ s (Grow.refl F as) X (RfOk.dat (Den.int _)) k⟩)
theorem ar_lenK {x : Rf} {kvs : List (Key × Rf)} (hx : DkRef s x kvs) (k : K (.dat (.int kvs.length)) s) : AR P w G (rLenA KF P w) [x] s K := by
  intro F0 as F σ H us X ru Q q
  cases ru with
  | cons r1 r2 =>
    cases r2
    obtain ⟨a, vs, rfl, e, ra⟩ := X.dk r1 hx
    exact .inr (.inr ⟨a, vs, rfl, e, by rw [Paired.len ra]; exact q _ H F as _ s (Grow.refl F as) X (RfOk.dat (Den.int _)) k⟩)
/-- what sorted is asked of -/
def SrcA (s : AS) : Rf → List D → Prop
  | .dat (.list ds), es => es = ds
  | .dat (.dict es), ds => ∃ ks : List (Key × D), es = dkD ks ∧ ds = ks.map fun p => kD p.1
  | .own i, ds => s.m[i]? = some (.lst (ds.map .dat)) ∨ (∃ kvs, s.m[i]? = some (.dk kvs) ∧ ds = kvs.map fun p => kD p.1) ∨ ∃ kvs, DnOf s i kvs ∧ ds = kvs.map (·.1)
  | _, _ => False
theorem denL_keys {F : Hp} {as : List Addr} : ∀ {vs : List (Key × V)} {kvs : List (Key × Rf)}, RfK F as vs kvs → DenL F (vs.map fun kv => kV kv.1) (kvs.map fun p => kD p.1)
  | _, _, .nil => .nil
  | _, _, .cons (a := p) (b := q) h t => by
    refine .cons ?_ (denL_keys t)
    show Den F (kV p.1) (kD q.1)
    rw [← h.1]
    cases p.1 with
    | inl i => exact .int i
    | inr x => exact .str x
theorem denL_nkeys {F : Hp} {as : List Addr} : ∀ {vs : List (D × V)} {xs : List (NestedKey × Addr × Value)} {kvs : List (D × Rf)}, DnP F vs xs → RfN F as vs kvs → DenL F (xs.map fun x => V.ref x.2.1) (kvs.map (·.1))
  | _, _, _, .nil, .nil => .nil
  | _, _, _, .cons (b := y) h t, .cons (b := z) h2 t2 => by
    refine .cons ?_ (denL_nkeys t t2)
    show Den F (V.ref y.2.1) z.1
    rw [← h2.1]
    exact h.2.2.1
theorem ar_sorted {x : Rf} {ds : List D} (hx : SrcA s x ds) (ok : SrtOk ds) (hl : ds.length ≤ sizeLine) (k : K (.dat (.list (srtD ds))) s) : AR P w G (rSorted KF P w) [x] s K := by
  intro F0 as F σ H us X ru Q q
  cases ru with
  | cons r1 r2 =>
    cases r2
    rename_i v
    have hs : ∃ a vs, v = .ref a ∧ Src KF P w H a vs ∧ DenL F vs ds := by
      cases x with
      | dat d =>
        cases d with
        | list es =>
          have e : ds = es := hx
          subst e
          cases r1 with
          | lst h1 h2 => exact ⟨_, _, rfl, .inl (SqL.of (X.fin _ _ h1)), h2⟩
        | dict es =>
          obtain ⟨ks, e, e2⟩ := (show ∃ ks : List (Key × D), es = dkD ks ∧ ds = ks.map fun p => kD p.1 from hx)
          obtain ⟨a, vs, rfl, ha, ra⟩ := X.dk (kvs := ks.map fun p => (p.1, Rf.dat p.2)) r1 ⟨ks, e, rfl⟩
          refine ⟨a, _, rfl, .inr (.inl ⟨vs, ha, rfl⟩), ?_⟩
          have := denL_keys ra
          rw [List.map_map] at this
          rw [e2]
          exact this
        | _ => exact (show False from hx).elim
      | own i =>
        rcases (show s.m[i]? = some (.lst (ds.map .dat)) ∨ (∃ kvs, s.m[i]? = some (.dk kvs) ∧ ds = kvs.map fun p => kD p.1) ∨ ∃ kvs, DnOf s i kvs ∧ ds = kvs.map (·.1) from hx) with hy | ⟨kvs, hy, rfl⟩ | ⟨kvs, hy, rfl⟩
        · obtain ⟨a, ha, rfl⟩ := r1
          obtain ⟨_, ⟨vs, hv, hr⟩, _⟩ := X.own i a _ ha hy
          exact ⟨a, vs, rfl, .inl (SqL.of hv), rfl_dat.mp hr⟩
        · obtain ⟨a, ha, rfl⟩ := r1
          obtain ⟨_, ⟨vs, hv, hr⟩, _⟩ := X.own i a _ ha hy
          exact ⟨a, _, rfl, .inr (.inl ⟨vs, .inl hv, rfl⟩), denL_keys hr⟩
        · obtain ⟨a, ha, rfl⟩ := r1
          obtain ⟨hd, vs, o, xs, e, d, ra⟩ := X.dn ha hy
          exact ⟨a, _, rfl, .inr (.inr ⟨F, o, vs, xs, hd, e, d, rfl⟩), denL_nkeys d.rel ra⟩
    obtain ⟨a, vs, rfl, hs, hd⟩ := hs
    refine ⟨a, F, vs, ds, rfl, X.fin, hs, hd, ok, by rw [hd.length]; exact hl, fun vs' p hd' hp => ?_⟩
    obtain ⟨x2, g2⟩ := X.newDat (o := .lst vs') hp
    exact q _ _ _ _ _ _ g2 x2 (RfOk.dat (Den.lst upd_same (DenL.mono g2.f _ _ hd'))) k
/-- len(set(xs)) -/
theorem ae_lenSet {ta : TE} (h : AE P w G ta s fun r s1 => ∃ ns : List Int, LstOf s1 r ((ns.map PyData.int).map .dat) ∧ ns.length ≤ 4000 ∧ ∀ l : List Int, l.Nodup → (∀ k, k ∈ l ↔ k ∈ ns) → K (.dat (.int l.length)) s1) : AE P w G (tLenSet KF ta) s K := by
  intro F0 as F σ H x Q q
  refine h F0 as F σ H x _ fun v H1 F1 as1 r s1 g1 x1 rv ⟨ns, e, hl, k⟩ => ?_
  obtain ⟨a, vs, rfl, ha, ra⟩ := x1.lst rv e
  have hd := rfl_dat.mp ra
  have hv : vs = ns.map V.int := by
    clear ra k hl ha e
    revert vs
    induction ns with
    | nil => intro vs h; cases h; rfl
    | cons n ns ih =>
      intro vs h
      cases h with
      | cons h1 h2 =>
        cases h1
        rw [ih _ h2]
        rfl
  subst hv
  exact ⟨a, ns, rfl, SqL.of ha, hl, fun l h1 h2 => q _ H1 F1 as1 _ s1 g1 x1 (RfOk.dat (Den.int _)) (k l h1 h2)⟩
end
end N
set_option Elab.async false
set_option linter.all false
set_option maxRecDepth 100000
set_option maxHeartbeats 4000000
namespace N
open PySem PySem.Spec PyProof.Rows L2
/-- a list's walk, or a tuple's -/
def iSeq (K : PySem.W.Frag) (tl : TE) : TI := fun σ H R => iList K tl σ H R ∨ iTup K tl σ H R
theorem pi_seq {X : Cx} {tg l : Expr} {tl : TE} (hl : PE X l tl) : PI X tg l (iSeq X.K tl) := PI.or (pi_list hl) (pi_tup hl)
/-- the keys of a dict -/
def iKeysA (td : TE) : TI := fun σ H R => iKeys td σ H R ∨ iKeysN td σ H R
theorem pi_keysA {X : Cx} {tg e : Expr} {td : TE} (he : PE X e td) : PI X tg e (iKeysA td) := PI.or (pi_keys he) (pi_keysN he)
def iEnumA (K : PySem.W.Frag) (ta : TA) : TI := fun σ H R => iEnumT K ta σ H R ∨ iEnumK ta σ H R
theorem pi_enumA {X : Cx} {e : Expr} {ta : TA} {p pos tpos : Pos} {elts : List Expr} {kk : Nat} (hg : Gl X "enumerate") (hm : X.mg "enumerate" = none) (ha : PA X [e] ta) (hs : starEach [e] X.env = [(false, eval e X.env)] := by rfl) :
    PI X (.Tuple elts kk tpos) (.Call (.Name "enumerate" p) [e] [] pos) (iEnumA X.K ta) := PI.or (pi_enumT hg hm ha hs) (pi_enumK hg hm ha hs)
section
variable {P : Program} {w : World} {G : Hp} {s : AS} {K : List Rf → (AS → Prop) → AS → Prop} {KF : PySem.W.Frag}
theorem map_get {α β : Type} {l : List α} {f : α → β} {i : Nat} {r : β} (h : (l.map f)[i]? = some r) : ∃ x, l[i]? = some x ∧ r = f x := by
  rw [List.getElem?_map] at h
  cases e : l[i]? with
  | none => rw [e] at h; cases h
  | some x => rw [e] at h; cases h; exact ⟨x, rfl, rfl⟩
theorem ai_lst {tl : TE} (h : AE P w G tl s fun r s1 => ∃ ds, r = .dat (.list ds) ∧ K (ds.map .dat) (fun _ => True) s1) : AI P w G (iSeq KF tl) s K := by
  intro F0 as F σ H x R q
  refine .inl (h F0 as F σ H x _ fun v H1 F1 as1 r s1 g1 x1 rv ⟨ds, e, k⟩ => ?_)
  subst e
  cases rv with
  | lst h1 h2 =>
    refine ⟨_, rfl, ⟨_, SqL.of (x1.fin _ _ h1)⟩, q _ H1 F1 as1 _ _ s1 g1 x1 (fun as F σ H s x2 g2 _ i => ⟨fun r hr => ?_, fun hi => ?_⟩) k⟩
    · obtain ⟨d, hd, rfl⟩ := map_get hr
      obtain ⟨z, hz, rz⟩ := (DenL.mono g2.f _ _ h2).get hd
      have hq : SqL KF H _ _ := SqL.of (x2.fin _ _ (g2.f _ _ h1))
      exact ⟨⟨_, z, hq, hz⟩, fun y H' ⟨e, hy⟩ => ⟨F, Grow.refl F as, by rw [e]; exact x2, by
        have := hy _ hq
        rw [hz] at this
        cases this
        exact rz⟩⟩
    · rw [List.length_map] at hi
      exact ⟨_, SqL.of (x2.fin _ _ (g2.f _ _ h1)), by rw [h2.length]; exact hi⟩
theorem ai_tup {tl : TE} (h : AE P w G tl s fun r s1 => ∃ ds, r = .dat (.tuple ds) ∧ K (ds.map .dat) (fun _ => True) s1) : AI P w G (iSeq KF tl) s K := by
  intro F0 as F σ H x R q
  refine .inr (h F0 as F σ H x _ fun v H1 F1 as1 r s1 g1 x1 rv ⟨ds, e, k⟩ => ?_)
  subst e
  cases rv with
  | tup h1 h2 =>
    refine ⟨_, rfl, ⟨_, SqT.of (x1.fin _ _ h1)⟩, q _ H1 F1 as1 _ _ s1 g1 x1 (fun as F σ H s x2 g2 _ i => ⟨fun r hr => ?_, fun hi => ?_⟩) k⟩
    · obtain ⟨d, hd, rfl⟩ := map_get hr
      obtain ⟨z, hz, rz⟩ := (DenL.mono g2.f _ _ h2).get hd
      have hq : SqT KF H _ _ := SqT.of (x2.fin _ _ (g2.f _ _ h1))
      exact ⟨⟨_, z, hq, hz⟩, fun y H' ⟨e, hy⟩ => ⟨F, Grow.refl F as, by rw [e]; exact x2, by
        have := hy _ hq
        rw [hz] at this
        cases this
        exact rz⟩⟩
    · rw [List.length_map] at hi
      exact ⟨_, SqT.of (x2.fin _ _ (g2.f _ _ h1)), by rw [h2.length]; exact hi⟩
/-- a list of one's own -/
theorem ai_own {tl : TE} (h : AE P w G tl s fun r s1 => ∃ j xs, r = .own j ∧ s1.m[j]? = some (.lst xs) ∧ K xs (fun s => s.m[j]? = some (.lst xs)) s1) : AI P w G (iSeq KF tl) s K := by
  intro F0 as F σ H x R q
  refine .inl (h F0 as F σ H x _ fun v H1 F1 as1 r s1 g1 x1 rv ⟨j, xs, e, hm, k⟩ => ?_)
  subst e
  obtain ⟨a, ha, rfl⟩ := rv
  obtain ⟨_, ⟨vs, hv, hr⟩, _⟩ := x1.own j a _ ha hm
  refine ⟨a, rfl, ⟨_, SqL.of hv⟩, q _ H1 F1 as1 _ _ s1 g1 x1 (fun as F σ H s x2 g2 ok i => ?_) k⟩
  have ha2 : as[j]? = some a := by
    obtain ⟨l, e⟩ := g2.a
    rw [e]
    show (as1 ++ l)[j]? = some a
    rw [List.getElem?_append_left (List.getElem?_eq_some_iff.mp ha).1]
    exact ha
  obtain ⟨_, ⟨ws, hw, hr2⟩, _⟩ := x2.own j a _ ha2 ok
  refine ⟨fun r hr => ?_, fun hi => ⟨ws, SqL.of hw, by rw [Paired.len hr2]; exact hi⟩⟩
  obtain ⟨z, hz, rz⟩ := Paired.get hr2 hr
  exact ⟨⟨_, z, SqL.of hw, hz⟩, fun y H' ⟨e, hy⟩ => ⟨F, Grow.refl F as, by rw [e]; exact x2, by
    have := hy _ (SqL.of hw)
    rw [hz] at this
    cases this
    exact rz⟩⟩
theorem wk_rng {F0 F1 : Fz} {lo : Int} {n : Nat} : Wk P w G F0 F1 (Itr lo n) ((List.range n).map fun i => Rf.dat (.int (lo + (i : Nat)))) (fun _ => True) := by
  intro as F σ H s x g _ i
  refine ⟨fun r hr => ?_, fun hi => ?_⟩
  · obtain ⟨j, hj, rfl⟩ := map_get hr
    obtain ⟨hl, e⟩ := List.getElem?_eq_some_iff.mp hj
    rw [List.length_range] at hl
    rw [List.getElem_range] at e
    subst e
    exact ⟨hl, fun y H' ⟨e, hy⟩ => ⟨F, Grow.refl F as, by rw [e]; exact x, by rw [hy]; exact Den.int _⟩⟩
  · rw [List.length_map, List.length_range] at hi
    exact hi
theorem ai_rng1 {ta : TA} (h : AA P w G ta s fun xs s1 => ∃ n : Nat, xs = [.dat (.int n)] ∧ (n : Int) < 2 ^ 62 ∧ K ((List.range n).map fun i => Rf.dat (.int (i : Nat))) (fun _ => True) s1) : AI P w G (iRng1 ta) s K := by
  intro F0 as F σ H x R q
  refine h F0 as F σ H x _ fun vs H1 F1 as1 rs s1 g1 x1 rv ⟨n, e, hn, k⟩ => ?_
  subst e
  cases rv with
  | cons r1 r2 =>
    cases r2
    cases r1
    refine ⟨n, rfl, by omega, hn, ?_⟩
    have e : (fun i : Nat => Rf.dat (.int (i : Nat))) = fun i : Nat => Rf.dat (.int (0 + (i : Nat))) := funext fun i => by rw [Int.zero_add]
    rw [e] at k
    exact q _ H1 F1 as1 _ _ s1 g1 x1 wk_rng k
theorem ai_rng2 {ta : TA} (h : AA P w G ta s fun xs s1 => ∃ lo hi : Int, xs = [.dat (.int lo), .dat (.int hi)] ∧ (-(2 ^ 62) ≤ lo ∧ lo < 2 ^ 62 ∧ -(2 ^ 62) ≤ hi ∧ hi < 2 ^ 62) ∧ K ((List.range (hi - lo).toNat).map fun i => Rf.dat (.int (lo + (i : Nat)))) (fun _ => True) s1) : AI P w G (iRng2 ta) s K := by
  intro F0 as F σ H x R q
  refine h F0 as F σ H x _ fun vs H1 F1 as1 rs s1 g1 x1 rv ⟨lo, hi, e, hn, k⟩ => ?_
  subst e
  cases rv with
  | cons r1 r2 =>
    cases r2 with
    | cons r3 r4 =>
      cases r4
      cases r1
      cases r3
      exact ⟨lo, hi, rfl, hn, q _ H1 F1 as1 _ _ s1 g1 x1 wk_rng k⟩
/-- the keys of a dict that is data -/
theorem ai_keysK {td : TE} (h : AE P w G td s fun r s1 => ∃ ks : List (Key × D), r = .dat (.dict (dkD ks)) ∧ K (ks.map fun p => .dat (kD p.1)) (fun _ => True) s1) : AI P w G (iKeysA td) s K := by
  intro F0 as F σ H x R q
  refine .inl (h F0 as F σ H x _ fun v H1 F1 as1 r s1 g1 x1 rv ⟨ks, e, k⟩ => ?_)
  subst e
  have rv' : Den F1 v (.dict (dkD ks)) := rv
  generalize e : dkD ks = es at rv'
  cases rv' with
  | @dk a o vs _ h1 h2 =>
    subst e
    have hr := denK_rfk (as := as1) h2
    refine ⟨a, o, rfl, .inl ⟨vs, x1.fin _ _ h1, q _ H1 F1 as1 _ _ s1 g1 x1 (fun as F σ H s x2 g2 _ i => ⟨fun r hr' => ?_, fun hi => ?_⟩) k⟩⟩
    · obtain ⟨p, hp, rfl⟩ := map_get hr'
      have hl : i < vs.length := by
        rw [Paired.len hr, List.length_map]
        exact (List.getElem?_eq_some_iff.mp hp).1
      refine ⟨⟨x2.fin _ _ (g2.f _ _ h1), hl⟩, fun y H' ⟨e, kk, vv, hk, hy⟩ => ⟨F, Grow.refl F as, by rw [e]; exact x2, ?_⟩⟩
      obtain ⟨z, hz, rz⟩ := Paired.get (i := i) (y := (p.1, Rf.dat p.2)) hr (by rw [List.getElem?_map, hp]; rfl)
      rw [hk] at hz
      cases hz
      subst hy
      have e1 : kk = p.1 := rz.1
      rw [e1]
      show Den F (kV p.1) (kD p.1)
      cases p.1 with
      | inl i => exact .int i
      | inr x => exact .str x
    · rw [List.length_map] at hi
      exact ⟨x2.fin _ _ (g2.f _ _ h1), by rw [Paired.len hr, List.length_map]; exact hi⟩
theorem dnr_entry {F : Hp} {o : Obj} {vs : List (D × V)} {xs : List (NestedKey × Addr × Value)} {es : Array DictEntry} {ep : Nat} (d : DnR P w F o vs xs) (h : o.data = .dict es ep) {i : Nat} {p : D × V} (hp : vs[i]? = some p) :
    ∃ b en, es[i]? = some en ∧ en.key = .ref b ∧ Den F (.ref b) p.1 := by
  obtain ⟨es2, ep2, hdt, he⟩ := d.dat
  rw [hdt] at h
  cases h
  have : ∀ {vs : List (D × V)} {xs : List (NestedKey × Addr × Value)} {i : Nat} {p : D × V}, DnP F vs xs → vs[i]? = some p → ∃ x, xs[i]? = some x ∧ Den F (.ref x.2.1) p.1 := by
    intro vs xs i p r
    induction r generalizing i with
    | nil => intro h; simp at h
    | cons a t ih =>
      intro h
      cases i with
      | zero =>
        simp at h
        subst h
        exact ⟨_, rfl, a.2.2.1⟩
      | succ i =>
        obtain ⟨x, h1, h2⟩ := ih (by simpa using h)
        exact ⟨x, by simpa using h1, h2⟩
  obtain ⟨x, hx, hd⟩ := this d.rel hp
  refine ⟨x.2.1, entryOfKey (nestedKind P w) x, ?_, rfl, hd⟩
  rw [← Array.getElem?_toList, he, List.getElem?_map, hx]
  rfl
/-- the keys of a dict with tuple keys, its object told -/
theorem ai_keysN {td : TE} (h : AE P w G td s fun r s1 => ∃ j o kvs, r = .own j ∧ s1.m[j]? = some (.dz o kvs) ∧ K (kvs.map fun p => .dat p.1) (fun s => s.m[j]? = some (.dz o kvs)) s1) : AI P w G (iKeysA td) s K := by
  intro F0 as F σ H x R q
  refine .inr (h F0 as F σ H x _ fun v H1 F1 as1 r s1 g1 x1 rv ⟨j, o, kvs, e, hm, k⟩ => ?_)
  subst e
  obtain ⟨a, ha, rfl⟩ := rv
  obtain ⟨_, ⟨vs, ⟨hs, xs, hv, dd⟩, hr⟩, _⟩ := x1.own j a _ ha hm
  obtain ⟨es, ep, hdt, he⟩ := id dd.dat
  have hes : es.size = kvs.length := by
    have := congrArg List.length he
    rw [List.length_map, Array.length_toList] at this
    rw [this, ← Paired.length dd.rel, Paired.len hr]
  refine ⟨a, o, es, ep, rfl, hs, hv, dd.ex, hdt, q _ H1 F1 as1 _ _ s1 g1 x1 (fun as F σ H s x2 g2 ok i => ?_) k⟩
  have ha2 : as[j]? = some a := by
    obtain ⟨l, e⟩ := g2.a
    rw [e]
    show (as1 ++ l)[j]? = some a
    rw [List.getElem?_append_left (List.getElem?_eq_some_iff.mp ha).1]
    exact ha
  obtain ⟨_, ⟨vs2, ⟨_, xs2, hv2, dd2⟩, hr2⟩, _⟩ := x2.own j a _ ha2 ok
  refine ⟨fun r hr' => ?_, fun hi => ⟨hv2, by rw [hes]; rw [List.length_map] at hi; exact hi⟩⟩
  obtain ⟨p, hp, rfl⟩ := map_get hr'
  obtain ⟨z, hz, rz⟩ := Paired.get hr2 hp
  obtain ⟨b, en, h1, h2, h3⟩ := dnr_entry dd2 hdt hz
  refine ⟨⟨hv2, b, en, h1, h2⟩, fun y H' ⟨e, b2, en2, e1, e2, hy⟩ => ⟨F, Grow.refl F as, by rw [e]; exact x2, ?_⟩⟩
  rw [h1] at e1
  cases e1
  rw [h2] at e2
  cases e2
  subst hy
  rw [rz.1] at h3
  exact h3
/-- enumerate(tuple) -/
theorem ai_enumT {ta : TA} (h : AA P w G ta s fun xs s1 => ∃ ds, xs = [.dat (.tuple ds)] ∧ K (ds.zipIdx.map fun p => .dat (.tuple [.int (p.2 : Nat), p.1])) (fun _ => True) s1) : AI P w G (iEnumA KF ta) s K := by
  intro F0 as F σ H x R q
  refine .inl (h F0 as F σ H x _ fun vs H1 F1 as1 rs s1 g1 x1 rv ⟨ds, e, k⟩ => ?_)
  subst e
  cases rv with
  | cons r1 r2 =>
    cases r2
    cases r1 with
    | tup h1 h2 =>
      refine ⟨_, _, rfl, SqT.of (x1.fin _ _ h1), q _ H1 F1 as1 _ _ s1 g1 x1 (fun as F σ H s x2 g2 _ i => ⟨fun r hr => ?_, fun hi => ?_⟩) k⟩
      · obtain ⟨p, hp, rfl⟩ := map_get hr
        rw [List.getElem?_zipIdx] at hp
        cases hd : ds[i]? with
        | none => rw [hd] at hp; cases hp
        | some d =>
          rw [hd] at hp
          have hp' : p = (d, 0 + i) := (Option.some.inj hp).symm
          subst hp'
          obtain ⟨z, hz, rz⟩ := (DenL.mono g2.f _ _ h2).get hd
          have hq : SqT KF H _ _ := SqT.of (x2.fin _ _ (g2.f _ _ h1))
          refine ⟨⟨_, z, hq, hz⟩, fun y H' ⟨T, u, e1, hT, e2, hy⟩ => ?_⟩
          have := hy _ hq
          rw [hz] at this
          cases this
          subst e1 e2
          obtain ⟨x3, g3⟩ := x2.newDat (o := .tup [.int (i : Nat), z]) hT
          refine ⟨_, g3, x3, ?_⟩
          have e0 : ((0 + i : Nat) : Int) = (i : Nat) := by rw [Nat.zero_add]
          rw [e0]
          exact Den.tup upd_same (.cons (Den.int _) (.cons (Den.mono g3.f _ _ rz) .nil))
      · rw [List.length_map, List.length_zipIdx] at hi
        exact ⟨_, SqT.of (x2.fin _ _ (g2.f _ _ h1)), by rw [h2.length]; exact hi⟩
/-- enumerate(dict) -/
theorem ai_enumK {ta : TA} (h : AA P w G ta s fun xs s1 => ∃ ks : List (Key × D), xs = [.dat (.dict (dkD ks))] ∧ K (ks.zipIdx.map fun p => .dat (.tuple [.int (p.2 : Nat), kD p.1.1])) (fun _ => True) s1) : AI P w G (iEnumA KF ta) s K := by
  intro F0 as F σ H x R q
  refine .inr (h F0 as F σ H x _ fun vs H1 F1 as1 rs s1 g1 x1 rv ⟨ks, e, k⟩ => ?_)
  subst e
  cases rv with
  | cons r1 r2 =>
    cases r2
    rename_i v
    have rv' : Den F1 v (.dict (dkD ks)) := r1
    generalize e : dkD ks = es at rv'
    cases rv' with
    | @dk a o vs _ h1 h2 =>
      subst e
      have hr := denK_rfk (as := as1) h2
      refine ⟨a, o, vs, rfl, x1.fin _ _ h1, q _ H1 F1 as1 _ _ s1 g1 x1 (fun as F σ H s x2 g2 _ i => ⟨fun r hr' => ?_, fun hi => ?_⟩) k⟩
      · obtain ⟨p, hp, rfl⟩ := map_get hr'
        rw [List.getElem?_zipIdx] at hp
        cases hd : ks[i]? with
        | none => rw [hd] at hp; cases hp
        | some d =>
          rw [hd] at hp
          have hp' : p = (d, 0 + i) := (Option.some.inj hp).symm
          subst hp'
          have hl : i < vs.length := by
            rw [Paired.len hr, List.length_map]
            exact (List.getElem?_eq_some_iff.mp hd).1
          refine ⟨⟨x2.fin _ _ (g2.f _ _ h1), hl⟩, fun y H' ⟨T, kk, u, e1, hT, e2, hy⟩ => ?_⟩
          obtain ⟨z, hz, rz⟩ := Paired.get (i := i) (y := (d.1, Rf.dat d.2)) hr (by rw [List.getElem?_map, hd]; rfl)
          rw [hy] at hz
          cases hz
          have e3 : kk = d.1 := rz.1
          subst e3 e1 e2
          obtain ⟨x3, g3⟩ := x2.newDat (o := .tup [.int (i : Nat), kV d.1]) hT
          refine ⟨_, g3, x3, ?_⟩
          have e0 : ((0 + i : Nat) : Int) = (i : Nat) := by rw [Nat.zero_add]
          rw [e0]
          refine Den.tup upd_same (.cons (Den.int _) (.cons ?_ .nil))
          show Den _ (kV d.1) (kD d.1)
          cases d.1 with
          | inl i => exact .int i
          | inr x => exact .str x
      · rw [List.length_map, List.length_zipIdx] at hi
        exact ⟨x2.fin _ _ (g2.f _ _ h1), by rw [Paired.len hr, List.length_map]; exact hi⟩
end
end N
set_option Elab.async false
set_option linter.all false
set_option maxRecDepth 100000
set_option maxHeartbeats 4000000
namespace N
open PySem PySem.Spec PyProof.Rows L2
def wipeA (sl : List (Option Rf)) : List Nat → List (Option Rf)
  | [] => sl
  | v :: vs => (wipeA sl vs).set v none
theorem wipeA_length (sl : List (Option Rf)) : ∀ vs : List Nat, (wipeA sl vs).length = sl.length
  | [] => rfl
  | v :: vs => by unfold wipeA; rw [List.length_set, wipeA_length sl vs]
theorem wipeA_some {sl : List (Option Rf)} {i : Nat} {r : Rf} : ∀ {vs : List Nat}, (wipeA sl vs)[i]? = some (some r) → sl[i]? = some (some r) ∧ i ∉ vs
  | [], h => ⟨h, by simp⟩
  | v :: vs, h => by
    unfold wipeA at h
    by_cases hi : v = i
    · subst hi
      by_cases hv : v < (wipeA sl vs).length
      · rw [List.getElem?_set_self hv] at h; cases h
      · rw [List.getElem?_eq_none (by simpa using hv)] at h; cases h
    · rw [List.getElem?_set_ne hi] at h
      obtain ⟨a, b⟩ := wipeA_some h
      exact ⟨a, fun z => by
        rcases List.mem_cons.mp z with z | z
        · exact hi z.symm
        · exact b z⟩
theorem wipe_in {σ : L2.St} {j : Nat} : ∀ {vs : List Nat}, j ∈ vs → (wipe σ vs)[j]? = (σ[j]?).map fun _ => none
  | [], h => nomatch h
  | v :: vs, h => by
    unfold wipe
    by_cases e : v = j
    · subst e
      by_cases hv : v < σ.length
      · rw [List.getElem?_set_self (by rw [wipe_length]; exact hv), List.getElem?_eq_getElem hv]
        rfl
      · rw [List.getElem?_eq_none (by rw [List.length_set, wipe_length]; omega), List.getElem?_eq_none (by omega)]
        rfl
    · rw [List.getElem?_set_ne e]
      rcases List.mem_cons.mp h with z | z
      · exact absurd z.symm e
      · exact wipe_in z
theorem wipe_set {σ : L2.St} {i : Nat} {x : Option V} {vs : List Nat} (h : i ∈ vs) : wipe (σ.set i x) vs = wipe σ vs := by
  apply List.ext_getElem?
  intro j
  by_cases hj : j ∈ vs
  · rw [wipe_in hj, wipe_in hj]
    by_cases e : i = j
    · subst e
      by_cases hv : i < σ.length
      · rw [List.getElem?_set_self hv, List.getElem?_eq_getElem hv]
        rfl
      · rw [List.getElem?_eq_none (by rw [List.length_set]; omega), List.getElem?_eq_none (by omega)]
    · rw [List.getElem?_set_ne e]
  · rw [wipe_out hj, wipe_out hj, List.getElem?_set_ne (fun e => hj (by rw [← e]; exact h))]
section
variable {P : Program} {w : World} {B : Base} {as : List Addr} {F H : Hp} {σ : L2.St} {s : AS}
theorem Fit.reslot (x : Fit P w B as F σ H s) {σ' : L2.St} {sl : List (Option Rf)} (hl : σ'.length = sl.length) (h : ∀ (i : Nat) (r : Rf), sl[i]? = some (some r) → ∃ v, σ'[i]? = some (some v) ∧ RfOk F as v r) : Fit P w B as F σ' H ⟨sl, s.m⟩ :=
  ⟨x.kept, x.froz, x.fin, x.fresh, x.len, x.nd, x.own, hl, h, x.pre⟩
theorem Fit.wipe (x : Fit P w B as F σ H s) (vs : List Nat) : Fit P w B as F (L2.wipe σ vs) H ⟨wipeA s.sl vs, s.m⟩ :=
  x.reslot (by rw [wipe_length, wipeA_length]; exact x.sll) fun i r h => by
    obtain ⟨a, b⟩ := wipeA_some h
    obtain ⟨v, h1, h2⟩ := x.slot i r a
    exact ⟨v, by rw [wipe_out b]; exact h1, h2⟩
end
/-- a comprehension's target -/
def AGc (P : Program) (w : World) (G : Hp) (vs : List Nat) (g : TG) (r : Rf) (s : AS) (K : AS → Prop) : Prop := ∀ F0 as F σ H v, Fit P w ⟨G, F0⟩ as F σ H s → RfOk F as v r → ∀ Q : L2.St → Hp → Prop,
  (∀ σ' s', Fit P w ⟨G, F0⟩ as F σ' H s' → L2.wipe σ' vs = L2.wipe σ vs → K s' → Q σ' H) → g v σ H Q
def AGcs (P : Program) (w : World) (G : Hp) (vs : List Nat) (g : TGs) (rs : List Rf) (s : AS) (K : AS → Prop) : Prop := ∀ F0 as F σ H us, Fit P w ⟨G, F0⟩ as F σ H s → RfL F as us rs → ∀ Q : L2.St → Hp → Prop,
  (∀ σ' s', Fit P w ⟨G, F0⟩ as F σ' H s' → L2.wipe σ' vs = L2.wipe σ vs → K s' → Q σ' H) → g us σ H Q
section
variable {P : Program} {w : World} {G : Hp} {s : AS} {vs : List Nat} {K : AS → Prop} {KF : PySem.W.Frag} {g : TG} {gs : TGs}
theorem agc_name {i : Nat} {r : Rf} (hi : i ∈ vs) (k : K { s with sl := s.sl.set i (some r) }) : AGc P w G vs (gName i) r s K := fun F0 as F σ H v x rv Q q =>
  q _ _ (x.setSlot rv) (wipe_set hi) k
theorem agcs_nil (k : K s) : AGcs P w G vs gNil [] s K := fun F0 as F σ H us x rv Q q => by
  cases rv
  exact ⟨rfl, q σ s x rfl k⟩
theorem agcs_cons {r : Rf} {rs : List Rf} (h : AGc P w G vs g r s fun s1 => AGcs P w G vs gs rs s1 K) : AGcs P w G vs (gCons g gs) (r :: rs) s K := fun F0 as F σ H us x rv Q q => by
  cases rv with
  | cons r1 r2 =>
    refine ⟨_, _, rfl, h F0 as F σ H _ x r1 _ fun σ' s' x' e' k' => ?_⟩
    exact k' F0 as F σ' H _ x' r2 Q fun σ2 s2 x2 e2 k2 => q σ2 s2 x2 (e2.trans e') k2
theorem agc_tup {n : Nat} {ds : List D} (hn : ds.length = n) (h : AGcs P w G vs gs (ds.map .dat) s K) : AGc P w G vs (gTup KF n gs) (.dat (.tuple ds)) s K := fun F0 as F σ H v x rv Q q => by
  cases rv with
  | tup h1 h2 =>
    exact ⟨_, _, rfl, SqT.of (x.fin _ _ h1), by rw [h2.length]; exact hn, h F0 as F σ H _ x (rfl_dat.mpr h2) Q q⟩
end
theorem at_yes {P : Program} {w : World} {G : Hp} {s : AS} {K : Bool → AS → Prop} (k : K true s) : AT P w G tYes s K := fun F0 as F σ H x Q q => q true H F as s (Grow.refl F as) x k

section
variable {P : Program} {w : World} {G : Hp} {s : AS} {K : Rf → AS → Prop} {wi : TI} {g : TG} {tt : TT} {te tk tv : TE} {vs : List Nat}
theorem ae_lc (h : AI P w G wi s fun items ok s1 => ∃ I : Nat → List Rf → AS → Prop,
    I 0 [] ⟨wipeA s1.sl vs, s1.m ++ [.lst []]⟩ ∧ (∀ i acc s2, I i acc s2 → i ≤ items.length → ok s2) ∧
    (∀ i r acc s2, items[i]? = some r → I i acc s2 → AGc P w G vs g r s2 fun s3 => AT P w G tt s3 fun b s4 => (b = true → AE P w G te s4 fun y s5 => ∃ acc', s5.m[s1.m.length]? = some (.lst acc') ∧ acc'.length < sizeLine ∧ I (i + 1) (acc' ++ [y]) ⟨wipeA s5.sl vs, s5.m.set s1.m.length (.lst (acc' ++ [y]))⟩) ∧
      (b = false → I (i + 1) acc ⟨wipeA s4.sl vs, s4.m⟩)) ∧
    (∀ acc s2, I items.length acc s2 → K (.own s1.m.length) ⟨s1.sl, s2.m⟩)) : AE P w G (tLc wi g tt te vs) s K := by
  intro F0 as F σ H x Q q
  refine h F0 as F σ H x _ fun J H1 F1 as1 items ok s1 g1 x1 wk ⟨I, i0, iok, step, fin⟩ => ?_
  intro Dd hD
  obtain ⟨x2, g2⟩ := x1.newOwn (o := .lst []) (c := .lst []) hD ⟨[], upd_same, .nil⟩
  have fr : ∀ a, G a ≠ none → F0.f a = none → F1 a = none := fun a p q => x2.fresh a p q
  have g0 : Grow F0.f F0.a F1 (as1 ++ [Dd]) := x2.grow
  have wk' := wk.base (F2 := ⟨F1, as1 ++ [Dd]⟩) g0 fr
  have gA : Grow F1 as1 F1 (as1 ++ [Dd]) := g2
  refine ⟨fun i m H => m = items.length - i ∧ i ≤ items.length ∧ ∃ as F acc s, Fit P w ⟨G, ⟨F1, as1 ++ [Dd]⟩⟩ as F (L2.wipe σ vs) H s ∧ I i acc s, ⟨items.length, by simp, Nat.zero_le _, as1 ++ [Dd], F1, [], _, (Fit.wipe x2 vs).base, i0⟩, ?_⟩
  rintro i m H2 ⟨rfl, hi, as2, F2, acc, s2, x2, i2⟩
  have hix : ∀ {as : List Addr} {F : Hp} {σ : L2.St} {H : Hp} {s : AS}, Fit P w ⟨G, ⟨F1, as1 ++ [Dd]⟩⟩ as F σ H s → as[s1.m.length]? = some Dd := fun x => by
    obtain ⟨l, e⟩ := x.pre
    have e' : _ = (as1 ++ [Dd]) ++ l := e
    rw [e', ← x1.len]
    simp
  obtain ⟨q1, q2⟩ := wk' as2 F2 _ H2 s2 x2 (gA.trans x2.grow) (iok i acc s2 i2 hi) i
  by_cases hlt : i < items.length
  · obtain ⟨go, yl⟩ := q1 items[i] (List.getElem?_eq_getElem hlt)
    refine .inr ⟨go, fun H' => ∃ as F acc s, Fit P w ⟨G, ⟨F1, as1 ++ [Dd]⟩⟩ as F (L2.wipe σ vs) H' s ∧ I (i + 1) acc s, fun H' q => ⟨items.length - (i + 1), by omega, rfl, hlt, q⟩, fun y H' hy => ?_⟩
    obtain ⟨F3, g3, x3, r3⟩ := yl y H' hy
    have ww : L2.wipe (L2.wipe σ vs) vs = L2.wipe σ vs := by
      apply List.ext_getElem?
      intro j
      by_cases hj : j ∈ vs
      · rw [wipe_in hj, wipe_in hj, Option.map_map]
        rfl
      · rw [wipe_out hj]
    refine step i items[i] acc s2 (List.getElem?_eq_getElem hlt) i2 ⟨F1, as1 ++ [Dd]⟩ as2 F3 _ H' y x3 r3 _ fun σ4 s4 x4 e4 k4 => ?_
    have e5 : L2.wipe σ4 vs = L2.wipe σ vs := e4.trans ww
    refine ⟨e5, k4 ⟨F1, as1 ++ [Dd]⟩ as2 F3 σ4 H' x4 _ fun b H5 F5 as5 s5 g5 x5 k5 => ?_⟩
    cases b with
    | false =>
      rw [if_neg Bool.false_ne_true]
      exact ⟨as5, F5, acc, _, by rw [← e5]; exact Fit.wipe x5 vs, k5.2 rfl⟩
    | true =>
      rw [if_pos rfl]
      refine k5.1 rfl ⟨F1, as1 ++ [Dd]⟩ as5 F5 σ4 H5 x5 _ fun v H6 F6 as6 r6 s6 g6 x6 rv6 ⟨acc', hm, hl, k6⟩ => ?_
      obtain ⟨_, ⟨us, hv, hr⟩, _⟩ := x6.own _ Dd _ (hix x6) hm
      have x7 := x6.write (o := .lst (us ++ [v])) (c' := .lst (acc' ++ [r6])) (hix x6) hm (fun z => nomatch z) ⟨_, upd_same, Paired.app hr (.cons rv6 .nil)⟩
      exact ⟨us, hv, by rw [Paired.len hr]; exact hl, as6, F6, _, _, by rw [← e5]; exact Fit.wipe x7 vs, k6⟩
  · have e : i = items.length := by omega
    subst e
    refine .inl ⟨q2 (Nat.le_refl _), ?_⟩
    have g4 : Grow F1 as1 F2 as2 := gA.trans x2.grow
    have x5 : Fit P w ⟨G, F0⟩ as2 F2 σ H2 ⟨s1.sl, s2.m⟩ := Fit.unbase (B := ⟨G, F0⟩) (x2.reslot (σ' := σ) x1.sll fun i r hr => by
      obtain ⟨v, a, b⟩ := x1.slot i r hr
      exact ⟨v, a, b.mono g4⟩) g0 fr
    exact q _ H2 F2 as2 _ _ (g1.trans g4) x5 (RfOk.ownI (hix x2)) (fin acc s2 i2)
end

section
variable {P : Program} {w : World} {G : Hp} {s : AS} {K : Rf → AS → Prop} {wi : TI} {g : TG} {tt : TT} {te tk tv : TE} {vs : List Nat}
theorem ae_dc (h : AI P w G wi s fun items ok s1 => ∃ I : Nat → List (Key × Rf) → AS → Prop,
    I 0 [] ⟨wipeA s1.sl vs, s1.m ++ [.dk []]⟩ ∧ (∀ i acc s2, I i acc s2 → i ≤ items.length → ok s2) ∧
    (∀ i r acc s2, items[i]? = some r → I i acc s2 → AGc P w G vs g r s2 fun s3 => AT P w G tt s3 fun b s4 => (b = true → AE P w G tk s4 fun y s5 => ∃ k, y = .dat (kD k) ∧ AE P w G tv s5 fun z s6 => ∃ acc', s6.m[s1.m.length]? = some (.dk acc') ∧ acc'.length < sizeLine ∧ I (i + 1) (putKG acc' k z) ⟨wipeA s6.sl vs, s6.m.set s1.m.length (.dk (putKG acc' k z))⟩) ∧
      (b = false → I (i + 1) acc ⟨wipeA s4.sl vs, s4.m⟩)) ∧
    (∀ acc s2, I items.length acc s2 → K (.own s1.m.length) ⟨s1.sl, s2.m⟩)) : AE P w G (tDc wi g tt tk tv vs) s K := by
  intro F0 as F σ H x Q q
  refine h F0 as F σ H x _ fun J H1 F1 as1 items ok s1 g1 x1 wk ⟨I, i0, iok, step, fin⟩ => ?_
  intro Dd hD
  obtain ⟨x2, g2⟩ := x1.newOwn (o := .dK []) (c := .dk []) hD ⟨[], upd_same, .nil⟩
  have fr : ∀ a, G a ≠ none → F0.f a = none → F1 a = none := fun a p q => x2.fresh a p q
  have g0 : Grow F0.f F0.a F1 (as1 ++ [Dd]) := x2.grow
  have wk' := wk.base (F2 := ⟨F1, as1 ++ [Dd]⟩) g0 fr
  have gA : Grow F1 as1 F1 (as1 ++ [Dd]) := g2
  refine ⟨fun i m H => m = items.length - i ∧ i ≤ items.length ∧ ∃ as F acc s, Fit P w ⟨G, ⟨F1, as1 ++ [Dd]⟩⟩ as F (L2.wipe σ vs) H s ∧ I i acc s, ⟨items.length, by simp, Nat.zero_le _, as1 ++ [Dd], F1, [], _, (Fit.wipe x2 vs).base, i0⟩, ?_⟩
  rintro i m H2 ⟨rfl, hi, as2, F2, acc, s2, x2, i2⟩
  have hix : ∀ {as : List Addr} {F : Hp} {σ : L2.St} {H : Hp} {s : AS}, Fit P w ⟨G, ⟨F1, as1 ++ [Dd]⟩⟩ as F σ H s → as[s1.m.length]? = some Dd := fun x => by
    obtain ⟨l, e⟩ := x.pre
    have e' : _ = (as1 ++ [Dd]) ++ l := e
    rw [e', ← x1.len]
    simp
  obtain ⟨q1, q2⟩ := wk' as2 F2 _ H2 s2 x2 (gA.trans x2.grow) (iok i acc s2 i2 hi) i
  by_cases hlt : i < items.length
  · obtain ⟨go, yl⟩ := q1 items[i] (List.getElem?_eq_getElem hlt)
    refine .inr ⟨go, fun H' => ∃ as F acc s, Fit P w ⟨G, ⟨F1, as1 ++ [Dd]⟩⟩ as F (L2.wipe σ vs) H' s ∧ I (i + 1) acc s, fun H' q => ⟨items.length - (i + 1), by omega, rfl, hlt, q⟩, fun y H' hy => ?_⟩
    obtain ⟨F3, g3, x3, r3⟩ := yl y H' hy
    have ww : L2.wipe (L2.wipe σ vs) vs = L2.wipe σ vs := by
      apply List.ext_getElem?
      intro j
      by_cases hj : j ∈ vs
      · rw [wipe_in hj, wipe_in hj, Option.map_map]
        rfl
      · rw [wipe_out hj]
    refine step i items[i] acc s2 (List.getElem?_eq_getElem hlt) i2 ⟨F1, as1 ++ [Dd]⟩ as2 F3 _ H' y x3 r3 _ fun σ4 s4 x4 e4 k4 => ?_
    have e5 : L2.wipe σ4 vs = L2.wipe σ vs := e4.trans ww
    refine ⟨e5, k4 ⟨F1, as1 ++ [Dd]⟩ as2 F3 σ4 H' x4 _ fun b H5 F5 as5 s5 g5 x5 k5 => ?_⟩
    cases b with
    | false =>
      rw [if_neg Bool.false_ne_true]
      exact ⟨as5, F5, acc, _, by rw [← e5]; exact Fit.wipe x5 vs, k5.2 rfl⟩
    | true =>
      rw [if_pos rfl]
      refine k5.1 rfl ⟨F1, as1 ++ [Dd]⟩ as5 F5 σ4 H5 x5 _ fun v H6 F6 as6 r6 s6 g6 x6 rv6 ⟨k, e, k6⟩ => ?_
      subst e
      obtain rfl := den_key rv6
      refine k6 ⟨F1, as1 ++ [Dd]⟩ as6 F6 σ4 H6 x6 _ fun v7 H7 F7 as7 r7 s7 g7 x7 rv7 ⟨acc', hm, hl, k7⟩ => ?_
      obtain ⟨_, ⟨us, hv, hr⟩, _⟩ := x7.own _ Dd _ (hix x7) hm
      have x8 := x7.write (o := .dK (putK us k v7)) (c' := .dk (putKG acc' k r7)) (hix x7) hm (fun z => nomatch z) ⟨_, upd_same, rfk_put hr rv7⟩
      exact ⟨us, k, rfl, hv, by rw [Paired.len hr]; exact hl, as7, F7, _, _, by rw [← e5]; exact Fit.wipe x8 vs, k7⟩
  · have e : i = items.length := by omega
    subst e
    refine .inl ⟨q2 (Nat.le_refl _), ?_⟩
    have g4 : Grow F1 as1 F2 as2 := gA.trans x2.grow
    have x5 : Fit P w ⟨G, F0⟩ as2 F2 σ H2 ⟨s1.sl, s2.m⟩ := Fit.unbase (B := ⟨G, F0⟩) (x2.reslot (σ' := σ) x1.sll fun i r hr => by
      obtain ⟨v, a, b⟩ := x1.slot i r hr
      exact ⟨v, a, b.mono g4⟩) g0 fr
    exact q _ H2 F2 as2 _ _ (g1.trans g4) x5 (RfOk.ownI (hix x2)) (fin acc s2 i2)
end

section
variable {P : Program} {w : World} {G : Hp} {s : AS} {K : Rf → AS → Prop} {wi : TI} {g : TG} {tt : TT} {te tk tv : TE} {vs : List Nat}
theorem ae_nc (h : AI P w G wi s fun items ok s1 => ∃ I : Nat → List (D × Rf) → AS → Prop,
    I 0 [] ⟨wipeA s1.sl vs, s1.m ++ [.dn []]⟩ ∧ (∀ i acc s2, I i acc s2 → i ≤ items.length → ok s2) ∧
    (∀ i r acc s2, items[i]? = some r → I i acc s2 → AGc P w G vs g r s2 fun s3 => AT P w G tt s3 fun b s4 => (b = true → AE P w G tk s4 fun y s5 => ∃ ds, y = .dat (.tuple ds) ∧ keyOk (.tuple ds) = true ∧ AE P w G tv s5 fun z s6 => ∃ acc', s6.m[s1.m.length]? = some (.dn acc') ∧ acc'.length < sizeLine ∧ I (i + 1) (putN acc' (.tuple ds) z) ⟨wipeA s6.sl vs, s6.m.set s1.m.length (.dn (putN acc' (.tuple ds) z))⟩) ∧
      (b = false → I (i + 1) acc ⟨wipeA s4.sl vs, s4.m⟩)) ∧
    (∀ acc s2, I items.length acc s2 → K (.own s1.m.length) ⟨s1.sl, s2.m⟩)) : AE P w G (tNc P w wi g tt tk tv vs) s K := by
  intro F0 as F σ H x Q q
  refine h F0 as F σ H x _ fun J H1 F1 as1 items ok s1 g1 x1 wk ⟨I, i0, iok, step, fin⟩ => ?_
  intro Dd hD hDs
  obtain ⟨x2, g2⟩ := x1.newOwn (o := dOb Dd e0) (c := .dn []) hD ⟨[], ⟨hDs, e0, [], upd_same, dnR_nil⟩, .nil⟩
  have fr : ∀ a, G a ≠ none → F0.f a = none → F1 a = none := fun a p q => x2.fresh a p q
  have g0 : Grow F0.f F0.a F1 (as1 ++ [Dd]) := x2.grow
  have wk' := wk.base (F2 := ⟨F1, as1 ++ [Dd]⟩) g0 fr
  have gA : Grow F1 as1 F1 (as1 ++ [Dd]) := g2
  refine ⟨fun i m H => m = items.length - i ∧ i ≤ items.length ∧ ∃ as F acc s, Fit P w ⟨G, ⟨F1, as1 ++ [Dd]⟩⟩ as F (L2.wipe σ vs) H s ∧ I i acc s, ⟨items.length, by simp, Nat.zero_le _, as1 ++ [Dd], F1, [], _, (Fit.wipe x2 vs).base, i0⟩, ?_⟩
  rintro i m H2 ⟨rfl, hi, as2, F2, acc, s2, x2, i2⟩
  have hix : ∀ {as : List Addr} {F : Hp} {σ : L2.St} {H : Hp} {s : AS}, Fit P w ⟨G, ⟨F1, as1 ++ [Dd]⟩⟩ as F σ H s → as[s1.m.length]? = some Dd := fun x => by
    obtain ⟨l, e⟩ := x.pre
    have e' : _ = (as1 ++ [Dd]) ++ l := e
    rw [e', ← x1.len]
    simp
  obtain ⟨q1, q2⟩ := wk' as2 F2 _ H2 s2 x2 (gA.trans x2.grow) (iok i acc s2 i2 hi) i
  by_cases hlt : i < items.length
  · obtain ⟨go, yl⟩ := q1 items[i] (List.getElem?_eq_getElem hlt)
    refine .inr ⟨go, fun H' => ∃ as F acc s, Fit P w ⟨G, ⟨F1, as1 ++ [Dd]⟩⟩ as F (L2.wipe σ vs) H' s ∧ I (i + 1) acc s, fun H' q => ⟨items.length - (i + 1), by omega, rfl, hlt, q⟩, fun y H' hy => ?_⟩
    obtain ⟨F3, g3, x3, r3⟩ := yl y H' hy
    have ww : L2.wipe (L2.wipe σ vs) vs = L2.wipe σ vs := by
      apply List.ext_getElem?
      intro j
      by_cases hj : j ∈ vs
      · rw [wipe_in hj, wipe_in hj, Option.map_map]
        rfl
      · rw [wipe_out hj]
    refine step i items[i] acc s2 (List.getElem?_eq_getElem hlt) i2 ⟨F1, as1 ++ [Dd]⟩ as2 F3 _ H' y x3 r3 _ fun σ4 s4 x4 e4 k4 => ?_
    have e5 : L2.wipe σ4 vs = L2.wipe σ vs := e4.trans ww
    refine ⟨e5, k4 ⟨F1, as1 ++ [Dd]⟩ as2 F3 σ4 H' x4 _ fun b H5 F5 as5 s5 g5 x5 k5 => ?_⟩
    cases b with
    | false =>
      rw [if_neg Bool.false_ne_true]
      exact ⟨as5, F5, acc, _, by rw [← e5]; exact Fit.wipe x5 vs, k5.2 rfl⟩
    | true =>
      rw [if_pos rfl]
      refine k5.1 rfl ⟨F1, as1 ++ [Dd]⟩ as5 F5 σ4 H5 x5 _ fun v H6 F6 as6 r6 s6 g6 x6 rv6 ⟨ds, e, hk, k6⟩ => ?_
      subst e
      obtain ⟨b, rfl⟩ := key_ref rv6 ⟨ds, rfl⟩
      refine k6 ⟨F1, as1 ++ [Dd]⟩ as6 F6 σ4 H6 x6 _ fun v7 H7 F7 as7 r7 s7 g7 x7 rv7 ⟨acc', hm, hl, k7⟩ => ?_
      obtain ⟨_, ⟨us, ⟨hd, o, xs, e, d⟩, hr⟩, _⟩ := x7.own _ Dd _ (hix x7) hm
      refine ⟨b, F7, o, us, xs, .tuple ds, rfl, x7.fin, e, d, hk, Den.mono g7.f _ _ rv6, by rw [Paired.len hr]; exact hl, fun ob' xs' d' => ?_⟩
      have x8 := x7.write (o := dOb Dd ob') (c' := .dn (putN acc' (.tuple ds) r7)) (hix x7) hm (fun z => nomatch z) ⟨_, ⟨hd, ob', xs', upd_same, d'⟩, rfn_put hr rv7⟩
      exact ⟨as7, F7, _, _, by rw [← e5]; exact Fit.wipe x8 vs, k7⟩
  · have e : i = items.length := by omega
    subst e
    refine .inl ⟨q2 (Nat.le_refl _), ?_⟩
    have g4 : Grow F1 as1 F2 as2 := gA.trans x2.grow
    have x5 : Fit P w ⟨G, F0⟩ as2 F2 σ H2 ⟨s1.sl, s2.m⟩ := Fit.unbase (B := ⟨G, F0⟩) (x2.reslot (σ' := σ) x1.sll fun i r hr => by
      obtain ⟨v, a, b⟩ := x1.slot i r hr
      exact ⟨v, a, b.mono g4⟩) g0 fr
    exact q _ H2 F2 as2 _ _ (g1.trans g4) x5 (RfOk.ownI (hix x2)) (fin acc s2 i2)
end
end N
set_option Elab.async false
set_option linter.all false
set_option maxRecDepth 100000
set_option maxHeartbeats 4000000
namespace N
open PySem PySem.Spec PyProof.Rows L2
/-! ### the last object of one's own becomes data -/
section
variable {P : Program} {w : World} {F F' H H' : Hp} {as as' : List Addr}
theorem rf_less {n : Nat} {v v' : V} {r : Rf} (h : RfOk F as v r) (hn : as.length = n) (h' : RfOk F' (as ++ as') v' r) : RfOk F' as v' r := by
  cases r with
  | dat d => exact h'
  | own i =>
    obtain ⟨a, h1, _⟩ := h
    obtain ⟨b, h2, e⟩ := h'
    rw [List.getElem?_append_left (List.getElem?_eq_some_iff.mp h1).1] at h2
    exact ⟨b, h2, e⟩
theorem paired_less {α β : Type} {R S T : α → β → Prop} (f : ∀ a b y, R a y → S b y → T b y) : ∀ {l m : List α} {k : List β}, Paired R l k → Paired S m k → Paired T m k
  | _, _, _, .nil, .nil => .nil
  | _, _, _, .cons r t, .cons r2 t2 => .cons (f _ _ _ r r2) (paired_less f t t2)
theorem ct_less {a : Addr} : ∀ {c : Ct}, CtOk P w H F as a c → CtOk P w H' F' (as ++ as') a c → CtOk P w H' F' as a c
  | .gone, _, h => h
  | .lst xs, ⟨_, _, r⟩, ⟨vs, q, r2⟩ => ⟨vs, q, paired_less (R := RfOk F as) (S := RfOk F' (as ++ as')) (T := RfOk F' as) (fun _ _ _ x y => rf_less x rfl y) r r2⟩
  | .dk xs, ⟨_, _, r⟩, ⟨vs, q, r2⟩ => ⟨vs, q, paired_less (R := fun (p : Key × V) (q : Key × Rf) => p.1 = q.1 ∧ RfOk F as p.2 q.2) (S := fun (p : Key × V) (q : Key × Rf) => p.1 = q.1 ∧ RfOk F' (as ++ as') p.2 q.2) (T := fun (p : Key × V) (q : Key × Rf) => p.1 = q.1 ∧ RfOk F' as p.2 q.2) (fun _ _ _ x y => ⟨y.1, rf_less x.2 rfl y.2⟩) r r2⟩
  | .dn xs, ⟨_, _, r⟩, ⟨vs, q, r2⟩ => ⟨vs, q, paired_less (R := fun (p : D × V) (q : D × Rf) => p.1 = q.1 ∧ RfOk F as p.2 q.2) (S := fun (p : D × V) (q : D × Rf) => p.1 = q.1 ∧ RfOk F' (as ++ as') p.2 q.2) (T := fun (p : D × V) (q : D × Rf) => p.1 = q.1 ∧ RfOk F' as p.2 q.2) (fun _ _ _ x y => ⟨y.1, rf_less x.2 rfl y.2⟩) r r2⟩
  | .dz o xs, ⟨_, _, r⟩, ⟨vs, q, r2⟩ => ⟨vs, q, paired_less (R := fun (p : D × V) (q : D × Rf) => p.1 = q.1 ∧ RfOk F as p.2 q.2) (S := fun (p : D × V) (q : D × Rf) => p.1 = q.1 ∧ RfOk F' (as ++ as') p.2 q.2) (T := fun (p : D × V) (q : D × Rf) => p.1 = q.1 ∧ RfOk F' as p.2 q.2) (fun _ _ _ x y => ⟨y.1, rf_less x.2 rfl y.2⟩) r r2⟩
end
section
variable {P : Program} {w : World} {G : Hp} {F0 F1 : Fz} {as : List Addr} {F F2 H H2 : Hp} {σ σ2 : L2.St} {s : AS} {sl : List (Option Rf)}
theorem Fit.dropEnd (x : Fit P w ⟨G, F0⟩ as F σ H s) {p : Addr} {ds : List D} (x2 : Fit P w ⟨G, F1⟩ (as ++ [p]) F2 σ2 H2 ⟨sl, s.m ++ [.lst (ds.map .dat)]⟩) (g : Grow F0.f F0.a F2 as) (gf : Same F F2) (fr : ∀ a, G a ≠ none → F0.f a = none → F2 a = none) :
    ∃ F', Fit P w ⟨G, F0⟩ as F' σ H2 s ∧ Grow F as F' as ∧ Den F' (.ref p) (.list ds) := by
  have hp : (as ++ [p])[as.length]? = some p := by simp
  have hm : (s.m ++ [Ct.lst (ds.map .dat)])[as.length]? = some (.lst (ds.map .dat)) := by rw [x.len]; simp
  obtain ⟨k1, ⟨vs, k2, k3⟩, k4⟩ := x2.own as.length p _ hp hm
  have fp := k4 (fun z => nomatch z)
  have e : Same F2 (upd F2 p (.lst vs)) := fun b o q => by rw [upd_ne (ne_of_none q fp)]; exact q
  have gF : Grow F as (upd F2 p (.lst vs)) as := ⟨gf.trans e, [], by simp⟩
  have nd := x2.nd
  have hpn : p ∉ as := fun z => by
    have := (List.nodup_append.mp nd).2.2 p z p (by simp)
    exact this rfl
  refine ⟨upd F2 p (.lst vs), ⟨x2.kept, g.f.trans e, fun b o q => ?_, fun b h1 h2 => ?_, x.len, x.nd, fun i a c h1 h2 => ?_, x.sll, fun i r h => ?_, x.pre⟩, gF, .lst upd_same (DenL.mono e _ _ (rfl_dat.mp k3))⟩
  · by_cases hb : b = p
    · subst hb
      rw [upd_same] at q
      cases q
      exact k2
    · rw [upd_ne hb] at q
      exact x2.fin b o q
  · have : b ≠ p := fun z => h1 (z ▸ k1)
    rw [upd_ne this]
    exact fr b h1 h2
  · have hi := (List.getElem?_eq_some_iff.mp h1).1
    have hi2 : i < s.m.length := by rw [← x.len]; exact hi
    obtain ⟨_, c1, _⟩ := x.own i a c h1 h2
    obtain ⟨q1, q2, q3⟩ := x2.own i a c (by rw [List.getElem?_append_left hi]; exact h1) (by
      show (s.m ++ [Ct.lst (ds.map .dat)])[i]? = some c
      rw [List.getElem?_append_left hi2]; exact h2)
    have hne : a ≠ p := fun z => hpn (z ▸ List.mem_of_getElem? h1)
    refine ⟨q1, ct_less c1 (q2.mono (F' := upd F2 p (.lst vs)) (as' := as ++ [p]) ⟨e, [], by simp⟩ fun o q => q), fun hc => by rw [upd_ne hne]; exact q3 hc⟩
  · obtain ⟨v, h1, h2⟩ := x.slot i r h
    exact ⟨v, h1, h2.mono gF⟩
end
section
variable {P : Program} {w : World} {G : Hp} {s : AS} {K : Rf → AS → Prop} {wi : TI} {g : TG} {tt : TT} {te : TE} {vs : List Nat}
/-- a list comprehension of data that changes nothing -/
theorem ae_lcD (h : AI P w G wi s fun items ok s1 => ∃ f : Nat → Option D, (∀ acc, ok ⟨wipeA s1.sl vs, s1.m ++ [.lst acc]⟩) ∧ items.length ≤ sizeLine ∧
    (∀ (i : Nat) (r : Rf) (acc : List Rf), items[i]? = some r → AGc P w G vs g r ⟨wipeA s1.sl vs, s1.m ++ [.lst acc]⟩ fun s3 => AT P w G tt s3 fun b s4 => (b = true → AE P w G te s4 fun y s5 => s5.m = s1.m ++ [.lst acc] ∧ wipeA s5.sl vs = wipeA s1.sl vs ∧ ∃ d, f i = some d ∧ y = .dat d) ∧
      (b = false → s4.m = s1.m ++ [.lst acc] ∧ wipeA s4.sl vs = wipeA s1.sl vs ∧ f i = none)) ∧
    K (.dat (.list ((List.range items.length).filterMap f))) s1) : AE P w G (tLc wi g tt te vs) s K := by
  intro F0 as F σ H x Q q
  refine h F0 as F σ H x _ fun J H1 F1 as1 items ok s1 g1 x1 wk ⟨f, iok, hsz, step, fin⟩ => ?_
  intro Dd hD
  obtain ⟨x2, g2⟩ := x1.newOwn (o := .lst []) (c := .lst []) hD ⟨[], upd_same, .nil⟩
  have fr : ∀ a, G a ≠ none → F0.f a = none → F1 a = none := fun a p q => x2.fresh a p q
  have g0 : Grow F0.f F0.a F1 (as1 ++ [Dd]) := x2.grow
  have wk' := wk.base (F2 := ⟨F1, as1 ++ [Dd]⟩) g0 fr
  have gA : Grow F1 as1 F1 (as1 ++ [Dd]) := g2
  refine ⟨fun i m H => m = items.length - i ∧ i ≤ items.length ∧ ∃ as F, Fit P w ⟨G, ⟨F1, as1 ++ [Dd]⟩⟩ as F (L2.wipe σ vs) H ⟨wipeA s1.sl vs, s1.m ++ [.lst (((List.range i).filterMap f).map .dat)]⟩, ⟨items.length, by simp, Nat.zero_le _, as1 ++ [Dd], F1, (Fit.wipe x2 vs).base⟩, ?_⟩
  rintro i m H2 ⟨rfl, hi, as2, F2, x2⟩
  have hln : ∀ {as : List Addr} {F : Hp} {σ : L2.St} {H : Hp} {sl : List (Option Rf)} {acc : List Rf}, Fit P w ⟨G, ⟨F1, as1 ++ [Dd]⟩⟩ as F σ H ⟨sl, s1.m ++ [.lst acc]⟩ → as = as1 ++ [Dd] := fun x => by
    obtain ⟨l, e⟩ := x.pre
    have e' : _ = (as1 ++ [Dd]) ++ l := e
    have hl := x.len
    rw [e'] at hl
    have hl' : ((as1 ++ [Dd]) ++ l).length = (s1.m ++ [Ct.lst _]).length := hl
    simp [x1.len] at hl'
    rw [e', hl', List.append_nil]
  have hix : ∀ {as : List Addr} {F : Hp} {σ : L2.St} {H : Hp} {s : AS}, Fit P w ⟨G, ⟨F1, as1 ++ [Dd]⟩⟩ as F σ H s → as[s1.m.length]? = some Dd := fun x => by
    obtain ⟨l, e⟩ := x.pre
    have e' : _ = (as1 ++ [Dd]) ++ l := e
    rw [e', ← x1.len]
    simp
  obtain ⟨q1, q2⟩ := wk' as2 F2 _ H2 _ x2 (gA.trans x2.grow) (iok _) i
  by_cases hlt : i < items.length
  · obtain ⟨go, yl⟩ := q1 items[i] (List.getElem?_eq_getElem hlt)
    refine .inr ⟨go, fun H' => ∃ as F, Fit P w ⟨G, ⟨F1, as1 ++ [Dd]⟩⟩ as F (L2.wipe σ vs) H' ⟨wipeA s1.sl vs, s1.m ++ [.lst (((List.range (i + 1)).filterMap f).map .dat)]⟩, fun H' q => ⟨items.length - (i + 1), by omega, rfl, hlt, q⟩, fun y H' hy => ?_⟩
    obtain ⟨F3, g3, x3, r3⟩ := yl y H' hy
    have ww : L2.wipe (L2.wipe σ vs) vs = L2.wipe σ vs := by
      apply List.ext_getElem?
      intro j
      by_cases hj : j ∈ vs
      · rw [wipe_in hj, wipe_in hj, Option.map_map]
        rfl
      · rw [wipe_out hj]
    have tk : List.range (i + 1) = List.range i ++ [i] := List.range_succ
    refine step i items[i] _ (List.getElem?_eq_getElem hlt) ⟨F1, as1 ++ [Dd]⟩ as2 F3 _ H' y x3 r3 _ fun σ4 s4 x4 e4 k4 => ?_
    have e5 : L2.wipe σ4 vs = L2.wipe σ vs := e4.trans ww
    refine ⟨e5, k4 ⟨F1, as1 ++ [Dd]⟩ as2 F3 σ4 H' x4 _ fun b H5 F5 as5 s5 g5 x5 k5 => ?_⟩
    cases b with
    | false =>
      rw [if_neg Bool.false_ne_true]
      obtain ⟨e6, e7, e8⟩ := k5.2 rfl
      refine ⟨as5, F5, ?_⟩
      have x6 := Fit.wipe x5 vs
      rw [e5, e6, e7] at x6
      rw [tk, List.filterMap_append]
      have : [i].filterMap f = [] := by rw [List.filterMap_cons, e8]; rfl
      rw [this, List.append_nil]
      exact x6
    | true =>
      rw [if_pos rfl]
      refine k5.1 rfl ⟨F1, as1 ++ [Dd]⟩ as5 F5 σ4 H5 x5 _ fun v H6 F6 as6 r6 s6 g6 x6 rv6 ⟨e6, e7, d, e8, e9⟩ => ?_
      subst e9
      have hm : s6.m[s1.m.length]? = some (.lst (((List.range i).filterMap f).map .dat)) := by rw [e6]; simp
      obtain ⟨_, ⟨us, hv, hr⟩, _⟩ := x6.own _ Dd _ (hix x6) hm
      have x7 := x6.write (o := .lst (us ++ [v])) (c' := .lst (((List.range i).filterMap f).map .dat ++ [.dat d])) (hix x6) hm (fun z => nomatch z) ⟨_, upd_same, Paired.app hr (.cons rv6 .nil)⟩
      have hl : us.length < sizeLine := by
        rw [Paired.len hr, List.length_map]
        have h1 : ((List.range i).filterMap f).length ≤ (List.range i).length := List.length_filterMap_le _ _
        rw [List.length_range] at h1
        omega
      refine ⟨us, hv, hl, as6, F6, ?_⟩
      have x8 := Fit.wipe x7 vs
      have e10 : s6.m.set s1.m.length (.lst (((List.range i).filterMap f).map .dat ++ [.dat d])) = s1.m ++ [.lst (((List.range (i + 1)).filterMap f).map .dat)] := by
        have : [i].filterMap f = [d] := by rw [List.filterMap_cons, e8]; rfl
        rw [e6, tk, List.filterMap_append, this, List.map_append]
        simp
      have x9 : Fit P w ⟨G, ⟨F1, as1 ++ [Dd]⟩⟩ as6 F6 (L2.wipe σ4 vs) _ ⟨wipeA s6.sl vs, s6.m.set s1.m.length (.lst (((List.range i).filterMap f).map .dat ++ [.dat d]))⟩ := x8
      rw [e5, e7, e10] at x9
      exact x9
  · have e : i = items.length := by omega
    subst e
    refine .inl ⟨q2 (Nat.le_refl _), ?_⟩
    have ea := hln x2
    subst ea
    have g3 : Same F1 F2 := x2.froz
    have g4 : Grow F0.f F0.a F2 as1 := ⟨g0.f.trans g3, x1.pre⟩
    obtain ⟨F', x5, g5, d5⟩ := x1.dropEnd x2 g4 g3 fun a p q => x2.fresh a p (fr a p q)
    exact q _ H2 F' as1 _ _ (g1.trans g5) x5 (RfOk.dat d5) fin
end
/-! ### a dict of data frozen -/
def tFrz (t : TE) : TE := fun σ H Q => t σ H fun v H1 => ∃ a kvs, v = .ref a ∧ H1 a = some (.dK kvs) ∧ ∀ o, Q v (upd H1 a (.frz o (.dK kvs)))
theorem pe_frz {X : Cx} {e : Expr} {t : TE} (h : PE X e t) : PE X e (tFrz t) := by
  refine ⟨fun pins s σ H Q I hw => ?_⟩
  refine thn (h.run pins s σ H _ I hw) fun u s1 ⟨x, H1, I1, r, a, kvs, e, ha, q⟩ => ?_
  obtain ⟨od, I2⟩ := I1.lock ha True.intro
  exact ⟨x, _, I2, r, q od⟩
section
variable {P : Program} {w : World} {B : Base} {as : List Addr} {F H : Hp} {σ : L2.St} {s : AS}
theorem Fit.freezeK (x : Fit P w B as F σ H s) {i : Nat} {ks : List (Key × D)} (h : s.m[i]? = some (.dk (ks.map fun p => (p.1, Rf.dat p.2)))) : ∃ a kvs, as[i]? = some a ∧ H a = some (.dK kvs) ∧ ∀ o,
    ∃ F', Fit P w B as F' σ (upd H a (.frz o (.dK kvs))) (s.frz i (.dict (dkD ks))) ∧ Grow F as F' as ∧ Den F' (.ref a) (.dict (dkD ks)) := by
  obtain ⟨a, ha⟩ := x.addr h
  obtain ⟨k1, ⟨vs, k2, k3⟩, k4⟩ := x.own i a _ ha h
  refine ⟨a, vs, ha, k2, fun o => ?_⟩
  have x1 := x.write (o := .frz o (.dK vs)) (c' := .gone) ha h (fun z => nomatch z) ⟨_, upd_same⟩
  have fa := k4 (fun z => nomatch z)
  have e : Same F (upd F a (.frz o (.dK vs))) := fun b ob q => by rw [upd_ne (ne_of_none q fa)]; exact q
  have hdk : DenK F vs (dkD ks) := rfk_denK k3
  have mk : ∀ {es : List (D × D)}, DenK F vs es → DenK (upd F a (.frz o (.dK vs))) vs es := fun h => DenK.mono e _ _ h
  have hd : Den (upd F a (.frz o (.dK vs))) (.ref a) (.dict (dkD ks)) := .dk upd_same (mk hdk)
  refine ⟨upd F a (.frz o (.dK vs)), ⟨x1.kept, x.froz.trans e, fun b ob q => ?_, fun b h1 h2 => ?_, ?_, x.nd, fun j b c h1 h2 => ?_, ?_, fun j r hj => ?_, x.pre⟩, ⟨e, [], by simp⟩, hd⟩
  · by_cases hb : b = a
    · subst hb
      rw [upd_same] at q ⊢
      exact q
    · rw [upd_ne hb] at q
      exact x1.fin b ob q
  · have : b ≠ a := fun z => h1 (z ▸ k1)
    rw [upd_ne this]
    exact x.fresh b h1 h2
  · show as.length = ((s.m.map (frzC i (.dict (dkD ks)))).set i .gone).length
    rw [List.length_set, List.length_map]
    exact x.len
  · have h2' : ((s.m.map (frzC i (.dict (dkD ks)))).set i .gone)[j]? = some c := h2
    by_cases hj : j = i
    · subst hj
      rw [ha] at h1
      cases h1
      rw [List.getElem?_set_self (by rw [List.length_map]; exact (List.getElem?_eq_some_iff.mp h).1)] at h2'
      cases h2'
      exact ⟨k1, ⟨_, upd_same⟩, fun z => (z rfl).elim⟩
    · rw [List.getElem?_set_ne (Ne.symm hj), List.getElem?_map] at h2'
      cases q : s.m[j]? with
      | none => rw [q] at h2'; cases h2'
      | some c0 =>
        rw [q] at h2'
        cases h2'
        have q' : (s.m.set i Ct.gone)[j]? = some c0 := by rw [List.getElem?_set_ne (Ne.symm hj)]; exact q
        obtain ⟨q1, q2, q3⟩ := x1.own j b c0 h1 q'
        refine ⟨q1, frzC_ok e ha hd q2, fun hc => ?_⟩
        have hne : b ≠ a := fun z => by
          subst z
          obtain ⟨i1, e1⟩ := List.getElem?_eq_some_iff.mp ha
          obtain ⟨i2, e2⟩ := List.getElem?_eq_some_iff.mp h1
          exact hj ((List.getElem_inj x.nd).mp (e2.trans e1.symm))
        rw [upd_ne hne]
        exact q3 fun z => hc (by subst z; rfl)
  · show σ.length = (s.sl.map _).length
    rw [List.length_map]
    exact x.sll
  · have hj' : (s.sl.map (Option.map (frzR i (.dict (dkD ks)))))[j]? = some (some r) := hj
    rw [List.getElem?_map] at hj'
    cases q : s.sl[j]? with
    | none => rw [q] at hj'; cases hj'
    | some o' =>
      rw [q] at hj'
      cases o' with
      | none => simp at hj'
      | some r0 =>
        simp at hj'
        subst hj'
        obtain ⟨v, h1, h2⟩ := x.slot j r0 q
        exact ⟨v, h1, frzR_ok e ha hd h2⟩
end
theorem ae_frzK {P : Program} {w : World} {G : Hp} {s : AS} {K : Rf → AS → Prop} {te : TE} (h : AE P w G te s fun r s1 => ∃ i, ∃ ks : List (Key × D), r = .own i ∧ s1.m[i]? = some (.dk (ks.map fun p => (p.1, Rf.dat p.2))) ∧ K (.dat (.dict (dkD ks))) (s1.frz i (.dict (dkD ks)))) : AE P w G (tFrz te) s K := by
  intro F0 as F σ H x Q q
  refine h F0 as F σ H x _ fun v H1 F1 as1 r s1 g1 x1 rv ⟨i, ks, e, hm, k⟩ => ?_
  subst e
  obtain ⟨a, kvs, ha, hk, fz⟩ := x1.freezeK hm
  obtain ⟨b, hb, rfl⟩ := rv
  rw [ha] at hb
  cases hb
  refine ⟨a, kvs, rfl, hk, fun o => ?_⟩
  obtain ⟨F', x2, g2, d2⟩ := fz o
  exact q _ _ F' as1 _ _ (g1.trans g2) x2 (RfOk.dat d2) k
end N
set_option Elab.async false
set_option linter.all false
set_option maxRecDepth 100000
set_option maxHeartbeats 4000000
namespace N
open PySem PySem.Spec PyProof.Rows L2
/-! ### promises -/
/-- the first arguments are objects of the caller's, which may be changed; the others data; the answer is data -/
def spG (P : Program) (w : World) (pre : List Ct → List D → Prop) (post : List Ct → List D → List Ct → D → Prop) : Sp := fun vs H Q _ => ∃ (F : Hp) (as : List Addr) (us : List V) (cs : List Ct) (ds : List D),
  vs = as.map V.ref ++ us ∧ as.Nodup ∧ Same F H ∧ Paired (fun a c => CtOk P w H F [] a c ∧ F a = none) as cs ∧ DenL F us ds ∧ pre cs ds ∧
  ∀ v H' F' d cs', (∀ b o, b ∉ as → H b = some o → H' b = some o) → Same F F' → Same F' H' → (∀ a, H a ≠ none → F a = none → F' a = none) → Paired (fun a c => CtOk P w H' F' [] a c) as cs' → Den F' v d → post cs ds cs' d → Q v H'
/-- the answer is a new dict with tuple keys -/
def spN (P : Program) (w : World) (pre : List D → Prop) (post : List D → List (D × D) → Prop) : Sp := fun vs H Q _ => ∃ (F : Hp) (ds : List D), Same F H ∧ DenL F vs ds ∧ pre ds ∧
  ∀ H' F' a kvs, Same H H' → Same F F' → Same F' H' → (∀ a, H a ≠ none → F a = none → F' a = none) → H a = none → F' a = none → CtOk P w H' F' [] a (.dn (kvs.map fun p => (p.1, Rf.dat p.2))) → post ds kvs → Q (.ref a) H'
/-- contents without references to objects of one's own -/
def rfD : Rf → Bool
  | .dat _ => true
  | .own _ => false
def ctD : Ct → Bool
  | .gone => true
  | .lst xs => xs.all rfD
  | .dk kvs => kvs.all fun p => rfD p.2
  | .dn kvs => kvs.all fun p => rfD p.2
  | .dz _ kvs => kvs.all fun p => rfD p.2
section
variable {P : Program} {w : World} {F H : Hp} {as : List Addr}
theorem rfD_nil {v : V} {r : Rf} (k : rfD r = true) (h : RfOk F as v r) : RfOk F [] v r := by
  cases r with
  | dat d => exact h
  | own i => exact absurd k (by simp [rfD])
theorem rf_any {v : V} {r : Rf} (h : RfOk F [] v r) : RfOk F as v r := by
  cases r with
  | dat d => exact h
  | own i =>
    obtain ⟨a, h1, _⟩ := h
    simp at h1
theorem paired_all {α β : Type} {R S : α → β → Prop} {p : β → Bool} (f : ∀ a b, p b = true → R a b → S a b) : ∀ {l : List α} {k : List β}, k.all p = true → Paired R l k → Paired S l k
  | _, _, _, .nil => .nil
  | _, _, h, .cons r t => by
    rw [List.all_cons, Bool.and_eq_true] at h
    exact .cons (f _ _ h.1 r) (paired_all f h.2 t)
theorem ctD_nil {a : Addr} : ∀ {c : Ct}, ctD c = true → CtOk P w H F as a c → CtOk P w H F [] a c
  | .gone, _, h => h
  | .lst xs, k, ⟨vs, q, r⟩ => ⟨vs, q, paired_all (p := rfD) (fun _ _ => rfD_nil) k r⟩
  | .dk xs, k, ⟨vs, q, r⟩ => ⟨vs, q, paired_all (p := fun p => rfD p.2) (fun _ _ (k : rfD _ = true) h => ⟨h.1, rfD_nil k h.2⟩) (show xs.all (fun p => rfD p.2) = true from k) r⟩
  | .dn xs, k, ⟨vs, q, r⟩ => ⟨vs, q, paired_all (p := fun p => rfD p.2) (fun _ _ (k : rfD _ = true) h => ⟨h.1, rfD_nil k h.2⟩) (show xs.all (fun p => rfD p.2) = true from k) r⟩
  | .dz o xs, k, ⟨vs, q, r⟩ => ⟨vs, q, paired_all (p := fun p => rfD p.2) (fun _ _ (k : rfD _ = true) h => ⟨h.1, rfD_nil k h.2⟩) (show xs.all (fun p => rfD p.2) = true from k) r⟩
theorem ct_any {a : Addr} : ∀ {c : Ct}, CtOk P w H F [] a c → CtOk P w H F as a c
  | .gone, h => h
  | .lst xs, ⟨vs, q, r⟩ => ⟨vs, q, Paired.mapP r fun _ _ => rf_any⟩
  | .dk xs, ⟨vs, q, r⟩ => ⟨vs, q, Paired.mapP r fun _ _ h => ⟨h.1, rf_any h.2⟩⟩
  | .dn xs, ⟨vs, q, r⟩ => ⟨vs, q, Paired.mapP r fun _ _ h => ⟨h.1, rf_any h.2⟩⟩
  | .dz o xs, ⟨vs, q, r⟩ => ⟨vs, q, Paired.mapP r fun _ _ h => ⟨h.1, rf_any h.2⟩⟩
end
theorem pair_mem {as : List Addr} (na : as.Nodup) {i : Nat} {a : Addr} (h : as[i]? = some a) : ∀ {js : List Nat} {bs : List Addr}, Paired (fun j a => as[j]? = some a) js bs → a ∈ bs → i ∈ js
  | _, _, .nil, z => nomatch z
  | _, _, .cons (a := j) (b := b) p t, z => by
    rcases List.mem_cons.mp z with z | z
    · subst z
      obtain ⟨i1, e1⟩ := List.getElem?_eq_some_iff.mp h
      obtain ⟨i2, e2⟩ := List.getElem?_eq_some_iff.mp p
      have : i = j := (List.getElem_inj na).mp (e1.trans e2.symm)
      rw [this]
      exact List.mem_cons_self
    · exact List.mem_cons_of_mem _ (pair_mem na h t z)
theorem pair_nodup {as : List Addr} (na : as.Nodup) : ∀ {js : List Nat} {bs : List Addr}, Paired (fun j a => as[j]? = some a) js bs → js.Nodup → bs.Nodup
  | _, _, .nil, _ => List.nodup_nil
  | _, _, .cons p t, h => List.nodup_cons.mpr ⟨fun z => (List.nodup_cons.mp h).1 (pair_mem na p t z), pair_nodup na t (List.nodup_cons.mp h).2⟩
theorem Paired.getL {α β : Type} {R : α → β → Prop} : ∀ {l : List α} {m : List β} {i : Nat} {x : α}, Paired R l m → l[i]? = some x → ∃ y, m[i]? = some y ∧ R x y
  | _, _, _, _, .nil, e => by simp at e
  | _, _, 0, _, .cons h _, e => by
    simp at e
    subst e
    exact ⟨_, rfl, h⟩
  | _, _, i + 1, _, .cons _ t, e => by
    obtain ⟨x, h1, h2⟩ := Paired.getL (i := i) t (by simpa using e)
    exact ⟨x, by simpa using h1, h2⟩
theorem pair_of_get {α β : Type} {R : α → β → Prop} : ∀ {l : List α} {m : List β}, l.length = m.length → (∀ (i : Nat) a b, l[i]? = some a → m[i]? = some b → R a b) → Paired R l m
  | [], [], _, _ => .nil
  | [], _ :: _, h, _ => by simp at h
  | _ :: _, [], h, _ => by simp at h
  | _ :: _, _ :: _, hl, h => .cons (h 0 _ _ rfl rfl) (pair_of_get (by simpa using hl) fun i a b h1 h2 => h (i + 1) a b (by simpa using h1) (by simpa using h2))
/-- contents put at these places -/
def setL (m : List Ct) : List Nat → List Ct → List Ct
  | j :: js, c :: cs => setL (m.set j c) js cs
  | _, _ => m
theorem setL_length : ∀ (js : List Nat) (cs : List Ct) (m : List Ct), (setL m js cs).length = m.length
  | [], cs, m => by cases cs <;> rfl
  | j :: js, [], m => rfl
  | j :: js, c :: cs, m => by
    show (setL (m.set j c) js cs).length = m.length
    rw [setL_length js cs, List.length_set]
theorem setL_out : ∀ (js : List Nat) (cs : List Ct) (m : List Ct) {i : Nat}, i ∉ js → (setL m js cs)[i]? = m[i]?
  | [], cs, m, _, _ => by cases cs <;> rfl
  | j :: js, [], m, _, _ => rfl
  | j :: js, c :: cs, m, i, h => by
    show (setL (m.set j c) js cs)[i]? = m[i]?
    rw [setL_out js cs _ (fun z => h (List.mem_cons_of_mem _ z)), List.getElem?_set_ne (fun z => h (by rw [z]; exact List.mem_cons_self))]
section
variable {P : Program} {w : World} {B : Base} {as : List Addr} {F H : Hp} {σ : L2.St} {s : AS}
/-- behind a callee that changed these -/
theorem Fit.afterL (x : Fit P w B as F σ H s) {F' H' : Hp} {js : List Nat} {bs : List Addr} {cs cs' : List Ct} (hb : Paired (fun j a => as[j]? = some a) js bs) (hc : Paired (fun j c => s.m[j]? = some c ∧ c ≠ .gone) js cs) (nd : js.Nodup)
    (k : ∀ b o, b ∉ bs → H b = some o → H' b = some o) (e : Same F F') (f : Same F' H') (fr : ∀ a, H a ≠ none → F a = none → F' a = none) (new : Paired (fun a c => CtOk P w H' F' [] a c) bs cs') :
    Fit P w B as F' σ H' { s with m := setL s.m js cs' } ∧ Grow F as F' as := by
  have g : Grow F as F' as := ⟨e, [], by simp⟩
  have gone : ∀ (b : Addr), b ∈ bs → B.G b = none ∧ F b = none := by
    intro b hm
    clear new k
    induction hb generalizing cs with
    | nil => cases hm
    | @cons j a js bs h1 t ih =>
      cases hc with
      | cons c1 c2 =>
        rcases List.mem_cons.mp hm with z | hm
        · subst z
          obtain ⟨q1, q2, q3⟩ := x.own j _ _ h1 c1.1
          exact ⟨q1, q3 c1.2⟩
        · exact ih c2 (List.nodup_cons.mp nd).2 hm
  refine ⟨⟨fun b o q => k b o (fun z => ?_) (x.kept b o q), x.froz.trans e, f, fun b h1 h2 => ?_, ?_, x.nd, fun i a c h1 h2 => ?_, x.sll, fun i r h => ?_, x.pre⟩, g⟩
  · rw [(gone b z).1] at q
    cases q
  · refine fr b (fun z => ?_) (x.fresh b h1 h2)
    exact h1 (x.kept.free z)
  · show as.length = (setL s.m js cs').length
    rw [setL_length]
    exact x.len
  · have h2' : (setL s.m js cs')[i]? = some c := h2
    by_cases hi : i ∈ js
    · have : a ∈ bs ∧ CtOk P w H' F' [] a c := by
        have hlen : js.length = bs.length := Paired.length hb
        clear gone
        revert h2'
        generalize hm : s.m = m
        have hml : i < m.length := by rw [← hm, ← x.len]; exact (List.getElem?_eq_some_iff.mp h1).1
        clear hm hc hlen k h2
        induction hb generalizing cs' m with
        | nil => cases hi
        | @cons j b js bs q1 t ih =>
          cases new with
          | cons n1 n2 =>
            rename_i c0 cs0
            intro h2'
            have h3 : (setL (m.set j c0) js cs0)[i]? = some c := h2'
            have nd' := List.nodup_cons.mp nd
            by_cases e : i = j
            · subst e
              rw [setL_out js cs0 _ nd'.1, List.getElem?_set_self hml] at h3
              cases h3
              rw [h1] at q1
              cases q1
              exact ⟨List.mem_cons_self, n1⟩
            · have hi' : i ∈ js := by
                rcases List.mem_cons.mp hi with z | z
                · exact absurd z e
                · exact z
              obtain ⟨a1, a2⟩ := ih nd'.2 n2 hi' (m.set j c0) (by rw [List.length_set]; exact hml) h3
              exact ⟨List.mem_cons_of_mem _ a1, a2⟩
      obtain ⟨hm, hct⟩ := this
      obtain ⟨g1, g2⟩ := gone a hm
      exact ⟨g1, ct_any hct, fun _ => fr a ((x.own_there h1).1) g2⟩
    · rw [setL_out js cs' _ hi] at h2'
      obtain ⟨q1, q2, q3⟩ := x.own i a c h1 h2'
      have hne : a ∉ bs := fun z => hi (pair_mem x.nd h1 hb z)
      exact ⟨q1, q2.mono g fun o q => k a o hne q, fun hc => fr a q2.there (q3 hc)⟩
  · obtain ⟨v, h1, h2⟩ := x.slot i r h
    exact ⟨v, h1, h2.mono g⟩
/-- behind a callee whose answer is a new object -/
theorem Fit.afterNew (x : Fit P w B as F σ H s) {F' H' : Hp} {a : Addr} {c : Ct} (k : Same H H') (e : Same F F') (f : Same F' H') (fr : ∀ a, H a ≠ none → F a = none → F' a = none) (ha : H a = none) (hf : F' a = none) (new : CtOk P w H' F' [] a c) :
    Fit P w B (as ++ [a]) F' σ H' { s with m := s.m ++ [c] } ∧ Grow F as F' (as ++ [a]) := by
  obtain ⟨x2, g2⟩ := x.after k e f fr
  obtain ⟨n1, n2, n3, n4⟩ := x.new_not ha
  have g : Grow F' as F' (as ++ [a]) := ⟨Same.refl F', [a], rfl⟩
  refine ⟨⟨x2.kept, x2.froz, x2.fin, x2.fresh, ?_, ?_, fun i b c' h1 h2 => ?_, x2.sll, fun i r h => ?_, let ⟨l, e⟩ := x2.pre; ⟨l ++ [a], by rw [e, List.append_assoc]⟩⟩, g2.trans g⟩
  · show (as ++ [a]).length = (s.m ++ [c]).length
    rw [List.length_append, List.length_append, x2.len] <;> rfl
  · refine List.nodup_append.mpr ⟨x.nd, by simp, fun b hb b' hb' => ?_⟩
    have : b' = a := by simpa using hb'
    subst this
    exact fun z => n1 (z ▸ hb)
  · by_cases hi : i < as.length
    · rw [List.getElem?_append_left hi] at h1
      have hi2 : i < s.m.length := by rw [← x.len]; exact hi
      have h2' : (s.m ++ [c])[i]? = some c' := h2
      rw [List.getElem?_append_left hi2] at h2'
      obtain ⟨q1, q2, q3⟩ := x2.own i b c' h1 h2'
      exact ⟨q1, q2.mono g fun _ z => z, q3⟩
    · have hi' : i = as.length := by
        have := (List.getElem?_eq_some_iff.mp h1).1
        rw [List.length_append, List.length_singleton] at this
        omega
      subst hi'
      rw [List.getElem?_append_right (Nat.le_refl _)] at h1
      have h2' : (s.m ++ [c])[as.length]? = some c' := h2
      rw [x.len, List.getElem?_append_right (Nat.le_refl _)] at h2'
      simp at h1 h2'
      subst h1
      subst h2'
      exact ⟨n3, ct_any new, fun _ => hf⟩
  · obtain ⟨v, h1, h2⟩ := x2.slot i r h
    exact ⟨v, h1, h2.mono g⟩
end
/-! ### calls -/
section
variable {P : Program} {w : World} {G : Hp} {s : AS} {K : Rf → AS → Prop} {t : TA} {E : XK}
theorem rfl_split : ∀ {js : List Nat} {F : Hp} {as : List Addr} {vs : List V} {ds : List D}, RfL F as vs (js.map .own ++ ds.map .dat) → ∃ bs us, vs = bs.map V.ref ++ us ∧ Paired (fun j a => as[j]? = some a) js bs ∧ DenL F us ds
  | [], F, as, vs, ds, h => ⟨[], vs, rfl, .nil, rfl_dat.mp h⟩
  | j :: js, F, as, vs, ds, h => by
    cases h with
    | cons h1 h2 =>
      obtain ⟨a, ha, rfl⟩ := h1
      obtain ⟨bs, us, rfl, h3, h4⟩ := rfl_split h2
      exact ⟨a :: bs, us, rfl, .cons ha h3, h4⟩
/-- a call by values -/
def AC (P : Program) (w : World) (G : Hp) (sp : Sp) (E : XK) (xs : List Rf) (s : AS) (K : Rf → AS → Prop) : Prop := ∀ F0 as F σ H us, Fit P w ⟨G, F0⟩ as F σ H s → RfL F as us xs → ∀ Q : VK,
  (∀ v H' F' as' r s', Grow F as F' as' → Fit P w ⟨G, F0⟩ as' F' σ H' s' → RfOk F' as' v r → K r s' → Q v H') → sp us H Q E
theorem ae_ofC {sp : Sp} (h : AA P w G t s fun xs s1 => AC P w G sp E xs s1 K) : AE P w G (tCall sp [] E t) s K := by
  intro F0 as F σ H x Q q
  refine h F0 as F σ H x _ fun vs H1 F1 as1 rs s1 g1 x1 rv k => ?_
  show sp (vs ++ []) H1 Q E
  rw [List.append_nil]
  exact k F0 as1 F1 σ H1 vs x1 rv Q fun v H' F' as' r s' g => q v H' F' as' r s' (g1.trans g)
theorem AA.mono {tt : TA} {s : AS} {K K' : List Rf → AS → Prop} (h : AA P w G tt s K) (k : ∀ r s, K r s → K' r s) : AA P w G tt s K' := fun F0 as F σ H x Q q => h F0 as F σ H x Q fun v H' F' as' rs s' g x' rv kk => q v H' F' as' rs s' g x' rv (k rs s' kk)
theorem ac_ex {ι : Type} {p : ι → Prop} {sp : ι → Sp} {xs : List Rf} (x : ι) (hp : p x) (h : AC P w G (sp x) E xs s K) : AC P w G (fun vs H Q E => ∃ x, p x ∧ sp x vs H Q E) E xs s K := fun F0 as F σ H us X rv Q q => ⟨x, hp, h F0 as F σ H us X rv Q q⟩
theorem acG {pre : List Ct → List D → Prop} {post : List Ct → List D → List Ct → D → Prop} {js : List Nat} {cs : List Ct} {ds : List D} {xs : List Rf} (e : xs = js.map .own ++ ds.map .dat) (nd : js.Nodup) (hc : Paired (fun j c => s.m[j]? = some c ∧ c ≠ .gone ∧ ctD c = true) js cs) (hp : pre cs ds)
    (k : ∀ cs' d, cs'.length = js.length → post cs ds cs' d → K (.dat d) { s with m := setL s.m js cs' }) : AC P w G (spG P w pre post) E xs s K := by
  intro F0 as1 F1 σ H1 us0 x1 rv Q q
  subst e
  obtain ⟨bs, us, rfl, hb, hd⟩ := rfl_split rv
  have hbn : bs.Nodup := pair_nodup x1.nd hb nd
  have hct : Paired (fun a c => CtOk P w H1 F1 [] a c ∧ F1 a = none) bs cs := by
    refine pair_of_get (by rw [← Paired.length hb, Paired.length hc]) fun i a c h1 h2 => ?_
    obtain ⟨j, hj, q⟩ := Paired.get hc h2
    obtain ⟨a', ha', q'⟩ := Paired.getL hb hj
    rw [h1] at ha'
    cases ha'
    obtain ⟨_, q2, q3⟩ := x1.own _ _ _ q' q.1
    exact ⟨ctD_nil q.2.2 q2, q3 q.2.1⟩
  refine ⟨F1, bs, us, cs, ds, rfl, hbn, x1.fin, hct, hd, hp, fun v H' F' d cs' kk e f fr new dv po => ?_⟩
  obtain ⟨x2, g2⟩ := x1.afterL hb (Paired.mapP hc fun _ _ z => ⟨z.1, z.2.1⟩) nd kk e f fr new
  exact q v H' F' as1 _ _ g2 x2 (RfOk.dat dv) (k cs' d (by rw [← Paired.length new, Paired.length hb]) po)
theorem acN {pre : List D → Prop} {post : List D → List (D × D) → Prop} {ds : List D} {xs : List Rf} (e : dats xs = some ds) (hp : pre ds) (k : ∀ kvs : List (D × D), post ds kvs → K (.own s.m.length) { s with m := s.m ++ [.dn (kvs.map fun p => (p.1, Rf.dat p.2))] }) : AC P w G (spN P w pre post) E xs s K := by
  intro F0 as1 F1 σ H1 us0 x1 rv Q q
  rw [dats_eq e] at rv
  refine ⟨F1, ds, x1.fin, rfl_dat.mp rv, hp, fun H' F' a kvs kk e f fr ha hf new po => ?_⟩
  obtain ⟨x2, g2⟩ := x1.afterNew kk e f fr ha hf new
  exact q _ H' F' _ _ _ g2 x2 (RfOk.ownI (i := s.m.length) (a := a) (by rw [← x1.len]; simp)) (k kvs po)
end
/-! ### a def's body -/
/-- the slots at the entry -/
def slots (n : Nat) (k : Nat) (ds : List D) : List (Option Rf) := (((List.range k).map fun i => some (Rf.own i)) ++ ds.map fun d => some (Rf.dat d)) ++ List.replicate (n - (k + ds.length)) none
theorem start_slots {N : List Str} {as : List Addr} {us : List V} {ds : List D} {F : Hp} (h : DenL F us ds) (hn : as.length + ds.length ≤ N.length) : (L2.start N (as.map V.ref ++ us)).length = (slots N.length as.length ds).length ∧
    ∀ (i : Nat) (r : Rf), (slots N.length as.length ds)[i]? = some (some r) → ∃ v, (L2.start N (as.map V.ref ++ us))[i]? = some (some v) ∧ RfOk F as v r := by
  have hl := h.length
  refine ⟨by simp [L2.start, slots, hl] <;> omega, fun i r hi => ?_⟩
  unfold slots at hi
  unfold L2.start
  rw [List.map_append, List.map_map]
  by_cases h1 : i < as.length
  · have h2 : i < (((List.range as.length).map fun i => some (Rf.own i)) ++ ds.map fun d => some (Rf.dat d)).length := by simp; omega
    rw [List.getElem?_append_left h2, List.getElem?_append_left (by simpa using h1)] at hi
    rw [List.getElem?_append_left (by simp; omega), List.getElem?_append_left (by simpa using h1)]
    simp [h1] at hi
    subst hi
    exact ⟨.ref as[i], by simp [h1], as[i], List.getElem?_eq_getElem h1, rfl⟩
  · by_cases h3 : i < as.length + ds.length
    · have h2 : i < (((List.range as.length).map fun i => some (Rf.own i)) ++ ds.map fun d => some (Rf.dat d)).length := by simp; omega
      rw [List.getElem?_append_left h2, List.getElem?_append_right (by simp; omega)] at hi
      rw [List.getElem?_append_left (by simp; omega), List.getElem?_append_right (by simp; omega)]
      simp only [List.length_map, List.length_range] at hi ⊢
      rw [List.getElem?_map] at hi
      cases hd : ds[i - as.length]? with
      | none => rw [hd] at hi; cases hi
      | some d =>
        rw [hd] at hi
        have hr : r = .dat d := by
          have := Option.some.inj hi
          exact (Option.some.inj this).symm
        subst hr
        obtain ⟨v, e1, e2⟩ := h.get hd
        exact ⟨v, by rw [List.getElem?_map, e1]; rfl, e2⟩
    · rw [List.getElem?_append_right (by simp; omega)] at hi
      rw [List.getElem?_replicate] at hi
      split at hi <;> simp at hi
section
variable {P : Program} {w : World} {t : TS} {N : List Str}
/-- without the objects that may be changed -/
def lessH (H : Hp) (as : List Addr) : Hp := fun b => if b ∈ as then none else H b
theorem fnG {pre : List Ct → List D → Prop} {post : List Ct → List D → List Ct → D → Prop}
    (h : ∀ G cs ds, pre cs ds → cs.length + ds.length ≤ N.length ∧ (∀ c ∈ cs, c ≠ .gone) ∧ AST P w G t ⟨slots N.length cs.length ds, cs⟩ ⟨fun s => ∃ cs' l, s.m = cs' ++ l ∧ cs'.length = cs.length ∧ (∀ c ∈ cs', c ≠ .gone ∧ ctD c = true) ∧ post cs ds cs' .none, fun r s => ∃ cs' l d, r = .dat d ∧ s.m = cs' ++ l ∧ cs'.length = cs.length ∧ (∀ c ∈ cs', c ≠ .gone ∧ ctD c = true) ∧ post cs ds cs' d, fun _ => False, fun _ => False⟩)
    (vs : List V) (H : Hp) (Q : VK) (E : XK) (q : spG P w pre post vs H Q E) : t { nx := fun _ H' => Q .non H', rt := Q } (L2.start N vs) H := by
  obtain ⟨F, as, us, cs, ds, rfl, nd, f, hc, hd, hp, q⟩ := q
  obtain ⟨hn, hg, a⟩ := h (lessH H as) cs ds hp
  have hlen : as.length = cs.length := Paired.length hc
  obtain ⟨sl1, sl2⟩ := start_slots (N := N) (as := as) hd (by rw [hlen]; exact hn)
  rw [hlen] at sl1 sl2
  have hpair : ∀ (i : Nat) (a : Addr) (c : Ct), as[i]? = some a → cs[i]? = some c → CtOk P w H F [] a c ∧ F a = none := fun i a c h1 h2 => by
    obtain ⟨x, hx, r⟩ := Paired.get hc h2
    rw [h1] at hx
    cases hx
    exact r
  have X : Fit P w ⟨lessH H as, ⟨F, as⟩⟩ as F (L2.start N (as.map V.ref ++ us)) H ⟨slots N.length cs.length ds, cs⟩ := by
    refine ⟨fun b o e => ?_, Same.refl F, f, fun _ _ z => z, hlen, nd, fun i a c h1 h2 => ?_, sl1, sl2, [], by simp⟩
    · have e' : (if b ∈ as then none else H b) = some o := e
      by_cases hb : b ∈ as
      · rw [if_pos hb] at e'; cases e'
      · rw [if_neg hb] at e'; exact e'
    · obtain ⟨q1, q2⟩ := hpair i a c h1 h2
      exact ⟨if_pos (List.mem_of_getElem? h1), ct_any q1, fun _ => q2⟩
  have fin : ∀ {as' : List Addr} {F' : Hp} {σ' : L2.St} {H' : Hp} {s' : AS} {v : V} {d : D} {cs' l : List Ct}, Fit P w ⟨lessH H as, ⟨F, as⟩⟩ as' F' σ' H' s' → Den F' v d → s'.m = cs' ++ l → cs'.length = cs.length → (∀ c ∈ cs', c ≠ .gone ∧ ctD c = true) → post cs ds cs' d → Q v H' := by
    intro as' F' σ' H' s' v d cs' l x dv em hl hcd po
    refine q v H' F' d cs' (fun b o hb e => x.kept b o (by show (if b ∈ as then none else H b) = some o; rw [if_neg hb]; exact e)) x.froz x.fin (fun b h1 h2 => ?_) ?_ dv po
    · by_cases hb : b ∈ as
      · obtain ⟨i, hi, e⟩ := List.getElem_of_mem hb
        have hia : as[i]? = some b := by rw [List.getElem?_eq_getElem hi, e]
        obtain ⟨l2, e2⟩ := x.pre
        have e3 : as' = as ++ l2 := e2
        have ha' : as'[i]? = some b := by rw [e3, List.getElem?_append_left hi]; exact hia
        obtain ⟨c, hc'⟩ : ∃ c, s'.m[i]? = some c := ⟨_, List.getElem?_eq_getElem (by rw [← x.len]; exact (List.getElem?_eq_some_iff.mp ha').1)⟩
        have hic : i < cs'.length := by rw [hl, ← hlen]; exact hi
        have hc2 : cs'[i]? = some c := by
          rw [em, List.getElem?_append_left hic] at hc'
          exact hc'
        exact (x.own i b c ha' hc').2.2 (hcd c (List.mem_of_getElem? hc2)).1
      · exact x.fresh b (by show (if b ∈ as then none else H b) ≠ none; rw [if_neg hb]; exact h1) h2
    · refine pair_of_get (by rw [hlen, hl]) fun i b c h1 h2 => ?_
      obtain ⟨l2, e2⟩ := x.pre
      have e3 : as' = as ++ l2 := e2
      have ha' : as'[i]? = some b := by rw [e3, List.getElem?_append_left (List.getElem?_eq_some_iff.mp h1).1]; exact h1
      have hc' : s'.m[i]? = some c := by rw [em, List.getElem?_append_left (List.getElem?_eq_some_iff.mp h2).1]; exact h2
      exact ctD_nil (hcd c (List.mem_of_getElem? h2)).2 (x.own i b c ha' hc').2.1
  refine a ⟨F, as⟩ as F _ H X _ ⟨fun as' F' σ' H' s' x ⟨cs', l, e1, e2, e3, po⟩ => fin x Den.non e1 e2 e3 po, fun as' F' σ' H' v r s' x rv ⟨cs', l, d, e0, e1, e2, e3, po⟩ => ?_, fun _ _ _ _ _ _ z => z.elim, fun _ _ _ _ _ _ z => z.elim⟩
  subst e0
  exact fin x rv e1 e2 e3 po
end
end N
set_option Elab.async false
set_option linter.all false
set_option maxRecDepth 100000
set_option maxHeartbeats 4000000
namespace N
open PySem PySem.Spec PyProof.Rows L2
section
variable {X : Cx} {C : Addr} {bmB : List Value} {B newId initId : String}
/-- X() -/
theorem pmk_own0 {x : Str} {p pos : Pos} (F : ExcBaseFacts B newId initId bmB) (q : PySem.W.excIn X.K C bmB newId = true) (gC : X.mg x = some (.ref C)) (kC : PySem.W.keepIn X.K (.ref C) = true) (r : Raises X (.ref C)) (hg : Gl X x)
    (hdb : (x == ("__debug__" : Str)) = false := by decide) : PMk X (.Call (.Name x p) [] [] pos) (fun _ H Q => Q (.ref C) none H) := by
  intro pins s σ H Q I h
  refine wpAny_Call_Name_kw (ld_glob I hg gC ?_ hdb)
  refine PySem.W.callWith_K0 I.kIn kC ?_
  obtain ⟨bm, N, nm, qn, bs, hdct, sn, sub, ab, col, dd, k0, k1, k2, k3, k5, mN, hC, hN, hni, T⟩ := exc_obj I.kIn q
  refine wpAny_call_exc_subT F T hC hN hni (fun h' e hm => ?_) (Nat.zero_le _)
  exact mk_of I hm r h (I.hok.gone hm.new)
end
section
variable {P : Program} {w : World} {G : Hp} {s : AS} {K : AK}
theorem as_raise {C : Addr} {E : XK} (hE : ∀ H', Same G H' → E (.ref C) none H') : AST P w G (fun _ σ H => (fun (_ : L2.St) (H : Hp) (Q : XK) => Q (.ref C) none H) σ H fun cls d H' => (fun cls d (_ : L2.St) H => E cls d H) cls d σ H') s K := fun F0 as F σ H x D l => hE H x.kept
end
section
variable {P : Program} {w : World} {t : TS} {N : List Str}
theorem fit0 {F H : Hp} {vs : List V} {ds : List D} (f : Same F H) (hd : DenL F vs ds) (hn : ds.length ≤ N.length) : Fit P w ⟨H, ⟨F, []⟩⟩ [] F (L2.start N vs) H ⟨slots N.length 0 ds, []⟩ := by
  obtain ⟨sl1, sl2⟩ := start_slots (N := N) (as := []) hd (by simpa using hn)
  exact ⟨Same.refl H, Same.refl F, f, fun _ _ z => z, rfl, List.nodup_nil, fun i a c h _ => by simp at h, sl1, sl2, [], rfl⟩
/-- a def whose answer is a new dict with tuple keys -/
theorem fnN {pre : List D → Prop} {post : List D → List (D × D) → Prop} (h : ∀ G ds, pre ds → ds.length ≤ N.length ∧ AST P w G t ⟨slots N.length 0 ds, []⟩ ⟨fun _ => False, fun r s => ∃ i kvs, r = .own i ∧ s.m[i]? = some (.dn (kvs.map fun p => (p.1, Rf.dat p.2))) ∧ post ds kvs, fun _ => False, fun _ => False⟩)
    (vs : List V) (H : Hp) (Q : VK) (E : XK) (q : spN P w pre post vs H Q E) : t { nx := fun _ H' => Q .non H', rt := Q } (L2.start N vs) H := by
  obtain ⟨F, ds, f, hd, hp, q⟩ := q
  obtain ⟨hn, a⟩ := h H ds hp
  refine a ⟨F, []⟩ [] F _ H (fit0 f hd hn) _ ⟨fun _ _ _ _ _ _ z => z.elim, fun as' F' σ' H' v r s' x rv ⟨i, kvs, e, hm, po⟩ => ?_, fun _ _ _ _ _ _ z => z.elim, fun _ _ _ _ _ _ z => z.elim⟩
  subst e
  obtain ⟨b, hb, rfl⟩ := rv
  obtain ⟨q1, q2, q3⟩ := x.own i b _ hb hm
  have hcd : ctD (.dn (kvs.map fun p => (p.1, Rf.dat p.2))) = true := by
    show (kvs.map fun p => (p.1, Rf.dat p.2)).all (fun p => rfD p.2) = true
    rw [List.all_map, List.all_eq_true]
    intro p _
    rfl
  exact q H' F' b kvs x.kept x.froz x.fin (fun c h1 h2 => x.fresh c h1 h2) q1 (q3 (fun z => nomatch z)) (ctD_nil hcd q2) po
/-- a def by data, for data -/
theorem fnD {pre : List D → Prop} {post : List D → D → Prop} (h : ∀ G ds, pre ds → ds.length ≤ N.length ∧ AST P w G t ⟨slots N.length 0 ds, []⟩ ⟨fun _ => post ds .none, fun r _ => ∃ d, r = .dat d ∧ post ds d, fun _ => False, fun _ => False⟩)
    (vs : List V) (H : Hp) (Q : VK) (E : XK) (q : spG P w (fun cs ds => cs = [] ∧ pre ds) (fun _ ds _ d => post ds d) vs H Q E) : t { nx := fun _ H' => Q .non H', rt := Q } (L2.start N vs) H := by
  refine fnG (fun G cs ds hp => ?_) vs H Q E q
  obtain ⟨rfl, hp⟩ := hp
  obtain ⟨h1, h2⟩ := h G ds hp
  refine ⟨by simpa using h1, fun c hc => (nomatch hc), h2.mono (fun s k => ⟨[], s.m, rfl, rfl, fun c hc => (nomatch hc), k⟩) (fun r s ⟨d, e, k⟩ => ⟨[], s.m, d, e, rfl, rfl, fun c hc => (nomatch hc), k⟩) (fun _ k => k) (fun _ k => k)⟩
/-- by data, for data -/
def spD (P : Program) (w : World) (pre : List D → Prop) (post : List D → D → Prop) : Sp := spG P w (fun cs ds => cs = [] ∧ pre ds) (fun _ ds _ d => post ds d)
theorem acD {G : Hp} {s : AS} {K : Rf → AS → Prop} {E : XK} {pre : List D → Prop} {post : List D → D → Prop} {xs : List Rf} {ds : List D} (e : dats xs = some ds) (hp : pre ds) (k : ∀ d, post ds d → K (.dat d) s) : AC P w G (spD P w pre post) E xs s K := by
  refine acG (js := []) (cs := []) (ds := ds) (by rw [dats_eq e]; rfl) List.nodup_nil .nil ⟨rfl, hp⟩ fun cs' d hl po => ?_
  cases cs' with
  | nil => exact k d po
  | cons _ _ => simp at hl
end
/-! ### promises told by an index -/
section
variable {ι : Type}
def spI (P : Program) (w : World) (arg : ι → List D) (pre : ι → Prop) (post : ι → D → Prop) : Sp := fun vs H Q E => ∃ x : ι, pre x ∧ spD P w (fun ds => ds = arg x) (fun _ d => post x d) vs H Q E
def spGI (P : Program) (w : World) (cin : ι → List Ct) (arg : ι → List D) (pre : ι → Prop) (post : ι → List Ct → D → Prop) : Sp := fun vs H Q E => ∃ x : ι, pre x ∧ spG P w (fun cs ds => cs = cin x ∧ ds = arg x) (fun _ _ cs' d => post x cs' d) vs H Q E
def spNI (P : Program) (w : World) (arg : ι → List D) (pre : ι → Prop) (post : ι → List (D × D) → Prop) : Sp := fun vs H Q E => ∃ x : ι, pre x ∧ spN P w (fun ds => ds = arg x) (fun _ k => post x k) vs H Q E
/-- .. which may raise C if ex -/
def spXI (C : Addr) (arg : ι → List D) (pre : ι → Prop) (ex : ι → Prop) (post : ι → D → Prop) : Sp := fun vs H Q E => ∃ x : ι, pre x ∧ ∃ F : Hp, Same F H ∧ DenL F vs (arg x) ∧ (ex x → ∀ H', Same H H' → E (.ref C) none H') ∧
  ∀ v H' F' d, Same H H' → Same F F' → Same F' H' → (∀ a, H a ≠ none → F a = none → F' a = none) → Den F' v d → post x d → Q v H'
variable {P : Program} {w : World} {G : Hp} {s : AS} {K : Rf → AS → Prop} {t : TA} {E : XK} {arg : ι → List D} {cin : ι → List Ct} {pre ex : ι → Prop} {post : ι → D → Prop} {postG : ι → List Ct → D → Prop} {postN : ι → List (D × D) → Prop}
theorem ae_callI (h : AA P w G t s fun xs s1 => ∃ x, dats xs = some (arg x) ∧ pre x ∧ ∀ d, post x d → K (.dat d) s1) : AE P w G (tCall (spI P w arg pre post) [] E t) s K :=
  ae_ofC (h.mono fun xs s1 ⟨x, e, hp, k⟩ => ac_ex x hp (acD e rfl k))
theorem ae_callGI (h : AA P w G t s fun xs s1 => ∃ x js, xs = js.map .own ++ (arg x).map .dat ∧ js.Nodup ∧ Paired (fun j c => s1.m[j]? = some c ∧ c ≠ .gone ∧ ctD c = true) js (cin x) ∧ pre x ∧
    ∀ cs' d, cs'.length = js.length → postG x cs' d → K (.dat d) { s1 with m := setL s1.m js cs' }) : AE P w G (tCall (spGI P w cin arg pre postG) [] E t) s K :=
  ae_ofC (h.mono fun xs s1 ⟨x, js, e, nd, hc, hp, k⟩ => ac_ex x hp (acG e nd hc ⟨rfl, rfl⟩ k))
theorem ae_callNI (h : AA P w G t s fun xs s1 => ∃ x, dats xs = some (arg x) ∧ pre x ∧ ∀ kvs : List (D × D), postN x kvs → K (.own s1.m.length) { s1 with m := s1.m ++ [.dn (kvs.map fun p => (p.1, Rf.dat p.2))] }) : AE P w G (tCall (spNI P w arg pre postN) [] E t) s K :=
  ae_ofC (h.mono fun xs s1 ⟨x, e, hp, k⟩ => ac_ex x hp (acN e rfl k))
theorem ae_callXI {C : Addr} (h : AA P w G t s fun xs s1 => ∃ x, dats xs = some (arg x) ∧ pre x ∧ (ex x → ∀ H', Same G H' → E (.ref C) none H') ∧ ∀ d, post x d → K (.dat d) s1) : AE P w G (tCall (spXI C arg pre ex post) [] E t) s K :=
  ae_ofC (h.mono fun xs s1 ⟨x, e, hp, hE, k⟩ F0 as1 F1 σ H1 us x1 rv Q q => by
    rw [dats_eq e] at rv
    refine ⟨x, hp, F1, x1.fin, rfl_dat.mp rv, fun he H' kk => hE he H' (x1.kept.trans kk), fun v H' F' d kk e f fr dv po => ?_⟩
    obtain ⟨x2, g2⟩ := x1.after kk e f fr
    exact q v H' F' as1 _ s1 g2 x2 (RfOk.dat dv) (k d po))
variable {N : List Str} {ts : TS}
theorem fnI (h : ∀ G x, pre x → (arg x).length ≤ N.length ∧ AST P w G ts ⟨slots N.length 0 (arg x), []⟩ ⟨fun _ => post x .none, fun r _ => ∃ d, r = .dat d ∧ post x d, fun _ => False, fun _ => False⟩)
    (vs : List V) (H : Hp) (Q : VK) (E : XK) (q : spI P w arg pre post vs H Q E) : ts { nx := fun _ H' => Q .non H', rt := Q } (L2.start N vs) H := by
  obtain ⟨x, hp, q⟩ := q
  exact fnD (fun G ds e => by
    subst e
    exact h G x hp) vs H Q E q
theorem fnGI (h : ∀ G x, pre x → (cin x).length + (arg x).length ≤ N.length ∧ (∀ c ∈ cin x, c ≠ .gone) ∧ AST P w G ts ⟨slots N.length (cin x).length (arg x), cin x⟩ ⟨fun s => ∃ cs' l, s.m = cs' ++ l ∧ cs'.length = (cin x).length ∧ (∀ c ∈ cs', c ≠ .gone ∧ ctD c = true) ∧ postG x cs' .none, fun r s => ∃ cs' l d, r = .dat d ∧ s.m = cs' ++ l ∧ cs'.length = (cin x).length ∧ (∀ c ∈ cs', c ≠ .gone ∧ ctD c = true) ∧ postG x cs' d, fun _ => False, fun _ => False⟩)
    (vs : List V) (H : Hp) (Q : VK) (E : XK) (q : spGI P w cin arg pre postG vs H Q E) : ts { nx := fun _ H' => Q .non H', rt := Q } (L2.start N vs) H := by
  obtain ⟨x, hp, q⟩ := q
  exact fnG (fun G cs ds e => by
    obtain ⟨rfl, rfl⟩ := e
    exact h G x hp) vs H Q E q
theorem fnNI (h : ∀ G x, pre x → (arg x).length ≤ N.length ∧ AST P w G ts ⟨slots N.length 0 (arg x), []⟩ ⟨fun _ => False, fun r s => ∃ i kvs, r = .own i ∧ s.m[i]? = some (.dn (kvs.map fun p => (p.1, Rf.dat p.2))) ∧ postN x kvs, fun _ => False, fun _ => False⟩)
    (vs : List V) (H : Hp) (Q : VK) (E : XK) (q : spNI P w arg pre postN vs H Q E) : ts { nx := fun _ H' => Q .non H', rt := Q } (L2.start N vs) H := by
  obtain ⟨x, hp, q⟩ := q
  exact fnN (fun G ds e => by
    subst e
    exact h G x hp) vs H Q E q
theorem fnXI {C : Addr} {vs : List V} {H : Hp} {Q : VK} {E : XK} (q : spXI C arg pre ex post vs H Q E)
    (h : ∀ x, pre x → (ex x → ∀ H', Same H H' → E (.ref C) none H') → (arg x).length ≤ N.length ∧ AST P w H ts ⟨slots N.length 0 (arg x), []⟩ ⟨fun _ => post x .none, fun r _ => ∃ d, r = .dat d ∧ post x d, fun _ => False, fun _ => False⟩) : ts { nx := fun _ H' => Q .non H', rt := Q } (L2.start N vs) H := by
  obtain ⟨x, hp, F, f, hd, hE, q⟩ := q
  obtain ⟨hn, a⟩ := h x hp hE
  refine a ⟨F, []⟩ [] F _ H (fit0 f hd hn) _ ⟨fun as' F' σ' H' s' x po => q _ H' F' _ x.kept x.froz x.fin (fun c h1 h2 => x.fresh c h1 h2) Den.non po, fun as' F' σ' H' v r s' x rv ⟨d, e, po⟩ => ?_, fun _ _ _ _ _ _ z => z.elim, fun _ _ _ _ _ _ z => z.elim⟩
  subst e
  exact q _ H' F' d x.kept x.froz x.fin (fun c h1 h2 => x.fresh c h1 h2) rv po
theorem spI_len {n : Nat} (hn : ∀ x, (arg x).length = n) (vs : List V) (H : Hp) (Q : VK) (E : XK) (q : spI P w arg pre post vs H Q E) : vs.length = n := by
  obtain ⟨x, _, F, as, us, cs, ds, rfl, _, _, hc, hd, ⟨rfl, rfl⟩, _⟩ := q
  cases hc
  simp [hd.length, hn]
theorem spGI_len {n : Nat} (hn : ∀ x, (cin x).length + (arg x).length = n) (vs : List V) (H : Hp) (Q : VK) (E : XK) (q : spGI P w cin arg pre postG vs H Q E) : vs.length = n := by
  obtain ⟨x, _, F, as, us, cs, ds, rfl, _, _, hc, hd, ⟨rfl, rfl⟩, _⟩ := q
  rw [List.length_append, List.length_map, hd.length, Paired.length hc, hn]
theorem spNI_len {n : Nat} (hn : ∀ x, (arg x).length = n) (vs : List V) (H : Hp) (Q : VK) (E : XK) (q : spNI P w arg pre postN vs H Q E) : vs.length = n := by
  obtain ⟨x, _, F, ds, _, hd, rfl, _⟩ := q
  rw [hd.length, hn]
theorem spXI_len {C : Addr} {n : Nat} (hn : ∀ x, (arg x).length = n) (vs : List V) (H : Hp) (Q : VK) (E : XK) (q : spXI C arg pre ex post vs H Q E) : vs.length = n := by
  obtain ⟨x, _, F, _, hd, _⟩ := q
  rw [hd.length, hn]
end
end N
set_option Elab.async false
set_option linter.all false
set_option maxRecDepth 100000
set_option maxHeartbeats 4000000
namespace N
open PySem PySem.Spec PyProof.Rows L2
/-! ### names for readings -/
abbrev rSub : R2 := rI0 fun i j => .int (i - j)
abbrev rMod : R2 := rI (fun _ j => 0 < j) fun i j => .int (i % j)
abbrev rFdiv : R2 := rI CDiv fun i j => .int (i / j)
abbrev rPow : R2 := rI CPow fun i j => .int (i ^ j.toNat)
abbrev rLt : R2 := rI0 fun i j => .bl (decide (i < j))
abbrev rGe : R2 := rI0 fun i j => .bl (decide (j ≤ i))
abbrev rGt : R2 := rI0 fun i j => .bl (decide (j < i))
abbrev rIsN : R2 := fun x y H Q => y = V.non ∧ Q (V.bl (decide (x = V.non))) H
abbrev rNotN : R2 := fun x y H Q => y = V.non ∧ Q (V.bl (!decide (x = V.non))) H
abbrev tTru (K : PySem.W.Frag) (te : TE) : TT := fun σ H Q => te σ H fun x H' => ∃ k, TruV K x H' k ∧ Q k H'
def tRaise (C : Addr) (E : XK) : TS := fun _ _ H => E (.ref C) none H
abbrev tTry (K : PySem.W.Frag) (C : Addr) (tb : WX → TS) (ts : Addr → Value → Option Addr → TS) : TS := fun D σ H => tb (wOnly K (.ref C) ts (fun _ _ _ _ => False) D) D σ H
/-! ### the text -/
def top (i : Nat) : Stmt := PySem.Challenge.pw_pactloom_k22_whole_ready_is_exact.main.body.getD i (.Pass ⟨0, 0, 0, 0⟩)
abbrev FnP (K : PySem.W.Frag) (x : Str) (st : Stmt) (f : Addr) (fd : FuncData) : Prop := FunD K x x (defArgs st) (defBody st) (defScope st) [] [] f fd
structure Def (K : PySem.W.Frag) (mg : Str → Option Value) (x : Str) (st : Stmt) : Prop where
  ex : ∃ f fd, mg x = some (.ref f) ∧ FnP K x st f fd
structure Has (P : Program) (w : World) (K : PySem.W.Frag) (mg : Str → Option Value) (base : Heap) (CX : CXT) (k : Nat) (x : Str) (ps : List Str) (sp : Sp) : Prop where
  ex : ∃ f fd, mg x = some (.ref f) ∧ FnOk P w K mg base CX k f fd ps sp ∧ PySem.W.keepIn K (.ref f) = true ∧ L2.Binds K fd ps []
theorem Has.up {P : Program} {w : World} {K : PySem.W.Frag} {mg : Str → Option Value} {base : Heap} {CX : CXT} {j k : Nat} {x : Str} {ps : List Str} {sp : Sp} (h : Has P w K mg base CX j x ps sp) (l : j ≤ k) : Has P w K mg base CX k x ps sp :=
  let ⟨f, fd, g, F, kp, b⟩ := h.ex; ⟨f, fd, g, F.mono l, kp, b⟩
theorem hu100 {k : Nat} {A : Around} (r : Room k A) : A.units + 100 < cLine := by have := r.un; omega
structure Txt (K : PySem.W.Frag) (mg : Str → Option Value) (C : Addr) : Prop where
  b_len : mg "len" = none
  b_sorted : mg "sorted" = none
  b_tuple : mg "tuple" = none
  b_list : mg "list" = none
  b_int : mg "int" = none
  b_str : mg "str" = none
  b_set : mg "set" = none
  b_enumerate : mg "enumerate" = none
  b_range : mg "range" = none
  b_isinstance : mg "isinstance" = none
  gMOSTSTATES : ∃ t, mg "MOST_STATES" = some (.int 300 t)
  gMOSTJOINT : ∃ t, mg "MOST_JOINT" = some (.int 3000 t)
  gC : mg "TooLarge" = some (.ref C)
  xC : PySem.W.excIn K C [.type "ValueError", .type "Exception", .type "BaseException", .type "object"] "ValueError.__new__" = true
  kC : PySem.W.keepIn K (.ref C) = true
  bC : PySem.W.subIn K (.ref C) (.type "BaseException") = some true
  yC : PySem.W.typeIn K (.ref C) = some (.type "type")
section
variable {X : Cx} {CX : CXT} {k : Nat} {x : Str} {ps : List Str} {sp : Sp} {E : XK} {p pos : Pos} {e : Expr} {es : List Expr} {t : TA}
theorem pe_globN {x : Str} {n : Int} {pos : Pos} (hg : Gl X x) (hm : ∃ t, X.mg x = some (.int n t)) (hd : (x == ("__debug__" : Str)) = false := by decide) : PE X (.Name x pos) (tC (.int n)) :=
  let ⟨t, h⟩ := hm; pe_glob hg h ⟨t, rfl⟩ hd
theorem pe_callH {j : Nat} (H : Has X.prog X.w X.K X.mg X.base CX k x ps sp) (hr : Room j X.A) (hg : Gl X x) (hx : Passes CX X E) (ha : PA X (e :: es) t) (hk : k ≤ j := by decide)
    (hdb : (x == ("__debug__" : Str)) = false := by decide) (he : starEach (e :: es) X.env = (false, eval e X.env) :: starEach es X.env := by rfl) (hpl : (backTo pos (starEach es X.env)).any (·.1) = false := by rfl) :
    PE X (.Call (.Name x p) (e :: es) [] pos) (tCall sp [] E t) := by
  obtain ⟨f, fd, g, F, kp, b⟩ := H.ex
  exact pe_call F (hr.mono hk) hg g kp b .nil hx ha hdb he hpl
theorem pe_callSH {j : Nat} {E : L2.St → XK} (H : Has X.prog X.w X.K X.mg X.base CX k x ps sp) (hr : Room j X.A) (hg : Gl X x) (hx : ∀ σ, PassesAt CX X σ (E σ)) (ha : PA X (e :: es) t) (hk : k ≤ j := by decide)
    (hdb : (x == ("__debug__" : Str)) = false := by decide) (he : starEach (e :: es) X.env = (false, eval e X.env) :: starEach es X.env := by rfl) (hpl : (backTo pos (starEach es X.env)).any (·.1) = false := by rfl) :
    PE X (.Call (.Name x p) (e :: es) [] pos) (tCallS sp E t) := by
  obtain ⟨f, fd, g, F, kp, b⟩ := H.ex
  exact pe_callS F (hr.mono hk) hg g kp b hx ha hdb he hpl
end
end N
set_option Elab.async false
set_option linter.all false
set_option maxRecDepth 100000
set_option maxHeartbeats 4000000
namespace N
open PySem PySem.Spec PyProof.Rows L2

def t_grouped (K : PySem.W.Frag) (P : Program) (w : World) : TS :=
 (tSeq (tAsg tDNew (gName 2))
 (tSeq (tFor (iSeq K (tVar 0)) (gName 3)
  (tFor (iSeq K (tOp (rGet K P w) (tVar 1) (tVar 3))) (gTup K 2 (gCons (gName 4) (gCons (gName 5) gNil)))
   (tSeq (tAsg (tDSetN P w (tVar 2) (tVar 4) tDNew) (gName 6))
   (tFor (iSeq K (tVar 5)) (gName 7)
    (tAsg (tC (.bl true)) (gSub (tVar 6) (tVar 7) (rSet P w)))))))
 (tRet (tNc P w (iKeysA (tVar 2)) (gName 4) tYes (tVar 4) (tCB (rTuple1 K) (tCons (tCB (rSorted K P w) (tCons (tOp (rGet K P w) (tVar 2) (tVar 4)) tNil)) tNil)) [4]))))

def t_subset_table (K : PySem.W.Frag) (P : Program) (w : World) (s_grouped : Sp) : TS :=
 (tSeq (tAsg (tDispN P w (tVar 0) (tC (.int 0))) (gName 4))
 (tSeq (tAsg (tLst (tCons (tVar 0) tNil)) (gName 5))
 (tSeq (tAsg (tLst tNil) (gName 6))
 (tSeq (tAsg (tC (.int 0)) (gName 7))
 (tSeq (tWhile (tTest (tOp rLt (tVar 7) (tCB (rLenA K P w) (tCons (tVar 5) tNil))))
  (tSeq (tAsg (tCall s_grouped [] E0 (tCons (tOp (rGet K P w) (tVar 5) (tVar 7)) (tCons (tVar 1) tNil))) (gName 8))
  (tSeq (tAsg (tLst tNil) (gName 9))
  (tSeq (tFor (iSeq K (tCB (rSorted K P w) (tCons (tVar 8) tNil))) (gName 10)
   (tSeq (tAsg (tOp (rGet K P w) (tVar 8) (tVar 10)) (gName 11))
   (tSeq (tIfS (tTest (tOp (rIn P w true) (tVar 11) (tVar 4))) (tSeq (tIfS (tTest (tOp (rEqZ K) (tCB (rLenA K P w) (tCons (tVar 5) tNil)) (tVar 3))) tNever tNext)
    (tSeq (tAsg (tCB (rLenA K P w) (tCons (tVar 5) tNil)) (gSub (tVar 4) (tVar 11) (rSet P w)))
    (tDrop (tBM K "list" rAppend (tVar 5) (tCons (tVar 11) tNil))))) tNext)
   (tDrop (tBM K "list" rAppend (tVar 9) (tCons (tTup (tCons (tVar 10) (tCons (tOp (rGet K P w) (tVar 4) (tVar 11)) tNil))) tNil))))))
  (tSeq (tDrop (tBM K "list" rAppend (tVar 6) (tCons (tCB (rTuple1 K) (tCons (tVar 9) tNil)) tNil)))
  (tAug 7 (tC (.int 1)) (ipI fun a b => a + b)))))))
 (tSeq (tAsg (tLc (iSeq K (tVar 5)) (gName 13) tYes (tOp rNeA (tLc (iSeq K (tVar 13)) (gName 14) (tB (tOp (rGet K P w) (tVar 2) (tVar 14))) (tVar 14) [14]) (tLst tNil)) [13]) (gName 12))
 (tRet (tTup (tCons (tC (.str "table")) (tCons (tCB (rTuple1 K) (tCons (tVar 6) tNil)) (tCons (tCB (rTuple1 K) (tCons (tVar 12) tNil)) tNil)))))))))))

def t_refined_classes (K : PySem.W.Frag) (P : Program) (w : World) : TS :=
 (tSeq (tAsg tDNew (gName 2))
 (tSeq (tAsg (tLst tNil) (gName 3))
 (tSeq (tFor (iEnumA K (tCons (tOp (rGet K P w) (tVar 0) (tC (.int 1))) tNil)) (gTup K 2 (gCons (gName 4) (gCons (gName 5) gNil)))
  (tSeq (tAsg (tTup (tCons (tOp (rGet K P w) (tVar 1) (tVar 4)) (tCons (tCB (rTuple1 K) (tCons (tLc (iSeq K (tVar 5)) (gTup K 2 (gCons (gName 7) (gCons (gName 8) gNil))) tYes (tTup (tCons (tVar 7) (tCons (tOp (rGet K P w) (tVar 1) (tVar 8)) tNil))) [7, 8]) tNil)) tNil))) (gName 6))
  (tSeq (tIfS (tTest (tOp (rIn P w true) (tVar 6) (tVar 2))) (tAsg (tCB (rLenA K P w) (tCons (tVar 2) tNil)) (gSub (tVar 2) (tVar 6) (rSet P w))) tNext)
  (tDrop (tBM K "list" rAppend (tVar 3) (tCons (tOp (rGet K P w) (tVar 2) (tVar 6)) tNil))))))
 (tRet (tVar 3)))))

def t_alike_classes (K : PySem.W.Frag) (P : Program) (w : World) (s_refined_classes : Sp) : TS :=
 (tSeq (tAsg (tLc (iSeq K (tOp (rGet K P w) (tVar 0) (tC (.int 2)))) (gName 5) tYes (tCB rInt1 (tCons (tVar 5) tNil)) [5]) (gName 1))
 (tSeq (tAsg (tLenSet K (tVar 1)) (gName 2))
 (tWhile (tB (tC (.bl true)))
  (tSeq (tAsg (tCall s_refined_classes [] E0 (tCons (tVar 0) (tCons (tVar 1) tNil))) (gName 3))
  (tSeq (tAsg (tLenSet K (tVar 3)) (gName 4))
  (tSeq (tIfS (tTest (tOp (rEqZ K) (tVar 4) (tVar 2))) (tRet (tVar 3)) tNext)
  (tSeq (tAsg (tVar 3) (gName 1))
  (tAsg (tVar 4) (gName 2)))))))))

def t_least (K : PySem.W.Frag) (P : Program) (w : World) (s_alike_classes : Sp) (s_subset_table : Sp) : TS :=
 (tSeq (tAsg (tCall s_alike_classes [] E0 (tCons (tVar 0) tNil)) (gName 1))
 (tSeq (tAsg (tLc (iSeq K (tVar 1)) (gName 6) tYes (tLst tNil) [6]) (gName 2))
 (tSeq (tAsg (tLc (iSeq K (tVar 1)) (gName 6) tYes (tC (.bl false)) [6]) (gName 3))
 (tSeq (tFor (iEnumA K (tCons (tOp (rGet K P w) (tVar 0) (tC (.int 1))) tNil)) (gTup K 2 (gCons (gName 4) (gCons (gName 5) gNil)))
  (tSeq (tAsg (tLc (iSeq K (tVar 5)) (gTup K 2 (gCons (gName 7) (gCons (gName 8) gNil))) tYes (tTup (tCons (tVar 7) (tCons (tTup (tCons (tOp (rGet K P w) (tVar 1) (tVar 8)) tNil)) tNil))) [7, 8]) (gSub (tVar 2) (tOp (rGet K P w) (tVar 1) (tVar 4)) (rSet P w)))
  (tAsg (tOp (rGet K P w) (tOp (rGet K P w) (tVar 0) (tC (.int 2))) (tVar 4)) (gSub (tVar 3) (tOp (rGet K P w) (tVar 1) (tVar 4)) (rSet P w)))))
 (tRet (tCall s_subset_table [] E0 (tCons (tTup (tCons (tOp (rGet K P w) (tVar 1) (tC (.int 0))) tNil)) (tCons (tVar 2) (tCons (tVar 3) (tCons (tCB (rLenA K P w) (tCons (tVar 1) tNil)) tNil))))))))))

def t_next_state (K : PySem.W.Frag) (P : Program) (w : World) : TS :=
 (tSeq (tFor (iSeq K (tOp (rGet K P w) (tOp (rGet K P w) (tVar 0) (tC (.int 1))) (tVar 1))) (gTup K 2 (gCons (gName 3) (gCons (gName 4) gNil)))
  (tIfS (tTest (tOp (rEqZ K) (tVar 3) (tVar 2))) (tRet (tVar 4)) tNext))
 (tRet (tC .non)))

def t_walk (K : PySem.W.Frag) (P : Program) (w : World) (s_next_state : Sp) : TS :=
 (tSeq (tAsg (tC (.int 0)) (gName 2))
 (tSeq (tFor (iSeq K (tVar 1)) (gName 3)
  (tSeq (tAsg (tCall s_next_state [] E0 (tCons (tVar 0) (tCons (tVar 2) (tCons (tVar 3) tNil)))) (gName 2))
  (tIfS (tTest (tOp rIsN (tVar 2) (tC .non))) (tRet (tC .non)) tNext)))
 (tRet (tVar 2))))

def t_parties_of (K : PySem.W.Frag) (P : Program) (w : World) : TS :=
 (tSeq (tAsg tDNew (gName 1))
 (tSeq (tFor (iSeq K (tOp (rGet K P w) (tVar 0) (tC (.int 1)))) (gName 2)
  (tFor (iSeq K (tVar 2)) (gTup K 2 (gCons (gName 3) (gCons (gName 4) gNil)))
   (tSeq (tAsg (tC (.bl true)) (gSub (tVar 1) (tOp (rGet K P w) (tVar 3) (tC (.int 0))) (rSet P w)))
   (tAsg (tC (.bl true)) (gSub (tVar 1) (tOp (rGet K P w) (tVar 3) (tC (.int 1))) (rSet P w))))))
 (tRet (tCB (rSorted K P w) (tCons (tVar 1) tNil)))))

def t_concerns (K : PySem.W.Frag) (P : Program) (w : World) : TS :=
 (tRet (tOrV (tOp (rEqZ K) (tOp (rGet K P w) (tVar 0) (tC (.int 0))) (tVar 1)) (tOp (rEqZ K) (tOp (rGet K P w) (tVar 0) (tC (.int 1))) (tVar 1))))

def t_view (K : PySem.W.Frag) (P : Program) (w : World) (s_concerns : Sp) : TS :=
 (tRet (tLc (iSeq K (tVar 0)) (gName 2) (tB (tCall s_concerns [] E0 (tCons (tVar 2) (tCons (tVar 1) tNil)))) (tVar 2) [2]))

def t_reached_unseen (K : PySem.W.Frag) (P : Program) (w : World) (s_concerns : Sp) : TS :=
 (tSeq (tAsg (tDisp [((tVar 1), (tC (.bl true)))]) (gName 4))
 (tSeq (tAsg (tLst (tCons (tVar 1) tNil)) (gName 5))
 (tSeq (tWhile (tTru K (tVar 5))
  (tFor (iSeq K (tOp (rGet K P w) (tOp (rGet K P w) (tVar 0) (tC (.int 1))) (tBM0 K "list" rPop (tVar 5)))) (gTup K 2 (gCons (gName 6) (gCons (gName 7) gNil)))
   (tIfS (tAnd (tTest (tOp rNeA (tCall s_concerns [] E0 (tCons (tVar 6) (tCons (tVar 2) tNil))) (tVar 3))) (tTest (tOp (rIn P w true) (tVar 7) (tVar 4)))) (tSeq (tAsg (tC (.bl true)) (gSub (tVar 4) (tVar 7) (rSet P w)))
    (tDrop (tBM K "list" rAppend (tVar 5) (tCons (tVar 7) tNil)))) tNext)))
 (tRet (tCB (rTuple1 K) (tCons (tCB (rSorted K P w) (tCons (tVar 4) tNil)) tNil))))))

def t_erased (K : PySem.W.Frag) (P : Program) (w : World) (s_concerns : Sp) (s_least : Sp) (s_reached_unseen : Sp) (s_subset_table : Sp) : TS :=
 (tSeq (tAsg (tLc (iRng1 (tCons (tCB (rLenA K P w) (tCons (tOp (rGet K P w) (tVar 0) (tC (.int 1))) tNil)) tNil)) (gName 6) tYes (tCall s_reached_unseen [] E0 (tCons (tVar 0) (tCons (tVar 6) (tCons (tVar 1) (tCons (tVar 2) tNil))))) [6]) (gName 3))
 (tSeq (tAsg (tLst tNil) (gName 4))
 (tSeq (tFor (iSeq K (tOp (rGet K P w) (tVar 0) (tC (.int 1)))) (gName 5)
  (tDrop (tBM K "list" rAppend (tVar 4) (tCons (tLc (iSeq K (tVar 5)) (gTup K 2 (gCons (gName 7) (gCons (gName 8) gNil))) (tTest (tOp (rEqZ K) (tCall s_concerns [] E0 (tCons (tVar 7) (tCons (tVar 1) tNil))) (tVar 2))) (tTup (tCons (tVar 7) (tCons (tOp (rGet K P w) (tVar 3) (tVar 8)) tNil))) [7, 8]) tNil))))
 (tRet (tCall s_least [] E0 (tCons (tCall s_subset_table [] E0 (tCons (tOp (rGet K P w) (tVar 3) (tC (.int 0))) (tCons (tVar 4) (tCons (tOp (rGet K P w) (tVar 0) (tC (.int 2))) (tCons (tC (.int 300)) tNil))))) tNil))))))

def t_machine_of (K : PySem.W.Frag) (P : Program) (w : World) (s_erased : Sp) : TS :=
 (tRet (tCall s_erased [] E0 (tCons (tVar 0) (tCons (tVar 1) (tCons (tC (.bl true)) tNil)))))

def t_machines_of (K : PySem.W.Frag) (P : Program) (w : World) (s_machine_of : Sp) (s_parties_of : Sp) : TS :=
 (tRet (tFrz (tDc (iSeq K (tCall s_parties_of [] E0 (tCons (tVar 0) tNil))) (gName 1) tYes (tVar 1) (tCall s_machine_of [] E0 (tCons (tVar 0) (tCons (tVar 1) tNil))) [1])))

def t_next_joint (K : PySem.W.Frag) (P : Program) (w : World) (s_concerns : Sp) (s_next_state : Sp) : TS :=
 (tSeq (tAsg (tLst (tCons (tCall s_next_state [] E0 (tCons (tVar 0) (tCons (tOp (rGet K P w) (tVar 2) (tC (.int 0))) (tCons (tVar 3) tNil)))) tNil)) (gName 4))
 (tSeq (tFor (iEnumA K (tCons (tVar 1) tNil)) (gTup K 2 (gCons (gName 5) (gCons (gName 6) gNil)))
  (tSeq (tAsg (tOp (rGet K P w) (tVar 2) (tOp rAdd (tVar 5) (tC (.int 1)))) (gName 7))
  (tSeq (tIfS (tB (tCall s_concerns [] E0 (tCons (tVar 3) (tCons (tVar 6) tNil)))) (tAsg (tCall s_next_state [] E0 (tCons (tOp (rGet K P w) (tVar 1) (tVar 6)) (tCons (tVar 7) (tCons (tVar 3) tNil)))) (gName 7)) tNext)
  (tDrop (tBM K "list" rAppend (tVar 4) (tCons (tVar 7) tNil))))))
 (tRet (tCB (rTuple1 K) (tCons (tVar 4) tNil)))))

def t_joint_states (K : PySem.W.Frag) (P : Program) (w : World) (C : Addr) (E : XK) (s_machines_of : Sp) (s_next_joint : Sp) : TS :=
 (tSeq (tAsg (tCall s_machines_of [] E0 (tCons (tVar 0) tNil)) (gName 1))
 (tSeq (tAsg (tCB (rTuple1 K) (tCons (tOp rMul (tLst (tCons (tC (.int 0)) tNil)) (tOp rAdd (tCB (rLenA K P w) (tCons (tVar 1) tNil)) (tC (.int 1)))) tNil)) (gName 2))
 (tSeq (tAsg (tDispN P w (tVar 2) (tC (.bl true))) (gName 3))
 (tSeq (tAsg (tLst (tCons (tTup (tCons (tVar 2) (tCons (tLst tNil) tNil))) tNil)) (gName 4))
 (tSeq (tAsg (tC (.int 0)) (gName 5))
 (tSeq (tWhile (tTest (tOp rLt (tVar 5) (tCB (rLenA K P w) (tCons (tVar 4) tNil))))
  (tSeq (tAsg (tOp (rGet K P w) (tVar 4) (tVar 5)) (gTup K 2 (gCons (gName 6) (gCons (gName 7) gNil))))
  (tSeq (tAug 5 (tC (.int 1)) (ipI fun a b => a + b))
  (tFor (iSeq K (tOp (rGet K P w) (tOp (rGet K P w) (tVar 0) (tC (.int 1))) (tOp (rGet K P w) (tVar 6) (tC (.int 0))))) (gTup K 2 (gCons (gName 8) (gCons (gName 9) gNil)))
   (tSeq (tAsg (tCall s_next_joint [] E0 (tCons (tVar 0) (tCons (tVar 1) (tCons (tVar 6) (tCons (tVar 8) tNil))))) (gName 10))
   (tIfS (tTest (tOp (rIn P w true) (tVar 10) (tVar 3))) (tSeq (tIfS (tTest (tOp (rEqZ K) (tCB (rLenA K P w) (tCons (tVar 4) tNil)) (tC (.int 3000)))) (tRaise C E) tNext)
    (tSeq (tAsg (tC (.bl true)) (gSub (tVar 3) (tVar 10) (rSet P w)))
    (tDrop (tBM K "list" rAppend (tVar 4) (tCons (tTup (tCons (tVar 10) (tCons (tOp rAdd (tVar 7) (tLst (tCons (tVar 8) tNil))) tNil))) tNil))))) tNext))))))
 (tRet (tVar 4))))))))

def t_seen_alike (K : PySem.W.Frag) (P : Program) (w : World) (s_concerns : Sp) (s_next_state : Sp) : TS :=
 (tSeq (tAsg (tLst (tCons (tTup (tCons (tC (.int 0)) (tCons (tC (.int 0)) (tCons (tLst tNil) tNil)))) tNil)) (gName 4))
 (tSeq (tAsg (tDispN P w (tTup (tCons (tC (.int 0)) (tCons (tC (.int 0)) tNil))) (tC (.bl true))) (gName 5))
 (tSeq (tAsg (tC (.int 0)) (gName 6))
 (tSeq (tWhile (tTest (tOp rLt (tVar 6) (tCB (rLenA K P w) (tCons (tVar 4) tNil))))
  (tSeq (tAsg (tOp (rGet K P w) (tVar 4) (tVar 6)) (gTup K 3 (gCons (gName 7) (gCons (gName 8) (gCons (gName 9) gNil)))))
  (tSeq (tAug 6 (tC (.int 1)) (ipI fun a b => a + b))
  (tSeq (tIfS (tTest (tOp (rEqZ K) (tVar 8) (tCB (rLenA K P w) (tCons (tVar 2) tNil)))) (tSeq (tIfS (tAnd (tTest (tOp rIsN (tVar 3) (tC .non))) (tB (tOp (rGet K P w) (tOp (rGet K P w) (tVar 0) (tC (.int 2))) (tVar 7)))) (tRet (tVar 9)) tNext)
   (tIfS (tAnd (tTest (tOp rNotN (tVar 3) (tC .non))) (tTest (tOp rNotN (tCall s_next_state [] E0 (tCons (tVar 0) (tCons (tVar 7) (tCons (tVar 3) tNil)))) (tC .non)))) (tRet (tVar 9)) tNext)) tNext)
  (tFor (iSeq K (tOp (rGet K P w) (tOp (rGet K P w) (tVar 0) (tC (.int 1))) (tVar 7))) (gTup K 2 (gCons (gName 10) (gCons (gName 11) gNil)))
   (tSeq (tAsg (tVar 8) (gName 12))
   (tSeq (tIfS (tB (tCall s_concerns [] E0 (tCons (tVar 10) (tCons (tVar 1) tNil)))) (tSeq (tIfS (tOr (tTest (tOp (rEqZ K) (tVar 8) (tCB (rLenA K P w) (tCons (tVar 2) tNil)))) (tTest (tOp rNeA (tOp (rGet K P w) (tVar 2) (tVar 8)) (tVar 10)))) tCont tNext)
    (tAsg (tOp rAdd (tVar 8) (tC (.int 1))) (gName 12))) tNext)
   (tIfS (tTest (tOp (rIn P w true) (tTup (tCons (tVar 11) (tCons (tVar 12) tNil))) (tVar 5))) (tSeq (tAsg (tC (.bl true)) (gSub (tVar 5) (tTup (tCons (tVar 11) (tCons (tVar 12) tNil))) (rSet P w)))
    (tDrop (tBM K "list" rAppend (tVar 4) (tCons (tTup (tCons (tVar 11) (tCons (tVar 12) (tCons (tOp rAdd (tVar 9) (tLst (tCons (tVar 10) tNil))) tNil)))) tNil)))) tNext))))))))
 (tRet (tC .non))))))

def t_states_by_party (K : PySem.W.Frag) (P : Program) (w : World) : TS :=
 (tRet (tFrz (tDc (iEnumA K (tCons (tVar 0) tNil)) (gTup K 2 (gCons (gName 2) (gCons (gName 3) gNil))) tYes (tVar 3) (tOp (rGet K P w) (tVar 1) (tOp rAdd (tVar 2) (tC (.int 1)))) [2, 3])))

def t_sends_at (K : PySem.W.Frag) (P : Program) (w : World) : TS :=
 (tSeq (tAsg (tLst tNil) (gName 2))
 (tSeq (tFor (iKeysA (tVar 0)) (gName 3)
  (tFor (iSeq K (tOp (rGet K P w) (tOp (rGet K P w) (tOp (rGet K P w) (tVar 0) (tVar 3)) (tC (.int 1))) (tOp (rGet K P w) (tVar 1) (tVar 3)))) (gTup K 2 (gCons (gName 4) (gCons (gName 5) gNil)))
   (tIfS (tTest (tOp (rEqZ K) (tOp (rGet K P w) (tVar 4) (tC (.int 0))) (tVar 3))) (tDrop (tBM K "list" rAppend (tVar 2) (tCons (tVar 4) tNil))) tNext)))
 (tRet (tCB (rSorted K P w) (tCons (tVar 2) tNil)))))

def t_unready (K : PySem.W.Frag) (P : Program) (w : World) (C : Addr) (E : XK) (s_joint_states : Sp) (s_machines_of : Sp) (s_seen_alike : Sp) (s_sends_at : Sp) (s_states_by_party : Sp) (s_view : Sp) (s_walk : Sp) : TS :=
 (tSeq (tAsg (tCall s_machines_of [] E0 (tCons (tVar 0) tNil)) (gName 1))
 (tSeq (tFor (iSeq K (tCall s_joint_states [] E (tCons (tVar 0) tNil))) (gTup K 2 (gCons (gName 2) (gCons (gName 3) gNil)))
  (tFor (iSeq K (tCall s_sends_at [] E0 (tCons (tVar 1) (tCons (tCall s_states_by_party [] E0 (tCons (tVar 1) (tCons (tVar 2) tNil))) tNil)))) (gName 4)
   (tIfS (tTest (tOp rIsN (tCall s_walk [] E0 (tCons (tVar 0) (tCons (tOp rAdd (tVar 3) (tLst (tCons (tVar 4) tNil))) tNil))) (tC .non))) (tSeq (tAsg (tCall s_seen_alike [] E0 (tCons (tVar 0) (tCons (tOp (rGet K P w) (tVar 4) (tC (.int 0))) (tCons (tCall s_view [] E0 (tCons (tVar 3) (tCons (tOp (rGet K P w) (tVar 4) (tC (.int 0))) tNil))) (tCons (tVar 4) tNil))))) (gName 5))
    (tRet (tTup (tCons (tC (.str "unready")) (tCons (tVar 3) (tCons (tVar 4) (tCons (tVar 5) tNil))))))) tNext)))
 (tRet (tC .non))))

def t__law_state (K : PySem.W.Frag) (P : Program) (w : World) : TS :=
 (tRet (tLst (tCons (tCB (rList1 K) (tCons (tVar 0) tNil)) (tCons (tC (.int 0)) (tCons (tC (.int 0)) (tCons (tC (.int 0)) (tCons (tC (.bl false)) (tCons (tC (.int 500)) tNil))))))))

def t__law_draw (K : PySem.W.Frag) (P : Program) (w : World) : TS :=
 (tSeq (tIfS (tTest (tOp (rEqZ K) (tOp (rGet K P w) (tVar 0) (tC (.int 3))) (tC (.int 0)))) (tSeq (tIfS (tTest (tOp rGe (tOp (rGet K P w) (tVar 0) (tC (.int 1))) (tCB (rLenA K P w) (tCons (tOp (rGet K P w) (tVar 0) (tC (.int 0))) tNil)))) (tRet (tC (.int 0))) tNext)
  (tSeq (tAsg (tOp (rGet K P w) (tOp (rGet K P w) (tVar 0) (tC (.int 0))) (tOp (rGet K P w) (tVar 0) (tC (.int 1)))) (gName 2))
  (tSeq (tIfS (tTest (tOp rLt (tVar 2) (tC (.int 0)))) (tAsg (tOp rSub (tUn (rU fun i => .int (-i)) (tC (.int 1))) (tVar 2)) (gName 2)) tNext)
  (tSeq (tAsg (tOp rAdd (tOp (rGet K P w) (tVar 0) (tC (.int 1))) (tC (.int 1))) (gSub (tVar 0) (tC (.int 1)) (rSet P w)))
  (tSeq (tAsg (tVar 2) (gSub (tVar 0) (tC (.int 2)) (rSet P w)))
  (tSeq (tAsg (tOp rGe (tVar 2) (tOp rPow (tC (.int 10)) (tC (.int 18)))) (gSub (tVar 0) (tC (.int 4)) (rSet P w)))
  (tSeq (tAsg (tC (.int 6)) (gSub (tVar 0) (tC (.int 3)) (rSet P w)))
  (tIfS (tB (tOp (rGet K P w) (tVar 0) (tC (.int 4)))) (tAsg (tC (.int 60)) (gSub (tVar 0) (tC (.int 3)) (rSet P w))) tNext)))))))) tNext)
 (tSeq (tAsg (tOp rSub (tOp (rGet K P w) (tVar 0) (tC (.int 3))) (tC (.int 1))) (gSub (tVar 0) (tC (.int 3)) (rSet P w)))
 (tSeq (tIfS (tB (tOp (rGet K P w) (tVar 0) (tC (.int 4)))) (tSeq (tAsg (tOp rMod (tCB rInt1 (tCons (tOp (rGet K P w) (tVar 0) (tC (.int 2))) tNil)) (tVar 1)) (gName 3))
  (tSeq (tAsg (tOp rFdiv (tOp (rGet K P w) (tVar 0) (tC (.int 2))) (tVar 1)) (gSub (tVar 0) (tC (.int 2)) (rSet P w)))
  (tSeq (tIfS (tTest (tOp (rEqZ K) (tOp (rGet K P w) (tVar 0) (tC (.int 2))) (tC (.int 0)))) (tAsg (tC (.int 0)) (gSub (tVar 0) (tC (.int 3)) (rSet P w))) tNext)
  (tRet (tVar 3))))) tNext)
 (tSeq (tAsg (tOp rMod (tCB rInt1 (tCons (tOp rAdd (tOp rAdd (tOp rMul (tOp (rGet K P w) (tVar 0) (tC (.int 2))) (tC (.int 48271))) (tOp rMul (tOp (rGet K P w) (tVar 0) (tC (.int 3))) (tC (.int 69621)))) (tC (.int 7))) tNil)) (tC (.int 2147483647))) (gName 4))
 (tSeq (tAsg (tOp rMod (tCB rInt1 (tCons (tOp rAdd (tOp rAdd (tOp rMul (tVar 4) (tVar 4)) (tOp rMul (tOp (rGet K P w) (tVar 0) (tC (.int 2))) (tC (.int 31)))) (tOp (rGet K P w) (tVar 0) (tC (.int 3)))) tNil)) (tC (.int 1000003))) (gName 4))
 (tRet (tOp rMod (tCB rInt1 (tCons (tVar 4) tNil)) (tVar 1))))))))

def t__law_name (K : PySem.W.Frag) (P : Program) (w : World) (s__law_draw : Sp) : TS :=
 (tSeq (tAsg (tC (.str "abcdefghijklmnopqrstuvwxyz")) (gName 1))
 (tSeq (tAsg (tOp rAdd (tVar 1) (tC (.str "0123456789"))) (gName 2))
 (tSeq (tAsg (tCall s__law_draw [] E0 (tCons (tVar 0) (tCons (tC (.int 134784)) tNil))) (gName 3))
 (tSeq (tAsg (tOp (rGet K P w) (tVar 1) (tOp rMod (tCB rInt1 (tCons (tOp rFdiv (tVar 3) (tC (.int 4))) tNil)) (tC (.int 26)))) (gName 4))
 (tSeq (tAsg (tOp rAdd (tOp rAdd (tOp (rGet K P w) (tVar 2) (tOp rMod (tCB rInt1 (tCons (tOp rFdiv (tVar 3) (tC (.int 104))) tNil)) (tC (.int 36)))) (tOp (rGet K P w) (tVar 2) (tOp rMod (tCB rInt1 (tCons (tOp rFdiv (tVar 3) (tC (.int 3744))) tNil)) (tC (.int 36))))) (tOp (rGet K P w) (tVar 2) (tOp rMod (tCB rInt1 (tCons (tVar 3) tNil)) (tC (.int 35))))) (gName 5))
 (tSeq (tIfS (tTest (tOp (rEqZ K) (tCall s__law_draw [] E0 (tCons (tVar 0) (tCons (tC (.int 9)) tNil))) (tC (.int 8)))) (tAsg (tSl (rSl K) (tOp rAdd (tVar 4) (tOp rMul (tVar 5) (tC (.int 4)))) tNoPart (tPart (tOp rAdd (tC (.int 4)) (tCall s__law_draw [] E0 (tCons (tVar 0) (tCons (tC (.int 9)) tNil)))))) (gName 4)) (tAsg (tOp rAdd (tVar 4) (tSl (rSl K) (tVar 5) tNoPart (tPart (tOp rMod (tCB rInt1 (tCons (tVar 3) tNil)) (tC (.int 4)))))) (gName 4)))
 (tSeq (tIfS (tTest (tOp (rIn P w false) (tVar 4) (tLst (tCons (tC (.str "pact")) (tCons (tC (.str "end")) (tCons (tC (.str "choice")) (tCons (tC (.str "both")) (tCons (tC (.str "loop")) (tCons (tC (.str "use")) tNil))))))))) (tRet (tOp rAdd (tVar 4) (tC (.str "1")))) tNext)
 (tRet (tVar 4)))))))))

def t__law_names (K : PySem.W.Frag) (P : Program) (w : World) (s__law_name : Sp) : TS :=
 (tSeq (tAsg (tLst tNil) (gName 3))
 (tSeq (tFor (iRng1 (tCons (tVar 1) tNil)) (gName 4)
  (tSeq (tAsg (tCall s__law_name [] E0 (tCons (tVar 0) tNil)) (gName 5))
  (tSeq (tFor (iRng1 (tCons (tC (.int 20)) tNil)) (gName 6)
   (tIfS (tOr (tTest (tOp (rIn P w false) (tVar 5) (tVar 3))) (tTest (tOp (rIn P w false) (tVar 5) (tVar 2)))) (tAsg (tOp rAdd (tOp rAdd (tSl (rSl K) (tVar 5) tNoPart (tPart (tC (.int 9)))) (tC (.str "q"))) (tCB rStr1 (tCons (tVar 6) tNil))) (gName 5)) tNext))
  (tDrop (tBM K "list" rAppend (tVar 3) (tCons (tVar 5) tNil))))))
 (tRet (tVar 3))))

def t__law_table (K : PySem.W.Frag) (P : Program) (w : World) (s__law_draw : Sp) (s__law_edge : Sp) : TS :=
 (tSeq (tAsg (tLc (iRng1 (tCons (tVar 3) tNil)) (gName 5) tYes tDNew [5]) (gName 4))
 (tSeq (tFor (iRng1 (tCons (tOp rSub (tVar 3) (tC (.int 1))) tNil)) (gName 5)
  (tDrop (tCall s__law_edge [] E0 (tCons (tVar 0) (tCons (tOp (rGet K P w) (tVar 4) (tVar 5)) (tCons (tVar 1) (tCons (tVar 2) (tCons (tOp rAdd (tVar 5) (tC (.int 1))) tNil))))))))
 (tSeq (tFor (iRng1 (tCons (tCall s__law_draw [] E0 (tCons (tVar 0) (tCons (tOp rAdd (tOp rMul (tC (.int 2)) (tVar 3)) (tC (.int 1))) tNil))) tNil)) (gName 5)
  (tDrop (tCall s__law_edge [] E0 (tCons (tVar 0) (tCons (tOp (rGet K P w) (tVar 4) (tCall s__law_draw [] E0 (tCons (tVar 0) (tCons (tVar 3) tNil)))) (tCons (tVar 1) (tCons (tVar 2) (tCons (tCall s__law_draw [] E0 (tCons (tVar 0) (tCons (tVar 3) tNil))) tNil))))))))
 (tSeq (tAsg (tLc (iRng1 (tCons (tVar 3) tNil)) (gName 5) tYes (tOp (rEqZ K) (tCall s__law_draw [] E0 (tCons (tVar 0) (tCons (tC (.int 3)) tNil))) (tC (.int 0))) [5]) (gName 6))
 (tSeq (tAsg (tC (.bl true)) (gSub (tVar 6) (tOp rSub (tVar 3) (tC (.int 1))) (rSet P w)))
 (tRet (tTup (tCons (tC (.str "table")) (tCons (tCB (rTuple1 K) (tCons (tLc (iSeq K (tVar 4)) (gName 7) tYes (tCB (rTuple1 K) (tCons (tLc (iSeq K (tCB (rSorted K P w) (tCons (tVar 7) tNil))) (gName 8) tYes (tTup (tCons (tVar 8) (tCons (tOp (rGet K P w) (tVar 7) (tVar 8)) tNil))) [8]) tNil)) [7]) tNil)) (tCons (tCB (rTuple1 K) (tCons (tVar 6) tNil)) tNil))))))))))

def t__law_edge (K : PySem.W.Frag) (P : Program) (w : World) (s__law_draw : Sp) : TS :=
 (tSeq (tAsg (tCall s__law_draw [] E0 (tCons (tVar 0) (tCons (tCB (rLenA K P w) (tCons (tVar 2) tNil)) tNil))) (gName 5))
 (tSeq (tAsg (tOp rMod (tCB rInt1 (tCons (tOp rAdd (tOp rAdd (tVar 5) (tC (.int 1))) (tCall s__law_draw [] E0 (tCons (tVar 0) (tCons (tOp rSub (tCB (rLenA K P w) (tCons (tVar 2) tNil)) (tC (.int 1))) tNil)))) tNil)) (tCB (rLenA K P w) (tCons (tVar 2) tNil))) (gName 6))
 (tSeq (tAsg (tTup (tCons (tOp (rGet K P w) (tVar 2) (tVar 5)) (tCons (tOp (rGet K P w) (tVar 2) (tVar 6)) (tCons (tOp (rGet K P w) (tVar 3) (tCall s__law_draw [] E0 (tCons (tVar 0) (tCons (tCB (rLenA K P w) (tCons (tVar 3) tNil)) tNil)))) tNil)))) (gName 7))
 (tSeq (tFor (iSeq K (tVar 3)) (gName 8)
  (tIfS (tTest (tOp (rIn P w false) (tVar 7) (tVar 1))) (tAsg (tTup (tCons (tOp (rGet K P w) (tVar 7) (tC (.int 0))) (tCons (tOp (rGet K P w) (tVar 7) (tC (.int 1))) (tCons (tVar 8) tNil)))) (gName 7)) tNext))
 (tIfS (tTest (tOp (rIn P w true) (tVar 7) (tVar 1))) (tAsg (tVar 4) (gSub (tVar 1) (tVar 7) (rSet P w))) tNext)))))

def t__law_step (K : PySem.W.Frag) (P : Program) (w : World) : TS :=
 (tSeq (tFor (iSeq K (tOp (rGet K P w) (tOp (rGet K P w) (tVar 0) (tC (.int 1))) (tVar 1))) (gTup K 2 (gCons (gName 3) (gCons (gName 4) gNil)))
  (tIfS (tTest (tOp (rEqZ K) (tVar 3) (tVar 2))) (tRet (tVar 4)) tNext))
 (tRet (tC .non)))

def t__law_walk (K : PySem.W.Frag) (P : Program) (w : World) (s__law_step : Sp) : TS :=
 (tSeq (tAsg (tC (.int 0)) (gName 2))
 (tSeq (tFor (iSeq K (tVar 1)) (gName 3)
  (tIfS (tTest (tOp rNotN (tVar 2) (tC .non))) (tAsg (tCall s__law_step [] E0 (tCons (tVar 0) (tCons (tVar 2) (tCons (tVar 3) tNil)))) (gName 2)) tNext))
 (tRet (tVar 2))))

def t__law_view (K : PySem.W.Frag) (P : Program) (w : World) : TS :=
 (tRet (tLc (iSeq K (tVar 0)) (gName 2) (tTest (tOp (rIn P w false) (tVar 1) (tLst (tCons (tOp (rGet K P w) (tVar 2) (tC (.int 0))) (tCons (tOp (rGet K P w) (tVar 2) (tC (.int 1))) tNil))))) (tVar 2) [2]))

def t__law_conducted (K : PySem.W.Frag) (P : Program) (w : World) : TS :=
 (tSeq (tAsg (tLc (iSeq K (tOp (rGet K P w) (tVar 0) (tC (.int 1)))) (gName 11) tYes (tLst tNil) [11]) (gName 2))
 (tSeq (tAsg (tCB (rList1 K) (tCons (tOp (rGet K P w) (tVar 0) (tC (.int 2))) tNil)) (gName 3))
 (tSeq (tFor (iRng1 (tCons (tCB (rLenA K P w) (tCons (tOp (rGet K P w) (tVar 0) (tC (.int 1))) tNil)) tNil)) (gName 4)
  (tFor (iSeq K (tOp (rGet K P w) (tOp (rGet K P w) (tVar 0) (tC (.int 1))) (tVar 4))) (gTup K 2 (gCons (gName 5) (gCons (gName 6) gNil)))
   (tSeq (tAsg (tVar 5) (gTup K 3 (gCons (gName 7) (gCons (gName 8) (gCons (gName 9) gNil)))))
   (tSeq (tAsg (tCB (rLenA K P w) (tCons (tVar 2) tNil)) (gName 10))
   (tSeq (tDrop (tBM K "list" rAppend (tOp (rGet K P w) (tVar 2) (tVar 4)) (tCons (tTup (tCons (tTup (tCons (tVar 1) (tCons (tVar 7) (tCons (tOp rAdd (tOp rAdd (tVar 9) (tC (.str "."))) (tVar 8)) tNil)))) (tCons (tVar 10) tNil))) tNil)))
   (tSeq (tDrop (tBM K "list" rAppend (tVar 2) (tCons (tLst (tCons (tTup (tCons (tVar 5) (tCons (tOp rAdd (tVar 10) (tC (.int 1))) tNil))) tNil)) tNil)))
   (tSeq (tDrop (tBM K "list" rAppend (tVar 2) (tCons (tLst (tCons (tTup (tCons (tTup (tCons (tVar 8) (tCons (tVar 1) (tCons (tOp rAdd (tOp rAdd (tVar 9) (tC (.str "."))) (tVar 7)) tNil)))) (tCons (tVar 6) tNil))) tNil)) tNil)))
   (tAsg (tOp rAdd (tVar 3) (tLst (tCons (tC (.bl false)) (tCons (tC (.bl false)) tNil)))) (gName 3)))))))))
 (tRet (tTup (tCons (tC (.str "table")) (tCons (tCB (rTuple1 K) (tCons (tLc (iSeq K (tVar 2)) (gName 11) tYes (tCB (rTuple1 K) (tCons (tCB (rSorted K P w) (tCons (tVar 11) tNil)) tNil)) [11]) tNil)) (tCons (tCB (rTuple1 K) (tCons (tVar 3) tNil)) tNil))))))))

def t__law_beside (K : PySem.W.Frag) (P : Program) (w : World) : TS :=
 (tSeq (tAsg (tCB (rLenA K P w) (tCons (tOp (rGet K P w) (tVar 1) (tC (.int 1))) tNil)) (gName 2))
 (tSeq (tAsg (tLst tNil) (gName 3))
 (tSeq (tAsg (tLst tNil) (gName 4))
 (tSeq (tFor (iRng1 (tCons (tCB (rLenA K P w) (tCons (tOp (rGet K P w) (tVar 0) (tC (.int 1))) tNil)) tNil)) (gName 5)
  (tFor (iRng1 (tCons (tVar 2) tNil)) (gName 6)
   (tSeq (tAsg (tLc (iSeq K (tOp (rGet K P w) (tOp (rGet K P w) (tVar 0) (tC (.int 1))) (tVar 5))) (gTup K 2 (gCons (gName 8) (gCons (gName 9) gNil))) tYes (tTup (tCons (tVar 8) (tCons (tOp rAdd (tOp rMul (tVar 9) (tVar 2)) (tVar 6)) tNil))) [8, 9]) (gName 7))
   (tSeq (tDrop (tBM K "list" rAppend (tVar 3) (tCons (tCB (rTuple1 K) (tCons (tCB (rSorted K P w) (tCons (tOp rAdd (tVar 7) (tLc (iSeq K (tOp (rGet K P w) (tOp (rGet K P w) (tVar 1) (tC (.int 1))) (tVar 6))) (gTup K 2 (gCons (gName 8) (gCons (gName 9) gNil))) tYes (tTup (tCons (tVar 8) (tCons (tOp rAdd (tOp rMul (tVar 5) (tVar 2)) (tVar 9)) tNil))) [8, 9])) tNil)) tNil)) tNil)))
   (tDrop (tBM K "list" rAppend (tVar 4) (tCons (tAndV (tOp (rGet K P w) (tOp (rGet K P w) (tVar 0) (tC (.int 2))) (tVar 5)) (tOp (rGet K P w) (tOp (rGet K P w) (tVar 1) (tC (.int 2))) (tVar 6))) tNil)))))))
 (tRet (tTup (tCons (tC (.str "table")) (tCons (tCB (rTuple1 K) (tCons (tVar 3) tNil)) (tCons (tCB (rTuple1 K) (tCons (tVar 4) tNil)) tNil)))))))))

def t__law_accepted (K : PySem.W.Frag) (P : Program) (w : World) (s__law_beside : Sp) (s__law_conducted : Sp) (s__law_draw : Sp) (s__law_names : Sp) (s__law_table : Sp) : TS :=
 (tSeq (tAsg (tCall s__law_names [] E0 (tCons (tVar 0) (tCons (tC (.int 5)) (tCons (tLst tNil) tNil)))) (gName 1))
 (tSeq (tAsg (tCall s__law_names [] E0 (tCons (tVar 0) (tCons (tOp rAdd (tC (.int 1)) (tCall s__law_draw [] E0 (tCons (tVar 0) (tCons (tC (.int 3)) tNil)))) (tCons (tLst tNil) tNil)))) (gName 2))
 (tSeq (tAsg (tCall s__law_draw [] E0 (tCons (tVar 0) (tCons (tC (.int 4)) tNil))) (gName 3))
 (tSeq (tIfS (tTest (tOp (rEqZ K) (tVar 3) (tC (.int 0)))) (tRet (tCall s__law_table [] E0 (tCons (tVar 0) (tCons (tSl (rSl K) (tVar 1) tNoPart (tPart (tC (.int 2)))) (tCons (tVar 2) (tCons (tOp rAdd (tC (.int 1)) (tCall s__law_draw [] E0 (tCons (tVar 0) (tCons (tC (.int 6)) tNil)))) tNil)))))) tNext)
 (tSeq (tIfS (tTest (tOp (rEqZ K) (tVar 3) (tC (.int 1)))) (tSeq (tAsg (tCall s__law_table [] E0 (tCons (tVar 0) (tCons (tSl (rSl K) (tVar 1) tNoPart (tPart (tC (.int 2)))) (tCons (tVar 2) (tCons (tOp rAdd (tC (.int 1)) (tCall s__law_draw [] E0 (tCons (tVar 0) (tCons (tC (.int 3)) tNil)))) tNil))))) (gName 4))
  (tRet (tCall s__law_beside [] E0 (tCons (tVar 4) (tCons (tCall s__law_table [] E0 (tCons (tVar 0) (tCons (tSl (rSl K) (tVar 1) (tPart (tC (.int 2))) (tPart (tC (.int 4)))) (tCons (tVar 2) (tCons (tOp rAdd (tC (.int 1)) (tCall s__law_draw [] E0 (tCons (tVar 0) (tCons (tC (.int 3)) tNil)))) tNil))))) tNil))))) tNext)
 (tSeq (tAsg (tOp rAdd (tC (.int 2)) (tCB rInt1 (tCons (tOp (rEqZ K) (tVar 3) (tC (.int 3))) tNil))) (gName 5))
 (tRet (tCall s__law_conducted [] E0 (tCons (tCall s__law_table [] E0 (tCons (tVar 0) (tCons (tSl (rSl K) (tVar 1) tNoPart (tPart (tOp rAdd (tVar 5) (tC (.int 1))))) (tCons (tVar 2) (tCons (tOp rAdd (tC (.int 1)) (tCall s__law_draw [] E0 (tCons (tVar 0) (tCons (tC (.int 4)) tNil)))) tNil))))) (tCons (tOp (rGet K P w) (tVar 1) (tC (.int 4))) tNil))))))))))

def t__law_unseen (K : PySem.W.Frag) (P : Program) (w : World) : TS :=
 (tSeq (tAsg (tLst tNil) (gName 3))
 (tSeq (tAsg (tCB (rList1 K) (tCons (tVar 1) tNil)) (gName 4))
 (tSeq (tFor (iRng1 (tCons (tC (.int 100000)) tNil)) (gName 5)
  (tSeq (tIfS (tNot (tTru K (tVar 4))) (tRet (tCB (rSorted K P w) (tCons (tVar 3) tNil))) tNext)
  (tSeq (tAsg (tBM0 K "list" rPop (tVar 4)) (gName 6))
  (tIfS (tTest (tOp (rIn P w true) (tVar 6) (tVar 3))) (tSeq (tDrop (tBM K "list" rAppend (tVar 3) (tCons (tVar 6) tNil)))
   (tFor (iSeq K (tOp (rGet K P w) (tOp (rGet K P w) (tVar 0) (tC (.int 1))) (tVar 6))) (gTup K 2 (gCons (gName 7) (gCons (gName 8) gNil)))
    (tIfS (tTest (tOp (rIn P w true) (tVar 2) (tLst (tCons (tOp (rGet K P w) (tVar 7) (tC (.int 0))) (tCons (tOp (rGet K P w) (tVar 7) (tC (.int 1))) tNil))))) (tDrop (tBM K "list" rAppend (tVar 4) (tCons (tVar 8) tNil))) tNext))) tNext))))
 (tRet (tCB (rSorted K P w) (tCons (tVar 3) tNil))))))

def t__law_seen (K : PySem.W.Frag) (P : Program) (w : World) (s__law_step : Sp) (s__law_unseen : Sp) : TS :=
 (tSeq (tAsg (tLst tNil) (gName 4))
 (tSeq (tFor (iSeq K (tVar 1)) (gName 5)
  (tSeq (tAsg (tCall s__law_step [] E0 (tCons (tVar 0) (tCons (tVar 5) (tCons (tVar 3) tNil)))) (gName 6))
  (tIfS (tTest (tOp rNotN (tVar 6) (tC .non))) (tDrop (tBM K "list" rAppend (tVar 4) (tCons (tVar 6) tNil))) tNext)))
 (tRet (tCall s__law_unseen [] E0 (tCons (tVar 0) (tCons (tVar 4) (tCons (tVar 2) tNil)))))))

def t__law_parties (K : PySem.W.Frag) (P : Program) (w : World) : TS :=
 (tSeq (tAsg (tLst tNil) (gName 1))
 (tSeq (tFor (iSeq K (tOp (rGet K P w) (tVar 0) (tC (.int 1)))) (gName 2)
  (tFor (iSeq K (tVar 2)) (gTup K 2 (gCons (gName 3) (gCons (gName 4) gNil)))
   (tFor (iSeq K (tLst (tCons (tOp (rGet K P w) (tVar 3) (tC (.int 0))) (tCons (tOp (rGet K P w) (tVar 3) (tC (.int 1))) tNil)))) (gName 5)
    (tIfS (tTest (tOp (rIn P w true) (tVar 5) (tVar 1))) (tDrop (tBM K "list" rAppend (tVar 1) (tCons (tVar 5) tNil))) tNext))))
 (tRet (tCB (rSorted K P w) (tCons (tVar 1) tNil)))))

def t__law_same_view (K : PySem.W.Frag) (P : Program) (w : World) (s__law_view : Sp) : TS :=
 (tRet (tOp (rEqZ K) (tCall s__law_view [] E0 (tCons (tVar 0) (tCons (tVar 2) tNil))) (tCall s__law_view [] E0 (tCons (tVar 1) (tCons (tVar 2) tNil)))))

def t__law_goes (K : PySem.W.Frag) (P : Program) (w : World) (s__law_walk : Sp) : TS :=
 (tRet (tOp rNotN (tCall s__law_walk [] E0 (tCons (tVar 0) (tCons (tOp rAdd (tCB (rList1 K) (tCons (tVar 1) tNil)) (tLst (tCons (tVar 2) tNil))) tNil))) (tC .non)))

def t__law_holds (K : PySem.W.Frag) (P : Program) (w : World) (s__law_goes : Sp) (s__law_parties : Sp) (s__law_same_view : Sp) (s__law_walk : Sp) : TS :=
 (tSeq (tIfS (tOr (tNot (tB (tCB (rIsi K) (tCons (tVar 1) (tCons (tC (.ty "tuple")) tNil))))) (tTest (tOp (rIn P w true) (tOp (rGet K P w) (tVar 1) (tC (.int 0))) (tLst (tCons (tC (.str "stray")) (tCons (tC (.str "idle")) (tCons (tC (.str "unready")) tNil))))))) (tRet (tC (.bl false))) tNext)
 (tSeq (tAsg (tOp (rGet K P w) (tVar 1) (tC (.int 1))) (gName 2))
 (tSeq (tAsg (tCall s__law_walk [] E0 (tCons (tVar 0) (tCons (tVar 2) tNil))) (gName 3))
 (tSeq (tIfS (tTest (tOp rIsN (tVar 3) (tC .non))) (tRet (tC (.bl false))) tNext)
 (tSeq (tIfS (tTest (tOp (rEqZ K) (tOp (rGet K P w) (tVar 1) (tC (.int 0))) (tC (.str "idle")))) (tSeq (tAsg (tLc (iSeq K (tOp (rGet K P w) (tOp (rGet K P w) (tVar 0) (tC (.int 1))) (tVar 3))) (gTup K 2 (gCons (gName 8) (gCons (gName 7) gNil))) tYes (tOp (rGet K P w) (tVar 8) (tC (.int 0))) [8, 7]) (gName 4))
  (tSeq (tIfS (tOr (tB (tOp (rGet K P w) (tOp (rGet K P w) (tVar 0) (tC (.int 2))) (tVar 3))) (tTest (tOp rNeA (tLc (iSeq K (tOp (rGet K P w) (tVar 1) (tC (.int 2)))) (gName 6) tYes (tOp (rGet K P w) (tVar 6) (tC (.int 0))) [6]) (tCB (rSorted K P w) (tCons (tLc (iSeq K (tCall s__law_parties [] E0 (tCons (tVar 0) tNil))) (gName 10) (tTest (tOp (rIn P w false) (tVar 10) (tVar 4))) (tVar 10) [10]) tNil))))) (tRet (tC (.bl false))) tNext)
  (tSeq (tFor (iSeq K (tOp (rGet K P w) (tVar 1) (tC (.int 2)))) (gTup K 2 (gCons (gName 5) (gCons (gName 6) gNil)))
   (tSeq (tAsg (tCall s__law_walk [] E0 (tCons (tVar 0) (tCons (tVar 6) tNil))) (gName 7))
   (tIfS (tOr (tTest (tOp rIsN (tVar 7) (tC .non))) (tOr (tNot (tB (tOp (rGet K P w) (tOp (rGet K P w) (tVar 0) (tC (.int 2))) (tVar 7)))) (tNot (tB (tCall s__law_same_view [] E0 (tCons (tVar 2) (tCons (tVar 6) (tCons (tVar 5) tNil)))))))) (tRet (tC (.bl false))) tNext)))
  (tRet (tC (.bl true)))))) tNext)
 (tSeq (tAsg (tOp (rGet K P w) (tVar 1) (tC (.int 2))) (gName 8))
 (tSeq (tIfS (tB (tCall s__law_goes [] E0 (tCons (tVar 0) (tCons (tVar 2) (tCons (tVar 8) tNil))))) (tRet (tC (.bl false))) tNext)
 (tSeq (tFor (iRng2 (tCons (tC (.int 3)) (tCons (tCB (rLenA K P w) (tCons (tVar 1) tNil)) tNil))) (gName 9)
  (tIfS (tOr (tNot (tB (tCall s__law_same_view [] E0 (tCons (tVar 2) (tCons (tOp (rGet K P w) (tVar 1) (tVar 9)) (tCons (tOp (rGet K P w) (tVar 8) (tOp rSub (tVar 9) (tC (.int 3)))) tNil)))))) (tNot (tB (tCall s__law_goes [] E0 (tCons (tVar 0) (tCons (tOp (rGet K P w) (tVar 1) (tVar 9)) (tCons (tVar 8) tNil))))))) (tRet (tC (.bl false))) tNext))
 (tRet (tOp (rEqZ K) (tCB (rLenA K P w) (tCons (tVar 1) tNil)) (tOp (rGet K P w) (tLst (tCons (tC (.int 5)) (tCons (tC (.int 4)) tNil))) (tCB rInt1 (tCons (tOp (rEqZ K) (tOp (rGet K P w) (tVar 1) (tC (.int 0))) (tC (.str "unready"))) tNil)))))))))))))

def t__law_sights (K : PySem.W.Frag) (P : Program) (w : World) (s__law_seen : Sp) : TS :=
 (tSeq (tAsg (tLst tNil) (gName 4))
 (tSeq (tFor (iRng1 (tCons (tCB (rLenA K P w) (tCons (tVar 1) tNil)) tNil)) (gName 5)
  (tIfS (tTest (tOp (rIn P w false) (tOp (rGet K P w) (tVar 1) (tVar 5)) (tLst (tCons (tOp (rGet K P w) (tVar 3) (tC (.int 0))) (tCons (tOp (rGet K P w) (tVar 3) (tC (.int 1))) tNil))))) (tDrop (tBM K "list" rAppend (tVar 4) (tCons (tCall s__law_seen [] E0 (tCons (tVar 0) (tCons (tOp (rGet K P w) (tVar 2) (tVar 5)) (tCons (tOp (rGet K P w) (tVar 1) (tVar 5)) (tCons (tVar 3) tNil))))) tNil))) (tDrop (tBM K "list" rAppend (tVar 4) (tCons (tOp (rGet K P w) (tVar 2) (tVar 5)) tNil)))))
 (tRet (tVar 4))))

def t__law_offers (K : PySem.W.Frag) (P : Program) (w : World) : TS :=
 (tSeq (tAsg (tLst tNil) (gName 3))
 (tSeq (tFor (iRng1 (tCons (tCB (rLenA K P w) (tCons (tVar 1) tNil)) tNil)) (gName 4)
  (tFor (iSeq K (tOp (rGet K P w) (tVar 2) (tVar 4))) (gName 5)
   (tFor (iSeq K (tOp (rGet K P w) (tOp (rGet K P w) (tVar 0) (tC (.int 1))) (tVar 5))) (gTup K 2 (gCons (gName 6) (gCons (gName 7) gNil)))
    (tIfS (tAnd (tTest (tOp (rEqZ K) (tOp (rGet K P w) (tVar 6) (tC (.int 0))) (tOp (rGet K P w) (tVar 1) (tVar 4)))) (tTest (tOp (rIn P w true) (tVar 6) (tVar 3)))) (tDrop (tBM K "list" rAppend (tVar 3) (tCons (tVar 6) tNil))) tNext))))
 (tRet (tVar 3))))

def t__law_has (K : PySem.W.Frag) (P : Program) (w : World) (s__law_step : Sp) : TS :=
 (tSeq (tAsg (tOp (rGet K P w) (tVar 2) (tBM K "list" (rIndex K) (tVar 1) (tCons (tVar 3) tNil))) (gName 5))
 (tRet (tOp rGt (tCB (rLenA K P w) (tCons (tLc (iSeq K (tVar 5)) (gName 6) (tTest (tOp rNotN (tCall s__law_step [] E0 (tCons (tVar 0) (tCons (tVar 6) (tCons (tVar 4) tNil)))) (tC .non))) (tVar 6) [6]) tNil)) (tC (.int 0)))))

def t__law_fault (K : PySem.W.Frag) (P : Program) (w : World) (s__law_has : Sp) (s__law_offers : Sp) (s__law_step : Sp) : TS :=
 (tSeq (tFor (iSeq K (tCall s__law_offers [] E0 (tCons (tVar 0) (tCons (tVar 1) (tCons (tVar 3) tNil))))) (gName 5)
  (tIfS (tTest (tOp rIsN (tCall s__law_step [] E0 (tCons (tVar 0) (tCons (tVar 2) (tCons (tVar 5) tNil)))) (tC .non))) (tIfS (tOr (tTest (tOp (rEqZ K) (tVar 4) (tC (.str "unready")))) (tB (tCall s__law_has [] E0 (tCons (tVar 0) (tCons (tVar 1) (tCons (tVar 3) (tCons (tOp (rGet K P w) (tVar 5) (tC (.int 1))) (tCons (tVar 5) tNil)))))))) (tRet (tC (.bl true))) tNext) tNext))
 (tSeq (tIfS (tOr (tTest (tOp (rEqZ K) (tVar 4) (tC (.str "unready")))) (tB (tOp (rGet K P w) (tOp (rGet K P w) (tVar 0) (tC (.int 2))) (tVar 2)))) (tRet (tC (.bl false))) tNext)
 (tSeq (tAsg (tLc (iSeq K (tOp (rGet K P w) (tOp (rGet K P w) (tVar 0) (tC (.int 1))) (tVar 2))) (gTup K 2 (gCons (gName 5) (gCons (gName 8) gNil))) tYes (tOp (rGet K P w) (tVar 5) (tC (.int 0))) [5, 8]) (gName 6))
 (tSeq (tFor (iRng1 (tCons (tCB (rLenA K P w) (tCons (tVar 1) tNil)) tNil)) (gName 7)
  (tIfS (tAnd (tTest (tOp (rIn P w false) (tOp (rGet K P w) (tVar 1) (tVar 7)) (tVar 6))) (tTest (tOp (rEqZ K) (tCB (rLenA K P w) (tCons (tLc (iSeq K (tOp (rGet K P w) (tVar 3) (tVar 7))) (gName 9) (tB (tOp (rGet K P w) (tOp (rGet K P w) (tVar 0) (tC (.int 2))) (tVar 9))) (tVar 9) [9]) tNil)) (tC (.int 0))))) (tRet (tC (.bl false))) tNext))
 (tRet (tC (.bl true)))))))

def t__law_explored (K : PySem.W.Frag) (P : Program) (w : World) (s__law_parties : Sp) (s__law_sights : Sp) (s__law_unseen : Sp) : TS :=
 (tSeq (tAsg (tCall s__law_parties [] E0 (tCons (tVar 0) tNil)) (gName 1))
 (tSeq (tAsg (tLst (tCons (tTup (tCons (tC (.int 0)) (tCons (tLc (iSeq K (tVar 1)) (gName 11) tYes (tCall s__law_unseen [] E0 (tCons (tVar 0) (tCons (tLst (tCons (tC (.int 0)) tNil)) (tCons (tVar 11) tNil)))) [11]) tNil))) tNil)) (gName 2))
 (tSeq (tAsg (tDispN P w (tTup (tCons (tC (.int 0)) (tCons (tCB (rTuple1 K) (tCons (tLc (iSeq K (tOp (rGet K P w) (tOp (rGet K P w) (tVar 2) (tC (.int 0))) (tC (.int 1)))) (gName 12) tYes (tCB (rTuple1 K) (tCons (tVar 12) tNil)) [12]) tNil)) tNil))) (tC (.bl true))) (gName 3))
 (tSeq (tFor (iRng1 (tCons (tC (.int 3001)) tNil)) (gName 4)
  (tSeq (tIfS (tTest (tOp rGe (tVar 4) (tCB (rLenA K P w) (tCons (tVar 2) tNil)))) (tRet (tVar 2)) tNext)
  (tSeq (tAsg (tOp (rGet K P w) (tVar 2) (tVar 4)) (gTup K 2 (gCons (gName 5) (gCons (gName 6) gNil))))
  (tFor (iSeq K (tOp (rGet K P w) (tOp (rGet K P w) (tVar 0) (tC (.int 1))) (tVar 5))) (gTup K 2 (gCons (gName 7) (gCons (gName 8) gNil)))
   (tSeq (tAsg (tCall s__law_sights [] E0 (tCons (tVar 0) (tCons (tVar 1) (tCons (tVar 6) (tCons (tVar 7) tNil))))) (gName 9))
   (tSeq (tAsg (tTup (tCons (tVar 8) (tCons (tCB (rTuple1 K) (tCons (tLc (iSeq K (tVar 9)) (gName 12) tYes (tCB (rTuple1 K) (tCons (tVar 12) tNil)) [12]) tNil)) tNil))) (gName 10))
   (tIfS (tTest (tOp (rIn P w true) (tVar 10) (tVar 3))) (tSeq (tAsg (tC (.bl true)) (gSub (tVar 3) (tVar 10) (rSet P w)))
    (tDrop (tBM K "list" rAppend (tVar 2) (tCons (tTup (tCons (tVar 8) (tCons (tVar 9) tNil))) tNil)))) tNext)))))))
 (tRet (tC .non))))))

def t__law_faulty (K : PySem.W.Frag) (P : Program) (w : World) (s__law_fault : Sp) (s__law_parties : Sp) : TS :=
 (tSeq (tAsg (tCall s__law_parties [] E0 (tCons (tVar 0) tNil)) (gName 3))
 (tRet (tOp rGt (tCB (rLenA K P w) (tCons (tLc (iSeq K (tVar 1)) (gTup K 2 (gCons (gName 4) (gCons (gName 5) gNil))) (tB (tCall s__law_fault [] E0 (tCons (tVar 0) (tCons (tVar 3) (tCons (tVar 4) (tCons (tVar 5) (tCons (tVar 2) tNil))))))) (tC (.int 1)) [4, 5]) tNil)) (tC (.int 0)))))

def t__law_told (K : PySem.W.Frag) (P : Program) (w : World) (C : Addr) (s_unready : Sp) : TS :=
 (tTry K C (fun W => (tRet (tTup (tCons (tC (.str "told")) (tCons (tCallS s_unready (WE W) (tCons (tVar 0) tNil)) tNil))))) (fun _ _ _ => (tRet (tC .non))))

def t_law (K : PySem.W.Frag) (P : Program) (w : World) (s__law_accepted : Sp) (s__law_draw : Sp) (s__law_explored : Sp) (s__law_faulty : Sp) (s__law_holds : Sp) (s__law_names : Sp) (s__law_state : Sp) (s__law_table : Sp) (s__law_told : Sp) : TS :=
 (tSeq (tAsg (tCall s__law_state [] E0 (tCons (tVar 0) tNil)) (gName 1))
 (tSeq (tIfS (tTest (tOp (rEqZ K) (tCall s__law_draw [] E0 (tCons (tVar 1) (tCons (tC (.int 4)) tNil))) (tC (.int 0)))) (tSeq (tAsg (tCall s__law_accepted [] E0 (tCons (tVar 1) tNil)) (gName 2))
  (tSeq (tAsg (tCall s__law_told [] E0 (tCons (tVar 2) tNil)) (gName 3))
  (tRet (tOrV (tOp (rEqZ K) (tVar 3) (tTup (tCons (tC (.str "told")) (tCons (tC .non) tNil)))) (tAndV (tOp rIsN (tVar 3) (tC .non)) (tOp rIsN (tCall s__law_explored [] E0 (tCons (tVar 2) tNil)) (tC .non))))))) tNext)
 (tSeq (tAsg (tCall s__law_names [] E0 (tCons (tVar 1) (tCons (tOp rAdd (tC (.int 2)) (tCall s__law_draw [] E0 (tCons (tVar 1) (tCons (tC (.int 3)) tNil)))) (tCons (tLst tNil) tNil)))) (gName 4))
 (tSeq (tAsg (tCall s__law_table [] E0 (tCons (tVar 1) (tCons (tVar 4) (tCons (tCall s__law_names [] E0 (tCons (tVar 1) (tCons (tOp rAdd (tC (.int 1)) (tCall s__law_draw [] E0 (tCons (tVar 1) (tCons (tC (.int 2)) tNil)))) (tCons (tLst tNil) tNil)))) (tCons (tOp rAdd (tC (.int 1)) (tCall s__law_draw [] E0 (tCons (tVar 1) (tCons (tC (.int 5)) tNil)))) tNil))))) (gName 2))
 (tSeq (tAsg (tCall s__law_explored [] E0 (tCons (tVar 2) tNil)) (gName 5))
 (tSeq (tAsg (tCall s__law_told [] E0 (tCons (tVar 2) tNil)) (gName 3))
 (tSeq (tIfS (tTest (tOp rIsN (tVar 5) (tC .non))) (tRet (tC (.bl true))) tNext)
 (tSeq (tIfS (tTest (tOp rIsN (tVar 3) (tC .non))) (tRet (tC (.bl false))) tNext)
 (tSeq (tAsg (tOp (rGet K P w) (tVar 3) (tC (.int 1))) (gName 6))
 (tSeq (tIfS (tB (tCall s__law_faulty [] E0 (tCons (tVar 2) (tCons (tVar 5) (tCons (tC (.str "unready")) tNil))))) (tRet (tAndV (tCB (rIsi K) (tCons (tVar 6) (tCons (tC (.ty "tuple")) tNil))) (tAndV (tOp (rEqZ K) (tOp (rGet K P w) (tVar 6) (tC (.int 0))) (tC (.str "unready"))) (tCall s__law_holds [] E0 (tCons (tVar 2) (tCons (tVar 6) tNil)))))) tNext)
 (tRet (tOp rIsN (tVar 6) (tC .non)))))))))))))

end N
set_option Elab.async false
set_option linter.all false
set_option maxRecDepth 100000
set_option maxHeartbeats 4000000
namespace N
open PySem PySem.Spec PyProof.Rows L2
section
variable {P : Program} {w : World} {G : Hp} {s : AS} {K : AK} {KF : PySem.W.Frag} {g : TG} {tb : TS} {α : Type}
/-- for over a tuple of data -/
theorem as_forT {tl : TE} (h : AE P w G tl s fun r s1 => ∃ (l : List α) (f : α → D), r = .dat (.tuple (l.map f)) ∧ ∃ I : Nat → AS → Prop, I 0 s1 ∧
    (∀ i x s, l[i]? = some x → I i s → AG P w G g (.dat (f x)) s fun s2 => AST P w G tb s2 ⟨I (i + 1), K.rt, K.nx, I (i + 1)⟩) ∧ (∀ s, I l.length s → K.nx s)) : AST P w G (tFor (iSeq KF tl) g tb) s K := by
  refine as_for (ai_tup (h.mono fun r s1 ⟨l, f, e, I, h0, hs, hf⟩ => ⟨l.map f, e, I, h0, fun _ _ _ _ => True.intro, fun i r s hr hi => ?_, fun s hi => hf s (by simpa using hi)⟩))
  obtain ⟨d, hd, rfl⟩ := map_get hr
  obtain ⟨x, hx, rfl⟩ := map_get hd
  exact hs i x s hx hi
theorem as_forL {tl : TE} (h : AE P w G tl s fun r s1 => ∃ (l : List α) (f : α → D), r = .dat (.list (l.map f)) ∧ ∃ I : Nat → AS → Prop, I 0 s1 ∧
    (∀ i x s, l[i]? = some x → I i s → AG P w G g (.dat (f x)) s fun s2 => AST P w G tb s2 ⟨I (i + 1), K.rt, K.nx, I (i + 1)⟩) ∧ (∀ s, I l.length s → K.nx s)) : AST P w G (tFor (iSeq KF tl) g tb) s K := by
  refine as_for (ai_lst (h.mono fun r s1 ⟨l, f, e, I, h0, hs, hf⟩ => ⟨l.map f, e, I, h0, fun _ _ _ _ => True.intro, fun i r s hr hi => ?_, fun s hi => hf s (by simpa using hi)⟩))
  obtain ⟨d, hd, rfl⟩ := map_get hr
  obtain ⟨x, hx, rfl⟩ := map_get hd
  exact hs i x s hx hi
theorem as_forR {ta : TA} (h : AA P w G ta s fun xs s1 => ∃ n : Nat, xs = [.dat (.int n)] ∧ (n : Int) < 2 ^ 62 ∧ ∃ I : Nat → AS → Prop, I 0 s1 ∧
    (∀ (i : Nat) s, i < n → I i s → AG P w G g (.dat (.int (i : Nat))) s fun s2 => AST P w G tb s2 ⟨I (i + 1), K.rt, K.nx, I (i + 1)⟩) ∧ (∀ s, I n s → K.nx s)) : AST P w G (tFor (iRng1 ta) g tb) s K := by
  refine as_for (ai_rng1 (h.mono fun xs s1 ⟨n, e, hn, I, h0, hs, hf⟩ => ⟨n, e, hn, I, h0, fun _ _ _ _ => True.intro, fun i r s hr hi => ?_, fun s hi => hf s (by simpa using hi)⟩))
  obtain ⟨j, hj, rfl⟩ := map_get hr
  obtain ⟨hl, e⟩ := List.getElem?_eq_some_iff.mp hj
  rw [List.length_range] at hl
  rw [List.getElem_range] at e
  subst e
  exact hs _ s hl hi
theorem as_forE {ta : TA} (h : AA P w G ta s fun xs s1 => ∃ (l : List α) (f : α → D), xs = [.dat (.tuple (l.map f))] ∧ ∃ I : Nat → AS → Prop, I 0 s1 ∧
    (∀ (i : Nat) x s, l[i]? = some x → I i s → AG P w G g (.dat (.tuple [.int (i : Nat), f x])) s fun s2 => AST P w G tb s2 ⟨I (i + 1), K.rt, K.nx, I (i + 1)⟩) ∧ (∀ s, I l.length s → K.nx s)) : AST P w G (tFor (iEnumA KF ta) g tb) s K := by
  refine as_for (ai_enumT (h.mono fun xs s1 ⟨l, f, e, I, h0, hs, hf⟩ => ⟨l.map f, e, I, h0, fun _ _ _ _ => True.intro, fun i r s hr hi => ?_, fun s hi => hf s (by simpa using hi)⟩))
  obtain ⟨p, hp, rfl⟩ := map_get hr
  rw [List.getElem?_zipIdx, List.getElem?_map] at hp
  cases hx : l[i]? with
  | none => rw [hx] at hp; cases hp
  | some x =>
    rw [hx] at hp
    have hp' : p = (f x, 0 + i) := (Option.some.inj hp).symm
    subst hp'
    rw [Nat.zero_add] at *
    exact hs i x s hx hi
theorem as_forD {td : TE} (h : AE P w G td s fun r s1 => ∃ ks : List (Key × D), r = .dat (.dict (dkD ks)) ∧ ∃ I : Nat → AS → Prop, I 0 s1 ∧
    (∀ i p s, ks[i]? = some p → I i s → AG P w G g (.dat (kD p.1)) s fun s2 => AST P w G tb s2 ⟨I (i + 1), K.rt, K.nx, I (i + 1)⟩) ∧ (∀ s, I ks.length s → K.nx s)) : AST P w G (tFor (iKeysA td) g tb) s K := by
  refine as_for (ai_keysK (h.mono fun r s1 ⟨l, e, I, h0, hs, hf⟩ => ⟨l, e, I, h0, fun _ _ _ _ => True.intro, fun i r s hr hi => ?_, fun s hi => hf s (by simpa using hi)⟩))
  obtain ⟨x, hx, rfl⟩ := map_get hr
  exact hs i x s hx hi
theorem as_forDE {ta : TA} (h : AA P w G ta s fun xs s1 => ∃ ks : List (Key × D), xs = [.dat (.dict (dkD ks))] ∧ ∃ I : Nat → AS → Prop, I 0 s1 ∧
    (∀ (i : Nat) p s, ks[i]? = some p → I i s → AG P w G g (.dat (.tuple [.int (i : Nat), kD p.1])) s fun s2 => AST P w G tb s2 ⟨I (i + 1), K.rt, K.nx, I (i + 1)⟩) ∧ (∀ s, I ks.length s → K.nx s)) : AST P w G (tFor (iEnumA KF ta) g tb) s K := by
  refine as_for (ai_enumK (h.mono fun xs s1 ⟨l, e, I, h0, hs, hf⟩ => ⟨l, e, I, h0, fun _ _ _ _ => True.intro, fun i r s hr hi => ?_, fun s hi => hf s (by simpa using hi)⟩))
  obtain ⟨p, hp, rfl⟩ := map_get hr
  rw [List.getElem?_zipIdx] at hp
  cases hx : l[i]? with
  | none => rw [hx] at hp; cases hp
  | some x =>
    rw [hx] at hp
    have hp' : p = (x, 0 + i) := (Option.some.inj hp).symm
    subst hp'
    rw [Nat.zero_add] at *
    exact hs i x s hx hi
theorem ag_pair {K : AS → Prop} {n m : Nat} {x y : D} (k : K { s with sl := (s.sl.set n (some (.dat x))).set m (some (.dat y)) }) : AG P w G (gTup KF 2 (gCons (gName n) (gCons (gName m) gNil))) (.dat (.tuple [x, y])) s K :=
  ag_tup rfl (ags_cons (ag_name (ags_cons (ag_name (ags_nil k)))))
theorem ag_three {K : AS → Prop} {n m j : Nat} {x y z : D} (k : K { s with sl := ((s.sl.set n (some (.dat x))).set m (some (.dat y))).set j (some (.dat z)) }) : AG P w G (gTup KF 3 (gCons (gName n) (gCons (gName m) (gCons (gName j) gNil)))) (.dat (.tuple [x, y, z])) s K :=
  ag_tup rfl (ags_cons (ag_name (ags_cons (ag_name (ags_cons (ag_name (ags_nil k)))))))
theorem agc_pair {K : AS → Prop} {vs : List Nat} {n m : Nat} {x y : D} (hn : n ∈ vs) (hm : m ∈ vs) (k : K { s with sl := (s.sl.set n (some (.dat x))).set m (some (.dat y)) }) : AGc P w G vs (gTup KF 2 (gCons (gName n) (gCons (gName m) gNil))) (.dat (.tuple [x, y])) s K :=
  agc_tup rfl (agcs_cons (agc_name hn (agcs_cons (agc_name hm (agcs_nil k)))))
end
/-! ### list comprehensions of data over typed lists -/
section
variable {P : Program} {w : World} {G : Hp} {s : AS} {K : Rf → AS → Prop} {KF : PySem.W.Frag} {g : TG} {tt : TT} {te : TE} {vs : List Nat} {α : Type}
/-- what the turn of a comprehension does -/
def LcB (P : Program) (w : World) (G : Hp) (vs : List Nat) (g : TG) (tt : TT) (te : TE) (s1 : AS) (d : D) (o : Option D) : Prop := ∀ acc, AGc P w G vs g (.dat d) ⟨wipeA s1.sl vs, s1.m ++ [.lst acc]⟩ fun s3 => AT P w G tt s3 fun b s4 => (b = true → AE P w G te s4 fun y s5 => s5.m = s1.m ++ [.lst acc] ∧ wipeA s5.sl vs = wipeA s1.sl vs ∧ ∃ d, o = some d ∧ y = .dat d) ∧
      (b = false → s4.m = s1.m ++ [.lst acc] ∧ wipeA s4.sl vs = wipeA s1.sl vs ∧ o = none)
theorem fm_range {l : List α} {o : α → Option D} : (List.range l.length).filterMap (fun i => (l[i]?).bind o) = l.filterMap o := by
  induction l with
  | nil => rfl
  | cons x l ih =>
    rw [List.length_cons, List.range_succ_eq_map, List.filterMap_cons, List.filterMap_map]
    have e : ((fun i => ((x :: l)[i]?).bind o) ∘ Nat.succ) = fun i => (l[i]?).bind o := by
      funext i
      simp
    rw [e, ih, List.filterMap_cons]
    simp
theorem lc_go {l : List α} {f : α → D} {o : α → Option D} {s1 : AS} (hb : ∀ (i : Nat) x, l[i]? = some x → LcB P w G vs g tt te s1 (f x) (o x)) : ∀ (i : Nat) (r : Rf) (acc : List Rf), ((l.map f).map Rf.dat)[i]? = some r → AGc P w G vs g r ⟨wipeA s1.sl vs, s1.m ++ [.lst acc]⟩ fun s3 => AT P w G tt s3 fun b s4 => (b = true → AE P w G te s4 fun y s5 => s5.m = s1.m ++ [.lst acc] ∧ wipeA s5.sl vs = wipeA s1.sl vs ∧ ∃ d, (l[i]?).bind o = some d ∧ y = .dat d) ∧
      (b = false → s4.m = s1.m ++ [.lst acc] ∧ wipeA s4.sl vs = wipeA s1.sl vs ∧ (l[i]?).bind o = none) := by
  intro i r acc hr
  obtain ⟨d, hd, rfl⟩ := map_get hr
  obtain ⟨x, hx, rfl⟩ := map_get hd
  rw [hx]
  exact hb i x hx acc
theorem ae_lcT {tl : TE} (h : AE P w G tl s fun r s1 => ∃ (l : List α) (f : α → D) (o : α → Option D), r = .dat (.tuple (l.map f)) ∧ l.length ≤ sizeLine ∧ (∀ (i : Nat) x, l[i]? = some x → LcB P w G vs g tt te s1 (f x) (o x)) ∧ K (.dat (.list (l.filterMap o))) s1) : AE P w G (tLc (iSeq KF tl) g tt te vs) s K := by
  refine ae_lcD (ai_tup (h.mono fun r s1 ⟨l, f, o, e, hz, hb, k⟩ => ⟨l.map f, e, fun i => (l[i]?).bind o, fun _ => True.intro, by simpa using hz, lc_go hb, ?_⟩))
  rw [List.length_map, List.length_map, fm_range]
  exact k
theorem ae_lcL {tl : TE} (h : AE P w G tl s fun r s1 => ∃ (l : List α) (f : α → D) (o : α → Option D), r = .dat (.list (l.map f)) ∧ l.length ≤ sizeLine ∧ (∀ (i : Nat) x, l[i]? = some x → LcB P w G vs g tt te s1 (f x) (o x)) ∧ K (.dat (.list (l.filterMap o))) s1) : AE P w G (tLc (iSeq KF tl) g tt te vs) s K := by
  refine ae_lcD (ai_lst (h.mono fun r s1 ⟨l, f, o, e, hz, hb, k⟩ => ⟨l.map f, e, fun i => (l[i]?).bind o, fun _ => True.intro, by simpa using hz, lc_go hb, ?_⟩))
  rw [List.length_map, List.length_map, fm_range]
  exact k
/-- over a list of one's own that holds data -/
theorem ae_lcO {tl : TE} (h : AE P w G tl s fun r s1 => ∃ (j : Nat) (l : List α) (f : α → D) (o : α → Option D), r = .own j ∧ s1.m[j]? = some (.lst ((l.map f).map .dat)) ∧ l.length ≤ sizeLine ∧ (∀ (i : Nat) x, l[i]? = some x → LcB P w G vs g tt te s1 (f x) (o x)) ∧ K (.dat (.list (l.filterMap o))) s1) : AE P w G (tLc (iSeq KF tl) g tt te vs) s K := by
  refine ae_lcD (ai_own (h.mono fun r s1 ⟨j, l, f, o, e, hm, hz, hb, k⟩ => ⟨j, (l.map f).map .dat, e, hm, fun i => (l[i]?).bind o, fun acc => ?_, by simpa using hz, lc_go hb, ?_⟩))
  · show (s1.m ++ [Ct.lst acc])[j]? = _
    rw [List.getElem?_append_left (List.getElem?_eq_some_iff.mp hm).1]
    exact hm
  · rw [List.length_map, List.length_map, fm_range]
    exact k
theorem ae_lcR {ta : TA} (h : AA P w G ta s fun xs s1 => ∃ (n : Nat) (o : Nat → Option D), xs = [.dat (.int n)] ∧ n ≤ sizeLine ∧ (∀ i, i < n → LcB P w G vs g tt te s1 (.int (i : Nat)) (o i)) ∧ K (.dat (.list ((List.range n).filterMap o))) s1) : AE P w G (tLc (iRng1 ta) g tt te vs) s K := by
  have hsz : (sizeLine : Int) < 2 ^ 62 := by rw [sizeLine_eq]; decide
  refine ae_lcD (ai_rng1 (h.mono fun xs s1 ⟨n, o, e, hz, hb, k⟩ => ⟨n, e, by omega, o, fun _ => True.intro, by simpa using hz, fun i r acc hr => ?_, ?_⟩))
  · obtain ⟨j, hj, rfl⟩ := map_get hr
    obtain ⟨hl, e⟩ := List.getElem?_eq_some_iff.mp hj
    rw [List.length_range] at hl
    rw [List.getElem_range] at e
    subst e
    exact hb _ hl acc
  · rw [List.length_map, List.length_range]
    exact k
end
/-! ### tables -/
abbrev Act := Str × Str × Str
structure Tab where
  rows : List (List (Act × Nat))
  ends : List Bool
def dA (a : Act) : D := .tuple [.str a.1, .str a.2.1, .str a.2.2]
def dN (n : Nat) : D := .int (n : Nat)
def dE (e : Act × Nat) : D := .tuple [dA e.1, dN e.2]
def dRow (r : List (Act × Nat)) : D := .tuple (r.map dE)
def dRows (T : Tab) : D := .tuple (T.rows.map dRow)
def dEnds (T : Tab) : D := .tuple (T.ends.map .bool)
def dT (T : Tab) : D := .tuple [.str "table", dRows T, dEnds T]
def dS (l : List Nat) : D := .tuple (l.map dN)
def dActs (l : List Act) : D := .list (l.map dA)
def optI : Option Nat → D
  | none => .none
  | some g => dN g
/-- the row's entry for an action -/
def look (r : List (Act × Nat)) (a : Act) : Option Nat := (r.find? fun e => decide (e.1 = a)).map (·.2)
def Tab.row (T : Tab) (s : Nat) : List (Act × Nat) := T.rows.getD s []
def Tab.step (T : Tab) (s : Nat) (a : Act) : Option Nat := look (T.row s) a
def Tab.n (T : Tab) : Nat := T.rows.length
theorem eqOk_act (a b : Act) : eqOk (dA a) (dA b) = true := by
  simp [eqOk, dA, PySem.W.alike, PySem.W.alikeAll, noDict, noDicts, PyData.depth, PyData.depthAll]
theorem str_beq (p q : Str) : (p == q) = decide (p = q) := by
  by_cases e : p = q <;> simp [e]
theorem int_beq (p q : Int) : (p == q) = decide (p = q) := by
  by_cases e : p = q <;> simp [e]
theorem eqv_act (a b : Act) : PyData.eqv (dA a) (dA b) = decide (a = b) := by
  obtain ⟨x, y, z⟩ := a
  obtain ⟨x', y', z'⟩ := b
  simp [dA, PyData.eqv, PyData.eqvAll, Bool.and_assoc, Bool.decide_and, str_beq]
theorem eqOk_str (a b : Str) : eqOk (.str a) (.str b) = true := by
  simp [eqOk, PySem.W.alike, noDict, PyData.depth]
theorem eqv_str (a b : Str) : PyData.eqv (.str a) (.str b) = decide (a = b) := by
  simp [PyData.eqv, str_beq]
theorem eqOk_int (a b : Int) : eqOk (.int a) (.int b) = true := by
  simp [eqOk, PySem.W.alike, noDict, PyData.depth]
theorem eqv_int (a b : Int) : PyData.eqv (.int a) (.int b) = decide (a = b) := by
  simp [PyData.eqv, int_beq]
theorem eqOk_bool (a b : Bool) : eqOk (.bool a) (.bool b) = true := by
  simp [eqOk, PySem.W.alike, noDict, PyData.depth]
theorem eqv_bool (a b : Bool) : PyData.eqv (.bool a) (.bool b) = decide (a = b) := by
  cases a <;> cases b <;> rfl
section
variable {P : Program} {w : World} {G : Hp} {s : AS} {K : Rf → AS → Prop} {KF : PySem.W.Frag}
theorem ao_rows {T : Tab} (k : K (.dat (dRows T)) s) : AO P w G (rGet KF P w) (.dat (dT T)) (.dat (.int 1)) s K := ao_seqD (ds := [.str "table", dRows T, dEnds T]) (i := 1) rfl rfl k
theorem ao_ends {T : Tab} (k : K (.dat (dEnds T)) s) : AO P w G (rGet KF P w) (.dat (dT T)) (.dat (.int 2)) s K := ao_seqD (ds := [.str "table", dRows T, dEnds T]) (i := 2) rfl rfl k
theorem ao_row {T : Tab} {i : Nat} (h : i < T.n) (k : K (.dat (dRow (T.row i))) s) : AO P w G (rGet KF P w) (.dat (dRows T)) (.dat (dN i)) s K :=
  ao_seqD (ds := T.rows.map dRow) (i := i) rfl (by rw [List.getElem?_map, List.getElem?_eq_getElem (show i < T.rows.length from h), Tab.row, List.getD_eq_getElem?_getD, List.getElem?_eq_getElem (show i < T.rows.length from h)]; rfl) k
theorem ao_end {T : Tab} {i : Nat} (h : i < T.ends.length) (k : K (.dat (.bool (T.ends.getD i false))) s) : AO P w G (rGet KF P w) (.dat (dEnds T)) (.dat (dN i)) s K :=
  ao_seqD (ds := T.ends.map .bool) (i := i) rfl (by rw [List.getElem?_map, List.getElem?_eq_getElem h]; simp [h]) k
theorem ao_eqA {a b : Act} (k : K (.dat (.bool (decide (a = b)))) s) : AO P w G (rEqZ KF) (.dat (dA a)) (.dat (dA b)) s K := ao_eq (eqOk_act a b) (by rw [eqv_act]; exact k)
theorem ao_eqS' {a b : Str} (k : K (.dat (.bool (decide (a = b)))) s) : AO P w G (rEqZ KF) (.dat (.str a)) (.dat (.str b)) s K := ao_eq (eqOk_str a b) (by rw [eqv_str]; exact k)
theorem ao_eqI {a b : Int} (k : K (.dat (.bool (decide (a = b)))) s) : AO P w G (rEqZ KF) (.dat (.int a)) (.dat (.int b)) s K := ao_eq (eqOk_int a b) (by rw [eqv_int]; exact k)
theorem ao_eqN {a b : Nat} (k : K (.dat (.bool (decide (a = b)))) s) : AO P w G (rEqZ KF) (.dat (dN a)) (.dat (dN b)) s K := ao_eqI (by
  have : decide ((a : Int) = (b : Nat)) = decide (a = b) := by
    by_cases h : a = b
    · simp [h]
    · rw [decide_eq_false h, decide_eq_false (by omega)]
  rw [this]
  exact k)
end
theorem ao_act0 {P : Program} {w : World} {G : Hp} {s : AS} {K : Rf → AS → Prop} {KF : PySem.W.Frag} {a : Act} (k : K (.dat (.str a.1)) s) : AO P w G (rGet KF P w) (.dat (dA a)) (.dat (.int 0)) s K := ao_seqD (ds := [.str a.1, .str a.2.1, .str a.2.2]) (i := 0) rfl rfl k
theorem ao_act1 {P : Program} {w : World} {G : Hp} {s : AS} {K : Rf → AS → Prop} {KF : PySem.W.Frag} {a : Act} (k : K (.dat (.str a.2.1)) s) : AO P w G (rGet KF P w) (.dat (dA a)) (.dat (.int 1)) s K := ao_seqD (ds := [.str a.1, .str a.2.1, .str a.2.2]) (i := 1) rfl rfl k
theorem look_cons (e : Act × Nat) (r : List (Act × Nat)) (a : Act) : look (e :: r) a = if e.1 = a then some e.2 else look r a := by
  unfold look
  rw [List.find?_cons]
  by_cases h : e.1 = a <;> simp [h]
end N
set_option maxRecDepth 100000
set_option maxHeartbeats 4000000
set_option pp.maxSteps 900
namespace N
open PySem PySem.Spec PyProof.Rows L2
local macro_rules
  | `(tactic| walk_at "e") => `(tactic| repeat (first
      | with_reducible refine as_seq ?_
      | with_reducible refine as_set ?_
      | with_reducible refine as_ret ?_
      | with_reducible refine as_drop ?_
      | with_reducible refine as_next ?_
      | with_reducible refine as_cont ?_
      | with_reducible refine as_if ?_
      | with_reducible refine ae_op ?_
      | with_reducible refine ae_cb ?_
      | with_reducible refine ae_var rfl ?_
      | with_reducible refine ae_int ?_
      | with_reducible refine ae_str ?_
      | with_reducible refine ae_bl ?_
      | with_reducible refine ae_non ?_
      | with_reducible refine aa_cons ?_
      | with_reducible refine aa_nil ?_
      | with_reducible refine at_test ?_
      | with_reducible refine at_B ?_
      | with_reducible refine at_not ?_
      | with_reducible refine at_and ?_
      | with_reducible refine at_or ?_
      | with_reducible refine ae_callI ?_
      | with_reducible refine ao_rows ?_
      | with_reducible refine ao_ends ?_
      | with_reducible refine ao_row (by assumption) ?_
      | with_reducible refine ao_act0 ?_
      | with_reducible refine ao_act1 ?_
      | with_reducible refine ao_eqA ?_
      | with_reducible refine ao_eqS' ?_
      | with_reducible refine ao_eqN ?_
      | with_reducible refine ao_eqI ?_
      | with_reducible refine ao_isN ?_
      | with_reducible refine ao_notN ?_))
/-! ### next_state, _law_step -/
def aStep (x : Tab × Nat × Act) : List D := [dT x.1, dN x.2.1, dA x.2.2]
def pStep (x : Tab × Nat × Act) : Prop := x.2.1 < x.1.n
def qStep (x : Tab × Nat × Act) (d : D) : Prop := d = optI (x.1.step x.2.1 x.2.2)
theorem look_none {r : List (Act × Nat)} {a : Act} (h : ∀ (j : Nat) e, r[j]? = some e → e.1 ≠ a) : look r a = none := by
  unfold look
  rw [List.find?_eq_none.mpr]
  · rfl
  · intro e he
    obtain ⟨j, hj⟩ := List.mem_iff_getElem?.mp he
    simpa using h j e hj
theorem look_first {r : List (Act × Nat)} {a : Act} {i : Nat} {e : Act × Nat} (hi : r[i]? = some e) (h : ∀ (j : Nat) e, j < i → r[j]? = some e → e.1 ≠ a) (he : e.1 = a) : look r a = some e.2 := by
  induction r generalizing i with
  | nil => simp at hi
  | cons x r ih =>
    rw [look_cons]
    cases i with
    | zero =>
      simp at hi
      subst hi
      rw [if_pos he]
    | succ i =>
      rw [if_neg (h 0 x (Nat.zero_lt_succ _) rfl)]
      exact ih (by simpa using hi) fun j e hj hje => h (j + 1) e (Nat.succ_lt_succ hj) (by simpa using hje)
theorem rd_next_state {K : PySem.W.Frag} {P : Program} {w : World} {N : List Str} (hN : N.length = 5) : ∀ vs H Q E, spI P w aStep pStep qStep vs H Q E → t_next_state K P w { nx := fun _ H' => Q .non H', rt := Q } (L2.start N vs) H := by
  refine fnI fun G x hp => ⟨by rw [hN]; show 3 ≤ 5; decide, ?_⟩
  rw [hN]
  obtain ⟨T, s, a⟩ := x
  have hp : s < T.n := hp
  show AST P w G (t_next_state K P w) ⟨[some (.dat (dT T)), some (.dat (dN s)), some (.dat (dA a)), none, none], []⟩ _
  unfold t_next_state
  walk_at "e"
  refine as_forT (α := Act × Nat) ?_
  walk_at "e"
  refine ⟨T.row s, dE, rfl, fun i st => (∃ x y, st = ⟨[some (.dat (dT T)), some (.dat (dN s)), some (.dat (dA a)), x, y], []⟩) ∧ ∀ (j : Nat) e, j < i → (T.row s)[j]? = some e → e.1 ≠ a, ⟨⟨_, _, rfl⟩, fun j e h => absurd h (by omega)⟩, ?_, ?_⟩
  · rintro i e st he ⟨⟨x, y, rfl⟩, hn⟩
    refine ag_pair ?_
    walk_at "e"
    refine ⟨_, rfl, fun hb => ?_, fun hb => ?_⟩
    · walk_at "e"
      refine ⟨_, rfl, ?_⟩
      show dN e.2 = optI (look (T.row s) a)
      rw [look_first he hn (of_decide_eq_true hb)]
      rfl
    · walk_at "e"
      refine ⟨⟨_, _, rfl⟩, fun j e' hj hje => ?_⟩
      by_cases h : j = i
      · subst h
        rw [he] at hje
        cases hje
        exact of_decide_eq_false hb
      · exact hn j e' (by omega) hje
  · rintro st ⟨⟨x, y, rfl⟩, hn⟩
    show AST P w G _ _ _
    walk_at "e"
    refine ⟨_, rfl, ?_⟩
    show PyData.none = optI (look (T.row s) a)
    rw [look_none fun j e hje => hn j e (List.getElem?_eq_some_iff.mp hje).1 hje]
    rfl
theorem rd__law_step {K : PySem.W.Frag} {P : Program} {w : World} {N : List Str} (hN : N.length = 5) : ∀ vs H Q E, spI P w aStep pStep qStep vs H Q E → t__law_step K P w { nx := fun _ H' => Q .non H', rt := Q } (L2.start N vs) H := rd_next_state hN
/-! ### well-formed tables -/
structure Wf (T : Tab) : Prop where
  pos : 0 < T.n
  le : T.n ≤ 300
  ends : T.ends.length = T.n
  row : ∀ r ∈ T.rows, r.length ≤ 300 ∧ (r.map (·.1)).Nodup ∧ ∀ e ∈ r, e.2 < T.n
theorem Wf.row' {T : Tab} (h : Wf T) (s : Nat) : (T.row s).length ≤ 300 ∧ ((T.row s).map (·.1)).Nodup ∧ ∀ e ∈ T.row s, e.2 < T.n := by
  unfold Tab.row
  rw [List.getD_eq_getElem?_getD]
  cases e : T.rows[s]? with
  | none => exact ⟨Nat.zero_le _, List.nodup_nil, fun e he => nomatch he⟩
  | some r => exact h.row r (List.mem_of_getElem? e)
theorem look_mem {r : List (Act × Nat)} {a : Act} {g : Nat} (h : look r a = some g) : (a, g) ∈ r := by
  induction r with
  | nil => cases h
  | cons x r ih =>
    rw [look_cons] at h
    by_cases e : x.1 = a
    · rw [if_pos e] at h
      cases h
      rw [← e]
      exact List.mem_cons_self
    · rw [if_neg e] at h
      exact List.mem_cons_of_mem _ (ih h)
theorem mem_look {r : List (Act × Nat)} {a : Act} {g : Nat} (nd : (r.map (·.1)).Nodup) (h : (a, g) ∈ r) : look r a = some g := by
  induction r with
  | nil => cases h
  | cons x r ih =>
    rw [List.map_cons, List.nodup_cons] at nd
    rw [look_cons]
    rcases List.mem_cons.mp h with e | h
    · subst e
      rw [if_pos rfl]
    · rw [if_neg (fun z => nd.1 (by rw [z]; exact List.mem_map.mpr ⟨_, h, rfl⟩))]
      exact ih nd.2 h
theorem Wf.step_lt {T : Tab} (h : Wf T) {s g : Nat} {a : Act} (e : T.step s a = some g) : g < T.n := (h.row' s).2.2 _ (look_mem e)
def Tab.go (T : Tab) (o : Option Nat) (l : List Act) : Option Nat := l.foldl (fun o a => o.bind fun s => T.step s a) o
def Tab.walk (T : Tab) (l : List Act) : Option Nat := T.go (some 0) l
theorem Tab.go_none (T : Tab) : ∀ l, T.go none l = none
  | [] => rfl
  | _ :: l => Tab.go_none T l
theorem Tab.go_append (T : Tab) (o : Option Nat) (l m : List Act) : T.go o (l ++ m) = T.go (T.go o l) m := List.foldl_append ..
theorem Tab.walk_snoc (T : Tab) (l : List Act) (a : Act) : T.walk (l ++ [a]) = (T.walk l).bind fun s => T.step s a := by
  unfold Tab.walk
  rw [Tab.go_append]
  rfl
theorem Tab.walk_take (T : Tab) {l : List Act} {i : Nat} {a : Act} (h : l[i]? = some a) : T.walk (l.take (i + 1)) = (T.walk (l.take i)).bind fun s => T.step s a := by
  rw [List.take_add_one, h]
  exact T.walk_snoc _ a
theorem Tab.walk_none (T : Tab) {l : List Act} {i : Nat} (h : T.walk (l.take i) = none) : T.walk l = none := by
  have e : T.walk l = T.go (T.walk (l.take i)) (l.drop i) := by
    unfold Tab.walk
    rw [← Tab.go_append, List.take_append_drop]
  rw [e, h, Tab.go_none]
theorem Wf.walk_lt {T : Tab} (h : Wf T) {l : List Act} {s : Nat} (e : T.walk l = some s) : s < T.n := by
  rcases List.eq_nil_or_concat l with rfl | ⟨m, a, rfl⟩
  · cases e
    exact h.pos
  · rw [List.concat_eq_append, T.walk_snoc] at e
    cases q : T.walk m with
    | none => rw [q] at e; cases e
    | some t => rw [q] at e; exact h.step_lt e
theorem isNone_optI (o : Option Nat) : isNone (optI o) = o.isNone := by cases o <;> rfl
/-! ### walk, _law_walk -/
def aWalk (x : Tab × List Act) : List D := [dT x.1, dActs x.2]
def pWalk (x : Tab × List Act) : Prop := Wf x.1
def qWalk (x : Tab × List Act) (d : D) : Prop := d = optI (x.1.walk x.2)
theorem rd_walk {K : PySem.W.Frag} {P : Program} {w : World} {N : List Str} (hN : N.length = 4) : ∀ vs H Q E, spI P w aWalk pWalk qWalk vs H Q E → t_walk K P w (spI P w aStep pStep qStep) { nx := fun _ H' => Q .non H', rt := Q } (L2.start N vs) H := by
  refine fnI fun G x hp => ⟨by rw [hN]; show 2 ≤ 4; decide, ?_⟩
  rw [hN]
  obtain ⟨T, l⟩ := x
  have hp : Wf T := hp
  show AST P w G (t_walk K P w _) ⟨[some (.dat (dT T)), some (.dat (dActs l)), none, none], []⟩ _
  unfold t_walk
  walk_at "e"
  refine as_forL (α := Act) ?_
  walk_at "e"
  refine ⟨l, dA, rfl, fun i st => ∃ x s, st = ⟨[some (.dat (dT T)), some (.dat (dActs l)), some (.dat (dN s)), x], []⟩ ∧ T.walk (l.take i) = some s, ⟨_, 0, rfl, rfl⟩, ?_, ?_⟩
  · rintro i a st ha ⟨x, s, rfl, hs⟩
    refine ag_name ?_
    walk_at "e"
    refine ⟨(T, s, a), rfl, hp.walk_lt hs, fun d hd => ?_⟩
    have hd : d = optI (T.step s a) := hd
    subst hd
    have ht := T.walk_take ha
    rw [hs] at ht
    walk_at "e"
    refine ⟨_, rfl, fun hb => ?_, fun hb => ?_⟩
    · walk_at "e"
      rw [isNone_optI] at hb
      refine ⟨_, rfl, ?_⟩
      show PyData.none = optI (T.walk l)
      rw [T.walk_none (i := i + 1) (ht.trans (Option.isNone_iff_eq_none.mp hb))]
      rfl
    · walk_at "e"
      rw [isNone_optI] at hb
      obtain ⟨g, hg⟩ := Option.isSome_iff_exists.mp (by rw [← Option.not_isNone, hb]; rfl)
      rw [hg]
      exact ⟨_, g, rfl, ht.trans hg⟩
  · rintro st ⟨x, s, rfl, hs⟩
    show AST P w G _ _ _
    walk_at "e"
    refine ⟨_, rfl, ?_⟩
    rw [List.take_length] at hs
    show dN s = optI (T.walk l)
    rw [hs]
    rfl
theorem rd__law_walk {K : PySem.W.Frag} {P : Program} {w : World} {N : List Str} (hN : N.length = 4) : ∀ vs H Q E, spI P w aWalk pWalk qWalk vs H Q E → t__law_walk K P w (spI P w aStep pStep qStep) { nx := fun _ H' => Q .non H', rt := Q } (L2.start N vs) H := by
  refine fnI fun G x hp => ⟨by rw [hN]; show 2 ≤ 4; decide, ?_⟩
  rw [hN]
  obtain ⟨T, l⟩ := x
  have hp : Wf T := hp
  show AST P w G (t__law_walk K P w _) ⟨[some (.dat (dT T)), some (.dat (dActs l)), none, none], []⟩ _
  unfold t__law_walk
  walk_at "e"
  refine as_forL (α := Act) ?_
  walk_at "e"
  refine ⟨l, dA, rfl, fun i st => ∃ x, st = ⟨[some (.dat (dT T)), some (.dat (dActs l)), some (.dat (optI (T.walk (l.take i)))), x], []⟩, ⟨_, rfl⟩, ?_, ?_⟩
  · rintro i a st ha ⟨x, rfl⟩
    have ht := T.walk_take ha
    refine ag_name ?_
    walk_at "e"
    rw [isNone_optI]
    refine ⟨_, rfl, fun hb => ?_, fun hb => ?_⟩
    · obtain ⟨s, hs⟩ := Option.isSome_iff_exists.mp (by rw [← Option.not_isNone, hb])
      rw [hs] at ht ⊢
      walk_at "e"
      refine ⟨(T, s, a), rfl, hp.walk_lt hs, fun d hd => ?_⟩
      have hd : d = optI (T.step s a) := hd
      subst hd
      refine ⟨some (.dat (dA a)), ?_⟩
      rw [ht]
      rfl
    · walk_at "e"
      have hn : T.walk (l.take i) = none := by
        cases q : T.walk (l.take i) with
        | none => rfl
        | some _ => rw [q] at hb; cases hb
      refine ⟨some (.dat (dA a)), ?_⟩
      rw [ht, hn]
      rfl
  · rintro st ⟨x, rfl⟩
    show AST P w G _ _ _
    walk_at "e"
    refine ⟨_, rfl, ?_⟩
    show optI (T.walk (l.take l.length)) = optI (T.walk l)
    rw [List.take_length]
/-! ### concerns -/
def conc (a : Act) (p : Str) : Bool := decide (a.1 = p) || decide (a.2.1 = p)
def aConc (x : Act × Str) : List D := [dA x.1, .str x.2]
def qConc (x : Act × Str) (d : D) : Prop := d = .bool (conc x.1 x.2)
theorem rd_concerns {K : PySem.W.Frag} {P : Program} {w : World} {N : List Str} (hN : N.length = 2) : ∀ vs H Q E, spI P w aConc (fun _ => True) qConc vs H Q E → t_concerns K P w { nx := fun _ H' => Q .non H', rt := Q } (L2.start N vs) H := by
  refine fnI fun G x hp => ⟨by rw [hN]; show 2 ≤ 2; decide, ?_⟩
  rw [hN]
  obtain ⟨a, p⟩ := x
  show AST P w G (t_concerns K P w) ⟨[some (.dat (dA a)), some (.dat (.str p))], []⟩ _
  unfold t_concerns
  walk_at "e"
  refine ae_orV ?_
  walk_at "e"
  refine ⟨_, rfl, fun hb => ?_, fun hb => ?_⟩
  · refine ⟨_, rfl, ?_⟩
    show PyData.bool true = .bool (conc a p)
    unfold conc
    rw [hb]
    rfl
  · walk_at "e"
    refine ⟨_, rfl, ?_⟩
    show PyData.bool _ = .bool (conc a p)
    unfold conc
    rw [hb]
    rfl
/-! ### view, _law_view -/
def view (l : List Act) (p : Str) : List Act := l.filter fun a => conc a p
def aView (x : List Act × Str) : List D := [dActs x.1, .str x.2]
def pView (x : List Act × Str) : Prop := x.1.length ≤ 5000000
def qView (x : List Act × Str) (d : D) : Prop := d = dActs (view x.1 x.2)
theorem fm_filter {α : Type} {f : α → D} {c : α → Bool} : ∀ l : List α, l.filterMap (fun x => if c x = true then some (f x) else none) = (l.filter c).map f
  | [] => rfl
  | x :: l => by
    rw [List.filterMap_cons, List.filter_cons, fm_filter l]
    by_cases h : c x = true
    · rw [if_pos h, if_pos h]
      rfl
    · rw [if_neg h, if_neg h]
theorem fm_map {α : Type} {f : α → D} (l : List α) : l.filterMap (fun x => some (f x)) = l.map f := by
  induction l with
  | nil => rfl
  | cons x l ih => rw [List.filterMap_cons, ih]; rfl
theorem size_big {n : Nat} (h : n ≤ 10000000) : n ≤ sizeLine := by rw [sizeLine_eq]; omega
theorem size_lt {n : Nat} (h : n ≤ 10000000) : n < sizeLine := by rw [sizeLine_eq]; omega
theorem rd_view {K : PySem.W.Frag} {P : Program} {w : World} {N : List Str} (hN : N.length = 3) : ∀ vs H Q E, spI P w aView pView qView vs H Q E → t_view K P w (spI P w aConc (fun _ => True) qConc) { nx := fun _ H' => Q .non H', rt := Q } (L2.start N vs) H := by
  refine fnI fun G x hp => ⟨by rw [hN]; show 2 ≤ 3; decide, ?_⟩
  rw [hN]
  obtain ⟨l, p⟩ := x
  have hp : l.length ≤ 5000000 := hp
  show AST P w G (t_view K P w _) ⟨[some (.dat (dActs l)), some (.dat (.str p)), none], []⟩ _
  unfold t_view
  walk_at "e"
  refine ae_lcL (α := Act) ?_
  walk_at "e"
  refine ⟨l, dA, fun a => if conc a p = true then some (dA a) else none, rfl, size_big (by omega), fun i a _ acc => ?_, ?_⟩
  · refine agc_name (by simp) ?_
    walk_at "e"
    refine ⟨(a, p), rfl, trivial, fun d hd => ?_⟩
    have hd : d = .bool (conc a p) := hd
    subst hd
    refine ⟨_, rfl, fun hb => ?_, fun hb => ⟨rfl, rfl, if_neg (by rw [hb]; decide)⟩⟩
    walk_at "e"
    exact ⟨rfl, rfl, _, if_pos hb, rfl⟩
  · refine ⟨_, rfl, ?_⟩
    rw [fm_filter]
    rfl
theorem any_two {a b p : Str} : ([PyData.str a, PyData.str b].any fun e => PyData.eqv e (.str p)) = (decide (a = p) || decide (b = p)) := by
  simp only [List.any_cons, List.any_nil, eqv_str, Bool.or_false]
/-- p in [a[0], a[1]] -/
theorem ae_inAct {P : Program} {w : World} {G : Hp} {s : AS} {K : Rf → AS → Prop} {tp ta tb : TE} {neg : Bool} (h : AE P w G tp s fun x s1 => AE P w G ta s1 fun y s2 => AE P w G tb s2 fun z s3 => ∃ p a b, x = .dat (.str p) ∧ y = .dat (.str a) ∧ z = .dat (.str b) ∧ K (.dat (.bool (if neg then !(decide (a = p) || decide (b = p)) else (decide (a = p) || decide (b = p))))) s3) :
    AE P w G (tOp (rIn P w neg) tp (tLst (tCons ta (tCons tb tNil)))) s K := by
  refine ae_op (h.mono fun x s1 h => ae_lstD (aa_cons (h.mono fun y s2 h => aa_cons (h.mono fun z s3 ⟨p, a, b, e1, e2, e3, k⟩ => aa_nil ?_))))
  subst e1 e2 e3
  refine ⟨[.str a, .str b], rfl, size_big (by show 2 ≤ _; decide), ?_⟩
  refine ao_inL (ds := [.str a, .str b]) rfl (fun e he => ?_) ?_
  · rcases List.mem_cons.mp he with rfl | he
    · exact eqOk_str _ _
    · rw [List.mem_singleton.mp he]
      exact eqOk_str _ _
  · rw [any_two]
    exact k
theorem rd__law_view {K : PySem.W.Frag} {P : Program} {w : World} {N : List Str} (hN : N.length = 3) : ∀ vs H Q E, spI P w aView pView qView vs H Q E → t__law_view K P w { nx := fun _ H' => Q .non H', rt := Q } (L2.start N vs) H := by
  refine fnI fun G x hp => ⟨by rw [hN]; show 2 ≤ 3; decide, ?_⟩
  rw [hN]
  obtain ⟨l, p⟩ := x
  have hp : l.length ≤ 5000000 := hp
  show AST P w G (t__law_view K P w) ⟨[some (.dat (dActs l)), some (.dat (.str p)), none], []⟩ _
  unfold t__law_view
  walk_at "e"
  refine ae_lcL (α := Act) ?_
  walk_at "e"
  refine ⟨l, dA, fun a => if conc a p = true then some (dA a) else none, rfl, size_big (by omega), fun i a _ acc => ?_, ?_⟩
  · refine agc_name (by simp) ?_
    refine at_test (ae_inAct ?_)
    walk_at "e"
    refine ⟨_, _, _, rfl, rfl, rfl, _, rfl, fun hb => ?_, fun hb => ⟨rfl, rfl, if_neg (by show ¬ conc a p = true; unfold conc; rw [show (decide (a.1 = p) || decide (a.2.1 = p)) = false from hb]; decide)⟩⟩
    walk_at "e"
    exact ⟨rfl, rfl, _, if_pos hb, rfl⟩
  · refine ⟨_, rfl, ?_⟩
    rw [fm_filter]
    rfl
/-! ### _law_same_view, _law_goes -/
def aSame (x : List Act × List Act × Str) : List D := [dActs x.1, dActs x.2.1, .str x.2.2]
def pSame (x : List Act × List Act × Str) : Prop := x.1.length ≤ 5000000 ∧ x.2.1.length ≤ 5000000
def qSame (x : List Act × List Act × Str) (d : D) : Prop := d = .bool (decide (view x.1 x.2.2 = view x.2.1 x.2.2))
theorem eqOk_acts (l m : List Act) : eqOk (dActs l) (dActs m) = true := by
  have h1 : ∀ l m : List Act, PySem.W.alikeAll (l.map dA) (m.map dA) = true := by
    intro l
    induction l with
    | nil => intro m; cases m <;> rfl
    | cons a l ih =>
      intro m
      cases m with
      | nil => rfl
      | cons b m =>
        have := (eqOk_of (eqOk_act a b)).1
        simp only [List.map_cons, PySem.W.alikeAll, this, ih m, Bool.and_self]
  have h2 : ∀ l : List Act, noDicts (l.map dA) = true := fun l => noDicts_of fun d hd => by
    obtain ⟨a, _, rfl⟩ := List.mem_map.mp hd
    exact (eqOk_of (eqOk_act a a)).2.1
  have h3 : ∀ l : List Act, PyData.depthAll (l.map dA) ≤ 2 := by
    intro l
    induction l with
    | nil => simp [PyData.depthAll]
    | cons a l ih =>
      rw [List.map_cons]
      simp only [PyData.depthAll]
      have : (dA a).depth ≤ 2 := by simp [dA, PyData.depth, PyData.depthAll]
      omega
  unfold eqOk dActs
  have h4 := h3 l
  have h5 : (PyData.list (l.map dA)).depth ≤ 64 := by
    rw [PyData.depth]
    omega
  simp only [PySem.W.alike, noDict, h1, h2, Bool.true_and, Bool.and_true, decide_eq_true_eq]
  exact h5
theorem eqv_acts (l m : List Act) : PyData.eqv (dActs l) (dActs m) = decide (l = m) := by
  have h : ∀ l m : List Act, PyData.eqvAll (l.map dA) (m.map dA) = decide (l = m) := by
    intro l
    induction l with
    | nil => intro m; cases m <;> simp [PyData.eqvAll]
    | cons a l ih =>
      intro m
      cases m with
      | nil => simp [PyData.eqvAll]
      | cons b m =>
        rw [List.map_cons, List.map_cons]
        simp only [PyData.eqvAll, eqv_act, ih m]
        by_cases h : a = b <;> by_cases h2 : l = m <;> simp [h, h2]
  unfold dActs
  simp only [PyData.eqv]
  exact h l m
theorem view_len (l : List Act) (p : Str) : (view l p).length ≤ l.length := List.length_filter_le _ _
theorem rd__law_same_view {K : PySem.W.Frag} {P : Program} {w : World} {N : List Str} (hN : N.length = 3) : ∀ vs H Q E, spI P w aSame pSame qSame vs H Q E → t__law_same_view K P w (spI P w aView pView qView) { nx := fun _ H' => Q .non H', rt := Q } (L2.start N vs) H := by
  refine fnI fun G x hp => ⟨by rw [hN]; show 3 ≤ 3; decide, ?_⟩
  rw [hN]
  obtain ⟨l, m, p⟩ := x
  obtain ⟨h1, h2⟩ := (show l.length ≤ 5000000 ∧ m.length ≤ 5000000 from hp)
  show AST P w G (t__law_same_view K P w _) ⟨[some (.dat (dActs l)), some (.dat (dActs m)), some (.dat (.str p))], []⟩ _
  unfold t__law_same_view
  walk_at "e"
  refine ⟨(l, p), rfl, h1, fun d hd => ?_⟩
  have hd : d = dActs (view l p) := hd
  subst hd
  walk_at "e"
  refine ⟨(m, p), rfl, h2, fun d hd => ?_⟩
  have hd : d = dActs (view m p) := hd
  subst hd
  refine ao_eq (eqOk_acts _ _) ⟨_, rfl, ?_⟩
  rw [eqv_acts]
  rfl
def aGoes (x : Tab × List Act × Act) : List D := [dT x.1, dActs x.2.1, dA x.2.2]
def pGoes (x : Tab × List Act × Act) : Prop := Wf x.1 ∧ x.2.1.length ≤ 5000000
def qGoes (x : Tab × List Act × Act) (d : D) : Prop := d = .bool (x.1.walk (x.2.1 ++ [x.2.2])).isSome
theorem rd__law_goes {K : PySem.W.Frag} {P : Program} {w : World} {N : List Str} (hN : N.length = 3) : ∀ vs H Q E, spI P w aGoes pGoes qGoes vs H Q E → t__law_goes K P w (spI P w aWalk pWalk qWalk) { nx := fun _ H' => Q .non H', rt := Q } (L2.start N vs) H := by
  refine fnI fun G x hp => ⟨by rw [hN]; show 3 ≤ 3; decide, ?_⟩
  rw [hN]
  obtain ⟨T, l, a⟩ := x
  obtain ⟨h1, h2⟩ := (show Wf T ∧ l.length ≤ 5000000 from hp)
  show AST P w G (t__law_goes K P w _) ⟨[some (.dat (dT T)), some (.dat (dActs l)), some (.dat (dA a))], []⟩ _
  unfold t__law_goes
  walk_at "e"
  refine ar_listD (ds := l.map dA) rfl ?_
  refine ae_lstD ?_
  walk_at "e"
  refine ⟨[dA a], rfl, size_big (by show 1 ≤ _; decide), ?_⟩
  refine ao_catD (xs := l.map dA) (ys := [dA a]) rfl rfl (size_big (by rw [List.length_map]; show l.length + 1 ≤ _; omega)) ?_
  walk_at "e"
  refine ⟨(T, l ++ [a]), by show some [dT T, PyData.list (l.map dA ++ [dA a])] = some [dT T, PyData.list ((l ++ [a]).map dA)]; rw [List.map_append]; rfl, h1, fun d hd => ?_⟩
  have hd : d = optI (T.walk (l ++ [a])) := hd
  subst hd
  walk_at "e"
  rw [isNone_optI]
  refine ⟨_, rfl, ?_⟩
  show PyData.bool _ = .bool _
  rw [Option.not_isNone]
/-! ### sorted lists of numbers stand for sets -/
def Srt (l : List Nat) : Prop := l.Pairwise (· < ·)
theorem srt_ext : ∀ {l m : List Nat}, Srt l → Srt m → (∀ x, x ∈ l ↔ x ∈ m) → l = m
  | [], [], _, _, _ => rfl
  | [], b :: m, _, _, h => absurd ((h b).mpr List.mem_cons_self) (by simp)
  | a :: l, [], _, _, h => absurd ((h a).mp List.mem_cons_self) (by simp)
  | a :: l, b :: m, hl, hm, h => by
    obtain ⟨l1, l2⟩ := List.pairwise_cons.mp hl
    obtain ⟨m1, m2⟩ := List.pairwise_cons.mp hm
    have e : a = b := by
      rcases List.mem_cons.mp ((h a).mp List.mem_cons_self) with e | e
      · exact e
      · rcases List.mem_cons.mp ((h b).mpr List.mem_cons_self) with e2 | e2
        · exact e2.symm
        · have := m1 a e
          have := l1 b e2
          omega
    subst e
    rw [srt_ext l2 m2 fun x => ⟨fun hx => ?_, fun hx => ?_⟩]
    · rcases List.mem_cons.mp ((h x).mp (List.mem_cons_of_mem _ hx)) with e | e
      · subst e
        exact absurd (l1 x hx) (Nat.lt_irrefl _)
      · exact e
    · rcases List.mem_cons.mp ((h x).mpr (List.mem_cons_of_mem _ hx)) with e | e
      · subst e
        exact absurd (m1 x hx) (Nat.lt_irrefl _)
      · exact e
theorem Srt.nodup {l : List Nat} (h : Srt l) : l.Nodup := List.Pairwise.imp (fun h => Nat.ne_of_lt h) h
theorem srt_len {l : List Nat} {n : Nat} (h : Srt l) (hn : ∀ x ∈ l, x < n) : l.length ≤ n := by
  have := List.Nodup.length_le_of_subset (l₁ := l) (l₂ := List.range n) h.nodup (fun x hx => List.mem_range.mpr (hn x hx))
  rwa [List.length_range] at this
theorem nodup_len {l : List Nat} {n : Nat} (h : l.Nodup) (hn : ∀ x ∈ l, x < n) : l.length ≤ n := by
  have := List.Nodup.length_le_of_subset (l₁ := l) (l₂ := List.range n) h (fun x hx => List.mem_range.mpr (hn x hx))
  rwa [List.length_range] at this
theorem leD_int (a b : Nat) : leD (dN a) (dN b) = decide (a ≤ b) := by
  have h : leD (dN a) (dN b) = !PySem.W.dataLt (dN b) (dN a) := rfl
  rw [h]
  unfold dN
  rw [PySem.W.dataLt_int]
  by_cases h : a ≤ b
  · rw [decide_eq_true h, decide_eq_false (by omega)]
    rfl
  · rw [decide_eq_false h, decide_eq_true (by omega)]
    rfl
/-- the numbers in order -/
theorem srtD_nat {F : List Nat} (nd : F.Nodup) : ∃ l, srtD (F.map dN) = l.map dN ∧ Srt l ∧ ∀ x, x ∈ l ↔ x ∈ F := by
  refine ⟨F.mergeSort (fun a b => decide (a ≤ b)), ?_, ?_, fun x => (List.mergeSort_perm _ _).mem_iff⟩
  · exact (List.map_mergeSort (fun a _ b _ => (leD_int a b).symm)).symm
  · have hs := List.pairwise_mergeSort (le := fun a b => decide (a ≤ b)) (fun a b c h1 h2 => by simp at *; omega) (fun a b => by simp; omega) F
    have hd : (F.mergeSort (fun a b => decide (a ≤ b))).Nodup := (List.mergeSort_perm _ _).nodup_iff.mpr nd
    exact List.Pairwise.imp₂ (fun a b h1 h2 => Nat.lt_of_le_of_ne (by simpa using h1) h2) hs hd
theorem srtOk_nat (F : List Nat) : SrtOk (F.map dN) := by
  refine ⟨fun d hd e he => ?_, .inr fun d hd => ?_, fun d hd => ?_, fun d hd => ?_⟩
  · obtain ⟨a, _, rfl⟩ := List.mem_map.mp hd
    obtain ⟨b, _, rfl⟩ := List.mem_map.mp he
    exact (eqOk_of (eqOk_int _ _)).1
  · obtain ⟨a, _, rfl⟩ := List.mem_map.mp hd
    exact ⟨(fun z => nomatch z), (fun xs z => nomatch z)⟩
  · obtain ⟨a, _, rfl⟩ := List.mem_map.mp hd
    rfl
  · obtain ⟨a, _, rfl⟩ := List.mem_map.mp hd
    exact (eqOk_of (eqOk_int a a)).2.2.2
theorem srtOk_str (F : List Str) : SrtOk (F.map PyData.str) := by
  refine ⟨fun d hd e he => ?_, .inr fun d hd => ?_, fun d hd => ?_, fun d hd => ?_⟩
  · obtain ⟨a, _, rfl⟩ := List.mem_map.mp hd
    obtain ⟨b, _, rfl⟩ := List.mem_map.mp he
    exact (eqOk_of (eqOk_str _ _)).1
  · obtain ⟨a, _, rfl⟩ := List.mem_map.mp hd
    exact ⟨(fun z => nomatch z), (fun xs z => nomatch z)⟩
  · obtain ⟨a, _, rfl⟩ := List.mem_map.mp hd
    rfl
  · obtain ⟨a, _, rfl⟩ := List.mem_map.mp hd
    exact (eqOk_of (eqOk_str a a)).2.2.2
theorem srtOk_act (F : List Act) : SrtOk (F.map dA) := by
  refine ⟨fun d hd e he => ?_, .inl fun d hd => ?_, fun d hd => ?_, fun d hd => ?_⟩
  · obtain ⟨a, _, rfl⟩ := List.mem_map.mp hd
    obtain ⟨b, _, rfl⟩ := List.mem_map.mp he
    exact (eqOk_of (eqOk_act _ _)).1
  · obtain ⟨a, _, rfl⟩ := List.mem_map.mp hd
    exact ⟨_, _, rfl⟩
  · obtain ⟨a, _, rfl⟩ := List.mem_map.mp hd
    exact (eqOk_of (eqOk_act a a)).2.1
  · obtain ⟨a, _, rfl⟩ := List.mem_map.mp hd
    exact (eqOk_of (eqOk_act a a)).2.2.2
/-- data of a kind in order: the same items -/
theorem srtD_map {α : Type} (f : α → D) (F : List α) : ∃ l : List α, srtD (F.map f) = l.map f ∧ l.Perm F :=
  ⟨F.mergeSort (fun a b => leD (f a) (f b)), (List.map_mergeSort (f := f) (r := fun a b => leD (f a) (f b)) (s := leD) (fun _ _ _ _ => rfl)).symm, List.mergeSort_perm _ _⟩
/-! ### dicts whose keys are numbers or texts and whose values are True -/
def tru (k : Key) : Key × Rf := (k, .dat (.bool true))
section
variable {α : Type} [DecidableEq α] {f : α → Key} (inj : ∀ a b, f a = f b → a = b)
include inj
theorem lookK_tru (F : List α) (k : α) : (lookK ((F.map f).map tru) (f k)).isSome = decide (k ∈ F) := by
  induction F with
  | nil => simp [lookK]
  | cons x F ih =>
    unfold lookK at ih ⊢
    rw [List.map_cons, List.map_cons, List.find?_cons]
    by_cases h : x = k
    · subst h
      simp [tru]
    · have h1 : decide ((tru (f x)).1 = f k) = false := decide_eq_false fun z => h (inj _ _ z)
      rw [h1]
      simp only [ih]
      have h2 : ¬ k = x := fun z => h z.symm
      simp [h2]
theorem putK_tru (F : List α) (k : α) : putKG ((F.map f).map tru) (f k) (.dat (.bool true)) = ((if k ∈ F then F else F ++ [k]).map f).map tru := by
  have e : (((F.map f).map tru).any fun kv => decide (kv.1 = f k)) = decide (k ∈ F) := by
    rw [List.any_map, List.any_map]
    by_cases h : k ∈ F
    · rw [decide_eq_true h, List.any_eq_true]
      exact ⟨k, h, by simp [tru]⟩
    · rw [decide_eq_false h, List.any_eq_false]
      intro x hx
      intro z
      have z' : f x = f k := of_decide_eq_true z
      exact h (inj _ _ z' ▸ hx)
  unfold putKG
  rw [e]
  by_cases h : k ∈ F
  · rw [if_pos (decide_eq_true h), if_pos h, List.map_map]
    apply List.map_congr_left
    intro x _
    show (if (tru x).1 = f k then ((tru x).1, Rf.dat (.bool true)) else tru x) = tru x
    by_cases e : (tru x).1 = f k
    · rw [if_pos e]; rfl
    · rw [if_neg e]
  · rw [if_neg (by simp [h]), if_neg h, List.map_append, List.map_append]
    rfl
end
def kN (n : Nat) : Key := .inl (n : Nat)
def kS (z : Str) : Key := .inr z
theorem kN_inj (a b : Nat) (h : kN a = kN b) : a = b := by
  unfold kN at h
  have := Sum.inl.inj h
  omega
theorem kS_inj (a b : Str) (h : kS a = kS b) : a = b := Sum.inr.inj h
/-! ### what is reached unseen -/
inductive Un (T : Tab) (p : Str) : Nat → Nat → Prop
  | refl (s : Nat) : Un T p s s
  | tail {s t : Nat} {e : Act × Nat} : Un T p s t → e ∈ T.row t → conc e.1 p = false → Un T p s e.2
theorem Un.head {T : Tab} {p : Str} {s t : Nat} {e : Act × Nat} (he : e ∈ T.row s) (hc : conc e.1 p = false) (h : Un T p e.2 t) : Un T p s t := by
  generalize hx : e.2 = x at h
  induction h with
  | refl =>
    subst hx
    exact .tail (.refl s) he hc
  | tail _ h2 h3 ih => exact .tail ih h2 h3
theorem Un.trans {T : Tab} {p : Str} {s t u : Nat} (h : Un T p s t) (k : Un T p t u) : Un T p s u := by
  induction k with
  | refl => exact h
  | tail _ h2 h3 ih => exact .tail ih h2 h3
theorem un_closed {T : Tab} {p : Str} {F : List Nat} (hc : ∀ x ∈ F, ∀ e ∈ T.row x, conc e.1 p = false → e.2 ∈ F) {s x : Nat} (hs : s ∈ F) (h : Un T p s x) : x ∈ F := by
  induction h with
  | refl => exact hs
  | tail _ h2 h3 ih => exact hc _ ih _ h2 h3
def aReach (x : Tab × Nat × Str) : List D := [dT x.1, dN x.2.1, .str x.2.2, .bool true]
def pReach (x : Tab × Nat × Str) : Prop := Wf x.1 ∧ x.2.1 < x.1.n
def qReach (x : Tab × Nat × Str) (d : D) : Prop := ∃ l, d = dS l ∧ Srt l ∧ ∀ y, y ∈ l ↔ Un x.1 x.2.2 x.2.1 y
abbrev stR (T : Tab) (s : Nat) (p : Str) (F W : List Nat) (x y : Option Rf) : AS := ⟨[some (.dat (dT T)), some (.dat (dN s)), some (.dat (.str p)), some (.dat (.bool true)), some (.own 0), some (.own 1), x, y], [.dk ((F.map kN).map tru), .lst ((W.map dN).map .dat)]⟩
structure InvR (T : Tab) (s : Nat) (p : Str) (F W : List Nat) : Prop where
  nd : F.Nodup
  le : ∀ x ∈ F, x < T.n ∧ Un T p s x
  sub : ∀ x ∈ W, x ∈ F
  st : s ∈ F
theorem InvR.len {T : Tab} {s : Nat} {p : Str} {F W : List Nat} (h : InvR T s p F W) : F.length ≤ T.n := nodup_len h.nd fun x hx => (h.le x hx).1
theorem rd_reached_unseen {K : PySem.W.Frag} {P : Program} {w : World} {N : List Str} (hN : N.length = 8) : ∀ vs H Q E, spI P w aReach pReach qReach vs H Q E → t_reached_unseen K P w (spI P w aConc (fun _ => True) qConc) { nx := fun _ H' => Q .non H', rt := Q } (L2.start N vs) H := by
  refine fnI fun G x hp => ⟨by rw [hN]; show 4 ≤ 8; decide, ?_⟩
  rw [hN]
  obtain ⟨T, s, p⟩ := x
  obtain ⟨hT, hs⟩ := (show Wf T ∧ s < T.n from hp)
  show AST P w G (t_reached_unseen K P w _) ⟨[some (.dat (dT T)), some (.dat (dN s)), some (.dat (.str p)), some (.dat (.bool true)), none, none, none, none], []⟩ _
  unfold t_reached_unseen
  walk_at "e"
  refine ae_dispK ?_
  walk_at "e"
  refine ⟨kN s, rfl, ?_⟩
  walk_at "e"
  refine ⟨rfl, ?_⟩
  walk_at "e"
  refine ae_lst ?_
  walk_at "e"
  refine ⟨size_big (by show 1 ≤ _; decide), ?_⟩
  refine as_seq (as_while (fun m st => ∃ F W x y, st = stR T s p F W x y ∧ InvR T s p F W ∧ (∀ z ∈ F, z ∉ W → ∀ e ∈ T.row z, conc e.1 p = false → e.2 ∈ F) ∧ m = 2 * (T.n - F.length) + W.length ∧ m ≤ 2 * T.n) _ ⟨[s], [s], none, none, rfl, ⟨by simp, fun x hx => ?_, fun x hx => hx, by simp⟩, fun z hz hn => absurd hz hn, rfl, by simp; omega⟩ ?_)
  · rw [List.mem_singleton.mp hx]
    exact ⟨hs, .refl s⟩
  rintro m st ⟨F, W, x, y, rfl, iv, cl, rfl, hm0⟩
  refine at_truth (ae_var rfl ⟨_, ⟨_, rfl, rfl⟩, fun hb => ?_, fun hb => ?_⟩)
  · -- a turn
    rcases List.eq_nil_or_concat W with rfl | ⟨W, t, rfl⟩
    · cases hb
    rw [List.concat_eq_append] at iv cl ⊢
    have ht : t ∈ F := iv.sub t (by simp)
    have htn := (iv.le t ht).1
    refine as_forT (α := Act × Nat) ?_
    walk_at "e"
    refine ae_pop ?_
    walk_at "e"
    refine ⟨1, (W.map dN).map .dat, .dat (dN t), rfl, by simp [stR], ?_⟩
    walk_at "e"
    refine ⟨T.row t, dE, rfl, fun i st => ∃ F' W' x y, st = stR T s p F' W' x y ∧ InvR T s p F' W' ∧ (∀ z ∈ F', z ∉ W' → z ≠ t → ∀ e ∈ T.row z, conc e.1 p = false → e.2 ∈ F') ∧ t ∈ F' ∧ (∀ j e, j < i → (T.row t)[j]? = some e → conc e.1 p = false → e.2 ∈ F') ∧ 2 * (T.n - F'.length) + W'.length < 2 * (T.n - F.length) + (W ++ [t]).length, ?_, ?_, ?_⟩
    · refine ⟨F, W, x, y, rfl, ⟨iv.nd, iv.le, fun z hz => iv.sub z (by simp [hz]), iv.st⟩, fun z hz hn hne => cl z hz (by simp [hn, hne]), ht, fun j e h => absurd h (by omega), by simp⟩
    · rintro i e st he ⟨F', W', x, y, rfl, iv', cl', ht', dn', hm⟩
      refine ag_pair ?_
      walk_at "e"
      refine ⟨(e.1, p), rfl, trivial, fun d hd => ?_⟩
      have hd : d = .bool (conc e.1 p) := hd
      subst hd
      walk_at "e"
      refine ao_ne (eqOk_bool _ _) ⟨_, rfl, fun hb => ?_, fun hb => ⟨fun h => absurd h (by decide), fun _ => ?_⟩⟩
      · rw [eqv_bool] at hb
        have hcf : conc e.1 p = false := by cases q : conc e.1 p with | false => rfl | true => rw [q] at hb; cases hb
        walk_at "e"
        refine ao_inK (neg := true) (k := kN e.2) (kvs := (F'.map kN).map tru) rfl ⟨_, rfl, fun hb2 => ?_, fun hb2 => ?_⟩
        · have hni : e.2 ∉ F' := by
            rw [lookK_tru kN_inj] at hb2
            simpa using hb2
          have hlt : e.2 < T.n := (hT.row' t).2.2 e (List.mem_of_getElem? he)
          have hun : Un T p s e.2 := .tail (iv.le t ht).2 (List.mem_of_getElem? he) hcf
          have hfl := iv'.len
          refine as_seq (as_asg (ae_bl (ag_sub (ae_var rfl (ae_var rfl (aset_dk (k := kN e.2) (kvs := (F'.map kN).map tru) rfl (size_lt (by rw [List.length_map, List.length_map]; have := hT.le; omega)) ?_))))))
          rw [putK_tru kN_inj, if_neg hni]
          walk_at "e"
          refine ae_append ?_
          walk_at "e"
          have hnd : (F' ++ [e.2]).Nodup := List.nodup_append.mpr ⟨iv'.nd, by simp, fun a ha b hb => by rw [List.mem_singleton.mp hb]; exact fun z => hni (z ▸ ha)⟩
          have iv2 : InvR T s p (F' ++ [e.2]) (W' ++ [e.2]) := by
            refine ⟨hnd, fun z hz => ?_, fun z hz => ?_, by simp [iv'.st]⟩
            · rcases List.mem_append.mp hz with hz | hz
              · exact iv'.le z hz
              · rw [List.mem_singleton.mp hz]
                exact ⟨hlt, hun⟩
            · rcases List.mem_append.mp hz with hz | hz
              · exact List.mem_append_left _ (iv'.sub z hz)
              · exact List.mem_append_right _ hz
          have hwl : W'.length ≤ 10000 := by
            have := hT.le
            rw [List.concat_eq_append] at hm0
            omega
          refine ⟨1, rfl, ⟨_, rfl⟩, ?_⟩
          walk_at "e"
          refine ⟨_, _, rfl, rfl, size_lt (by rw [List.length_map, List.length_map]; omega), ?_⟩
          refine ⟨F' ++ [e.2], W' ++ [e.2], some (.dat (dA e.1)), some (.dat (dN e.2)), ?_, iv2, fun z hz hn hne => ?_, by simp [ht'], fun j e' hj hje hce => ?_, ?_⟩
          · unfold stR
            rw [List.map_append (f := dN), List.map_append (f := Rf.dat)]
            rfl
          · rcases List.mem_append.mp hz with hz | hz
            · intro e' he' hc'
              exact List.mem_append_left _ (cl' z hz (fun h => hn (by simp [h])) hne e' he' hc')
            · exact absurd hz (fun h => hn (List.mem_append_right _ h))
          · by_cases h : j = i
            · subst h
              rw [he] at hje
              cases hje
              simp
            · exact List.mem_append_left _ (dn' j e' (by omega) hje hce)
          · have h1 := iv2.len
            have h2 : (F' ++ [e.2]).length = F'.length + 1 := by simp
            have h3 : (W' ++ [e.2]).length = W'.length + 1 := by simp
            rw [h2] at h1
            rw [h2, h3]
            omega
        · have hni : e.2 ∈ F' := by
            rw [lookK_tru kN_inj] at hb2
            simpa using hb2
          walk_at "e"
          refine ⟨F', W', _, _, rfl, iv', cl', ht', fun j e' hj hje hce => ?_, hm⟩
          by_cases h : j = i
          · subst h
            rw [he] at hje
            cases hje
            exact hni
          · exact dn' j e' (by omega) hje hce
      · rw [eqv_bool] at hb
        walk_at "e"
        refine ⟨F', W', _, _, rfl, iv', cl', ht', fun j e' hj hje hce => ?_, hm⟩
        by_cases h : j = i
        · subst h
          rw [he] at hje
          cases hje
          rw [hce] at hb
          cases hb
        · exact dn' j e' (by omega) hje hce
    · rintro st ⟨F', W', x, y, rfl, iv', cl', ht', dn', hm⟩
      refine ⟨_, hm, F', W', x, y, rfl, iv', fun z hz hn e he hc => ?_, rfl, by rw [List.concat_eq_append] at hm0; omega⟩
      by_cases hzt : z = t
      · subst hzt
        obtain ⟨j, hj⟩ := List.mem_iff_getElem?.mp he
        exact dn' j e (List.getElem?_eq_some_iff.mp hj).1 hj hc
      · exact cl' z hz hn hzt e he hc
  · -- the end
    have hW : W = [] := by
      cases W with
      | nil => rfl
      | cons a l => cases hb
    subst hW
    obtain ⟨l, e1, e2, e3⟩ := srtD_nat iv.nd
    show AST P w G _ _ _
    walk_at "e"
    refine ar_sorted (x := .own 0) (ds := F.map dN) (.inr (.inl ⟨_, rfl, by rw [List.map_map, List.map_map]; rfl⟩)) (srtOk_nat F) (size_big (by rw [List.length_map]; have := iv.len; have := hT.le; omega)) ?_
    walk_at "e"
    refine ar_tuple (ds := srtD (F.map dN)) rfl ⟨_, rfl, l, by rw [e1]; rfl, e2, fun z => ?_⟩
    rw [e3]
    exact ⟨fun h => (iv.le z h).2, fun h => un_closed (fun x hx e he hc => cl x hx (by simp) e he hc) iv.st h⟩
/-! ### _law_unseen, _law_seen -/
def dL (l : List Nat) : D := .list (l.map dN)
theorem any_nat (F : List Nat) (t : Nat) : ((F.map dN).any fun e => PyData.eqv e (dN t)) = decide (t ∈ F) := by
  rw [List.any_map]
  by_cases h : t ∈ F
  · rw [decide_eq_true h, List.any_eq_true]
    exact ⟨t, h, by show PyData.eqv (dN t) (dN t) = true; unfold dN; rw [eqv_int]; exact decide_eq_true rfl⟩
  · rw [decide_eq_false h, List.any_eq_false]
    intro x hx z
    have z' : PyData.eqv (dN x) (dN t) = true := z
    unfold dN at z'
    rw [eqv_int] at z'
    have := of_decide_eq_true z'
    exact h (by rw [show t = x by omega]; exact hx)
theorem eqOk_nats (F : List Nat) (t : Nat) : ∀ e ∈ F.map dN, eqOk e (dN t) = true := fun e he => by
  obtain ⟨x, _, rfl⟩ := List.mem_map.mp he
  exact eqOk_int _ _
theorem md_snoc {α : Type} (f : α → D) (l : List α) (x : α) : ((l ++ [x]).map f).map Rf.dat = (l.map f).map .dat ++ [.dat (f x)] := by
  rw [List.map_append, List.map_append]
  rfl
def aUnseen (x : Tab × List Nat × Str) : List D := [dT x.1, dL x.2.1, .str x.2.2]
def pUnseen (x : Tab × List Nat × Str) : Prop := Wf x.1 ∧ (∀ y ∈ x.2.1, y < x.1.n) ∧ x.2.1.length ≤ 300
def qUnseen (x : Tab × List Nat × Str) (d : D) : Prop := ∃ l, d = dL l ∧ Srt l ∧ ∀ y, y ∈ l ↔ ∃ s ∈ x.2.1, Un x.1 x.2.2 s y
structure InvU (T : Tab) (S : List Nat) (p : Str) (F W : List Nat) : Prop where
  nd : F.Nodup
  le : ∀ x, x ∈ F ∨ x ∈ W → x < T.n ∧ ∃ s ∈ S, Un T p s x
  st : ∀ s ∈ S, s ∈ F ∨ s ∈ W
abbrev stU (T : Tab) (S : List Nat) (p : Str) (F W : List Nat) (k x y z : Option Rf) : AS := ⟨[some (.dat (dT T)), some (.dat (dL S)), some (.dat (.str p)), some (.own 0), some (.own 1), k, x, y, z], [.lst ((F.map dN).map .dat), .lst ((W.map dN).map .dat)]⟩
theorem rd__law_unseen {K : PySem.W.Frag} {P : Program} {w : World} {N : List Str} (hN : N.length = 9) : ∀ vs H Q E, spI P w aUnseen pUnseen qUnseen vs H Q E → t__law_unseen K P w { nx := fun _ H' => Q .non H', rt := Q } (L2.start N vs) H := by
  refine fnI fun G x hp => ⟨by rw [hN]; show 3 ≤ 9; decide, ?_⟩
  rw [hN]
  obtain ⟨T, S, p⟩ := x
  obtain ⟨hT, hS, hSl⟩ := (show Wf T ∧ (∀ y ∈ S, y < T.n) ∧ S.length ≤ 300 from hp)
  show AST P w G (t__law_unseen K P w) ⟨[some (.dat (dT T)), some (.dat (dL S)), some (.dat (.str p)), none, none, none, none, none, none], []⟩ _
  unfold t__law_unseen
  walk_at "e"
  refine ae_lst ?_
  walk_at "e"
  refine ⟨Nat.zero_le _, ?_⟩
  walk_at "e"
  refine ar_list (ds := S.map dN) rfl ?_
  refine as_seq (as_forR ?_)
  walk_at "e"
  have fin : ∀ {F : List Nat}, InvU T S p F [] → (∀ x ∈ F, ∀ e ∈ T.row x, conc e.1 p = false → e.2 ∈ F ∨ e.2 ∈ ([] : List Nat)) → ∃ l, srtD (F.map dN) = l.map dN ∧ Srt l ∧ ∀ y, y ∈ l ↔ ∃ s ∈ S, Un T p s y := by
    intro F iv cl
    obtain ⟨l, e1, e2, e3⟩ := srtD_nat iv.nd
    refine ⟨l, e1, e2, fun y => ?_⟩
    rw [e3]
    refine ⟨fun h => (iv.le y (.inl h)).2, fun ⟨s, hs, h⟩ => ?_⟩
    refine un_closed (fun x hx e he hc => ?_) ?_ h
    · rcases cl x hx e he hc with h | h
      · exact h
      · cases h
    · rcases iv.st s hs with h | h
      · exact h
      · cases h
  refine ⟨100000, rfl, by decide, fun k st => ∃ F W k' x y z, st = stU T S p F W k' x y z ∧ InvU T S p F W ∧ (∀ x ∈ F, ∀ e ∈ T.row x, conc e.1 p = false → e.2 ∈ F ∨ e.2 ∈ W) ∧ k + W.length ≤ S.length + 300 * F.length, ?_, ?_, ?_⟩
  · exact ⟨[], S, none, none, none, none, rfl, ⟨List.nodup_nil, fun x hx => ⟨hS x (hx.resolve_left (by simp)), x, hx.resolve_left (by simp), .refl x⟩, fun s hs => .inr hs⟩, (fun x hx => nomatch hx), by simp⟩
  · rintro k st hk ⟨F, W, k', x, y, z, rfl, iv, cl, hm⟩
    have hF : F.length ≤ T.n := nodup_len iv.nd fun x hx => (iv.le x (.inl hx)).1
    have hn := hT.le
    refine ag_name ?_
    refine as_seq (as_if (at_not (at_truth (ae_var rfl ⟨_, ⟨_, rfl, rfl⟩, fun hb => ?_, fun hb => ?_⟩))))
    · have hW : W = [] := by
        cases W with
        | nil => rfl
        | cons a l => cases hb
      subst hW
      obtain ⟨l, e1, e2, e3⟩ := fin iv cl
      walk_at "e"
      exact ar_sorted (x := .own 0) (ds := F.map dN) (.inl rfl) (srtOk_nat F) (size_big (by rw [List.length_map]; omega)) ⟨_, rfl, l, by rw [e1]; rfl, e2, e3⟩
    · rcases List.eq_nil_or_concat W with rfl | ⟨W, t, rfl⟩
      · cases hb
      rw [List.concat_eq_append] at iv cl hm ⊢
      have hlt := iv.le t (.inr (by simp))
      have hwl : (W ++ [t]).length = W.length + 1 := by simp
      rw [hwl] at hm
      walk_at "e"
      refine ae_pop ?_
      walk_at "e"
      refine ⟨1, (W.map dN).map .dat, .dat (dN t), rfl, by show some (Ct.lst _) = _; rw [md_snoc], ?_⟩
      walk_at "e"
      refine ao_inL (neg := true) (ds := F.map dN) rfl (eqOk_nats F t) ⟨_, rfl, fun hb2 => ?_, fun hb2 => ?_⟩
      · rw [any_nat] at hb2
        have hni : t ∉ F := by simpa using hb2
        walk_at "e"
        refine ae_append ?_
        walk_at "e"
        refine ⟨0, rfl, ⟨_, rfl⟩, ?_⟩
        walk_at "e"
        refine ⟨_, _, rfl, rfl, size_lt (by rw [List.length_map, List.length_map]; omega), ?_⟩
        have hnd : (F ++ [t]).Nodup := List.nodup_append.mpr ⟨iv.nd, by simp, fun a ha b hb => by rw [List.mem_singleton.mp hb]; exact fun z => hni (z ▸ ha)⟩
        have htn := hlt.1
        refine as_forT (α := Act × Nat) ?_
        walk_at "e"
        refine ⟨T.row t, dE, rfl, fun i st => ∃ W' k' x y z, st = stU T S p (F ++ [t]) W' k' x y z ∧ InvU T S p (F ++ [t]) W' ∧ (∀ x ∈ F, ∀ e ∈ T.row x, conc e.1 p = false → e.2 ∈ F ++ [t] ∨ e.2 ∈ W') ∧ (∀ j e, j < i → (T.row t)[j]? = some e → conc e.1 p = false → e.2 ∈ F ++ [t] ∨ e.2 ∈ W') ∧ W'.length ≤ W.length + i, ?_, ?_, ?_⟩
        · refine ⟨W, some (.dat (.int k)), some (.dat (dN t)), y, z, ?_, ⟨hnd, fun x hx => ?_, fun s hs => ?_⟩, fun x hx e he hc => ?_, fun j e h => absurd h (by omega), by omega⟩
          · unfold stU
            rw [md_snoc dN F t]
            rfl
          · refine iv.le x ?_
            simp at hx ⊢
            rcases hx with (h | h) | h
            · exact .inl h
            · exact .inr (.inr h)
            · exact .inr (.inl h)
          · have := iv.st s hs
            simp at this ⊢
            rcases this with h | h | h
            · exact .inl (.inl h)
            · exact .inr h
            · exact .inl (.inr h)
          · have := cl x hx e he hc
            simp at this ⊢
            rcases this with h | h | h
            · exact .inl (.inl h)
            · exact .inr h
            · exact .inl (.inr h)
        · rintro i e st he ⟨W', k', x, y, z, rfl, iv', cl', dn', hl'⟩
          have hri := (List.getElem?_eq_some_iff.mp he).1
          have hrl := (hT.row' t).1
          refine ag_pair ?_
          refine as_if (at_test (ae_inAct ?_))
          walk_at "e"
          refine ⟨p, e.1.1, e.1.2.1, rfl, rfl, rfl, _, rfl, fun hb => ?_, fun hb => ?_⟩
          · have hcf : conc e.1 p = false := by
              unfold conc
              cases q : (decide (e.1.1 = p) || decide (e.1.2.1 = p)) with
              | false => rfl
              | true => rw [q] at hb; cases hb
            walk_at "e"
            refine ae_append ?_
            walk_at "e"
            refine ⟨1, rfl, ⟨_, rfl⟩, ?_⟩
            walk_at "e"
            refine ⟨_, _, rfl, rfl, size_lt (by rw [List.length_map, List.length_map]; omega), ?_⟩
            refine ⟨W' ++ [e.2], k', x, some (.dat (dA e.1)), some (.dat (dN e.2)), ?_, ⟨hnd, fun u hu => ?_, fun s hs => ?_⟩, fun u hu e' he' hc' => ?_, fun j e' hj hje hc' => ?_, by simp; omega⟩
            · unfold stU
              rw [md_snoc dN W']
              rfl
            · rcases hu with hu | hu
              · exact iv'.le u (.inl hu)
              · rcases List.mem_append.mp hu with hu | hu
                · exact iv'.le u (.inr hu)
                · rw [List.mem_singleton.mp hu]
                  obtain ⟨s, hs, hus⟩ := hlt.2
                  exact ⟨(hT.row' t).2.2 e (List.mem_of_getElem? he), s, hs, .tail hus (List.mem_of_getElem? he) hcf⟩
            · rcases iv'.st s hs with h | h
              · exact .inl h
              · exact .inr (List.mem_append_left _ h)
            · rcases cl' u hu e' he' hc' with h | h
              · exact .inl h
              · exact .inr (List.mem_append_left _ h)
            · by_cases h : j = i
              · subst h
                rw [he] at hje
                cases hje
                exact .inr (by simp)
              · rcases dn' j e' (by omega) hje hc' with h | h
                · exact .inl h
                · exact .inr (List.mem_append_left _ h)
          · walk_at "e"
            refine ⟨W', k', x, some (.dat (dA e.1)), some (.dat (dN e.2)), rfl, iv', cl', fun j e' hj hje hc' => ?_, by omega⟩
            by_cases h : j = i
            · subst h
              rw [he] at hje
              cases hje
              unfold conc at hc'
              rw [hc'] at hb
              cases hb
            · exact dn' j e' (by omega) hje hc'
        · rintro st ⟨W', k', x, y, z, rfl, iv', cl', dn', hl'⟩
          refine ⟨F ++ [t], W', k', x, y, z, rfl, iv', fun u hu e he hc => ?_, ?_⟩
          · rcases List.mem_append.mp hu with hu | hu
            · exact cl' u hu e he hc
            · rw [List.mem_singleton.mp hu] at he
              obtain ⟨j, hj⟩ := List.mem_iff_getElem?.mp he
              exact dn' j e (List.getElem?_eq_some_iff.mp hj).1 hj hc
          · have hrl := (hT.row' t).1
            rw [List.length_append, List.length_singleton]
            omega
      · rw [any_nat] at hb2
        have hin : t ∈ F := by simpa using hb2
        walk_at "e"
        refine ⟨F, W, some (.dat (.int k)), some (.dat (dN t)), y, z, rfl, ⟨iv.nd, fun u hu => iv.le u ?_, fun s hs => ?_⟩, fun u hu e he hc => ?_, by omega⟩
        · rcases hu with h | h
          · exact .inl h
          · exact .inr (by simp [h])
        · have := iv.st s hs
          simp at this
          rcases this with h | h | h
          · exact .inl h
          · exact .inr h
          · exact .inl (h ▸ hin)
        · have := cl u hu e he hc
          simp at this
          rcases this with h | h | h
          · exact .inl h
          · exact .inr h
          · exact .inl (h ▸ hin)
  · rintro st ⟨F, W, k', x, y, z, rfl, iv, cl, hm⟩
    have hF : F.length ≤ T.n := nodup_len iv.nd fun x hx => (iv.le x (.inl hx)).1
    have hn := hT.le
    omega
def aSeen (x : Tab × List Nat × Str × Act) : List D := [dT x.1, dL x.2.1, .str x.2.2.1, dA x.2.2.2]
def pSeen (x : Tab × List Nat × Str × Act) : Prop := Wf x.1 ∧ (∀ y ∈ x.2.1, y < x.1.n) ∧ x.2.1.length ≤ 300
def qSeen (x : Tab × List Nat × Str × Act) (d : D) : Prop := ∃ l, d = dL l ∧ Srt l ∧ ∀ y, y ∈ l ↔ ∃ s ∈ x.2.1, ∃ g, x.1.step s x.2.2.2 = some g ∧ Un x.1 x.2.2.1 g y
theorem fmt_snoc {α β : Type} (f : α → Option β) {l : List α} {i : Nat} {x : α} (h : l[i]? = some x) : (l.take (i + 1)).filterMap f = (l.take i).filterMap f ++ (match f x with
    | some y => [y]
    | none => []) := by
  rw [List.take_add_one, h, List.filterMap_append]
  congr 1
  show [x].filterMap f = _
  rw [List.filterMap_cons]
  cases f x <;> rfl
theorem rd__law_seen {K : PySem.W.Frag} {P : Program} {w : World} {N : List Str} (hN : N.length = 7) : ∀ vs H Q E, spI P w aSeen pSeen qSeen vs H Q E → t__law_seen K P w (spI P w aStep pStep qStep) (spI P w aUnseen pUnseen qUnseen) { nx := fun _ H' => Q .non H', rt := Q } (L2.start N vs) H := by
  refine fnI fun G x hp => ⟨by rw [hN]; show 4 ≤ 7; decide, ?_⟩
  rw [hN]
  obtain ⟨T, S, p, a⟩ := x
  obtain ⟨hT, hS, hSl⟩ := (show Wf T ∧ (∀ y ∈ S, y < T.n) ∧ S.length ≤ 300 from hp)
  show AST P w G (t__law_seen K P w _ _) ⟨[some (.dat (dT T)), some (.dat (dL S)), some (.dat (.str p)), some (.dat (dA a)), none, none, none], []⟩ _
  unfold t__law_seen
  walk_at "e"
  refine ae_lst ?_
  walk_at "e"
  refine ⟨Nat.zero_le _, ?_⟩
  refine as_seq (as_forL (α := Nat) ?_)
  walk_at "e"
  have hfl : ∀ i, ((S.take i).filterMap fun s => T.step s a).length ≤ 300 := fun i => by
    have h1 : ((S.take i).filterMap fun s => T.step s a).length ≤ (S.take i).length := List.length_filterMap_le _ _
    rw [List.length_take] at h1
    omega
  refine ⟨S, dN, rfl, fun i st => ∃ x y, st = ⟨[some (.dat (dT T)), some (.dat (dL S)), some (.dat (.str p)), some (.dat (dA a)), some (.own 0), x, y], [.lst ((((S.take i).filterMap fun s => T.step s a).map dN).map .dat)]⟩, ⟨_, _, rfl⟩, ?_, ?_⟩
  · rintro i s st hs ⟨x, y, rfl⟩
    have hfs := fmt_snoc (fun s => T.step s a) hs
    refine ag_name ?_
    walk_at "e"
    refine ⟨(T, s, a), rfl, hS s (List.mem_of_getElem? hs), fun d hd => ?_⟩
    have hd : d = optI (T.step s a) := hd
    subst hd
    walk_at "e"
    rw [isNone_optI]
    refine ⟨_, rfl, fun hb => ?_, fun hb => ?_⟩
    · cases q : T.step s a with
      | none => rw [q] at hb; cases hb
      | some g =>
        rw [q] at hfs
        walk_at "e"
        refine ae_append ?_
        walk_at "e"
        refine ⟨0, rfl, ⟨_, rfl⟩, ?_⟩
        walk_at "e"
        have := hfl i
        refine ⟨_, _, rfl, rfl, size_lt (by rw [List.length_map, List.length_map]; omega), some (.dat (dN s)), some (.dat (dN g)), ?_⟩
        rw [hfs]
        show _ = (⟨_, [.lst ((((S.take i).filterMap (fun s => T.step s a) ++ [g]).map dN).map .dat)]⟩ : AS)
        rw [md_snoc]
        rfl
    · cases q : T.step s a with
      | some g => rw [q] at hb; cases hb
      | none =>
        rw [q] at hfs
        walk_at "e"
        refine ⟨some (.dat (dN s)), some (.dat (optI none)), ?_⟩
        rw [hfs]
        show _ = (⟨_, [.lst ((((S.take i).filterMap (fun s => T.step s a) ++ []).map dN).map .dat)]⟩ : AS)
        rw [List.append_nil]
        rfl
  · rintro st ⟨x, y, rfl⟩
    show AST P w G _ _ _
    rw [List.take_length]
    refine as_frz 0 ((S.filterMap fun s => T.step s a).map dN) rfl ?_
    show AST P w G _ ⟨[some (.dat (dT T)), some (.dat (dL S)), some (.dat (.str p)), some (.dat (dA a)), some (.dat (dL (S.filterMap fun s => T.step s a))), _, _], _⟩ _
    walk_at "e"
    have h300 := hfl S.length
    rw [List.take_length] at h300
    refine ⟨(T, S.filterMap (fun s => T.step s a), p), rfl, ⟨hT, fun y hy => ?_, h300⟩, fun d hd => ?_⟩
    · obtain ⟨s, _, hs⟩ := List.mem_filterMap.mp hy
      exact hT.step_lt hs
    · obtain ⟨l, e1, e2, e3⟩ := hd
      refine ⟨d, rfl, l, e1, e2, fun y => ?_⟩
      rw [e3]
      constructor
      · rintro ⟨g, hg, hu⟩
        obtain ⟨s, hs, hsg⟩ := List.mem_filterMap.mp hg
        exact ⟨s, hs, g, hsg, hu⟩
      · rintro ⟨s, hs, g, hsg, hu⟩
        exact ⟨g, List.mem_filterMap.mpr ⟨s, hs, hsg⟩, hu⟩
/-! ### parties_of, _law_parties -/
def Party (T : Tab) (p : Str) : Prop := ∃ r ∈ T.rows, ∃ e ∈ r, conc e.1 p = true
def dSs (l : List Str) : D := .list (l.map PyData.str)
def aTab (T : Tab) : List D := [dT T]
/-- with a name put behind, if it is new -/
def addS (F : List Str) (p : Str) : List Str := if p ∈ F then F else F ++ [p]
theorem addS_mem {F : List Str} {p q : Str} : q ∈ addS F p ↔ q ∈ F ∨ q = p := by
  unfold addS
  by_cases h : p ∈ F
  · rw [if_pos h]
    exact ⟨.inl, fun z => z.elim id fun z => z ▸ h⟩
  · rw [if_neg h]
    simp
theorem addS_nd {F : List Str} {p : Str} (h : F.Nodup) : (addS F p).Nodup := by
  unfold addS
  by_cases hp : p ∈ F
  · rw [if_pos hp]; exact h
  · rw [if_neg hp]
    exact List.nodup_append.mpr ⟨h, by simp, fun a ha b hb => by rw [List.mem_singleton.mp hb]; exact fun z => hp (z ▸ ha)⟩
theorem addS_len (F : List Str) (p : Str) : (addS F p).length ≤ F.length + 1 := by
  unfold addS
  split
  · omega
  · simp
theorem conc_iff {a : Act} {p : Str} : conc a p = true ↔ a.1 = p ∨ a.2.1 = p := by
  unfold conc
  simp
def accE (F : List Str) (e : Act × Nat) : List Str := addS (addS F e.1.1) e.1.2.1
def accR (F : List Str) (r : List (Act × Nat)) : List Str := r.foldl accE F
def parF (T : Tab) : List Str := T.rows.foldl accR []
/-- the parties in order -/
def parts (T : Tab) : List Str := (parF T).mergeSort (fun a b => leD (.str a) (.str b))
theorem accE_mem {F : List Str} {e : Act × Nat} {p : Str} : p ∈ accE F e ↔ p ∈ F ∨ conc e.1 p = true := by
  unfold accE
  rw [addS_mem, addS_mem, conc_iff]
  constructor
  · rintro ((h | h) | h)
    · exact .inl h
    · exact .inr (.inl h.symm)
    · exact .inr (.inr h.symm)
  · rintro (h | h | h)
    · exact .inl (.inl h)
    · exact .inl (.inr h.symm)
    · exact .inr h.symm
theorem accE_len (F : List Str) (e : Act × Nat) : (accE F e).length ≤ F.length + 2 := by
  unfold accE
  have := addS_len (addS F e.1.1) e.1.2.1
  have := addS_len F e.1.1
  omega
theorem accR_mem {p : Str} : ∀ {r : List (Act × Nat)} {F : List Str}, p ∈ accR F r ↔ p ∈ F ∨ ∃ e ∈ r, conc e.1 p = true
  | [], F => by simp [accR]
  | e :: r, F => by
    show p ∈ accR (accE F e) r ↔ _
    rw [accR_mem, accE_mem]
    simp [or_assoc]
theorem accR_nd : ∀ {r : List (Act × Nat)} {F : List Str}, F.Nodup → (accR F r).Nodup
  | [], F, h => h
  | e :: r, F, h => accR_nd (r := r) (F := accE F e) (addS_nd (addS_nd h))
theorem accR_len : ∀ (r : List (Act × Nat)) (F : List Str), (accR F r).length ≤ F.length + 2 * r.length
  | [], F => by simp [accR]
  | e :: r, F => by
    show (accR (accE F e) r).length ≤ _
    have := accR_len r (accE F e)
    have := accE_len F e
    rw [List.length_cons]
    omega
theorem rows_mem {p : Str} : ∀ {R : List (List (Act × Nat))} {F : List Str}, p ∈ R.foldl accR F ↔ p ∈ F ∨ ∃ r ∈ R, ∃ e ∈ r, conc e.1 p = true
  | [], F => by simp
  | r :: R, F => by
    rw [List.foldl_cons, rows_mem, accR_mem]
    simp [or_assoc]
theorem rows_nd : ∀ {R : List (List (Act × Nat))} {F : List Str}, F.Nodup → (R.foldl accR F).Nodup
  | [], F, h => h
  | r :: R, F, h => rows_nd (R := R) (accR_nd h)
theorem rows_len : ∀ (R : List (List (Act × Nat))) (F : List Str), (∀ r ∈ R, r.length ≤ 300) → (R.foldl accR F).length ≤ F.length + 600 * R.length
  | [], F, _ => by simp
  | r :: R, F, h => by
    rw [List.foldl_cons, List.length_cons]
    have := rows_len R (accR F r) fun r hr => h r (List.mem_cons_of_mem _ hr)
    have := accR_len r F
    have := h r List.mem_cons_self
    omega
theorem mem_parts {T : Tab} {p : Str} : p ∈ parts T ↔ Party T p := by
  unfold parts parF
  rw [(List.mergeSort_perm _ _).mem_iff, rows_mem]
  simp [Party]
theorem parts_nd (T : Tab) : (parts T).Nodup := by
  unfold parts
  rw [(List.mergeSort_perm _ _).nodup_iff]
  exact rows_nd List.nodup_nil
theorem parF_len {T : Tab} (hT : Wf T) : (parF T).length ≤ 180000 := by
  have := rows_len T.rows [] fun r hr => (hT.row r hr).1
  have hn : T.rows.length ≤ 300 := hT.le
  unfold parF
  simp at this
  omega
theorem parts_len {T : Tab} (hT : Wf T) : (parts T).length ≤ 180000 := by
  unfold parts
  rw [(List.mergeSort_perm _ _).length_eq]
  exact parF_len hT
theorem srtD_parts (T : Tab) : srtD ((parF T).map PyData.str) = (parts T).map PyData.str :=
  (List.map_mergeSort (f := PyData.str) (r := fun a b => leD (.str a) (.str b)) (s := leD) (fun _ _ _ _ => rfl)).symm
theorem take_len_le {T : Tab} (hT : Wf T) (i : Nat) : ((T.rows.take i).foldl accR []).length ≤ 180000 := by
  have := rows_len (T.rows.take i) [] fun r hr => (hT.row r (List.mem_of_mem_take hr)).1
  have hn : T.rows.length ≤ 300 := hT.le
  rw [List.length_take] at this
  simp at this
  omega
theorem foldl_take {α β : Type} (f : β → α → β) (b : β) {l : List α} {i : Nat} {x : α} (h : l[i]? = some x) : (l.take (i + 1)).foldl f b = f ((l.take i).foldl f b) x := by
  rw [List.take_add_one, h, List.foldl_append]
  rfl
def qPart (T : Tab) (d : D) : Prop := d = dSs (parts T)
theorem rd_parties_of {K : PySem.W.Frag} {P : Program} {w : World} {N : List Str} (hN : N.length = 5) : ∀ vs H Q E, spI P w aTab Wf qPart vs H Q E → t_parties_of K P w { nx := fun _ H' => Q .non H', rt := Q } (L2.start N vs) H := by
  refine fnI fun G T hT => ⟨by rw [hN]; show 1 ≤ 5; decide, ?_⟩
  rw [hN]
  show AST P w G (t_parties_of K P w) ⟨[some (.dat (dT T)), none, none, none, none], []⟩ _
  unfold t_parties_of
  walk_at "e"
  refine ae_dnewK ?_
  refine as_seq (as_forT (α := List (Act × Nat)) ?_)
  walk_at "e"
  refine ⟨T.rows, dRow, rfl, fun i st => ∃ x y z, st = ⟨[some (.dat (dT T)), some (.own 0), x, y, z], [.dk ((((T.rows.take i).foldl accR []).map kS).map tru)]⟩, ⟨_, _, _, rfl⟩, ?_, ?_⟩
  · rintro i r st hr ⟨x, y, z, rfl⟩
    have hrl := (hT.row r (List.mem_of_getElem? hr)).1
    have hfl := take_len_le hT i
    generalize hF0 : (T.rows.take i).foldl accR [] = F0 at hfl
    refine ag_name ?_
    refine as_forT (α := Act × Nat) ?_
    walk_at "e"
    refine ⟨r, dE, rfl, fun j st => ∃ y z, st = ⟨[some (.dat (dT T)), some (.own 0), some (.dat (dRow r)), y, z], [.dk ((((r.take j).foldl accE F0).map kS).map tru)]⟩, ⟨_, _, rfl⟩, ?_, ?_⟩
    · rintro j e st he ⟨y, z, rfl⟩
      have hlj : ((r.take j).foldl accE F0).length ≤ 181000 := by
        have := accR_len (r.take j) F0
        unfold accR at this
        rw [List.length_take] at this
        omega
      have hsnoc := foldl_take accE F0 he
      generalize hF : (r.take j).foldl accE F0 = F at hlj hsnoc
      have hle2 := addS_len F e.1.1
      refine ag_pair ?_
      refine as_seq (as_asg (ae_bl (ag_sub (ae_var rfl (ae_op (ae_var rfl (ae_int (ao_act0 (aset_dk (k := kS e.1.1) (kvs := (F.map kS).map tru) rfl (size_lt (by rw [List.length_map, List.length_map]; omega)) ?_)))))))))
      rw [putK_tru kS_inj]
      refine as_asg (ae_bl (ag_sub (ae_var rfl (ae_op (ae_var rfl (ae_int (ao_act1 (aset_dk (k := kS e.1.2.1) (kvs := ((addS F e.1.1).map kS).map tru) rfl (size_lt (by rw [List.length_map, List.length_map]; omega)) ?_))))))))
      rw [putK_tru kS_inj]
      refine ⟨some (.dat (dA e.1)), some (.dat (dN e.2)), ?_⟩
      rw [hsnoc]
      rfl
    · rintro st ⟨y, z, rfl⟩
      refine ⟨some (.dat (dRow r)), y, z, ?_⟩
      rw [foldl_take accR [] hr, hF0, List.take_length]
      rfl
  · rintro st ⟨x, y, z, rfl⟩
    show AST P w G _ _ _
    have := parF_len hT
    rw [List.take_length]
    walk_at "e"
    refine ar_sorted (x := .own 0) (ds := (parF T).map PyData.str) (.inr (.inl ⟨_, rfl, by rw [List.map_map, List.map_map]; rfl⟩)) (srtOk_str _) (size_big (by rw [List.length_map]; omega)) ⟨_, rfl, ?_⟩
    rw [srtD_parts]
    rfl
theorem any_str (F : List Str) (t : Str) : ((F.map PyData.str).any fun e => PyData.eqv e (.str t)) = decide (t ∈ F) := by
  rw [List.any_map]
  by_cases h : t ∈ F
  · rw [decide_eq_true h, List.any_eq_true]
    exact ⟨t, h, by show PyData.eqv (.str t) (.str t) = true; rw [eqv_str]; exact decide_eq_true rfl⟩
  · rw [decide_eq_false h, List.any_eq_false]
    intro x hx z
    have z' : PyData.eqv (.str x) (.str t) = true := z
    rw [eqv_str] at z'
    exact h (by rw [← of_decide_eq_true z']; exact hx)
theorem eqOk_strs (F : List Str) (t : Str) : ∀ e ∈ F.map PyData.str, eqOk e (.str t) = true := fun e he => by
  obtain ⟨x, _, rfl⟩ := List.mem_map.mp he
  exact eqOk_str _ _
theorem rd__law_parties {K : PySem.W.Frag} {P : Program} {w : World} {N : List Str} (hN : N.length = 6) : ∀ vs H Q E, spI P w aTab Wf qPart vs H Q E → t__law_parties K P w { nx := fun _ H' => Q .non H', rt := Q } (L2.start N vs) H := by
  refine fnI fun G T hT => ⟨by rw [hN]; show 1 ≤ 6; decide, ?_⟩
  rw [hN]
  show AST P w G (t__law_parties K P w) ⟨[some (.dat (dT T)), none, none, none, none, none], []⟩ _
  unfold t__law_parties
  walk_at "e"
  refine ae_lst ?_
  walk_at "e"
  refine ⟨Nat.zero_le _, ?_⟩
  refine as_seq (as_forT (α := List (Act × Nat)) ?_)
  walk_at "e"
  refine ⟨T.rows, dRow, rfl, fun i st => ∃ x y z u, st = ⟨[some (.dat (dT T)), some (.own 0), x, y, z, u], [.lst ((((T.rows.take i).foldl accR []).map PyData.str).map .dat)]⟩, ⟨_, _, _, _, rfl⟩, ?_, ?_⟩
  · rintro i r st hr ⟨x, y, z, u, rfl⟩
    have hrl := (hT.row r (List.mem_of_getElem? hr)).1
    have hfl := take_len_le hT i
    generalize hF0 : (T.rows.take i).foldl accR [] = F0 at hfl
    refine ag_name ?_
    refine as_forT (α := Act × Nat) ?_
    walk_at "e"
    refine ⟨r, dE, rfl, fun j st => ∃ y z u, st = ⟨[some (.dat (dT T)), some (.own 0), some (.dat (dRow r)), y, z, u], [.lst ((((r.take j).foldl accE F0).map PyData.str).map .dat)]⟩, ⟨_, _, _, rfl⟩, ?_, ?_⟩
    · rintro j e st he ⟨y, z, u, rfl⟩
      have hlj : ((r.take j).foldl accE F0).length ≤ 181000 := by
        have := accR_len (r.take j) F0
        unfold accR at this
        rw [List.length_take] at this
        omega
      have hsnoc := foldl_take accE F0 he
      generalize hF : (r.take j).foldl accE F0 = F at hlj hsnoc
      refine ag_pair ?_
      refine as_forL (α := Str) ?_
      refine ae_lstD ?_
      walk_at "e"
      refine ⟨[.str e.1.1, .str e.1.2.1], rfl, size_big (by show 2 ≤ _; decide), [e.1.1, e.1.2.1], PyData.str, rfl, fun m st => ∃ u, st = ⟨[some (.dat (dT T)), some (.own 0), some (.dat (dRow r)), some (.dat (dA e.1)), some (.dat (dN e.2)), u], [.lst (((([e.1.1, e.1.2.1].take m).foldl addS F).map PyData.str).map .dat)]⟩, ⟨_, rfl⟩, ?_, ?_⟩
      · rintro m q st hq ⟨u, rfl⟩
        have hfold := foldl_take addS F hq
        have hlen : (([e.1.1, e.1.2.1].take m).foldl addS F).length ≤ F.length + 2 := by
          have : ∀ (l : List Str) (F : List Str), (l.foldl addS F).length ≤ F.length + l.length := by
            intro l
            induction l with
            | nil => intro F; simp
            | cons a l ih =>
              intro F
              rw [List.foldl_cons, List.length_cons]
              have := ih (addS F a)
              have := addS_len F a
              omega
          have h1 := this ([e.1.1, e.1.2.1].take m) F
          have h2 : ([e.1.1, e.1.2.1].take m).length ≤ 2 := by rw [List.length_take]; exact Nat.min_le_right _ _
          omega
        generalize hFm : ([e.1.1, e.1.2.1].take m).foldl addS F = Fm at *
        refine ag_name ?_
        walk_at "e"
        refine ao_inL (neg := true) (ds := Fm.map PyData.str) rfl (eqOk_strs Fm q) ⟨_, rfl, fun hb => ?_, fun hb => ?_⟩
        · rw [any_str] at hb
          have hni : q ∉ Fm := by simpa using hb
          walk_at "e"
          refine ae_append ?_
          walk_at "e"
          refine ⟨0, rfl, ⟨_, rfl⟩, ?_⟩
          walk_at "e"
          refine ⟨_, _, rfl, rfl, size_lt (by rw [List.length_map, List.length_map]; omega), some (.dat (.str q)), ?_⟩
          rw [hfold]
          unfold addS
          rw [if_neg hni, md_snoc]
          rfl
        · rw [any_str] at hb
          have hni : q ∈ Fm := by simpa using hb
          walk_at "e"
          refine ⟨some (.dat (.str q)), ?_⟩
          rw [hfold]
          unfold addS
          rw [if_pos hni]
          rfl
      · rintro st ⟨u, rfl⟩
        refine ⟨some (.dat (dA e.1)), some (.dat (dN e.2)), u, ?_⟩
        rw [hsnoc]
        rfl
    · rintro st ⟨y, z, u, rfl⟩
      refine ⟨some (.dat (dRow r)), y, z, u, ?_⟩
      rw [foldl_take accR [] hr, hF0, List.take_length]
      rfl
  · rintro st ⟨x, y, z, u, rfl⟩
    show AST P w G _ _ _
    have := parF_len hT
    rw [List.take_length]
    walk_at "e"
    refine ar_sorted (x := .own 0) (ds := (parF T).map PyData.str) (.inl rfl) (srtOk_str _) (size_big (by rw [List.length_map]; omega)) ⟨_, rfl, ?_⟩
    rw [srtD_parts]
    rfl
/-! ### sights -/
/-- where T may be, told by what p has seen -/
def sv (T : Tab) (p : Str) (v : List Act) : Nat → Prop := v.foldl (fun X a y => ∃ s, X s ∧ ∃ g, T.step s a = some g ∧ Un T p g y) (Un T p 0)
theorem sv_snoc (T : Tab) (p : Str) (v : List Act) (a : Act) : sv T p (v ++ [a]) = fun y => ∃ s, sv T p v s ∧ ∃ g, T.step s a = some g ∧ Un T p g y := by
  unfold sv
  rw [List.foldl_append]
  rfl
theorem view_snoc (r : List Act) (a : Act) (p : Str) : view (r ++ [a]) p = if conc a p = true then view r p ++ [a] else view r p := by
  unfold view
  rw [List.filter_append]
  by_cases h : conc a p = true
  · rw [if_pos h, List.filter_cons, if_pos h, List.filter_nil]
  · rw [if_neg h, List.filter_cons, if_neg h, List.filter_nil, List.append_nil]
theorem Wf.un_lt {T : Tab} (hT : Wf T) {p : Str} {s t : Nat} (h : Un T p s t) (hs : s < T.n) : t < T.n := by
  cases h with
  | refl => exact hs
  | tail _ h2 _ => exact (hT.row' _).2.2 _ h2
theorem Wf.sv_lt {T : Tab} (hT : Wf T) {p : Str} {v : List Act} {y : Nat} (h : sv T p v y) : y < T.n := by
  rcases List.eq_nil_or_concat v with rfl | ⟨v, a, rfl⟩
  · exact hT.un_lt h hT.pos
  · rw [List.concat_eq_append, sv_snoc] at h
    obtain ⟨s, _, g, hg, hu⟩ := h
    exact hT.un_lt hu (hT.step_lt hg)
/-- S is the sight -/
def IsS (X : Nat → Prop) (S : List Nat) : Prop := Srt S ∧ ∀ y, y ∈ S ↔ X y
theorem IsS.ext {X : Nat → Prop} {S S' : List Nat} (h : IsS X S) (k : IsS X S') : S = S' := srt_ext h.1 k.1 fun x => (h.2 x).trans (k.2 x).symm
def SigAt (T : Tab) (r : List Act) (Ss : List (List Nat)) : Prop := Paired (fun p S => IsS (sv T p (view r p)) S) (parts T) Ss
theorem paired_ext {α β : Type} {R : α → β → Prop} (f : ∀ a b b', R a b → R a b' → b = b') : ∀ {l : List α} {m m' : List β}, Paired R l m → Paired R l m' → m = m'
  | _, _, _, .nil, .nil => rfl
  | _, _, _, .cons h t, .cons h' t' => by rw [f _ _ _ h h', paired_ext f t t']
theorem SigAt.ext {T : Tab} {r : List Act} {Ss Ss' : List (List Nat)} (h : SigAt T r Ss) (k : SigAt T r Ss') : Ss = Ss' := paired_ext (R := fun p S => IsS (sv T p (view r p)) S) (fun _ _ _ h k => IsS.ext h k) h k
def dSig (Ss : List (List Nat)) : D := .list (Ss.map dL)
def aSig (x : Tab × List Act × List (List Nat) × Act) : List D := [dT x.1, dSs (parts x.1), dSig x.2.2.1, dA x.2.2.2]
def pSig (x : Tab × List Act × List (List Nat) × Act) : Prop := Wf x.1 ∧ SigAt x.1 x.2.1 x.2.2.1
def qSig (x : Tab × List Act × List (List Nat) × Act) (d : D) : Prop := ∃ Ss, d = dSig Ss ∧ SigAt x.1 (x.2.1 ++ [x.2.2.2]) Ss
theorem paired_take {α β : Type} {R : α → β → Prop} {l : List α} {m : List β} {i : Nat} {x : α} {y : β} (h : Paired R (l.take i) m) (hx : l[i]? = some x) (r : R x y) : Paired R (l.take (i + 1)) (m ++ [y]) := by
  rw [List.take_add_one, hx]
  exact Paired.snoc h r
theorem rd__law_sights {K : PySem.W.Frag} {P : Program} {w : World} {N : List Str} (hN : N.length = 6) : ∀ vs H Q E, spI P w aSig pSig qSig vs H Q E → t__law_sights K P w (spI P w aSeen pSeen qSeen) { nx := fun _ H' => Q .non H', rt := Q } (L2.start N vs) H := by
  refine fnI fun G x hp => ⟨by rw [hN]; show 4 ≤ 6; decide, ?_⟩
  rw [hN]
  obtain ⟨T, r, Ss, a⟩ := x
  obtain ⟨hT, hS⟩ := (show Wf T ∧ SigAt T r Ss from hp)
  show AST P w G (t__law_sights K P w _) ⟨[some (.dat (dT T)), some (.dat (dSs (parts T))), some (.dat (dSig Ss)), some (.dat (dA a)), none, none], []⟩ _
  unfold t__law_sights
  walk_at "e"
  refine ae_lst ?_
  walk_at "e"
  refine ⟨Nat.zero_le _, ?_⟩
  refine as_seq (as_forR ?_)
  walk_at "e"
  refine ar_lenQ (ds := (parts T).map PyData.str) rfl ?_
  walk_at "e"
  have hpl := parts_len hT
  refine ⟨(parts T).length, by rw [List.length_map], by omega, fun i st => ∃ x A, st = ⟨[some (.dat (dT T)), some (.dat (dSs (parts T))), some (.dat (dSig Ss)), some (.dat (dA a)), some (.own 0), x], [.lst ((A.map dL).map .dat)]⟩ ∧ Paired (fun p S => IsS (sv T p (view (r ++ [a]) p)) S) ((parts T).take i) A, ⟨_, [], rfl, .nil⟩, ?_, ?_⟩
  · rintro i st hi ⟨x, A, rfl, hA⟩
    obtain ⟨p, hpi⟩ : ∃ p, (parts T)[i]? = some p := ⟨_, List.getElem?_eq_getElem hi⟩
    obtain ⟨S, hSi, hIs⟩ := Paired.getL hS hpi
    have hAl : A.length ≤ 180000 := by
      have := Paired.len hA
      rw [List.length_take] at this
      omega
    refine ag_name ?_
    refine as_if (at_test (ae_inAct ?_))
    walk_at "e"
    refine ao_seqD (ds := (parts T).map PyData.str) (i := i) (d := .str p) rfl (by rw [List.getElem?_map, hpi]; rfl) ?_
    walk_at "e"
    refine ⟨p, a.1, a.2.1, rfl, rfl, rfl, _, rfl, fun hb => ?_, fun hb => ?_⟩
    · have hc : conc a p = true := hb
      walk_at "e"
      refine ae_append ?_
      walk_at "e"
      refine ⟨0, rfl, ⟨_, rfl⟩, ?_⟩
      walk_at "e"
      refine ao_seqD (ds := Ss.map dL) (i := i) (d := dL S) rfl (by rw [List.getElem?_map, hSi]; rfl) ?_
      walk_at "e"
      refine ao_seqD (ds := (parts T).map PyData.str) (i := i) (d := .str p) rfl (by rw [List.getElem?_map, hpi]; rfl) ?_
      walk_at "e"
      have hSn : ∀ y ∈ S, y < T.n := fun y hy => hT.sv_lt ((hIs.2 y).mp hy)
      refine ⟨(T, S, p, a), rfl, ⟨hT, hSn, Nat.le_trans (srt_len hIs.1 hSn) hT.le⟩, fun d hd => ?_⟩
      obtain ⟨S', rfl, s1, s2⟩ := hd
      walk_at "e"
      refine ⟨_, _, rfl, rfl, size_lt (by rw [List.length_map, List.length_map]; omega), some (.dat (dN i)), A ++ [S'], ?_, paired_take hA hpi ⟨s1, fun y => ?_⟩⟩
      · rw [md_snoc]
        rfl
      · rw [view_snoc, if_pos hc, sv_snoc, s2]
        constructor
        · rintro ⟨s, hs, g, hg⟩
          exact ⟨s, (hIs.2 s).mp hs, g, hg⟩
        · rintro ⟨s, hs, g, hg⟩
          exact ⟨s, (hIs.2 s).mpr hs, g, hg⟩
    · have hc : ¬ conc a p = true := fun z => by rw [show (decide (a.1 = p) || decide (a.2.1 = p)) = conc a p from rfl, z] at hb; cases hb
      walk_at "e"
      refine ae_append ?_
      walk_at "e"
      refine ⟨0, rfl, ⟨_, rfl⟩, ?_⟩
      walk_at "e"
      refine ao_seqD (ds := Ss.map dL) (i := i) (d := dL S) rfl (by rw [List.getElem?_map, hSi]; rfl) ?_
      walk_at "e"
      refine ⟨_, _, rfl, rfl, size_lt (by rw [List.length_map, List.length_map]; omega), some (.dat (dN i)), A ++ [S], ?_, paired_take hA hpi (by rw [view_snoc, if_neg hc]; exact hIs)⟩
      rw [md_snoc]
      rfl
  · rintro st ⟨x, A, rfl, hA⟩
    show AST P w G _ _ _
    rw [List.take_length] at hA
    refine as_frz 0 (A.map dL) rfl ?_
    show AST P w G _ ⟨[some (.dat (dT T)), some (.dat (dSs (parts T))), some (.dat (dSig Ss)), some (.dat (dA a)), some (.dat (dSig A)), _], _⟩ _
    walk_at "e"
    exact ⟨_, rfl, A, rfl, hA⟩
/-! ### offers, fault, faulty -/
/-- an action that one of the parties may send, for all that it has seen -/
def Off (T : Tab) (ps : List Str) (Ss : List (List Nat)) (a : Act) : Prop := ∃ (k : Nat) (p : Str) (S : List Nat), ps[k]? = some p ∧ Ss[k]? = some S ∧ a.1 = p ∧ ∃ s ∈ S, ∃ e ∈ T.row s, e.1 = a
def aOff (x : Tab × List Act × List (List Nat)) : List D := [dT x.1, dSs (parts x.1), dSig x.2.2]
def pOff (x : Tab × List Act × List (List Nat)) : Prop := Wf x.1 ∧ SigAt x.1 x.2.1 x.2.2
def qOff (x : Tab × List Act × List (List Nat)) (d : D) : Prop := ∃ l, d = dActs l ∧ l.length ≤ 90000 ∧ ∀ a, a ∈ l ↔ Off x.1 (parts x.1) x.2.2 a
theorem any_act (F : List Act) (t : Act) : ((F.map dA).any fun e => PyData.eqv e (dA t)) = decide (t ∈ F) := by
  rw [List.any_map]
  by_cases h : t ∈ F
  · rw [decide_eq_true h, List.any_eq_true]
    exact ⟨t, h, by show PyData.eqv (dA t) (dA t) = true; rw [eqv_act]; exact decide_eq_true rfl⟩
  · rw [decide_eq_false h, List.any_eq_false]
    intro x hx z
    have z' : PyData.eqv (dA x) (dA t) = true := z
    rw [eqv_act] at z'
    exact h (by rw [← of_decide_eq_true z']; exact hx)
theorem eqOk_actL (F : List Act) (t : Act) : ∀ e ∈ F.map dA, eqOk e (dA t) = true := fun e he => by
  obtain ⟨x, _, rfl⟩ := List.mem_map.mp he
  exact eqOk_act _ _
/-- all the actions of a table -/
def Tab.acts (T : Tab) : List Act := T.rows.flatMap fun r => r.map (·.1)
theorem Tab.mem_acts {T : Tab} {s : Nat} {e : Act × Nat} (h : e ∈ T.row s) : e.1 ∈ T.acts := by
  unfold Tab.row at h
  rw [List.getD_eq_getElem?_getD] at h
  cases q : T.rows[s]? with
  | none => rw [q] at h; cases h
  | some r =>
    rw [q] at h
    exact List.mem_flatMap.mpr ⟨r, List.mem_of_getElem? q, List.mem_map.mpr ⟨e, h, rfl⟩⟩
theorem flat_len {α β : Type} {f : α → List β} {n : Nat} : ∀ {l : List α}, (∀ x ∈ l, (f x).length ≤ n) → (l.flatMap f).length ≤ n * l.length
  | [], _ => by simp
  | x :: l, h => by
    rw [List.flatMap_cons, List.length_append, List.length_cons]
    have := flat_len (l := l) fun y hy => h y (List.mem_cons_of_mem _ hy)
    have := h x List.mem_cons_self
    rw [Nat.mul_add]
    omega
theorem Wf.acts_len {T : Tab} (hT : Wf T) : T.acts.length ≤ 90000 := by
  have h : T.acts.length ≤ 300 * T.rows.length := flat_len fun r hr => by rw [List.length_map]; exact (hT.row r hr).1
  have : T.rows.length ≤ 300 := hT.le
  omega
theorem nodup_sub {α : Type} [DecidableEq α] : ∀ {l m : List α}, l.Nodup → (∀ x ∈ l, x ∈ m) → l.length ≤ m.length
  | [], _, _, _ => Nat.zero_le _
  | a :: l, m, nd, h => by
    rw [List.nodup_cons] at nd
    have ha := h a List.mem_cons_self
    have := nodup_sub (l := l) (m := m.erase a) nd.2 fun x hx => (List.mem_erase_of_ne (fun z => nd.1 (by rw [← z]; exact hx))).mpr (h x (List.mem_cons_of_mem _ hx))
    rw [List.length_erase_of_mem ha] at this
    have := List.length_pos_of_mem ha
    rw [List.length_cons]
    omega
/-- the fresh ones are put behind -/
def addA (F : List Act) (a : Act) : List Act := if a ∈ F then F else F ++ [a]
theorem addA_mem {F : List Act} {p q : Act} : q ∈ addA F p ↔ q ∈ F ∨ q = p := by
  unfold addA
  by_cases h : p ∈ F
  · rw [if_pos h]
    exact ⟨.inl, fun z => z.elim id fun z => z ▸ h⟩
  · rw [if_neg h]
    simp
theorem addA_nd {F : List Act} {p : Act} (h : F.Nodup) : (addA F p).Nodup := by
  unfold addA
  by_cases hp : p ∈ F
  · rw [if_pos hp]; exact h
  · rw [if_neg hp]
    exact List.nodup_append.mpr ⟨h, by simp, fun a ha b hb => by rw [List.mem_singleton.mp hb]; exact fun z => hp (z ▸ ha)⟩
/-- the list so far: it holds what was met, and nothing but actions of T that may be sent -/
structure InvO (T : Tab) (ps : List Str) (Ss : List (List Nat)) (F : List Act) (k i j : Nat) : Prop where
  nd : F.Nodup
  sound : ∀ a ∈ F, Off T ps Ss a ∧ a ∈ T.acts
  done : ∀ (k' : Nat) p S, k' < k → ps[k']? = some p → Ss[k']? = some S → ∀ s ∈ S, ∀ e ∈ T.row s, e.1.1 = p → e.1 ∈ F
  part : ∀ p S, ps[k]? = some p → Ss[k]? = some S → (∀ (i' : Nat) s, i' < i → S[i']? = some s → ∀ e ∈ T.row s, e.1.1 = p → e.1 ∈ F) ∧ ∀ s, S[i]? = some s → ∀ (j' : Nat) e, j' < j → (T.row s)[j']? = some e → e.1.1 = p → e.1 ∈ F
theorem InvO.len {T : Tab} (hT : Wf T) {ps : List Str} {Ss : List (List Nat)} {F : List Act} {k i j : Nat} (h : InvO T ps Ss F k i j) : F.length ≤ 90000 := Nat.le_trans (nodup_sub h.nd fun a ha => (h.sound a ha).2) hT.acts_len
theorem InvO.nextI {T : Tab} {ps : List Str} {Ss : List (List Nat)} {F : List Act} {k i : Nat} {S : List Nat} {s : Nat} (hS : Ss[k]? = some S) (hs : S[i]? = some s) (h : InvO T ps Ss F k i (T.row s).length) : InvO T ps Ss F k (i + 1) 0 := by
  refine ⟨h.nd, h.sound, h.done, fun p S' hp hS' => ?_⟩
  rw [hS] at hS'
  cases hS'
  refine ⟨fun i' s' hi' hs' e he hep => ?_, fun _ _ _ _ h => absurd h (by omega)⟩
  by_cases q : i' = i
  · subst q
    rw [hs] at hs'
    cases hs'
    obtain ⟨j, hj⟩ := List.mem_iff_getElem?.mp he
    exact (h.part p S hp hS).2 s hs j e (List.getElem?_eq_some_iff.mp hj).1 hj hep
  · exact (h.part p S hp hS).1 i' s' (by omega) hs' e he hep
theorem InvO.nextK {T : Tab} {ps : List Str} {Ss : List (List Nat)} {F : List Act} {k : Nat} {S : List Nat} (hS : Ss[k]? = some S) (h : InvO T ps Ss F k S.length 0) : InvO T ps Ss F (k + 1) 0 0 := by
  refine ⟨h.nd, h.sound, fun k' p S' hk' hp hS' s hs e he hep => ?_, fun p S' hp hS' => ⟨fun _ _ h => absurd h (by omega), fun _ _ _ _ h => absurd h (by omega)⟩⟩
  by_cases q : k' = k
  · subst q
    rw [hS] at hS'
    cases hS'
    obtain ⟨i, hi⟩ := List.mem_iff_getElem?.mp hs
    exact (h.part p S hp hS).1 i s (List.getElem?_eq_some_iff.mp hi).1 hi e he hep
  · exact h.done k' p S' (by omega) hp hS' s hs e he hep
theorem InvO.skip {T : Tab} {ps : List Str} {Ss : List (List Nat)} {F F' : List Act} {k i j : Nat} {S : List Nat} {s : Nat} {e : Act × Nat} (h : InvO T ps Ss F k i j) (hS : Ss[k]? = some S) (hs : S[i]? = some s) (he : (T.row s)[j]? = some e)
    (nd : F'.Nodup) (hF : ∀ a ∈ F', a ∈ F ∨ Off T ps Ss a ∧ a ∈ T.acts) (sub : ∀ a ∈ F, a ∈ F') (hin : ∀ p, ps[k]? = some p → e.1.1 = p → e.1 ∈ F') : InvO T ps Ss F' k i (j + 1) := by
  refine ⟨nd, fun a ha => (hF a ha).elim (h.sound a) id, fun k' p S' hk' hp hS' s hs e he hep => sub _ (h.done k' p S' hk' hp hS' s hs e he hep), fun p S' hp hS' => ⟨fun i' s' hi' hs' e he hep => sub _ ((h.part p S' hp hS').1 i' s' hi' hs' e he hep), fun s' hs' j' e' hj' he' hep => ?_⟩⟩
  rw [hS] at hS'
  cases hS'
  rw [hs] at hs'
  cases hs'
  by_cases q : j' = j
  · subst q
    rw [he] at he'
    cases he'
    exact hin p hp hep
  · exact sub _ ((h.part p S hp hS).2 s hs j' e' (by omega) he' hep)
theorem rd__law_offers {K : PySem.W.Frag} {P : Program} {w : World} {N : List Str} (hN : N.length = 8) : ∀ vs H Q E, spI P w aOff pOff qOff vs H Q E → t__law_offers K P w { nx := fun _ H' => Q .non H', rt := Q } (L2.start N vs) H := by
  refine fnI fun G x hp => ⟨by rw [hN]; show 3 ≤ 8; decide, ?_⟩
  rw [hN]
  obtain ⟨T, r, Ss⟩ := x
  obtain ⟨hT, hS⟩ := (show Wf T ∧ SigAt T r Ss from hp)
  show AST P w G (t__law_offers K P w) ⟨[some (.dat (dT T)), some (.dat (dSs (parts T))), some (.dat (dSig Ss)), none, none, none, none, none], []⟩ _
  unfold t__law_offers
  walk_at "e"
  refine ae_lst ?_
  walk_at "e"
  refine ⟨Nat.zero_le _, ?_⟩
  refine as_seq (as_forR ?_)
  walk_at "e"
  refine ar_lenQ (ds := (parts T).map PyData.str) rfl ?_
  walk_at "e"
  have hpl := parts_len hT
  have hlen := Paired.len hS
  refine ⟨(parts T).length, by rw [List.length_map], by omega, fun k st => ∃ x y z u F, st = ⟨[some (.dat (dT T)), some (.dat (dSs (parts T))), some (.dat (dSig Ss)), some (.own 0), x, y, z, u], [.lst ((F.map dA).map .dat)]⟩ ∧ InvO T (parts T) Ss F k 0 0, ⟨_, _, _, _, [], rfl, ⟨List.nodup_nil, fun a h => (nomatch h), fun _ _ _ h => absurd h (by omega), fun _ _ _ _ => ⟨fun _ _ h => absurd h (by omega), fun _ _ _ _ h => absurd h (by omega)⟩⟩⟩, ?_, ?_⟩
  · rintro k st hk ⟨x, y, z, u, F, rfl, iv⟩
    obtain ⟨p, hpk⟩ : ∃ p, (parts T)[k]? = some p := ⟨_, List.getElem?_eq_getElem hk⟩
    obtain ⟨S, hSk, hIs⟩ := Paired.getL hS hpk
    have hSn : ∀ y ∈ S, y < T.n := fun y hy => hT.sv_lt ((hIs.2 y).mp hy)
    refine ag_name ?_
    refine as_forL (α := Nat) ?_
    walk_at "e"
    refine ao_seqD (ds := Ss.map dL) (i := k) (d := dL S) rfl (by rw [List.getElem?_map, hSk]; rfl) ?_
    refine ⟨S, dN, rfl, fun i st => ∃ y z u F, st = ⟨[some (.dat (dT T)), some (.dat (dSs (parts T))), some (.dat (dSig Ss)), some (.own 0), some (.dat (dN k)), y, z, u], [.lst ((F.map dA).map .dat)]⟩ ∧ InvO T (parts T) Ss F k i 0, ⟨y, z, u, F, rfl, iv⟩, ?_, ?_⟩
    · rintro i s st hs ⟨y, z, u, F, rfl, iv⟩
      have hsn := hSn s (List.mem_of_getElem? hs)
      refine ag_name ?_
      refine as_forT (α := Act × Nat) ?_
      walk_at "e"
      refine ⟨T.row s, dE, rfl, fun j st => ∃ z u F, st = ⟨[some (.dat (dT T)), some (.dat (dSs (parts T))), some (.dat (dSig Ss)), some (.own 0), some (.dat (dN k)), some (.dat (dN s)), z, u], [.lst ((F.map dA).map .dat)]⟩ ∧ InvO T (parts T) Ss F k i j, ⟨z, u, F, rfl, iv⟩, ?_, ?_⟩
      · rintro j e st he ⟨z, u, F, rfl, iv⟩
        have hFl := iv.len hT
        refine ag_pair ?_
        walk_at "e"
        refine ao_seqD (ds := (parts T).map PyData.str) (i := k) (d := .str p) rfl (by rw [List.getElem?_map, hpk]; rfl) ?_
        walk_at "e"
        refine ⟨_, rfl, fun hb => ?_, fun hb => ⟨fun h => absurd h (by decide), fun _ => ?_⟩⟩
        · have hep : e.1.1 = p := of_decide_eq_true hb
          walk_at "e"
          refine ao_inL (neg := true) (ds := F.map dA) rfl (eqOk_actL F e.1) ⟨_, rfl, fun hb => ?_, fun hb => ?_⟩
          · rw [any_act] at hb
            have hni : e.1 ∉ F := by simpa using hb
            walk_at "e"
            refine ae_append ?_
            walk_at "e"
            refine ⟨0, rfl, ⟨_, rfl⟩, ?_⟩
            walk_at "e"
            refine ⟨_, _, rfl, rfl, size_lt (by rw [List.length_map, List.length_map]; omega), some (.dat (dA e.1)), some (.dat (dN e.2)), F ++ [e.1], ?_, ?_⟩
            · rw [md_snoc]
              rfl
            · refine iv.skip hSk hs he (List.nodup_append.mpr ⟨iv.nd, by simp, fun a ha b hb => by rw [List.mem_singleton.mp hb]; exact fun z => hni (z ▸ ha)⟩) (fun a ha => ?_) (fun a ha => List.mem_append_left _ ha) fun _ _ _ => by simp
              rcases List.mem_append.mp ha with ha | ha
              · exact .inl ha
              · rw [List.mem_singleton.mp ha]
                exact .inr ⟨⟨k, p, S, hpk, hSk, hep, s, List.mem_of_getElem? hs, e, List.mem_of_getElem? he, rfl⟩, Tab.mem_acts (List.mem_of_getElem? he)⟩
          · rw [any_act] at hb
            have hni : e.1 ∈ F := by simpa using hb
            walk_at "e"
            exact ⟨some (.dat (dA e.1)), some (.dat (dN e.2)), F, rfl, iv.skip hSk hs he iv.nd (fun a ha => .inl ha) (fun a ha => ha) fun _ _ _ => hni⟩
        · walk_at "e"
          refine ⟨some (.dat (dA e.1)), some (.dat (dN e.2)), F, rfl, iv.skip hSk hs he iv.nd (fun a ha => .inl ha) (fun a ha => ha) fun q hq hqe => ?_⟩
          rw [hpk] at hq
          cases hq
          exact absurd hqe (of_decide_eq_false hb)
      · rintro st ⟨z, u, F, rfl, iv⟩
        exact ⟨some (.dat (dN s)), z, u, F, rfl, iv.nextI hSk hs⟩
    · rintro st ⟨y, z, u, F, rfl, iv⟩
      exact ⟨some (.dat (dN k)), y, z, u, F, rfl, iv.nextK hSk⟩
  · rintro st ⟨x, y, z, u, F, rfl, iv⟩
    show AST P w G _ _ _
    refine as_frz 0 (F.map dA) rfl ?_
    show AST P w G _ ⟨[some (.dat (dT T)), some (.dat (dSs (parts T))), some (.dat (dSig Ss)), some (.dat (dActs F)), _, _, _, _], _⟩ _
    walk_at "e"
    refine ⟨_, rfl, F, rfl, iv.len hT, fun a => ⟨fun ha => (iv.sound a ha).1, ?_⟩⟩
    rintro ⟨k, p, S, hk, hS', hap, s, hs, e, he, rfl⟩
    exact iv.done k p S (List.getElem?_eq_some_iff.mp hk).1 hk hS' s hs e he hap
/-! ### fault, faulty -/
def spNo : Sp := fun _ _ _ _ => False
def Flt (T : Tab) (s : Nat) (Ss : List (List Nat)) : Prop := ∃ a, Off T (parts T) Ss a ∧ T.step s a = none
def aFault (x : Tab × List Act × Nat × List (List Nat)) : List D := [dT x.1, dSs (parts x.1), dN x.2.2.1, dSig x.2.2.2, .str "unready"]
def pFault (x : Tab × List Act × Nat × List (List Nat)) : Prop := Wf x.1 ∧ x.1.walk x.2.1 = some x.2.2.1 ∧ SigAt x.1 x.2.1 x.2.2.2
def qFault (x : Tab × List Act × Nat × List (List Nat)) (d : D) : Prop := ∃ b, d = .bool b ∧ (b = true ↔ Flt x.1 x.2.2.1 x.2.2.2)
theorem rd__law_fault {K : PySem.W.Frag} {P : Program} {w : World} {N : List Str} (hN : N.length = 10) : ∀ vs H Q E, spI P w aFault pFault qFault vs H Q E → t__law_fault K P w spNo (spI P w aOff pOff qOff) (spI P w aStep pStep qStep) { nx := fun _ H' => Q .non H', rt := Q } (L2.start N vs) H := by
  refine fnI fun G x hp => ⟨by rw [hN]; show 5 ≤ 10; decide, ?_⟩
  rw [hN]
  obtain ⟨T, r, s, Ss⟩ := x
  obtain ⟨hT, hr, hS⟩ := (show Wf T ∧ T.walk r = some s ∧ SigAt T r Ss from hp)
  have hs := hT.walk_lt hr
  show AST P w G (t__law_fault K P w _ _ _) ⟨[some (.dat (dT T)), some (.dat (dSs (parts T))), some (.dat (dN s)), some (.dat (dSig Ss)), some (.dat (.str "unready")), none, none, none, none, none], []⟩ _
  unfold t__law_fault
  refine as_seq (as_forL (α := Act) ?_)
  walk_at "e"
  refine ⟨(T, r, Ss), rfl, ⟨hT, hS⟩, fun d hd => ?_⟩
  obtain ⟨l, rfl, hl, hm⟩ := hd
  refine ⟨l, dA, rfl, fun i st => (∃ x, st = ⟨[some (.dat (dT T)), some (.dat (dSs (parts T))), some (.dat (dN s)), some (.dat (dSig Ss)), some (.dat (.str "unready")), x, none, none, none, none], []⟩) ∧ ∀ (j : Nat) a, j < i → l[j]? = some a → T.step s a ≠ none, ⟨⟨_, rfl⟩, fun _ _ h => absurd h (by omega)⟩, ?_, ?_⟩
  · rintro i a st ha ⟨⟨x, rfl⟩, hn⟩
    refine ag_name ?_
    walk_at "e"
    refine ⟨(T, s, a), rfl, hs, fun d hd => ?_⟩
    have hd : d = optI (T.step s a) := hd
    subst hd
    walk_at "e"
    rw [isNone_optI]
    refine ⟨_, rfl, fun hb => ?_, fun hb => ?_⟩
    · walk_at "e"
      refine ⟨_, rfl, fun hb2 => ⟨fun _ => ?_, fun h => absurd h (by decide)⟩, fun hb2 => absurd hb2 (by decide)⟩
      walk_at "e"
      exact ⟨_, rfl, true, rfl, fun _ => ⟨a, (hm a).mp (List.mem_of_getElem? ha), Option.isNone_iff_eq_none.mp hb⟩, fun _ => rfl⟩
    · walk_at "e"
      refine ⟨⟨some (.dat (dA a)), rfl⟩, fun j a' hj ha' => ?_⟩
      by_cases q : j = i
      · subst q
        rw [ha] at ha'
        cases ha'
        intro z
        rw [z] at hb
        cases hb
      · exact hn j a' (by omega) ha'
  · rintro st ⟨⟨x, rfl⟩, hn⟩
    show AST P w G _ _ _
    walk_at "e"
    refine ⟨_, rfl, fun hb2 => ⟨fun _ => ?_, fun h => absurd h (by decide)⟩, fun hb2 => absurd hb2 (by decide)⟩
    walk_at "e"
    refine ⟨_, rfl, false, rfl, ⟨fun h => absurd h (by decide), ?_⟩⟩
    rintro ⟨a, ha, hst⟩
    obtain ⟨j, hj⟩ := List.mem_iff_getElem?.mp ((hm a).mpr ha)
    exact absurd hst (hn j a (List.getElem?_eq_some_iff.mp hj).1 hj)
abbrev Ent := Nat × List (List Nat)
def dEnt (e : Ent) : D := .tuple [dN e.1, dSig e.2]
def dFound (L : List Ent) : D := .list (L.map dEnt)
/-- an entry is that of a run -/
def EntAt (T : Tab) (r : List Act) (e : Ent) : Prop := T.walk r = some e.1 ∧ SigAt T r e.2
def aFaulty (x : Tab × List Ent) : List D := [dT x.1, dFound x.2, .str "unready"]
def pFaulty (x : Tab × List Ent) : Prop := Wf x.1 ∧ x.2.length ≤ 3000 ∧ ∀ e ∈ x.2, ∃ r, EntAt x.1 r e
def qFaulty (x : Tab × List Ent) (d : D) : Prop := ∃ b, d = .bool b ∧ (b = true ↔ ∃ e ∈ x.2, Flt x.1 e.1 e.2)
open Classical in
theorem rd__law_faulty {K : PySem.W.Frag} {P : Program} {w : World} {N : List Str} (hN : N.length = 6) : ∀ vs H Q E, spI P w aFaulty pFaulty qFaulty vs H Q E → t__law_faulty K P w (spI P w aFault pFault qFault) (spI P w aTab Wf qPart) { nx := fun _ H' => Q .non H', rt := Q } (L2.start N vs) H := by
  refine fnI fun G x hp => ⟨by rw [hN]; show 3 ≤ 6; decide, ?_⟩
  rw [hN]
  obtain ⟨T, L⟩ := x
  obtain ⟨hT, hl, hL⟩ := (show Wf T ∧ L.length ≤ 3000 ∧ ∀ e ∈ L, ∃ r, EntAt T r e from hp)
  show AST P w G (t__law_faulty K P w _ _) ⟨[some (.dat (dT T)), some (.dat (dFound L)), some (.dat (.str "unready")), none, none, none], []⟩ _
  unfold t__law_faulty
  walk_at "e"
  refine ⟨T, rfl, hT, fun d hd => ?_⟩
  have hd : d = dSs (parts T) := hd
  subst hd
  walk_at "e"
  refine ae_lcL (α := Ent) ?_
  walk_at "e"
  refine ⟨L, dEnt, fun e : Ent => if Flt T e.1 e.2 then some (.int 1) else none, rfl, size_big (by omega), fun i e he acc => ?_, ?_⟩
  · obtain ⟨r, h1, h2⟩ := hL e (List.mem_of_getElem? he)
    refine agc_pair (by decide) (by decide) ?_
    walk_at "e"
    refine ⟨(T, r, e.1, e.2), rfl, ⟨hT, h1, h2⟩, fun d hd => ?_⟩
    obtain ⟨b, rfl, hb⟩ := hd
    refine ⟨b, rfl, fun q => ?_, fun q => ?_⟩
    · walk_at "e"
      exact ⟨rfl, rfl, _, if_pos (hb.mp q), rfl⟩
    · exact ⟨rfl, rfl, if_neg fun z => by rw [hb.mpr z] at q; cases q⟩
  · walk_at "e"
    refine ar_lenQ (ds := L.filterMap fun e : Ent => if Flt T e.1 e.2 then some (.int 1) else none) rfl ?_
    walk_at "e"
    refine ao_cmp (g := fun i j => decide (j < i)) ⟨_, rfl, _, rfl, ?_⟩
    rw [decide_eq_true_iff]
    constructor
    · intro h
      have h' : 0 < (L.filterMap fun e : Ent => if Flt T e.1 e.2 then some (PyData.int 1) else none).length := by
        have : (0 : Int) < ((L.filterMap fun e : Ent => if Flt T e.1 e.2 then some (PyData.int 1) else none).length : Int) := h
        omega
      obtain ⟨x, hx⟩ := List.exists_mem_of_length_pos h'
      obtain ⟨e, he, hxe⟩ := List.mem_filterMap.mp hx
      by_cases q : Flt T e.1 e.2
      · exact ⟨e, he, q⟩
      · rw [if_neg q] at hxe
        cases hxe
    · rintro ⟨e, he, hf⟩
      have h' : 0 < (L.filterMap fun e : Ent => if Flt T e.1 e.2 then some (PyData.int 1) else none).length := List.length_pos_of_mem (List.mem_filterMap.mpr ⟨e, he, if_pos hf⟩)
      show (0 : Int) < ((L.filterMap fun e : Ent => if Flt T e.1 e.2 then some (PyData.int 1) else none).length : Int)
      omega
/-! ### dicts with nested keys -/
def kd (n : Nat) (d : D) : Prop := keyish d = true ∧ (toN d).depth ≤ n
theorem kd_int (i : Int) : kd 0 (.int i) := ⟨rfl, Nat.le_refl _⟩
theorem kd_str (z : Str) : kd 0 (.str z) := ⟨rfl, Nat.le_refl _⟩
theorem kd_up {n m : Nat} {d : D} (h : kd n d) (l : n ≤ m) : kd m d := ⟨h.1, Nat.le_trans h.2 l⟩
theorem kd_all {n : Nat} : ∀ {ds : List D}, (∀ d ∈ ds, kd n d) → keyishs ds = true ∧ NestedKey.depthAll (toNs ds) ≤ n
  | [], _ => ⟨rfl, by simp [toNs, NestedKey.depthAll]⟩
  | d :: ds, h => by
    have h1 := h d List.mem_cons_self
    have h2 := kd_all fun x hx => h x (List.mem_cons_of_mem _ hx)
    refine ⟨by simp [keyishs, h1.1, h2.1], ?_⟩
    have := h1.2
    have := h2.2
    simp only [toNs, NestedKey.depthAll]
    omega
theorem kd_tup {n : Nat} {ds : List D} (h : ∀ d ∈ ds, kd n d) : kd (n + 1) (.tuple ds) := by
  have := kd_all h
  refine ⟨this.1, ?_⟩
  simp only [toN, NestedKey.depth]
  have := this.2
  omega
theorem kd_ok {n : Nat} {d : D} (h : kd n d) (l : n ≤ 8) : keyOk d = true := by
  unfold keyOk
  rw [h.1, decide_eq_true (Nat.le_trans h.2 l)]
  rfl
theorem kd_inj {n : Nat} {d e : D} (h : kd n d) (k : kd n e) (z : toN d = toN e) : d = e := toN_inj d e h.1 k.1 z
theorem kd_nat (n : Nat) : kd 0 (dN n) := kd_int _
theorem kd_map {α : Type} {f : α → D} {n : Nat} (h : ∀ x, kd n (f x)) (l : List α) : kd (n + 1) (.tuple (l.map f)) := kd_tup fun d hd => by
  obtain ⟨x, _, rfl⟩ := List.mem_map.mp hd
  exact h x
theorem kd_dS (l : List Nat) : kd 1 (dS l) := kd_map kd_nat l
theorem kd_two {n : Nat} {d e : D} (h : kd n d) (k : kd n e) : kd (n + 1) (.tuple [d, e]) := kd_tup fun x hx => by
  rcases List.mem_cons.mp hx with rfl | hx
  · exact h
  · rw [List.mem_singleton.mp hx]
    exact k
theorem kd_dA (a : Act) : kd 1 (dA a) := kd_tup fun x hx => by
  rcases List.mem_cons.mp hx with rfl | hx
  · exact kd_str _
  rcases List.mem_cons.mp hx with rfl | hx
  · exact kd_str _
  · rw [List.mem_singleton.mp hx]
    exact kd_str _
theorem map_inj {α β : Type} {f : α → β} (h : ∀ a b, f a = f b → a = b) : ∀ {l m : List α}, l.map f = m.map f → l = m
  | [], [], _ => rfl
  | [], _ :: _, e => by simp at e
  | _ :: _, [], e => by simp at e
  | a :: l, b :: m, e => by
    rw [List.map_cons, List.map_cons, List.cons.injEq] at e
    rw [h _ _ e.1, map_inj h e.2]
theorem dN_inj (a b : Nat) (h : dN a = dN b) : a = b := by
  have := PyData.int.inj h
  omega
theorem dS_inj (a b : List Nat) (h : dS a = dS b) : a = b := map_inj dN_inj (PyData.tuple.inj h)
theorem dA_inj (a b : Act) (h : dA a = dA b) : a = b := by
  obtain ⟨x, y, z⟩ := a
  obtain ⟨x', y', z'⟩ := b
  have := PyData.tuple.inj h
  simp at this
  obtain ⟨rfl, rfl, rfl⟩ := this
  rfl
section
variable {α β : Type} [DecidableEq α] {f : α → D} (inj : ∀ a b, toN (f a) = toN (f b) → a = b)
include inj
/-- a dict of nested keys, told by keys of one kind -/
theorem lookN_map (g : α → β) (F : List α) (k : α) : lookN (F.map fun x => (f x, g x)) (f k) = if k ∈ F then some (g k) else none := by
  induction F with
  | nil => simp [lookN]
  | cons x F ih =>
    unfold lookN at ih ⊢
    rw [List.map_cons, List.find?_cons]
    by_cases h : x = k
    · subst h
      simp
    · have h1 : decide (toN (f x) = toN (f k)) = false := decide_eq_false fun z => h (inj _ _ z)
      simp only [h1]
      rw [ih]
      have h2 : ¬ k = x := fun z => h z.symm
      simp [h2]
theorem putN_new (g : α → β) {F : List α} {k : α} (h : k ∉ F) : putN (F.map fun x => (f x, g x)) (f k) (g k) = (F ++ [k]).map fun x => (f x, g x) := by
  unfold putN
  rw [lookN_map inj, if_neg h]
  simp
theorem lookN_tru (F : List α) (k : α) : (lookN (F.map fun x => (f x, Rf.dat (.bool true))) (f k)).isSome = decide (k ∈ F) := by
  rw [lookN_map inj (fun _ => Rf.dat (.bool true))]
  by_cases h : k ∈ F
  · rw [if_pos h, decide_eq_true h]; rfl
  · rw [if_neg h, decide_eq_false h]; rfl
end
/-! ### explored -/
section
open Classical in
noncomputable def canon (T : Tab) (X : Nat → Prop) : List Nat := (List.range T.n).filter fun y => decide (X y)
theorem canon_is {T : Tab} {X : Nat → Prop} (h : ∀ y, X y → y < T.n) : IsS X (canon T X) := by
  refine ⟨List.Pairwise.filter _ List.pairwise_lt_range, fun y => ?_⟩
  unfold canon
  rw [List.mem_filter, List.mem_range]
  simp only [decide_eq_true_iff]
  exact ⟨fun z => z.2, fun z => ⟨h y z, z⟩⟩
end
noncomputable def sgt (T : Tab) (p : Str) (v : List Act) : List Nat := canon T (sv T p v)
theorem sgt_is {T : Tab} (hT : Wf T) (p : Str) (v : List Act) : IsS (sv T p v) (sgt T p v) := canon_is fun _ => hT.sv_lt
noncomputable def sigs (T : Tab) (r : List Act) : List (List Nat) := (parts T).map fun p => sgt T p (view r p)
theorem paired_map {α β : Type} {R : α → β → Prop} {f : α → β} (h : ∀ a, R a (f a)) : ∀ l : List α, Paired R l (l.map f)
  | [] => .nil
  | a :: l => .cons (h a) (paired_map h l)
theorem sigs_at {T : Tab} (hT : Wf T) (r : List Act) : SigAt T r (sigs T r) := paired_map (fun p => sgt_is hT p (view r p)) (parts T)
theorem sig_eq {T : Tab} (hT : Wf T) {r : List Act} {Ss : List (List Nat)} (h : SigAt T r Ss) : Ss = sigs T r := h.ext (sigs_at hT r)
theorem map_eq {α β : Type} {f g : α → β} : ∀ {l : List α}, l.map f = l.map g → ∀ x ∈ l, f x = g x
  | [], _, _, h => nomatch h
  | a :: l, e, x, h => by
    rw [List.map_cons, List.map_cons, List.cons.injEq] at e
    rcases List.mem_cons.mp h with rfl | h
    · exact e.1
    · exact map_eq e.2 x h
theorem sv_eq {T : Tab} (hT : Wf T) {p : Str} {v v' : List Act} (h : sgt T p v = sgt T p v') (y : Nat) : sv T p v y ↔ sv T p v' y := by
  rw [← (sgt_is hT p v).2, ← (sgt_is hT p v').2, h]
theorem sgt_eq {T : Tab} {p : Str} {v v' : List Act} (h : ∀ y, sv T p v y ↔ sv T p v' y) : sgt T p v = sgt T p v' := by
  unfold sgt
  rw [funext fun y => propext (h y)]
theorem sgt_snoc {T : Tab} (hT : Wf T) {p : Str} {v v' : List Act} (h : sgt T p v = sgt T p v') (a : Act) : sgt T p (v ++ [a]) = sgt T p (v' ++ [a]) := sgt_eq fun y => by
  rw [sv_snoc, sv_snoc]
  constructor
  · rintro ⟨s, hs, z⟩
    exact ⟨s, (sv_eq hT h s).mp hs, z⟩
  · rintro ⟨s, hs, z⟩
    exact ⟨s, (sv_eq hT h s).mpr hs, z⟩
/-- what comes next depends on the sights alone -/
theorem sigs_step {T : Tab} (hT : Wf T) {r r' : List Act} (h : sigs T r = sigs T r') (a : Act) : sigs T (r ++ [a]) = sigs T (r' ++ [a]) := by
  have e := map_eq h
  refine List.map_congr_left fun p hp => ?_
  have e := e p hp
  rw [view_snoc, view_snoc]
  by_cases c : conc a p = true
  · rw [if_pos c, if_pos c]
    exact sgt_snoc hT e a
  · rw [if_neg c, if_neg c]
    exact e
theorem ent_iff {T : Tab} (hT : Wf T) {r : List Act} {e : Ent} : EntAt T r e ↔ T.walk r = some e.1 ∧ e.2 = sigs T r :=
  ⟨fun h => ⟨h.1, sig_eq hT h.2⟩, fun h => ⟨h.1, h.2 ▸ sigs_at hT r⟩⟩
def Small (T : Tab) : Prop := ∃ L : List Ent, L.length ≤ 3000 ∧ ∀ r s, T.walk r = some s → ∃ e ∈ L, EntAt T r e
def qExp (T : Tab) (d : D) : Prop := (d = .none ∧ ¬ Small T) ∨ ∃ L : List Ent, d = dFound L ∧ L.length ≤ 3000 ∧ (∀ e ∈ L, ∃ r, EntAt T r e) ∧ ∀ r s, T.walk r = some s → ∃ e ∈ L, EntAt T r e
structure InvE (T : Tab) (L : List Ent) : Prop where
  nd : L.Nodup
  sound : ∀ e ∈ L, ∃ r, EntAt T r e
  init : ∃ e ∈ L, EntAt T [] e
def DoneE (T : Tab) (L : List Ent) (i : Nat) : Prop := ∀ (j : Nat) e, j < i → L[j]? = some e → ∀ r, EntAt T r e → ∀ x ∈ T.row e.1, ∃ e' ∈ L, EntAt T (r ++ [x.1]) e'
theorem done_more {T : Tab} {L M : List Ent} {i : Nat} (h : DoneE T L i) (hi : i ≤ L.length) : DoneE T (L ++ M) i := fun j e hj he r hr x hx => by
  rw [List.getElem?_append_left (by omega)] at he
  obtain ⟨e', h1, h2⟩ := h j e hj he r hr x hx
  exact ⟨e', List.mem_append_left _ h1, h2⟩
theorem InvE.all {T : Tab} {L : List Ent} (h : InvE T L) {i : Nat} (d : DoneE T L i) (hi : L.length ≤ i) (r : List Act) : ∀ s, T.walk r = some s → ∃ e ∈ L, EntAt T r e := by
  generalize hn : r.length = n
  induction n generalizing r with
  | zero =>
    rw [List.length_eq_zero_iff.mp hn]
    exact fun _ _ => h.init
  | succ n ih =>
    rcases List.eq_nil_or_concat r with rfl | ⟨r, a, rfl⟩
    · cases hn
    rw [List.concat_eq_append] at hn ⊢
    intro s hs
    rw [T.walk_snoc] at hs
    cases q : T.walk r with
    | none => rw [q] at hs; cases hs
    | some t =>
      rw [q] at hs
      obtain ⟨e, he, hr⟩ := ih r (by simpa using hn) t q
      obtain ⟨j, hj⟩ := List.mem_iff_getElem?.mp he
      have ht : e.1 = t := by
        have := hr.1
        rw [q] at this
        cases this
        rfl
      have := look_mem (show look (T.row t) a = some s from hs)
      exact d j e (Nat.lt_of_lt_of_le (List.getElem?_eq_some_iff.mp hj).1 hi) hj r hr (a, s) (by rw [ht]; exact this)
theorem InvE.big {T : Tab} (hT : Wf T) {L : List Ent} (h : InvE T L) (hl : 3000 < L.length) : ¬ Small T := by
  rintro ⟨M, hM, cov⟩
  have : L.length ≤ M.length := nodup_sub h.nd fun e he => by
    obtain ⟨r, hr⟩ := h.sound e he
    obtain ⟨e', he', hr'⟩ := cov r e.1 hr.1
    have : e' = e := by
      have h1 := (ent_iff hT).mp hr
      have h2 := (ent_iff hT).mp hr'
      have h3 : e'.1 = e.1 := by
        have := h2.1
        rw [h1.1] at this
        exact (Option.some.inj this).symm
      exact Prod.ext h3 (h2.2.trans h1.2.symm)
    rw [← this]
    exact he'
  omega
def dKey (e : Ent) : D := .tuple [dN e.1, .tuple (e.2.map dS)]
theorem kd_dKey (e : Ent) : kd 3 (dKey e) := kd_two (kd_up (kd_nat _) (by omega)) (kd_map kd_dS _)
theorem dKey_inj (a b : Ent) (h : toN (dKey a) = toN (dKey b)) : a = b := by
  have := kd_inj (kd_dKey a) (kd_dKey b) h
  unfold dKey at this
  have := PyData.tuple.inj this
  rw [List.cons.injEq, List.cons.injEq] at this
  exact Prod.ext (dN_inj _ _ this.1) (map_inj dS_inj (PyData.tuple.inj this.2.1))
/-! ### explored: the walk -/
theorem tup_lc {P : Program} {w : World} {G : Hp} {s : AS} {K : Rf → AS → Prop} {KF : PySem.W.Frag} {tl : TE} (h : AE P w G tl s fun r s1 => ∃ Ss : List (List Nat), r = .dat (dSig Ss) ∧ Ss.length ≤ sizeLine ∧ 12 < s1.sl.length ∧ K (.dat (.list (Ss.map dS))) s1) :
    AE P w G (tLc (iSeq KF tl) (gName 12) tYes (tCB (rTuple1 KF) (tCons (tVar 12) tNil)) [12]) s K := by
  refine ae_lcL (α := List Nat) (h.mono fun r s1 ⟨Ss, e, hl, h12, k⟩ => ⟨Ss, dL, fun S => some (dS S), e, hl, fun i S hS acc => ?_, ?_⟩)
  · refine agc_name (by decide) (at_yes ⟨fun _ => ae_cb (aa_cons (ae_var (r := .dat (dL S)) ?_ (aa_nil (ar_tuple (ds := S.map dN) rfl ⟨rfl, ?_, _, rfl, rfl⟩)))), fun h => absurd h (by decide)⟩)
    · show ((s1.sl.set 12 none).set 12 (some (.dat (dL S))))[12]? = _
      rw [List.getElem?_set_self (by rw [List.length_set]; exact h12)]
    · show (((s1.sl.set 12 none).set 12 (some (.dat (dL S)))).set 12 none) = s1.sl.set 12 none
      rw [List.set_set, List.set_set]
  · rw [fm_map]
    exact k
abbrev stE (T : Tab) (L : List Ent) (x4 x5 x6 x7 x8 x9 x10 : Option Rf) : AS := ⟨[some (.dat (dT T)), some (.dat (dSs (parts T))), some (.own 0), some (.own 1), x4, x5, x6, x7, x8, x9, x10, none, none], [.lst ((L.map dEnt).map .dat), .dn (L.map fun e => (dKey e, .dat (.bool true)))]⟩
theorem rd__law_explored {K : PySem.W.Frag} {P : Program} {w : World} {N : List Str} (hN : N.length = 13) : ∀ vs H Q E, spI P w aTab Wf qExp vs H Q E → t__law_explored K P w (spI P w aTab Wf qPart) (spI P w aSig pSig qSig) (spI P w aUnseen pUnseen qUnseen) { nx := fun _ H' => Q .non H', rt := Q } (L2.start N vs) H := by
  refine fnI fun G T hT => ⟨by rw [hN]; show 1 ≤ 13; decide, ?_⟩
  rw [hN]
  show AST P w G (t__law_explored K P w _ _ _) ⟨[some (.dat (dT T)), none, none, none, none, none, none, none, none, none, none, none, none], []⟩ _
  unfold t__law_explored
  have hpl := parts_len hT
  have hsl : ∀ r, (sigs T r).length ≤ 180000 := fun r => by
    unfold sigs
    rw [List.length_map]
    exact hpl
  walk_at "e"
  refine ⟨T, rfl, hT, fun d hd => ?_⟩
  have hd : d = dSs (parts T) := hd
  subst hd
  walk_at "e"
  refine ae_lst (aa_cons (ae_tup ?_))
  walk_at "e"
  refine ae_lcL (α := Str) ?_
  walk_at "e"
  refine ⟨parts T, .str, fun p => some (dL (sgt T p [])), rfl, size_big (by omega), fun i p _ acc => ?_, ?_⟩
  · refine agc_name (by decide) (at_yes ⟨fun _ => ?_, fun h => absurd h (by decide)⟩)
    walk_at "e"
    refine ae_lstD ?_
    walk_at "e"
    refine ⟨[dN 0], rfl, size_big (by show 1 ≤ _; decide), ?_⟩
    walk_at "e"
    refine ⟨(T, [0], p), rfl, ⟨hT, fun y hy => by rw [List.mem_singleton.mp hy]; exact hT.pos, by show 1 ≤ 300; decide⟩, fun d hd => ?_⟩
    obtain ⟨l, rfl, h1, h2⟩ := hd
    refine ⟨rfl, rfl, _, ?_, rfl⟩
    show some (dL (sgt T p [])) = some (dL l)
    rw [IsS.ext (sgt_is hT p []) (S' := l) ⟨h1, fun y => ?_⟩]
    rw [h2]
    constructor
    · rintro ⟨s, hs, z⟩
      rw [List.mem_singleton.mp hs] at z
      exact z
    · intro z
      exact ⟨0, List.mem_singleton.mpr rfl, z⟩
  rw [fm_map, show (parts T).map (fun p => dL (sgt T p [])) = (sigs T []).map dL from by unfold sigs; rw [List.map_map]; rfl]
  walk_at "e"
  refine ⟨_, rfl, size_big (by show 2 ≤ _; decide), ?_⟩
  walk_at "e"
  refine ⟨size_big (by show 1 ≤ _; decide), ?_⟩
  walk_at "e"
  refine ae_dispN (ae_tup ?_)
  walk_at "e"
  refine tup_lc ?_
  walk_at "e"
  refine ao_seqO (xs := [.dat (dEnt (0, sigs T []))]) (i := 0) (r := .dat (dEnt (0, sigs T []))) rfl rfl ?_
  walk_at "e"
  refine ao_seqD (ds := [dN 0, dSig (sigs T [])]) (i := 1) (d := dSig (sigs T [])) rfl rfl ?_
  refine ⟨sigs T [], rfl, size_big (Nat.le_trans (hsl []) (by omega)), by show 12 < 13; decide, ?_⟩
  walk_at "e"
  refine ar_tuple (ds := (sigs T []).map dS) rfl ?_
  walk_at "e"
  refine ⟨_, rfl, size_big (by show 2 ≤ _; decide), _, rfl, kd_ok (kd_dKey (0, sigs T [])) (by omega), ?_⟩
  walk_at "e"
  refine ⟨rfl, ?_⟩
  refine as_seq (as_forR ?_)
  walk_at "e"
  have he0 : EntAt T [] (0, sigs T []) := (ent_iff hT).mpr ⟨rfl, rfl⟩
  refine ⟨3001, rfl, by omega, fun i st => ∃ L x4 x5 x6 x7 x8 x9 x10, st = stE T L x4 x5 x6 x7 x8 x9 x10 ∧ InvE T L ∧ DoneE T L i ∧ i ≤ L.length ∧ L.length ≤ 1 + 300 * i, ⟨[(0, sigs T [])], none, none, none, none, none, none, none, rfl, ⟨by simp, fun e he => ?_, ⟨_, List.mem_singleton.mpr rfl, he0⟩⟩, fun _ _ h => absurd h (by omega), Nat.zero_le _, by simp⟩, ?_, ?_⟩
  · rw [List.mem_singleton.mp he]
    exact ⟨[], he0⟩
  · rintro i st hi ⟨L, x4, x5, x6, x7, x8, x9, x10, rfl, iv, dn, hiL, hLl⟩
    refine ag_name ?_
    walk_at "e"
    refine ar_lenO (xs := (L.map dEnt).map .dat) rfl ?_
    walk_at "e"
    refine ao_cmp (g := fun i j => decide (j ≤ i)) ⟨_, rfl, fun hb => ?_, fun hb => ?_⟩
    · have hle : L.length ≤ i := by
        have := of_decide_eq_true hb
        rw [List.length_map, List.length_map] at this
        omega
      refine as_frz 0 (L.map dEnt) rfl ?_
      walk_at "e"
      exact ⟨_, rfl, .inr ⟨L, rfl, by omega, iv.sound, iv.all dn hle⟩⟩
    · have hlt : i < L.length := by
        have := of_decide_eq_false hb
        rw [List.length_map, List.length_map] at this
        omega
      walk_at "e"
      obtain ⟨e, hei⟩ : ∃ e, L[i]? = some e := ⟨_, List.getElem?_eq_getElem hlt⟩
      obtain ⟨r, hr⟩ := iv.sound e (List.mem_of_getElem? hei)
      refine as_asg ?_
      walk_at "e"
      refine ao_seqO (xs := (L.map dEnt).map .dat) (i := i) (r := .dat (dEnt e)) rfl (by rw [List.getElem?_map, List.getElem?_map, hei]; rfl) ?_
      refine ag_pair ?_
      refine as_forT (α := Act × Nat) ?_
      have hsn : e.1 < T.n := hT.walk_lt hr.1
      walk_at "e"
      have hrow := (hT.row' e.1).1
      refine ⟨T.row e.1, dE, rfl, fun j st => ∃ L' x7 x8 x9 x10, st = stE T L' (some (.dat (dN i))) (some (.dat (dN e.1))) (some (.dat (dSig e.2))) x7 x8 x9 x10 ∧ InvE T L' ∧ DoneE T L' i ∧ L'[i]? = some e ∧ L'.length ≤ 1 + 300 * i + j ∧ ∀ (j' : Nat) x, j' < j → (T.row e.1)[j']? = some x → ∃ e' ∈ L', EntAt T (r ++ [x.1]) e', ⟨L, x7, x8, x9, x10, rfl, iv, dn, hei, by omega, fun _ _ h => absurd h (by omega)⟩, ?_, ?_⟩
      · rintro j x st hx ⟨L', x7, x8, x9, x10, rfl, iv', dn', hei', hLl', dj⟩
        have hj : j < 300 := Nat.lt_of_lt_of_le (List.getElem?_eq_some_iff.mp hx).1 hrow
        refine ag_pair ?_
        walk_at "e"
        refine ⟨(T, r, e.2, x.1), rfl, ⟨hT, hr.2⟩, fun d hd => ?_⟩
        obtain ⟨Ss, rfl, hSs⟩ := hd
        have hSs' := sig_eq hT hSs
        have hSl : Ss.length ≤ 180000 := by rw [hSs']; exact hsl _
        have hstep : T.walk (r ++ [x.1]) = some x.2 := by
          rw [T.walk_snoc, hr.1]
          exact mem_look (hT.row' e.1).2.1 (List.mem_of_getElem? hx)
        have hent : EntAt T (r ++ [x.1]) (x.2, Ss) := ⟨hstep, hSs⟩
        walk_at "e"
        refine ae_tup ?_
        walk_at "e"
        refine tup_lc ?_
        walk_at "e"
        refine ⟨Ss, rfl, size_big (by omega), by show 12 < 13; decide, ?_⟩
        walk_at "e"
        refine ar_tuple (ds := Ss.map dS) rfl ?_
        walk_at "e"
        refine ⟨_, rfl, size_big (by show 2 ≤ _; decide), ?_⟩
        walk_at "e"
        refine ao_inN (neg := true) (i := 1) (kvs := L'.map fun e => (dKey e, .dat (.bool true))) (.inl rfl) (kd_ok (kd_dKey (x.2, Ss)) (by omega)) ⟨_, rfl, fun hb2 => ?_, fun hb2 => ?_⟩
        · have hni : (x.2, Ss) ∉ L' := by
            have hb2 : (!(lookN (L'.map fun e => (dKey e, Rf.dat (.bool true))) (dKey (x.2, Ss))).isSome) = true := hb2
            rw [lookN_tru dKey_inj] at hb2
            simpa using hb2
          refine as_seq (as_asg (ae_bl (ag_sub (ae_var rfl (ae_var rfl (aset_dn (ds := [dN x.2, .tuple (Ss.map dS)]) (kvs := L'.map fun e => (dKey e, .dat (.bool true))) rfl (kd_ok (kd_dKey (x.2, Ss)) (by omega)) (size_lt (by rw [List.length_map]; omega)) ?_))))))
          rw [show PyData.tuple [dN x.2, .tuple (Ss.map dS)] = dKey (x.2, Ss) from rfl, putN_new dKey_inj (fun _ => Rf.dat (.bool true)) hni]
          walk_at "e"
          refine ae_append ?_
          walk_at "e"
          refine ⟨0, rfl, ⟨_, rfl⟩, ?_⟩
          walk_at "e"
          refine ae_tup ?_
          walk_at "e"
          refine ⟨_, rfl, size_big (by show 2 ≤ _; decide), ?_⟩
          walk_at "e"
          refine ⟨_, _, rfl, rfl, size_lt (by rw [List.length_map, List.length_map]; omega), L' ++ [(x.2, Ss)], some (.dat (dA x.1)), some (.dat (dN x.2)), some (.dat (dSig Ss)), some (.dat (dKey (x.2, Ss))), ?_, ⟨?_, fun z hz => ?_, ?_⟩, done_more dn' (by have := (List.getElem?_eq_some_iff.mp hei').1; omega), ?_, ?_, fun j' y hj' hy => ?_⟩
          · unfold stE
            rw [md_snoc]
            rfl
          · exact List.nodup_append.mpr ⟨iv'.nd, by simp, fun a ha b hb => by rw [List.mem_singleton.mp hb]; exact fun z => hni (z ▸ ha)⟩
          · rcases List.mem_append.mp hz with hz | hz
            · exact iv'.sound z hz
            · rw [List.mem_singleton.mp hz]
              exact ⟨_, hent⟩
          · obtain ⟨z, h1, h2⟩ := iv'.init
            exact ⟨z, List.mem_append_left _ h1, h2⟩
          · rw [List.getElem?_append_left (List.getElem?_eq_some_iff.mp hei').1]
            exact hei'
          · rw [List.length_append]
            show _ + 1 ≤ _
            omega
          · by_cases q : j' = j
            · subst q
              rw [hx] at hy
              cases hy
              exact ⟨_, List.mem_append_right _ (List.mem_singleton.mpr rfl), hent⟩
            · obtain ⟨z, h1, h2⟩ := dj j' y (by omega) hy
              exact ⟨z, List.mem_append_left _ h1, h2⟩
        · have hin : (x.2, Ss) ∈ L' := by
            have hb2 : (!(lookN (L'.map fun e => (dKey e, Rf.dat (.bool true))) (dKey (x.2, Ss))).isSome) = false := hb2
            rw [lookN_tru dKey_inj] at hb2
            simpa using hb2
          walk_at "e"
          refine ⟨L', some (.dat (dA x.1)), some (.dat (dN x.2)), some (.dat (dSig Ss)), some (.dat (dKey (x.2, Ss))), rfl, iv', dn', hei', by omega, fun j' y hj' hy => ?_⟩
          by_cases q : j' = j
          · subst q
            rw [hx] at hy
            cases hy
            exact ⟨_, hin, hent⟩
          · exact dj j' y (by omega) hy
      · rintro st ⟨L', x7, x8, x9, x10, rfl, iv', dn', hei', hLl', dj⟩
        refine ⟨L', some (.dat (dN i)), some (.dat (dN e.1)), some (.dat (dSig e.2)), x7, x8, x9, x10, rfl, iv', fun j e2 hj he2 r2 hr2 x hx => ?_, (List.getElem?_eq_some_iff.mp hei').1, by omega⟩
        by_cases q : j = i
        · subst q
          rw [hei'] at he2
          cases he2
          obtain ⟨j', hj'⟩ := List.mem_iff_getElem?.mp hx
          obtain ⟨e', h1, h2⟩ := dj j' x (List.getElem?_eq_some_iff.mp hj').1 hj'
          refine ⟨e', h1, (ent_iff hT).mpr ⟨?_, ?_⟩⟩
          · have := h2.1
            rw [T.walk_snoc, hr.1] at this
            rw [T.walk_snoc, hr2.1]
            exact this
          · rw [((ent_iff hT).mp h2).2]
            exact sigs_step hT (((ent_iff hT).mp hr).2.symm.trans ((ent_iff hT).mp hr2).2) x.1
        · exact dn' j e2 (by omega) he2 r2 hr2 x hx
  · rintro st ⟨L, x4, x5, x6, x7, x8, x9, x10, rfl, iv, dn, hiL, hLl⟩
    show AST P w G _ _ _
    walk_at "e"
    exact ⟨_, rfl, .inl ⟨rfl, iv.big hT (by omega)⟩⟩
/-! ### grouped -/
abbrev Mvs := List (List (Act × List Nat))
def dMe (e : Act × List Nat) : D := .tuple [dA e.1, dS e.2]
def dMr (r : List (Act × List Nat)) : D := .list (r.map dMe)
def dMvs (M : Mvs) : D := .list (M.map dMr)
def Mvs.row (M : Mvs) (s : Nat) : List (Act × List Nat) := M.getD s []
def MvA (M : Mvs) (S : List Nat) (a : Act) : Prop := ∃ s ∈ S, ∃ e ∈ M.row s, e.1 = a
def Mv (M : Mvs) (S : List Nat) (a : Act) (y : Nat) : Prop := ∃ s ∈ S, ∃ e ∈ M.row s, e.1 = a ∧ y ∈ e.2
structure WfM (M : Mvs) : Prop where
  row : ∀ r ∈ M, r.length ≤ 300 ∧ ∀ e ∈ r, ∀ y ∈ e.2, y < 300
theorem WfM.row' {M : Mvs} (h : WfM M) (s : Nat) : (M.row s).length ≤ 300 ∧ ∀ e ∈ M.row s, ∀ y ∈ e.2, y < 300 := by
  unfold Mvs.row
  rw [List.getD_eq_getElem?_getD]
  cases e : M[s]? with
  | none => exact ⟨Nat.zero_le _, fun e he => nomatch he⟩
  | some r => exact h.row r (List.mem_of_getElem? e)
def aGrp (x : List Nat × Mvs) : List D := [dS x.1, dMvs x.2]
def pGrp (x : List Nat × Mvs) : Prop := WfM x.2 ∧ x.1.length ≤ 300 ∧ ∀ s ∈ x.1, s < x.2.length
def addN (F : List Nat) (a : Nat) : List Nat := if a ∈ F then F else F ++ [a]
theorem addN_mem {F : List Nat} {p q : Nat} : q ∈ addN F p ↔ q ∈ F ∨ q = p := by
  unfold addN
  by_cases h : p ∈ F
  · rw [if_pos h]
    exact ⟨.inl, fun z => z.elim id fun z => z ▸ h⟩
  · rw [if_neg h]
    simp
theorem addN_nd {F : List Nat} {p : Nat} (h : F.Nodup) : (addN F p).Nodup := by
  unfold addN
  by_cases hp : p ∈ F
  · rw [if_pos hp]; exact h
  · rw [if_neg hp]
    exact List.nodup_append.mpr ⟨h, by simp, fun a ha b hb => by rw [List.mem_singleton.mp hb]; exact fun z => hp (z ▸ ha)⟩
theorem addNs_mem {q : Nat} : ∀ {l F : List Nat}, q ∈ l.foldl addN F ↔ q ∈ F ∨ q ∈ l
  | [], F => by simp
  | x :: l, F => by
    rw [List.foldl_cons, addNs_mem, addN_mem]
    simp [or_assoc]
theorem addNs_nd : ∀ {l F : List Nat}, F.Nodup → (l.foldl addN F).Nodup
  | [], _, h => h
  | x :: l, F, h => by
    rw [List.foldl_cons]
    exact addNs_nd (addN_nd h)
/-- the groups: the actions met, and what each leads to -/
structure Gs where
  F : List Act
  C : Act → List Nat
def gsE (g : Gs) (e : Act × List Nat) : Gs := ⟨addA g.F e.1, fun a => if a = e.1 then e.2.foldl addN (g.C a) else g.C a⟩
def gsR (M : Mvs) (g : Gs) (s : Nat) : Gs := (M.row s).foldl gsE g
structure Gs.Ok (g : Gs) (A : Act → Prop) (Y : Act → Nat → Prop) : Prop where
  nd : g.F.Nodup
  cnd : ∀ a, (g.C a).Nodup
  mem : ∀ a, a ∈ g.F ↔ A a
  cmem : ∀ a y, y ∈ g.C a ↔ Y a y
theorem gsE_ok {g : Gs} {A : Act → Prop} {Y : Act → Nat → Prop} (h : g.Ok A Y) (e : Act × List Nat) : (gsE g e).Ok (fun a => A a ∨ e.1 = a) (fun a y => Y a y ∨ e.1 = a ∧ y ∈ e.2) := by
  refine ⟨addA_nd h.nd, fun a => ?_, fun a => ?_, fun a y => ?_⟩
  · show List.Nodup (if a = e.1 then _ else _)
    by_cases q : a = e.1
    · rw [if_pos q]
      exact addNs_nd (h.cnd a)
    · rw [if_neg q]
      exact h.cnd a
  · show a ∈ addA g.F e.1 ↔ _
    rw [addA_mem, h.mem]
    exact or_congr Iff.rfl eq_comm
  · show y ∈ (if a = e.1 then _ else _) ↔ _
    by_cases q : a = e.1
    · rw [if_pos q, addNs_mem, h.cmem]
      simp [q]
    · rw [if_neg q, h.cmem]
      have : ¬ e.1 = a := fun z => q z.symm
      simp [this]
theorem Gs.Ok.cong {g : Gs} {A A' : Act → Prop} {Y Y' : Act → Nat → Prop} (h : g.Ok A Y) (h1 : ∀ a, A a ↔ A' a) (h2 : ∀ a y, Y a y ↔ Y' a y) : g.Ok A' Y' := ⟨h.nd, h.cnd, fun a => (h.mem a).trans (h1 a), fun a y => (h.cmem a y).trans (h2 a y)⟩
theorem gsL_ok : ∀ {l : List (Act × List Nat)} {g : Gs} {A : Act → Prop} {Y : Act → Nat → Prop}, g.Ok A Y → (l.foldl gsE g).Ok (fun a => A a ∨ ∃ e ∈ l, e.1 = a) (fun a y => Y a y ∨ ∃ e ∈ l, e.1 = a ∧ y ∈ e.2)
  | [], g, A, Y, h => h.cong (fun a => by simp) fun a y => by simp
  | e :: l, g, A, Y, h => by
    rw [List.foldl_cons]
    exact (gsL_ok (gsE_ok h e)).cong (fun a => by simp [or_assoc]) fun a y => by simp [or_assoc]
theorem gsS_ok {M : Mvs} : ∀ {S : List Nat} {g : Gs} {A : Act → Prop} {Y : Act → Nat → Prop}, g.Ok A Y → (S.foldl (gsR M) g).Ok (fun a => A a ∨ MvA M S a) (fun a y => Y a y ∨ Mv M S a y)
  | [], g, A, Y, h => h.cong (fun a => by simp [MvA]) fun a y => by simp [Mv]
  | s :: S, g, A, Y, h => by
    rw [List.foldl_cons]
    exact (gsS_ok (gsL_ok (l := M.row s) h)).cong (fun a => by simp [MvA, or_assoc]) fun a y => by simp [Mv, or_assoc]
def gs0 : Gs := ⟨[], fun _ => []⟩
def qGrp (x : List Nat × Mvs) (kvs : List (D × D)) : Prop := ∃ (F : List Act) (g : Act → List Nat), kvs = F.map (fun a => (dA a, dS (g a))) ∧ F.Nodup ∧ F.length ≤ 90000 ∧ (∀ a, a ∈ F ↔ MvA x.2 x.1 a) ∧ (∀ a, IsS (Mv x.2 x.1 a) (g a)) ∧ F = (x.1.foldl (gsR x.2) gs0).F
theorem gs0_ok : gs0.Ok (fun _ => False) (fun _ _ => False) := ⟨List.nodup_nil, fun _ => List.nodup_nil, fun a => by simp [gs0], fun a y => by simp [gs0]⟩
theorem gs_all (M : Mvs) (S : List Nat) : (S.foldl (gsR M) gs0).Ok (MvA M S) (Mv M S) := (gsS_ok gs0_ok).cong (fun a => by simp) fun a y => by simp
theorem addA_len (F : List Act) (p : Act) : (addA F p).length ≤ F.length + 1 := by
  unfold addA
  split
  · omega
  · simp
theorem gsL_len : ∀ (l : List (Act × List Nat)) (g : Gs), (l.foldl gsE g).F.length ≤ g.F.length + l.length
  | [], g => by simp
  | e :: l, g => by
    rw [List.foldl_cons, List.length_cons]
    have := gsL_len l (gsE g e)
    have : (gsE g e).F.length ≤ g.F.length + 1 := addA_len g.F e.1
    omega
theorem gsS_len {M : Mvs} (hM : WfM M) : ∀ (S : List Nat) (g : Gs), (S.foldl (gsR M) g).F.length ≤ g.F.length + 300 * S.length
  | [], g => by simp
  | s :: S, g => by
    rw [List.foldl_cons, List.length_cons]
    have := gsS_len hM S (gsR M g s)
    have : (gsR M g s).F.length ≤ g.F.length + (M.row s).length := gsL_len _ _
    have := (hM.row' s).1
    omega
theorem gsE_lt {M : Mvs} {e : Act × List Nat} {g : Gs} (he : ∀ y ∈ e.2, y < 300) (h : ∀ a, ∀ y ∈ g.C a, y < 300) : ∀ a, ∀ y ∈ (gsE g e).C a, y < 300 := fun a y hy => by
  have hy : y ∈ (if a = e.1 then e.2.foldl addN (g.C a) else g.C a) := hy
  by_cases q : a = e.1
  · rw [if_pos q, addNs_mem] at hy
    exact hy.elim (h a y) (he y)
  · rw [if_neg q] at hy
    exact h a y hy
/-- where the groups lie -/
structure InvG (m : List Ct) (g : Gs) (ix : Act → Nat) : Prop where
  dn : m[0]? = some (.dn (g.F.map fun a => (dA a, .own (ix a))))
  ok : ∀ a ∈ g.F, ix a ≠ 0 ∧ m[ix a]? = some (.dk (((g.C a).map kN).map tru))
  inj : ∀ a ∈ g.F, ∀ b ∈ g.F, ix a = ix b → a = b
theorem getE_app {m : List Ct} {i : Nat} {c d : Ct} (h : m[i]? = some c) : (m ++ [d])[i]? = some c := by
  rw [List.getElem?_append_left (List.getElem?_eq_some_iff.mp h).1]
  exact h
theorem InvG.old {m : List Ct} {g : Gs} {ix : Act → Nat} (h : InvG m g ix) {d : Ct} : InvG (m ++ [d]) g ix := ⟨getE_app h.dn, fun a ha => ⟨(h.ok a ha).1, getE_app (h.ok a ha).2⟩, h.inj⟩
theorem dA_key (a b : Act) (h : toN (dA a) = toN (dA b)) : a = b := dA_inj _ _ (kd_inj (kd_dA a) (kd_dA b) h)
/-- the groups after k goals of an entry -/
def gsK (g : Gs) (e : Act × List Nat) (k : Nat) : Gs := ⟨addA g.F e.1, fun a => if a = e.1 then (e.2.take k).foldl addN (g.C a) else g.C a⟩
theorem InvG.new {m : List Ct} {g : Gs} {ix : Act → Nat} (h : InvG m g ix) {e : Act × List Nat} (hn : e.1 ∉ g.F) (hC : g.C e.1 = []) : InvG ((m ++ [Ct.dk []]).set 0 (Ct.dn (putN (g.F.map fun a => (dA a, .own (ix a))) (dA e.1) (.own m.length)))) (gsK g e 0) (fun a => if a = e.1 then m.length else ix a) := by
  have h0 : 0 < m.length := (List.getElem?_eq_some_iff.mp h.dn).1
  have hF : (gsK g e 0).F = g.F ++ [e.1] := by
    show addA g.F e.1 = _
    unfold addA
    rw [if_neg hn]
  have e1 : (g.F.map fun a => (dA a, Rf.own (ix a))) = g.F.map fun a => (dA a, Rf.own (if a = e.1 then m.length else ix a)) := List.map_congr_left fun a ha => by
    have : ¬ a = e.1 := fun z => hn (z ▸ ha)
    rw [if_neg this]
  refine ⟨?_, fun a ha => ?_, fun a ha b hb => ?_⟩
  · rw [List.getElem?_set_self (by rw [List.length_append]; omega), e1, hF]
    have := putN_new dA_key (fun a => Rf.own (if a = e.1 then m.length else ix a)) hn
    rw [if_pos rfl] at this
    rw [this]
  · rw [hF] at ha
    by_cases q : a = e.1
    · rw [if_pos q]
      refine ⟨by omega, ?_⟩
      rw [List.getElem?_set_ne (by omega), List.getElem?_append_right (Nat.le_refl _), Nat.sub_self]
      show some (Ct.dk []) = some (.dk (((if a = e.1 then (e.2.take 0).foldl addN (g.C a) else g.C a).map kN).map tru))
      rw [if_pos q, q, hC]
      rfl
    · rw [if_neg q]
      have ha' : a ∈ g.F := (List.mem_append.mp ha).elim id fun z => absurd (List.mem_singleton.mp z) q
      have := h.ok a ha'
      refine ⟨this.1, ?_⟩
      rw [List.getElem?_set_ne (fun z => this.1 z.symm), getE_app this.2]
      show some _ = some (Ct.dk (((if a = e.1 then _ else g.C a).map kN).map tru))
      rw [if_neg q]
  · rw [hF] at ha hb
    have lt : ∀ a ∈ g.F, ix a < m.length := fun a ha => (List.getElem?_eq_some_iff.mp (h.ok a ha).2).1
    have ha' : a ≠ e.1 → a ∈ g.F := fun q => (List.mem_append.mp ha).elim id fun z => absurd (List.mem_singleton.mp z) q
    have hb' : b ≠ e.1 → b ∈ g.F := fun q => (List.mem_append.mp hb).elim id fun z => absurd (List.mem_singleton.mp z) q
    by_cases q : a = e.1
    · by_cases q2 : b = e.1
      · intro _
        rw [q, q2]
      · rw [if_pos q, if_neg q2]
        intro z
        have := lt b (hb' q2)
        omega
    · by_cases q2 : b = e.1
      · rw [if_neg q, if_pos q2]
        intro z
        have := lt a (ha' q)
        omega
      · rw [if_neg q, if_neg q2]
        exact h.inj a (ha' q) b (hb' q2)
theorem InvG.have {m : List Ct} {g : Gs} {ix : Act → Nat} (h : InvG m g ix) {e : Act × List Nat} (hn : e.1 ∈ g.F) : InvG m (gsK g e 0) ix := by
  have hF : (gsK g e 0).F = g.F := by
    show addA g.F e.1 = _
    unfold addA
    rw [if_pos hn]
  have hC : (gsK g e 0).C = g.C := by
    funext a
    show (if a = e.1 then (e.2.take 0).foldl addN (g.C a) else g.C a) = _
    by_cases q : a = e.1
    · rw [if_pos q]; rfl
    · rw [if_neg q]
  exact ⟨hF ▸ h.dn, fun a ha => hC ▸ h.ok a (hF ▸ ha), fun a ha b hb => h.inj a (hF ▸ ha) b (hF ▸ hb)⟩
theorem InvG.put {m : List Ct} {g : Gs} {ix : Act → Nat} {e : Act × List Nat} {k y : Nat} (h : InvG m (gsK g e k) ix) (hy : e.2[k]? = some y) :
    InvG (m.set (ix e.1) (.dk ((((if y ∈ (gsK g e k).C e.1 then (gsK g e k).C e.1 else (gsK g e k).C e.1 ++ [y])).map kN).map tru))) (gsK g e (k + 1)) ix := by
  have hin : e.1 ∈ (gsK g e k).F := addA_mem.mpr (.inr rfl)
  have h1 := h.ok e.1 hin
  refine ⟨?_, fun a ha => ?_, h.inj⟩
  · rw [List.getElem?_set_ne h1.1]
    exact h.dn
  · refine ⟨(h.ok a ha).1, ?_⟩
    by_cases q : a = e.1
    · subst q
      rw [List.getElem?_set_self (List.getElem?_eq_some_iff.mp h1.2).1]
      show some (Ct.dk (((addN ((gsK g e k).C e.1) y).map kN).map tru)) = _
      have : addN ((gsK g e k).C e.1) y = (gsK g e (k + 1)).C e.1 := by
        show addN (if e.1 = e.1 then (e.2.take k).foldl addN (g.C e.1) else g.C e.1) y = (if e.1 = e.1 then (e.2.take (k + 1)).foldl addN (g.C e.1) else g.C e.1)
        rw [if_pos rfl, if_pos rfl, foldl_take addN _ hy]
      rw [this]
    · rw [List.getElem?_set_ne (fun z => q (h.inj a ha e.1 hin z.symm)), (h.ok a ha).2]
      show some (Ct.dk (((if a = e.1 then _ else g.C a).map kN).map tru)) = some (Ct.dk (((if a = e.1 then _ else g.C a).map kN).map tru))
      rw [if_neg q, if_neg q]
theorem nodup_take {α : Type} : ∀ {l : List α} {i : Nat} {a : α}, l.Nodup → l[i]? = some a → a ∉ l.take i
  | [], _, _, _, h => by simp at h
  | x :: l, 0, _, _, _ => by simp
  | x :: l, i + 1, a, nd, h => by
    rw [List.nodup_cons] at nd
    have h' : l[i]? = some a := by simpa using h
    rw [List.take_succ_cons, List.mem_cons]
    rintro (z | z)
    · exact nd.1 (z ▸ List.mem_of_getElem? h')
    · exact nodup_take nd.2 h' z
def srtN (F : List Nat) : List Nat := F.mergeSort (fun a b => leD (dN a) (dN b))
theorem srtD_srtN (F : List Nat) : srtD (F.map dN) = (srtN F).map dN := (List.map_mergeSort (f := dN) (r := fun a b => leD (dN a) (dN b)) (s := leD) (fun _ _ _ _ => rfl)).symm
theorem srtN_is {F : List Nat} (nd : F.Nodup) : IsS (· ∈ F) (srtN F) := by
  obtain ⟨l, e, h1, h2⟩ := srtD_nat nd
  rw [srtD_srtN] at e
  rw [map_inj dN_inj e]
  exact ⟨h1, h2⟩
theorem gs_lt {M : Mvs} (hM : WfM M) : ∀ (l : List (Act × List Nat)) (g : Gs), (∀ e ∈ l, ∀ y ∈ e.2, y < 300) → (∀ a, ∀ y ∈ g.C a, y < 300) → ∀ a, ∀ y ∈ (l.foldl gsE g).C a, y < 300
  | [], _, _, h => h
  | e :: l, g, he, h => by
    rw [List.foldl_cons]
    exact gs_lt hM l (gsE g e) (fun e' h' => he e' (List.mem_cons_of_mem _ h')) (gsE_lt (M := M) (he e List.mem_cons_self) h)
theorem gsS_lt {M : Mvs} (hM : WfM M) : ∀ (S : List Nat) (g : Gs), (∀ a, ∀ y ∈ g.C a, y < 300) → ∀ a, ∀ y ∈ (S.foldl (gsR M) g).C a, y < 300
  | [], _, h => h
  | s :: S, g, h => by
    rw [List.foldl_cons]
    exact gsS_lt hM S (gsR M g s) (gs_lt hM _ _ (hM.row' s).2 h)
theorem gsK_all (g : Gs) (e : Act × List Nat) : gsK g e e.2.length = gsE g e := by
  unfold gsK gsE
  rw [List.take_length]
theorem ao_mv {P : Program} {w : World} {G : Hp} {s : AS} {K : Rf → AS → Prop} {KF : PySem.W.Frag} {M : Mvs} {i : Nat} (h : i < M.length) (k : K (.dat (dMr (M.row i))) s) : AO P w G (rGet KF P w) (.dat (dMvs M)) (.dat (dN i)) s K :=
  ao_seqD (ds := M.map dMr) (i := i) rfl (by
    rw [List.getElem?_map]
    unfold Mvs.row
    rw [List.getD_eq_getElem?_getD, List.getElem?_eq_getElem h]
    rfl) k
theorem rd_grouped {K : PySem.W.Frag} {P : Program} {w : World} {N : List Str} (hN : N.length = 8) : ∀ vs H Q E, spNI P w aGrp pGrp qGrp vs H Q E → t_grouped K P w { nx := fun _ H' => Q .non H', rt := Q } (L2.start N vs) H := by
  refine fnNI fun G x hp => ⟨by rw [hN]; show 2 ≤ 8; decide, ?_⟩
  rw [hN]
  obtain ⟨S, M⟩ := x
  obtain ⟨hM, hSl, hS⟩ := (show WfM M ∧ S.length ≤ 300 ∧ ∀ s ∈ S, s < M.length from hp)
  show AST P w G (t_grouped K P w) ⟨[some (.dat (dS S)), some (.dat (dMvs M)), none, none, none, none, none, none], []⟩ _
  unfold t_grouped
  walk_at "e"
  refine ae_dnewN ?_
  refine as_seq (as_forT (α := Nat) ?_)
  walk_at "e"
  refine ⟨S, dN, rfl, fun i st => ∃ x3 x4 x5 x6 x7 m ix, st = ⟨[some (.dat (dS S)), some (.dat (dMvs M)), some (.own 0), x3, x4, x5, x6, x7], m⟩ ∧ InvG m ((S.take i).foldl (gsR M) gs0) ix, ⟨_, _, _, _, _, _, fun _ => 0, rfl, ⟨rfl, fun a h => (nomatch h), fun a h => (nomatch h)⟩⟩, ?_, ?_⟩
  · rintro i s st hs ⟨x3, x4, x5, x6, x7, m, ix, rfl, ig⟩
    have hsn : s < M.length := hS s (List.mem_of_getElem? hs)
    have hlen : ((S.take i).foldl (gsR M) gs0).F.length ≤ 90000 := by
      have := gsS_len hM (S.take i) gs0
      rw [List.length_take] at this
      have : gs0.F.length = 0 := rfl
      omega
    have hlt : ∀ a, ∀ y ∈ ((S.take i).foldl (gsR M) gs0).C a, y < 300 := gsS_lt hM _ _ fun a y h => (nomatch h)
    have hok := gs_all M (S.take i)
    generalize hg0 : (S.take i).foldl (gsR M) gs0 = g0 at ig hlen hlt hok
    refine ag_name ?_
    refine as_forL (α := Act × List Nat) ?_
    walk_at "e"
    refine ao_mv hsn ⟨M.row s, dMe, rfl, fun j st => ∃ x4 x5 x6 x7 m ix, st = ⟨[some (.dat (dS S)), some (.dat (dMvs M)), some (.own 0), some (.dat (dN s)), x4, x5, x6, x7], m⟩ ∧ InvG m (((M.row s).take j).foldl gsE g0) ix, ⟨x4, x5, x6, x7, m, ix, rfl, ig⟩, ?_, ?_⟩
    · rintro j e st he ⟨x4, x5, x6, x7, m, ix, rfl, ig⟩
      have hl1 : (((M.row s).take j).foldl gsE g0).F.length ≤ 91000 := by
        have := gsL_len ((M.row s).take j) g0
        have h2 := (hM.row' s).1
        rw [List.length_take] at this
        omega
      have hemem := List.mem_of_getElem? he
      have hlt1 : ∀ a, ∀ y ∈ (((M.row s).take j).foldl gsE g0).C a, y < 300 := gs_lt hM _ _ (fun e' h' => (hM.row' s).2 e' (List.mem_of_mem_take h')) hlt
      have hok1 := gsL_ok (l := (M.row s).take j) hok
      have hsn1 := foldl_take gsE g0 he
      generalize hg : ((M.row s).take j).foldl gsE g0 = g at ig hl1 hlt1 hok1 hsn1
      have go : ∀ (m : List Ct) (ix : Act → Nat), InvG m (gsK g e 0) ix → ∀ x6, x6 = some (Rf.own (ix e.1)) → AST P w G (tFor (iSeq K (tVar 5)) (gName 7) (tAsg (tC (.bl true)) (gSub (tVar 6) (tVar 7) (rSet P w)))) ⟨[some (.dat (dS S)), some (.dat (dMvs M)), some (.own 0), some (.dat (dN s)), some (.dat (dA e.1)), some (.dat (dS e.2)), x6, x7], m⟩ ⟨fun st => ∃ x4 x5 x6 x7 m ix, st = ⟨[some (.dat (dS S)), some (.dat (dMvs M)), some (.own 0), some (.dat (dN s)), x4, x5, x6, x7], m⟩ ∧ InvG m (((M.row s).take (j + 1)).foldl gsE g0) ix, fun _ _ => False, fun _ => False, fun _ => False⟩ := by
        intro m ix ig x6 ex
        subst ex
        refine as_forT (α := Nat) ?_
        walk_at "e"
        refine ⟨e.2, dN, rfl, fun k st => ∃ x7 m, st = ⟨[some (.dat (dS S)), some (.dat (dMvs M)), some (.own 0), some (.dat (dN s)), some (.dat (dA e.1)), some (.dat (dS e.2)), some (.own (ix e.1)), x7], m⟩ ∧ InvG m (gsK g e k) ix, ⟨x7, m, rfl, ig⟩, ?_, ?_⟩
        · rintro k y st hy ⟨x7, m, rfl, ig⟩
          have hin : e.1 ∈ (gsK g e k).F := addA_mem.mpr (.inr rfl)
          have hle : ((gsK g e k).C e.1).length ≤ 300 := by
            refine nodup_len ?_ fun z hz => ?_
            · show (if e.1 = e.1 then (e.2.take k).foldl addN (g.C e.1) else g.C e.1).Nodup
              rw [if_pos rfl]
              exact addNs_nd (hok1.cnd _)
            · have hz : z ∈ (if e.1 = e.1 then (e.2.take k).foldl addN (g.C e.1) else g.C e.1) := hz
              rw [if_pos rfl, addNs_mem] at hz
              exact hz.elim (hlt1 _ z) fun h => (hM.row' s).2 e hemem z (List.mem_of_mem_take h)
          refine ag_name ?_
          refine as_asg (ae_bl (ag_sub (ae_var rfl (ae_var rfl (aset_dk (k := kN y) (kvs := (((gsK g e k).C e.1).map kN).map tru) (ig.ok e.1 hin).2 (size_lt (by rw [List.length_map, List.length_map]; omega)) ?_)))))
          rw [putK_tru kN_inj]
          exact ⟨some (.dat (dN y)), _, rfl, ig.put hy⟩
        · rintro st ⟨x7, m, rfl, ig⟩
          refine ⟨some (.dat (dA e.1)), some (.dat (dS e.2)), some (.own (ix e.1)), x7, m, ix, rfl, ?_⟩
          rw [hsn1, ← gsK_all]
          exact ig
      have go : ∀ (m : List Ct) (ix : Act → Nat), InvG m (gsK g e 0) ix → ∀ x6, x6 = some (Rf.own (ix e.1)) → ∀ K0 : AK, K0.nx = (fun st => ∃ x4 x5 x6 x7 m ix, st = ⟨[some (.dat (dS S)), some (.dat (dMvs M)), some (.own 0), some (.dat (dN s)), x4, x5, x6, x7], m⟩ ∧ InvG m (((M.row s).take (j + 1)).foldl gsE g0) ix) → AST P w G (tFor (iSeq K (tVar 5)) (gName 7) (tAsg (tC (.bl true)) (gSub (tVar 6) (tVar 7) (rSet P w)))) ⟨[some (.dat (dS S)), some (.dat (dMvs M)), some (.own 0), some (.dat (dN s)), some (.dat (dA e.1)), some (.dat (dS e.2)), x6, x7], m⟩ K0 := fun m ix ig x6 ex K0 e0 => (go m ix ig x6 ex).mono (fun s h => by rw [e0]; exact h) (fun _ _ h => h.elim) (fun _ h => h.elim) fun _ h => h.elim
      refine ag_pair ?_
      walk_at "e"
      refine ae_dsetN ?_
      walk_at "e"
      refine ⟨0, rfl, ⟨_, ig.dn⟩, ?_⟩
      walk_at "e"
      refine ⟨_, rfl, kd_ok (kd_dA e.1) (by omega), ae_dnewK ⟨_, getE_app ig.dn, size_lt (by rw [List.length_map]; omega), fun r hr => ?_, fun hn => ?_⟩⟩
      · -- met
        have hr : lookN (g.F.map fun a => (dA a, Rf.own (ix a))) (dA e.1) = some r := hr
        rw [lookN_map dA_key (fun a => Rf.own (ix a))] at hr
        have hin : e.1 ∈ g.F := Classical.byContradiction fun z => by
          rw [if_neg z] at hr
          cases hr
        rw [if_pos hin] at hr
        cases hr
        exact go _ _ ((ig.old (d := .dk [])).have hin) _ rfl _ rfl
      · have hn : lookN (g.F.map fun a => (dA a, Rf.own (ix a))) (dA e.1) = none := hn
        rw [lookN_map dA_key (fun a => Rf.own (ix a))] at hn
        have hin : e.1 ∉ g.F := fun z => by rw [if_pos z] at hn; cases hn
        have hC : g.C e.1 = [] := by
          cases q : g.C e.1 with
          | nil => rfl
          | cons y l =>
            have hy : y ∈ g.C e.1 := by rw [q]; exact List.mem_cons_self
            refine absurd ((hok1.mem e.1).mpr ?_) hin
            rcases (hok1.cmem e.1 y).mp hy with ⟨s, hs, e', he', h1, h2⟩ | ⟨e', he', h1, h2⟩
            · exact .inl ⟨s, hs, e', he', h1⟩
            · exact .inr ⟨e', he', h1⟩
        exact go _ _ (ig.new hin hC) _ (by show some (Rf.own m.length) = some (Rf.own (if e.1 = e.1 then m.length else ix e.1)); rw [if_pos rfl]) _ rfl
    · rintro st ⟨x4, x5, x6, x7, m, ix, rfl, ig⟩
      refine ⟨some (.dat (dN s)), x4, x5, x6, x7, m, ix, rfl, ?_⟩
      rw [List.take_length] at ig
      rw [foldl_take (gsR M) gs0 hs, hg0]
      exact ig
  · rintro st ⟨x3, x4, x5, x6, x7, m, ix, rfl, ig⟩
    show AST P w G _ _ _
    rw [List.take_length] at ig
    have hok := gs_all M S
    have hlt : ∀ a, ∀ y ∈ (S.foldl (gsR M) gs0).C a, y < 300 := gsS_lt hM _ _ fun a y h => (nomatch h)
    have hlen : (S.foldl (gsR M) gs0).F.length ≤ 90000 := by
      have := gsS_len hM S gs0
      have : gs0.F.length = 0 := rfl
      omega
    generalize hgf : S.foldl (gsR M) gs0 = g at ig hok hlt hlen
    refine as_ret (ae_pin ig.dn fun o => ?_)
    have h0 : 0 < m.length := (List.getElem?_eq_some_iff.mp ig.dn).1
    have hm0 : ∀ l : List Ct, ((m.set 0 (.dz o (g.F.map fun a => (dA a, .own (ix a))))) ++ l)[0]? = some (.dz o (g.F.map fun a => (dA a, .own (ix a)))) := fun l => by
      rw [List.getElem?_append_left (by rw [List.length_set]; exact h0), List.getElem?_set_self h0]
    have hma : ∀ (a : Act) (l : List Ct), a ∈ g.F → ((m.set 0 (.dz o (g.F.map fun a => (dA a, .own (ix a))))) ++ l)[ix a]? = some (.dk (((g.C a).map kN).map tru)) := fun a l ha => by
      have h := ig.ok a ha
      rw [List.getElem?_append_left (by rw [List.length_set]; exact (List.getElem?_eq_some_iff.mp h.2).1), List.getElem?_set_ne (fun z => h.1 z.symm)]
      exact h.2
    refine ae_nc (ai_keysN (ae_var rfl ⟨0, o, g.F.map (fun a => (dA a, Rf.own (ix a))), rfl, ?_, fun i acc s2 => acc = (g.F.take i).map (fun a => (dA a, Rf.dat (dS (srtN (g.C a))))) ∧ s2 = ⟨[some (.dat (dS S)), some (.dat (dMvs M)), some (.own 0), x3, none, x5, x6, x7], (m.set 0 (.dz o (g.F.map fun a => (dA a, .own (ix a))))) ++ [.dn acc]⟩, ⟨rfl, rfl⟩, ?_, ?_, ?_⟩))
    · have := hm0 []
      rw [List.append_nil] at this
      exact this
    · rintro i acc s2 ⟨rfl, rfl⟩ _
      exact hm0 _
    · rintro i r acc s2 hr ⟨rfl, rfl⟩
      rw [List.getElem?_map, List.getElem?_map] at hr
      obtain ⟨a, ha⟩ : ∃ a, g.F[i]? = some a := by
        cases q : g.F[i]? with
        | none => rw [q] at hr; cases hr
        | some a => exact ⟨a, rfl⟩
      rw [ha] at hr
      cases hr
      have hin := List.mem_of_getElem? ha
      refine agc_name (by decide) (at_yes ⟨fun _ => ?_, fun h => absurd h (by decide)⟩)
      have hcl : (g.C a).length ≤ 300 := nodup_len (hok.cnd a) (hlt a)
      have hnt : a ∉ g.F.take i := nodup_take hok.nd ha
      refine ae_var rfl ⟨_, rfl, kd_ok (kd_dA a) (by omega), ?_⟩
      walk_at "e"
      refine ao_getN (i := 0) (.inr ⟨o, hm0 _⟩) (kd_ok (kd_dA a) (by omega)) (lookN_map dA_key (fun a => Rf.own (ix a)) g.F a |>.trans (if_pos hin)) ?_
      walk_at "e"
      refine ar_sorted (x := .own (ix a)) (ds := (g.C a).map dN) (.inr (.inl ⟨_, hma a _ hin, by rw [List.map_map, List.map_map]; rfl⟩)) (srtOk_nat _) (size_big (by rw [List.length_map]; omega)) ?_
      rw [srtD_srtN]
      walk_at "e"
      refine ar_tuple (ds := (srtN (g.C a)).map dN) rfl ?_
      have hml : (m.set 0 (Ct.dz o (g.F.map fun a => (dA a, .own (ix a))))).length = m.length := List.length_set
      refine ⟨(g.F.take i).map (fun a => (dA a, Rf.dat (dS (srtN (g.C a))))), ?_, ?_, ?_⟩
      · show ((m.set 0 (Ct.dz o (g.F.map fun a => (dA a, .own (ix a))))) ++ [Ct.dn _])[(m.set 0 (Ct.dz o (g.F.map fun a => (dA a, .own (ix a))))).length]? = _
        rw [List.getElem?_append_right (Nat.le_refl _), Nat.sub_self]
        rfl
      · exact size_lt (by rw [List.length_map, List.length_take]; omega)
      · have hput := putN_new dA_key (fun a => Rf.dat (dS (srtN (g.C a)))) hnt
        have htk : g.F.take (i + 1) = g.F.take i ++ [a] := by rw [List.take_add_one, ha]; rfl
        refine ⟨by rw [htk]; exact hput, ?_⟩
        show (⟨_, ((m.set 0 (Ct.dz o (g.F.map fun a => (dA a, .own (ix a))))) ++ [Ct.dn _]).set (m.set 0 (Ct.dz o (g.F.map fun a => (dA a, .own (ix a))))).length _⟩ : AS) = _
        rw [List.set_append_right _ _ (Nat.le_refl _), Nat.sub_self]
        rfl
    · rintro acc s2 ⟨rfl, rfl⟩
      refine ⟨_, g.F.map fun a => (dA a, dS (srtN (g.C a))), rfl, ?_, g.F, fun a => srtN (g.C a), rfl, hok.nd, hlen, hok.mem, fun a => ?_, by rw [← hgf]⟩
      · show ((m.set 0 (Ct.dz o (g.F.map fun a => (dA a, .own (ix a))))) ++ [Ct.dn _])[(m.set 0 (Ct.dz o (g.F.map fun a => (dA a, .own (ix a))))).length]? = _
        rw [List.getElem?_append_right (Nat.le_refl _), Nat.sub_self, List.length_map, List.length_map, List.take_length, List.map_map]
        rfl
      · have := srtN_is (hok.cnd a)
        exact ⟨this.1, fun y => (this.2 y).trans (hok.cmem a y)⟩
/-! ### subset_table -/
structure SubX where
  S0 : List Nat
  M : Mvs
  ends : List Bool
  tup : Bool
  lim : Nat
  U : List (List Nat)
  As : List Act
def dBs (t : Bool) (l : List Bool) : D := if t then .tuple (l.map .bool) else .list (l.map .bool)
def aSub (x : SubX) : List D := [dS x.S0, dMvs x.M, dBs x.tup x.ends, dN x.lim]
structure pSub (x : SubX) : Prop where
  wf : WfM x.M
  ends : x.ends.length = x.M.length
  start : x.S0 ∈ x.U
  size : x.U.length ≤ x.lim
  lim : x.lim ≤ 300
  acts : x.As.length ≤ 300
  inAs : ∀ s, ∀ e ∈ x.M.row s, e.1 ∈ x.As
  elem : ∀ S ∈ x.U, S.length ≤ 300 ∧ ∀ s ∈ S, s < x.M.length
  closed : ∀ S ∈ x.U, ∀ a, MvA x.M S a → ∃ S' ∈ x.U, IsS (Mv x.M S a) S'
def srtA (F : List Act) : List Act := F.mergeSort (fun a b => leD (dA a) (dA b))
theorem srtD_srtA (F : List Act) : srtD (F.map dA) = (srtA F).map dA := (List.map_mergeSort (f := dA) (r := fun a b => leD (dA a) (dA b)) (s := leD) (fun _ _ _ _ => rfl)).symm
theorem srtA_perm (F : List Act) : (srtA F).Perm F := List.mergeSort_perm _ _
def actsOf (M : Mvs) (S : List Nat) : List Act := srtA (S.foldl (gsR M) gs0).F
def goalOf (M : Mvs) (S : List Nat) (a : Act) : List Nat := srtN ((S.foldl (gsR M) gs0).C a)
theorem goalOf_is (M : Mvs) (S : List Nat) (a : Act) : IsS (Mv M S a) (goalOf M S a) := by
  have h := gs_all M S
  have := srtN_is (h.cnd a)
  exact ⟨this.1, fun y => (this.2 y).trans (h.cmem a y)⟩
def addO (O : List (List Nat)) (S : List Nat) : List (List Nat) := if S ∈ O then O else O ++ [S]
/-- the order after k turns -/
def itO (M : Mvs) (S0 : List Nat) : Nat → List (List Nat)
  | 0 => [S0]
  | k + 1 => match (itO M S0 k)[k]? with
    | some S => (actsOf M S).foldl (fun O a => addO O (goalOf M S a)) (itO M S0 k)
    | none => itO M S0 k
def mkE (ends : List Bool) (S : List Nat) : Bool := !PyData.eqv (.list ((S.filter fun n => ends.getD n false).map dN)) (.list [])
/-- what tells the table in full -/
structure SubD (S0 : List Nat) (M : Mvs) (ends : List Bool) (X : Tab) (O : List (List Nat)) : Prop where
  ord : O = itO M S0 O.length
  ext : ∀ i, i < O.length → i < (itO M S0 i).length
  len : X.rows.length = O.length
  nd : O.Nodup
  row : ∀ (i : Nat) S, O[i]? = some S → (X.row i).map (·.1) = actsOf M S ∧ ∀ e ∈ X.row i, O[e.2]? = some (goalOf M S e.1)
  ends : X.ends = O.map (mkE ends)
theorem row_det {O : List (List Nat)} (nd : ∀ (i j : Nat) S, O[i]? = some S → O[j]? = some S → i = j) {f : Act → List Nat} : ∀ {r r' : List (Act × Nat)}, r.map (·.1) = r'.map (·.1) → (∀ e ∈ r, O[e.2]? = some (f e.1)) → (∀ e ∈ r', O[e.2]? = some (f e.1)) → r = r'
  | [], [], _, _, _ => rfl
  | [], _ :: _, h, _, _ => by simp at h
  | _ :: _, [], h, _, _ => by simp at h
  | a :: r, b :: r', h, h1, h2 => by
    rw [List.map_cons, List.map_cons, List.cons.injEq] at h
    have e1 := h1 a List.mem_cons_self
    have e2 := h2 b List.mem_cons_self
    rw [← h.1] at e2
    rw [row_det nd h.2 (fun e he => h1 e (List.mem_cons_of_mem _ he)) fun e he => h2 e (List.mem_cons_of_mem _ he), show a = b from Prod.ext h.1 (nd _ _ _ e1 e2)]
theorem nodup_get {α : Type} {l : List α} (nd : l.Nodup) {i j : Nat} {x : α} (h : l[i]? = some x) (k : l[j]? = some x) : i = j := by
  have go : ∀ {i j : Nat}, l[i]? = some x → l[j]? = some x → ¬ i < j := fun {i j} h k hij => nodup_take nd k (List.mem_iff_getElem?.mpr ⟨i, by rw [List.getElem?_take, if_pos hij]; exact h⟩)
  have h1 := go h k
  have h2 := go k h
  omega
theorem SubD.same {S0 : List Nat} {M : Mvs} {ends : List Bool} {X X' : Tab} {O O' : List (List Nat)} (h : SubD S0 M ends X O) (k : SubD S0 M ends X' O') : X = X' ∧ O = O' := by
  have hl : ∀ {X X' : Tab} {O O' : List (List Nat)}, SubD S0 M ends X O → SubD S0 M ends X' O' → ¬ O.length < O'.length := fun h k z => by
    have := k.ext _ z
    rw [← h.ord] at this
    omega
  have hlen : O.length = O'.length := by
    have h1 := hl h k
    have h2 := hl k h
    omega
  have hO : O = O' := by
    rw [h.ord, k.ord, hlen]
  subst hO
  refine ⟨?_, rfl⟩
  have hr : X.rows = X'.rows := by
    refine List.ext_getElem? fun i => ?_
    by_cases q : i < O.length
    · have r1 : X.rows[i]? = some (X.row i) := by
        unfold Tab.row
        rw [List.getD_eq_getElem?_getD, List.getElem?_eq_getElem (by rw [h.len]; exact q)]
        rfl
      have r2 : X'.rows[i]? = some (X'.row i) := by
        unfold Tab.row
        rw [List.getD_eq_getElem?_getD, List.getElem?_eq_getElem (by rw [k.len]; exact q)]
        rfl
      obtain ⟨S, hS⟩ : ∃ S, O[i]? = some S := ⟨_, List.getElem?_eq_getElem q⟩
      obtain ⟨a1, a2⟩ := h.row i S hS
      obtain ⟨b1, b2⟩ := k.row i S hS
      rw [r1, r2, row_det (fun i j S h1 h2 => nodup_get h.nd h1 h2) (a1.trans b1.symm) a2 b2]
    · rw [List.getElem?_eq_none (by rw [h.len]; omega), List.getElem?_eq_none (by rw [k.len]; omega)]
  have he : X.ends = X'.ends := h.ends.trans k.ends.symm
  cases X
  cases X'
  cases hr
  cases he
  rfl
/-- the row that belongs to S -/
structure RowOk (M : Mvs) (S : List Nat) (O : List (List Nat)) (r : List (Act × Nat)) : Prop where
  nd : (r.map (·.1)).Nodup
  sound : ∀ e ∈ r, MvA M S e.1 ∧ ∃ S', O[e.2]? = some S' ∧ IsS (Mv M S e.1) S'
  full : ∀ a, MvA M S a → ∃ j, (a, j) ∈ r
  fst : r.map (·.1) = actsOf M S
structure SubOk (x : SubX) (X : Tab) (O : List (List Nat)) : Prop where
  wf : Wf X
  start : O[0]? = some x.S0
  len : O.length = X.n
  nd : O.Nodup
  sub : ∀ S ∈ O, S ∈ x.U
  row : ∀ (i : Nat) S, O[i]? = some S → RowOk x.M S O (X.row i)
  det : SubD x.S0 x.M x.ends X O
def qSub (x : SubX) (d : D) : Prop := ∃ X O, d = dT X ∧ SubOk x X O
theorem eqOk_nil (l : List Nat) : eqOk (.list (l.map dN)) (.list []) = true := by
  have h2 : noDicts (l.map dN) = true := noDicts_of fun d hd => by
    obtain ⟨a, _, rfl⟩ := List.mem_map.mp hd
    rfl
  have h3 : ∀ l : List Nat, PyData.depthAll (l.map dN) ≤ 2 := by
    intro l
    induction l with
    | nil => simp [PyData.depthAll]
    | cons a l ih =>
      rw [List.map_cons]
      simp only [PyData.depthAll]
      have : (dN a).depth ≤ 2 := by simp [dN, PyData.depth]
      omega
  have h1 : PySem.W.alikeAll (l.map dN) [] = true := by cases l <;> rfl
  unfold eqOk
  have h4 := h3 l
  have h5 : (PyData.list (l.map dN)).depth ≤ 64 := by
    rw [PyData.depth]
    omega
  have h6 : noDicts [] = true := rfl
  simp only [PySem.W.alike, noDict, h1, h2, h6, Bool.true_and, Bool.and_true, decide_eq_true_eq]
  exact h5
theorem dBs_seq {s : AS} (t : Bool) (l : List Bool) : SeqD s (.dat (dBs t l)) (l.map .bool) := by
  unfold dBs
  cases t <;> exact rfl
structure MemS (m : List Ct) (nu : List Nat → Nat) (O : List (List Nat)) (R : List (List (Act × Nat))) : Prop where
  c0 : m[0]? = some (.dn (O.map fun S => (dS S, .dat (dN (nu S)))))
  c1 : m[1]? = some (.lst ((O.map dS).map .dat))
  c2 : m[2]? = some (.lst ((R.map dRow).map .dat))
structure InvS (x : SubX) (nu : List Nat → Nat) (O : List (List Nat)) : Prop where
  start : O[0]? = some x.S0
  nd : O.Nodup
  sub : ∀ S ∈ O, S ∈ x.U
  nu : ∀ (i : Nat) S, O[i]? = some S → nu S = i
structure InvR2 (x : SubX) (O : List (List Nat)) (R : List (List (Act × Nat))) : Prop where
  row : ∀ (i : Nat) r, R[i]? = some r → r.length ≤ 300 ∧ ∃ S, O[i]? = some S ∧ RowOk x.M S O r
theorem getE_pre {α : Type} {l m : List α} {i : Nat} {x : α} (h : l[i]? = some x) : (l ++ m)[i]? = some x := by
  rw [List.getElem?_append_left (List.getElem?_eq_some_iff.mp h).1]
  exact h
theorem RowOk.more {M : Mvs} {S : List Nat} {O O' : List (List Nat)} {r : List (Act × Nat)} (h : RowOk M S O r) (k : ∀ (i : Nat) S, O[i]? = some S → O'[i]? = some S) : RowOk M S O' r := ⟨h.nd, fun e he => ⟨(h.sound e he).1, by
  obtain ⟨S', h1, h2⟩ := (h.sound e he).2
  exact ⟨S', k _ _ h1, h2⟩⟩, h.full, h.fst⟩
theorem InvR2.more {x : SubX} {O O' : List (List Nat)} {R : List (List (Act × Nat))} (h : InvR2 x O R) (k : ∀ (i : Nat) S, O[i]? = some S → O'[i]? = some S) : InvR2 x O' R := ⟨fun i r hr => by
  obtain ⟨h0, S, h1, h2⟩ := h.row i r hr
  exact ⟨h0, S, k _ _ h1, h2.more k⟩⟩
theorem InvS.len {x : SubX} (hx : pSub x) {nu : List Nat → Nat} {O : List (List Nat)} (h : InvS x nu O) : O.length ≤ x.U.length := nodup_sub h.nd h.sub
theorem dS_key (a b : List Nat) (h : toN (dS a) = toN (dS b)) : a = b := dS_inj _ _ (kd_inj (kd_dS a) (kd_dS b) h)
/-- a new set is numbered -/
theorem InvS.new {x : SubX} {nu : List Nat → Nat} {O : List (List Nat)} (h : InvS x nu O) {S : List Nat} (hS : S ∈ x.U) (hn : S ∉ O) : InvS x (fun S' => if S' = S then O.length else nu S') (O ++ [S]) := by
  refine ⟨getE_pre h.start, List.nodup_append.mpr ⟨h.nd, by simp, fun a ha b hb => by rw [List.mem_singleton.mp hb]; exact fun z => hn (z ▸ ha)⟩, fun S' hS' => ?_, fun i S' hi => ?_⟩
  · rcases List.mem_append.mp hS' with z | z
    · exact h.sub _ z
    · rw [List.mem_singleton.mp z]; exact hS
  · by_cases q : i < O.length
    · rw [List.getElem?_append_left q] at hi
      have : ¬ S' = S := fun z => hn (z ▸ List.mem_of_getElem? hi)
      show (if S' = S then _ else _) = _
      rw [if_neg this]
      exact h.nu i S' hi
    · rw [List.getElem?_append_right (by omega)] at hi
      have hz : i - O.length = 0 := by
        cases q2 : i - O.length with
        | zero => rfl
        | succ n => rw [q2] at hi; simp at hi
      rw [hz] at hi
      have : S = S' := by simpa using hi
      show (if S' = S then _ else _) = _
      rw [if_pos this.symm]
      omega
theorem MemS.new {m : List Ct} {nu : List Nat → Nat} {O : List (List Nat)} {R : List (List (Act × Nat))} (h : MemS m nu O R) {S : List Nat} (hn : S ∉ O) :
    MemS ((m.set 0 (.dn (putN (O.map fun S => (dS S, .dat (dN (nu S)))) (dS S) (.dat (dN O.length))))).set 1 (.lst ((O.map dS).map .dat ++ [.dat (dS S)]))) (fun S' => if S' = S then O.length else nu S') (O ++ [S]) R := by
  have h0 := (List.getElem?_eq_some_iff.mp h.c0).1
  have h1 := (List.getElem?_eq_some_iff.mp h.c1).1
  refine ⟨?_, ?_, ?_⟩
  · rw [List.getElem?_set_ne (by decide), List.getElem?_set_self h0]
    have e : (O.map fun S' => (dS S', Rf.dat (dN (nu S')))) = O.map fun S' => (dS S', Rf.dat (dN (if S' = S then O.length else nu S'))) := List.map_congr_left fun S' h' => by
      rw [if_neg fun z : S' = S => hn (z ▸ h')]
    have := putN_new dS_key (fun S' => Rf.dat (dN (if S' = S then O.length else nu S'))) hn
    rw [if_pos rfl] at this
    rw [e, this]
  · rw [List.getElem?_set_self (by rw [List.length_set]; exact h1), md_snoc]
  · rw [List.getElem?_set_ne (by decide), List.getElem?_set_ne (by decide)]
    exact h.c2
theorem MemS.app {m : List Ct} {nu : List Nat → Nat} {O : List (List Nat)} {R : List (List (Act × Nat))} (h : MemS m nu O R) {l : List Ct} : MemS (m ++ l) nu O R := ⟨getE_pre h.c0, getE_pre h.c1, getE_pre h.c2⟩
theorem MemS.set {m : List Ct} {nu : List Nat → Nat} {O : List (List Nat)} {R : List (List (Act × Nat))} (h : MemS m nu O R) {i : Nat} (hi : 2 < i) {c : Ct} : MemS (m.set i c) nu O R := by
  refine ⟨?_, ?_, ?_⟩
  · rw [List.getElem?_set_ne (by omega)]; exact h.c0
  · rw [List.getElem?_set_ne (by omega)]; exact h.c1
  · rw [List.getElem?_set_ne (by omega)]; exact h.c2
/-- the row under way -/
structure InvP (x : SubX) (S : List Nat) (O : List (List Nat)) (acts : List Act) (r : List (Act × Nat)) : Prop where
  fst : r.map (·.1) = acts
  sound : ∀ e ∈ r, ∃ S', O[e.2]? = some S' ∧ IsS (Mv x.M S e.1) S'
theorem rd_subset_table {K : PySem.W.Frag} {P : Program} {w : World} {N : List Str} (hN : N.length = 15) : ∀ vs H Q E, spI P w aSub pSub qSub vs H Q E → t_subset_table K P w (spNI P w aGrp pGrp qGrp) { nx := fun _ H' => Q .non H', rt := Q } (L2.start N vs) H := by
  refine fnI fun G x hx => ⟨by rw [hN]; show 4 ≤ 15; decide, ?_⟩
  rw [hN]
  show AST P w G (t_subset_table K P w _) ⟨[some (.dat (dS x.S0)), some (.dat (dMvs x.M)), some (.dat (dBs x.tup x.ends)), some (.dat (dN x.lim)), none, none, none, none, none, none, none, none, none, none, none], []⟩ _
  unfold t_subset_table
  walk_at "e"
  refine ae_dispN ?_
  walk_at "e"
  refine ⟨_, rfl, kd_ok (kd_dS x.S0) (by omega), ?_⟩
  walk_at "e"
  refine ⟨rfl, ?_⟩
  walk_at "e"
  refine ae_lst ?_
  walk_at "e"
  refine ⟨size_big (by show 1 ≤ _; decide), ?_⟩
  walk_at "e"
  refine ae_lst ?_
  walk_at "e"
  refine ⟨Nat.zero_le _, ?_⟩
  walk_at "e"
  refine as_seq (as_while (fun k st => ∃ nu O R x8 x9 x10 x11 m, st = ⟨[some (.dat (dS x.S0)), some (.dat (dMvs x.M)), some (.dat (dBs x.tup x.ends)), some (.dat (dN x.lim)), some (.own 0), some (.own 1), some (.own 2), some (.dat (dN R.length)), x8, x9, x10, x11, none, none, none], m⟩ ∧ MemS m nu O R ∧ InvS x nu O ∧ InvR2 x O R ∧ R.length ≤ O.length ∧ (O = itO x.M x.S0 R.length ∧ ∀ i, i < R.length → i < (itO x.M x.S0 i).length) ∧ k = 300 - R.length) _ ⟨fun _ => 0, [x.S0], [], none, none, none, none, _, rfl, ⟨rfl, rfl, rfl⟩, ⟨rfl, by simp, fun S hS => by rw [List.mem_singleton.mp hS]; exact hx.start, fun i S h => ?_⟩, ⟨fun i r h => by simp at h⟩, Nat.zero_le _, ⟨rfl, fun i h => absurd h (Nat.not_lt_zero i)⟩, rfl⟩ ?_)
  · cases i with
    | zero => rfl
    | succ i => simp at h
  rintro k st ⟨nu, O, R, x8, x9, x10, x11, m, rfl, hm, hv, hr, hRO, ⟨hit, hext⟩, rfl⟩
  have hOU := hv.len hx
  have hsz := hx.size
  have hlim := hx.lim
  walk_at "e"
  refine ar_lenO (x := .own 1) (xs := (O.map dS).map .dat) hm.c1 ?_
  walk_at "e"
  refine ao_cmp (g := fun i j => decide (i < j)) ⟨_, rfl, fun hb => ?_, fun hb => ?_⟩
  · have hlt : R.length < O.length := by
      have := of_decide_eq_true hb
      rw [List.length_map, List.length_map] at this
      omega
    obtain ⟨S, hS⟩ : ∃ S, O[R.length]? = some S := ⟨_, List.getElem?_eq_getElem hlt⟩
    have hSU := hv.sub S (List.mem_of_getElem? hS)
    have hS0 := hS
    have hSe := hx.elem S hSU
    walk_at "e"
    refine ae_callNI ?_
    walk_at "e"
    refine ao_seqO (x := .own 1) (xs := (O.map dS).map .dat) (i := R.length) (r := .dat (dS S)) hm.c1 (by rw [List.getElem?_map, List.getElem?_map, hS]; rfl) ?_
    walk_at "e"
    refine ⟨(S, x.M), rfl, ⟨hx.wf, hSe.1, hSe.2⟩, fun kvs hk => ?_⟩
    obtain ⟨F, g, rfl, hFn, hFl, hFm, hg, hFe⟩ := (show ∃ (F : List Act) (g : Act → List Nat), kvs = F.map (fun a => (dA a, dS (g a))) ∧ F.Nodup ∧ F.length ≤ 90000 ∧ (∀ a, a ∈ F ↔ MvA x.M S a) ∧ (∀ a, IsS (Mv x.M S a) (g a)) ∧ F = (S.foldl (gsR x.M) gs0).F from hk)
    have hgo : ∀ a, g a = goalOf x.M S a := fun a => (hg a).ext (goalOf_is x.M S a)
    have hF300 : F.length ≤ 300 := Nat.le_trans (nodup_sub hFn fun a ha => by
      obtain ⟨s, _, e, he, rfl⟩ := (hFm a).mp ha
      exact hx.inAs s e he) hx.acts
    rw [List.map_map]
    have hgi0 : m.length < (m ++ [Ct.dn (F.map ((fun p : D × D => (p.1, Rf.dat p.2)) ∘ fun a => (dA a, dS (g a))))]).length := by simp
    have hgi : (m ++ [Ct.dn (F.map ((fun p : D × D => (p.1, Rf.dat p.2)) ∘ fun a => (dA a, dS (g a))))])[m.length]? = some (.dn (F.map fun a => (dA a, .dat (dS (g a))))) := by
      rw [List.getElem?_append_right (Nat.le_refl _), Nat.sub_self]
      rfl
    have hm2 := hm.app (l := [Ct.dn (F.map ((fun p : D × D => (p.1, Rf.dat p.2)) ∘ fun a => (dA a, dS (g a))))])
    have hml : 2 < m.length := (List.getElem?_eq_some_iff.mp hm.c2).1
    show AST P w G _ ⟨_, m ++ [Ct.dn (F.map ((fun p : D × D => (p.1, Rf.dat p.2)) ∘ fun a => (dA a, dS (g a))))]⟩ _
    generalize hgm : m ++ [Ct.dn (F.map ((fun p : D × D => (p.1, Rf.dat p.2)) ∘ fun a => (dA a, dS (g a))))] = m2 at hgi0 hgi hm2
    show AST P w G _ ⟨[some (.dat (dS x.S0)), some (.dat (dMvs x.M)), some (.dat (dBs x.tup x.ends)), some (.dat (dN x.lim)), some (.own 0), some (.own 1), some (.own 2), some (.dat (dN R.length)), some (.own m.length), x9, x10, x11, none, none, none], m2⟩ _
    walk_at "e"
    refine ae_lst ?_
    walk_at "e"
    refine ⟨Nat.zero_le _, ?_⟩
    show AST P w G _ ⟨[some (.dat (dS x.S0)), some (.dat (dMvs x.M)), some (.dat (dBs x.tup x.ends)), some (.dat (dN x.lim)), some (.own 0), some (.own 1), some (.own 2), some (.dat (dN R.length)), some (.own m.length), some (.own m2.length), x10, x11, none, none, none], m2 ++ [.lst []]⟩ _
    refine as_seq (as_forL (α := Act) ?_)
    walk_at "e"
    obtain ⟨F', hF', hper, hFa⟩ : ∃ F', srtD (F.map dA) = F'.map dA ∧ F'.Perm F ∧ F' = actsOf x.M S := ⟨srtA F, srtD_srtA F, srtA_perm F, by rw [hFe]; rfl⟩
    obtain ⟨O0, hO0⟩ : ∃ O0, O0 = O := ⟨O, rfl⟩
    rw [← hO0] at hit hS0
    refine ar_sorted (x := .own m.length) (ds := F.map dA) (.inr (.inr ⟨_, .inl (getE_pre hgi), by rw [List.map_map]; rfl⟩)) (srtOk_act F) (size_big (by rw [List.length_map]; omega)) ?_
    rw [hF']
    have hF'm : ∀ a, a ∈ F' ↔ MvA x.M S a := fun a => (hper.mem_iff).trans (hFm a)
    have hF'n : F'.Nodup := hper.nodup_iff.mpr hFn
    have hF'l : F'.length ≤ 300 := by rw [hper.length_eq]; exact hF300
    have hri : m2.length ≠ m.length := by omega
    refine ⟨F', dA, rfl, fun j st => ∃ nu O r x10 x11 m3, st = ⟨[some (.dat (dS x.S0)), some (.dat (dMvs x.M)), some (.dat (dBs x.tup x.ends)), some (.dat (dN x.lim)), some (.own 0), some (.own 1), some (.own 2), some (.dat (dN R.length)), some (.own m.length), some (.own m2.length), x10, x11, none, none, none], m3⟩ ∧ MemS m3 nu O R ∧ InvS x nu O ∧ InvR2 x O R ∧ O[R.length]? = some S ∧ m3[m.length]? = some (.dn (F.map fun a => (dA a, .dat (dS (g a))))) ∧ m3[m2.length]? = some (.lst ((r.map dE).map .dat)) ∧ InvP x S O (F'.take j) r ∧ O = (F'.take j).foldl (fun O a => addO O (g a)) O0, ⟨nu, O, [], x10, x11, _, rfl, hm2.app, hv, hr, hS, getE_pre hgi, ?_, ⟨rfl, fun e h => (nomatch h)⟩, hO0.symm⟩, ?_, ?_⟩
    · rw [List.getElem?_append_right (Nat.le_refl _), Nat.sub_self]
      rfl
    · rintro j a st ha ⟨nu, O, r, x10, x11, m3, rfl, hm, hv, hr, hS, hgi, hri3, hp, hOf⟩
      have hOU := hv.len hx
      have hin : a ∈ F := hper.mem_iff.mp (List.mem_of_getElem? ha)
      have hrl : r.length ≤ 300 := by
        have := congrArg List.length hp.fst
        rw [List.length_map, List.length_take] at this
        omega
      have go : ∀ (nu : List Nat → Nat) (O : List (List Nat)) (m3 : List Ct), MemS m3 nu O R → InvS x nu O → InvR2 x O R → O[R.length]? = some S → m3[m.length]? = some (.dn (F.map fun a => (dA a, .dat (dS (g a))))) → m3[m2.length]? = some (.lst ((r.map dE).map .dat)) → InvP x S O (F'.take j) r → g a ∈ O → O = (F'.take (j + 1)).foldl (fun O a => addO O (g a)) O0 → ∀ K0 : AK, K0.nx = (fun st => ∃ nu O r x10 x11 m3, st = ⟨[some (.dat (dS x.S0)), some (.dat (dMvs x.M)), some (.dat (dBs x.tup x.ends)), some (.dat (dN x.lim)), some (.own 0), some (.own 1), some (.own 2), some (.dat (dN R.length)), some (.own m.length), some (.own m2.length), x10, x11, none, none, none], m3⟩ ∧ MemS m3 nu O R ∧ InvS x nu O ∧ InvR2 x O R ∧ O[R.length]? = some S ∧ m3[m.length]? = some (.dn (F.map fun a => (dA a, .dat (dS (g a))))) ∧ m3[m2.length]? = some (.lst ((r.map dE).map .dat)) ∧ InvP x S O (F'.take (j + 1)) r ∧ O = (F'.take (j + 1)).foldl (fun O a => addO O (g a)) O0) →
          AST P w G (tDrop (tBM K "list" rAppend (tVar 9) (tCons (tTup (tCons (tVar 10) (tCons (tOp (rGet K P w) (tVar 4) (tVar 11)) tNil))) tNil))) ⟨[some (.dat (dS x.S0)), some (.dat (dMvs x.M)), some (.dat (dBs x.tup x.ends)), some (.dat (dN x.lim)), some (.own 0), some (.own 1), some (.own 2), some (.dat (dN R.length)), some (.own m.length), some (.own m2.length), some (.dat (dA a)), some (.dat (dS (g a))), none, none, none], m3⟩ K0 := by
        intro nu O m3 hm hv hr hS hgi hri3 hp hgO hOf K0 e0
        obtain ⟨jg, hjg⟩ := List.mem_iff_getElem?.mp hgO
        have hnu := hv.nu jg _ hjg
        walk_at "e"
        refine ae_append ?_
        walk_at "e"
        refine ⟨m2.length, rfl, ⟨_, hri3⟩, ?_⟩
        walk_at "e"
        refine ae_tup ?_
        walk_at "e"
        refine ao_getN (i := 0) (.inl hm.c0) (kd_ok (kd_dS (g a)) (by omega)) (lookN_map dS_key (fun S => Rf.dat (dN (nu S))) O (g a) |>.trans (if_pos hgO)) ?_
        walk_at "e"
        refine ⟨_, rfl, size_big (by show 2 ≤ _; decide), ?_⟩
        walk_at "e"
        refine ⟨_, _, rfl, hri3, size_lt (by rw [List.length_map, List.length_map]; omega), ?_⟩
        rw [e0]
        refine ⟨nu, O, r ++ [(a, nu (g a))], some (.dat (dA a)), some (.dat (dS (g a))), _, rfl, hm.set (by omega), hv, hr, hS, ?_, ?_, ⟨?_, fun e he => ?_⟩, hOf⟩
        · show (m3.set m2.length _)[m.length]? = _
          rw [List.getElem?_set_ne hri]
          exact hgi
        · show (m3.set m2.length _)[m2.length]? = _
          rw [List.getElem?_set_self (List.getElem?_eq_some_iff.mp hri3).1, md_snoc]
          rfl
        · rw [List.map_append, hp.fst, List.take_add_one, ha]
          rfl
        · rcases List.mem_append.mp he with he | he
          · exact hp.sound e he
          · rw [List.mem_singleton.mp he]
            exact ⟨g a, by rw [hnu]; exact hjg, hg a⟩
      have hOs := foldl_take (fun O a => addO O (g a)) O0 ha
      rw [← hOf] at hOs
      refine ag_name ?_
      walk_at "e"
      refine ao_getN (i := m.length) (.inl hgi) (kd_ok (kd_dA a) (by omega)) (lookN_map dA_key (fun a => Rf.dat (dS (g a))) F a |>.trans (if_pos hin)) ?_
      walk_at "e"
      refine ao_inN (neg := true) (i := 0) (.inl hm.c0) (kd_ok (kd_dS (g a)) (by omega)) ⟨_, rfl, fun hb2 => ?_, fun hb2 => ?_⟩
      · have hni : g a ∉ O := by
          have hb2 : (!(lookN (O.map fun S => (dS S, Rf.dat (dN (nu S)))) (dS (g a))).isSome) = true := hb2
          rw [lookN_map dS_key (fun S => Rf.dat (dN (nu S)))] at hb2
          intro z
          rw [if_pos z] at hb2
          cases hb2
        have hgU : g a ∈ x.U := by
          obtain ⟨S', h1, h2⟩ := hx.closed S (hv.sub S (List.mem_of_getElem? hS)) a ((hFm a).mp hin)
          rw [(hg a).ext h2]
          exact h1
        have hv2 := hv.new hgU hni
        have hlt2 : O.length < x.lim := by
          have := hv2.len hx
          rw [List.length_append] at this
          have : [g a].length = 1 := rfl
          omega
        walk_at "e"
        refine ar_lenO (x := .own 1) (xs := (O.map dS).map .dat) hm.c1 ?_
        walk_at "e"
        refine ao_eqI (b := (x.lim : Int)) ⟨_, rfl, fun hb3 => ?_, fun _ => ?_⟩
        · have := of_decide_eq_true hb3
          rw [List.length_map, List.length_map] at this
          omega
        walk_at "e"
        refine as_asg ?_
        walk_at "e"
        refine ar_lenO (x := .own 1) (xs := (O.map dS).map .dat) hm.c1 ?_
        refine ag_sub ?_
        walk_at "e"
        refine aset_dn hm.c0 (kd_ok (kd_dS (g a)) (by omega)) (size_lt (by rw [List.length_map]; omega)) ?_
        rw [List.length_map, List.length_map]
        walk_at "e"
        refine ae_append ?_
        walk_at "e"
        refine ⟨1, rfl, ⟨_, (List.getElem?_set_ne (by decide)).trans hm.c1⟩, ?_⟩
        walk_at "e"
        refine ⟨_, _, rfl, (List.getElem?_set_ne (by decide)).trans hm.c1, size_lt (by rw [List.length_map, List.length_map]; omega), ?_⟩
        have more : ∀ (i : Nat) S, O[i]? = some S → (O ++ [g a])[i]? = some S := fun i S h => getE_pre h
        refine go _ (O ++ [g a]) _ (hm.new hni) hv2 (hr.more more) (more _ _ hS) ?_ ?_ ⟨hp.fst, fun e he => ?_⟩ (List.mem_append_right _ (List.mem_singleton.mpr rfl)) (by rw [hOs]; unfold addO; rw [if_neg hni]) _ rfl
        · rw [List.getElem?_set_ne (by omega), List.getElem?_set_ne (by omega)]
          exact hgi
        · rw [List.getElem?_set_ne (by omega), List.getElem?_set_ne (by omega)]
          exact hri3
        · obtain ⟨S', h1, h2⟩ := hp.sound e he
          exact ⟨S', more _ _ h1, h2⟩
      · have hni : g a ∈ O := by
          have hb2 : (!(lookN (O.map fun S => (dS S, Rf.dat (dN (nu S)))) (dS (g a))).isSome) = false := hb2
          rw [lookN_map dS_key (fun S => Rf.dat (dN (nu S)))] at hb2
          refine Classical.byContradiction fun z => ?_
          rw [if_neg z] at hb2
          cases hb2
        refine as_next ?_
        exact go nu O m3 hm hv hr hS hgi hri3 hp hni (by rw [hOs]; unfold addO; rw [if_pos hni]) _ rfl
    · rintro st ⟨nu, O, r, x10, x11, m3, rfl, hm, hv, hr, hS, hgi, hri3, hp, hOf⟩
      rw [List.take_length] at hp hOf
      have hOU := hv.len hx
      have hrl : r.length ≤ 300 := by
        have := congrArg List.length hp.fst
        rw [List.length_map] at this
        omega
      show AST P w G _ _ _
      walk_at "e"
      refine ae_append ?_
      walk_at "e"
      refine ⟨2, rfl, ⟨_, hm.c2⟩, ?_⟩
      walk_at "e"
      refine ar_tuple (x := .own m2.length) (ds := r.map dE) hri3 ?_
      walk_at "e"
      have hRl : R.length < 300 := by
        have := (List.getElem?_eq_some_iff.mp hS).1
        omega
      refine ⟨_, _, rfl, hm.c2, size_lt (by rw [List.length_map, List.length_map]; omega), ?_⟩
      refine as_aug rfl (ae_int ⟨1, rfl, 300 - (R ++ [r]).length, by rw [List.length_append]; show 300 - (R.length + 1) < _; omega, nu, O, R ++ [r], some (.own m.length), some (.own m2.length), x10, x11, m3.set 2 (.lst ((R.map dRow).map .dat ++ [.dat (dRow r)])), ?_, ⟨?_, ?_, ?_⟩, hv, ⟨fun i r' h' => ?_⟩, ?_, ⟨?_, ?_⟩, rfl⟩)
      · rw [List.length_append]
        rfl
      · rw [List.getElem?_set_ne (by decide)]; exact hm.c0
      · rw [List.getElem?_set_ne (by decide)]; exact hm.c1
      · rw [List.getElem?_set_self (List.getElem?_eq_some_iff.mp hm.c2).1, md_snoc]
      · by_cases q : i < R.length
        · rw [List.getElem?_append_left q] at h'
          exact hr.row i r' h'
        · rw [List.getElem?_append_right (by omega)] at h'
          have hz : i - R.length = 0 := by
            cases q2 : i - R.length with
            | zero => rfl
            | succ n => rw [q2] at h'; simp at h'
          rw [hz] at h'
          have hrr : r = r' := by simpa using h'
          subst hrr
          refine ⟨hrl, S, by rw [show i = R.length by omega]; exact hS, by rw [hp.fst]; exact hF'n, fun e he => ⟨(hF'm e.1).mp ?_, hp.sound e he⟩, fun a ha => ?_, by rw [hp.fst, hFa]⟩
          · rw [← hp.fst]
            exact List.mem_map.mpr ⟨e, he, rfl⟩
          · have := (hF'm a).mpr ha
            rw [← hp.fst] at this
            obtain ⟨e, he, rfl⟩ := List.mem_map.mp this
            exact ⟨e.2, he⟩
      · rw [List.length_append]
        have := (List.getElem?_eq_some_iff.mp hS).1
        exact this
      · rw [List.length_append]
        show _ = itO x.M x.S0 (R.length + 1)
        unfold itO
        rw [← hit, hS0]
        show _ = (actsOf x.M S).foldl (fun O a => addO O (goalOf x.M S a)) O0
        rw [hOf, hFa, show (fun (O : List (List Nat)) a => addO O (g a)) = fun O a => addO O (goalOf x.M S a) from funext fun O => funext fun a => by rw [hgo]]
      · intro i hi
        rw [List.length_append] at hi
        have hi : i < R.length + 1 := hi
        by_cases q : i < R.length
        · exact hext i q
        · have : i = R.length := by omega
          rw [this, ← hit]
          exact (List.getElem?_eq_some_iff.mp hS0).1
  · have hle : O.length = R.length := by
      have := of_decide_eq_false hb
      rw [List.length_map, List.length_map] at this
      omega
    have hR300 : R.length ≤ 300 := by omega
    refine as_next ?_
    walk_at "e"
    refine ae_lcO (α := List Nat) ?_
    refine ae_var rfl ?_
    refine ⟨1, O, dS, fun S => some (.bool (!PyData.eqv (.list ((S.filter fun n => x.ends.getD n false).map dN)) (.list []))), rfl, hm.c1, size_big (by omega), fun i S hS acc => ?_, ?_⟩
    · have hSe := hx.elem S (hv.sub S (List.mem_of_getElem? hS))
      refine agc_name (by decide) (at_yes ⟨fun _ => ?_, fun h => absurd h (by decide)⟩)
      walk_at "e"
      refine ae_lcT (α := Nat) ?_
      refine ae_var rfl ?_
      refine ⟨S, dN, fun n => if x.ends.getD n false = true then some (dN n) else none, rfl, size_big (by omega), fun i n hn acc' => ?_, ?_⟩
      · have hlt := hSe.2 n (List.mem_of_getElem? hn)
        refine agc_name (by decide) ?_
        walk_at "e"
        refine ao_seqD (ds := x.ends.map .bool) (i := n) (d := .bool (x.ends.getD n false)) (dBs_seq _ _) ?_ ⟨_, rfl, fun h => ?_, fun h => ?_⟩
        · rw [List.getElem?_map, List.getD_eq_getElem?_getD, List.getElem?_eq_getElem (by rw [hx.ends]; exact hlt)]
          rfl
        · walk_at "e"
          exact ⟨rfl, rfl, _, if_pos h, rfl⟩
        · exact ⟨rfl, rfl, if_neg (by rw [h]; exact fun z => (nomatch z))⟩
      · rw [fm_filter]
        walk_at "e"
        refine ae_lstD ?_
        walk_at "e"
        refine ⟨[], rfl, Nat.zero_le _, ?_⟩
        refine ao_ne (eqOk_nil _) ⟨rfl, rfl, _, rfl, rfl⟩
    · have hrow : ∀ (i : Nat) S, O[i]? = some S → RowOk x.M S O (R.getD i []) := fun i S hS => by
        have hiR : i < R.length := by
          have := (List.getElem?_eq_some_iff.mp hS).1
          omega
        obtain ⟨_, S', h1, h2⟩ := hr.row i R[i] (List.getElem?_eq_getElem hiR)
        rw [hS] at h1
        cases h1
        rw [List.getD_eq_getElem?_getD, List.getElem?_eq_getElem hiR]
        exact h2
      rw [fm_map]
      walk_at "e"
      refine ae_tup ?_
      walk_at "e"
      refine ar_tuple (x := .own 2) (ds := R.map dRow) hm.c2 ?_
      walk_at "e"
      refine ar_tuple (ds := O.map fun S : List Nat => PyData.bool (!PyData.eqv (.list ((S.filter fun n => x.ends.getD n false).map dN)) (.list []))) rfl ?_
      walk_at "e"
      refine ⟨_, rfl, size_big (by show 3 ≤ _; decide), _, rfl, ⟨R, O.map (mkE x.ends)⟩, O, ?_, ⟨⟨?_, hR300, ?_, fun r hrm => ?_⟩, hv.start, hle, hv.nd, hv.sub, hrow, ⟨by rw [hle]; exact hit, fun i hi => hext i (by omega), hle.symm, hv.nd, fun i S hS => ?_, rfl⟩⟩⟩
      · show PyData.tuple [_, _, _] = PyData.tuple [_, _, PyData.tuple (List.map PyData.bool (List.map _ O))]
        rw [List.map_map]
        rfl
      · have := (List.getElem?_eq_some_iff.mp hv.start).1
        show 0 < R.length
        omega
      · show (List.map _ O).length = R.length
        rw [List.length_map]
        exact hle
      · obtain ⟨i, hi⟩ := List.mem_iff_getElem?.mp hrm
        obtain ⟨h0, S, _, h2⟩ := hr.row i r hi
        refine ⟨h0, h2.nd, fun e he => ?_⟩
        obtain ⟨S', h3, _⟩ := (h2.sound e he).2
        have := (List.getElem?_eq_some_iff.mp h3).1
        show e.2 < R.length
        omega
      · have h2 := hrow i S hS
        refine ⟨h2.fst, fun e he => ?_⟩
        obtain ⟨_, S', h3, h4⟩ := h2.sound e he
        rw [h3, h4.ext (goalOf_is x.M S e.1)]
/-! ### refined_classes -/
def cls (cl : List Nat) (i : Nat) : Nat := cl.getD i 0
def mapR (f : Nat → Nat) (r : List (Act × Nat)) : List (Act × Nat) := r.map fun e => (e.1, f e.2)
def sgn (X : Tab) (f : Nat → Nat) (k : Nat) : Nat × List (Act × Nat) := (f k, mapR f (X.row k))
def dSgn (s : Nat × List (Act × Nat)) : D := .tuple [dN s.1, dRow s.2]
theorem kd_dE (e : Act × Nat) : kd 2 (dE e) := kd_two (kd_dA _) (kd_up (kd_nat _) (by omega))
theorem kd_dSgn (s : Nat × List (Act × Nat)) : kd 4 (dSgn s) := kd_two (kd_up (kd_nat _) (by omega)) (kd_map kd_dE _)
theorem dE_inj (a b : Act × Nat) (h : dE a = dE b) : a = b := by
  have := PyData.tuple.inj h
  rw [List.cons.injEq, List.cons.injEq] at this
  exact Prod.ext (dA_inj _ _ this.1) (dN_inj _ _ this.2.1)
theorem dSgn_key (a b : Nat × List (Act × Nat)) (h : toN (dSgn a) = toN (dSgn b)) : a = b := by
  have := PyData.tuple.inj (kd_inj (kd_dSgn a) (kd_dSgn b) h)
  rw [List.cons.injEq, List.cons.injEq] at this
  exact Prod.ext (dN_inj _ _ this.1) (map_inj dE_inj (PyData.tuple.inj this.2.1))
def aRef (x : Tab × List Nat) : List D := [dT x.1, dL x.2]
def pRef (x : Tab × List Nat) : Prop := Wf x.1 ∧ x.2.length = x.1.n
def addG {α : Type} [DecidableEq α] (F : List α) (a : α) : List α := if a ∈ F then F else F ++ [a]
/-- the signs in the order in which they are met -/
def sgl (X : Tab) (cl : List Nat) (i : Nat) : List (Nat × List (Act × Nat)) := ((List.range i).map (sgn X (cls cl))).foldl addG []
theorem sgl_succ (X : Tab) (cl : List Nat) (i : Nat) : sgl X cl (i + 1) = addG (sgl X cl i) (sgn X (cls cl) i) := by
  unfold sgl
  rw [List.range_succ, List.map_append, List.foldl_append]
  rfl
/-- the finer classes -/
structure Finer (X : Tab) (cl fr : List Nat) : Prop where
  len : fr.length = X.n
  lt : ∀ k, k < X.n → cls fr k < X.n
  iff : ∀ i j, i < X.n → j < X.n → (cls fr i = cls fr j ↔ sgn X (cls cl) i = sgn X (cls cl) j)
  nd : (sgl X cl X.n).Nodup
  det : ∀ k, k < X.n → (sgl X cl X.n)[cls fr k]? = some (sgn X (cls cl) k)
theorem cls_ext {l m : List Nat} {n : Nat} (hl : l.length = n) (hm : m.length = n) (h : ∀ k, k < n → cls l k = cls m k) : l = m := by
  refine List.ext_getElem? fun i => ?_
  by_cases q : i < n
  · have := h i q
    unfold cls at this
    rw [List.getD_eq_getElem?_getD, List.getD_eq_getElem?_getD, List.getElem?_eq_getElem (by omega), List.getElem?_eq_getElem (by omega)] at this
    rw [List.getElem?_eq_getElem (by omega), List.getElem?_eq_getElem (by omega)]
    exact congrArg some this
  · rw [List.getElem?_eq_none (by omega), List.getElem?_eq_none (by omega)]
theorem Finer.same {X : Tab} {cl fr fr' : List Nat} (h : Finer X cl fr) (k : Finer X cl fr') : fr = fr' := cls_ext h.len k.len fun i hi => nodup_get h.nd (h.det i hi) (k.det i hi)
def qRef (x : Tab × List Nat) (d : D) : Prop := ∃ fr, d = dL fr ∧ Finer x.1 x.2 fr
theorem rd_refined_classes {K : PySem.W.Frag} {P : Program} {w : World} {N : List Str} (hN : N.length = 9) : ∀ vs H Q E, spI P w aRef pRef qRef vs H Q E → t_refined_classes K P w { nx := fun _ H' => Q .non H', rt := Q } (L2.start N vs) H := by
  refine fnI fun G x hx => ⟨by rw [hN]; show 2 ≤ 9; decide, ?_⟩
  rw [hN]
  obtain ⟨X, cl⟩ := x
  obtain ⟨hX, hl⟩ := (show Wf X ∧ cl.length = X.n from hx)
  show AST P w G (t_refined_classes K P w) ⟨[some (.dat (dT X)), some (.dat (dL cl)), none, none, none, none, none, none, none], []⟩ _
  unfold t_refined_classes
  walk_at "e"
  refine ae_dnewN ?_
  walk_at "e"
  refine ae_lst ?_
  walk_at "e"
  refine ⟨Nat.zero_le _, ?_⟩
  have hn := hX.le
  have gcl : ∀ k, k < X.n → (cl.map dN)[k]? = some (dN (cls cl k)) := fun k hk => by
    rw [List.getElem?_map]
    unfold cls
    rw [List.getD_eq_getElem?_getD, List.getElem?_eq_getElem (by omega)]
    rfl
  refine as_seq (as_forE (α := List (Act × Nat)) ?_)
  walk_at "e"
  refine ⟨X.rows, dRow, rfl, fun i st => ∃ (Sg : List (Nat × List (Act × Nat))) (nu : Nat × List (Act × Nat) → Nat) (x4 x5 x6 : Option Rf), st = ⟨[some (.dat (dT X)), some (.dat (dL cl)), some (.own 0), some (.own 1), x4, x5, x6, none, none], [.dn (Sg.map fun s => (dSgn s, .dat (dN (nu s)))), .lst ((((List.range i).map fun k => nu (sgn X (cls cl) k)).map dN).map .dat)]⟩ ∧ Sg.Nodup ∧ Sg.length ≤ i ∧ (∀ (j : Nat) s, Sg[j]? = some s → nu s = j) ∧ (∀ k, k < i → sgn X (cls cl) k ∈ Sg) ∧ Sg = sgl X cl i, ⟨[], fun _ => 0, none, none, none, rfl, List.nodup_nil, Nat.le_refl _, fun j s h => (nomatch h), fun k h => absurd h (by omega), rfl⟩, ?_, ?_⟩
  · rintro i r st hr ⟨Sg, nu, x4, x5, x6, rfl, nd, hle, hnu, hin, hse⟩
    have hss := sgl_succ X cl i
    rw [← hse] at hss
    have hi : i < X.n := (List.getElem?_eq_some_iff.mp hr).1
    have hrow : X.row i = r := by
      unfold Tab.row
      rw [List.getD_eq_getElem?_getD, hr]
      rfl
    have hrl := (hX.row r (List.mem_of_getElem? hr))
    refine ag_pair ?_
    walk_at "e"
    refine ae_tup ?_
    walk_at "e"
    refine ao_seqD (ds := cl.map dN) (i := i) (d := dN (cls cl i)) rfl (gcl i hi) ?_
    walk_at "e"
    refine ae_lcT (α := Act × Nat) ?_
    refine ae_var rfl ⟨r, dE, fun e => some (dE (e.1, cls cl e.2)), rfl, size_big (by omega), fun j e he acc => ?_, ?_⟩
    · have hlt := hrl.2.2 e (List.mem_of_getElem? he)
      refine agc_pair (by decide) (by decide) (at_yes ⟨fun _ => ?_, fun h => absurd h (by decide)⟩)
      refine ae_tup ?_
      walk_at "e"
      refine ao_seqD (ds := cl.map dN) (i := e.2) (d := dN (cls cl e.2)) rfl (gcl e.2 hlt) ?_
      walk_at "e"
      exact ⟨_, rfl, size_big (by show 2 ≤ _; decide), rfl, rfl, _, rfl, rfl⟩
    rw [fm_map]
    walk_at "e"
    refine ar_tuple (ds := r.map fun e : Act × Nat => dE (e.1, cls cl e.2)) rfl ?_
    walk_at "e"
    have hsg : PyData.tuple [dN (cls cl i), .tuple (r.map fun e : Act × Nat => dE (e.1, cls cl e.2))] = dSgn (sgn X (cls cl) i) := by
      unfold dSgn sgn dRow mapR
      rw [hrow, List.map_map]
      rfl
    refine ⟨[dN (cls cl i), .tuple (r.map fun e : Act × Nat => dE (e.1, cls cl e.2))], rfl, size_big (by show 2 ≤ _; decide), ?_⟩
    rw [hsg]
    generalize hs : sgn X (cls cl) i = s at *
    have go : ∀ (Sg : List (Nat × List (Act × Nat))) (nu : Nat × List (Act × Nat) → Nat), s ∈ Sg → Sg.Nodup → Sg.length ≤ i + 1 → (∀ (j : Nat) s, Sg[j]? = some s → nu s = j) → (∀ k, k < i → sgn X (cls cl) k ∈ Sg) → Sg = sgl X cl (i + 1) → ∀ K0 : AK, K0.nx = (fun st => ∃ (Sg : List (Nat × List (Act × Nat))) (nu : Nat × List (Act × Nat) → Nat) (x4 x5 x6 : Option Rf), st = ⟨[some (.dat (dT X)), some (.dat (dL cl)), some (.own 0), some (.own 1), x4, x5, x6, none, none], [.dn (Sg.map fun s => (dSgn s, .dat (dN (nu s)))), .lst ((((List.range (i + 1)).map fun k => nu (sgn X (cls cl) k)).map dN).map .dat)]⟩ ∧ Sg.Nodup ∧ Sg.length ≤ i + 1 ∧ (∀ (j : Nat) s, Sg[j]? = some s → nu s = j) ∧ (∀ k, k < i + 1 → sgn X (cls cl) k ∈ Sg) ∧ Sg = sgl X cl (i + 1)) →
        AST P w G (tDrop (tBM K "list" rAppend (tVar 3) (tCons (tOp (rGet K P w) (tVar 2) (tVar 6)) tNil))) ⟨[some (.dat (dT X)), some (.dat (dL cl)), some (.own 0), some (.own 1), some (.dat (dN i)), some (.dat (dRow r)), some (.dat (dSgn s)), none, none], [.dn (Sg.map fun s => (dSgn s, .dat (dN (nu s)))), .lst ((((List.range i).map fun k => nu (sgn X (cls cl) k)).map dN).map .dat)]⟩ K0 := by
      intro Sg nu hsm nd hle hnu hin hse K0 e0
      walk_at "e"
      refine ae_append ?_
      walk_at "e"
      refine ⟨1, rfl, ⟨_, rfl⟩, ?_⟩
      walk_at "e"
      refine ao_getN (i := 0) (.inl rfl) (kd_ok (kd_dSgn s) (by omega)) (lookN_map dSgn_key (fun s => Rf.dat (dN (nu s))) Sg s |>.trans (if_pos hsm)) ?_
      walk_at "e"
      refine ⟨_, _, rfl, rfl, size_lt (by rw [List.length_map, List.length_map, List.length_map, List.length_range]; omega), ?_⟩
      rw [e0]
      refine ⟨Sg, nu, some (.dat (dN i)), some (.dat (dRow r)), some (.dat (dSgn s)), ?_, nd, hle, hnu, fun k hk => ?_, hse⟩
      · rw [List.range_succ, List.map_append (f := fun k => nu (sgn X (cls cl) k)), ← hs]
        show _ = (⟨_, [_, .lst (((((List.range i).map fun k => nu (sgn X (cls cl) k)) ++ [nu (sgn X (cls cl) i)]).map dN).map .dat)]⟩ : AS)
        rw [md_snoc]
        rfl
      · by_cases q : k = i
        · rw [q, hs]
          exact hsm
        · exact hin k (by omega)
    walk_at "e"
    refine ao_inN (neg := true) (i := 0) (.inl rfl) (kd_ok (kd_dSgn s) (by omega)) ⟨_, rfl, fun hb2 => ?_, fun hb2 => ?_⟩
    · have hni : s ∉ Sg := by
        have hb2 : (!(lookN (Sg.map fun s => (dSgn s, Rf.dat (dN (nu s)))) (dSgn s)).isSome) = true := hb2
        rw [lookN_map dSgn_key (fun s => Rf.dat (dN (nu s)))] at hb2
        intro z
        rw [if_pos z] at hb2
        cases hb2
      refine as_asg ?_
      walk_at "e"
      refine ar_lenN (i := 0) (.inl rfl) ?_
      refine ag_sub ?_
      walk_at "e"
      refine aset_dn rfl (kd_ok (kd_dSgn s) (by omega)) (size_lt (by rw [List.length_map]; omega)) ?_
      rw [List.length_map]
      have e1 : (Sg.map fun s' => (dSgn s', Rf.dat (dN (nu s')))) = Sg.map fun s' => (dSgn s', Rf.dat (dN (if s' = s then Sg.length else nu s'))) := List.map_congr_left fun s' h' => by
        rw [if_neg fun z : s' = s => hni (z ▸ h')]
      have e2 := putN_new dSgn_key (fun s' => Rf.dat (dN (if s' = s then Sg.length else nu s'))) hni
      rw [if_pos rfl, ← e1] at e2
      have e3 : ((List.range i).map fun k => nu (sgn X (cls cl) k)) = (List.range i).map fun k => if sgn X (cls cl) k = s then Sg.length else nu (sgn X (cls cl) k) := List.map_congr_left fun k hk => by
        rw [if_neg fun z : _ = s => hni (z ▸ hin k (List.mem_range.mp hk))]
      have e4 := go (Sg ++ [s]) (fun s' => if s' = s then Sg.length else nu s') (List.mem_append_right _ (List.mem_singleton.mpr rfl)) (List.nodup_append.mpr ⟨nd, by simp, fun a ha b hb => by rw [List.mem_singleton.mp hb]; exact fun z => hni (z ▸ ha)⟩) (by rw [List.length_append]; show _ + 1 ≤ _; omega) (fun j s' hj => by
        by_cases q : j < Sg.length
        · rw [List.getElem?_append_left q] at hj
          rw [if_neg fun z : s' = s => hni (z ▸ List.mem_of_getElem? hj)]
          exact hnu j s' hj
        · rw [List.getElem?_append_right (by omega)] at hj
          have hz : j - Sg.length = 0 := by
            cases q2 : j - Sg.length with
            | zero => rfl
            | succ n => rw [q2] at hj; simp at hj
          rw [hz] at hj
          have : s = s' := by simpa using hj
          rw [if_pos this.symm]
          omega) (fun k hk => List.mem_append_left _ (hin k hk)) (by rw [hss]; unfold addG; rw [if_neg hni])
      rw [← e3, ← e2] at e4
      exact e4 _ rfl
    · have hni : s ∈ Sg := by
        have hb2 : (!(lookN (Sg.map fun s => (dSgn s, Rf.dat (dN (nu s)))) (dSgn s)).isSome) = false := hb2
        rw [lookN_map dSgn_key (fun s => Rf.dat (dN (nu s)))] at hb2
        refine Classical.byContradiction fun z => ?_
        rw [if_neg z] at hb2
        cases hb2
      refine as_next ?_
      exact go Sg nu hni nd (by omega) hnu hin (by rw [hss]; unfold addG; rw [if_pos hni]) _ rfl
  · rintro st ⟨Sg, nu, x4, x5, x6, rfl, nd, hle, hnu, hin, hse⟩
    have hse : Sg = sgl X cl X.n := hse
    show AST P w G _ _ _
    refine as_frz 1 ((((List.range X.rows.length).map fun k => nu (sgn X (cls cl) k))).map dN) rfl ?_
    walk_at "e"
    have hc : ∀ k, k < X.n → cls ((List.range X.rows.length).map fun k => nu (sgn X (cls cl) k)) k = nu (sgn X (cls cl) k) := fun k hk => by
      unfold cls
      rw [List.getD_eq_getElem?_getD, List.getElem?_map, List.getElem?_range (show k < X.rows.length from hk)]
      rfl
    refine ⟨_, rfl, _, rfl, by rw [List.length_map, List.length_range]; rfl, fun k hk => ?_, fun i j hi hj => ?_, hse ▸ nd, fun k hk => ?_⟩
    · rw [hc k hk]
      obtain ⟨j, hj⟩ := List.mem_iff_getElem?.mp (hin k hk)
      rw [hnu j _ hj]
      exact Nat.lt_of_lt_of_le (List.getElem?_eq_some_iff.mp hj).1 hle
    · rw [hc i hi, hc j hj]
      refine ⟨fun h => ?_, fun h => by rw [h]⟩
      obtain ⟨a, ha⟩ := List.mem_iff_getElem?.mp (hin i hi)
      obtain ⟨b, hb⟩ := List.mem_iff_getElem?.mp (hin j hj)
      rw [hnu a _ ha, hnu b _ hb] at h
      rw [h, hb] at ha
      exact (Option.some.inj ha).symm
    · rw [hc k hk]
      show (sgl X cl X.n)[_]? = _
      rw [← hse]
      obtain ⟨j, hj⟩ := List.mem_iff_getElem?.mp (hin k hk)
      rw [hnu j _ hj]
      exact hj
/-! ### alike_classes -/
theorem nodup_of_len {α : Type} [DecidableEq α] : ∀ {l m : List α}, l.Nodup → (∀ x ∈ l, x ∈ m) → m.length ≤ l.length → m.Nodup
  | [], m, _, _, h => by
    have : m = [] := List.length_eq_zero_iff.mp (Nat.le_zero.mp h)
    rw [this]
    exact List.nodup_nil
  | a :: l, m, nd, hs, h => by
    rw [List.nodup_cons] at nd
    have ha := hs a List.mem_cons_self
    have hsub : ∀ x ∈ l, x ∈ m.erase a := fun x hx => (List.mem_erase_of_ne (fun z => nd.1 (by rw [← z]; exact hx))).mpr (hs x (List.mem_cons_of_mem _ hx))
    have hlen : (m.erase a).length = m.length - 1 := List.length_erase_of_mem ha
    have hpos := List.length_pos_of_mem ha
    rw [List.length_cons] at h
    have h1 := nodup_of_len nd.2 hsub (by omega)
    have h2 : a ∉ m.erase a := fun z => by
      have h3 := nodup_sub nd.2 (m := (m.erase a).erase a) fun x hx => (List.mem_erase_of_ne (fun z => nd.1 (by rw [← z]; exact hx))).mpr (hsub x hx)
      rw [List.length_erase_of_mem z] at h3
      have := List.length_pos_of_mem z
      omega
    exact (List.perm_cons_erase ha).nodup_iff.mpr (List.nodup_cons.mpr ⟨h2, h1⟩)
theorem nodup_inj {α β : Type} {f : α → β} : ∀ {l : List α}, (l.map f).Nodup → ∀ a ∈ l, ∀ b ∈ l, f a = f b → a = b
  | [], _, _, h, _, _, _ => nomatch h
  | x :: l, nd, a, ha, b, hb, e => by
    rw [List.map_cons, List.nodup_cons] at nd
    rcases List.mem_cons.mp ha with h1 | h1 <;> rcases List.mem_cons.mp hb with h2 | h2
    · rw [h1, h2]
    · exact absurd (List.mem_map.mpr ⟨b, h2, by rw [← e, h1]⟩) nd.1
    · exact absurd (List.mem_map.mpr ⟨a, h1, by rw [e, h2]⟩) nd.1
    · exact nodup_inj nd.2 a h1 b h2 e
/-- c values in all -/
def Card (l : List Nat) (c : Nat) : Prop := ∃ m : List Nat, m.Nodup ∧ (∀ k, k ∈ m ↔ k ∈ l) ∧ m.length = c
theorem card_of {l : List Nat} {m : List Int} (nd : m.Nodup) (h : ∀ k : Int, k ∈ m ↔ k ∈ l.map fun n : Nat => (n : Int)) : Card l m.length := by
  have hm : ∀ k ∈ m, ∃ n : Nat, n ∈ l ∧ (n : Int) = k := fun k hk => by
    obtain ⟨n, h1, h2⟩ := List.mem_map.mp ((h k).mp hk)
    exact ⟨n, h1, h2⟩
  refine ⟨m.map Int.toNat, ?_, fun k => ?_, List.length_map _⟩
  · refine List.pairwise_map.mpr (List.Pairwise.imp_of_mem (fun {a b} ha hb hab z => hab ?_) nd)
    obtain ⟨n, _, h2⟩ := hm a ha
    obtain ⟨n', _, h2'⟩ := hm b hb
    omega
  · rw [List.mem_map]
    constructor
    · rintro ⟨a, ha, rfl⟩
      obtain ⟨n, h1, h2⟩ := hm a ha
      rw [← h2]
      exact h1
    · intro hk
      exact ⟨(k : Int), (h k).mpr (List.mem_map.mpr ⟨k, hk, rfl⟩), rfl⟩
theorem cls_mem {cl : List Nat} {k : Nat} (h : k < cl.length) : cls cl k ∈ cl := by
  unfold cls
  rw [List.getD_eq_getElem?_getD, List.getElem?_eq_getElem h]
  exact List.getElem_mem h
theorem mem_cls {cl : List Nat} {c : Nat} (h : c ∈ cl) : ∃ k, k < cl.length ∧ cls cl k = c := by
  obtain ⟨k, hk⟩ := List.mem_iff_getElem?.mp h
  refine ⟨k, (List.getElem?_eq_some_iff.mp hk).1, ?_⟩
  unfold cls
  rw [List.getD_eq_getElem?_getD, hk]
  rfl
/-- finer classes are no fewer; if no more, they are the same -/
theorem card_finer {n : Nat} {cl fr : List Nat} (h1 : cl.length = n) (h2 : fr.length = n) (h : ∀ i j, i < n → j < n → cls fr i = cls fr j → cls cl i = cls cl j) {c d : Nat} (hc : Card cl c) (hd : Card fr d) :
    c ≤ d ∧ (c = d → ∀ i j, i < n → j < n → cls cl i = cls cl j → cls fr i = cls fr j) := by
  obtain ⟨mc, nc, ec, rfl⟩ := hc
  obtain ⟨md, nd, ed, rfl⟩ := hd
  have ch : ∀ v : Nat, ∃ k, v ∈ md → k < n ∧ cls fr k = v := fun v => by
    by_cases q : v ∈ md
    · obtain ⟨k, hk, e⟩ := mem_cls ((ed v).mp q)
      exact ⟨k, fun _ => ⟨h2 ▸ hk, e⟩⟩
    · exact ⟨0, fun z => absurd z q⟩
  let kv : Nat → Nat := fun v => Classical.choose (ch v)
  have hkv : ∀ v ∈ md, kv v < n ∧ cls fr (kv v) = v := fun v hv => Classical.choose_spec (ch v) hv
  have hphi : ∀ i, i < n → cls cl (kv (cls fr i)) = cls cl i := fun i hi => by
    have := hkv (cls fr i) ((ed _).mpr (cls_mem (by omega)))
    exact h _ _ this.1 hi this.2
  have hsub : ∀ x ∈ mc, x ∈ md.map fun v => cls cl (kv v) := fun x hx => by
    obtain ⟨k, hk, rfl⟩ := mem_cls ((ec x).mp hx)
    exact List.mem_map.mpr ⟨cls fr k, (ed _).mpr (cls_mem (by omega)), hphi k (by omega)⟩
  have hle := nodup_sub nc hsub
  rw [List.length_map] at hle
  refine ⟨hle, fun e i j hi hj hij => ?_⟩
  have nd2 := nodup_of_len nc hsub (by rw [List.length_map]; omega)
  refine nodup_inj nd2 _ ((ed _).mpr (cls_mem (by omega))) _ ((ed _).mpr (cls_mem (by omega))) ?_
  show cls cl (kv (cls fr i)) = cls cl (kv (cls fr j))
  rw [hphi i hi, hphi j hj, hij]
def SameC (l m : List Nat) : Prop := ∃ c, Card l c ∧ Card m c
theorem card_same {l : List Nat} {c d : Nat} (h : Card l c) (k : Card l d) : c = d := by
  obtain ⟨m, n1, e1, rfl⟩ := h
  obtain ⟨m', n2, e2, rfl⟩ := k
  have h1 := nodup_sub n1 fun x hx => (e2 x).mpr ((e1 x).mp hx)
  have h2 := nodup_sub n2 fun x hx => (e1 x).mpr ((e2 x).mp hx)
  omega
inductive AliR (X : Tab) : List Nat → List Nat → Prop
  | stop {cl fr : List Nat} : Finer X cl fr → SameC cl fr → AliR X cl fr
  | more {cl fr r : List Nat} : Finer X cl fr → ¬ SameC cl fr → AliR X fr r → AliR X cl r
theorem AliR.same {X : Tab} {cl r r' : List Nat} (h : AliR X cl r) (k : AliR X cl r') : r = r' := by
  induction h generalizing r' with
  | stop h1 h2 =>
    cases k with
    | stop k1 k2 => exact h1.same k1
    | more k1 k2 k3 =>
      rw [← h1.same k1] at k2
      exact absurd h2 k2
  | more h1 h2 _ ih =>
    cases k with
    | stop k1 k2 =>
      rw [← h1.same k1] at k2
      exact absurd k2 h2
    | more k1 k2 k3 =>
      rw [← h1.same k1] at k3
      exact ih k3
def cl0 (X : Tab) : List Nat := X.ends.map fun b => if b = true then 1 else 0
structure Stable (X : Tab) (fr : List Nat) : Prop where
  len : fr.length = X.n
  lt : ∀ k, k < X.n → cls fr k < X.n
  same : ∀ i j, i < X.n → j < X.n → cls fr i = cls fr j → mapR (cls fr) (X.row i) = mapR (cls fr) (X.row j)
  det : AliR X (cl0 X) fr
theorem mapR_fine {n : Nat} {f g : Nat → Nat} (h : ∀ x y, x < n → y < n → f x = f y → g x = g y) : ∀ {r r' : List (Act × Nat)}, (∀ e ∈ r, e.2 < n) → (∀ e ∈ r', e.2 < n) → mapR f r = mapR f r' → mapR g r = mapR g r'
  | [], [], _, _, _ => rfl
  | [], _ :: _, _, _, e => by simp [mapR] at e
  | _ :: _, [], _, _, e => by simp [mapR] at e
  | a :: r, b :: r', h1, h2, e => by
    unfold mapR at e ⊢
    rw [List.map_cons, List.map_cons, List.cons.injEq, Prod.mk.injEq] at e
    rw [List.map_cons, List.map_cons, e.1.1, h _ _ (h1 a List.mem_cons_self) (h2 b List.mem_cons_self) e.1.2]
    congr 1
    exact mapR_fine h (fun e he => h1 e (List.mem_cons_of_mem _ he)) (fun e he => h2 e (List.mem_cons_of_mem _ he)) e.2
def qAli (X : Tab) (d : D) : Prop := ∃ fr, d = dL fr ∧ Stable X fr
theorem card_le {l : List Nat} {c : Nat} (h : Card l c) : c ≤ l.length := by
  obtain ⟨m, nd, e, rfl⟩ := h
  exact nodup_sub nd fun x hx => (e x).mp hx
theorem lenset_nat {P : Program} {w : World} {G : Hp} {s : AS} {K : Rf → AS → Prop} {KF : PySem.W.Frag} {ta : TE} (h : AE P w G ta s fun r s1 => ∃ l : List Nat, r = .dat (dL l) ∧ l.length ≤ 4000 ∧ ∀ c, Card l c → K (.dat (dN c)) s1) : AE P w G (tLenSet KF ta) s K := by
  refine ae_lenSet (h.mono fun r s1 ⟨l, e, hl, k⟩ => ⟨l.map fun n : Nat => (n : Int), ?_, by rw [List.length_map]; exact hl, fun m nd hm => k _ (card_of nd hm)⟩)
  subst e
  show _ = _
  rw [List.map_map (f := fun n : Nat => (n : Int))]
  rfl
theorem rd_alike_classes {K : PySem.W.Frag} {P : Program} {w : World} {N : List Str} (hN : N.length = 6) : ∀ vs H Q E, spI P w aTab Wf qAli vs H Q E → t_alike_classes K P w (spI P w aRef pRef qRef) { nx := fun _ H' => Q .non H', rt := Q } (L2.start N vs) H := by
  refine fnI fun G X hX => ⟨by rw [hN]; show 1 ≤ 6; decide, ?_⟩
  rw [hN]
  show AST P w G (t_alike_classes K P w _) ⟨[some (.dat (dT X)), none, none, none, none, none], []⟩ _
  unfold t_alike_classes
  have hn := hX.le
  walk_at "e"
  refine ae_lcT (α := Bool) ?_
  walk_at "e"
  refine ⟨X.ends, .bool, fun b => some (dN (if b = true then 1 else 0)), rfl, size_big (by have := hX.ends; omega), fun j b hb acc => ?_, ?_⟩
  · refine agc_name (by decide) (at_yes ⟨fun _ => ?_, fun h => absurd h (by decide)⟩)
    walk_at "e"
    refine ar_intB ⟨rfl, rfl, _, rfl, ?_⟩
    cases b <;> rfl
  rw [fm_map, show (X.ends.map fun b => dN (if b = true then 1 else 0)) = (X.ends.map fun b => if b = true then 1 else 0).map dN from by rw [List.map_map]; rfl]
  have hl0 : (X.ends.map fun b => if b = true then 1 else 0).length = X.n := by rw [List.length_map]; exact hX.ends
  generalize hcl : (X.ends.map fun b => if b = true then 1 else 0) = cl1 at hl0
  have hcl : cl0 X = cl1 := hcl
  walk_at "e"
  refine lenset_nat (ae_var rfl ⟨cl1, rfl, by omega, fun c0 hc0 => ?_⟩)
  refine as_while (fun k st => ∃ cl c x3 x4, st = ⟨[some (.dat (dT X)), some (.dat (dL cl)), some (.dat (dN c)), x3, x4, none], []⟩ ∧ cl.length = X.n ∧ Card cl c ∧ (∀ r, AliR X cl r → AliR X (cl0 X) r) ∧ k = 400 - c) _ ⟨cl1, c0, none, none, rfl, hl0, hc0, fun r h => hcl ▸ h, rfl⟩ ?_
  rintro k st ⟨cl, c, x3, x4, rfl, hl, hc, hal, rfl⟩
  walk_at "e"
  refine ⟨_, rfl, fun _ => ?_, fun h => absurd h (by decide)⟩
  walk_at "e"
  refine ⟨(X, cl), rfl, ⟨hX, hl⟩, fun d hd => ?_⟩
  obtain ⟨fr, rfl, hf⟩ := hd
  walk_at "e"
  refine lenset_nat (ae_var rfl ⟨fr, rfl, by have : fr.length = X.n := hf.len; omega, fun c2 hc2 => ?_⟩)
  have hfin : ∀ i j, i < X.n → j < X.n → cls fr i = cls fr j → cls cl i = cls cl j := fun i j hi hj e => congrArg Prod.fst ((hf.iff i j hi hj).mp e)
  obtain ⟨hle, heq⟩ := card_finer hl hf.len hfin hc hc2
  walk_at "e"
  refine ⟨_, rfl, fun hb => ?_, fun hb => ?_⟩
  · have e : c2 = c := of_decide_eq_true hb
    walk_at "e"
    refine ⟨_, rfl, fr, rfl, hf.len, hf.lt, fun i j hi hj hij => ?_, hal _ (.stop hf ⟨c, hc, e ▸ hc2⟩)⟩
    exact mapR_fine (n := X.n) (fun x y hx hy h => heq e.symm x y hx hy h) (hX.row' i).2.2 (hX.row' j).2.2 (congrArg Prod.snd ((hf.iff i j hi hj).mp hij))
  · have e : ¬ c2 = c := of_decide_eq_false hb
    walk_at "e"
    refine ⟨400 - c2, ?_, fr, c2, some (.dat (dL fr)), some (.dat (dN c2)), rfl, hf.len, hc2, fun r h => hal r (.more hf (fun ⟨d, z1, z2⟩ => e ((card_same hc2 z2).trans (card_same z1 hc))) h), rfl⟩
    have := card_le hc2
    have : fr.length = X.n := hf.len
    omega
/-! ### least -/
structure Sim (X Y : Tab) (ρ : Nat → Nat → Prop) : Prop where
  fn : ∀ i m m', ρ i m → ρ i m' → m = m'
  start : ρ 0 0
  none : ∀ i m, i < X.n → ρ i m → ∀ a, X.step i a = none → Y.step m a = none
  some : ∀ i m, i < X.n → ρ i m → ∀ a g, X.step i a = some g → ∃ m', Y.step m a = some m' ∧ ρ g m'
def aLea (x : Tab × List Act) : List D := [dT x.1]
def pLea (x : Tab × List Act) : Prop := Wf x.1 ∧ x.2.length ≤ 300 ∧ ∀ s, ∀ e ∈ x.1.row s, e.1 ∈ x.2
def mvr (f : Nat → Nat) (r : List (Act × Nat)) : List (Act × List Nat) := r.map fun e => (e.1, [f e.2])
def Mof (X : Tab) (fr : List Nat) : Nat → Mvs
  | 0 => List.replicate X.n []
  | i + 1 => (Mof X fr i).set (cls fr i) (mvr (cls fr) (X.row i))
def Eof (X : Tab) (fr : List Nat) : Nat → List Bool
  | 0 => List.replicate X.n false
  | i + 1 => (Eof X fr i).set (cls fr i) (X.ends.getD i false)
def LeaD (X Y : Tab) : Prop := ∃ fr O, AliR X (cl0 X) fr ∧ SubD [cls fr 0] (Mof X fr X.n) (Eof X fr X.n) Y O
theorem LeaD.same {X Y Y' : Tab} (h : LeaD X Y) (k : LeaD X Y') : Y = Y' := by
  obtain ⟨fr, O, h1, h2⟩ := h
  obtain ⟨fr', O', k1, k2⟩ := k
  have := h1.same k1
  subst this
  exact (h2.same k2).1
def qLea (x : Tab × List Act) (d : D) : Prop := ∃ Y ρ, d = dT Y ∧ Wf Y ∧ Sim x.1 Y ρ ∧ LeaD x.1 Y
theorem ae_lcK {P : Program} {w : World} {G : Hp} {s : AS} {K : Rf → AS → Prop} {KF : PySem.W.Frag} {tl te : TE} {j : Nat} (h : AE P w G tl s fun r s1 => ∃ (l : List D) (d : D), r = .dat (.list l) ∧ l.length < sizeLine ∧ (∀ (s2 : AS) (K2 : Rf → AS → Prop), K2 (.dat d) s2 → AE P w G te s2 K2) ∧ K (.own s1.m.length) ⟨s1.sl, s1.m ++ [.lst (List.replicate l.length (.dat d))]⟩) :
    AE P w G (tLc (iSeq KF tl) (gName j) tYes te [j]) s K := by
  refine ae_lc (ai_lst (h.mono fun r s1 ⟨l, d, e, hl, ht, k⟩ => ⟨l, e, fun i acc s2 => acc = List.replicate i (.dat d) ∧ i ≤ l.length ∧ s2 = ⟨wipeA s1.sl [j], s1.m ++ [.lst acc]⟩, ⟨rfl, Nat.zero_le _, rfl⟩, fun _ _ _ _ _ => True.intro, ?_, ?_⟩))
  · rintro i r acc s2 hr ⟨rfl, hi, rfl⟩
    have hi2 : i < l.length := by
      have := (List.getElem?_eq_some_iff.mp hr).1
      rw [List.length_map] at this
      exact this
    refine agc_name List.mem_cons_self (at_yes ⟨fun _ => ht _ _ ⟨List.replicate i (.dat d), ?_, by rw [List.length_replicate]; omega, ?_, hi2, ?_⟩, fun h => absurd h (by decide)⟩)
    · show (s1.m ++ [Ct.lst _])[s1.m.length]? = _
      rw [List.getElem?_append_right (Nat.le_refl _), Nat.sub_self]
      rfl
    · rw [List.replicate_succ']
    · show (⟨((s1.sl.set j none).set j (some r)).set j none, (s1.m ++ [Ct.lst _]).set s1.m.length _⟩ : AS) = ⟨s1.sl.set j none, _⟩
      rw [List.set_set, List.set_set, List.set_append_right _ _ (Nat.le_refl _), Nat.sub_self]
      rfl
  · rintro acc s2 ⟨rfl, _, rfl⟩
    rw [List.length_map] at *
    exact k
theorem mvr_same {f : Nat → Nat} {r r' : List (Act × Nat)} (h : mapR f r = mapR f r') : mvr f r = mvr f r' := by
  have e : ∀ r, mvr f r = (mapR f r).map fun e => (e.1, [e.2]) := fun r => by
    unfold mvr mapR
    rw [List.map_map]
    rfl
  rw [e, e, h]
structure InvL (X : Tab) (fr : List Nat) (M : Mvs) (E : List Bool) (i : Nat) : Prop where
  mlen : M.length = X.n
  elen : E.length = X.n
  done : ∀ k, k < i → M.row (cls fr k) = mvr (cls fr) (X.row k)
  each : ∀ r ∈ M, r = [] ∨ ∃ k, k < X.n ∧ r = mvr (cls fr) (X.row k)
theorem InvL.next {X : Tab} {fr : List Nat} {M : Mvs} {E : List Bool} {i : Nat} (hf : Stable X fr) (hi : i < X.n) (h : InvL X fr M E i) (b : Bool) : InvL X fr (M.set (cls fr i) (mvr (cls fr) (X.row i))) (E.set (cls fr i) b) (i + 1) := by
  refine ⟨by rw [List.length_set]; exact h.mlen, by rw [List.length_set]; exact h.elen, fun k hk => ?_, fun r hr => ?_⟩
  · have hlt := hf.lt i hi
    have hm := h.mlen
    unfold Mvs.row
    rw [List.getD_eq_getElem?_getD]
    by_cases q : cls fr k = cls fr i
    · rw [q, List.getElem?_set_self (by omega)]
      show mvr _ _ = _
      by_cases q2 : k = i
      · rw [q2]
      · exact mvr_same (hf.same i k hi (by omega) q.symm)
    · rw [List.getElem?_set_ne (fun z => q z.symm)]
      have : k ≠ i := fun z => q (by rw [z])
      have h2 := h.done k (by omega)
      unfold Mvs.row at h2
      rw [List.getD_eq_getElem?_getD] at h2
      exact h2
  · rcases List.mem_or_eq_of_mem_set hr with h1 | h1
    · exact h.each r h1
    · exact .inr ⟨i, hi, h1⟩
theorem frzC_dat (i : Nat) (d : D) (l : List D) : frzC i d (.lst (l.map .dat)) = .lst (l.map .dat) := by
  show Ct.lst ((l.map Rf.dat).map (frzR i d)) = _
  rw [List.map_map]
  rfl
theorem mv_one {M : Mvs} {c : Nat} {f : Nat → Nat} {r : List (Act × Nat)} {e : Act × Nat} {a : Act} (nd : (r.map (·.1)).Nodup) (hc : M.row c = mvr f r) (he : e ∈ r) (hea : e.1 = a) : IsS (Mv M [c] a) [f e.2] := by
  refine ⟨by simp [Srt], fun y => ?_⟩
  rw [List.mem_singleton]
  constructor
  · rintro rfl
    exact ⟨c, List.mem_singleton.mpr rfl, (e.1, [f e.2]), by rw [hc]; exact List.mem_map.mpr ⟨e, he, rfl⟩, hea, List.mem_singleton.mpr rfl⟩
  · rintro ⟨s, hs, e', he', h1, h2⟩
    rw [List.mem_singleton.mp hs, hc] at he'
    obtain ⟨e2, h3, rfl⟩ := List.mem_map.mp he'
    have h4 := mem_look nd (show (a, e2.2) ∈ r by rw [← show e2.1 = a from h1]; exact h3)
    have h5 := mem_look nd (show (a, e.2) ∈ r by rw [← hea]; exact he)
    rw [h4] at h5
    rw [List.mem_singleton.mp h2, Option.some.inj h5]
theorem rd_least {K : PySem.W.Frag} {P : Program} {w : World} {N : List Str} (hN : N.length = 9) : ∀ vs H Q E, spI P w aLea pLea qLea vs H Q E → t_least K P w (spI P w aTab Wf qAli) (spI P w aSub pSub qSub) { nx := fun _ H' => Q .non H', rt := Q } (L2.start N vs) H := by
  refine fnI fun G x hx => ⟨by rw [hN]; show 1 ≤ 9; decide, ?_⟩
  rw [hN]
  obtain ⟨X, As⟩ := x
  obtain ⟨hX, hAl, hAs⟩ := (show Wf X ∧ As.length ≤ 300 ∧ ∀ s, ∀ e ∈ X.row s, e.1 ∈ As from hx)
  show AST P w G (t_least K P w _ _) ⟨[some (.dat (dT X)), none, none, none, none, none, none, none, none], []⟩ _
  unfold t_least
  have hn := hX.le
  walk_at "e"
  refine ⟨X, rfl, hX, fun d hd => ?_⟩
  obtain ⟨fr, rfl, hf⟩ := hd
  have hfl := hf.len
  walk_at "e"
  refine ae_lcK (ae_var rfl ⟨fr.map dN, .list [], rfl, size_lt (by rw [List.length_map]; omega), fun s2 K2 k => ae_lstD (aa_nil ⟨[], rfl, Nat.zero_le _, k⟩), ?_⟩)
  walk_at "e"
  refine ae_lcK (ae_var rfl ⟨fr.map dN, .bool false, rfl, size_lt (by rw [List.length_map]; omega), fun s2 K2 k => ae_bl k, ?_⟩)
  rw [List.length_map, hfl]
  have gcl : ∀ k, k < X.n → (fr.map dN)[k]? = some (dN (cls fr k)) := fun k hk => by
    rw [List.getElem?_map]
    unfold cls
    rw [List.getD_eq_getElem?_getD, List.getElem?_eq_getElem (by omega)]
    rfl
  refine as_seq (as_forE (α := List (Act × Nat)) ?_)
  walk_at "e"
  refine ⟨X.rows, dRow, rfl, fun i st => ∃ M E x4 x5, M = Mof X fr i ∧ E = Eof X fr i ∧ st = ⟨[some (.dat (dT X)), some (.dat (dL fr)), some (.own 0), some (.own 1), x4, x5, none, none, none], [.lst ((M.map dMr).map .dat), .lst ((E.map .bool).map .dat)]⟩ ∧ InvL X fr M E i, ⟨List.replicate X.n [], List.replicate X.n false, none, none, rfl, rfl, ?_, ⟨List.length_replicate, List.length_replicate, fun k h => absurd h (by omega), fun r hr => .inl (List.eq_of_mem_replicate hr)⟩⟩, ?_, ?_⟩
  · rw [List.map_replicate, List.map_replicate, List.map_replicate, List.map_replicate]
    rfl
  · rintro i r st hr ⟨M, E, x4, x5, hME, hEE, rfl, iv⟩
    have hi : i < X.n := (List.getElem?_eq_some_iff.mp hr).1
    have hrow : X.row i = r := by
      unfold Tab.row
      rw [List.getD_eq_getElem?_getD, hr]
      rfl
    have hrl := (hX.row r (List.mem_of_getElem? hr))
    have hlt := hf.lt i hi
    refine ag_pair ?_
    refine as_seq (as_asg ?_)
    refine ae_lcT (α := Act × Nat) ?_
    refine ae_var rfl ⟨r, dE, fun e => some (dMe (e.1, [cls fr e.2])), rfl, size_big (by omega), fun j e he acc => ?_, ?_⟩
    · have hlt := hrl.2.2 e (List.mem_of_getElem? he)
      refine agc_pair (by decide) (by decide) (at_yes ⟨fun _ => ?_, fun h => absurd h (by decide)⟩)
      refine ae_tup ?_
      walk_at "e"
      refine ae_tup ?_
      walk_at "e"
      refine ao_seqD (ds := fr.map dN) (i := e.2) (d := dN (cls fr e.2)) rfl (gcl e.2 hlt) ?_
      walk_at "e"
      refine ⟨_, rfl, size_big (by show 1 ≤ _; decide), ?_⟩
      walk_at "e"
      exact ⟨_, rfl, size_big (by show 2 ≤ _; decide), rfl, rfl, _, rfl, rfl⟩
    rw [fm_map, show (r.map fun e => dMe (e.1, [cls fr e.2])) = (mvr (cls fr) r).map dMe from by unfold mvr; rw [List.map_map]; rfl]
    refine ag_sub ?_
    walk_at "e"
    refine ao_seqD (ds := fr.map dN) (i := i) (d := dN (cls fr i)) rfl (gcl i hi) ?_
    refine aset_lst (j := cls fr i) rfl (by rw [List.length_map, List.length_map, iv.mlen]; exact hlt) ?_
    refine as_asg ?_
    walk_at "e"
    refine ao_end (i := i) (by rw [hX.ends]; exact hi) ?_
    refine ag_sub ?_
    walk_at "e"
    refine ao_seqD (ds := fr.map dN) (i := i) (d := dN (cls fr i)) rfl (gcl i hi) ?_
    refine aset_lst (j := cls fr i) rfl (by rw [List.length_map, List.length_map, iv.elen]; exact hlt) ?_
    refine ⟨M.set (cls fr i) (mvr (cls fr) (X.row i)), E.set (cls fr i) (X.ends.getD i false), some (.dat (dN i)), some (.dat (dRow r)), by rw [hME]; rfl, by rw [hEE]; rfl, ?_, iv.next hf hi _⟩
    rw [List.map_set, List.map_set, List.map_set, List.map_set, hrow]
    rfl
  · rintro st ⟨M, E, x4, x5, hME, hEE, rfl, iv⟩
    show AST P w G _ _ _
    refine as_frz 0 (M.map dMr) rfl ?_
    refine as_frz 1 (E.map .bool) (by show some (frzC 0 _ (.lst ((E.map PyData.bool).map .dat))) = _; rw [frzC_dat]) ?_
    walk_at "e"
    refine ae_tup ?_
    walk_at "e"
    refine ao_seqD (ds := fr.map dN) (i := 0) (d := dN (cls fr 0)) rfl (gcl 0 hX.pos) ?_
    walk_at "e"
    refine ⟨_, rfl, size_big (by show 1 ≤ _; decide), ?_⟩
    walk_at "e"
    refine ar_lenQ (ds := fr.map dN) rfl ?_
    walk_at "e"
    rw [List.length_map, hfl]
    have hMrow : ∀ k, k < X.n → M.row (cls fr k) = mvr (cls fr) (X.row k) := iv.done
    refine ⟨⟨[cls fr 0], M, E, false, X.n, (List.range X.n).map fun c => [c], As⟩, rfl, ⟨⟨fun r hr => ?_⟩, by rw [iv.elen, iv.mlen], ?_, by rw [List.length_map, List.length_range]; exact Nat.le_refl _, hn, hAl, fun s e he => ?_, fun S hS => ?_, fun S hS a ha => ?_⟩, fun d hd => ?_⟩
    · rcases iv.each r hr with rfl | ⟨k, hk, rfl⟩
      · exact ⟨Nat.zero_le _, fun e h => (nomatch h)⟩
      · refine ⟨by unfold mvr; rw [List.length_map]; exact (hX.row' k).1, fun e he y hy => ?_⟩
        obtain ⟨e', he', rfl⟩ := List.mem_map.mp he
        rw [List.mem_singleton.mp hy]
        have := hf.lt e'.2 ((hX.row' k).2.2 e' he')
        omega
    · exact List.mem_map.mpr ⟨cls fr 0, List.mem_range.mpr (hf.lt 0 hX.pos), rfl⟩
    · have hr : ∀ c, ∀ e ∈ M.row c, e.1 ∈ As := fun c e he => by
        unfold Mvs.row at he
        rw [List.getD_eq_getElem?_getD] at he
        cases q : M[c]? with
        | none => rw [q] at he; exact absurd he (fun h => (nomatch h))
        | some r =>
          rw [q] at he
          rcases iv.each r (List.mem_of_getElem? q) with rfl | ⟨k, hk, rfl⟩
          · exact absurd he (fun h => (nomatch h))
          · obtain ⟨e', he', rfl⟩ := List.mem_map.mp he
            exact hAs k e' he'
      exact hr s e he
    · obtain ⟨c, hc, rfl⟩ := List.mem_map.mp hS
      have hc := List.mem_range.mp hc
      refine ⟨by show 1 ≤ 300; decide, fun s hs => ?_⟩
      rw [List.mem_singleton.mp hs, iv.mlen]
      exact hc
    · obtain ⟨c, hc, rfl⟩ := List.mem_map.mp hS
      obtain ⟨s, hs, e, he, hea⟩ := ha
      rw [List.mem_singleton.mp hs] at he
      obtain ⟨k, hk, hck⟩ : ∃ k, k < X.n ∧ M.row c = mvr (cls fr) (X.row k) := by
        unfold Mvs.row at he ⊢
        rw [List.getD_eq_getElem?_getD] at he ⊢
        cases q : M[c]? with
        | none => rw [q] at he; exact absurd he (fun h => (nomatch h))
        | some r =>
          rw [q] at he
          rcases iv.each r (List.mem_of_getElem? q) with rfl | h
          · exact absurd he (fun h => (nomatch h))
          · exact h
      have hca := hck
      rw [hca] at he
      obtain ⟨e', he', rfl⟩ := List.mem_map.mp he
      have hg := (hX.row' k).2.2 e' he'
      refine ⟨[cls fr e'.2], List.mem_map.mpr ⟨_, List.mem_range.mpr (hf.lt _ hg), rfl⟩, ?_⟩
      exact mv_one (hX.row' k).2.1 hca he' hea
    · obtain ⟨Y, O, rfl, ok⟩ := hd
      refine ⟨_, rfl, Y, fun i m => O[m]? = some [cls fr i], rfl, ok.wf, ⟨fun i m m' h h' => nodup_get ok.nd h h', ok.start, fun i m hi hm a ha => ?_, fun i m hi hm a g hg => ?_⟩, ⟨fr, O, hf.det, by have := ok.det; rw [hME, hEE] at this; exact this⟩⟩
      · have hr := ok.row m _ hm
        cases q : Y.step m a with
        | none => rfl
        | some j =>
          obtain ⟨s, hs, e, he, hea⟩ := (hr.sound (a, j) (look_mem q)).1
          have he : e ∈ M.row s := he
          rw [List.mem_singleton.mp hs, hMrow i hi] at he
          obtain ⟨e', he', rfl⟩ := List.mem_map.mp he
          have := mem_look (hX.row' i).2.1 (show (a, e'.2) ∈ X.row i by rw [← show e'.1 = a from hea]; exact he')
          rw [show X.step i a = some e'.2 from this] at ha
          cases ha
      · have hr := ok.row m _ hm
        have hin := look_mem (show look (X.row i) a = some g from hg)
        obtain ⟨j, hj⟩ := hr.full a ⟨cls fr i, List.mem_singleton.mpr rfl, (a, [cls fr g]), by
          show _ ∈ M.row _
          rw [hMrow i hi]
          exact List.mem_map.mpr ⟨(a, g), hin, rfl⟩, rfl⟩
        obtain ⟨_, S', h1, h2⟩ := hr.sound (a, j) hj
        refine ⟨j, mem_look hr.nd hj, ?_⟩
        show O[j]? = _
        rw [h1, h2.ext (mv_one (hX.row' i).2.1 (hMrow i hi) hin rfl)]
/-! ### erased, machine_of, machines_of -/
noncomputable def uns (T : Tab) (p : Str) (s : Nat) : List Nat := canon T (Un T p s)
theorem uns_is {T : Tab} (hT : Wf T) {p : Str} {s : Nat} (hs : s < T.n) : IsS (Un T p s) (uns T p s) := canon_is fun _ h => hT.un_lt h hs
structure Gd (T : Tab) : Prop where
  wf : Wf T
  acts : T.acts.length ≤ 300
/-- a seen run -/
def Vw (T : Tab) (p : Str) (v : List Act) : Prop := (∃ y, sv T p v y) ∧ ∀ a ∈ v, conc a p = true
def Few (T : Tab) (p : Str) : Prop := ∃ U : List (List Nat), U.length ≤ 300 ∧ ∀ v, Vw T p v → sgt T p v ∈ U
noncomputable def Tab.mvs (T : Tab) (p : Str) : Mvs := T.rows.map fun r => (r.filter fun e => conc e.1 p).map fun e => (e.1, uns T p e.2)
def MchD (T : Tab) (p : Str) (Y : Tab) : Prop := ∃ X O, SubD (sgt T p []) (T.mvs p) T.ends X O ∧ LeaD X Y
theorem MchD.same {T Y Y' : Tab} {p : Str} (h : MchD T p Y) (k : MchD T p Y') : Y = Y' := by
  obtain ⟨X, O, h1, h2⟩ := h
  obtain ⟨X', O', k1, k2⟩ := k
  have := (h1.same k1).1
  subst this
  exact h2.same k2
structure MachOk (T : Tab) (p : Str) (Y : Tab) : Prop where
  wf : Wf Y
  det : MchD T p Y
  rel : ∃ ρ : List Nat → Nat → Prop, (∀ S m m', ρ S m → ρ S m' → m = m') ∧ ρ (sgt T p []) 0 ∧ ∀ v m, Vw T p v → ρ (sgt T p v) m → ∀ a, (Vw T p (v ++ [a]) → ∃ m', Y.step m a = some m' ∧ ρ (sgt T p (v ++ [a])) m') ∧ (¬ Vw T p (v ++ [a]) → Y.step m a = none)
theorem vw_nil (T : Tab) (p : Str) : Vw T p [] := ⟨⟨0, .refl 0⟩, fun a h => nomatch h⟩
theorem mvs_row (T : Tab) (p : Str) (s : Nat) : (T.mvs p).row s = ((T.row s).filter fun e => conc e.1 p).map fun e => (e.1, uns T p e.2) := by
  unfold Mvs.row Tab.mvs Tab.row
  rw [List.getD_eq_getElem?_getD, List.getD_eq_getElem?_getD, List.getElem?_map]
  cases T.rows[s]? <;> rfl
theorem mvs_mem {T : Tab} {p : Str} {s : Nat} {e : Act × List Nat} : e ∈ (T.mvs p).row s ↔ ∃ g, (e.1, g) ∈ T.row s ∧ conc e.1 p = true ∧ e.2 = uns T p g := by
  rw [mvs_row, List.mem_map]
  constructor
  · rintro ⟨x, hx, rfl⟩
    obtain ⟨h1, h2⟩ := List.mem_filter.mp hx
    exact ⟨x.2, h1, h2, rfl⟩
  · rintro ⟨g, h1, h2, h3⟩
    exact ⟨(e.1, g), List.mem_filter.mpr ⟨h1, h2⟩, by rw [← h3]⟩
theorem mvA_iff {T : Tab} (hT : Wf T) {p : Str} {S : List Nat} {a : Act} : MvA (T.mvs p) S a ↔ conc a p = true ∧ ∃ s ∈ S, ∃ g, T.step s a = some g := by
  constructor
  · rintro ⟨s, hs, e, he, rfl⟩
    obtain ⟨g, h1, h2, _⟩ := mvs_mem.mp he
    exact ⟨h2, s, hs, g, mem_look (hT.row' s).2.1 h1⟩
  · rintro ⟨h, s, hs, g, hg⟩
    exact ⟨s, hs, (a, uns T p g), mvs_mem.mpr ⟨g, look_mem hg, h, rfl⟩, rfl⟩
theorem mv_iff {T : Tab} (hT : Wf T) {p : Str} {S : List Nat} {a : Act} {y : Nat} : Mv (T.mvs p) S a y ↔ conc a p = true ∧ ∃ s ∈ S, ∃ g, T.step s a = some g ∧ Un T p g y := by
  constructor
  · rintro ⟨s, hs, e, he, rfl, hy⟩
    obtain ⟨g, h1, h2, h3⟩ := mvs_mem.mp he
    have hg := mem_look (hT.row' s).2.1 h1
    rw [h3] at hy
    exact ⟨h2, s, hs, g, hg, ((uns_is hT (hT.step_lt hg)).2 y).mp hy⟩
  · rintro ⟨h, s, hs, g, hg, hu⟩
    exact ⟨s, hs, (a, uns T p g), mvs_mem.mpr ⟨g, look_mem hg, h, rfl⟩, rfl, ((uns_is hT (hT.step_lt hg)).2 y).mpr hu⟩
theorem vw_snoc {T : Tab} (hT : Wf T) {p : Str} {v : List Act} (hv : Vw T p v) {a : Act} : Vw T p (v ++ [a]) ↔ MvA (T.mvs p) (sgt T p v) a := by
  rw [mvA_iff hT]
  constructor
  · rintro ⟨⟨y, hy⟩, h⟩
    rw [sv_snoc] at hy
    obtain ⟨s, hs, g, hg, _⟩ := hy
    exact ⟨h a (by simp), s, ((sgt_is hT p v).2 s).mpr hs, g, hg⟩
  · rintro ⟨h, s, hs, g, hg⟩
    refine ⟨⟨g, ?_⟩, fun b hb => ?_⟩
    · rw [sv_snoc]
      exact ⟨s, ((sgt_is hT p v).2 s).mp hs, g, hg, .refl g⟩
    · rcases List.mem_append.mp hb with hb | hb
      · exact hv.2 b hb
      · rw [List.mem_singleton.mp hb]
        exact h
theorem sgt_mv {T : Tab} (hT : Wf T) {p : Str} {v : List Act} {a : Act} (h : conc a p = true) : IsS (Mv (T.mvs p) (sgt T p v) a) (sgt T p (v ++ [a])) := by
  have h1 := sgt_is hT p (v ++ [a])
  refine ⟨h1.1, fun y => (h1.2 y).trans ?_⟩
  rw [mv_iff hT, sv_snoc]
  constructor
  · rintro ⟨s, hs, z⟩
    exact ⟨h, s, ((sgt_is hT p v).2 s).mpr hs, z⟩
  · rintro ⟨_, s, hs, z⟩
    exact ⟨s, ((sgt_is hT p v).2 s).mp hs, z⟩
theorem wfm_mvs {T : Tab} (hT : Wf T) (p : Str) : WfM (T.mvs p) := ⟨fun r hr => by
  obtain ⟨r', hr', rfl⟩ := List.mem_map.mp hr
  refine ⟨?_, fun e he y hy => ?_⟩
  · rw [List.length_map]
    exact Nat.le_trans (List.length_filter_le _ _) (hT.row r' hr').1
  · obtain ⟨x, hx, rfl⟩ := List.mem_map.mp he
    have hx := (hT.row r' hr').2.2 x (List.mem_filter.mp hx).1
    have := hT.un_lt (((uns_is hT hx).2 y).mp hy) hx
    have := hT.le
    omega⟩
open Classical in
noncomputable def usedU (T : Tab) (p : Str) (U : List (List Nat)) : List (List Nat) := U.filter fun S => decide (∃ v, Vw T p v ∧ S = sgt T p v)
theorem mem_usedU {T : Tab} {p : Str} {U : List (List Nat)} {S : List Nat} : S ∈ usedU T p U ↔ S ∈ U ∧ ∃ v, Vw T p v ∧ S = sgt T p v := by
  unfold usedU
  rw [List.mem_filter]
  simp only [decide_eq_true_iff]
theorem sgt_len {T : Tab} (hT : Wf T) (p : Str) (v : List Act) : (sgt T p v).length ≤ 300 := by
  have h := sgt_is hT p v
  exact Nat.le_trans (srt_len h.1 fun x hx => hT.sv_lt ((h.2 x).mp hx)) hT.le
/-- what the subset table of a party's moves is asked with -/
noncomputable def subOf (T : Tab) (p : Str) (U : List (List Nat)) : SubX := ⟨sgt T p [], T.mvs p, T.ends, true, 300, usedU T p U, T.acts⟩
theorem subOf_ok {T : Tab} (hT : Gd T) {p : Str} {U : List (List Nat)} (hl : U.length ≤ 300) (hU : ∀ v, Vw T p v → sgt T p v ∈ U) : pSub (subOf T p U) := by
  have hlen : (T.mvs p).length = T.n := by unfold Tab.mvs; rw [List.length_map]; rfl
  refine ⟨wfm_mvs hT.wf p, ?_, mem_usedU.mpr ⟨hU _ (vw_nil T p), [], vw_nil T p, rfl⟩, Nat.le_trans (List.length_filter_le _ _) hl, Nat.le_refl _, hT.acts, fun s e he => ?_, fun S hS => ?_, fun S hS a ha => ?_⟩
  · show T.ends.length = (T.mvs p).length
    rw [hlen]
    exact hT.wf.ends
  · obtain ⟨g, h1, _⟩ := mvs_mem.mp he
    exact Tab.mem_acts h1
  · obtain ⟨_, v, hv, rfl⟩ := mem_usedU.mp hS
    refine ⟨sgt_len hT.wf p v, fun s hs => ?_⟩
    show s < (T.mvs p).length
    rw [hlen]
    exact hT.wf.sv_lt (((sgt_is hT.wf p v).2 s).mp hs)
  · obtain ⟨_, v, hv, rfl⟩ := mem_usedU.mp hS
    have h2 := (vw_snoc hT.wf hv).mpr ha
    exact ⟨sgt T p (v ++ [a]), mem_usedU.mpr ⟨hU _ h2, _, h2, rfl⟩, sgt_mv hT.wf (h2.2 a (by simp))⟩
theorem mach_of {T : Tab} (hT : Gd T) {p : Str} {U : List (List Nat)} {X Y : Tab} {O : List (List Nat)} (ok : SubOk (subOf T p U) X O) (wf : Wf Y) {ρ : Nat → Nat → Prop} (sim : Sim X Y ρ) (det : LeaD X Y) : MachOk T p Y := by
  refine ⟨wf, ⟨X, O, ok.det, det⟩, fun S m => ∃ i, O[i]? = some S ∧ ρ i m, ?_, ⟨0, ok.start, sim.start⟩, ?_⟩
  · rintro S m m' ⟨i, h1, h2⟩ ⟨j, h3, h4⟩
    have := nodup_get ok.nd h1 h3
    subst this
    exact sim.fn _ _ _ h2 h4
  · rintro v m hv ⟨i, h1, h2⟩ a
    have hi : i < X.n := by
      rw [← ok.len]
      exact (List.getElem?_eq_some_iff.mp h1).1
    have hr := ok.row i _ h1
    constructor
    · intro h
      obtain ⟨j, hj⟩ := hr.full a ((vw_snoc hT.wf hv).mp h)
      obtain ⟨_, S', h3, h4⟩ := hr.sound (a, j) hj
      obtain ⟨m', h5, h6⟩ := sim.some i m hi h2 a j (mem_look hr.nd hj)
      refine ⟨m', h5, j, ?_, h6⟩
      rw [h3, h4.ext (sgt_mv hT.wf (h.2 a (by simp)))]
    · intro h
      refine sim.none i m hi h2 a ?_
      cases q : X.step i a with
      | none => rfl
      | some j => exact absurd ((vw_snoc hT.wf hv).mpr (hr.sound (a, j) (look_mem q)).1) h
def aErs (x : Tab × Str) : List D := [dT x.1, .str x.2, .bool true]
def aMch (x : Tab × Str) : List D := [dT x.1, .str x.2]
def pMch (x : Tab × Str) : Prop := Gd x.1 ∧ Few x.1 x.2
def qMch (x : Tab × Str) (d : D) : Prop := ∃ Y, d = dT Y ∧ MachOk x.1 x.2 Y
theorem rd_erased {K : PySem.W.Frag} {P : Program} {w : World} {N : List Str} (hN : N.length = 9) : ∀ vs H Q E, spI P w aErs pMch qMch vs H Q E → t_erased K P w (spI P w aConc (fun _ => True) qConc) (spI P w aLea pLea qLea) (spI P w aReach pReach qReach) (spI P w aSub pSub qSub) { nx := fun _ H' => Q .non H', rt := Q } (L2.start N vs) H := by
  refine fnI fun G x hx => ⟨by rw [hN]; show 3 ≤ 9; decide, ?_⟩
  rw [hN]
  obtain ⟨T, p⟩ := x
  obtain ⟨hG, U, hUl, hU⟩ := (show Gd T ∧ Few T p from hx)
  have hT := hG.wf
  have hn := hT.le
  show AST P w G (t_erased K P w _ _ _ _) ⟨[some (.dat (dT T)), some (.dat (.str p)), some (.dat (.bool true)), none, none, none, none, none, none], []⟩ _
  unfold t_erased
  walk_at "e"
  refine ae_lcR ?_
  walk_at "e"
  refine ar_lenQ (ds := T.rows.map dRow) rfl ?_
  walk_at "e"
  rw [List.length_map]
  refine ⟨T.n, fun i => some (dS (uns T p i)), rfl, size_big (by omega), fun i hi acc => ?_, ?_⟩
  · refine agc_name (by decide) (at_yes ⟨fun _ => ?_, fun h => absurd h (by decide)⟩)
    walk_at "e"
    refine ⟨(T, i, p), rfl, ⟨hT, hi⟩, fun d hd => ?_⟩
    obtain ⟨l, rfl, h1, h2⟩ := hd
    refine ⟨rfl, rfl, _, ?_, rfl⟩
    show some (dS (uns T p i)) = some (dS l)
    rw [(uns_is hT hi).ext (S' := l) ⟨h1, h2⟩]
  rw [fm_map]
  have gre : ∀ k, k < T.n → ((List.range T.n).map fun i => dS (uns T p i))[k]? = some (dS (uns T p k)) := fun k hk => by
    rw [List.getElem?_map, List.getElem?_range hk]
    rfl
  generalize hR : ((List.range T.n).map fun i => dS (uns T p i)) = R at gre
  walk_at "e"
  refine ae_lst ?_
  walk_at "e"
  refine ⟨Nat.zero_le _, ?_⟩
  refine as_seq (as_forT (α := List (Act × Nat)) ?_)
  walk_at "e"
  refine ⟨T.rows, dRow, rfl, fun i st => ∃ x5, st = ⟨[some (.dat (dT T)), some (.dat (.str p)), some (.dat (.bool true)), some (.dat (.list R)), some (.own 0), x5, none, none, none], [.lst ((((T.mvs p).take i).map dMr).map .dat)]⟩, ⟨none, rfl⟩, ?_, ?_⟩
  · rintro i r st hr ⟨x5, rfl⟩
    have hi : i < T.n := (List.getElem?_eq_some_iff.mp hr).1
    have hrl := hT.row r (List.mem_of_getElem? hr)
    refine ag_name ?_
    walk_at "e"
    refine ae_append ?_
    walk_at "e"
    refine ⟨0, rfl, ⟨_, rfl⟩, ?_⟩
    walk_at "e"
    refine ae_lcT (α := Act × Nat) ?_
    refine ae_var rfl ⟨r, dE, fun e => if conc e.1 p = true then some (dMe (e.1, uns T p e.2)) else none, rfl, size_big (by omega), fun j e he acc => ?_, ?_⟩
    · have hlt := hrl.2.2 e (List.mem_of_getElem? he)
      refine agc_pair (by decide) (by decide) ?_
      walk_at "e"
      refine ⟨(e.1, p), rfl, trivial, fun d hd => ?_⟩
      have hd : d = .bool (conc e.1 p) := hd
      subst hd
      walk_at "e"
      refine ao_eq (eqOk_bool _ _) ⟨_, rfl, fun hb => ?_, fun hb => ?_⟩
      · rw [eqv_bool] at hb
        have hc : conc e.1 p = true := of_decide_eq_true hb
        refine ae_tup ?_
        walk_at "e"
        refine ao_seqD (ds := R) (i := e.2) (d := dS (uns T p e.2)) rfl (gre e.2 hlt) ?_
        walk_at "e"
        exact ⟨_, rfl, size_big (by show 2 ≤ _; decide), rfl, rfl, _, if_pos hc, rfl⟩
      · rw [eqv_bool] at hb
        exact ⟨rfl, rfl, if_neg (of_decide_eq_false hb)⟩
    rw [fm_filter]
    walk_at "e"
    refine ⟨_, _, rfl, rfl, size_lt (by rw [List.length_map, List.length_map, List.length_take]; omega), some (.dat (dRow r)), ?_⟩
    have hmi : (T.mvs p)[i]? = some ((r.filter fun e => conc e.1 p).map fun e => (e.1, uns T p e.2)) := by
      unfold Tab.mvs
      rw [List.getElem?_map, hr]
      rfl
    rw [List.take_add_one, hmi]
    show _ = (⟨_, [.lst ((((T.mvs p).take i ++ [(r.filter fun e => conc e.1 p).map fun e => (e.1, uns T p e.2)]).map dMr).map .dat)]⟩ : AS)
    rw [md_snoc]
    show (⟨_, [.lst (_ ++ [.dat (.list ((r.filter fun e => conc e.1 p).map fun e => dMe (e.1, uns T p e.2)))])]⟩ : AS) = ⟨_, [.lst (_ ++ [.dat (.list (((r.filter fun e => conc e.1 p).map fun e => (e.1, uns T p e.2)).map dMe))])]⟩
    rw [List.map_map (g := dMe)]
    rfl
  · rintro st ⟨x5, rfl⟩
    show AST P w G _ _ _
    have hlen : (T.mvs p).take T.rows.length = T.mvs p := List.take_of_length_le (by unfold Tab.mvs; rw [List.length_map]; exact Nat.le_refl _)
    rw [hlen]
    refine as_frz 0 ((T.mvs p).map dMr) rfl ?_
    walk_at "e"
    refine ao_seqD (ds := R) (i := 0) (d := dS (uns T p 0)) rfl (gre 0 hT.pos) ?_
    walk_at "e"
    refine ao_ends (T := T) ?_
    walk_at "e"
    refine ⟨subOf T p U, rfl, subOf_ok hG hUl hU, fun d hd => ?_⟩
    obtain ⟨X, O, rfl, ok⟩ := hd
    walk_at "e"
    refine ⟨(X, T.acts), rfl, ⟨ok.wf, hG.acts, fun s e he => ?_⟩, fun d hd => ?_⟩
    · have hs : s < X.n := by
        by_cases q : s < X.n
        · exact q
        · unfold Tab.row at he
          rw [List.getD_eq_getElem?_getD, List.getElem?_eq_none (by exact Nat.le_of_not_lt q)] at he
          exact absurd he (fun h => (nomatch h))
      obtain ⟨So, hO⟩ : ∃ S, O[s]? = some S := ⟨_, List.getElem?_eq_getElem (by rw [ok.len]; exact hs)⟩
      obtain ⟨s', _, e', he', h1⟩ := ((ok.row s _ hO).sound e he).1
      obtain ⟨g, h2, _⟩ := mvs_mem.mp he'
      rw [← h1]
      exact Tab.mem_acts h2
    · obtain ⟨Y, ρ, rfl, wf, sim, det⟩ := hd
      exact ⟨_, rfl, Y, rfl, mach_of hG ok wf sim det⟩
theorem rd_machine_of {K : PySem.W.Frag} {P : Program} {w : World} {N : List Str} (hN : N.length = 2) : ∀ vs H Q E, spI P w aMch pMch qMch vs H Q E → t_machine_of K P w (spI P w aErs pMch qMch) { nx := fun _ H' => Q .non H', rt := Q } (L2.start N vs) H := by
  refine fnI fun G x hx => ⟨by rw [hN]; show 2 ≤ 2; decide, ?_⟩
  rw [hN]
  obtain ⟨T, p⟩ := x
  show AST P w G (t_machine_of K P w _) ⟨[some (.dat (dT T)), some (.dat (.str p))], []⟩ _
  unfold t_machine_of
  walk_at "e"
  exact ⟨(T, p), rfl, hx, fun d hd => ⟨_, rfl, hd⟩⟩
/-! ### machines_of -/
abbrev Ms := List (Str × Tab)
def msK (M : Ms) : List (Key × D) := M.map fun m => (kS m.1, dT m.2)
def dMs (M : Ms) : D := .dict (dkD (msK M))
structure MsOk (T : Tab) (M : Ms) : Prop where
  fst : M.map (·.1) = parts T
  each : ∀ m ∈ M, MachOk T m.1 m.2
theorem MsOk.same {T : Tab} {M M' : Ms} (h : MsOk T M) (k : MsOk T M') : M = M' := by
  have go : ∀ {M M' : Ms}, (∀ m ∈ M, MachOk T m.1 m.2) → (∀ m ∈ M', MachOk T m.1 m.2) → M.map (·.1) = M'.map (·.1) → M = M' := by
    intro M
    induction M with
    | nil =>
      intro M' _ _ e
      cases M' with
      | nil => rfl
      | cons b M' => simp at e
    | cons a M ih =>
      intro M' h1 h2 e
      cases M' with
      | nil => simp at e
      | cons b M' =>
        rw [List.map_cons, List.map_cons, List.cons.injEq] at e
        have ha := (h1 a List.mem_cons_self).det
        have hb := (h2 b List.mem_cons_self).det
        rw [← e.1] at hb
        rw [ih (fun m hm => h1 m (List.mem_cons_of_mem _ hm)) (fun m hm => h2 m (List.mem_cons_of_mem _ hm)) e.2, show a = b from Prod.ext e.1 (ha.same hb)]
  exact go h.each k.each (h.fst.trans k.fst.symm)
structure AllFew (T : Tab) : Prop where
  gd : Gd T
  few : ∀ p ∈ parts T, Few T p
def qMs (T : Tab) (d : D) : Prop := ∃ M, d = dMs M ∧ MsOk T M
theorem putK_end {α : Type} {kvs : List (Key × α)} {k : Key} {v : α} (h : ∀ p ∈ kvs, p.1 ≠ k) : putKG kvs k v = kvs ++ [(k, v)] := by
  unfold putKG
  rw [if_neg]
  intro z
  obtain ⟨p, hp, e⟩ := List.any_eq_true.mp z
  exact h p hp (of_decide_eq_true e)
theorem rd_machines_of {K : PySem.W.Frag} {P : Program} {w : World} {N : List Str} (hN : N.length = 2) : ∀ vs H Q E, spI P w aTab AllFew qMs vs H Q E → t_machines_of K P w (spI P w aMch pMch qMch) (spI P w aTab Wf qPart) { nx := fun _ H' => Q .non H', rt := Q } (L2.start N vs) H := by
  refine fnI fun G T hT => ⟨by rw [hN]; show 1 ≤ 2; decide, ?_⟩
  rw [hN]
  show AST P w G (t_machines_of K P w _ _) ⟨[some (.dat (dT T)), none], []⟩ _
  unfold t_machines_of
  have hpl := parts_len hT.gd.wf
  refine as_ret (ae_frzK ?_)
  refine ae_dc (ai_lst ?_)
  walk_at "e"
  refine ⟨T, rfl, hT.gd.wf, fun d hd => ?_⟩
  have hd : d = dSs (parts T) := hd
  subst hd
  refine ⟨(parts T).map .str, rfl, fun i acc st => ∃ M : Ms, M.map (·.1) = (parts T).take i ∧ (∀ m ∈ M, MachOk T m.1 m.2) ∧ acc = (msK M).map (fun p => (p.1, Rf.dat p.2)) ∧ st = ⟨[some (.dat (dT T)), none], [.dk acc]⟩, ⟨[], rfl, fun m h => (nomatch h), rfl, rfl⟩, fun _ _ _ _ _ => True.intro, ?_, ?_⟩
  · rintro i r acc st hr ⟨M, h1, h2, rfl, rfl⟩
    rw [List.getElem?_map, List.getElem?_map] at hr
    obtain ⟨p, hp⟩ : ∃ p, (parts T)[i]? = some p := by
      cases q : (parts T)[i]? with
      | none => rw [q] at hr; cases hr
      | some p => exact ⟨p, rfl⟩
    rw [hp] at hr
    cases hr
    refine agc_name (by decide) (at_yes ⟨fun _ => ?_, fun h => absurd h (by decide)⟩)
    refine ae_var rfl ⟨kS p, rfl, ?_⟩
    walk_at "e"
    refine ⟨(T, p), rfl, ⟨hT.gd, hT.few p (List.mem_of_getElem? hp)⟩, fun d hd => ?_⟩
    obtain ⟨Y, rfl, hY⟩ := hd
    have hml : M.length ≤ 180000 := by
      have := congrArg List.length h1
      rw [List.length_map, List.length_take] at this
      omega
    refine ⟨_, rfl, size_lt (by rw [List.length_map]; unfold msK; rw [List.length_map]; omega), M ++ [(p, Y)], ?_, fun m hm => ?_, ?_, rfl⟩
    · rw [List.map_append, h1, List.take_add_one, hp]
      rfl
    · rcases List.mem_append.mp hm with hm | hm
      · exact h2 m hm
      · rw [List.mem_singleton.mp hm]
        exact hY
    · rw [putK_end]
      · unfold msK
        rw [List.map_append, List.map_append]
        rfl
      · intro q hq
        obtain ⟨k, hk, rfl⟩ := List.mem_map.mp hq
        obtain ⟨m, hm, rfl⟩ := List.mem_map.mp hk
        intro z
        have z : m.1 = p := kS_inj _ _ z
        refine nodup_take (parts_nd T) hp ?_
        rw [← h1, ← z]
        exact List.mem_map.mpr ⟨m, hm, rfl⟩
  · rintro acc st ⟨M, h1, h2, rfl, rfl⟩
    rw [List.length_map, List.length_map, List.take_length] at h1
    exact ⟨0, msK M, rfl, rfl, _, rfl, M, rfl, h1, h2⟩
/-! ### next_joint -/
theorem sv_run {T : Tab} (p : Str) {r : List Act} : ∀ {s : Nat}, T.walk r = some s → sv T p (view r p) s := by
  generalize hn : r.length = n
  induction n generalizing r with
  | zero =>
    intro s hs
    rw [List.length_eq_zero_iff.mp hn] at hs ⊢
    cases hs
    exact .refl 0
  | succ n ih =>
    rcases List.eq_nil_or_concat r with rfl | ⟨r, a, rfl⟩
    · cases hn
    rw [List.concat_eq_append] at hn ⊢
    intro s hs
    rw [T.walk_snoc] at hs
    cases q : T.walk r with
    | none => rw [q] at hs; cases hs
    | some t =>
      rw [q] at hs
      have h := ih (by simpa using hn) q
      have hs : T.step t a = some s := hs
      rw [view_snoc]
      by_cases c : conc a p = true
      · rw [if_pos c, sv_snoc]
        exact ⟨t, h, s, hs, .refl s⟩
      · rw [if_neg c]
        have hu : Un T p t s := .tail (.refl t) (look_mem hs) (by simpa using c)
        rcases List.eq_nil_or_concat (view r p) with e | ⟨v, b, e⟩
        · rw [e] at h ⊢
          exact Un.trans h hu
        · rw [List.concat_eq_append] at e
          rw [e, sv_snoc] at h ⊢
          obtain ⟨x, hx, g, hg, hxu⟩ := h
          exact ⟨x, hx, g, hg, hxu.trans hu⟩
theorem view_conc (r : List Act) (p : Str) : ∀ a ∈ view r p, conc a p = true := fun a h => (List.mem_filter.mp h).2
theorem vw_run {T : Tab} {p : Str} {r : List Act} {s : Nat} (h : T.walk r = some s) : Vw T p (view r p) := ⟨⟨s, sv_run p h⟩, view_conc r p⟩
theorem vw_pre {T : Tab} {p : Str} {v : List Act} {a : Act} (h : Vw T p (v ++ [a])) : Vw T p v := by
  obtain ⟨⟨y, hy⟩, hc⟩ := h
  rw [sv_snoc] at hy
  obtain ⟨s, hs, _⟩ := hy
  exact ⟨⟨s, hs⟩, fun b hb => hc b (List.mem_append_left _ hb)⟩
theorem MachOk.go {T : Tab} {p : Str} {Y : Tab} {ρ : List Nat → Nat → Prop} (h0 : ρ (sgt T p []) 0) (hs : ∀ v m, Vw T p v → ρ (sgt T p v) m → ∀ a, (Vw T p (v ++ [a]) → ∃ m', Y.step m a = some m' ∧ ρ (sgt T p (v ++ [a])) m') ∧ (¬ Vw T p (v ++ [a]) → Y.step m a = none)) (v : List Act) : Vw T p v → ∃ m, Y.walk v = some m ∧ ρ (sgt T p v) m := by
  generalize hn : v.length = n
  induction n generalizing v with
  | zero =>
    intro _
    rw [List.length_eq_zero_iff.mp hn]
    exact ⟨0, rfl, h0⟩
  | succ n ih =>
    rcases List.eq_nil_or_concat v with rfl | ⟨v, a, rfl⟩
    · cases hn
    rw [List.concat_eq_append] at hn ⊢
    intro hv
    obtain ⟨m, h1, h2⟩ := ih v (by simpa using hn) (vw_pre hv)
    obtain ⟨m', h3, h4⟩ := (hs v m (vw_pre hv) h2 a).1 hv
    refine ⟨m', ?_, h4⟩
    rw [Y.walk_snoc, h1]
    exact h3
theorem mach_walk {T : Tab} {p : Str} {Y : Tab} (h : MachOk T p Y) {v : List Act} (hv : Vw T p v) : ∃ m, Y.walk v = some m := by
  obtain ⟨ρ, _, h0, hs⟩ := h.rel
  obtain ⟨m, h1, _⟩ := MachOk.go h0 hs v hv
  exact ⟨m, h1⟩
theorem mach_same {T : Tab} {p : Str} {Y : Tab} (h : MachOk T p Y) {v v' : List Act} (hv : Vw T p v) (hv' : Vw T p v') (e : sgt T p v = sgt T p v') : Y.walk v = Y.walk v' := by
  obtain ⟨ρ, fn, h0, hs⟩ := h.rel
  obtain ⟨m, h1, h2⟩ := MachOk.go h0 hs v hv
  obtain ⟨m', h3, h4⟩ := MachOk.go h0 hs v' hv'
  rw [← e] at h4
  rw [h1, h3, fn _ _ _ h2 h4]
theorem mach_step {T : Tab} {p : Str} {Y : Tab} (h : MachOk T p Y) {v : List Act} (hv : Vw T p v) {m : Nat} (hm : Y.walk v = some m) (a : Act) : (Y.step m a).isSome = true ↔ Vw T p (v ++ [a]) := by
  obtain ⟨ρ, fn, h0, hs⟩ := h.rel
  obtain ⟨m', h1, h2⟩ := MachOk.go h0 hs v hv
  rw [h1] at hm
  cases hm
  have := hs v m hv h2 a
  constructor
  · intro z
    refine Classical.byContradiction fun q => ?_
    rw [this.2 q] at z
    cases z
  · intro z
    obtain ⟨m', h3, _⟩ := this.1 z
    rw [h3]
    rfl
/-- the joint state after a run -/
def mst (m : Str × Tab) (r : List Act) : Nat := (m.2.walk (view r m.1)).getD 0
def jt (T : Tab) (M : Ms) (r : List Act) : List Nat := (T.walk r).getD 0 :: M.map fun m => mst m r
theorem lookK_ms {M : Ms} (nd : (M.map (·.1)).Nodup) {m : Str × Tab} (h : m ∈ M) : lookK ((msK M).map fun p => (p.1, Rf.dat p.2)) (kS m.1) = some (.dat (dT m.2)) := by
  unfold lookK msK
  induction M with
  | nil => cases h
  | cons x M ih =>
    rw [List.map_cons, List.nodup_cons] at nd
    rw [List.map_cons, List.map_cons, List.find?_cons]
    by_cases q : x.1 = m.1
    · have e : decide ((kS x.1) = kS m.1) = true := by rw [q]; exact decide_eq_true rfl
      simp only [e]
      rcases List.mem_cons.mp h with rfl | h
      · rfl
      · exact absurd (List.mem_map.mpr ⟨m, h, q.symm⟩) nd.1
    · have e : decide ((kS x.1) = kS m.1) = false := decide_eq_false fun z => q (kS_inj _ _ z)
      simp only [e]
      refine ih nd.2 ?_
      rcases List.mem_cons.mp h with rfl | h
      · exact absurd rfl q
      · exact h
theorem MsOk.nd {T : Tab} {M : Ms} (h : MsOk T M) : (M.map (·.1)).Nodup := by
  rw [h.fst]
  exact parts_nd T
theorem MsOk.len {T : Tab} {M : Ms} (hT : Wf T) (h : MsOk T M) : M.length ≤ 180000 := by
  have := congrArg List.length h.fst
  have := parts_len hT
  rw [List.length_map] at *
  omega
def aNxt (x : Tab × Ms × List Act × Act) : List D := [dT x.1, dMs x.2.1, dS (jt x.1 x.2.1 x.2.2.1), dA x.2.2.2]
def pNxt (x : Tab × Ms × List Act × Act) : Prop := Wf x.1 ∧ MsOk x.1 x.2.1 ∧ ∃ s, x.1.walk (x.2.2.1 ++ [x.2.2.2]) = some s
def qNxt (x : Tab × Ms × List Act × Act) (d : D) : Prop := d = dS (jt x.1 x.2.1 (x.2.2.1 ++ [x.2.2.2]))
theorem rd_next_joint {K : PySem.W.Frag} {P : Program} {w : World} {N : List Str} (hN : N.length = 8) : ∀ vs H Q E, spI P w aNxt pNxt qNxt vs H Q E → t_next_joint K P w (spI P w aConc (fun _ => True) qConc) (spI P w aStep pStep qStep) { nx := fun _ H' => Q .non H', rt := Q } (L2.start N vs) H := by
  refine fnI fun G x hx => ⟨by rw [hN]; show 4 ≤ 8; decide, ?_⟩
  rw [hN]
  obtain ⟨T, M, r, a⟩ := x
  obtain ⟨hT, hM, s', hs'⟩ := (show Wf T ∧ MsOk T M ∧ ∃ s, T.walk (r ++ [a]) = some s from hx)
  obtain ⟨s, hs, hst⟩ : ∃ s, T.walk r = some s ∧ T.step s a = some s' := by
    rw [T.walk_snoc] at hs'
    cases q : T.walk r with
    | none => rw [q] at hs'; cases hs'
    | some s => rw [q] at hs'; exact ⟨s, rfl, hs'⟩
  have hml := hM.len hT
  show AST P w G (t_next_joint K P w _ _) ⟨[some (.dat (dT T)), some (.dat (dMs M)), some (.dat (dS (jt T M r))), some (.dat (dA a)), none, none, none, none], []⟩ _
  unfold t_next_joint
  walk_at "e"
  refine ae_lst ?_
  walk_at "e"
  refine ao_seqD (ds := (jt T M r).map dN) (i := 0) (d := dN s) rfl (by show some (dN ((T.walk r).getD 0)) = _; rw [hs]; rfl) ?_
  walk_at "e"
  refine ⟨(T, s, a), rfl, hT.walk_lt hs, fun d hd => ?_⟩
  have hd : d = optI (T.step s a) := hd
  rw [hst] at hd
  subst hd
  walk_at "e"
  refine ⟨size_big (by show 1 ≤ _; decide), ?_⟩
  refine as_seq (as_forDE ?_)
  walk_at "e"
  have hjl : (jt T M (r ++ [a])).length = M.length + 1 := by unfold jt; rw [List.length_cons, List.length_map]
  refine ⟨msK M, rfl, fun i st => ∃ x5 x6 x7, st = ⟨[some (.dat (dT T)), some (.dat (dMs M)), some (.dat (dS (jt T M r))), some (.dat (dA a)), some (.own 0), x5, x6, x7], [.lst ((((jt T M (r ++ [a])).take (i + 1)).map dN).map .dat)]⟩, ⟨none, none, none, ?_⟩, ?_, ?_⟩
  · show _ = (⟨_, [.lst [.dat (dN ((T.walk (r ++ [a])).getD 0))]]⟩ : AS)
    rw [hs']
    rfl
  · rintro i k st hk ⟨x5, x6, x7, rfl⟩
    obtain ⟨m, hm, rfl⟩ : ∃ m, M[i]? = some m ∧ k = (kS m.1, dT m.2) := by
      unfold msK at hk
      rw [List.getElem?_map] at hk
      cases q : M[i]? with
      | none => rw [q] at hk; cases hk
      | some m => rw [q] at hk; cases hk; exact ⟨m, rfl, rfl⟩
    have hmm := List.mem_of_getElem? hm
    have hok := hM.each m hmm
    have hi := (List.getElem?_eq_some_iff.mp hm).1
    obtain ⟨u, hu⟩ := mach_walk hok (vw_run (p := m.1) hs)
    have hmst : mst m r = u := by unfold mst; rw [hu]; rfl
    have hji : (jt T M r)[i + 1]? = some u := by
      show (M.map fun m => mst m r)[i]? = _
      rw [List.getElem?_map, hm]
      exact congrArg some hmst
    have hji2 : (jt T M (r ++ [a]))[i + 1]? = some (mst m (r ++ [a])) := by
      show (M.map fun m => mst m (r ++ [a]))[i]? = _
      rw [List.getElem?_map, hm]
      rfl
    have fin : ∀ (x7 : Option Rf), x7 = some (.dat (dN (mst m (r ++ [a])))) → ∀ K0 : AK, K0.nx = (fun st => ∃ x5 x6 x7, st = ⟨[some (.dat (dT T)), some (.dat (dMs M)), some (.dat (dS (jt T M r))), some (.dat (dA a)), some (.own 0), x5, x6, x7], [.lst ((((jt T M (r ++ [a])).take (i + 1 + 1)).map dN).map .dat)]⟩) →
        AST P w G (tDrop (tBM K "list" rAppend (tVar 4) (tCons (tVar 7) tNil))) ⟨[some (.dat (dT T)), some (.dat (dMs M)), some (.dat (dS (jt T M r))), some (.dat (dA a)), some (.own 0), some (.dat (dN i)), some (.dat (.str m.1)), x7], [.lst ((((jt T M (r ++ [a])).take (i + 1)).map dN).map .dat)]⟩ K0 := by
      intro x7 e7 K0 e0
      subst e7
      walk_at "e"
      refine ae_append ?_
      walk_at "e"
      refine ⟨0, rfl, ⟨_, rfl⟩, ?_⟩
      walk_at "e"
      refine ⟨_, _, rfl, rfl, size_lt (by rw [List.length_map, List.length_map, List.length_take]; omega), ?_⟩
      rw [e0]
      refine ⟨some (.dat (dN i)), some (.dat (.str m.1)), some (.dat (dN (mst m (r ++ [a])))), ?_⟩
      rw [List.take_add_one (i := i + 1), hji2]
      show _ = (⟨_, [.lst ((((jt T M (r ++ [a])).take (i + 1) ++ [mst m (r ++ [a])]).map dN).map .dat)]⟩ : AS)
      rw [md_snoc]
      rfl
    refine ag_pair ?_
    walk_at "e"
    refine ao_addI ?_
    refine ao_seqD (ds := (jt T M r).map dN) (i := i + 1) (d := dN u) rfl (by rw [List.getElem?_map, hji]; rfl) ?_
    walk_at "e"
    refine ⟨(a, m.1), rfl, trivial, fun d hd => ?_⟩
    have hd : d = .bool (conc a m.1) := hd
    subst hd
    refine ⟨_, rfl, fun hb => ?_, fun hb => ?_⟩
    · have hv : view (r ++ [a]) m.1 = view r m.1 ++ [a] := by rw [view_snoc, if_pos hb]
      have hv2 := vw_run (p := m.1) hs'
      rw [hv] at hv2
      have hsome := (mach_step hok (vw_run (p := m.1) hs) hu a).mpr hv2
      walk_at "e"
      refine ao_getK (k := kS m.1) ⟨msK M, rfl, rfl⟩ (lookK_ms hM.nd hmm) ?_
      walk_at "e"
      refine ⟨(m.2, u, a), rfl, hok.wf.walk_lt hu, fun d hd => ?_⟩
      have hd : d = optI (m.2.step u a) := hd
      subst hd
      refine fin _ ?_ _ rfl
      have e2 : m.2.walk (view (r ++ [a]) m.1) = m.2.step u a := by rw [hv, Tab.walk_snoc, hu]; rfl
      obtain ⟨z, hz⟩ := Option.isSome_iff_exists.mp hsome
      unfold mst
      rw [e2, hz]
      rfl
    · refine as_next ?_
      refine fin _ ?_ _ rfl
      unfold mst
      rw [view_snoc, if_neg (by rw [hb]; exact fun z => (nomatch z)), hu]
      rfl
  · rintro st ⟨x5, x6, x7, rfl⟩
    show AST P w G _ _ _
    have e1 : (jt T M (r ++ [a])).take ((msK M).length + 1) = jt T M (r ++ [a]) := List.take_of_length_le (by unfold msK; rw [hjl, List.length_map]; exact Nat.le_refl _)
    rw [e1]
    walk_at "e"
    refine ar_tuple (x := .own 0) (ds := (jt T M (r ++ [a])).map dN) rfl ?_
    exact ⟨_, rfl, rfl⟩
/-! ### joint_states -/
theorem mst_step {T : Tab} (hT : Wf T) {m : Str × Tab} (h : MachOk T m.1 m.2) {r r' : List Act} {s : Nat} (h1 : T.walk r = some s) (h2 : T.walk r' = some s) (e : mst m r = mst m r') (a : Act) : mst m (r ++ [a]) = mst m (r' ++ [a]) := by
  obtain ⟨u, hu⟩ := mach_walk h (vw_run (p := m.1) h1)
  obtain ⟨u', hu'⟩ := mach_walk h (vw_run (p := m.1) h2)
  unfold mst at e ⊢
  rw [hu, hu'] at e
  have e : u = u' := e
  rw [view_snoc, view_snoc]
  by_cases c : conc a m.1 = true
  · rw [if_pos c, if_pos c, Tab.walk_snoc, Tab.walk_snoc, hu, hu', e]
  · rw [if_neg c, if_neg c, hu, hu', e]
theorem map_eq_of {α β : Type} {f g : α → β} {l : List α} (h : l.map f = l.map g) : ∀ x ∈ l, f x = g x := map_eq h
theorem jt_inj {T : Tab} {M : Ms} {r r' : List Act} {s s' : Nat} (h1 : T.walk r = some s) (h2 : T.walk r' = some s') (e : jt T M r = jt T M r') : s = s' ∧ ∀ m ∈ M, mst m r = mst m r' := by
  unfold jt at e
  rw [h1, h2, List.cons.injEq] at e
  exact ⟨e.1, map_eq e.2⟩
theorem jt_step {T : Tab} (hT : Wf T) {M : Ms} (hM : MsOk T M) {r r' : List Act} {s s' : Nat} (h1 : T.walk r = some s) (h2 : T.walk r' = some s') (e : jt T M r = jt T M r') (a : Act) : jt T M (r ++ [a]) = jt T M (r' ++ [a]) := by
  obtain ⟨rfl, e2⟩ := jt_inj h1 h2 e
  unfold jt
  rw [T.walk_snoc, T.walk_snoc, h1, h2]
  congr 1
  exact List.map_congr_left fun m hm => mst_step hT (hM.each m hm) h1 h2 (e2 m hm) a
theorem jt_sigs {T : Tab} {M : Ms} (hM : MsOk T M) {r r' : List Act} {s : Nat} (h1 : T.walk r = some s) (h2 : T.walk r' = some s) (e : sigs T r = sigs T r') : jt T M r = jt T M r' := by
  unfold jt
  rw [h1, h2]
  congr 1
  refine List.map_congr_left fun m hm => ?_
  have hp : m.1 ∈ parts T := by
    rw [← hM.fst]
    exact List.mem_map.mpr ⟨m, hm, rfl⟩
  unfold mst
  rw [mach_same (hM.each m hm) (vw_run h1) (vw_run h2) (map_eq e m.1 hp)]
theorem small_jt {T : Tab} (hT : Wf T) {M : Ms} (hM : MsOk T M) (hS : Small T) {L : List (List Act)} (nd : (L.map (jt T M)).Nodup) (hL : ∀ r ∈ L, ∃ s, T.walk r = some s) : L.length ≤ 3000 := by
  obtain ⟨L0, hl, cov⟩ := hS
  have ch : ∀ e : Ent, ∃ r, (∃ r, EntAt T r e) → EntAt T r e := fun e => by
    by_cases q : ∃ r, EntAt T r e
    · exact ⟨Classical.choose q, fun _ => Classical.choose_spec q⟩
    · exact ⟨[], fun z => absurd z q⟩
  have := nodup_sub nd (m := L0.map fun e => jt T M (Classical.choose (ch e))) fun j hj => by
    obtain ⟨r, hr, rfl⟩ := List.mem_map.mp hj
    obtain ⟨s, hs⟩ := hL r hr
    obtain ⟨e, he, hre⟩ := cov r s hs
    refine List.mem_map.mpr ⟨e, he, ?_⟩
    have h2 := Classical.choose_spec (ch e) ⟨r, hre⟩
    exact jt_sigs hM h2.1 hre.1 (((ent_iff hT).mp h2).2.symm.trans ((ent_iff hT).mp hre).2)
  rw [List.length_map, List.length_map] at this
  omega
def dJ (T : Tab) (M : Ms) (r : List Act) : D := .tuple [dS (jt T M r), dActs r]
structure JntOk (T : Tab) (M : Ms) (L : List (List Act)) : Prop where
  len : L.length ≤ 3000
  run : ∀ r ∈ L, (∃ s, T.walk r = some s) ∧ r.length ≤ 3000
  all : ∀ r s, T.walk r = some s → ∃ r' ∈ L, jt T M r' = jt T M r
def qJnt (T : Tab) (d : D) : Prop := ∃ M L, MsOk T M ∧ d = .list (L.map (dJ T M)) ∧ JntOk T M L
structure InvJ (T : Tab) (M : Ms) (L : List (List Act)) : Prop where
  nd : (L.map (jt T M)).Nodup
  le : L.length ≤ 3000
  run : ∀ r ∈ L, ∃ s, T.walk r = some s
  short : ∀ (i : Nat) r, L[i]? = some r → r.length ≤ i
  init : ∃ r ∈ L, jt T M r = jt T M []
def DoneJ (T : Tab) (M : Ms) (L : List (List Act)) (i : Nat) : Prop := ∀ (j : Nat) r, j < i → L[j]? = some r → ∀ s, T.walk r = some s → ∀ x ∈ T.row s, ∃ r' ∈ L, jt T M r' = jt T M (r ++ [x.1])
theorem InvJ.all {T : Tab} (hT : Wf T) {M : Ms} (hM : MsOk T M) {L : List (List Act)} (h : InvJ T M L) (d : DoneJ T M L L.length) (r : List Act) : ∀ s, T.walk r = some s → ∃ r' ∈ L, jt T M r' = jt T M r := by
  generalize hn : r.length = n
  induction n generalizing r with
  | zero =>
    rw [List.length_eq_zero_iff.mp hn]
    exact fun _ _ => h.init
  | succ n ih =>
    rcases List.eq_nil_or_concat r with rfl | ⟨r, a, rfl⟩
    · cases hn
    rw [List.concat_eq_append] at hn ⊢
    intro s hs
    rw [T.walk_snoc] at hs
    cases q : T.walk r with
    | none => rw [q] at hs; cases hs
    | some t =>
      rw [q] at hs
      obtain ⟨r', hr', e⟩ := ih r (by simpa using hn) t q
      obtain ⟨j, hj⟩ := List.mem_iff_getElem?.mp hr'
      obtain ⟨t', ht'⟩ := h.run r' hr'
      obtain ⟨rfl, _⟩ := jt_inj ht' q e
      obtain ⟨r2, h1, h2⟩ := d j r' (List.getElem?_eq_some_iff.mp hj).1 hj t' ht' (a, s) (look_mem hs)
      exact ⟨r2, h1, h2.trans (jt_step hT hM ht' q e a)⟩
theorem jt_len (T : Tab) (M : Ms) (r : List Act) : (jt T M r).length = M.length + 1 := by unfold jt; rw [List.length_cons, List.length_map]
theorem jt_nil (T : Tab) (M : Ms) : jt T M [] = List.replicate (M.length + 1) 0 := by
  unfold jt
  rw [List.replicate_succ]
  congr 1
  exact List.map_const' ..
abbrev stJ (T : Tab) (M : Ms) (L : List (List Act)) (i : Nat) (x6 x7 x8 x9 x10 : Option Rf) : AS := ⟨[some (.dat (dT T)), some (.dat (dMs M)), some (.dat (dS (jt T M []))), some (.own 0), some (.own 1), some (.dat (dN i)), x6, x7, x8, x9, x10], [.dn ((L.map (jt T M)).map fun j => (dS j, .dat (.bool true))), .lst ((L.map (dJ T M)).map .dat)]⟩
theorem rd_joint_states {K : PySem.W.Frag} {P : Program} {w : World} {C : Addr} {N : List Str} (hN : N.length = 11) : ∀ vs H Q E, spXI C aTab AllFew (fun T => ¬ Small T) qJnt vs H Q E → t_joint_states K P w C E (spI P w aTab AllFew qMs) (spI P w aNxt pNxt qNxt) { nx := fun _ H' => Q .non H', rt := Q } (L2.start N vs) H := by
  intro vs H Q E q
  refine fnXI (P := P) (w := w) q fun T hF hE => ⟨by rw [hN]; show 1 ≤ 11; decide, ?_⟩
  rw [hN]
  generalize H = G at hE ⊢
  have hT := hF.gd.wf
  show AST P w G (t_joint_states K P w C E _ _) ⟨[some (.dat (dT T)), none, none, none, none, none, none, none, none, none, none], []⟩ _
  unfold t_joint_states
  walk_at "e"
  refine ⟨T, rfl, hF, fun d hd => ?_⟩
  obtain ⟨M, rfl, hM⟩ := hd
  have hml := hM.len hT
  walk_at "e"
  refine ae_lstD ?_
  walk_at "e"
  refine ⟨[dN 0], rfl, size_big (by show 1 ≤ _; decide), ?_⟩
  walk_at "e"
  refine ar_lenK (x := .dat (dMs M)) ⟨msK M, rfl, rfl⟩ ?_
  walk_at "e"
  refine ao_addI ?_
  have hkl : ((msK M).map fun p => (p.1, Rf.dat p.2)).length = M.length := by unfold msK; rw [List.length_map, List.length_map]
  rw [hkl]
  refine ao_rep (n := M.length + 1) (d := dN 0) rfl (size_big (by omega)) ?_
  walk_at "e"
  refine ar_tuple (ds := List.replicate (M.length + 1) (dN 0)) rfl ?_
  have e0 : PyData.tuple (List.replicate (M.length + 1) (dN 0)) = dS (jt T M []) := by
    unfold dS
    rw [jt_nil, List.map_replicate]
  rw [e0]
  walk_at "e"
  refine ae_dispN ?_
  walk_at "e"
  refine ⟨_, rfl, kd_ok (kd_dS _) (by omega), ?_⟩
  walk_at "e"
  refine ⟨rfl, ?_⟩
  walk_at "e"
  refine ae_lst ?_
  refine aa_cons (ae_tup ?_)
  walk_at "e"
  refine ae_lstD ?_
  walk_at "e"
  refine ⟨[], rfl, Nat.zero_le _, ?_⟩
  walk_at "e"
  refine ⟨_, rfl, size_big (by show 2 ≤ _; decide), ?_⟩
  walk_at "e"
  refine ⟨size_big (by show 1 ≤ _; decide), ?_⟩
  walk_at "e"
  refine as_seq (as_while (fun k st => ∃ L i x6 x7 x8 x9 x10, st = stJ T M L i x6 x7 x8 x9 x10 ∧ InvJ T M L ∧ DoneJ T M L i ∧ i ≤ L.length ∧ k = 3000 - i) _ ⟨[[]], 0, none, none, none, none, none, rfl, ⟨by simp, by show 1 ≤ 3000; decide, fun r hr => by rw [List.mem_singleton.mp hr]; exact ⟨0, rfl⟩, fun i r h => ?_, [], List.mem_singleton.mpr rfl, rfl⟩, fun j r h => absurd h (by omega), Nat.zero_le _, rfl⟩ ?_)
  · cases i with
    | zero =>
      cases h
      exact Nat.le_refl _
    | succ i => simp at h
  rintro k st ⟨L, i, x6, x7, x8, x9, x10, rfl, iv, dn, hiL, rfl⟩
  walk_at "e"
  refine ar_lenO (x := .own 1) (xs := (L.map (dJ T M)).map .dat) rfl ?_
  walk_at "e"
  refine ao_cmp (g := fun i j => decide (i < j)) ⟨_, rfl, fun hb => ?_, fun hb => ?_⟩
  · have hlt : i < L.length := by
      have := of_decide_eq_true hb
      rw [List.length_map, List.length_map] at this
      omega
    obtain ⟨r, hr⟩ : ∃ r, L[i]? = some r := ⟨_, List.getElem?_eq_getElem hlt⟩
    obtain ⟨s, hs⟩ := iv.run r (List.mem_of_getElem? hr)
    have hsn := hT.walk_lt hs
    have hrow := (hT.row' s).1
    have hrl := iv.short i r hr
    have hLl := iv.le
    refine as_seq (as_asg ?_)
    walk_at "e"
    refine ao_seqO (x := .own 1) (xs := (L.map (dJ T M)).map .dat) (i := i) (r := .dat (dJ T M r)) rfl (by rw [List.getElem?_map, List.getElem?_map, hr]; rfl) ?_
    refine ag_pair ?_
    refine as_seq (as_aug rfl (ae_int ⟨1, rfl, ?_⟩))
    refine as_forT (α := Act × Nat) ?_
    walk_at "e"
    refine ao_seqD (ds := (jt T M r).map dN) (i := 0) (d := dN s) rfl (by show some (dN ((T.walk r).getD 0)) = _; rw [hs]; rfl) ?_
    refine ao_row hsn ⟨T.row s, dE, rfl, fun j st => ∃ L' x8 x9 x10, st = stJ T M L' (i + 1) (some (.dat (dS (jt T M r)))) (some (.dat (dActs r))) x8 x9 x10 ∧ InvJ T M L' ∧ DoneJ T M L' i ∧ L'[i]? = some r ∧ ∀ (j' : Nat) x, j' < j → (T.row s)[j']? = some x → ∃ r' ∈ L', jt T M r' = jt T M (r ++ [x.1]), ⟨L, x8, x9, x10, rfl, iv, dn, hr, fun _ _ h => absurd h (by omega)⟩, ?_, ?_⟩
    · rintro j x st hx ⟨L', x8, x9, x10, rfl, iv', dn', hr', dj⟩
      have hstep : T.walk (r ++ [x.1]) = some x.2 := by
        rw [T.walk_snoc, hs]
        exact mem_look (hT.row' s).2.1 (List.mem_of_getElem? hx)
      refine ag_pair ?_
      walk_at "e"
      refine ⟨(T, M, r, x.1), rfl, ⟨hT, hM, x.2, hstep⟩, fun d hd => ?_⟩
      have hd : d = dS (jt T M (r ++ [x.1])) := hd
      subst hd
      walk_at "e"
      refine ao_inN (neg := true) (i := 0) (.inl rfl) (kd_ok (kd_dS (jt T M (r ++ [x.1]))) (by omega)) ⟨_, rfl, fun hb2 => ?_, fun hb2 => ?_⟩
      · have hni : jt T M (r ++ [x.1]) ∉ L'.map (jt T M) := by
          have hb2 : (!(lookN ((L'.map (jt T M)).map fun j => (dS j, Rf.dat (.bool true))) (dS (jt T M (r ++ [x.1])))).isSome) = true := hb2
          rw [lookN_tru dS_key] at hb2
          simpa using hb2
        have hnd : ((L' ++ [r ++ [x.1]]).map (jt T M)).Nodup := by
          rw [List.map_append]
          exact List.nodup_append.mpr ⟨iv'.nd, by simp, fun a ha b hb => by rw [List.mem_singleton.mp hb]; exact fun z => hni (z ▸ ha)⟩
        have hrun : ∀ r2 ∈ L' ++ [r ++ [x.1]], ∃ s, T.walk r2 = some s := fun r2 h2 => by
          rcases List.mem_append.mp h2 with h2 | h2
          · exact iv'.run r2 h2
          · rw [List.mem_singleton.mp h2]
            exact ⟨_, hstep⟩
        walk_at "e"
        refine ar_lenO (x := .own 1) (xs := (L'.map (dJ T M)).map .dat) rfl ?_
        rw [List.length_map, List.length_map]
        walk_at "e"
        refine ⟨_, rfl, fun hb3 => ?_, fun hb3 => ?_⟩
        · have h3 : (L'.length : Int) = 3000 := of_decide_eq_true hb3
          refine as_raise (hE fun hS => ?_)
          have := small_jt hT hM hS hnd hrun
          rw [List.length_append] at this
          have : [r ++ [x.1]].length = 1 := rfl
          omega
        · have h3 : ¬ (L'.length : Int) = 3000 := of_decide_eq_false hb3
          have hL3 : L'.length < 3000 := by
            have := iv'.le
            omega
          walk_at "e"
          refine as_asg (ae_bl (ag_sub ?_))
          walk_at "e"
          refine aset_dn rfl (kd_ok (kd_dS _) (by omega)) (size_lt (by rw [List.length_map, List.length_map]; omega)) ?_
          rw [show putN ((L'.map (jt T M)).map fun j => (dS j, Rf.dat (.bool true))) (.tuple ((jt T M (r ++ [x.1])).map dN)) (.dat (.bool true)) = ((L'.map (jt T M)) ++ [jt T M (r ++ [x.1])]).map fun j => (dS j, Rf.dat (.bool true)) from putN_new dS_key (fun _ => Rf.dat (.bool true)) hni]
          walk_at "e"
          refine ae_append ?_
          walk_at "e"
          refine ⟨1, rfl, ⟨_, rfl⟩, ?_⟩
          walk_at "e"
          refine ae_tup ?_
          walk_at "e"
          refine ae_lstD ?_
          walk_at "e"
          refine ⟨[dA x.1], rfl, size_big (by show 1 ≤ _; decide), ?_⟩
          refine ao_catD (xs := r.map dA) (ys := [dA x.1]) rfl rfl (size_big (by rw [List.length_map]; show _ + 1 ≤ _; omega)) ?_
          walk_at "e"
          refine ⟨_, rfl, size_big (by show 2 ≤ _; decide), ?_⟩
          walk_at "e"
          refine ⟨_, _, rfl, rfl, size_lt (by rw [List.length_map, List.length_map]; omega), L' ++ [r ++ [x.1]], some (.dat (dA x.1)), some (.dat (dN x.2)), some (.dat (dS (jt T M (r ++ [x.1])))), ?_, ⟨hnd, ?_, hrun, fun i2 r2 h2 => ?_, ?_⟩, fun j2 r2 hj2 h2 s2 hs2 x2 hx2 => ?_, getE_pre hr', fun j' y hj' hy => ?_⟩
          · unfold stJ
            rw [md_snoc, List.map_append (f := jt T M)]
            unfold dJ dActs
            rw [List.map_append (f := dA) (l₂ := [x.1])]
            rfl
          · rw [List.length_append]
            exact hL3
          · by_cases q : i2 < L'.length
            · rw [List.getElem?_append_left q] at h2
              exact iv'.short i2 r2 h2
            · rw [List.getElem?_append_right (by omega)] at h2
              have hz : i2 - L'.length = 0 := by
                cases q2 : i2 - L'.length with
                | zero => rfl
                | succ n => rw [q2] at h2; simp at h2
              rw [hz] at h2
              have : r ++ [x.1] = r2 := by simpa using h2
              rw [← this, List.length_append]
              have := (List.getElem?_eq_some_iff.mp hr').1
              show r.length + 1 ≤ i2
              omega
          · obtain ⟨r2, h1, h2⟩ := iv'.init
            exact ⟨r2, List.mem_append_left _ h1, h2⟩
          · rw [List.getElem?_append_left (by have := (List.getElem?_eq_some_iff.mp hr').1; omega)] at h2
            obtain ⟨r3, h3, h4⟩ := dn' j2 r2 hj2 h2 s2 hs2 x2 hx2
            exact ⟨r3, List.mem_append_left _ h3, h4⟩
          · by_cases q : j' = j
            · subst q
              rw [hx] at hy
              cases hy
              exact ⟨_, List.mem_append_right _ (List.mem_singleton.mpr rfl), rfl⟩
            · obtain ⟨z, h1, h2⟩ := dj j' y (by omega) hy
              exact ⟨z, List.mem_append_left _ h1, h2⟩
      · have hin : jt T M (r ++ [x.1]) ∈ L'.map (jt T M) := by
          have hb2 : (!(lookN ((L'.map (jt T M)).map fun j => (dS j, Rf.dat (.bool true))) (dS (jt T M (r ++ [x.1])))).isSome) = false := hb2
          rw [lookN_tru dS_key] at hb2
          simpa using hb2
        refine as_next ?_
        refine ⟨L', some (.dat (dA x.1)), some (.dat (dN x.2)), some (.dat (dS (jt T M (r ++ [x.1])))), rfl, iv', dn', hr', fun j' y hj' hy => ?_⟩
        by_cases q : j' = j
        · subst q
          rw [hx] at hy
          cases hy
          obtain ⟨r2, h1, h2⟩ := List.mem_map.mp hin
          exact ⟨r2, h1, h2⟩
        · exact dj j' y (by omega) hy
    · rintro st ⟨L', x8, x9, x10, rfl, iv', dn', hr', dj⟩
      refine ⟨3000 - (i + 1), by omega, L', i + 1, some (.dat (dS (jt T M r))), some (.dat (dActs r)), x8, x9, x10, rfl, iv', fun j2 r2 hj2 h2 s2 hs2 x2 hx2 => ?_, (List.getElem?_eq_some_iff.mp hr').1, rfl⟩
      by_cases q : j2 = i
      · subst q
        rw [hr'] at h2
        cases h2
        rw [hs] at hs2
        cases hs2
        obtain ⟨j', hj'⟩ := List.mem_iff_getElem?.mp hx2
        exact dj j' x2 (List.getElem?_eq_some_iff.mp hj').1 hj'
      · exact dn' j2 r2 (by omega) h2 s2 hs2 x2 hx2
  · have hle : i = L.length := by
      have := of_decide_eq_false hb
      rw [List.length_map, List.length_map] at this
      omega
    subst hle
    refine as_next ?_
    refine as_frz 1 (L.map (dJ T M)) rfl ?_
    walk_at "e"
    refine ⟨_, rfl, M, L, hM, rfl, iv.le, fun r hr => ⟨iv.run r hr, ?_⟩, iv.all hT hM dn⟩
    obtain ⟨j, hj⟩ := List.mem_iff_getElem?.mp hr
    have := iv.short j r hj
    have := (List.getElem?_eq_some_iff.mp hj).1
    have := iv.le
    omega
/-! ### seen_alike -/
abbrev Wt := Nat × Nat × List Act
def dWt (x : Wt) : D := .tuple [dN x.1, dN x.2.1, dActs x.2.2]
def fk (x : Wt) : Nat × Nat := (x.1, x.2.1)
def dP (k : Nat × Nat) : D := .tuple [dN k.1, dN k.2]
theorem kd_dP (k : Nat × Nat) : kd 1 (dP k) := kd_two (kd_nat _) (kd_nat _)
theorem dP_key (a b : Nat × Nat) (h : toN (dP a) = toN (dP b)) : a = b := by
  have := PyData.tuple.inj (kd_inj (kd_dP a) (kd_dP b) h)
  rw [List.cons.injEq, List.cons.injEq] at this
  exact Prod.ext (dN_inj _ _ this.1) (dN_inj _ _ this.2.1)
def aAlk (x : Tab × Str × List Act × Act) : List D := [dT x.1, .str x.2.1, dActs x.2.2.1, dA x.2.2.2]
def pAlk (x : Tab × Str × List Act × Act) : Prop := Wf x.1 ∧ x.2.2.1.length ≤ 3000 ∧ ∃ o, view o x.2.1 = x.2.2.1 ∧ ∃ s, x.1.walk (o ++ [x.2.2.2]) = some s
def qAlk (x : Tab × Str × List Act × Act) (d : D) : Prop := ∃ o, d = dActs o ∧ view o x.2.1 = x.2.2.1 ∧ (∃ s, x.1.walk (o ++ [x.2.2.2]) = some s) ∧ o.length ≤ 1000000
structure InvA (T : Tab) (p : Str) (v : List Act) (W : List Wt) : Prop where
  nd : (W.map fk).Nodup
  run : ∀ x ∈ W, T.walk x.2.2 = some x.1 ∧ view x.2.2 p = v.take x.2.1 ∧ x.2.1 ≤ v.length
  short : ∀ (i : Nat) x, W[i]? = some x → x.2.2.length ≤ i
  init : (0, 0) ∈ W.map fk
/-- the moves of an entry that go on -/
def goOn (p : Str) (v : List Act) (c : Nat) (e : Act × Nat) : Option (Nat × Nat) :=
  if conc e.1 p = true then (if v[c]? = some e.1 then some (e.2, c + 1) else none) else some (e.2, c)
def DoneA (T : Tab) (p : Str) (v : List Act) (a : Act) (W : List Wt) (i : Nat) : Prop := ∀ (j : Nat) x, j < i → W[j]? = some x → (∀ e ∈ T.row x.1, ∀ k, goOn p v x.2.1 e = some k → k ∈ W.map fk) ∧ (x.2.1 = v.length → T.step x.1 a = none)
theorem InvA.len {T : Tab} (hT : Wf T) {p : Str} {v : List Act} (hv : v.length ≤ 3000) {W : List Wt} (h : InvA T p v W) : W.length ≤ 900300 := by
  have h1 := nodup_sub h.nd (m := (List.range T.n).flatMap fun s => (List.range (v.length + 1)).map fun c => (s, c)) fun k hk => by
    obtain ⟨x, hx, rfl⟩ := List.mem_map.mp hk
    obtain ⟨h1, _, h3⟩ := h.run x hx
    exact List.mem_flatMap.mpr ⟨x.1, List.mem_range.mpr (hT.walk_lt h1), List.mem_map.mpr ⟨x.2.1, List.mem_range.mpr (by omega), rfl⟩⟩
  have h2 : ((List.range T.n).flatMap fun s => (List.range (v.length + 1)).map fun c => (s, c)).length ≤ (v.length + 1) * (List.range T.n).length := flat_len fun s _ => by rw [List.length_map, List.length_range]; exact Nat.le_refl _
  rw [List.length_range] at h2
  rw [List.length_map] at h1
  have h3 := hT.le
  have h4 : (v.length + 1) * T.n ≤ 3001 * 300 := Nat.mul_le_mul (by omega) h3
  omega
theorem InvA.all {T : Tab} {p : Str} {v : List Act} {a : Act} {W : List Wt} (h : InvA T p v W) (d : DoneA T p v a W W.length) (o : List Act) : ∀ s c, T.walk o = some s → view o p = v.take c → c ≤ v.length → (s, c) ∈ W.map fk := by
  generalize hn : o.length = n
  induction n generalizing o with
  | zero =>
    rw [List.length_eq_zero_iff.mp hn]
    intro s c hs hc hcl
    cases hs
    have hc : [] = v.take c := hc
    have : c = 0 := by
      have := congrArg List.length hc
      rw [List.length_take] at this
      simp at this
      omega
    rw [this]
    exact h.init
  | succ n ih =>
    rcases List.eq_nil_or_concat o with rfl | ⟨o, b, rfl⟩
    · cases hn
    rw [List.concat_eq_append] at hn ⊢
    intro s c hs hc hcl
    rw [T.walk_snoc] at hs
    cases q : T.walk o with
    | none => rw [q] at hs; cases hs
    | some t =>
      rw [q] at hs
      have hin := look_mem (show look (T.row t) b = some s from hs)
      have use : ∀ c', view o p = v.take c' → c' ≤ v.length → goOn p v c' (b, s) = some (s, c) → (s, c) ∈ W.map fk := fun c' h1 h2 h3 => by
        have hk := ih o (by simpa using hn) t c' q h1 h2
        obtain ⟨x, hx, e⟩ := List.mem_map.mp hk
        obtain ⟨j, hj⟩ := List.mem_iff_getElem?.mp hx
        have e1 : x.1 = t := congrArg Prod.fst e
        have e2 : x.2.1 = c' := congrArg Prod.snd e
        exact (d j x (List.getElem?_eq_some_iff.mp hj).1 hj).1 (b, s) (by rw [e1]; exact hin) _ (by rw [e2]; exact h3)
      rw [view_snoc] at hc
      by_cases cb : conc b p = true
      · rw [if_pos cb] at hc
        cases c with
        | zero =>
          rw [List.take_zero] at hc
          exact absurd hc (by simp)
        | succ c =>
          have hlt : c < v.length := by omega
          rw [List.take_succ_eq_append_getElem hlt] at hc
          have hc2 := List.append_inj' hc rfl
          refine use c hc2.1 (by omega) ?_
          unfold goOn
          rw [if_pos cb, if_pos]
          rw [List.getElem?_eq_getElem hlt]
          exact congrArg some (List.cons.inj hc2.2).1.symm
      · rw [if_neg cb] at hc
        refine use c hc hcl ?_
        unfold goOn
        rw [if_neg cb]
abbrev stA (T : Tab) (p : Str) (v : List Act) (a : Act) (W : List Wt) (i : Nat) (x7 x8 x9 x10 x11 x12 : Option Rf) : AS := ⟨[some (.dat (dT T)), some (.dat (.str p)), some (.dat (dActs v)), some (.dat (dA a)), some (.own 0), some (.own 1), some (.dat (dN i)), x7, x8, x9, x10, x11, x12], [.lst ((W.map dWt).map .dat), .dn ((W.map fk).map fun k => (dP k, .dat (.bool true)))]⟩
theorem rd_seen_alike {K : PySem.W.Frag} {P : Program} {w : World} {N : List Str} (hN : N.length = 13) : ∀ vs H Q E, spI P w aAlk pAlk qAlk vs H Q E → t_seen_alike K P w (spI P w aConc (fun _ => True) qConc) (spI P w aStep pStep qStep) { nx := fun _ H' => Q .non H', rt := Q } (L2.start N vs) H := by
  refine fnI fun G x hx => ⟨by rw [hN]; show 4 ≤ 13; decide, ?_⟩
  rw [hN]
  obtain ⟨T, p, v, a⟩ := x
  obtain ⟨hT, hv, o0, ho0, s0, hs0⟩ := (show Wf T ∧ v.length ≤ 3000 ∧ ∃ o, view o p = v ∧ ∃ s, T.walk (o ++ [a]) = some s from hx)
  show AST P w G (t_seen_alike K P w _ _) ⟨[some (.dat (dT T)), some (.dat (.str p)), some (.dat (dActs v)), some (.dat (dA a)), none, none, none, none, none, none, none, none, none], []⟩ _
  unfold t_seen_alike
  walk_at "e"
  refine ae_lst (aa_cons (ae_tup ?_))
  walk_at "e"
  refine ae_lstD ?_
  walk_at "e"
  refine ⟨[], rfl, Nat.zero_le _, ?_⟩
  walk_at "e"
  refine ⟨_, rfl, size_big (by show 3 ≤ _; decide), ?_⟩
  walk_at "e"
  refine ⟨size_big (by show 1 ≤ _; decide), ?_⟩
  walk_at "e"
  refine ae_dispN (ae_tup ?_)
  walk_at "e"
  refine ⟨_, rfl, size_big (by show 2 ≤ _; decide), _, rfl, kd_ok (kd_dP (0, 0)) (by omega), ?_⟩
  walk_at "e"
  refine ⟨rfl, ?_⟩
  walk_at "e"
  refine as_seq (as_while (fun k st => ∃ W i x7 x8 x9 x10 x11 x12, st = stA T p v a W i x7 x8 x9 x10 x11 x12 ∧ InvA T p v W ∧ DoneA T p v a W i ∧ i ≤ W.length ∧ k = 900300 - i) _ ⟨[(0, 0, [])], 0, none, none, none, none, none, none, rfl, ⟨by simp, fun x hx => by rw [List.mem_singleton.mp hx]; exact ⟨rfl, rfl, Nat.zero_le _⟩, fun i x h => ?_, List.mem_singleton.mpr rfl⟩, fun j r h => absurd h (by omega), Nat.zero_le _, rfl⟩ ?_)
  · cases i with
    | zero =>
      cases h
      exact Nat.le_refl _
    | succ i => simp at h
  rintro k st ⟨W, i, x7, x8, x9, x10, x11, x12, rfl, iv, dn, hiW, rfl⟩
  have hWl := iv.len hT hv
  walk_at "e"
  refine ar_lenO (x := .own 0) (xs := (W.map dWt).map .dat) rfl ?_
  walk_at "e"
  refine ao_cmp (g := fun i j => decide (i < j)) ⟨_, rfl, fun hb => ?_, fun hb => ?_⟩
  · have hlt : i < W.length := by
      have := of_decide_eq_true hb
      rw [List.length_map, List.length_map] at this
      omega
    obtain ⟨⟨s, c, r⟩, hr⟩ : ∃ x, W[i]? = some x := ⟨_, List.getElem?_eq_getElem hlt⟩
    obtain ⟨hs, hvr, hcl⟩ := iv.run _ (List.mem_of_getElem? hr)
    have hs : T.walk r = some s := hs
    have hvr : view r p = v.take c := hvr
    have hcl : c ≤ v.length := hcl
    have hsn := hT.walk_lt hs
    have hrow := (hT.row' s).1
    have hrl : r.length ≤ i := iv.short i _ hr
    refine as_seq (as_asg ?_)
    walk_at "e"
    refine ao_seqO (x := .own 0) (xs := (W.map dWt).map .dat) (i := i) (r := .dat (dWt (s, c, r))) rfl (by rw [List.getElem?_map, List.getElem?_map, hr]; rfl) ?_
    refine ag_three ?_
    refine as_seq (as_aug rfl (ae_int ⟨1, rfl, ?_⟩))
    have loop : (c = v.length → T.step s a = none) → ∀ K0 : AK, K0.nx = (fun s' => ∃ m', m' < 900300 - i ∧ ∃ W i x7 x8 x9 x10 x11 x12, s' = stA T p v a W i x7 x8 x9 x10 x11 x12 ∧ InvA T p v W ∧ DoneA T p v a W i ∧ i ≤ W.length ∧ m' = 900300 - i) → AST P w G (tFor (iSeq K (tOp (rGet K P w) (tOp (rGet K P w) (tVar 0) (tC (.int 1))) (tVar 7))) (gTup K 2 (gCons (gName 10) (gCons (gName 11) gNil)))
        (tSeq (tAsg (tVar 8) (gName 12))
        (tSeq (tIfS (tB (tCall (spI P w aConc (fun _ => True) qConc) [] E0 (tCons (tVar 10) (tCons (tVar 1) tNil)))) (tSeq (tIfS (tOr (tTest (tOp (rEqZ K) (tVar 8) (tCB (rLenA K P w) (tCons (tVar 2) tNil)))) (tTest (tOp rNeA (tOp (rGet K P w) (tVar 2) (tVar 8)) (tVar 10)))) tCont tNext)
          (tAsg (tOp rAdd (tVar 8) (tC (.int 1))) (gName 12))) tNext)
        (tIfS (tTest (tOp (rIn P w true) (tTup (tCons (tVar 11) (tCons (tVar 12) tNil))) (tVar 5))) (tSeq (tAsg (tC (.bl true)) (gSub (tVar 5) (tTup (tCons (tVar 11) (tCons (tVar 12) tNil))) (rSet P w)))
          (tDrop (tBM K "list" rAppend (tVar 4) (tCons (tTup (tCons (tVar 11) (tCons (tVar 12) (tCons (tOp rAdd (tVar 9) (tLst (tCons (tVar 10) tNil))) tNil)))) tNil)))) tNext)))) (stA T p v a W (i + 1) (some (.dat (dN s))) (some (.dat (dN c))) (some (.dat (dActs r))) x10 x11 x12) K0 := by
      intro hend K0 e0
      refine as_forT (α := Act × Nat) ?_
      walk_at "e"
      refine ⟨T.row s, dE, rfl, fun j st => ∃ W' x10 x11 x12, st = stA T p v a W' (i + 1) (some (.dat (dN s))) (some (.dat (dN c))) (some (.dat (dActs r))) x10 x11 x12 ∧ InvA T p v W' ∧ DoneA T p v a W' i ∧ W'[i]? = some (s, c, r) ∧ ∀ (j' : Nat) e, j' < j → (T.row s)[j']? = some e → ∀ k, goOn p v c e = some k → k ∈ W'.map fk, ⟨W, x10, x11, x12, rfl, iv, dn, hr, fun _ _ h => absurd h (by omega)⟩, ?_, ?_⟩
      · rintro j e st he ⟨W', x10, x11, x12, rfl, iv', dn', hr', dj⟩
        have hWl' := iv'.len hT hv
        have hstep : T.walk (r ++ [e.1]) = some e.2 := by
          rw [T.walk_snoc, hs]
          exact mem_look (hT.row' s).2.1 (List.mem_of_getElem? he)
        -- what is left of the turn, the place ahead being known
        have fin : ∀ (c' : Nat), goOn p v c e = some (e.2, c') → view (r ++ [e.1]) p = v.take c' → c' ≤ v.length → ∀ K1 : AK, K1.nx = (fun st => ∃ W' x10 x11 x12, st = stA T p v a W' (i + 1) (some (.dat (dN s))) (some (.dat (dN c))) (some (.dat (dActs r))) x10 x11 x12 ∧ InvA T p v W' ∧ DoneA T p v a W' i ∧ W'[i]? = some (s, c, r) ∧ ∀ (j' : Nat) e, j' < j + 1 → (T.row s)[j']? = some e → ∀ k, goOn p v c e = some k → k ∈ W'.map fk) →
            AST P w G (tIfS (tTest (tOp (rIn P w true) (tTup (tCons (tVar 11) (tCons (tVar 12) tNil))) (tVar 5))) (tSeq (tAsg (tC (.bl true)) (gSub (tVar 5) (tTup (tCons (tVar 11) (tCons (tVar 12) tNil))) (rSet P w)))
          (tDrop (tBM K "list" rAppend (tVar 4) (tCons (tTup (tCons (tVar 11) (tCons (tVar 12) (tCons (tOp rAdd (tVar 9) (tLst (tCons (tVar 10) tNil))) tNil)))) tNil)))) tNext) (stA T p v a W' (i + 1) (some (.dat (dN s))) (some (.dat (dN c))) (some (.dat (dActs r))) (some (.dat (dA e.1))) (some (.dat (dN e.2))) (some (.dat (dN c')))) K1 := by
          intro c' hgo hvw hc' K1 e1
          refine as_if (at_test (ae_op (ae_tup ?_)))
          walk_at "e"
          refine ⟨_, rfl, size_big (by show 2 ≤ _; decide), ?_⟩
          walk_at "e"
          refine ao_inN (neg := true) (i := 1) (.inl rfl) (kd_ok (kd_dP (e.2, c')) (by omega)) ⟨_, rfl, fun hb2 => ?_, fun hb2 => ?_⟩
          · have hni : (e.2, c') ∉ W'.map fk := by
              have hb2 : (!(lookN ((W'.map fk).map fun k => (dP k, Rf.dat (.bool true))) (dP (e.2, c'))).isSome) = true := hb2
              rw [lookN_tru dP_key] at hb2
              simpa using hb2
            refine as_seq (as_asg (ae_bl (ag_sub ?_)))
            walk_at "e"
            refine ae_tup ?_
            walk_at "e"
            refine ⟨_, rfl, size_big (by show 2 ≤ _; decide), ?_⟩
            refine aset_dn rfl (kd_ok (kd_dP (e.2, c')) (by omega)) (size_lt (by rw [List.length_map, List.length_map]; omega)) ?_
            rw [show putN ((W'.map fk).map fun k => (dP k, Rf.dat (.bool true))) (.tuple [dN e.2, dN c']) (.dat (.bool true)) = ((W'.map fk) ++ [(e.2, c')]).map fun k => (dP k, Rf.dat (.bool true)) from putN_new dP_key (fun _ => Rf.dat (.bool true)) hni]
            walk_at "e"
            refine ae_append ?_
            walk_at "e"
            refine ⟨0, rfl, ⟨_, rfl⟩, ?_⟩
            walk_at "e"
            refine ae_tup ?_
            walk_at "e"
            refine ae_lstD ?_
            walk_at "e"
            refine ⟨[dA e.1], rfl, size_big (by show 1 ≤ _; decide), ?_⟩
            refine ao_catD (xs := r.map dA) (ys := [dA e.1]) rfl rfl (size_big (by rw [List.length_map]; show _ + 1 ≤ _; omega)) ?_
            walk_at "e"
            refine ⟨_, rfl, size_big (by show 3 ≤ _; decide), ?_⟩
            walk_at "e"
            refine ⟨_, _, rfl, rfl, size_lt (by rw [List.length_map, List.length_map]; omega), ?_⟩
            rw [e1]
            refine ⟨W' ++ [(e.2, c', r ++ [e.1])], some (.dat (dA e.1)), some (.dat (dN e.2)), some (.dat (dN c')), ?_, ⟨?_, fun x hx => ?_, fun i2 x h2 => ?_, ?_⟩, fun j2 x hj2 h2 => ?_, getE_pre hr', fun j' y hj' hy k hk => ?_⟩
            · unfold stA
              rw [md_snoc, List.map_append (f := fk)]
              unfold dWt dActs
              rw [List.map_append (f := dA) (l₂ := [e.1])]
              rfl
            · rw [List.map_append]
              exact List.nodup_append.mpr ⟨iv'.nd, by simp, fun a ha b hb => by rw [List.mem_singleton.mp hb]; exact fun z => hni (by rw [show (e.2, c') = a from z.symm]; exact ha)⟩
            · rcases List.mem_append.mp hx with hx | hx
              · exact iv'.run x hx
              · rw [List.mem_singleton.mp hx]
                exact ⟨hstep, hvw, hc'⟩
            · by_cases q : i2 < W'.length
              · rw [List.getElem?_append_left q] at h2
                exact iv'.short i2 x h2
              · rw [List.getElem?_append_right (by omega)] at h2
                have hz : i2 - W'.length = 0 := by
                  cases q2 : i2 - W'.length with
                  | zero => rfl
                  | succ n => rw [q2] at h2; simp at h2
                rw [hz] at h2
                have : (e.2, c', r ++ [e.1]) = x := by simpa using h2
                rw [← this]
                show (r ++ [e.1]).length ≤ i2
                rw [List.length_append]
                have := (List.getElem?_eq_some_iff.mp hr').1
                show r.length + 1 ≤ i2
                omega
            · rw [List.map_append]
              exact List.mem_append_left _ iv'.init
            · rw [List.getElem?_append_left (by have := (List.getElem?_eq_some_iff.mp hr').1; omega)] at h2
              obtain ⟨h3, h4⟩ := dn' j2 x hj2 h2
              refine ⟨fun e he k hk => ?_, h4⟩
              rw [List.map_append]
              exact List.mem_append_left _ (h3 e he k hk)
            · rw [List.map_append]
              by_cases q : j' = j
              · subst q
                rw [he] at hy
                cases hy
                rw [hgo] at hk
                cases hk
                exact List.mem_append_right _ (List.mem_singleton.mpr rfl)
              · exact List.mem_append_left _ (dj j' y (by omega) hy k hk)
          · have hin : (e.2, c') ∈ W'.map fk := by
              have hb2 : (!(lookN ((W'.map fk).map fun k => (dP k, Rf.dat (.bool true))) (dP (e.2, c'))).isSome) = false := hb2
              rw [lookN_tru dP_key] at hb2
              simpa using hb2
            refine as_next ?_
            rw [e1]
            refine ⟨W', some (.dat (dA e.1)), some (.dat (dN e.2)), some (.dat (dN c')), rfl, iv', dn', hr', fun j' y hj' hy k hk => ?_⟩
            by_cases q : j' = j
            · subst q
              rw [he] at hy
              cases hy
              rw [hgo] at hk
              cases hk
              exact hin
            · exact dj j' y (by omega) hy k hk
        refine ag_pair ?_
        walk_at "e"
        refine ⟨(e.1, p), rfl, trivial, fun d hd => ?_⟩
        have hd : d = .bool (conc e.1 p) := hd
        subst hd
        refine ⟨_, rfl, fun hb => ?_, fun hb => ?_⟩
        · -- concerned
          have skip : goOn p v c e = none → ∃ W2 x10 x11 x12, (stA T p v a W' (i + 1) (some (.dat (dN s))) (some (.dat (dN c))) (some (.dat (dActs r))) (some (.dat (dA e.1))) (some (.dat (dN e.2))) (some (.dat (dN c)))) = stA T p v a W2 (i + 1) (some (.dat (dN s))) (some (.dat (dN c))) (some (.dat (dActs r))) x10 x11 x12 ∧ InvA T p v W2 ∧ DoneA T p v a W2 i ∧ W2[i]? = some (s, c, r) ∧ ∀ (j' : Nat) e, j' < j + 1 → (T.row s)[j']? = some e → ∀ k, goOn p v c e = some k → k ∈ W2.map fk := fun hno => ⟨W', _, _, _, rfl, iv', dn', hr', fun j' y hj' hy k hk => by
            by_cases q : j' = j
            · subst q
              rw [he] at hy
              cases hy
              rw [hno] at hk
              cases hk
            · exact dj j' y (by omega) hy k hk⟩
          walk_at "e"
          refine ar_lenQ (ds := v.map dA) rfl ?_
          rw [List.length_map]
          walk_at "e"
          refine ao_eqI (a := (c : Int)) (b := (v.length : Int)) ⟨_, rfl, fun h => ⟨fun _ => ?_, fun h => (nomatch h)⟩, fun h => ?_⟩
          · have h : c = v.length := by
              have := of_decide_eq_true h
              omega
            refine as_cont ?_
            refine skip ?_
            unfold goOn
            rw [if_pos hb, if_neg]
            rw [h, List.getElem?_eq_none (Nat.le_refl _)]
            exact fun z => (nomatch z)
          · have h : c < v.length := by
              have := of_decide_eq_false h
              omega
            obtain ⟨b, hvb⟩ : ∃ b, v[c]? = some b := ⟨_, List.getElem?_eq_getElem h⟩
            walk_at "e"
            refine ao_seqD (ds := v.map dA) (i := c) (d := dA b) rfl (by rw [List.getElem?_map, hvb]; rfl) ?_
            walk_at "e"
            refine ao_ne (eqOk_act _ _) ⟨_, rfl, fun hb2 => ?_, fun hb2 => ?_⟩
            · rw [eqv_act] at hb2
              have hne : ¬ b = e.1 := by simpa using hb2
              refine as_cont ?_
              refine skip ?_
              unfold goOn
              rw [if_pos hb, if_neg]
              rw [hvb]
              exact fun z => hne (Option.some.inj z)
            · rw [eqv_act] at hb2
              have hbe : b = e.1 := by simpa using hb2
              subst hbe
              refine as_next ?_
              refine as_set (ae_op (ae_var rfl (ae_int (ao_addI ?_))))
              refine fin (c + 1) ?_ ?_ (by omega) _ rfl
              · unfold goOn
                rw [if_pos hb, if_pos hvb]
              · rw [view_snoc, if_pos hb, hvr, List.take_add_one, hvb]
                rfl
        · refine as_next ?_
          have hc : ¬ conc e.1 p = true := by rw [hb]; exact fun z => (nomatch z)
          exact fin c (by unfold goOn; rw [if_neg hc]) (by rw [view_snoc, if_neg hc]; exact hvr) hcl _ rfl
      · rintro st ⟨W', x10, x11, x12, rfl, iv', dn', hr', dj⟩
        rw [e0]
        refine ⟨900300 - (i + 1), by have := iv'.len hT hv; have := (List.getElem?_eq_some_iff.mp hr').1; omega, W', i + 1, some (.dat (dN s)), some (.dat (dN c)), some (.dat (dActs r)), x10, x11, x12, rfl, iv', fun j2 x hj2 h2 => ?_, (List.getElem?_eq_some_iff.mp hr').1, rfl⟩
        by_cases q : j2 = i
        · subst q
          rw [hr'] at h2
          cases h2
          refine ⟨fun e he k hk => ?_, hend⟩
          obtain ⟨j', hj'⟩ := List.mem_iff_getElem?.mp he
          exact dj j' e (List.getElem?_eq_some_iff.mp hj').1 hj' k hk
        · exact dn' j2 x (by omega) h2
    walk_at "e"
    refine ar_lenQ (ds := v.map dA) rfl ?_
    rw [List.length_map]
    refine ao_eqI (a := (c : Int)) (b := (v.length : Int)) ⟨_, rfl, fun h => ?_, fun h => ?_⟩
    · have hcv : c = v.length := by
        have := of_decide_eq_true h
        omega
      walk_at "e"
      refine ⟨_, rfl, fun h => (nomatch h), fun _ => ⟨fun h => (nomatch h), fun _ => ?_⟩⟩
      walk_at "e"
      refine ⟨_, rfl, fun _ => ?_, fun h => (nomatch h)⟩
      walk_at "e"
      refine ⟨(T, s, a), rfl, hsn, fun d hd => ?_⟩
      have hd : d = optI (T.step s a) := hd
      subst hd
      walk_at "e"
      rw [isNone_optI]
      refine ⟨_, rfl, fun hb2 => ?_, fun hb2 => ?_⟩
      · obtain ⟨z, hz⟩ : ∃ z, T.step s a = some z := by
          cases q : T.step s a with
          | none => rw [q] at hb2; cases hb2
          | some z => exact ⟨z, rfl⟩
        walk_at "e"
        refine ⟨_, rfl, r, rfl, by rw [hvr, hcv, List.take_length], ⟨z, by rw [T.walk_snoc, hs]; exact hz⟩, by omega⟩
      · have hz : T.step s a = none := by
          cases q : T.step s a with
          | none => rfl
          | some z => rw [q] at hb2; cases hb2
        refine as_next ?_
        exact loop (fun _ => hz) _ rfl
    · refine as_next ?_
      exact loop (fun z => absurd z (by have := of_decide_eq_false h; omega)) _ rfl
  · have hle : i = W.length := by
      have := of_decide_eq_false hb
      rw [List.length_map, List.length_map] at this
      omega
    subst hle
    exfalso
    rw [T.walk_snoc] at hs0
    cases q : T.walk o0 with
    | none => rw [q] at hs0; cases hs0
    | some t =>
      rw [q] at hs0
      obtain ⟨x, hx, e⟩ := List.mem_map.mp (iv.all dn o0 t v.length q (by rw [ho0, List.take_length]) (Nat.le_refl _))
      obtain ⟨j, hj⟩ := List.mem_iff_getElem?.mp hx
      have e1 : x.1 = t := congrArg Prod.fst e
      have e2 : x.2.1 = v.length := congrArg Prod.snd e
      have := (dn j x (List.getElem?_eq_some_iff.mp hj).1 hj).2 e2
      rw [e1] at this
      have hs0 : T.step t a = some s0 := hs0
      rw [this] at hs0
      cases hs0
/-! ### states_by_party, sends_at -/
def stK (M : Ms) (r : List Act) : List (Key × D) := M.map fun m => (kS m.1, dN (mst m r))
def dSt (M : Ms) (r : List Act) : D := .dict (dkD (stK M r))
def aSbp (x : Tab × Ms × List Act) : List D := [dMs x.2.1, dS (jt x.1 x.2.1 x.2.2)]
def pSbp (x : Tab × Ms × List Act) : Prop := Gd x.1 ∧ MsOk x.1 x.2.1 ∧ ∃ s, x.1.walk x.2.2 = some s
def qSbp (x : Tab × Ms × List Act) (d : D) : Prop := d = dSt x.2.1 x.2.2
theorem rd_states_by_party {K : PySem.W.Frag} {P : Program} {w : World} {N : List Str} (hN : N.length = 4) : ∀ vs H Q E, spI P w aSbp pSbp qSbp vs H Q E → t_states_by_party K P w { nx := fun _ H' => Q .non H', rt := Q } (L2.start N vs) H := by
  refine fnI fun G x hx => ⟨by rw [hN]; show 2 ≤ 4; decide, ?_⟩
  rw [hN]
  obtain ⟨T, M, r⟩ := x
  obtain ⟨hT, hM, s, hs⟩ := (show Gd T ∧ MsOk T M ∧ ∃ s, T.walk r = some s from hx)
  have hml := hM.len hT.wf
  show AST P w G (t_states_by_party K P w) ⟨[some (.dat (dMs M)), some (.dat (dS (jt T M r))), none, none], []⟩ _
  unfold t_states_by_party
  refine as_ret (ae_frzK ?_)
  refine ae_dc (ai_enumK ?_)
  walk_at "e"
  refine ⟨msK M, rfl, fun i acc st => acc = (M.take i).map (fun m => (kS m.1, Rf.dat (dN (mst m r)))) ∧ st = ⟨[some (.dat (dMs M)), some (.dat (dS (jt T M r))), none, none], [.dk acc]⟩, ⟨rfl, rfl⟩, fun _ _ _ _ _ => True.intro, ?_, ?_⟩
  · rintro i k acc st hk ⟨rfl, rfl⟩
    rw [List.getElem?_map, List.getElem?_zipIdx] at hk
    obtain ⟨m, hm⟩ : ∃ m, M[i]? = some m := by
      cases q : M[i]? with
      | none => unfold msK at hk; rw [List.getElem?_map, q] at hk; cases hk
      | some m => exact ⟨m, rfl⟩
    have hk2 : (msK M)[i]? = some (kS m.1, dT m.2) := by unfold msK; rw [List.getElem?_map, hm]; rfl
    rw [hk2] at hk
    have hk3 : k = .dat (.tuple [.int ((0 + i : Nat) : Int), .str m.1]) := (Option.some.inj hk).symm
    subst hk3
    rw [Nat.zero_add]
    refine agc_pair (by decide) (by decide) (at_yes ⟨fun _ => ?_, fun h => absurd h (by decide)⟩)
    refine ae_var rfl ⟨kS m.1, rfl, ?_⟩
    walk_at "e"
    refine ao_addI ?_
    refine ao_seqD (ds := (jt T M r).map dN) (i := i + 1) (d := dN (mst m r)) rfl (by show ((M.map fun m => mst m r).map dN)[i]? = _; rw [List.getElem?_map, List.getElem?_map, hm]; rfl) ?_
    refine ⟨_, rfl, size_lt (by rw [List.length_map, List.length_take]; omega), ?_, rfl⟩
    rw [putK_end]
    · rw [List.take_add_one, hm, List.map_append]
      rfl
    · intro q hq
      obtain ⟨m2, hm2, rfl⟩ := List.mem_map.mp hq
      intro z
      have z : m2.1 = m.1 := kS_inj _ _ z
      have h1 := hM.nd
      have h2 : (M.map (·.1))[i]? = some m.1 := by rw [List.getElem?_map, hm]; rfl
      refine nodup_take h1 h2 ?_
      rw [← List.map_take]
      exact List.mem_map.mpr ⟨m2, hm2, z⟩
  · rintro acc st ⟨rfl, rfl⟩
    have e1 : (M.take ((msK M).zipIdx.map fun p : (Key × D) × Nat => Rf.dat (.tuple [.int (p.2 : Nat), kD p.1.1])).length) = M := List.take_of_length_le (by rw [List.length_map, List.length_zipIdx]; unfold msK; rw [List.length_map]; exact Nat.le_refl _)
    rw [e1]
    refine ⟨0, stK M r, rfl, ?_, _, rfl, rfl⟩
    show some (Ct.dk _) = some (Ct.dk _)
    unfold stK
    rw [List.map_map]
    rfl
theorem rows_len2 : ∀ (R : List (List (Act × Nat))) (F : List Str), (R.foldl accR F).length ≤ F.length + 2 * (R.flatMap fun r => r.map (·.1)).length
  | [], F => by simp
  | r :: R, F => by
    rw [List.foldl_cons, List.flatMap_cons, List.length_append, List.length_map]
    have := rows_len2 R (accR F r)
    have := accR_len r F
    omega
theorem parts_600 {T : Tab} (hT : Gd T) : (parts T).length ≤ 600 := by
  unfold parts
  rw [(List.mergeSort_perm _ _).length_eq]
  have h1 := rows_len2 T.rows []
  have h2 : (T.rows.flatMap fun r => r.map (·.1)).length ≤ 300 := hT.acts
  unfold parF
  simp only [List.length_nil] at h1
  omega
theorem MsOk.len6 {T : Tab} (hT : Gd T) {M : Ms} (h : MsOk T M) : M.length ≤ 600 := by
  have h1 := congrArg List.length h.fst
  have h2 := parts_600 hT
  rw [List.length_map] at h1
  omega
/-- what some machine may send -/
def Snd (M : Ms) (r : List Act) (a : Act) : Prop := ∃ m ∈ M, a.1 = m.1 ∧ (m.2.step (mst m r) a).isSome = true
def aSnd (x : Tab × Ms × List Act) : List D := [dMs x.2.1, dSt x.2.1 x.2.2]
def qSnd (x : Tab × Ms × List Act) (d : D) : Prop := ∃ l, d = dActs l ∧ ∀ a, a ∈ l ↔ Snd x.2.1 x.2.2 a
theorem lookK_st {M : Ms} (nd : (M.map (·.1)).Nodup) {m : Str × Tab} (r : List Act) (h : m ∈ M) : lookK ((stK M r).map fun p => (p.1, Rf.dat p.2)) (kS m.1) = some (.dat (dN (mst m r))) := by
  unfold lookK stK
  induction M with
  | nil => cases h
  | cons x M ih =>
    rw [List.map_cons, List.nodup_cons] at nd
    rw [List.map_cons, List.map_cons, List.find?_cons]
    by_cases q : x.1 = m.1
    · have e : decide ((kS x.1) = kS m.1) = true := by rw [q]; exact decide_eq_true rfl
      simp only [e]
      rcases List.mem_cons.mp h with rfl | h
      · rfl
      · exact absurd (List.mem_map.mpr ⟨m, h, q.symm⟩) nd.1
    · have e : decide ((kS x.1) = kS m.1) = false := decide_eq_false fun z => q (kS_inj _ _ z)
      simp only [e]
      refine ih nd.2 ?_
      rcases List.mem_cons.mp h with rfl | h
      · exact absurd rfl q
      · exact h
/-- the list so far -/
structure InvD (M : Ms) (r : List Act) (l : List Act) (i j : Nat) : Prop where
  len : l.length ≤ 300 * i + j
  sound : ∀ a ∈ l, Snd M r a
  done : ∀ (i' : Nat) m, i' < i → M[i']? = some m → ∀ e ∈ m.2.row (mst m r), e.1.1 = m.1 → e.1 ∈ l
  part : ∀ m, M[i]? = some m → ∀ (j' : Nat) e, j' < j → (m.2.row (mst m r))[j']? = some e → e.1.1 = m.1 → e.1 ∈ l
theorem rd_sends_at {K : PySem.W.Frag} {P : Program} {w : World} {N : List Str} (hN : N.length = 6) : ∀ vs H Q E, spI P w aSnd pSbp qSnd vs H Q E → t_sends_at K P w { nx := fun _ H' => Q .non H', rt := Q } (L2.start N vs) H := by
  refine fnI fun G x hx => ⟨by rw [hN]; show 2 ≤ 6; decide, ?_⟩
  rw [hN]
  obtain ⟨T, M, r⟩ := x
  obtain ⟨hT, hM, s, hs⟩ := (show Gd T ∧ MsOk T M ∧ ∃ s, T.walk r = some s from hx)
  have hml := hM.len6 hT
  show AST P w G (t_sends_at K P w) ⟨[some (.dat (dMs M)), some (.dat (dSt M r)), none, none, none, none], []⟩ _
  unfold t_sends_at
  walk_at "e"
  refine ae_lst ?_
  walk_at "e"
  refine ⟨Nat.zero_le _, ?_⟩
  refine as_seq (as_forD ?_)
  walk_at "e"
  refine ⟨msK M, rfl, fun i st => ∃ l x3 x4 x5, st = ⟨[some (.dat (dMs M)), some (.dat (dSt M r)), some (.own 0), x3, x4, x5], [.lst ((l.map dA).map .dat)]⟩ ∧ InvD M r l i 0, ⟨[], none, none, none, rfl, ⟨Nat.zero_le _, fun a h => (nomatch h), fun _ _ h => absurd h (by omega), fun _ _ _ _ h => absurd h (by omega)⟩⟩, ?_, ?_⟩
  · rintro i k st hk ⟨l, x3, x4, x5, rfl, iv⟩
    obtain ⟨m, hm, rfl⟩ : ∃ m, M[i]? = some m ∧ k = (kS m.1, dT m.2) := by
      unfold msK at hk
      rw [List.getElem?_map] at hk
      cases q : M[i]? with
      | none => rw [q] at hk; cases hk
      | some m => rw [q] at hk; cases hk; exact ⟨m, rfl, rfl⟩
    have hmm := List.mem_of_getElem? hm
    have hok := hM.each m hmm
    have hi := (List.getElem?_eq_some_iff.mp hm).1
    obtain ⟨u, hu⟩ := mach_walk hok (vw_run (p := m.1) hs)
    have hmst : mst m r = u := by unfold mst; rw [hu]; rfl
    have hun : u < m.2.n := hok.wf.walk_lt hu
    have hrow := (hok.wf.row' u)
    refine ag_name ?_
    refine as_forT (α := Act × Nat) ?_
    walk_at "e"
    refine ao_getK (k := kS m.1) ⟨msK M, rfl, rfl⟩ (lookK_ms hM.nd hmm) ?_
    walk_at "e"
    refine ao_getK (k := kS m.1) ⟨stK M r, rfl, rfl⟩ (lookK_st hM.nd r hmm) ?_
    rw [hmst]
    refine ao_row hun ⟨m.2.row u, dE, rfl, fun j st => ∃ l x4 x5, st = ⟨[some (.dat (dMs M)), some (.dat (dSt M r)), some (.own 0), some (.dat (.str m.1)), x4, x5], [.lst ((l.map dA).map .dat)]⟩ ∧ InvD M r l i j, ⟨l, x4, x5, rfl, iv⟩, ?_, ?_⟩
    · rintro j e st he ⟨l, x4, x5, rfl, iv⟩
      have hj : j < 300 := Nat.lt_of_lt_of_le (List.getElem?_eq_some_iff.mp he).1 hrow.1
      have hil := iv.len
      refine ag_pair ?_
      walk_at "e"
      refine ⟨_, rfl, fun hb => ?_, fun hb => ?_⟩
      · have hem : e.1.1 = m.1 := of_decide_eq_true hb
        walk_at "e"
        refine ae_append ?_
        walk_at "e"
        refine ⟨0, rfl, ⟨_, rfl⟩, ?_⟩
        walk_at "e"
        refine ⟨_, _, rfl, rfl, size_lt (by rw [List.length_map, List.length_map]; omega), l ++ [e.1], some (.dat (dA e.1)), some (.dat (dN e.2)), ?_, ⟨?_, fun a ha => ?_, fun i' m' hi' hm' e' he' h => List.mem_append_left _ (iv.done i' m' hi' hm' e' he' h), fun m' hm' j' e' hj' he' h => ?_⟩⟩
        · rw [md_snoc]
          rfl
        · rw [List.length_append]
          show _ + 1 ≤ _
          omega
        · rcases List.mem_append.mp ha with ha | ha
          · exact iv.sound a ha
          · rw [List.mem_singleton.mp ha]
            refine ⟨m, hmm, hem, ?_⟩
            rw [hmst, show m.2.step u e.1 = some e.2 from mem_look hrow.2.1 (List.mem_of_getElem? he)]
            rfl
        · rw [hm] at hm'
          cases hm'
          rw [hmst] at he'
          by_cases q : j' = j
          · subst q
            rw [he] at he'
            cases he'
            simp
          · exact List.mem_append_left _ (iv.part m hm j' e' (by omega) (by rw [hmst]; exact he') h)
      · refine as_next ?_
        refine ⟨l, some (.dat (dA e.1)), some (.dat (dN e.2)), rfl, ⟨by omega, iv.sound, iv.done, fun m' hm' j' e' hj' he' h => ?_⟩⟩
        rw [hm] at hm'
        cases hm'
        rw [hmst] at he'
        by_cases q : j' = j
        · subst q
          rw [he] at he'
          cases he'
          exact absurd h (of_decide_eq_false hb)
        · exact iv.part m hm j' e' (by omega) (by rw [hmst]; exact he') h
    · rintro st ⟨l, x4, x5, rfl, iv⟩
      refine ⟨l, some (.dat (.str m.1)), x4, x5, rfl, ⟨by have := iv.len; have := hrow.1; omega, iv.sound, fun i' m' hi' hm' e' he' h => ?_, fun _ _ _ _ h => absurd h (by omega)⟩⟩
      by_cases q : i' = i
      · subst q
        rw [hm] at hm'
        cases hm'
        obtain ⟨j', hj'⟩ := List.mem_iff_getElem?.mp he'
        refine iv.part m hm j' e' ?_ hj' h
        rw [hmst] at hj'
        exact (List.getElem?_eq_some_iff.mp hj').1
      · exact iv.done i' m' (by omega) hm' e' he' h
  · rintro st ⟨l, x3, x4, x5, rfl, iv⟩
    show AST P w G _ _ _
    have hkl : (msK M).length = M.length := by unfold msK; rw [List.length_map]
    rw [hkl] at iv
    have hil := iv.len
    walk_at "e"
    refine ar_sorted (x := .own 0) (ds := l.map dA) (.inl rfl) (srtOk_act l) (size_big (by rw [List.length_map]; omega)) ?_
    rw [srtD_srtA]
    refine ⟨_, rfl, srtA l, rfl, fun a => ((srtA_perm l).mem_iff).trans ⟨fun h => iv.sound a h, ?_⟩⟩
    rintro ⟨m, hm, h1, h2⟩
    obtain ⟨i, hi⟩ := List.mem_iff_getElem?.mp hm
    obtain ⟨g, hg⟩ := Option.isSome_iff_exists.mp h2
    exact iv.done i m (List.getElem?_eq_some_iff.mp hi).1 hi (a, g) (look_mem hg) h1
/-! ### what a sight is: the runs that look so -/
theorem un_run {T : Tab} (hT : Wf T) {p : Str} {s t : Nat} (h : Un T p s t) {o : List Act} (ho : T.walk o = some s) : ∃ o', T.walk o' = some t ∧ view o' p = view o p := by
  induction h with
  | refl => exact ⟨o, ho, rfl⟩
  | tail h1 h2 h3 ih =>
    rename_i t e
    obtain ⟨o', h4, h5⟩ := ih
    refine ⟨o' ++ [e.1], ?_, ?_⟩
    · rw [T.walk_snoc, h4]
      exact mem_look (hT.row' t).2.1 h2
    · rw [view_snoc, if_neg (by rw [h3]; exact fun z => (nomatch z)), h5]
theorem sv_char {T : Tab} (hT : Wf T) {p : Str} {v : List Act} (hc : ∀ a ∈ v, conc a p = true) : ∀ {y : Nat}, sv T p v y → ∃ o, T.walk o = some y ∧ view o p = v := by
  generalize hn : v.length = n
  induction n generalizing v with
  | zero =>
    rw [List.length_eq_zero_iff.mp hn]
    intro y hy
    exact un_run hT (o := []) hy rfl
  | succ n ih =>
    rcases List.eq_nil_or_concat v with rfl | ⟨v, a, rfl⟩
    · cases hn
    rw [List.concat_eq_append] at hn hc ⊢
    intro y hy
    rw [sv_snoc] at hy
    obtain ⟨s, hs, g, hg, hu⟩ := hy
    obtain ⟨o, h1, h2⟩ := ih (fun b hb => hc b (List.mem_append_left _ hb)) (by simpa using hn) hs
    have h3 : T.walk (o ++ [a]) = some g := by rw [T.walk_snoc, h1]; exact hg
    obtain ⟨o', h4, h5⟩ := un_run hT hu h3
    exact ⟨o', h4, by rw [h5, view_snoc, if_pos (hc a (by simp)), h2]⟩
/-! ### unready -/
def Ready (T : Tab) : Prop := ∀ r s o a, T.walk r = some s → view o a.1 = view r a.1 → (∃ z, T.walk (o ++ [a]) = some z) → ∃ z, T.walk (r ++ [a]) = some z
structure Cert (T : Tab) (r : List Act) (a : Act) (o : List Act) : Prop where
  run : ∃ s, T.walk r = some s
  not : T.walk (r ++ [a]) = none
  alike : view o a.1 = view r a.1
  other : ∃ s, T.walk (o ++ [a]) = some s
  len : r.length ≤ 3000
  olen : o.length ≤ 1000000
def dCert (r : List Act) (a : Act) (o : List Act) : D := .tuple [.str "unready", dActs r, dA a, dActs o]
def qUnr (T : Tab) (d : D) : Prop := (d = .none ∧ Ready T) ∨ ∃ r a o, d = dCert r a o ∧ Cert T r a o
theorem party_of {T : Tab} {s : Nat} {a : Act} {g : Nat} (h : T.step s a = some g) : a.1 ∈ parts T := by
  rw [mem_parts]
  have hin := look_mem (show look (T.row s) a = some g from h)
  have hs : ∃ r, T.rows[s]? = some r ∧ (a, g) ∈ r := by
    unfold Tab.row at hin
    rw [List.getD_eq_getElem?_getD] at hin
    cases q : T.rows[s]? with
    | none => rw [q] at hin; cases hin
    | some r => rw [q] at hin; exact ⟨r, rfl, hin⟩
  obtain ⟨r, h1, h2⟩ := hs
  exact ⟨r, List.mem_of_getElem? h1, (a, g), h2, conc_iff.mpr (.inl rfl)⟩
theorem snoc_some {T : Tab} {r : List Act} {a : Act} {z : Nat} (h : T.walk (r ++ [a]) = some z) : ∃ s, T.walk r = some s ∧ T.step s a = some z := by
  rw [T.walk_snoc] at h
  cases q : T.walk r with
  | none => rw [q] at h; cases h
  | some s => rw [q] at h; exact ⟨s, rfl, h⟩
theorem conc_self (a : Act) : conc a a.1 = true := conc_iff.mpr (.inl rfl)
/-- what a machine may send: some alike run goes on so -/
theorem snd_iff {T : Tab} (hT : Wf T) {M : Ms} (hM : MsOk T M) {r : List Act} {s : Nat} (hr : T.walk r = some s) (a : Act) : Snd M r a ↔ ∃ o, view o a.1 = view r a.1 ∧ ∃ z, T.walk (o ++ [a]) = some z := by
  constructor
  · rintro ⟨m, hm, h1, h2⟩
    have hok := hM.each m hm
    obtain ⟨u, hu⟩ := mach_walk hok (vw_run (p := m.1) hr)
    have hmst : mst m r = u := by unfold mst; rw [hu]; rfl
    rw [hmst, mach_step hok (vw_run hr) hu a] at h2
    obtain ⟨⟨y, hy⟩, hc⟩ := h2
    rw [sv_snoc] at hy
    obtain ⟨t, ht, g, hg, _⟩ := hy
    obtain ⟨o, h3, h4⟩ := sv_char hT (view_conc r m.1) ht
    rw [h1]
    exact ⟨o, h4, g, by rw [T.walk_snoc, h3]; exact hg⟩
  · rintro ⟨o, h1, z, hz⟩
    obtain ⟨t, ht, hst⟩ := snoc_some hz
    have hp := party_of hst
    rw [← hM.fst] at hp
    obtain ⟨m, hm, hma⟩ := List.mem_map.mp hp
    have hma : m.1 = a.1 := hma
    have hok := hM.each m hm
    obtain ⟨u, hu⟩ := mach_walk hok (vw_run (p := m.1) hr)
    have hmst : mst m r = u := by unfold mst; rw [hu]; rfl
    refine ⟨m, hm, hma.symm, ?_⟩
    rw [hmst, mach_step hok (vw_run hr) hu a]
    refine ⟨⟨z, ?_⟩, fun b hb => ?_⟩
    · rw [sv_snoc]
      refine ⟨t, ?_, z, hst, .refl z⟩
      rw [hma, ← h1]
      exact sv_run a.1 ht
    · rcases List.mem_append.mp hb with hb | hb
      · exact view_conc r m.1 b hb
      · rw [List.mem_singleton.mp hb, hma]
        exact conc_self a
theorem snd_jt {T : Tab} {M : Ms} {r r' : List Act} (e : ∀ m ∈ M, mst m r = mst m r') {a : Act} (h : Snd M r a) : Snd M r' a := by
  obtain ⟨m, hm, h1, h2⟩ := h
  exact ⟨m, hm, h1, by rw [← e m hm]; exact h2⟩
theorem rd_unready {K : PySem.W.Frag} {P : Program} {w : World} {C : Addr} {N : List Str} (hN : N.length = 6) : ∀ vs H Q E, spXI C aTab AllFew (fun T => ¬ Small T) qUnr vs H Q E → t_unready K P w C E (spXI C aTab AllFew (fun T => ¬ Small T) qJnt) (spI P w aTab AllFew qMs) (spI P w aAlk pAlk qAlk) (spI P w aSnd pSbp qSnd) (spI P w aSbp pSbp qSbp) (spI P w aView pView qView) (spI P w aWalk pWalk qWalk) { nx := fun _ H' => Q .non H', rt := Q } (L2.start N vs) H := by
  intro vs H Q E q
  refine fnXI (P := P) (w := w) q fun T hF hE => ⟨by rw [hN]; show 1 ≤ 6; decide, ?_⟩
  rw [hN]
  generalize H = G at hE ⊢
  have hT := hF.gd.wf
  show AST P w G (t_unready K P w C E _ _ _ _ _ _ _) ⟨[some (.dat (dT T)), none, none, none, none, none], []⟩ _
  unfold t_unready
  walk_at "e"
  refine ⟨T, rfl, hF, fun d hd => ?_⟩
  obtain ⟨M, rfl, hM⟩ := hd
  refine as_seq (as_forL (α := List Act) (ae_callXI ?_))
  walk_at "e"
  refine ⟨T, rfl, hF, hE, fun d hd => ?_⟩
  obtain ⟨M', L, hM', rfl, ok⟩ := hd
  have hMM := hM'.same hM
  subst hMM
  refine ⟨L, dJ T M', rfl, fun i st => ∃ x2 x3 x4, st = ⟨[some (.dat (dT T)), some (.dat (dMs M')), x2, x3, x4, none], []⟩ ∧ ∀ (j : Nat) r, j < i → L[j]? = some r → ∀ a, Snd M' r a → ∃ z, T.walk (r ++ [a]) = some z, ⟨none, none, none, rfl, fun _ _ h => absurd h (by omega)⟩, ?_, ?_⟩
  · rintro i r st hr ⟨x2, x3, x4, rfl, dn⟩
    obtain ⟨⟨s, hs⟩, hrl⟩ := ok.run r (List.mem_of_getElem? hr)
    refine ag_pair ?_
    refine as_forL (α := Act) ?_
    walk_at "e"
    refine ⟨(T, M', r), rfl, ⟨hF.gd, hM, s, hs⟩, fun d hd => ?_⟩
    have hd : d = dSt M' r := hd
    subst hd
    walk_at "e"
    refine ⟨(T, M', r), rfl, ⟨hF.gd, hM, s, hs⟩, fun d hd => ?_⟩
    obtain ⟨l, rfl, hl⟩ := hd
    refine ⟨l, dA, rfl, fun j st => ∃ x4, st = ⟨[some (.dat (dT T)), some (.dat (dMs M')), some (.dat (dS (jt T M' r))), some (.dat (dActs r)), x4, none], []⟩ ∧ ∀ (j' : Nat) a, j' < j → l[j']? = some a → ∃ z, T.walk (r ++ [a]) = some z, ⟨x4, rfl, fun _ _ h => absurd h (by omega)⟩, ?_, ?_⟩
    · rintro j a st ha ⟨x4, rfl, dj⟩
      have hsnd := (hl a).mp (List.mem_of_getElem? ha)
      obtain ⟨o0, ho0, hz0⟩ := (snd_iff hT hM hs a).mp hsnd
      refine ag_name ?_
      walk_at "e"
      refine ae_lstD ?_
      walk_at "e"
      refine ⟨[dA a], rfl, size_big (by show 1 ≤ _; decide), ?_⟩
      refine ao_catD (xs := r.map dA) (ys := [dA a]) rfl rfl (size_big (by rw [List.length_map]; show _ + 1 ≤ _; omega)) ?_
      rw [show PyData.list (r.map dA ++ [dA a]) = dActs (r ++ [a]) from by unfold dActs; rw [List.map_append]; rfl]
      walk_at "e"
      refine ⟨(T, r ++ [a]), rfl, hT, fun d hd => ?_⟩
      have hd : d = optI (T.walk (r ++ [a])) := hd
      subst hd
      walk_at "e"
      rw [isNone_optI]
      refine ⟨_, rfl, fun hb => ?_, fun hb => ?_⟩
      · have hno : T.walk (r ++ [a]) = none := Option.isNone_iff_eq_none.mp hb
        walk_at "e"
        refine ⟨(r, a.1), rfl, (by show r.length ≤ 5000000; omega), fun d hd => ?_⟩
        have hd : d = dActs (view r a.1) := hd
        subst hd
        walk_at "e"
        refine ⟨(T, a.1, view r a.1, a), rfl, ⟨hT, Nat.le_trans (view_len r a.1) hrl, o0, ho0, hz0⟩, fun d hd => ?_⟩
        obtain ⟨o, rfl, h1, h2, h3⟩ := hd
        walk_at "e"
        refine ae_tup ?_
        walk_at "e"
        refine ⟨_, rfl, size_big (by show 4 ≤ _; decide), _, rfl, .inr ⟨r, a, o, rfl, ⟨s, hs⟩, hno, h1, h2, hrl, h3⟩⟩
      · refine as_next ?_
        refine ⟨some (.dat (dA a)), rfl, fun j' a' hj' ha' => ?_⟩
        by_cases q : j' = j
        · subst q
          rw [ha] at ha'
          cases ha'
          cases q2 : T.walk (r ++ [a]) with
          | none => rw [q2] at hb; cases hb
          | some z => exact ⟨z, rfl⟩
        · exact dj j' a' (by omega) ha'
    · rintro st ⟨x4, rfl, dj⟩
      refine ⟨some (.dat (dS (jt T M' r))), some (.dat (dActs r)), x4, rfl, fun j r' hj hr' a hsnd => ?_⟩
      by_cases q : j = i
      · subst q
        rw [hr] at hr'
        cases hr'
        obtain ⟨j', hj'⟩ := List.mem_iff_getElem?.mp ((hl a).mpr hsnd)
        exact dj j' a (List.getElem?_eq_some_iff.mp hj').1 hj'
      · exact dn j r' (by omega) hr' a hsnd
  · rintro st ⟨x2, x3, x4, rfl, dn⟩
    show AST P w G _ _ _
    walk_at "e"
    refine ⟨_, rfl, .inl ⟨rfl, fun r s o a hs ho hz => ?_⟩⟩
    obtain ⟨r', hr', e⟩ := ok.all r s hs
    obtain ⟨⟨s', hs'⟩, _⟩ := ok.run r' hr'
    obtain ⟨rfl, e2⟩ := jt_inj hs' hs e
    obtain ⟨j, hj⟩ := List.mem_iff_getElem?.mp hr'
    have hsnd := snd_jt (T := T) (fun m hm => (e2 m hm).symm) ((snd_iff hT hM hs a).mpr ⟨o, ho, hz⟩)
    obtain ⟨z, hz⟩ := dn j r' (List.getElem?_eq_some_iff.mp hj).1 hj a hsnd
    obtain ⟨s2, h1, h2⟩ := snoc_some hz
    rw [hs'] at h1
    cases h1
    exact ⟨z, by rw [T.walk_snoc, hs]; exact h2⟩
/-! ### _law_told -/
def qTold (T : Tab) (d : D) : Prop := (d = .none ∧ ¬ Small T) ∨ ∃ e, d = .tuple [.str "told", e] ∧ qUnr T e
theorem rd__law_told {K : PySem.W.Frag} {P : Program} {w : World} {C : Addr} (hx : PySem.W.exmOne K (.ref C) (.ref C) = some true) {N : List Str} (hN : N.length = 1) : ∀ vs H Q E, spI P w aTab AllFew qTold vs H Q E → t__law_told K P w C (spXI C aTab AllFew (fun T => ¬ Small T) qUnr) { nx := fun _ H' => Q .non H', rt := Q } (L2.start N vs) H := by
  refine fnI fun G T hT => ⟨by rw [hN]; show 1 ≤ 1; decide, ?_⟩
  rw [hN]
  show AST P w G (t__law_told K P w C _) ⟨[some (.dat (dT T))], []⟩ _
  intro F0 as F σ H x D l
  obtain ⟨v0, h1, h2⟩ := x.slot 0 _ rfl
  refine ⟨v0, h1, T, hT, F, x.fin, DenL.cons h2 .nil, fun hS H' kk => ?_, fun v H' F' d kk e f fr dv po => ?_⟩
  · obtain ⟨x2, g2⟩ := x.after kk (Same.refl F) (x.fin.trans kk) fun _ _ h => h
    exact ⟨true, hx, fun _ a ha => l.rt _ _ _ _ _ _ _ x2 (RfOk.dat Den.non) ⟨_, rfl, .inl ⟨rfl, hS⟩⟩, fun h => (nomatch h)⟩
  · obtain ⟨x2, g2⟩ := x.after kk e f fr
    refine ⟨size_big (by show 2 ≤ _; decide), fun p hp => ?_⟩
    obtain ⟨x3, g3⟩ := x2.newDat (o := .tup [.str "told", v]) hp
    exact l.rt _ _ _ _ _ _ _ x3 (RfOk.dat (Den.tup upd_same (DenL.cons (Den.str _) (DenL.cons (Den.mono g3.f _ _ dv) .nil)))) ⟨_, rfl, .inr ⟨d, rfl, po⟩⟩
/-! ### _law_holds -/
def aHld (x : Tab × List Act × Act × List Act) : List D := [dT x.1, dCert x.2.1 x.2.2.1 x.2.2.2]
def pHld (x : Tab × List Act × Act × List Act) : Prop := Wf x.1 ∧ Cert x.1 x.2.1 x.2.2.1 x.2.2.2
def qHld (_ : Tab × List Act × Act × List Act) (d : D) : Prop := d = .bool true
theorem rd__law_holds {K : PySem.W.Frag} {P : Program} {w : World} {N : List Str} (hN : N.length = 11) : ∀ vs H Q E, spI P w aHld pHld qHld vs H Q E → t__law_holds K P w (spI P w aGoes pGoes qGoes) (spI P w aTab Wf qPart) (spI P w aSame pSame qSame) (spI P w aWalk pWalk qWalk) { nx := fun _ H' => Q .non H', rt := Q } (L2.start N vs) H := by
  refine fnI fun G x hx => ⟨by rw [hN]; show 2 ≤ 11; decide, ?_⟩
  rw [hN]
  obtain ⟨T, r, a, o⟩ := x
  obtain ⟨hT, c⟩ := (show Wf T ∧ Cert T r a o from hx)
  obtain ⟨s, hs⟩ := c.run
  obtain ⟨z, hz⟩ := c.other
  have hrl := c.len
  have hol := c.olen
  show AST P w G (t__law_holds K P w _ _ _ _) ⟨[some (.dat (dT T)), some (.dat (dCert r a o)), none, none, none, none, none, none, none, none, none], []⟩ _
  unfold t__law_holds
  refine as_seq (as_if (at_or (at_not (at_B (ae_isTup ?_)))))
  walk_at "e"
  refine ⟨[.str "unready", dActs r, dA a, dActs o], rfl, true, rfl, fun h => (nomatch h), fun _ => ?_⟩
  walk_at "e"
  refine ao_seqD (ds := [.str "unready", dActs r, dA a, dActs o]) (i := 0) (d := .str "unready") rfl rfl ?_
  walk_at "e"
  refine ae_lstD ?_
  walk_at "e"
  refine ⟨[.str "stray", .str "idle", .str "unready"], rfl, size_big (by show 3 ≤ _; decide), ?_⟩
  refine ao_inL (neg := true) (ds := (["stray", "idle", "unready"] : List Str).map .str) rfl (eqOk_strs _ _) ⟨_, rfl, fun h => ?_, fun _ => ?_⟩
  · rw [any_str] at h
    exact absurd h (by decide)
  walk_at "e"
  refine ao_seqD (ds := [.str "unready", dActs r, dA a, dActs o]) (i := 1) (d := dActs r) rfl rfl ?_
  walk_at "e"
  refine ⟨(T, r), rfl, hT, fun d hd => ?_⟩
  have hd : d = optI (T.walk r) := hd
  rw [hs] at hd
  subst hd
  walk_at "e"
  refine ⟨_, rfl, fun h => (nomatch h), fun _ => ?_⟩
  walk_at "e"
  refine ao_seqD (ds := [.str "unready", dActs r, dA a, dActs o]) (i := 0) (d := .str "unready") rfl rfl ?_
  walk_at "e"
  refine ⟨_, rfl, fun h => absurd h (by decide), fun _ => ?_⟩
  walk_at "e"
  refine ao_seqD (ds := [.str "unready", dActs r, dA a, dActs o]) (i := 2) (d := dA a) rfl rfl ?_
  walk_at "e"
  refine ⟨(T, r, a), rfl, ⟨hT, (by show r.length ≤ 5000000; omega)⟩, fun d hd => ?_⟩
  have hd : d = .bool (T.walk (r ++ [a])).isSome := hd
  rw [c.not] at hd
  subst hd
  refine ⟨_, rfl, fun h => (nomatch h), fun _ => ?_⟩
  refine as_next ?_
  refine as_seq (as_for (ai_rng2 ?_))
  walk_at "e"
  refine ar_lenQ (ds := [.str "unready", dActs r, dA a, dActs o]) rfl ?_
  walk_at "e"
  refine ⟨3, 4, rfl, ⟨by omega, by omega, by omega, by omega⟩, fun i st => i ≤ 1 ∧ ∃ x9, st = ⟨[some (.dat (dT T)), some (.dat (dCert r a o)), some (.dat (dActs r)), some (.dat (dN s)), none, none, none, none, some (.dat (dA a)), x9, none], []⟩, ⟨Nat.zero_le _, none, rfl⟩, fun _ _ _ _ => True.intro, ?_, ?_⟩
  · rintro i q st hi ⟨_, x9, rfl⟩
    have hi0 : i = 0 := by
      have := (List.getElem?_eq_some_iff.mp hi).1
      rw [List.length_map, List.length_range] at this
      have h1 : ((4 : Int) - 3).toNat = 1 := rfl
      omega
    subst hi0
    have hq : q = .dat (.int 3) := (Option.some.inj hi).symm
    subst hq
    refine ag_name ?_
    walk_at "e"
    refine ao_seqD (ds := [.str "unready", dActs r, dA a, dActs o]) (i := 3) (d := dActs o) rfl rfl ?_
    walk_at "e"
    refine ao_subI ?_
    refine ao_act0 ?_
    walk_at "e"
    refine ⟨(r, o, a.1), rfl, ⟨(by show r.length ≤ 5000000; omega), (by show o.length ≤ 5000000; omega)⟩, fun d hd => ?_⟩
    have hd : d = .bool (decide (view r a.1 = view o a.1)) := hd
    rw [decide_eq_true c.alike.symm] at hd
    subst hd
    refine ⟨_, rfl, fun h => (nomatch h), fun _ => ?_⟩
    walk_at "e"
    refine ao_seqD (ds := [.str "unready", dActs r, dA a, dActs o]) (i := 3) (d := dActs o) rfl rfl ?_
    walk_at "e"
    refine ⟨(T, o, a), rfl, ⟨hT, (by show o.length ≤ 5000000; omega)⟩, fun d hd => ?_⟩
    have hd : d = .bool (T.walk (o ++ [a])).isSome := hd
    rw [hz] at hd
    subst hd
    refine ⟨_, rfl, fun h => (nomatch h), fun _ => ?_⟩
    refine as_next ?_
    exact ⟨Nat.le_refl _, _, rfl⟩
  · rintro st ⟨_, x9, rfl⟩
    show AST P w G _ _ _
    walk_at "e"
    refine ar_lenQ (ds := [.str "unready", dActs r, dA a, dActs o]) rfl ?_
    walk_at "e"
    refine ae_lstD ?_
    walk_at "e"
    refine ⟨[.int 5, .int 4], rfl, size_big (by show 2 ≤ _; decide), ?_⟩
    walk_at "e"
    refine ao_seqD (ds := [.str "unready", dActs r, dA a, dActs o]) (i := 0) (d := .str "unready") rfl rfl ?_
    walk_at "e"
    refine ar_intB ?_
    rw [decide_eq_true rfl]
    refine ao_seqD (ds := [.int 5, .int 4]) (i := 1) (d := .int 4) rfl rfl ?_
    refine ao_eqI (a := 4) (b := 4) ⟨_, rfl, ?_⟩
    show PyData.bool (decide ((4 : Int) = 4)) = .bool true
    rw [decide_eq_true rfl]
/-! ### _law_draw -/
structure Dst where
  sc : List Int
  i : Nat
  cell : Int
  left : Int
  wide : Bool
def Dst.l (x : Dst) : List Rf := [.dat (.list (x.sc.map .int)), .dat (dN x.i), .dat (.int x.cell), .dat (.int x.left), .dat (.bool x.wide), .dat (.int 500)]
def Dst.ct (x : Dst) : Ct := .lst x.l
def aDrw (x : Dst × Nat) : List D := [dN x.2]
def cDrw (x : Dst × Nat) : List Ct := [x.1.ct]
def pDrw (x : Dst × Nat) : Prop := 0 < x.2 ∧ x.2 < 1000000
def qDrw (x : Dst × Nat) (cs : List Ct) (d : D) : Prop := (∃ y : Dst, cs = [y.ct]) ∧ ∃ n, d = dN n ∧ n < x.2
theorem ae_neg {P : Program} {w : World} {G : Hp} {s : AS} {K : Rf → AS → Prop} {t : TE} {f : Int → Int} (h : AE P w G t s fun r s1 => ∃ i, r = .dat (.int i) ∧ K (.dat (.int (f i))) s1) : AE P w G (tUn (rU fun i => .int (f i)) t) s K := by
  intro F0 as F σ H x Q q
  refine h F0 as F σ H x _ fun v H1 F1 as1 r s1 g1 x1 rv ⟨i, e, k⟩ => ?_
  subst e
  have hv : v = V.int i := by cases rv; rfl
  exact ⟨i, hv, q _ H1 F1 as1 _ s1 g1 x1 (RfOk.dat (Den.int _)) k⟩
theorem mod_nat {a : Int} {n : Nat} (h : 0 < n) : ∃ m : Nat, PyData.int (a % (n : Int)) = dN m ∧ m < n := by
  have h1 := Int.emod_nonneg a (show (n : Int) ≠ 0 by omega)
  have h2 := Int.emod_lt_of_pos a (show (0 : Int) < n by omega)
  exact ⟨(a % (n : Int)).toNat, by unfold dN; rw [Int.toNat_of_nonneg h1], by omega⟩
theorem rd__law_draw {K : PySem.W.Frag} {P : Program} {w : World} {N : List Str} (hN : N.length = 5) : ∀ vs H Q E, spGI P w cDrw aDrw pDrw qDrw vs H Q E → t__law_draw K P w { nx := fun _ H' => Q .non H', rt := Q } (L2.start N vs) H := by
  refine fnGI fun G x hx => ⟨by rw [hN]; show 1 + 1 ≤ 5; decide, fun c hc => by rw [List.mem_singleton.mp hc]; exact fun z => (nomatch z), ?_⟩
  rw [hN]
  obtain ⟨x, lim⟩ := x
  obtain ⟨hl0, hl1⟩ := (show 0 < lim ∧ lim < 1000000 from hx)
  show AST P w G (t__law_draw K P w) ⟨[some (.own 0), some (.dat (dN lim)), none, none, none], [x.ct]⟩ _
  unfold t__law_draw
  have fin : ∀ (y : Dst) (x2 : Option Rf), AST P w G (tSeq (tAsg (tOp rSub (tOp (rGet K P w) (tVar 0) (tC (.int 3))) (tC (.int 1))) (gSub (tVar 0) (tC (.int 3)) (rSet P w)))
 (tSeq (tIfS (tB (tOp (rGet K P w) (tVar 0) (tC (.int 4)))) (tSeq (tAsg (tOp rMod (tCB rInt1 (tCons (tOp (rGet K P w) (tVar 0) (tC (.int 2))) tNil)) (tVar 1)) (gName 3))
  (tSeq (tAsg (tOp rFdiv (tOp (rGet K P w) (tVar 0) (tC (.int 2))) (tVar 1)) (gSub (tVar 0) (tC (.int 2)) (rSet P w)))
  (tSeq (tIfS (tTest (tOp (rEqZ K) (tOp (rGet K P w) (tVar 0) (tC (.int 2))) (tC (.int 0)))) (tAsg (tC (.int 0)) (gSub (tVar 0) (tC (.int 3)) (rSet P w))) tNext)
  (tRet (tVar 3))))) tNext)
 (tSeq (tAsg (tOp rMod (tCB rInt1 (tCons (tOp rAdd (tOp rAdd (tOp rMul (tOp (rGet K P w) (tVar 0) (tC (.int 2))) (tC (.int 48271))) (tOp rMul (tOp (rGet K P w) (tVar 0) (tC (.int 3))) (tC (.int 69621)))) (tC (.int 7))) tNil)) (tC (.int 2147483647))) (gName 4))
 (tSeq (tAsg (tOp rMod (tCB rInt1 (tCons (tOp rAdd (tOp rAdd (tOp rMul (tVar 4) (tVar 4)) (tOp rMul (tOp (rGet K P w) (tVar 0) (tC (.int 2))) (tC (.int 31)))) (tOp (rGet K P w) (tVar 0) (tC (.int 3)))) tNil)) (tC (.int 1000003))) (gName 4))
 (tRet (tOp rMod (tCB rInt1 (tCons (tVar 4) tNil)) (tVar 1))))))) ⟨[some (.own 0), some (.dat (dN lim)), x2, none, none], [y.ct]⟩ ⟨fun s => ∃ cs' l, s.m = cs' ++ l ∧ cs'.length = 1 ∧ (∀ c ∈ cs', c ≠ .gone ∧ ctD c = true) ∧ qDrw (x, lim) cs' .none, fun r s => ∃ cs' l d, r = .dat d ∧ s.m = cs' ++ l ∧ cs'.length = 1 ∧ (∀ c ∈ cs', c ≠ .gone ∧ ctD c = true) ∧ qDrw (x, lim) cs' d, fun _ => False, fun _ => False⟩ := by
    intro y x2
    have ret : ∀ (y : Dst) (n : Nat), n < lim → ∃ cs' l d, Rf.dat (dN n) = .dat d ∧ [y.ct] = cs' ++ l ∧ cs'.length = 1 ∧ (∀ c ∈ cs', c ≠ .gone ∧ ctD c = true) ∧ qDrw (x, lim) cs' d := fun y n hn =>
      ⟨[y.ct], [], dN n, rfl, rfl, rfl, fun c hc => by rw [List.mem_singleton.mp hc]; exact ⟨fun z => (nomatch z), rfl⟩, ⟨y, rfl⟩, n, rfl, hn⟩
    refine as_seq (as_asg ?_)
    walk_at "e"
    refine ao_seqO (xs := y.l) (i := 3) (r := .dat (.int y.left)) rfl rfl ?_
    walk_at "e"
    refine ao_subI ?_
    refine ag_sub ?_
    walk_at "e"
    refine aset_lst (xs := y.l) (j := 3) rfl (by show 3 < 6; decide) ?_
    show AST P w G _ ⟨[some (.own 0), some (.dat (dN lim)), x2, none, none], [({ y with left := y.left - 1 } : Dst).ct]⟩ _
    generalize ({ y with left := y.left - 1 } : Dst) = y
    walk_at "e"
    refine ao_seqO (xs := y.l) (i := 4) (r := .dat (.bool y.wide)) rfl rfl ⟨_, rfl, fun hb => ?_, fun hb => ?_⟩
    · walk_at "e"
      refine ao_seqO (xs := y.l) (i := 2) (r := .dat (.int y.cell)) rfl rfl ?_
      walk_at "e"
      refine ar_intI ?_
      walk_at "e"
      refine ao_int (g := fun i j => i % j) (by show (0 : Int) < (lim : Int); omega) ?_
      obtain ⟨n, e, hn⟩ := mod_nat (a := y.cell) hl0
      rw [e]
      refine as_seq (as_asg ?_)
      walk_at "e"
      refine ao_seqO (xs := y.l) (i := 2) (r := .dat (.int y.cell)) rfl rfl ?_
      walk_at "e"
      refine ao_int (g := fun i j => i / j) (by show (0 : Int) < (lim : Int) ∧ (lim : Int) < 1073741824; omega) ?_
      refine ag_sub ?_
      walk_at "e"
      refine aset_lst (xs := y.l) (j := 2) rfl (by show 2 < 6; decide) ?_
      show AST P w G _ ⟨[some (.own 0), some (.dat (dN lim)), x2, some (.dat (dN n)), none], [({ y with cell := y.cell / lim } : Dst).ct]⟩ _
      generalize ({ y with cell := y.cell / lim } : Dst) = y
      walk_at "e"
      refine ao_seqO (xs := y.l) (i := 2) (r := .dat (.int y.cell)) rfl rfl ?_
      walk_at "e"
      refine ⟨_, rfl, fun hb => ?_, fun hb => ?_⟩
      · refine as_asg ?_
        walk_at "e"
        refine ag_sub ?_
        walk_at "e"
        refine aset_lst (xs := y.l) (j := 3) rfl (by show 3 < 6; decide) ?_
        show AST P w G _ ⟨[some (.own 0), some (.dat (dN lim)), x2, some (.dat (dN n)), none], [({ y with left := 0 } : Dst).ct]⟩ _
        walk_at "e"
        exact ret _ n hn
      · refine as_next ?_
        walk_at "e"
        exact ret _ n hn
    · refine as_next ?_
      walk_at "e"
      refine ao_seqO (xs := y.l) (i := 2) (r := .dat (.int y.cell)) rfl rfl ?_
      walk_at "e"
      refine ao_mulI (.inr (by omega)) ?_
      walk_at "e"
      refine ao_seqO (xs := y.l) (i := 3) (r := .dat (.int y.left)) rfl rfl ?_
      walk_at "e"
      refine ao_mulI (.inr (by omega)) ?_
      refine ao_addI ?_
      walk_at "e"
      refine ao_addI ?_
      walk_at "e"
      refine ar_intI ?_
      walk_at "e"
      refine ao_int (g := fun i j => i % j) (by omega) ?_
      obtain ⟨n1, e1, hn1⟩ := mod_nat (a := y.cell * 48271 + y.left * 69621 + 7) (n := 2147483647) (by omega)
      rw [show PyData.int ((y.cell * 48271 + y.left * 69621 + 7) % 2147483647) = dN n1 from e1]
      walk_at "e"
      refine ao_mulI (.inl (by omega)) ?_
      walk_at "e"
      refine ao_seqO (xs := y.l) (i := 2) (r := .dat (.int y.cell)) rfl rfl ?_
      walk_at "e"
      refine ao_mulI (.inr (by omega)) ?_
      refine ao_addI ?_
      walk_at "e"
      refine ao_seqO (xs := y.l) (i := 3) (r := .dat (.int y.left)) rfl rfl ?_
      refine ao_addI ?_
      walk_at "e"
      refine ar_intI ?_
      walk_at "e"
      refine ao_int (g := fun i j => i % j) (by omega) ?_
      walk_at "e"
      refine ar_intI ?_
      walk_at "e"
      refine ao_int (g := fun i j => i % j) (by show (0 : Int) < (lim : Int); omega) ?_
      obtain ⟨n, e, hn⟩ := mod_nat (a := ((n1 : Int) * n1 + y.cell * 31 + y.left) % 1000003) hl0
      rw [e]
      exact ret _ n hn
  refine as_seq ?_
  walk_at "e"
  refine ao_seqO (xs := x.l) (i := 3) (r := .dat (.int x.left)) rfl rfl ?_
  walk_at "e"
  refine ⟨_, rfl, fun hb => ?_, fun hb => ?_⟩
  · have cont : ∀ (c : Int) (K0 : AK), (∀ y : Dst, K0.nx ⟨[some (.own 0), some (.dat (dN lim)), some (.dat (.int c)), none, none], [y.ct]⟩) → AST P w G (tSeq (tAsg (tOp rAdd (tOp (rGet K P w) (tVar 0) (tC (.int 1))) (tC (.int 1))) (gSub (tVar 0) (tC (.int 1)) (rSet P w)))
  (tSeq (tAsg (tVar 2) (gSub (tVar 0) (tC (.int 2)) (rSet P w)))
  (tSeq (tAsg (tOp rGe (tVar 2) (tOp rPow (tC (.int 10)) (tC (.int 18)))) (gSub (tVar 0) (tC (.int 4)) (rSet P w)))
  (tSeq (tAsg (tC (.int 6)) (gSub (tVar 0) (tC (.int 3)) (rSet P w)))
  (tIfS (tB (tOp (rGet K P w) (tVar 0) (tC (.int 4)))) (tAsg (tC (.int 60)) (gSub (tVar 0) (tC (.int 3)) (rSet P w))) tNext))))) ⟨[some (.own 0), some (.dat (dN lim)), some (.dat (.int c)), none, none], [x.ct]⟩ K0 := by
      intro c K0 hK
      refine as_seq (as_asg ?_)
      walk_at "e"
      refine ao_seqO (xs := x.l) (i := 1) (r := .dat (dN x.i)) rfl rfl ?_
      walk_at "e"
      refine ao_addI ?_
      refine ag_sub ?_
      walk_at "e"
      refine aset_lst (xs := x.l) (j := 1) rfl (by show 1 < 6; decide) ?_
      show AST P w G _ ⟨[some (.own 0), some (.dat (dN lim)), some (.dat (.int c)), none, none], [({ x with i := x.i + 1 } : Dst).ct]⟩ _
      generalize ({ x with i := x.i + 1 } : Dst) = y
      refine as_seq (as_asg ?_)
      walk_at "e"
      refine ag_sub ?_
      walk_at "e"
      refine aset_lst (xs := y.l) (j := 2) rfl (by show 2 < 6; decide) ?_
      show AST P w G _ ⟨[some (.own 0), some (.dat (dN lim)), some (.dat (.int c)), none, none], [({ y with cell := c } : Dst).ct]⟩ _
      generalize ({ y with cell := c } : Dst) = y
      refine as_seq (as_asg ?_)
      walk_at "e"
      refine ao_int (g := fun i j => i ^ j.toNat) (by show (0 : Int) ≤ 18 ∧ (18 : Int) ≤ 1000000 ∧ (10 : Int).natAbs < 2 ^ 64; decide) ?_
      refine ao_cmp (g := fun i j => decide (j ≤ i)) ?_
      refine ag_sub ?_
      walk_at "e"
      refine aset_lst (xs := y.l) (j := 4) rfl (by show 4 < 6; decide) ?_
      show AST P w G _ ⟨[some (.own 0), some (.dat (dN lim)), some (.dat (.int c)), none, none], [({ y with wide := decide ((10 : Int) ^ (18 : Int).toNat ≤ c) } : Dst).ct]⟩ _
      generalize ({ y with wide := decide ((10 : Int) ^ (18 : Int).toNat ≤ c) } : Dst) = y
      refine as_seq (as_asg ?_)
      walk_at "e"
      refine ag_sub ?_
      walk_at "e"
      refine aset_lst (xs := y.l) (j := 3) rfl (by show 3 < 6; decide) ?_
      show AST P w G _ ⟨[some (.own 0), some (.dat (dN lim)), some (.dat (.int c)), none, none], [({ y with left := 6 } : Dst).ct]⟩ _
      generalize ({ y with left := 6 } : Dst) = y
      walk_at "e"
      refine ao_seqO (xs := y.l) (i := 4) (r := .dat (.bool y.wide)) rfl rfl ⟨_, rfl, fun hb => ?_, fun hb => ?_⟩
      · refine as_asg ?_
        walk_at "e"
        refine ag_sub ?_
        walk_at "e"
        refine aset_lst (xs := y.l) (j := 3) rfl (by show 3 < 6; decide) ?_
        exact hK { y with left := 60 }
      · refine as_next ?_
        exact hK y
    walk_at "e"
    refine ao_seqO (xs := x.l) (i := 1) (r := .dat (dN x.i)) rfl rfl ?_
    walk_at "e"
    refine ao_seqO (xs := x.l) (i := 0) (r := .dat (.list (x.sc.map .int))) rfl rfl ?_
    walk_at "e"
    refine ar_lenQ (ds := x.sc.map .int) rfl ?_
    walk_at "e"
    refine ao_cmp (g := fun i j => decide (j ≤ i)) ⟨_, rfl, fun hb2 => ?_, fun hb2 => ?_⟩
    · walk_at "e"
      exact ⟨[x.ct], [], dN 0, rfl, rfl, rfl, fun c hc => by rw [List.mem_singleton.mp hc]; exact ⟨fun z => (nomatch z), rfl⟩, ⟨x, rfl⟩, 0, rfl, hl0⟩
    · have hlt : x.i < x.sc.length := by
        have := of_decide_eq_false hb2
        rw [List.length_map] at this
        omega
      obtain ⟨c, hc⟩ : ∃ c, x.sc[x.i]? = some c := ⟨_, List.getElem?_eq_getElem hlt⟩
      walk_at "e"
      refine ao_seqO (xs := x.l) (i := 0) (r := .dat (.list (x.sc.map .int))) rfl rfl ?_
      walk_at "e"
      refine ao_seqO (xs := x.l) (i := 1) (r := .dat (dN x.i)) rfl rfl ?_
      refine ao_seqD (ds := x.sc.map .int) (i := x.i) (d := .int c) rfl (by rw [List.getElem?_map, hc]; rfl) ?_
      walk_at "e"
      refine ao_cmp (g := fun i j => decide (i < j)) ⟨_, rfl, fun hb3 => ?_, fun hb3 => ?_⟩
      · refine as_set (ae_op (ae_neg (ae_int ⟨1, rfl, ae_var rfl (ao_subI ?_)⟩)))
        exact cont _ _ fun y => fin y _
      · refine as_next ?_
        exact cont _ _ fun y => fin y _
  · refine as_next ?_
    exact fin x none
/-! ### texts -/
def chs (z : Str) : List Nat := z.cps.toList
theorem chs_len (z : Str) : z.length = (chs z).length := by unfold chs; rw [Array.length_toList]; rfl
theorem chs_app (a b : Str) : chs (a ++ b) = chs a ++ chs b := by
  show (a.cps ++ b.cps).toList = _
  rw [Array.toList_append]
  rfl
theorem chs_cut (z : Str) (lo hi : Option Int) : ∃ n m, chs (cutS z lo hi) = ((chs z).drop n).take m := ⟨_, _, by unfold chs cutS; exact rfl⟩
theorem chs_inj {a b : Str} (h : chs a = chs b) : a = b := by
  cases a with
  | mk x =>
    cases b with
    | mk y =>
      have : x = y := Array.toList_inj.mp h
      rw [this]
/-- a name: short, without a dot -/
structure Nm (k : Nat) (z : Str) : Prop where
  len : z.length ≤ k
  dot : ∀ c ∈ chs z, c ≠ 46
theorem Nm.app {k l : Nat} {a b : Str} (h : Nm k a) (g : Nm l b) : Nm (k + l) (a ++ b) := by
  refine ⟨?_, fun c hc => ?_⟩
  · rw [chs_len, chs_app, List.length_append, ← chs_len, ← chs_len]
    exact Nat.add_le_add h.len g.len
  · rw [chs_app] at hc
    exact (List.mem_append.mp hc).elim (h.dot c) (g.dot c)
theorem Nm.cut {k : Nat} {a : Str} (h : Nm k a) (lo hi : Option Int) : Nm k (cutS a lo hi) := by
  obtain ⟨n, m, e⟩ := chs_cut a lo hi
  refine ⟨?_, fun c hc => ?_⟩
  · rw [chs_len, e, List.length_take, List.length_drop, ← chs_len]
    have := h.len
    omega
  · rw [e] at hc
    exact h.dot c (List.mem_of_mem_drop (List.mem_of_mem_take hc))
theorem Nm.up {k l : Nat} {a : Str} (h : Nm k a) (g : k ≤ l) : Nm l a := ⟨Nat.le_trans h.len g, h.dot⟩
theorem Nm.one {c : Nat} (h : c ≠ 46) : Nm 1 ⟨#[c]⟩ := ⟨Nat.le_refl _, fun d hd => by
  have : d = c := by simpa [chs] using hd
  rw [this]
  exact h⟩
theorem str_j : ∀ j : Fin 20, chs (Str.ofString (toString ((j.val : Nat) : Int))) = if j.val < 10 then [48 + j.val] else [49, 38 + j.val] := by decide +kernel
/-- the number behind the last q -/
def dec : List Nat → Nat
  | d :: 113 :: _ => d - 48
  | d :: 49 :: 113 :: _ => d - 38
  | _ => 100
theorem dec_j (pre : Str) (j : Nat) (hj : j < 20) : dec (chs (pre ++ "q" ++ Str.ofString (toString (j : Int)))).reverse = j := by
  rw [chs_app, chs_app, str_j ⟨j, hj⟩]
  have hq : chs "q" = [113] := by decide +kernel
  rw [hq]
  by_cases h : j < 10
  · rw [if_pos h]
    simp [dec]
  · rw [if_neg h]
    simp only [List.reverse_append, List.reverse_cons, List.reverse_nil, List.nil_append, List.cons_append]
    rw [dec]
    omega
/-! ### calls of the draw -/
theorem ae_draw {P : Program} {w : World} {G : Hp} {s : AS} {K : Rf → AS → Prop} {tl : TE} {i j : Nat} (hv : s.sl[i]? = some (some (.own j))) (h : AE P w G tl s fun r s1 => ∃ (lim : Nat) (y : Dst), r = .dat (dN lim) ∧ 0 < lim ∧ lim < 1000000 ∧ s1.m[j]? = some y.ct ∧ ∀ (y' : Dst) (n : Nat), n < lim → K (.dat (dN n)) { s1 with m := s1.m.set j y'.ct }) :
    AE P w G (tCall (spGI P w cDrw aDrw pDrw qDrw) [] E0 (tCons (tVar i) (tCons tl tNil))) s K := by
  refine ae_callGI (aa_cons (ae_var hv (aa_cons (h.mono fun r s1 ⟨lim, y, e, h1, h2, hm, k⟩ => aa_nil ⟨(y, lim), [j], by rw [e]; rfl, by simp, .cons ⟨hm, fun z => (nomatch z), rfl⟩ .nil, ⟨h1, h2⟩, fun cs' d hl hq => ?_⟩))))
  obtain ⟨⟨y', rfl⟩, n, rfl, hn⟩ := hq
  exact k y' n hn
/-! ### _law_name -/
theorem ix_first : ∀ i : Fin 26, (chs "abcdefghijklmnopqrstuvwxyz")[i.val]? = some (97 + i.val) := by decide +kernel
theorem ix_other : ∀ i : Fin 36, ∃ c, (chs (("abcdefghijklmnopqrstuvwxyz" : Str) ++ "0123456789"))[i.val]? = some c ∧ c ≠ 46 := by
  have h : ∀ i : Fin 36, (chs (("abcdefghijklmnopqrstuvwxyz" : Str) ++ "0123456789"))[i.val]? = some (if i.val < 26 then 97 + i.val else 22 + i.val) := by decide +kernel
  intro i
  refine ⟨_, h i, ?_⟩
  split <;> omega
theorem mulOk4 (a b c : Nat) : MulOk ⟨#[a, b, c]⟩ 4 := ⟨by decide, fun _ _ => by show ¬ ((3 : Nat) : Int) > (2 ^ 63 - 1) / 4; decide, fun _ _ => rfl⟩
theorem mul4 {a b c : Nat} (h : Nm 3 ⟨#[a, b, c]⟩) : Nm 12 (PySem.Txt.mul ⟨#[a, b, c]⟩ 4) := by
  refine ⟨Nat.le_refl 12, fun d hd => h.dot d ?_⟩
  have hd : d ∈ [a, b, c, a, b, c, a, b, c, a, b, c] := hd
  show d ∈ [a, b, c]
  simp at hd ⊢
  omega
def aNam (_ : Dst) : List D := []
def cNam (x : Dst) : List Ct := [x.ct]
def qNam (_ : Dst) (cs : List Ct) (d : D) : Prop := (∃ y : Dst, cs = [y.ct]) ∧ ∃ z, d = .str z ∧ Nm 14 z
theorem rd__law_name {K : PySem.W.Frag} {P : Program} {w : World} {N : List Str} (hN : N.length = 6) : ∀ vs H Q E, spGI P w cNam aNam (fun _ => True) qNam vs H Q E → t__law_name K P w (spGI P w cDrw aDrw pDrw qDrw) { nx := fun _ H' => Q .non H', rt := Q } (L2.start N vs) H := by
  refine fnGI fun G x hx => ⟨by rw [hN]; show 1 + 0 ≤ 6; decide, fun c hc => by rw [List.mem_singleton.mp hc]; exact fun z => (nomatch z), ?_⟩
  rw [hN]
  show AST P w G (t__law_name K P w _) ⟨[some (.own 0), none, none, none, none, none], [x.ct]⟩ _
  unfold t__law_name
  have ret : ∀ (y : Dst) (z : Str), Nm 14 z → ∃ cs' l d, Rf.dat (.str z) = .dat d ∧ [y.ct] = cs' ++ l ∧ cs'.length = 1 ∧ (∀ c ∈ cs', c ≠ .gone ∧ ctD c = true) ∧ qNam x cs' d := fun y z hz =>
    ⟨[y.ct], [], .str z, rfl, rfl, rfl, fun c hc => by rw [List.mem_singleton.mp hc]; exact ⟨fun z => (nomatch z), rfl⟩, ⟨y, rfl⟩, z, rfl, hz⟩
  walk_at "e"
  refine ao_addS (size_big (by decide +kernel)) ?_
  generalize hO : (("abcdefghijklmnopqrstuvwxyz" : Str) ++ "0123456789") = oth
  have hol : oth.length ≤ sizeLine := by rw [← hO]; exact size_big (by decide +kernel)
  have ho : ∀ i, i < 36 → ∃ c, oth.cps.toList[i]? = some c ∧ c ≠ 46 := fun i hi => by rw [← hO]; exact ix_other ⟨i, hi⟩
  walk_at "e"
  refine ae_draw rfl (ae_int ⟨134784, x, rfl, by omega, by omega, rfl, fun y n hn => ?_⟩)
  walk_at "e"
  refine ao_int (g := fun i j => i / j) (by show (0 : Int) < 4 ∧ (4 : Int) < 1073741824; omega) ?_
  walk_at "e"
  refine ar_intI ?_
  walk_at "e"
  refine ao_int (g := fun i j => i % j) (by omega) ?_
  obtain ⟨i0, e0, hi0⟩ := mod_nat (a := (n : Int) / 4) (n := 26) (by omega)
  rw [show PyData.int ((n : Int) / 4 % 26) = dN i0 from e0]
  refine ao_seqS (i := i0) (size_big (by decide +kernel)) (ix_first ⟨i0, hi0⟩) ?_
  walk_at "e"
  refine ao_int (g := fun i j => i / j) (by show (0 : Int) < 104 ∧ (104 : Int) < 1073741824; omega) ?_
  walk_at "e"
  refine ar_intI ?_
  walk_at "e"
  refine ao_int (g := fun i j => i % j) (by omega) ?_
  obtain ⟨i1, e1, hi1⟩ := mod_nat (a := (n : Int) / 104) (n := 36) (by omega)
  rw [show PyData.int ((n : Int) / 104 % 36) = dN i1 from e1]
  obtain ⟨a, ha, ha46⟩ := ho i1 hi1
  refine ao_seqS (i := i1) hol ha ?_
  walk_at "e"
  refine ao_int (g := fun i j => i / j) (by show (0 : Int) < 3744 ∧ (3744 : Int) < 1073741824; omega) ?_
  walk_at "e"
  refine ar_intI ?_
  walk_at "e"
  refine ao_int (g := fun i j => i % j) (by omega) ?_
  obtain ⟨i2, e2, hi2⟩ := mod_nat (a := (n : Int) / 3744) (n := 36) (by omega)
  rw [show PyData.int ((n : Int) / 3744 % 36) = dN i2 from e2]
  obtain ⟨b, hb, hb46⟩ := ho i2 hi2
  refine ao_seqS (i := i2) hol hb ?_
  refine ao_addS (size_big (by show 1 + 1 ≤ _; decide)) ?_
  walk_at "e"
  refine ar_intI ?_
  walk_at "e"
  refine ao_int (g := fun i j => i % j) (by omega) ?_
  obtain ⟨i3, e3, hi3⟩ := mod_nat (a := (n : Int)) (n := 35) (by omega)
  rw [show PyData.int ((n : Int) % 35) = dN i3 from e3]
  obtain ⟨c, hc, hc46⟩ := ho i3 (by omega)
  refine ao_seqS (i := i3) hol hc ?_
  refine ao_addS (size_big (by show 2 + 1 ≤ _; decide)) ?_
  have hT : Nm 3 ⟨#[a, b, c]⟩ := ⟨Nat.le_refl _, fun d hd => by
    have hd : d ∈ [a, b, c] := hd
    simp at hd
    omega⟩
  have hH : Nm 1 ⟨#[97 + i0]⟩ := Nm.one (by omega)
  have last : ∀ (y : Dst) (z : Str), Nm 13 z → AST P w G (tSeq (tIfS (tTest (tOp (rIn P w false) (tVar 4) (tLst (tCons (tC (.str "pact")) (tCons (tC (.str "end")) (tCons (tC (.str "choice")) (tCons (tC (.str "both")) (tCons (tC (.str "loop")) (tCons (tC (.str "use")) tNil))))))))) (tRet (tOp rAdd (tVar 4) (tC (.str "1")))) tNext)
 (tRet (tVar 4))) ⟨[some (.own 0), some (.dat (.str "abcdefghijklmnopqrstuvwxyz")), some (.dat (.str oth)), some (.dat (dN n)), some (.dat (.str z)), some (.dat (.str ⟨#[a, b, c]⟩))], [y.ct]⟩ ⟨fun _ => False, fun r s => ∃ cs' l d, r = .dat d ∧ s.m = cs' ++ l ∧ cs'.length = 1 ∧ (∀ c ∈ cs', c ≠ .gone ∧ ctD c = true) ∧ qNam x cs' d, fun _ => False, fun _ => False⟩ := by
    intro y z hz
    walk_at "e"
    refine ae_lstD ?_
    walk_at "e"
    refine ⟨(["pact", "end", "choice", "both", "loop", "use"] : List Str).map .str, rfl, size_big (by show 6 ≤ _; decide), ?_⟩
    refine ao_inL (neg := false) (ds := (["pact", "end", "choice", "both", "loop", "use"] : List Str).map .str) rfl (eqOk_strs _ _) ⟨_, rfl, fun _ => ?_, fun _ => ?_⟩
    · walk_at "e"
      refine ao_addS (size_big (by have := hz.len; show _ + 1 ≤ _; omega)) ?_
      exact ret y _ ((hz.app (Nm.one (c := 49) (by omega))).up (by omega))
    · walk_at "e"
      exact ret y z (hz.up (by omega))
  walk_at "e"
  refine ae_draw rfl (ae_int ⟨9, y, rfl, by omega, by omega, rfl, fun y n9 hn9 => ?_⟩)
  walk_at "e"
  refine ao_eqI (a := (n9 : Int)) (b := 8) ⟨_, rfl, fun _ => ?_, fun _ => ?_⟩
  · refine as_set (ae_slS ?_)
    walk_at "e"
    refine ao_mulS (mulOk4 a b c) ?_
    have hM := mul4 hT
    refine ao_addS (size_big (by have := hM.len; show 1 + (PySem.Txt.mul ⟨#[a, b, c]⟩ 4).length ≤ 10000000; omega)) ?_
    refine ⟨_, rfl, size_big (Nat.le_trans (hH.app hM).len (by omega)), aop_none (aop_some ?_)⟩
    walk_at "e"
    refine ae_draw rfl (ae_int ⟨9, y, rfl, by omega, by omega, rfl, fun y n8 hn8 => ?_⟩)
    refine ao_addI ⟨_, rfl, ?_⟩
    exact (last y _ ((hH.app hM).cut _ _)).mono (fun _ h => h.elim) (fun _ _ h => h) (fun _ h => h.elim) (fun _ h => h.elim)
  · refine as_set (ae_op (ae_var rfl (ae_slS ?_)))
    walk_at "e"
    refine ⟨_, rfl, size_big (Nat.le_trans hT.len (by omega)), aop_none (aop_some ?_)⟩
    walk_at "e"
    refine ar_intI ?_
    walk_at "e"
    refine ao_int (g := fun i j => i % j) (by omega) ⟨_, rfl, ?_⟩
    refine ao_addS (size_big (by have := (hT.cut none (some ((n : Int) % 4))).len; show 1 + (cutS ⟨#[a, b, c]⟩ none (some ((n : Int) % 4))).length ≤ 10000000; omega)) ?_
    exact (last y _ ((hH.app (hT.cut _ _)).up (by omega))).mono (fun _ h => h.elim) (fun _ _ h => h) (fun _ h => h.elim) (fun _ h => h.elim)
/-! ### _law_names -/
theorem cut9 (z : Str) : (cutS z none (some 9)).length ≤ 9 := by
  have e : chs (cutS z none (some 9)) = ((chs z).drop (HT.sIx z.length 0 none)).take (HT.sIx z.length z.length (some 9) - HT.sIx z.length 0 none) := rfl
  rw [chs_len, e, List.length_take]
  have : HT.sIx z.length z.length (some 9) ≤ 9 := by
    unfold HT.sIx
    simp only []
    split <;> omega
  omega
theorem Nm.cut9 {k : Nat} {z : Str} (h : Nm k z) : Nm 9 (cutS z none (some 9)) := ⟨N.cut9 z, (h.cut none (some 9)).dot⟩
def aNms (x : Dst × Nat) : List D := [dN x.2, .list []]
def cNms (x : Dst × Nat) : List Ct := [x.1.ct]
def pNms (x : Dst × Nat) : Prop := x.2 ≤ 5
def qNms (x : Dst × Nat) (cs : List Ct) (d : D) : Prop := (∃ y : Dst, cs = [y.ct]) ∧ ∃ l, d = dSs l ∧ l.length = x.2 ∧ l.Nodup ∧ ∀ z ∈ l, Nm 14 z
/-- the tries so far all met taken names -/
def Tried (l : List Str) (j : Nat) (z : Str) : Prop := ∃ f : Nat → Str, (∀ i, i < j → dec (chs (f i)).reverse = i) ∧ (∀ i, i + 1 < j → f i ∈ l) ∧ (0 < j → z = f (j - 1))
theorem tried_end {l : List Str} (hl : l.length ≤ 5) {z : Str} (h : z ∉ l ∨ Tried l 20 z) : z ∉ l := by
  rcases h with h | ⟨f, h1, h2, h3⟩
  · exact h
  · intro hz
    have h4 : ∀ i, i < 20 → f i ∈ l := fun i hi => by
      by_cases q : i + 1 < 20
      · exact h2 i q
      · have : i = 19 := by omega
        rw [this, ← h3 (by omega)]
        exact hz
    have nd : ((List.range 20).map f).Nodup := by
      refine List.pairwise_map.mpr (List.Pairwise.imp_of_mem (fun {a b} ha hb hab e => hab ?_) List.nodup_range)
      rw [← h1 a (List.mem_range.mp ha), ← h1 b (List.mem_range.mp hb), e]
    have := nodup_sub nd (m := l) fun x hx => by
      obtain ⟨i, hi, rfl⟩ := List.mem_map.mp hx
      exact h4 i (List.mem_range.mp hi)
    rw [List.length_map, List.length_range] at this
    omega
theorem tried_next {l : List Str} {j : Nat} {z z' : Str} (hz : z ∈ l) (h : z ∉ l ∨ Tried l j z) (hd : dec (chs z').reverse = j) : Tried l (j + 1) z' := by
  rcases h with h | ⟨f, h1, h2, h3⟩
  · exact absurd hz h
  · refine ⟨fun i => if i = j then z' else f i, fun i hi => ?_, fun i hi => ?_, fun _ => ?_⟩
    · show dec (chs (if i = j then z' else f i)).reverse = i
      by_cases q : i = j
      · rw [if_pos q, hd, q]
      · rw [if_neg q]
        exact h1 i (by omega)
    · have q : ¬ i = j := by omega
      show (if i = j then z' else f i) ∈ l
      rw [if_neg q]
      by_cases q2 : i + 1 < j
      · exact h2 i q2
      · have : i = j - 1 := by omega
        rw [this, ← h3 (by omega)]
        exact hz
    · show z' = if j + 1 - 1 = j then z' else _
      rw [if_pos (by omega)]
theorem ae_name {P : Program} {w : World} {G : Hp} {s : AS} {K : Rf → AS → Prop} {i j : Nat} {y : Dst} (hv : s.sl[i]? = some (some (.own j))) (hm : s.m[j]? = some y.ct) (k : ∀ (y' : Dst) (z : Str), Nm 14 z → K (.dat (.str z)) { s with m := s.m.set j y'.ct }) :
    AE P w G (tCall (spGI P w cNam aNam (fun _ => True) qNam) [] E0 (tCons (tVar i) tNil)) s K := by
  refine ae_callGI (aa_cons (ae_var hv (aa_nil ⟨y, [j], rfl, by simp, .cons ⟨hm, fun z => (nomatch z), rfl⟩ .nil, True.intro, fun cs' d hl hq => ?_⟩)))
  obtain ⟨⟨y', rfl⟩, z, rfl, hz⟩ := hq
  exact k y' z hz
theorem rd__law_names {K : PySem.W.Frag} {P : Program} {w : World} {N : List Str} (hN : N.length = 7) : ∀ vs H Q E, spGI P w cNms aNms pNms qNms vs H Q E → t__law_names K P w (spGI P w cNam aNam (fun _ => True) qNam) { nx := fun _ H' => Q .non H', rt := Q } (L2.start N vs) H := by
  refine fnGI fun G x hx => ⟨by rw [hN]; show 1 + 2 ≤ 7; decide, fun c hc => by rw [List.mem_singleton.mp hc]; exact fun z => (nomatch z), ?_⟩
  rw [hN]
  obtain ⟨x, cnt⟩ := x
  have hc5 : cnt ≤ 5 := hx
  show AST P w G (t__law_names K P w _) ⟨[some (.own 0), some (.dat (dN cnt)), some (.dat (.list [])), none, none, none, none], [x.ct]⟩ _
  unfold t__law_names
  walk_at "e"
  refine ae_lst ?_
  walk_at "e"
  refine ⟨Nat.zero_le _, ?_⟩
  refine as_seq (as_forR ?_)
  walk_at "e"
  refine ⟨cnt, rfl, by omega, fun i st => ∃ (y : Dst) (l : List Str) (x4 x5 x6 : Option Rf), st = ⟨[some (.own 0), some (.dat (dN cnt)), some (.dat (.list [])), some (.own 1), x4, x5, x6], [y.ct, .lst ((l.map .str).map .dat)]⟩ ∧ l.length = i ∧ l.Nodup ∧ ∀ z ∈ l, Nm 14 z, ⟨x, [], none, none, none, rfl, rfl, List.nodup_nil, fun z h => (nomatch h)⟩, ?_, ?_⟩
  · rintro i st hi ⟨y, l, x4, x5, x6, rfl, hl, nd, hnm⟩
    refine ag_name ?_
    walk_at "e"
    refine ae_name (y := y) rfl rfl fun y z hz => ?_
    refine as_seq (as_forR ?_)
    walk_at "e"
    refine ⟨20, rfl, by omega, fun j st => ∃ (z : Str) (x6 : Option Rf), st = ⟨[some (.own 0), some (.dat (dN cnt)), some (.dat (.list [])), some (.own 1), some (.dat (dN i)), some (.dat (.str z)), x6], [y.ct, .lst ((l.map .str).map .dat)]⟩ ∧ Nm 14 z ∧ (z ∉ l ∨ Tried l j z), ⟨z, x6, rfl, hz, .inr ⟨fun _ => z, fun i h => absurd h (by omega), fun i h => absurd h (by omega), fun h => absurd h (by omega)⟩⟩, ?_, ?_⟩
    · rintro j st hj ⟨z, x6, rfl, hz, ht⟩
      have skip : z ∉ l → (z ∉ l ∨ Tried l (j + 1) z) := fun h => .inl h
      refine ag_name ?_
      walk_at "e"
      refine ao_inL (neg := false) (ds := l.map .str) rfl (eqOk_strs _ _) ⟨_, rfl, fun hb => ⟨fun _ => ?_, fun h => (nomatch h)⟩, fun hb => ?_⟩
      · rw [any_str] at hb
        have hzl : z ∈ l := by simpa using hb
        refine as_set ?_
        walk_at "e"
        refine ae_slS ?_
        walk_at "e"
        refine ⟨_, rfl, size_big (Nat.le_trans hz.len (by omega)), aop_none (aop_some (ae_int ⟨9, rfl, ?_⟩))⟩
        walk_at "e"
        have h9 := hz.cut9
        refine ao_addS (size_big (by have := h9.len; show _ + 1 ≤ 10000000; omega)) ?_
        walk_at "e"
        refine ar_strI (by show (Int.natAbs (j : Int)).log2 < 1920; exact Nat.lt_of_le_of_lt (Nat.log2_le_self _) (by rw [Int.natAbs_natCast]; omega)) ?_
        have hs := str_j ⟨j, hj⟩
        have hsj : Nm 2 (Str.ofString (toString (j : Int))) := by
          refine ⟨?_, fun c hc => ?_⟩
          · rw [chs_len, hs]
            split <;> simp
          · rw [hs] at hc
            split at hc
            · have := List.mem_singleton.mp hc
              omega
            · have hge : ¬ j < 10 := by assumption
              rcases List.mem_cons.mp hc with h | h
              · omega
              · have h := List.mem_singleton.mp h
                have h : c = 38 + j := h
                omega
        have hq : Nm 1 "q" := ⟨by decide +kernel, by decide +kernel⟩
        have hall := (h9.app hq).app hsj
        refine ao_addS (size_big (by have := (h9.app hq).len; have := hsj.len; omega)) ?_
        exact ⟨_, some (.dat (dN j)), rfl, hall.up (by omega), .inr (tried_next hzl ht (dec_j _ j hj))⟩
      · rw [any_str] at hb
        have hzl : z ∉ l := by simpa using hb
        walk_at "e"
        refine ao_inL (neg := false) (ds := []) rfl (fun e h => (nomatch h)) ⟨_, rfl, fun h => (nomatch h), fun _ => ?_⟩
        refine as_next ?_
        exact ⟨z, some (.dat (dN j)), rfl, hz, .inl hzl⟩
    · rintro st ⟨z, x6, rfl, hz, ht⟩
      have hzl := tried_end (by omega) ht
      show AST P w G _ _ _
      walk_at "e"
      refine ae_append ?_
      walk_at "e"
      refine ⟨1, rfl, ⟨_, rfl⟩, ?_⟩
      walk_at "e"
      refine ⟨_, _, rfl, rfl, size_lt (by rw [List.length_map, List.length_map]; omega), y, l ++ [z], some (.dat (dN i)), some (.dat (.str z)), x6, ?_, by rw [List.length_append, hl]; rfl, List.nodup_append.mpr ⟨nd, by simp, fun a ha b hb => by rw [List.mem_singleton.mp hb]; exact fun e => hzl (e ▸ ha)⟩, fun z' hz' => ?_⟩
      · rw [md_snoc]
        rfl
      · rcases List.mem_append.mp hz' with h | h
        · exact hnm z' h
        · rw [List.mem_singleton.mp h]
          exact hz
  · rintro st ⟨y, l, x4, x5, x6, rfl, hl, nd, hnm⟩
    show AST P w G _ _ _
    refine as_frz 1 (l.map .str) rfl ?_
    walk_at "e"
    exact ⟨[y.ct], _, dSs l, rfl, rfl, rfl, fun c hc => by rw [List.mem_singleton.mp hc]; exact ⟨fun z => (nomatch z), rfl⟩, ⟨y, rfl⟩, l, rfl, hl, nd, hnm⟩
/-! ### _law_edge -/
structure Row where
  F : List Act
  g : Act → Nat
def Row.ct (R : Row) : Ct := .dn (R.F.map fun a => (dA a, Rf.dat (dN (R.g a))))
structure Row.Ok (R : Row) (ps ls : List Str) (n : Nat) : Prop where
  nd : R.F.Nodup
  act : ∀ a ∈ R.F, a.1 ∈ ps ∧ a.2.1 ∈ ps ∧ a.1 ≠ a.2.1 ∧ a.2.2 ∈ ls
  lt : ∀ a ∈ R.F, R.g a < n
structure EdX where
  x : Dst
  R : Row
  ps : List Str
  ls : List Str
  n : Nat
  g : Nat
def cEd (x : EdX) : List Ct := [x.x.ct, x.R.ct]
def aEd (x : EdX) : List D := [dSs x.ps, dSs x.ls, dN x.g]
structure PsOk (ps ls : List Str) : Prop where
  p2 : 2 ≤ ps.length
  p5 : ps.length ≤ 5
  pnd : ps.Nodup
  l1 : 1 ≤ ls.length
  l5 : ls.length ≤ 5
structure pEd (x : EdX) : Prop where
  ok : x.R.Ok x.ps x.ls x.n
  len : x.R.F.length ≤ 1000
  ps : PsOk x.ps x.ls
  g : x.g < x.n
def qEd (x : EdX) (cs : List Ct) (_ : D) : Prop := ∃ (y : Dst) (R : Row), cs = [y.ct, R.ct] ∧ R.Ok x.ps x.ls x.n ∧ R.F.length ≤ x.R.F.length + 1
theorem len_strs (l : List Str) : PyData.int ((l.map PyData.str).length : Nat) = dN l.length := by rw [List.length_map]; rfl
theorem taker_ne {n s d : Nat} (hs : s < n) (hd : d < n - 1) : (s + 1 + d) % n ≠ s := by
  by_cases h : s + 1 + d < n
  · rw [Nat.mod_eq_of_lt h]
    omega
  · rw [Nat.mod_eq_sub_mod (by omega), Nat.mod_eq_of_lt (by omega)]
    omega
theorem row_isSome (R : Row) (a : Act) : (lookN (R.F.map fun a => (dA a, Rf.dat (dN (R.g a)))) (dA a)).isSome = decide (a ∈ R.F) := by
  rw [lookN_map dA_key]
  by_cases h : a ∈ R.F <;> simp [h]
theorem rowct_D (R : Row) : ctD R.ct = true := by
  show (R.F.map fun a => (dA a, Rf.dat (dN (R.g a)))).all (fun p => rfD p.2) = true
  rw [List.all_map, List.all_eq_true]
  intro p _
  rfl
theorem rd__law_edge {K : PySem.W.Frag} {P : Program} {w : World} {N : List Str} (hN : N.length = 9) : ∀ vs H Q E, spGI P w cEd aEd pEd qEd vs H Q E → t__law_edge K P w (spGI P w cDrw aDrw pDrw qDrw) { nx := fun _ H' => Q .non H', rt := Q } (L2.start N vs) H := by
  refine fnGI fun G x hx => ⟨by rw [hN]; show 2 + 3 ≤ 9; decide, fun c hc => by
    rcases List.mem_cons.mp hc with rfl | hc
    · exact fun z => (nomatch z)
    · rw [List.mem_singleton.mp hc]; exact fun z => (nomatch z), ?_⟩
  rw [hN]
  obtain ⟨x, R, ps, ls, n, g⟩ := x
  obtain ⟨ok, hlen, ⟨hp2, hp5, hpn, hl1, hl5⟩, hg⟩ := hx
  dsimp only at ok hlen hp2 hp5 hpn hl1 hl5 hg
  show AST P w G (t__law_edge K P w _) ⟨[some (.own 0), some (.own 1), some (.dat (dSs ps)), some (.dat (dSs ls)), some (.dat (dN g)), none, none, none, none], [x.ct, R.ct]⟩ _
  unfold t__law_edge
  walk_at "e"
  refine ae_draw rfl ?_
  walk_at "e"
  refine ar_lenQ (ds := ps.map .str) rfl ⟨ps.length, x, congrArg Rf.dat (len_strs ps), by omega, by omega, rfl, fun y s hs => ?_⟩
  walk_at "e"
  refine ao_addI ?_
  refine ae_draw rfl ?_
  walk_at "e"
  refine ar_lenQ (ds := ps.map .str) rfl ?_
  refine ae_int ?_
  refine ao_subI ⟨ps.length - 1, y, ?_, by omega, by omega, rfl, fun y d hd => ?_⟩
  · rw [List.length_map]
    unfold dN
    rw [Int.natCast_sub (by omega)]
    rfl
  refine ao_addI ?_
  walk_at "e"
  refine ar_intI ?_
  walk_at "e"
  refine ar_lenQ (ds := ps.map .str) rfl ?_
  refine ao_int (g := fun i j => i % j) (by rw [List.length_map]; omega) ?_
  have hne := taker_ne hs hd
  have htl : (s + 1 + d) % ps.length < ps.length := Nat.mod_lt _ (by omega)
  have htk : PyData.int (((s : Int) + 1 + d) % ((ps.map PyData.str).length : Nat)) = dN ((s + 1 + d) % ps.length) := by
    unfold dN
    rw [List.length_map, Int.natCast_emod, Int.natCast_add, Int.natCast_add]
    rfl
  rw [htk]
  generalize (s + 1 + d) % ps.length = t at hne htl
  obtain ⟨p, hp⟩ : ∃ p, ps[s]? = some p := ⟨_, List.getElem?_eq_getElem hs⟩
  obtain ⟨q, hq⟩ : ∃ p, ps[t]? = some p := ⟨_, List.getElem?_eq_getElem htl⟩
  have hpq : p ≠ q := fun e => by
    subst e
    obtain ⟨i1, e1⟩ := List.getElem?_eq_some_iff.mp hp
    obtain ⟨i2, e2⟩ := List.getElem?_eq_some_iff.mp hq
    exact hne ((List.getElem_inj hpn).mp (e2.trans e1.symm))
  refine as_seq (as_set (ae_tup ?_))
  walk_at "e"
  refine ao_seqD (ds := ps.map .str) (i := s) (d := .str p) rfl (by rw [List.getElem?_map, hp]; rfl) ?_
  walk_at "e"
  refine ao_seqD (ds := ps.map .str) (i := t) (d := .str q) rfl (by rw [List.getElem?_map, hq]; rfl) ?_
  walk_at "e"
  refine ae_draw rfl ?_
  walk_at "e"
  refine ar_lenQ (ds := ls.map .str) rfl ⟨ls.length, y, congrArg Rf.dat (len_strs ls), by omega, by omega, rfl, fun y u hu => ?_⟩
  obtain ⟨l, hl⟩ : ∃ p, ls[u]? = some p := ⟨_, List.getElem?_eq_getElem hu⟩
  refine ao_seqD (ds := ls.map .str) (i := u) (d := .str l) rfl (by rw [List.getElem?_map, hl]; rfl) ?_
  walk_at "e"
  refine ⟨_, rfl, size_big (by show 3 ≤ _; decide), ?_⟩
  show AST P w G _ ⟨[some (.own 0), some (.own 1), some (.dat (dSs ps)), some (.dat (dSs ls)), some (.dat (dN g)), some (.dat (dN s)), some (.dat (dN t)), some (.dat (dA (p, q, l))), none], [y.ct, R.ct]⟩ _
  have hpm := List.mem_of_getElem? hp
  have hqm := List.mem_of_getElem? hq
  refine as_seq (as_forL (α := Str) ?_)
  walk_at "e"
  refine ⟨ls, .str, rfl, fun i st => ∃ l x8, st = ⟨[some (.own 0), some (.own 1), some (.dat (dSs ps)), some (.dat (dSs ls)), some (.dat (dN g)), some (.dat (dN s)), some (.dat (dN t)), some (.dat (dA (p, q, l))), x8], [y.ct, R.ct]⟩ ∧ l ∈ ls, ⟨l, _, rfl, List.mem_of_getElem? hl⟩, ?_, ?_⟩
  · rintro i m st hm ⟨l, x8, rfl, hll⟩
    refine ag_name ?_
    walk_at "e"
    refine ao_inN (neg := false) (kvs := R.F.map fun a => (dA a, Rf.dat (dN (R.g a)))) (.inl rfl) (kd_ok (kd_dA (p, q, l)) (by omega)) ⟨_, rfl, fun hb => ?_, fun hb => ?_⟩
    · refine as_set (ae_tup ?_)
      walk_at "e"
      exact ⟨_, rfl, size_big (by show 3 ≤ _; decide), m, _, rfl, List.mem_of_getElem? hm⟩
    · walk_at "e"
      exact ⟨l, _, rfl, hll⟩
  · rintro st ⟨l, x8, rfl, hll⟩
    show AST P w G _ _ _
    walk_at "e"
    have hrl : (R.F.map fun a => (dA a, Rf.dat (dN (R.g a)))).length < sizeLine := size_lt (by rw [List.length_map]; omega)
    refine ao_inN (neg := true) (kvs := R.F.map fun a => (dA a, Rf.dat (dN (R.g a)))) (.inl rfl) (kd_ok (kd_dA (p, q, l)) (by omega)) ⟨_, rfl, fun hb => ?_, fun hb => ?_⟩
    · have hni : (p, q, l) ∉ R.F := by
        have hb : (!(lookN (R.F.map fun a => (dA a, Rf.dat (dN (R.g a)))) (dA (p, q, l))).isSome) = true := hb
        rw [row_isSome] at hb
        simpa using hb
      refine as_asg (ae_var rfl (ag_sub (ae_var rfl (ae_var rfl (aset_dn (kvs := R.F.map fun a => (dA a, Rf.dat (dN (R.g a)))) rfl (kd_ok (kd_dA (p, q, l)) (by omega)) hrl ?_)))))
      have hput := putN_new (f := dA) dA_key (fun a => Rf.dat (dN (if a = (p, q, l) then g else R.g a))) hni
      have hsame : R.F.map (fun a => (dA a, Rf.dat (dN (if a = (p, q, l) then g else R.g a)))) = R.F.map fun a => (dA a, Rf.dat (dN (R.g a))) := List.map_congr_left fun a ha => by
        have hne : ¬ a = (p, q, l) := fun z => hni (z ▸ ha)
        show (dA a, Rf.dat (dN (if a = (p, q, l) then g else R.g a))) = _
        rw [if_neg hne]
      rw [hsame, if_pos rfl] at hput
      refine ⟨[y.ct, (Row.mk (R.F ++ [(p, q, l)]) (fun a => if a = (p, q, l) then g else R.g a)).ct], [], ?_, rfl, ?_, y, _, rfl, ⟨?_, ?_, ?_⟩, ?_⟩
      · show [y.ct, Ct.dn (putN _ (dA (p, q, l)) _)] = _
        rw [hput]
        rfl
      · intro c hc
        rcases List.mem_cons.mp hc with rfl | hc
        · exact ⟨fun z => (nomatch z), rfl⟩
        · rw [List.mem_singleton.mp hc]
          exact ⟨fun z => (nomatch z), rowct_D _⟩
      · exact List.nodup_append.mpr ⟨ok.nd, by simp, fun a ha b hb => by rw [List.mem_singleton.mp hb]; exact fun z => hni (z ▸ ha)⟩
      · intro a ha
        rcases List.mem_append.mp ha with ha | ha
        · exact ok.act a ha
        · rw [List.mem_singleton.mp ha]
          exact ⟨hpm, hqm, hpq, hll⟩
      · intro a ha
        show (if a = (p, q, l) then g else R.g a) < n
        rcases List.mem_append.mp ha with ha | ha
        · have hne : ¬ a = (p, q, l) := fun z => hni (z ▸ ha)
          rw [if_neg hne]
          exact ok.lt a ha
        · rw [if_pos (List.mem_singleton.mp ha)]
          exact hg
      · show (R.F ++ [(p, q, l)]).length ≤ _
        rw [List.length_append]
        exact Nat.le_refl _
    · walk_at "e"
      refine ⟨[y.ct, R.ct], [], rfl, rfl, ?_, y, R, rfl, ok, Nat.le_succ _⟩
      intro c hc
      rcases List.mem_cons.mp hc with rfl | hc
      · exact ⟨fun z => (nomatch z), rfl⟩
      · rw [List.mem_singleton.mp hc]
        exact ⟨fun z => (nomatch z), rowct_D _⟩
/-! ### _law_table -/
def tot (Rs : List Row) : Nat := (Rs.map fun R => R.F.length).sum
theorem tot_set : ∀ {Rs : List Row} {k : Nat} {R R' : Row}, Rs[k]? = some R → R'.F.length ≤ R.F.length + 1 → tot (Rs.set k R') ≤ tot Rs + 1
  | [], _, _, _, h, _ => by simp at h
  | X :: Rs, 0, R, R', h, hl => by
    have h : X = R := by simpa using h
    subst h
    simp [tot]
    omega
  | X :: Rs, k + 1, R, R', h, hl => by
    have := tot_set (Rs := Rs) (k := k) (R := R) (R' := R') (by simpa using h) hl
    simp [tot] at *
    omega
theorem tot_mem : ∀ {Rs : List Row} {R : Row}, R ∈ Rs → R.F.length ≤ tot Rs
  | X :: Rs, R, h => by
    rcases List.mem_cons.mp h with rfl | h
    · simp [tot]
    · have := tot_mem h
      simp [tot] at *
      omega
structure RsOk (ps ls : List Str) (n t : Nat) (Rs : List Row) : Prop where
  len : Rs.length = n
  ok : ∀ R ∈ Rs, R.Ok ps ls n
  tot : tot Rs ≤ t
theorem RsOk.set {ps ls : List Str} {n t k : Nat} {Rs : List Row} {R R' : Row} (h : RsOk ps ls n t Rs) (hk : Rs[k]? = some R) (ok : R'.Ok ps ls n) (hl : R'.F.length ≤ R.F.length + 1) : RsOk ps ls n (t + 1) (Rs.set k R') :=
  ⟨by rw [List.length_set]; exact h.len, fun X hX => by
    rcases List.mem_or_eq_of_mem_set hX with hX | rfl
    · exact h.ok X hX
    · exact ok, Nat.le_trans (tot_set hk hl) (Nat.add_le_add_right h.tot 1)⟩
def mT (n : Nat) (y : Dst) (Rs : List Row) : List Ct := y.ct :: .lst ((List.range n).map fun j => .own (j + 2)) :: Rs.map Row.ct
theorem mT_row {n k : Nat} {y : Dst} {Rs : List Row} {R : Row} (l : List Ct) (h : Rs[k]? = some R) : (mT n y Rs ++ l)[k + 2]? = some R.ct := by
  show (Rs.map Row.ct ++ l)[k]? = _
  have hk := (List.getElem?_eq_some_iff.mp h).1
  rw [List.getElem?_append_left (by rw [List.length_map]; exact hk), List.getElem?_map, h]
  rfl
theorem mT_get {n : Nat} {y : Dst} {Rs : List Row} {c : Ct} (h : Rs.length = n) : (mT n y Rs ++ [c])[n + 2]? = some c := by
  show (Rs.map Row.ct ++ [c])[n]? = _
  rw [List.getElem?_append_right (by rw [List.length_map, h]; exact Nat.le_refl _), List.length_map, h, Nat.sub_self]
  rfl
theorem mT_set {n : Nat} {y : Dst} {Rs : List Row} {c c' : Ct} (h : Rs.length = n) : (mT n y Rs ++ [c]).set (n + 2) c' = mT n y Rs ++ [c'] := by
  show y.ct :: _ :: (Rs.map Row.ct ++ [c]).set n c' = y.ct :: _ :: (Rs.map Row.ct ++ [c'])
  rw [List.set_append_right n c' (by rw [List.length_map, h]; exact Nat.le_refl _), List.length_map, h, Nat.sub_self]
  rfl
theorem mT_len {n : Nat} {y : Dst} {Rs : List Row} (h : Rs.length = n) : (mT n y Rs).length = n + 2 := by
  show (Rs.map Row.ct).length + 2 = _
  rw [List.length_map, h]
theorem ae_edge {P : Program} {w : World} {G : Hp} {s : AS} {K : Rf → AS → Prop} {ta : TA} {ps ls : List Str} {n t : Nat} (hps : PsOk ps ls) (ht : t ≤ 900) (h : AA P w G ta s fun xs s1 => ∃ (k g : Nat) (y : Dst) (Rs : List Row), xs = [.own 0, .own (k + 2), .dat (dSs ps), .dat (dSs ls), .dat (dN g)] ∧ s1.m = mT n y Rs ∧ RsOk ps ls n t Rs ∧ k < n ∧ g < n ∧ ∀ (y' : Dst) (Rs' : List Row) (d : D), RsOk ps ls n (t + 1) Rs' → K (.dat d) ⟨s1.sl, mT n y' Rs'⟩) :
    AE P w G (tCall (spGI P w cEd aEd pEd qEd) [] E0 ta) s K := by
  refine ae_callGI (h.mono fun xs s1 ⟨k, g, y, Rs, e, em, ok, hk, hg, kk⟩ => ?_)
  obtain ⟨R, hR⟩ : ∃ R, Rs[k]? = some R := ⟨_, List.getElem?_eq_getElem (by rw [ok.len]; exact hk)⟩
  have hRm := List.mem_of_getElem? hR
  refine ⟨⟨y, R, ps, ls, n, g⟩, [0, k + 2], e, ?_, .cons ⟨by rw [em]; rfl, fun z => (nomatch z), rfl⟩ (.cons ⟨?_, fun z => (nomatch z), rowct_D R⟩ .nil), ⟨ok.ok R hRm, ?_, hps, hg⟩, fun cs' d hl hq => ?_⟩
  · simp
  · have := mT_row (n := n) (y := y) [] hR
    rw [List.append_nil] at this
    rw [em]
    exact this
  · have := tot_mem hRm
    have := ok.tot
    show R.F.length ≤ 1000
    omega
  · obtain ⟨y', R', rfl, ok', hl'⟩ := hq
    have := kk y' (Rs.set k R') d (ok.set hR ok' hl')
    have e2 : setL s1.m [0, k + 2] [y'.ct, R'.ct] = mT n y' (Rs.set k R') := by
      rw [em]
      show y'.ct :: _ :: (Rs.map Row.ct).set k R'.ct = y'.ct :: _ :: (Rs.set k R').map Row.ct
      rw [List.map_set]
    rw [e2]
    exact this
structure TbX where
  x : Dst
  ps : List Str
  ls : List Str
  n : Nat
def cTb (x : TbX) : List Ct := [x.x.ct]
def aTb (x : TbX) : List D := [dSs x.ps, dSs x.ls, dN x.n]
structure pTb (x : TbX) : Prop where
  ps : PsOk x.ps x.ls
  pos : 0 < x.n
  le : x.n ≤ 6
structure Drawn (ps ls : List Str) (n : Nat) (T : Tab) : Prop where
  size : T.n = n
  ends : T.ends.length = n
  nd : ∀ r ∈ T.rows, (r.map (·.1)).Nodup
  act : ∀ r ∈ T.rows, ∀ e ∈ r, (e.1.1 ∈ ps ∧ e.1.2.1 ∈ ps ∧ e.1.1 ≠ e.1.2.1 ∧ e.1.2.2 ∈ ls) ∧ e.2 < n
  tot : T.acts.length ≤ 3 * n
def qTb (x : TbX) (cs : List Ct) (d : D) : Prop := (∃ y : Dst, cs = [y.ct]) ∧ ∃ T, d = dT T ∧ Drawn x.ps x.ls x.n T
def rowT (R : Row) : List (Act × Nat) := (srtA R.F).map fun a => (a, R.g a)
theorem rowT_len (R : Row) : (rowT R).length = R.F.length := by
  unfold rowT
  rw [List.length_map, (srtA_perm R.F).length_eq]
theorem drawn_of {ps ls : List Str} {n t : Nat} {Rs : List Row} {es : List Bool} (h : RsOk ps ls n t Rs) (ht : t ≤ 3 * n) (he : es.length = n) : Drawn ps ls n ⟨Rs.map rowT, es⟩ := by
  refine ⟨(List.length_map ..).trans h.len, he, fun r hr => ?_, fun r hr e hre => ?_, ?_⟩
  · obtain ⟨R, hR, rfl⟩ := List.mem_map.mp hr
    have : (rowT R).map (·.1) = srtA R.F := by
      unfold rowT
      rw [List.map_map]
      exact List.map_id' _
    rw [this]
    exact (srtA_perm R.F).nodup_iff.mpr (h.ok R hR).nd
  · obtain ⟨R, hR, rfl⟩ := List.mem_map.mp hr
    obtain ⟨a, ha, rfl⟩ := List.mem_map.mp hre
    have ha := (srtA_perm R.F).mem_iff.mp ha
    exact ⟨(h.ok R hR).act a ha, (h.ok R hR).lt a ha⟩
  · have : (Tab.acts ⟨Rs.map rowT, es⟩).length = tot Rs := by
      unfold Tab.acts tot
      rw [List.length_flatMap, List.map_map]
      congr 1
      apply List.map_congr_left
      intro R _
      show ((rowT R).map (·.1)).length = _
      rw [List.length_map, rowT_len]
    rw [this]
    exact Nat.le_trans h.tot ht
theorem rd__law_table {K : PySem.W.Frag} {P : Program} {w : World} {N : List Str} (hN : N.length = 9) : ∀ vs H Q E, spGI P w cTb aTb pTb qTb vs H Q E → t__law_table K P w (spGI P w cDrw aDrw pDrw qDrw) (spGI P w cEd aEd pEd qEd) { nx := fun _ H' => Q .non H', rt := Q } (L2.start N vs) H := by
  refine fnGI fun G x hx => ⟨by rw [hN]; show 1 + 3 ≤ 9; decide, fun c hc => by rw [List.mem_singleton.mp hc]; exact fun z => (nomatch z), ?_⟩
  rw [hN]
  obtain ⟨x, ps, ls, n⟩ := x
  obtain ⟨hps, hn0, hn6⟩ := hx
  dsimp only at hps hn0 hn6
  show AST P w G (t__law_table K P w _ _) ⟨[some (.own 0), some (.dat (dSs ps)), some (.dat (dSs ls)), some (.dat (dN n)), none, none, none, none, none], [x.ct]⟩ _
  unfold t__law_table
  walk_at "e"
  refine ae_lc (ai_rng1 ?_)
  walk_at "e"
  refine ⟨n, rfl, by omega, fun i acc s2 => s2 = ⟨[some (.own 0), some (.dat (dSs ps)), some (.dat (dSs ls)), some (.dat (dN n)), none, none, none, none, none], x.ct :: .lst acc :: List.replicate i (.dn [])⟩ ∧ acc = (List.range i).map fun j => .own (j + 2), ⟨rfl, rfl⟩, fun _ _ _ _ _ => True.intro, ?_, ?_⟩
  · rintro i r acc s2 hr ⟨rfl, rfl⟩
    have hi : i < n := by
      have := (List.getElem?_eq_some_iff.mp hr).1
      simpa using this
    refine agc_name (by simp) (at_yes ⟨fun _ => ae_dnewN ⟨_, rfl, size_lt (by rw [List.length_map, List.length_range]; omega), ?_, ?_⟩, fun h => (nomatch h)⟩)
    · show AS.mk _ (x.ct :: Ct.lst _ :: (List.replicate i (Ct.dn []) ++ [Ct.dn []])) = _
      rw [List.replicate_succ']
      rfl
    · show _ ++ [Rf.own (List.replicate i (Ct.dn [])).length.succ.succ] = _
      rw [List.length_replicate, List.range_succ, List.map_append]
      rfl
  rintro acc s2 ⟨rfl, rfl⟩
  have hlr : ((List.range n).map fun j => Rf.dat (.int (j : Nat))).length = n := by simp
  rw [hlr]
  have em : (x.ct :: Ct.lst ((List.range n).map fun j => .own (j + 2)) :: List.replicate n (Ct.dn [])) = mT n x (List.replicate n ⟨[], fun _ => 0⟩) := by
    unfold mT
    rw [List.map_replicate]
    rfl
  show AST P w G _ ⟨[some (.own 0), some (.dat (dSs ps)), some (.dat (dSs ls)), some (.dat (dN n)), some (.own 1), none, none, none, none], _⟩ _
  rw [em]
  have h0 : RsOk ps ls n 0 (List.replicate n ⟨[], fun _ => 0⟩) := by
    refine ⟨List.length_replicate, fun R hR => ?_, ?_⟩
    · rw [List.eq_of_mem_replicate hR]
      exact ⟨List.nodup_nil, fun a h => (nomatch h), fun a h => (nomatch h)⟩
    · unfold tot
      rw [List.map_replicate]
      simp
  generalize List.replicate n (Row.mk [] fun _ => 0) = Rs at h0
  have hget : ∀ k, k < n → ((List.range n).map fun j => Rf.own (j + 2))[k]? = some (.own (k + 2)) := fun k hk => by
    rw [List.getElem?_map, List.getElem?_range hk]
    rfl
  refine as_seq (as_forR ?_)
  walk_at "e"
  refine ao_subI ?_
  refine aa_nil ⟨n - 1, ?_, by omega, fun i st => ∃ y Rs x5, st = ⟨[some (.own 0), some (.dat (dSs ps)), some (.dat (dSs ls)), some (.dat (dN n)), some (.own 1), x5, none, none, none], mT n y Rs⟩ ∧ RsOk ps ls n i Rs, ⟨x, Rs, _, rfl, h0⟩, ?_, ?_⟩
  · rw [Int.natCast_sub (by omega)]
    rfl
  · rintro i st hi ⟨y, Rs, x5, rfl, hR⟩
    refine ag_name ?_
    refine as_drop (ae_edge (n := n) hps (t := i) (by omega) ?_)
    walk_at "e"
    refine ao_seqO (xs := (List.range n).map fun j => .own (j + 2)) (i := i) (r := .own (i + 2)) rfl (hget i (by omega)) ?_
    walk_at "e"
    refine ao_addI ?_
    refine aa_nil ⟨i, i + 1, y, Rs, rfl, rfl, hR, by omega, by omega, fun y' Rs' d hR' => ⟨y', Rs', _, rfl, hR'⟩⟩
  clear h0
  clear Rs
  rintro st ⟨y, Rs, x5, rfl, hR⟩
  show AST P w G _ _ _
  refine as_seq (as_forR ?_)
  refine aa_cons (ae_draw rfl ?_)
  walk_at "e"
  refine ao_mulI (.inl (by omega)) ?_
  refine ae_int ?_
  refine ao_addI ⟨2 * n + 1, y, ?_, by omega, by omega, rfl, fun y m hm => ?_⟩
  · unfold dN
    rw [Int.natCast_add, Int.natCast_mul]
    rfl
  refine aa_nil ⟨m, rfl, by omega, fun i st => ∃ y Rs x5, st = ⟨[some (.own 0), some (.dat (dSs ps)), some (.dat (dSs ls)), some (.dat (dN n)), some (.own 1), x5, none, none, none], mT n y Rs⟩ ∧ RsOk ps ls n (n - 1 + i) Rs, ⟨y, Rs, _, rfl, hR⟩, ?_, ?_⟩
  · clear hR
    rintro i st hi ⟨y, Rs, x5, rfl, hR⟩
    refine ag_name ?_
    refine as_drop (ae_edge (n := n) hps (t := n - 1 + i) (by omega) ?_)
    walk_at "e"
    refine ae_draw rfl ?_
    walk_at "e"
    refine ⟨n, y, rfl, hn0, by omega, rfl, fun y k hk => ?_⟩
    refine ao_seqO (xs := (List.range n).map fun j => .own (j + 2)) (i := k) (r := .own (k + 2)) rfl (hget k hk) ?_
    walk_at "e"
    refine ae_draw rfl ?_
    walk_at "e"
    refine ⟨n, y, rfl, hn0, by omega, rfl, fun y g hg => ?_⟩
    refine aa_nil ⟨k, g, y, Rs, rfl, rfl, hR, hk, hg, fun y' Rs' d hR' => ⟨y', Rs', _, rfl, hR'⟩⟩
  clear hR
  clear Rs
  rintro st ⟨y, Rs, x5, rfl, hR⟩
  have ht3 : n - 1 + m ≤ 3 * n := by omega
  generalize n - 1 + m = t at hR ht3
  show AST P w G _ _ _
  have hml : (mT n y Rs).length = n + 2 := mT_len hR.len
  refine as_seq (as_set (ae_lc (ai_rng1 ?_)))
  walk_at "e"
  refine ⟨n, rfl, by omega, fun i acc s2 => ∃ (y : Dst) (bs : List Bool), s2 = ⟨[some (.own 0), some (.dat (dSs ps)), some (.dat (dSs ls)), some (.dat (dN n)), some (.own 1), none, none, none, none], mT n y Rs ++ [.lst acc]⟩ ∧ acc = (bs.map .bool).map .dat ∧ bs.length = i, ⟨y, [], rfl, rfl, rfl⟩, fun _ _ _ _ _ => True.intro, ?_, ?_⟩
  · rintro i r acc s2 hr ⟨y', bs, rfl, rfl, hbl⟩
    have hi : i < n := by
      have := (List.getElem?_eq_some_iff.mp hr).1
      simpa using this
    refine agc_name (by simp) (at_yes ⟨fun _ => ae_op (ae_draw rfl (ae_int ⟨3, y', rfl, by omega, by omega, rfl, fun y2 d hd => ?_⟩)), fun h => (nomatch h)⟩)
    refine ae_int (ao_eqI (a := (d : Int)) (b := 0) ⟨(bs.map .bool).map .dat, ?_, size_lt (by rw [List.length_map, List.length_map]; omega), ?_⟩)
    · show (mT n y2 Rs ++ [_])[(mT n y Rs).length]? = _
      rw [hml]
      exact mT_get hR.len
    · refine ⟨y2, bs ++ [decide ((d : Int) = 0)], ?_, by rw [md_snoc], by rw [List.length_append, hbl]; rfl⟩
      show AS.mk _ ((mT n y2 Rs ++ [_]).set (mT n y Rs).length _) = _
      rw [hml, mT_set hR.len]
      rfl
  rintro acc s2 ⟨y2, bs, rfl, rfl, hbl⟩
  rw [hlr] at hbl
  rw [hml]
  refine as_seq (as_asg (ae_bl (ag_sub (ae_var rfl (ae_op (ae_var rfl (ae_int (ao_subI ?_))))))))
  have hn1 : (n : Int) - 1 = ((n - 1 : Nat) : Int) := by rw [Int.natCast_sub (by omega)]; rfl
  rw [hn1]
  refine aset_lst (xs := (bs.map .bool).map .dat) (j := n - 1) (mT_get hR.len) (by rw [List.length_map, List.length_map, hbl]; omega) ?_
  have hes : ∃ es : List Bool, es.length = n ∧ ((bs.map PyData.bool).map Rf.dat).set (n - 1) (.dat (.bool true)) = (es.map .bool).map .dat := ⟨bs.set (n - 1) true, by rw [List.length_set, hbl], by rw [List.map_set, List.map_set]⟩
  obtain ⟨es, hel, hes⟩ := hes
  rw [hes, mT_set hR.len]
  refine as_ret (ae_tup (aa_cons (ae_str (aa_cons (ae_cb (aa_cons ?_))))))
  refine ae_lcD (ai_own (ae_var rfl ⟨1, _, rfl, rfl, fun i => (Rs[i]?).map fun R => dRow (rowT R), fun acc => rfl, size_big (by rw [List.length_map, List.length_range]; omega), ?_, ?_⟩))
  · intro i r acc hr
    obtain ⟨i', hi', rfl⟩ := map_get hr
    obtain ⟨hl, e⟩ := List.getElem?_eq_some_iff.mp hi'
    rw [List.length_range] at hl
    rw [List.getElem_range] at e
    subst e
    obtain ⟨R, hRi⟩ : ∃ R, Rs[i]? = some R := ⟨_, List.getElem?_eq_getElem (by rw [hR.len]; exact hl)⟩
    have hlen : R.F.length ≤ 1000 := by
      have := tot_mem (List.mem_of_getElem? hRi)
      have := hR.tot
      omega
    refine agc_name (by simp) (at_yes ⟨fun _ => ?_, fun h => (nomatch h)⟩)
    refine ae_cb (aa_cons (ae_lcL (α := Act) ?_))
    walk_at "e"
    refine ar_sorted (x := .own (i + 2)) (ds := R.F.map dA) (.inr (.inr ⟨R.F.map fun a => (dA a, Rf.dat (dN (R.g a))), .inl ?_, by rw [List.map_map]; rfl⟩)) (srtOk_act R.F) (size_big (by rw [List.length_map]; omega)) ?_
    · show ((mT n y2 Rs ++ [_]) ++ [_])[i + 2]? = _
      rw [List.append_assoc]
      exact mT_row _ hRi
    refine ⟨srtA R.F, dA, fun a => some (dE (a, R.g a)), congrArg (fun l => Rf.dat (PyData.list l)) (srtD_srtA R.F), size_big (by rw [(srtA_perm R.F).length_eq]; omega), fun j a hj acc2 => ?_, ?_⟩
    · refine agc_name (by simp) (at_yes ⟨fun _ => ae_tup (aa_cons (ae_var rfl (aa_cons (ae_op (ae_var rfl (ae_var rfl ?_)))))), fun h => (nomatch h)⟩)
      have ha : a ∈ R.F := (srtA_perm R.F).mem_iff.mp (List.mem_of_getElem? hj)
      refine ao_getN (kvs := R.F.map fun a => (dA a, Rf.dat (dN (R.g a)))) (r := .dat (dN (R.g a))) (.inl ?_) (kd_ok (kd_dA a) (by omega)) ?_ ?_
      · show (((mT n y2 Rs ++ [_]) ++ [_]) ++ [_])[i + 2]? = _
        rw [List.append_assoc, List.append_assoc]
        exact mT_row _ hRi
      · exact (lookN_map (f := dA) dA_key (fun a => Rf.dat (dN (R.g a))) R.F a).trans (if_pos ha)
      · exact aa_nil ⟨_, rfl, size_big (by show 2 ≤ _; decide), rfl, rfl, _, rfl, rfl⟩
    · refine aa_nil (ar_tuple (ds := (srtA R.F).map fun a => dE (a, R.g a)) ?_ ⟨rfl, rfl, dRow (rowT R), by show (Rs[i]?).map _ = _; rw [hRi]; rfl, ?_⟩)
      · rw [fm_map]
        rfl
      · show Rf.dat (.tuple _) = Rf.dat (.tuple ((rowT R).map dE))
        unfold rowT
        rw [List.map_map]
        rfl
  · have e1 : ((List.range ((List.range n).map fun j => Rf.own (j + 2)).length).filterMap fun i => (Rs[i]?).map fun R => dRow (rowT R)) = (Rs.map rowT).map dRow := by
      rw [List.length_map, List.length_range, ← hR.len]
      have := fm_range (l := Rs) (o := fun R => some (dRow (rowT R)))
      rw [List.map_map]
      refine Eq.trans ?_ (this.trans (fm_map Rs))
      congr 1
      funext i
      cases Rs[i]? <;> rfl
    rw [e1]
    refine aa_nil (ar_tuple (ds := (Rs.map rowT).map dRow) rfl ?_)
    refine aa_cons (ae_cb (aa_cons (ae_var rfl (aa_nil (ar_tuple (x := .own (n + 2)) (ds := es.map .bool) (mT_get hR.len) ?_)))))
    refine aa_nil ⟨_, rfl, size_big (by show 3 ≤ _; decide), ?_⟩
    refine ⟨[y2.ct], _, dT ⟨Rs.map rowT, es⟩, rfl, rfl, rfl, fun c hc => by rw [List.mem_singleton.mp hc]; exact ⟨fun z => (nomatch z), rfl⟩, ⟨y2, rfl⟩, _, rfl, drawn_of hR ht3 hel⟩
/-! ### few sights -/
def subs {α : Type} : List α → List (List α)
  | [] => [[]]
  | x :: l => subs l ++ (subs l).map (x :: ·)
theorem subs_len {α : Type} : ∀ l : List α, (subs l).length = 2 ^ l.length
  | [] => rfl
  | x :: l => by
    show (subs l ++ (subs l).map (x :: ·)).length = _
    rw [List.length_append, List.length_map, subs_len l, List.length_cons, Nat.pow_succ]
    omega
theorem mem_subs {α : Type} (q : α → Bool) : ∀ l : List α, l.filter q ∈ subs l
  | [] => by simp [subs]
  | x :: l => by
    show (x :: l).filter q ∈ subs l ++ (subs l).map (x :: ·)
    rw [List.filter_cons]
    by_cases h : q x = true
    · rw [if_pos h]
      exact List.mem_append_right _ (List.mem_map.mpr ⟨_, mem_subs q l, rfl⟩)
    · rw [if_neg h]
      exact List.mem_append_left _ (mem_subs q l)
theorem few_small {T : Tab} (h : T.n ≤ 8) (p : Str) : Few T p := by
  refine ⟨subs (List.range T.n), ?_, fun v _ => mem_subs _ _⟩
  rw [subs_len, List.length_range]
  exact Nat.le_trans (Nat.pow_le_pow_right (by omega) h) (by decide)
abbrev Edg := Nat × Act × Nat
def sameA (e x : Edg) : Bool := decide (x.2.1 = e.2.1)
def ups : List Edg → List (List Edg)
  | [] => []
  | e :: r => (subs (r.filter (sameA e))).map (e :: ·) ++ ups r
theorem ups_len : ∀ (l : List Edg), (∀ a : Act, l.countP (fun e => decide (e.2.1 = a)) ≤ 4) → (ups l).length ≤ 8 * l.length
  | [], _ => Nat.zero_le _
  | e :: r, h => by
    show ((subs (r.filter (sameA e))).map (e :: ·) ++ ups r).length ≤ _
    have h1 := ups_len r fun a => by
      have := h a
      rw [List.countP_cons] at this
      omega
    have h2 := h e.2.1
    rw [List.countP_cons] at h2
    simp only [decide_true, if_true] at h2
    have h3 : (r.filter (sameA e)).length ≤ 3 := by
      rw [← List.countP_eq_length_filter]
      have : r.countP (sameA e) = r.countP (fun x => decide (x.2.1 = e.2.1)) := rfl
      omega
    rw [List.length_append, List.length_map, subs_len, List.length_cons]
    have := Nat.pow_le_pow_right (n := 2) (by omega) h3
    omega
theorem mem_ups {a : Act} (q : Edg → Bool) : ∀ l : List Edg, l.filter (fun e => q e && decide (e.2.1 = a)) ≠ [] → l.filter (fun e => q e && decide (e.2.1 = a)) ∈ ups l
  | [], h => absurd rfl h
  | e :: r, h => by
    rw [List.filter_cons] at h ⊢
    by_cases c : (q e && decide (e.2.1 = a)) = true
    · rw [if_pos c]
      refine List.mem_append_left _ (List.mem_map.mpr ⟨_, ?_, rfl⟩)
      have ha : e.2.1 = a := by
        simp at c
        exact c.2
      have : r.filter (fun e => q e && decide (e.2.1 = a)) = (r.filter (sameA e)).filter q := by
        rw [List.filter_filter]
        unfold sameA
        rw [ha]
      rw [this]
      exact mem_subs q _
    · rw [if_neg c] at h ⊢
      exact List.mem_append_right _ (mem_ups q r h)
open Classical in
theorem few_edges {T : Tab} {p : Str} (Es : List Edg) (h1 : ∀ s a g, T.step s a = some g → (s, a, g) ∈ Es) (h2 : ∀ e ∈ Es, T.step e.1 e.2.1 = some e.2.2) (hc : ∀ a : Act, Es.countP (fun e => decide (e.2.1 = a)) ≤ 4) (hl : Es.length ≤ 36) : Few T p := by
  refine ⟨sgt T p [] :: (ups Es).map fun F => canon T fun y => ∃ e ∈ F, Un T p e.2.2 y, ?_, fun v hv => ?_⟩
  · rw [List.length_cons, List.length_map]
    have := ups_len Es hc
    omega
  · rcases List.eq_nil_or_concat v with rfl | ⟨v, a, rfl⟩
    · exact List.mem_cons_self
    · rw [List.concat_eq_append] at hv ⊢
      refine List.mem_cons_of_mem _ (List.mem_map.mpr ⟨Es.filter (fun e => decide (sv T p v e.1) && decide (e.2.1 = a)), mem_ups (fun e => decide (sv T p v e.1)) Es ?_, ?_⟩)
      · obtain ⟨⟨y, hy⟩, _⟩ := hv
        rw [sv_snoc] at hy
        obtain ⟨s, hs, g, hg, _⟩ := hy
        intro z
        have : (s, a, g) ∈ Es.filter (fun e => decide (sv T p v e.1) && decide (e.2.1 = a)) := List.mem_filter.mpr ⟨h1 s a g hg, by simp [hs]⟩
        rw [z] at this
        cases this
      · unfold sgt
        congr 1
        funext y
        rw [sv_snoc]
        refine propext ⟨fun ⟨e, he, hy⟩ => ?_, fun ⟨s, hs, g, hg, hy⟩ => ⟨(s, a, g), List.mem_filter.mpr ⟨h1 s a g hg, by simp [hs]⟩, hy⟩⟩
        obtain ⟨he, hq⟩ := List.mem_filter.mp he
        simp at hq
        have := h2 e he
        rw [hq.2] at this
        exact ⟨e.1, hq.1, e.2.2, this, hy⟩
open Classical in
theorem few_kappa {T : Tab} {p : Str} (κ : List Act → Nat) (h1 : ∀ v, Vw T p v → κ v < 300) (h2 : ∀ v v', Vw T p v → Vw T p v' → κ v = κ v' → sgt T p v = sgt T p v') : Few T p := by
  refine ⟨(List.range 300).map fun k => if h : ∃ v, Vw T p v ∧ κ v = k then sgt T p (Classical.choose h) else [], by simp, fun v hv => ?_⟩
  refine List.mem_map.mpr ⟨κ v, List.mem_range.mpr (h1 v hv), ?_⟩
  have h : ∃ u, Vw T p u ∧ κ u = κ v := ⟨v, hv, rfl⟩
  rw [dif_pos h]
  have hs := Classical.choose_spec h
  exact h2 _ _ hs.1 hv hs.2
/-! ### ready by make: all see all -/
theorem walk_acts {T : Tab} {r : List Act} : ∀ {s : Nat}, T.walk r = some s → ∀ b ∈ r, ∃ t, ∃ e ∈ T.row t, e.1 = b := by
  generalize hn : r.length = n
  induction n generalizing r with
  | zero =>
    intro s _ b hb
    rw [List.length_eq_zero_iff.mp hn] at hb
    cases hb
  | succ n ih =>
    intro s h b hb
    rcases List.eq_nil_or_concat r with rfl | ⟨r, a, rfl⟩
    · cases hb
    · rw [List.concat_eq_append] at h hb hn
      obtain ⟨t, h1, h2⟩ := snoc_some h
      rcases List.mem_append.mp hb with hb | hb
      · exact ih (by simpa using hn) h1 b hb
      · rw [List.mem_singleton.mp hb]
        exact ⟨t, _, look_mem h2, rfl⟩
theorem view_all {r : List Act} {p : Str} (h : ∀ b ∈ r, conc b p = true) : view r p = r := List.filter_eq_self.mpr h
theorem view_none {r : List Act} {p : Str} (h : ∀ b ∈ r, conc b p = false) : view r p = [] := List.filter_eq_nil_iff.mpr fun b hb => by rw [h b hb]; decide
/-- two parties, each in every action -/
structure Two (p q : Str) (T : Tab) : Prop where
  act : ∀ t, ∀ e ∈ T.row t, (e.1.1 = p ∧ e.1.2.1 = q) ∨ (e.1.1 = q ∧ e.1.2.1 = p)
theorem Two.conc {p q : Str} {T : Tab} (h : Two p q T) {t t' : Nat} {e e' : Act × Nat} (he : e ∈ T.row t) (he' : e' ∈ T.row t') : conc e.1 e'.1.1 = true := by
  rw [conc_iff]
  rcases h.act t e he with ⟨h1, h2⟩ | ⟨h1, h2⟩ <;> rcases h.act t' e' he' with ⟨h3, h4⟩ | ⟨h3, h4⟩ <;> simp [h1, h2, h3]
theorem ready_two {p q : Str} {T : Tab} (h : Two p q T) : Ready T := by
  intro r s o a hr hv ⟨z, hz⟩
  obtain ⟨t, ht, hta⟩ := snoc_some hz
  have ha := look_mem hta
  have ho : view o a.1 = o := view_all fun b hb => by
    obtain ⟨t', e, he, rfl⟩ := walk_acts ht b hb
    exact h.conc he ha
  have hr' : view r a.1 = r := view_all fun b hb => by
    obtain ⟨t', e, he, rfl⟩ := walk_acts hr b hb
    exact h.conc he ha
  rw [ho, hr'] at hv
  rw [← hv]
  exact ⟨z, hz⟩
/-! ### beside: the pure law -/
def rOf {α : Type} (f : α → D) (F : List α) : List α := F.mergeSort (fun a b => leD (f a) (f b))
abbrev Ents := List (Act × Nat)
def srtE (F : Ents) : Ents := F.mergeSort (fun a b => leD (dE a) (dE b))
theorem srtD_srtE (F : Ents) : srtD (F.map dE) = (srtE F).map dE := (List.map_mergeSort (f := dE) (r := fun a b => leD (dE a) (dE b)) (s := leD) (fun _ _ _ _ => rfl)).symm
theorem srtE_perm (F : Ents) : (srtE F).Perm F := List.mergeSort_perm _ _
theorem srtE_one (e : Act × Nat) : srtE [e] = [e] := List.perm_singleton.mp (srtE_perm [e])
theorem nodup_perm_fst {r r' : Ents} (h : r.Perm r') (nd : (r'.map (·.1)).Nodup) : (r.map (·.1)).Nodup := (h.map _).nodup_iff.mpr nd
theorem look_perm {r r' : Ents} (h : r.Perm r') (nd : (r'.map (·.1)).Nodup) (a : Act) : look r a = look r' a := by
  have nd' := nodup_perm_fst h nd
  cases e : look r' a with
  | none =>
    cases e2 : look r a with
    | none => rfl
    | some g =>
      have := mem_look nd (h.mem_iff.mp (look_mem e2))
      rw [e] at this
      cases this
  | some g => exact mem_look nd' (h.mem_iff.mpr (look_mem e))
theorem look_app (r r' : Ents) (a : Act) : look (r ++ r') a = (look r a).or (look r' a) := by
  induction r with
  | nil => rfl
  | cons x r ih =>
    rw [List.cons_append, look_cons, look_cons]
    by_cases h : x.1 = a
    · rw [if_pos h, if_pos h]; rfl
    · rw [if_neg h, if_neg h, ih]
theorem look_map {f : Nat → Nat} (r : Ents) (a : Act) : look (r.map fun e => (e.1, f e.2)) a = (look r a).map f := by
  induction r with
  | nil => rfl
  | cons x r ih =>
    rw [List.map_cons, look_cons, look_cons]
    by_cases h : x.1 = a
    · rw [if_pos h, if_pos h]; rfl
    · rw [if_neg h, if_neg h, ih]
theorem look_not {r : Ents} {a : Act} (h : ∀ e ∈ r, e.1 ≠ a) : look r a = none := by
  cases e : look r a with
  | none => rfl
  | some g => exact absurd rfl (h _ (look_mem e))
def besRow (T1 T2 : Tab) (k j : Nat) : Ents := (T1.row k).map (fun e => (e.1, e.2 * T2.n + j)) ++ (T2.row j).map (fun e => (e.1, k * T2.n + e.2))
def rowB (T1 T2 : Tab) (i : Nat) : Ents := srtE (besRow T1 T2 (i / T2.n) (i % T2.n))
def endB (T1 T2 : Tab) (i : Nat) : Bool := T1.ends.getD (i / T2.n) false && T2.ends.getD (i % T2.n) false
def besT (T1 T2 : Tab) : Tab := ⟨(List.range (T1.n * T2.n)).map (rowB T1 T2), (List.range (T1.n * T2.n)).map (endB T1 T2)⟩
theorem filt1 {c : Act → Bool} {a : Act} (h : c a = true) : [a].filter c = [a] := by rw [List.filter_cons, if_pos h]; rfl
theorem filt0 {c : Act → Bool} {a : Act} (h : ¬ c a = true) : [a].filter c = [] := by rw [List.filter_cons, if_neg h]; rfl
structure Apart (ps1 ps2 : List Str) (T1 T2 : Tab) : Prop where
  wf1 : Wf T1
  wf2 : Wf T2
  n1 : T1.n ≤ 3
  n2 : T2.n ≤ 3
  r1 : ∀ s, (T1.row s).length ≤ 9
  r2 : ∀ s, (T2.row s).length ≤ 9
  dis : ∀ p ∈ ps1, p ∉ ps2
  a1 : ∀ s, ∀ e ∈ T1.row s, ∀ p, conc e.1 p = decide (p ∈ ps1)
  a2 : ∀ s, ∀ e ∈ T2.row s, ∀ p, conc e.1 p = decide (p ∈ ps2)
def c1 (ps1 : List Str) (a : Act) : Bool := decide (a.1 ∈ ps1)
def c2 (ps1 : List Str) (a : Act) : Bool := !c1 ps1 a
section
variable {ps1 ps2 : List Str} {T1 T2 : Tab} (H : Apart ps1 ps2 T1 T2)
include H
theorem Apart.s1 {s : Nat} {e : Act × Nat} (h : e ∈ T1.row s) : c1 ps1 e.1 = true := by
  have := H.a1 s e h e.1.1
  rw [conc_self] at this
  exact this.symm
theorem Apart.s2 {s : Nat} {e : Act × Nat} (h : e ∈ T2.row s) : c1 ps1 e.1 = false := by
  have := H.a2 s e h e.1.1
  rw [conc_self] at this
  have : e.1.1 ∈ ps2 := of_decide_eq_true this.symm
  exact decide_eq_false fun z => H.dis _ z this
theorem Apart.nd (k j : Nat) : ((besRow T1 T2 k j).map (·.1)).Nodup := by
  unfold besRow
  rw [List.map_append, List.map_map, List.map_map]
  refine List.nodup_append.mpr ⟨(H.wf1.row' k).2.1, (H.wf2.row' j).2.1, fun a ha b hb e => ?_⟩
  subst e
  obtain ⟨x, hx, rfl⟩ := List.mem_map.mp ha
  obtain ⟨y, hy, e⟩ := List.mem_map.mp hb
  have h1 := H.s1 hx
  have h2 := H.s2 hy
  have e : y.1 = x.1 := e
  rw [e, h1] at h2
  cases h2
theorem Apart.row {k j : Nat} (hk : k < T1.n) (hj : j < T2.n) : (besT T1 T2).row (k * T2.n + j) = srtE (besRow T1 T2 k j) := by
  have hlt : k * T2.n + j < T1.n * T2.n := by
    have : (k + 1) * T2.n ≤ T1.n * T2.n := Nat.mul_le_mul_right _ hk
    rw [Nat.succ_mul] at this
    omega
  unfold Tab.row besT
  rw [List.getD_eq_getElem?_getD, List.getElem?_map, List.getElem?_range hlt]
  show rowB T1 T2 (k * T2.n + j) = _
  unfold rowB
  have e1 : (k * T2.n + j) / T2.n = k := by
    rw [Nat.mul_comm, Nat.mul_add_div (by omega), Nat.div_eq_of_lt hj, Nat.add_zero]
  have e2 : (k * T2.n + j) % T2.n = j := by
    rw [Nat.mul_comm, Nat.mul_add_mod, Nat.mod_eq_of_lt hj]
  rw [e1, e2]
theorem Apart.step {k j : Nat} (hk : k < T1.n) (hj : j < T2.n) (a : Act) : (besT T1 T2).step (k * T2.n + j) a = if c1 ps1 a = true then (T1.step k a).map (fun k' => k' * T2.n + j) else (T2.step j a).map fun j' => k * T2.n + j' := by
  unfold Tab.step
  rw [H.row hk hj, look_perm (srtE_perm _) (H.nd k j)]
  unfold besRow
  rw [look_app, look_map (f := fun x => x * T2.n + j), look_map (f := fun x => k * T2.n + x)]
  by_cases h : c1 ps1 a = true
  · rw [if_pos h, look_not (r := T2.row j) fun e he z => ?_]
    · cases look (T1.row k) a <;> rfl
    · have := H.s2 he
      rw [z, h] at this
      cases this
  · rw [if_neg h, look_not (r := T1.row k) fun e he z => ?_]
    · rfl
    · have := H.s1 he
      rw [z] at this
      exact h this
theorem Apart.walk (r : List Act) : (besT T1 T2).walk r = (T1.walk (r.filter (c1 ps1))).bind fun k => (T2.walk (r.filter (c2 ps1))).map fun j => k * T2.n + j := by
  generalize hn : r.length = n
  induction n generalizing r with
  | zero =>
    rw [List.length_eq_zero_iff.mp hn]
    show some 0 = some (0 * T2.n + 0)
    rw [Nat.zero_mul]
  | succ n ih =>
    rcases List.eq_nil_or_concat r with rfl | ⟨r, a, rfl⟩
    · cases hn
    · rw [List.concat_eq_append] at hn ⊢
      rw [Tab.walk_snoc, ih r (by simpa using hn), List.filter_append, List.filter_append]
      cases e1 : T1.walk (r.filter (c1 ps1)) with
      | none =>
        by_cases h : c1 ps1 a = true
        · rw [filt1 h, Tab.walk_snoc, e1]
          rfl
        · rw [filt0 h, List.append_nil, e1]
          rfl
      | some k =>
        have hk := H.wf1.walk_lt e1
        cases e2 : T2.walk (r.filter (c2 ps1)) with
        | none =>
          by_cases h : c1 ps1 a = true
          · have h2 : ¬ c2 ps1 a = true := by unfold c2; rw [h]; decide
            rw [filt0 h2, List.append_nil, e2]
            cases T1.walk (r.filter (c1 ps1) ++ [a].filter (c1 ps1)) <;> rfl
          · have h2 : c2 ps1 a = true := by unfold c2; cases q : c1 ps1 a with | false => rfl | true => exact absurd q h
            rw [filt1 h2, Tab.walk_snoc T2, e2]
            cases T1.walk (r.filter (c1 ps1) ++ [a].filter (c1 ps1)) <;> rfl
        | some j =>
          have hj := H.wf2.walk_lt e2
          show (besT T1 T2).step (k * T2.n + j) a = _
          rw [H.step hk hj]
          by_cases h : c1 ps1 a = true
          · have h2 : ¬ c2 ps1 a = true := by unfold c2; rw [h]; decide
            rw [if_pos h, filt0 h2, filt1 h, List.append_nil, e2, Tab.walk_snoc, e1]
            show _ = (T1.step k a).bind _
            cases T1.step k a <;> rfl
          · have h2 : c2 ps1 a = true := by unfold c2; cases q : c1 ps1 a with | false => rfl | true => exact absurd q h
            rw [if_neg h, filt1 h2, filt0 h, Tab.walk_snoc T2, e2, List.append_nil, e1]
            rfl
theorem Apart.n : (besT T1 T2).n = T1.n * T2.n := by
  show ((List.range (T1.n * T2.n)).map (rowB T1 T2)).length = _
  rw [List.length_map, List.length_range]
theorem Apart.n9 : T1.n * T2.n ≤ 9 := Nat.le_trans (Nat.mul_le_mul H.n1 H.n2) (Nat.le_refl 9)
theorem Apart.rlen {r : Ents} (h : r ∈ (besT T1 T2).rows) : r.length ≤ 18 := by
  obtain ⟨i, _, rfl⟩ := List.mem_map.mp h
  unfold rowB
  rw [(srtE_perm _).length_eq]
  unfold besRow
  rw [List.length_append, List.length_map, List.length_map]
  have := H.r1 (i / T2.n)
  have := H.r2 (i % T2.n)
  omega
theorem Apart.wf : Wf (besT T1 T2) := by
  have h1 := H.wf1.pos
  have h2 := H.wf2.pos
  have hp : 0 < T1.n * T2.n := Nat.mul_pos h1 h2
  refine ⟨by rw [H.n]; exact hp, by rw [H.n]; have := H.n9; omega, ?_, fun r hr => ⟨Nat.le_trans (H.rlen hr) (by omega), ?_⟩⟩
  · show ((List.range (T1.n * T2.n)).map (endB T1 T2)).length = ((List.range (T1.n * T2.n)).map (rowB T1 T2)).length
    rw [List.length_map, List.length_map]
  · obtain ⟨i, hi, rfl⟩ := List.mem_map.mp hr
    have hi := List.mem_range.mp hi
    have hk : i / T2.n < T1.n := Nat.div_lt_of_lt_mul (by rw [Nat.mul_comm]; exact hi)
    have hj : i % T2.n < T2.n := Nat.mod_lt _ h2
    refine ⟨nodup_perm_fst (srtE_perm _) (H.nd _ _), fun e he => ?_⟩
    rw [H.n]
    have he := (srtE_perm _).mem_iff.mp he
    rcases List.mem_append.mp he with he | he
    · obtain ⟨x, hx, rfl⟩ := List.mem_map.mp he
      have := (H.wf1.row' _).2.2 x hx
      have : (x.2 + 1) * T2.n ≤ T1.n * T2.n := Nat.mul_le_mul_right _ this
      rw [Nat.succ_mul] at this
      show x.2 * T2.n + i % T2.n < _
      omega
    · obtain ⟨x, hx, rfl⟩ := List.mem_map.mp he
      have h3 := (H.wf2.row' _).2.2 x hx
      have : (i / T2.n + 1) * T2.n ≤ T1.n * T2.n := Nat.mul_le_mul_right _ hk
      rw [Nat.succ_mul] at this
      show i / T2.n * T2.n + x.2 < _
      omega
theorem Apart.gd : Gd (besT T1 T2) := by
  refine ⟨H.wf, ?_⟩
  have := flat_len (f := fun r : Ents => r.map (·.1)) (n := 18) (l := (besT T1 T2).rows) fun r hr => by
    rw [List.length_map]
    exact H.rlen hr
  have h2 : (besT T1 T2).rows.length ≤ 9 := by
    have := H.n
    have h9 := H.n9
    have e : (besT T1 T2).n = (besT T1 T2).rows.length := rfl
    omega
  have hh : (besT T1 T2).acts.length ≤ 18 * (besT T1 T2).rows.length := this
  omega
theorem Apart.acts {r : List Act} {x : Nat} (h : (besT T1 T2).walk r = some x) : ∀ b ∈ r, (c1 ps1 b = true ∧ ∀ p, conc b p = decide (p ∈ ps1)) ∨ (c1 ps1 b = false ∧ ∀ p, conc b p = decide (p ∈ ps2)) := by
  rw [H.walk] at h
  intro b hb
  cases e1 : T1.walk (r.filter (c1 ps1)) with
  | none => rw [e1] at h; cases h
  | some k =>
    rw [e1] at h
    cases e2 : T2.walk (r.filter (c2 ps1)) with
    | none => rw [e2] at h; cases h
    | some j =>
      cases q : c1 ps1 b with
      | true =>
        obtain ⟨t, e, he, rfl⟩ := walk_acts e1 b (List.mem_filter.mpr ⟨hb, q⟩)
        exact .inl ⟨rfl, H.a1 t e he⟩
      | false =>
        obtain ⟨t, e, he, rfl⟩ := walk_acts e2 b (List.mem_filter.mpr ⟨hb, by unfold c2; rw [q]; rfl⟩)
        exact .inr ⟨rfl, H.a2 t e he⟩
theorem Apart.view1 {r : List Act} {x : Nat} (h : (besT T1 T2).walk r = some x) {p : Str} (hp : p ∈ ps1) : view r p = r.filter (c1 ps1) := by
  refine List.filter_congr fun b hb => ?_
  rcases H.acts h b hb with ⟨h1, h2⟩ | ⟨h1, h2⟩
  · rw [h1, h2, decide_eq_true hp]
  · rw [h1, h2, decide_eq_false (H.dis p hp)]
theorem Apart.view2 {r : List Act} {x : Nat} (h : (besT T1 T2).walk r = some x) {p : Str} (hp : p ∈ ps2) : view r p = r.filter (c2 ps1) := by
  refine List.filter_congr fun b hb => ?_
  rcases H.acts h b hb with ⟨h1, h2⟩ | ⟨h1, h2⟩
  · rw [h2, decide_eq_false (fun z => H.dis p z hp)]
    unfold c2
    rw [h1]
    rfl
  · rw [h2, decide_eq_true hp]
    unfold c2
    rw [h1]
    rfl
theorem Apart.both {r : List Act} {x : Nat} (h : (besT T1 T2).walk r = some x) : ∃ k j, T1.walk (r.filter (c1 ps1)) = some k ∧ T2.walk (r.filter (c2 ps1)) = some j ∧ x = k * T2.n + j := by
  rw [H.walk] at h
  cases e1 : T1.walk (r.filter (c1 ps1)) with
  | none => rw [e1] at h; cases h
  | some k =>
    rw [e1] at h
    cases e2 : T2.walk (r.filter (c2 ps1)) with
    | none => rw [e2] at h; cases h
    | some j =>
      rw [e2] at h
      exact ⟨k, j, rfl, rfl, (Option.some.inj h).symm⟩
theorem Apart.of {r : List Act} {k j : Nat} (h1 : T1.walk (r.filter (c1 ps1)) = some k) (h2 : T2.walk (r.filter (c2 ps1)) = some j) : (besT T1 T2).walk r = some (k * T2.n + j) := by
  rw [H.walk, h1, h2]
  rfl
theorem Apart.ready : Ready (besT T1 T2) := by
  intro r s o a hr hv ⟨z, hz⟩
  obtain ⟨t, ht, hta⟩ := snoc_some hz
  obtain ⟨k, j, e1, e2, _⟩ := H.both hr
  obtain ⟨k', j', f1, f2, _⟩ := H.both hz
  rw [List.filter_append] at f1 f2
  rcases H.acts hz a (by simp) with ⟨h1, h2⟩ | ⟨h1, h2⟩
  · have hp : a.1 ∈ ps1 := of_decide_eq_true h1
    rw [H.view1 ht hp, H.view1 hr hp] at hv
    have n2 : ¬ c2 ps1 a = true := by unfold c2; rw [h1]; decide
    rw [hv] at f1
    exact ⟨_, H.of (r := r ++ [a]) (by rw [List.filter_append]; exact f1) (by rw [List.filter_append, filt0 n2, List.append_nil]; exact e2)⟩
  · have hp : a.1 ∈ ps2 := by
      have := h2 a.1
      rw [conc_self] at this
      exact of_decide_eq_true this.symm
    rw [H.view2 ht hp, H.view2 hr hp] at hv
    have n1 : ¬ c1 ps1 a = true := by rw [h1]; decide
    rw [hv] at f2
    exact ⟨_, H.of (r := r ++ [a]) (by rw [List.filter_append, filt0 n1, List.append_nil]; exact e1) (by rw [List.filter_append]; exact f2)⟩
end
/-! ### beside: few sights -/
theorem filter_twice {α : Type} (c : α → Bool) (l : List α) : (l.filter c).filter c = l.filter c := by
  rw [List.filter_filter]
  simp
theorem filter_c12 (ps : List Str) (l : List Act) : (l.filter (c2 ps)).filter (c1 ps) = [] := by
  rw [List.filter_filter]
  refine List.filter_eq_nil_iff.mpr fun b _ => ?_
  unfold c2
  cases c1 ps b <;> simp
theorem filter_c21 (ps : List Str) (l : List Act) : (l.filter (c1 ps)).filter (c2 ps) = [] := by
  rw [List.filter_filter]
  refine List.filter_eq_nil_iff.mpr fun b _ => ?_
  unfold c2
  cases c1 ps b <;> simp
section
variable {ps1 ps2 : List Str} {T1 T2 : Tab} (H : Apart ps1 ps2 T1 T2)
include H
theorem Apart.kap1 {p : Str} (hp : p ∈ ps1) {v : List Act} (hv : Vw (besT T1 T2) p v) : ∃ k, T1.walk v = some k ∧ k < T1.n ∧ v.filter (c1 ps1) = v := by
  obtain ⟨⟨y, hy⟩, hc⟩ := hv
  obtain ⟨o, ho, e⟩ := sv_char H.wf hc hy
  obtain ⟨k, j, e1, e2, _⟩ := H.both ho
  rw [H.view1 ho hp] at e
  subst e
  exact ⟨k, e1, H.wf1.walk_lt e1, filter_twice _ _⟩
theorem Apart.sv1 {p : Str} (hp : p ∈ ps1) {v v' : List Act} (hv : Vw (besT T1 T2) p v) (hv' : Vw (besT T1 T2) p v') (e : T1.walk v = T1.walk v') (y : Nat) (hy : sv (besT T1 T2) p v y) : sv (besT T1 T2) p v' y := by
  obtain ⟨o, ho, eo⟩ := sv_char H.wf hv.2 hy
  obtain ⟨k, j, e1, e2, ey⟩ := H.both ho
  obtain ⟨k', hk', _, hf⟩ := H.kap1 hp hv'
  rw [H.view1 ho hp] at eo
  rw [eo, e, hk'] at e1
  cases e1
  have f1 : (v' ++ o.filter (c2 ps1)).filter (c1 ps1) = v' := by rw [List.filter_append, filter_c12, hf, List.append_nil]
  have f2 : (v' ++ o.filter (c2 ps1)).filter (c2 ps1) = o.filter (c2 ps1) := by
    rw [List.filter_append, filter_twice, ← hf, filter_c21, List.nil_append]
  have hw := H.of (r := v' ++ o.filter (c2 ps1)) (by rw [f1]; exact hk') (by rw [f2]; exact e2)
  have := sv_run p hw
  rw [H.view1 hw hp, f1, ← ey] at this
  exact this
theorem Apart.few1 {p : Str} (hp : p ∈ ps1) : Few (besT T1 T2) p := by
  refine few_kappa (fun v => (T1.walk v).getD 0) (fun v hv => ?_) fun v v' hv hv' e => ?_
  · obtain ⟨k, e1, hk, _⟩ := H.kap1 hp hv
    have := H.n1
    show (T1.walk v).getD 0 < 300
    rw [e1]
    show k < 300
    omega
  · obtain ⟨k, e1, hk, _⟩ := H.kap1 hp hv
    obtain ⟨k', e1', hk', _⟩ := H.kap1 hp hv'
    have e : (T1.walk v).getD 0 = (T1.walk v').getD 0 := e
    rw [e1, e1'] at e
    have e : k = k' := e
    subst e
    have e2 := e1.trans e1'.symm
    exact sgt_eq fun y => ⟨H.sv1 hp hv hv' e2 y, H.sv1 hp hv' hv e2.symm y⟩
theorem Apart.kap2 {p : Str} (hp : p ∈ ps2) {v : List Act} (hv : Vw (besT T1 T2) p v) : ∃ k, T2.walk v = some k ∧ k < T2.n ∧ v.filter (c2 ps1) = v := by
  obtain ⟨⟨y, hy⟩, hc⟩ := hv
  obtain ⟨o, ho, e⟩ := sv_char H.wf hc hy
  obtain ⟨k, j, e1, e2, _⟩ := H.both ho
  rw [H.view2 ho hp] at e
  subst e
  exact ⟨j, e2, H.wf2.walk_lt e2, filter_twice _ _⟩
theorem Apart.sv2 {p : Str} (hp : p ∈ ps2) {v v' : List Act} (hv : Vw (besT T1 T2) p v) (hv' : Vw (besT T1 T2) p v') (e : T2.walk v = T2.walk v') (y : Nat) (hy : sv (besT T1 T2) p v y) : sv (besT T1 T2) p v' y := by
  obtain ⟨o, ho, eo⟩ := sv_char H.wf hv.2 hy
  obtain ⟨k, j, e1, e2, ey⟩ := H.both ho
  obtain ⟨k', hk', _, hf⟩ := H.kap2 hp hv'
  rw [H.view2 ho hp] at eo
  rw [eo, e, hk'] at e2
  cases e2
  have f2 : (v' ++ o.filter (c1 ps1)).filter (c2 ps1) = v' := by rw [List.filter_append, filter_c21, hf, List.append_nil]
  have f1 : (v' ++ o.filter (c1 ps1)).filter (c1 ps1) = o.filter (c1 ps1) := by
    rw [List.filter_append, filter_twice, ← hf, filter_c12, List.nil_append]
  have hw := H.of (r := v' ++ o.filter (c1 ps1)) (by rw [f1]; exact e1) (by rw [f2]; exact hk')
  have := sv_run p hw
  rw [H.view2 hw hp, f2, ← ey] at this
  exact this
theorem Apart.few2 {p : Str} (hp : p ∈ ps2) : Few (besT T1 T2) p := by
  refine few_kappa (fun v => (T2.walk v).getD 0) (fun v hv => ?_) fun v v' hv hv' e => ?_
  · obtain ⟨k, e1, hk, _⟩ := H.kap2 hp hv
    have := H.n2
    show (T2.walk v).getD 0 < 300
    rw [e1]
    show k < 300
    omega
  · obtain ⟨k, e1, hk, _⟩ := H.kap2 hp hv
    obtain ⟨k', e1', hk', _⟩ := H.kap2 hp hv'
    have e : (T2.walk v).getD 0 = (T2.walk v').getD 0 := e
    rw [e1, e1'] at e
    have e : k = k' := e
    subst e
    have e2 := e1.trans e1'.symm
    exact sgt_eq fun y => ⟨H.sv2 hp hv hv' e2 y, H.sv2 hp hv' hv e2.symm y⟩
theorem Apart.allFew : AllFew (besT T1 T2) := by
  refine ⟨H.gd, fun p hp => ?_⟩
  obtain ⟨r, hr, e, he, hc⟩ := mem_parts.mp hp
  obtain ⟨i, hi, rfl⟩ := List.mem_map.mp hr
  have he := (srtE_perm _).mem_iff.mp he
  rcases List.mem_append.mp he with he | he
  · obtain ⟨x, hx, rfl⟩ := List.mem_map.mp he
    have hc : conc x.1 p = true := hc
    rw [H.a1 _ x hx] at hc
    exact H.few1 (of_decide_eq_true hc)
  · obtain ⟨x, hx, rfl⟩ := List.mem_map.mp he
    have hc : conc x.1 p = true := hc
    rw [H.a2 _ x hx] at hc
    exact H.few2 (of_decide_eq_true hc)
end
/-! ### conducted: the pure law -/
def dot (l t : Str) : Str := l ++ "." ++ t
theorem chs_dot (l t : Str) : chs (dot l t) = chs l ++ 46 :: chs t := by
  unfold dot
  rw [chs_app, chs_app]
  have : chs "." = [46] := by decide +kernel
  rw [this, List.append_assoc]
  rfl
theorem split_dot : ∀ {a b c d : List Nat}, (∀ x ∈ a, x ≠ 46) → (∀ x ∈ c, x ≠ 46) → a ++ 46 :: b = c ++ 46 :: d → a = c ∧ b = d
  | [], b, [], d, _, _, e => by
    simp at e
    exact ⟨rfl, e⟩
  | [], b, y :: c, d, _, h, e => by
    simp at e
    exact absurd e.1.symm (h y (by simp))
  | x :: a, b, [], d, h, _, e => by
    simp at e
    exact absurd e.1 (h x (by simp))
  | x :: a, b, y :: c, d, h1, h2, e => by
    simp only [List.cons_append, List.cons.injEq] at e
    obtain ⟨e1, e2⟩ := split_dot (fun z hz => h1 z (by simp [hz])) (fun z hz => h2 z (by simp [hz])) e.2
    exact ⟨by rw [e.1, e1], e2⟩
theorem dot_inj {l t l' t' : Str} {k : Nat} (h : Nm k l) (h' : Nm k l') (e : dot l t = dot l' t') : l = l' ∧ t = t' := by
  have := congrArg chs e
  rw [chs_dot, chs_dot] at this
  obtain ⟨e1, e2⟩ := split_dot h.dot h'.dot this
  exact ⟨chs_inj e1, chs_inj e2⟩
def actL (L : Str) (a : Act) : Act := (L, a.1, dot a.2.2 a.2.1)
def actR (L : Str) (a : Act) : Act := (a.2.1, L, dot a.2.2 a.1)
def edgesTo (T : Tab) (k : Nat) : List Edg := (List.range k).flatMap fun k => (T.row k).map fun e => (k, e)
def edgesOf (T : Tab) : List Edg := edgesTo T T.n
def baseRow (n : Nat) (L : Str) (E : List Edg) (k : Nat) : Ents := (E.zipIdx.filter fun p => decide (p.1.1 = k)).map fun p => (actL L p.1.2.1, n + 2 * p.2)
def exRows (n : Nat) (L : Str) (E : List Edg) : List Ents := E.zipIdx.flatMap fun p => [[(p.1.2.1, n + 2 * p.2 + 1)], [(actR L p.1.2.1, p.1.2.2)]]
def cndT (T0 : Tab) (L : Str) : Tab := ⟨(List.range T0.n).map (fun k => srtE (baseRow T0.n L (edgesOf T0) k)) ++ (exRows T0.n L (edgesOf T0)).map srtE, T0.ends ++ List.replicate (2 * (edgesOf T0).length) false⟩
theorem ex_len {α β : Type} {f : α × Nat → List β} (h : ∀ x, (f x).length = 2) : ∀ (l : List α) (s : Nat), ((l.zipIdx s).flatMap f).length = 2 * l.length
  | [], _ => rfl
  | x :: l, s => by
    rw [List.zipIdx_cons, List.flatMap_cons, List.length_append, h, ex_len h l, List.length_cons]
    omega
theorem ex_get {α β : Type} {f g : α × Nat → β} : ∀ {l : List α} {s i : Nat} {x : α}, l[i]? = some x → ((l.zipIdx s).flatMap fun p => [f p, g p])[2 * i]? = some (f (x, s + i)) ∧ ((l.zipIdx s).flatMap fun p => [f p, g p])[2 * i + 1]? = some (g (x, s + i))
  | [], _, _, _, h => by simp at h
  | y :: l, s, 0, x, h => by
    have h : y = x := by simpa using h
    subst h
    exact ⟨rfl, rfl⟩
  | y :: l, s, i + 1, x, h => by
    have := ex_get (f := f) (g := g) (l := l) (s := s + 1) (i := i) (x := x) (by simpa using h)
    rw [List.zipIdx_cons, List.flatMap_cons]
    have e : s + 1 + i = s + (i + 1) := by omega
    rw [e] at this
    exact this
structure Cnd (T0 : Tab) (L : Str) : Prop where
  wf : Wf T0
  n4 : T0.n ≤ 4
  tot : T0.acts.length ≤ 12
  nm : ∀ s, ∀ e ∈ T0.row s, Nm 14 e.1.1 ∧ Nm 14 e.1.2.1 ∧ Nm 14 e.1.2.2 ∧ e.1.1 ≠ L ∧ e.1.2.1 ≠ L
section
variable {T0 : Tab} {L : Str} (H : Cnd T0 L)
theorem mem_edges {k : Nat} {e : Edg} : e ∈ edgesTo T0 k ↔ e.1 < k ∧ e.2 ∈ T0.row e.1 := by
  unfold edgesTo
  rw [List.mem_flatMap]
  constructor
  · rintro ⟨i, hi, he⟩
    obtain ⟨x, hx, rfl⟩ := List.mem_map.mp he
    exact ⟨List.mem_range.mp hi, hx⟩
  · rintro ⟨h1, h2⟩
    exact ⟨e.1, List.mem_range.mpr h1, List.mem_map.mpr ⟨e.2, h2, rfl⟩⟩
theorem edges_succ (T0 : Tab) (k : Nat) : edgesTo T0 (k + 1) = edgesTo T0 k ++ (T0.row k).map fun e => (k, e) := by
  unfold edgesTo
  rw [List.range_succ, List.flatMap_append, List.flatMap_singleton]
theorem edges_len (T0 : Tab) : (edgesOf T0).length = T0.acts.length := by
  unfold edgesOf edgesTo Tab.acts
  rw [List.length_flatMap, List.length_flatMap]
  congr 1
  refine List.ext_getElem? fun i => ?_
  rw [List.getElem?_map, List.getElem?_map]
  by_cases hi : i < T0.rows.length
  · have e1 : (List.range T0.n)[i]? = some i := List.getElem?_range hi
    rw [e1, List.getElem?_eq_getElem hi]
    show some ((T0.row i).map _).length = some (T0.rows[i].map _).length
    unfold Tab.row
    rw [List.getD_eq_getElem?_getD, List.getElem?_eq_getElem hi, List.length_map, List.length_map]
    rfl
  · rw [List.getElem?_eq_none (show (List.range T0.n).length ≤ i by rw [List.length_range]; exact Nat.le_of_not_lt hi), List.getElem?_eq_none (Nat.le_of_not_lt hi)]
    rfl
theorem cnd_n (T0 : Tab) (L : Str) : (cndT T0 L).n = T0.n + 2 * (edgesOf T0).length := by
  show ((List.range T0.n).map _ ++ (exRows T0.n L (edgesOf T0)).map srtE).length = _
  rw [List.length_append, List.length_map, List.length_range, List.length_map]
  unfold exRows
  rw [ex_len fun _ => rfl]
theorem cnd_base (T0 : Tab) (L : Str) {k : Nat} (hk : k < T0.n) : (cndT T0 L).row k = srtE (baseRow T0.n L (edgesOf T0) k) := by
  unfold Tab.row cndT
  rw [List.getD_eq_getElem?_getD, List.getElem?_append_left (by rw [List.length_map, List.length_range]; exact hk), List.getElem?_map, List.getElem?_range hk]
  rfl
theorem cnd_ex (T0 : Tab) (L : Str) (j : Nat) : (cndT T0 L).row (T0.n + j) = (((exRows T0.n L (edgesOf T0)).map srtE)[j]?).getD [] := by
  unfold Tab.row cndT
  rw [List.getD_eq_getElem?_getD, List.getElem?_append_right (by rw [List.length_map, List.length_range]; omega), List.length_map, List.length_range, Nat.add_sub_cancel_left]
theorem cnd_P {T0 : Tab} {L : Str} {i : Nat} {e : Edg} (h : (edgesOf T0)[i]? = some e) : (cndT T0 L).row (T0.n + 2 * i) = [(e.2.1, T0.n + 2 * i + 1)] := by
  rw [cnd_ex, List.getElem?_map]
  unfold exRows
  rw [(ex_get (f := fun p : Edg × Nat => [(p.1.2.1, T0.n + 2 * p.2 + 1)]) (g := fun p => [(actR L p.1.2.1, p.1.2.2)]) h).1]
  show srtE _ = _
  rw [srtE_one, Nat.zero_add]
theorem cnd_Q {T0 : Tab} {L : Str} {i : Nat} {e : Edg} (h : (edgesOf T0)[i]? = some e) : (cndT T0 L).row (T0.n + 2 * i + 1) = [(actR L e.2.1, e.2.2)] := by
  rw [Nat.add_assoc, cnd_ex, List.getElem?_map]
  unfold exRows
  rw [(ex_get (f := fun p : Edg × Nat => [(p.1.2.1, T0.n + 2 * p.2 + 1)]) (g := fun p => [(actR L p.1.2.1, p.1.2.2)]) h).2]
  show srtE _ = _
  rw [srtE_one]
theorem cnd_place {T0 : Tab} {L : Str} {s : Nat} (h : s < (cndT T0 L).n) : s < T0.n ∨ ∃ i e, (edgesOf T0)[i]? = some e ∧ (s = T0.n + 2 * i ∨ s = T0.n + 2 * i + 1) := by
  rw [cnd_n] at h
  by_cases hs : s < T0.n
  · exact .inl hs
  · have hi : (s - T0.n) / 2 < (edgesOf T0).length := by omega
    exact .inr ⟨(s - T0.n) / 2, _, List.getElem?_eq_getElem hi, by omega⟩
theorem mem_base {n : Nat} {L : Str} {E : List Edg} {k : Nat} {x : Act × Nat} : x ∈ baseRow n L E k ↔ ∃ i e, E[i]? = some e ∧ e.1 = k ∧ x = (actL L e.2.1, n + 2 * i) := by
  unfold baseRow
  rw [List.mem_map]
  constructor
  · rintro ⟨p, hp, rfl⟩
    obtain ⟨h1, h2⟩ := List.mem_filter.mp hp
    exact ⟨p.2, p.1, List.mem_zipIdx_iff_getElem?.mp h1, of_decide_eq_true h2, rfl⟩
  · rintro ⟨i, e, h1, h2, rfl⟩
    exact ⟨(e, i), List.mem_filter.mpr ⟨List.mem_zipIdx_iff_getElem?.mpr h1, decide_eq_true h2⟩, rfl⟩
include H
theorem Cnd.edge {i : Nat} {e : Edg} (h : (edgesOf T0)[i]? = some e) : e.1 < T0.n ∧ e.2 ∈ T0.row e.1 ∧ e.2.2 < T0.n := by
  obtain ⟨h1, h2⟩ := mem_edges.mp (List.mem_of_getElem? h)
  exact ⟨h1, h2, (H.wf.row' _).2.2 _ h2⟩
theorem Cnd.injL {s s' : Nat} {e e' : Act × Nat} (h : e ∈ T0.row s) (h' : e' ∈ T0.row s') (q : actL L e.1 = actL L e'.1) : e.1 = e'.1 := by
  have q1 := congrArg (fun a : Act => a.2.1) q
  have q2 := congrArg (fun a : Act => a.2.2) q
  obtain ⟨e1, e2⟩ := dot_inj (H.nm s e h).2.2.1 (H.nm s' e' h').2.2.1 q2
  exact Prod.ext q1 (Prod.ext e2 e1)
theorem Cnd.injR {s s' : Nat} {e e' : Act × Nat} (h : e ∈ T0.row s) (h' : e' ∈ T0.row s') (q : actR L e.1 = actR L e'.1) : e.1 = e'.1 := by
  have q1 := congrArg (fun a : Act => a.1) q
  have q2 := congrArg (fun a : Act => a.2.2) q
  obtain ⟨e1, e2⟩ := dot_inj (H.nm s e h).2.2.1 (H.nm s' e' h').2.2.1 q2
  exact Prod.ext e2 (Prod.ext q1 e1)
theorem Cnd.len : (edgesOf T0).length ≤ 12 := by rw [edges_len]; exact H.tot
end
/-! ### conducted: its steps -/
theorem conc_L1 (a : Act) (L : Str) : conc (actL L a) L = true := conc_iff.mpr (.inl rfl)
theorem conc_L2 (a : Act) (L : Str) : conc (actL L a) a.1 = true := conc_iff.mpr (.inr rfl)
theorem conc_R (a : Act) (L : Str) : conc (actR L a) L = true := conc_iff.mpr (.inr rfl)
theorem conc_M (a : Act) (L : Str) : conc a (actR L a).1 = true := conc_iff.mpr (.inr rfl)
section
variable {T0 : Tab} {L : Str}
/-- the three kinds of steps -/
inductive St3 (T0 : Tab) (L : Str) (s : Nat) (c : Act) (g : Nat) : Prop
  | l (i : Nat) (e : Edg) (h : (edgesOf T0)[i]? = some e) (hs : s = e.1) (hc : c = actL L e.2.1) (hg : g = T0.n + 2 * i)
  | m (i : Nat) (e : Edg) (h : (edgesOf T0)[i]? = some e) (hs : s = T0.n + 2 * i) (hc : c = e.2.1) (hg : g = T0.n + 2 * i + 1)
  | r (i : Nat) (e : Edg) (h : (edgesOf T0)[i]? = some e) (hs : s = T0.n + 2 * i + 1) (hc : c = actR L e.2.1) (hg : g = e.2.2)
theorem cnd_row {s : Nat} {x : Act × Nat} (h : x ∈ (cndT T0 L).row s) : St3 T0 L s x.1 x.2 := by
  by_cases hs : s < (cndT T0 L).n
  · rcases cnd_place hs with hk | ⟨i, e, he, rfl | rfl⟩
    · rw [cnd_base T0 L hk] at h
      obtain ⟨i, e, he, rfl, rfl⟩ := mem_base.mp ((srtE_perm _).mem_iff.mp h)
      exact .l i e he rfl rfl rfl
    · rw [cnd_P he, List.mem_singleton] at h
      subst h
      exact .m i e he rfl rfl rfl
    · rw [cnd_Q he, List.mem_singleton] at h
      subst h
      exact .r i e he rfl rfl rfl
  · unfold Tab.row at h
    rw [List.getD_eq_getElem?_getD, List.getElem?_eq_none (Nat.le_of_not_lt hs)] at h
    cases h
theorem cnd_step {s g : Nat} {c : Act} (h : (cndT T0 L).step s c = some g) : St3 T0 L s c g := cnd_row (look_mem h)
theorem edges_pair (hT : Wf T0) : ∀ k, (edgesTo T0 k).Pairwise fun e e' => e.1 = e'.1 → e.2.1 ≠ e'.2.1
  | 0 => List.Pairwise.nil
  | k + 1 => by
    rw [edges_succ]
    refine List.pairwise_append.mpr ⟨edges_pair hT k, ?_, fun e he e' he' z => ?_⟩
    · rw [List.pairwise_map]
      have := (hT.row' k).2.1
      unfold List.Nodup at this
      rw [List.pairwise_map] at this
      refine List.Pairwise.imp ?_ this
      intro a b h _
      exact h
    · have h1 := (mem_edges.mp he).1
      obtain ⟨x, _, rfl⟩ := List.mem_map.mp he'
      have z : e.1 = k := z
      omega
theorem zip_filter {α β : Type} (q : α → Bool) (g : α → β) (l : List α) : (l.zipIdx.filter fun p => q p.1).map (fun p => g p.1) = (l.filter q).map g := by
  have e : l = l.zipIdx.map Prod.fst := (List.zipIdx_map_fst 0 l).symm
  conv => rhs; rw [e]
  rw [List.filter_map, List.map_map]
  rfl
variable (H : Cnd T0 L)
include H
theorem Cnd.baseNd (k : Nat) : ((baseRow T0.n L (edgesOf T0) k).map (·.1)).Nodup := by
  unfold baseRow
  rw [List.map_map]
  have := zip_filter (fun e : Edg => decide (e.1 = k)) (fun e => actL L e.2.1) (edgesOf T0)
  show ((List.filter (fun p => decide (p.1.1 = k)) (edgesOf T0).zipIdx).map fun p => actL L p.1.2.1).Nodup
  rw [this]
  unfold List.Nodup
  rw [List.pairwise_map]
  refine List.Pairwise.imp_of_mem (fun {a b} ha hb hab z => ?_) ((edges_pair H.wf T0.n).filter _)
  obtain ⟨ha1, ha2⟩ := List.mem_filter.mp ha
  obtain ⟨hb1, hb2⟩ := List.mem_filter.mp hb
  have ha2 : a.1 = k := of_decide_eq_true ha2
  have hb2 : b.1 = k := of_decide_eq_true hb2
  exact hab (ha2.trans hb2.symm) (H.injL (mem_edges.mp ha1).2 (mem_edges.mp hb1).2 z)
theorem Cnd.baseLen (k : Nat) : (baseRow T0.n L (edgesOf T0) k).length ≤ 12 := by
  unfold baseRow
  rw [List.length_map]
  refine Nat.le_trans (List.length_filter_le _ _) ?_
  rw [List.length_zipIdx]
  exact H.len
theorem Cnd.size : (cndT T0 L).n ≤ 28 := by
  rw [cnd_n]
  have := H.len
  have := H.n4
  omega
theorem Cnd.wfC : Wf (cndT T0 L) := by
  refine ⟨by rw [cnd_n]; have := H.wf.pos; omega, Nat.le_trans H.size (by omega), ?_, fun r hr => ?_⟩
  · rw [cnd_n]
    show (T0.ends ++ List.replicate _ false).length = _
    rw [List.length_append, List.length_replicate, H.wf.ends]
  · obtain ⟨s, hs, e⟩ := List.getElem_of_mem hr
    have hrow : (cndT T0 L).row s = r := by
      unfold Tab.row
      rw [List.getD_eq_getElem?_getD, List.getElem?_eq_getElem hs]
      exact e
    have hgoal : ∀ e ∈ r, e.2 < (cndT T0 L).n := fun x hx => by
      rw [← hrow] at hx
      rw [cnd_n]
      cases cnd_row hx with
      | l i e h _ _ hg =>
        have := (List.getElem?_eq_some_iff.mp h).1
        omega
      | m i e h _ _ hg =>
        have := (List.getElem?_eq_some_iff.mp h).1
        omega
      | r i e h _ _ hg =>
        have := (H.edge h).2.2
        omega
    rcases cnd_place (L := L) (show s < (cndT T0 L).n from hs) with hk | ⟨i, e, he, rfl | rfl⟩
    · rw [cnd_base T0 L hk] at hrow
      subst hrow
      exact ⟨by rw [(srtE_perm _).length_eq]; exact Nat.le_trans (H.baseLen s) (by omega), nodup_perm_fst (srtE_perm _) (H.baseNd s), hgoal⟩
    · rw [cnd_P he] at hrow
      subst hrow
      exact ⟨by show 1 ≤ 300; omega, by simp, hgoal⟩
    · rw [cnd_Q he] at hrow
      subst hrow
      exact ⟨by show 1 ≤ 300; omega, by simp, hgoal⟩
theorem Cnd.gd : Gd (cndT T0 L) := by
  refine ⟨H.wfC, ?_⟩
  unfold Tab.acts cndT
  rw [List.flatMap_append, List.length_append]
  have h1 := flat_len (f := fun r : Ents => r.map (·.1)) (n := 12) (l := (List.range T0.n).map fun k => srtE (baseRow T0.n L (edgesOf T0) k)) fun r hr => by
    obtain ⟨k, _, rfl⟩ := List.mem_map.mp hr
    rw [List.length_map, (srtE_perm _).length_eq]
    exact H.baseLen k
  have h2 := flat_len (f := fun r : Ents => r.map (·.1)) (n := 1) (l := (exRows T0.n L (edgesOf T0)).map srtE) fun r hr => by
    obtain ⟨x, hx, rfl⟩ := List.mem_map.mp hr
    rw [List.length_map, (srtE_perm _).length_eq]
    obtain ⟨p, _, hp⟩ := List.mem_flatMap.mp hx
    rcases List.mem_cons.mp hp with rfl | hp
    · exact Nat.le_refl _
    · rw [List.mem_singleton.mp hp]
      exact Nat.le_refl _
  have l1 : ((List.range T0.n).map fun k => srtE (baseRow T0.n L (edgesOf T0) k)).length ≤ 4 := by
    rw [List.length_map, List.length_range]
    exact H.n4
  have l2 : ((exRows T0.n L (edgesOf T0)).map srtE).length ≤ 24 := by
    rw [List.length_map]
    unfold exRows
    rw [ex_len fun _ => rfl]
    have := H.len
    omega
  show (List.flatMap _ ((List.range T0.n).map fun k => srtE (baseRow T0.n L (edgesOf T0) k))).length + (List.flatMap _ ((exRows T0.n L (edgesOf T0)).map srtE)).length ≤ 300
  refine Nat.le_trans (Nat.add_le_add h1 h2) ?_
  omega
theorem Cnd.stepL {i : Nat} {e : Edg} (h : (edgesOf T0)[i]? = some e) : (cndT T0 L).step e.1 (actL L e.2.1) = some (T0.n + 2 * i) := by
  refine mem_look (H.wfC.row' _).2.1 ?_
  rw [cnd_base T0 L (H.edge h).1]
  exact (srtE_perm _).mem_iff.mpr (mem_base.mpr ⟨i, e, h, rfl, rfl⟩)
omit H in
theorem cnd_stepM {i : Nat} {e : Edg} (h : (edgesOf T0)[i]? = some e) : (cndT T0 L).step (T0.n + 2 * i) e.2.1 = some (T0.n + 2 * i + 1) := by
  unfold Tab.step
  rw [cnd_P h, look_cons, if_pos rfl]
omit H in
theorem cnd_stepR {i : Nat} {e : Edg} (h : (edgesOf T0)[i]? = some e) : (cndT T0 L).step (T0.n + 2 * i + 1) (actR L e.2.1) = some e.2.2 := by
  unfold Tab.step
  rw [cnd_Q h, look_cons, if_pos rfl]
/-- no party of the table is the leader -/
theorem Cnd.nl {i : Nat} {e : Edg} (h : (edgesOf T0)[i]? = some e) : e.2.1.1 ≠ L ∧ e.2.1.2.1 ≠ L := (H.nm _ _ (H.edge h).2.1).2.2.2
theorem Cnd.afterL {i : Nat} {e : Edg} (h : (edgesOf T0)[i]? = some e) {s g : Nat} (hs : (cndT T0 L).step s (actL L e.2.1) = some g) : ∃ j e', (edgesOf T0)[j]? = some e' ∧ e'.2.1 = e.2.1 ∧ g = T0.n + 2 * j := by
  cases cnd_step hs with
  | l j e' h' _ hc hg => exact ⟨j, e', h', (H.injL (H.edge h').2.1 (H.edge h).2.1 hc.symm), hg⟩
  | m j e' h' _ hc hg => exact absurd (congrArg (fun a : Act => a.1) hc).symm (H.nl h').1
  | r j e' h' _ hc hg => exact absurd (congrArg (fun a : Act => a.2.1) hc) (H.nl h).1
theorem Cnd.afterM {i : Nat} {e : Edg} (h : (edgesOf T0)[i]? = some e) {s g : Nat} (hs : (cndT T0 L).step s e.2.1 = some g) : ∃ j e', (edgesOf T0)[j]? = some e' ∧ e'.2.1 = e.2.1 ∧ g = T0.n + 2 * j + 1 := by
  cases cnd_step hs with
  | l j e' h' _ hc hg => exact absurd (congrArg (fun a : Act => a.1) hc) (H.nl h).1
  | m j e' h' _ hc hg => exact ⟨j, e', h', hc.symm, hg⟩
  | r j e' h' _ hc hg => exact absurd (congrArg (fun a : Act => a.2.1) hc) (H.nl h).2
theorem Cnd.fromP {i : Nat} {e : Edg} (h : (edgesOf T0)[i]? = some e) {b : Act} {g : Nat} (hs : (cndT T0 L).step (T0.n + 2 * i) b = some g) : b = e.2.1 ∧ g = T0.n + 2 * i + 1 := by
  have := look_mem hs
  rw [cnd_P h, List.mem_singleton] at this
  exact ⟨congrArg Prod.fst this, congrArg Prod.snd this⟩
theorem Cnd.fromQ {i : Nat} {e : Edg} (h : (edgesOf T0)[i]? = some e) {b : Act} {g : Nat} (hs : (cndT T0 L).step (T0.n + 2 * i + 1) b = some g) : b = actR L e.2.1 ∧ g = e.2.2 := by
  have := look_mem hs
  rw [cnd_Q h, List.mem_singleton] at this
  exact ⟨congrArg Prod.fst this, congrArg Prod.snd this⟩
/-! ### what the leader sees -/
theorem Cnd.unB {k y : Nat} (hk : k < T0.n) (h : Un (cndT T0 L) L k y) : y = k := by
  induction h with
  | refl => rfl
  | @tail t e _ h2 h3 ih =>
    subst ih
    cases cnd_row h2 with
    | l i x h _ hc _ =>
      rw [hc, conc_L1] at h3
      cases h3
    | m i x h hs _ _ => omega
    | r i x h hs _ _ => omega
theorem Cnd.unP {i : Nat} {e : Edg} (h : (edgesOf T0)[i]? = some e) {y : Nat} (hu : Un (cndT T0 L) L (T0.n + 2 * i) y) : y = T0.n + 2 * i ∨ y = T0.n + 2 * i + 1 := by
  induction hu with
  | refl => exact .inl rfl
  | @tail t x _ h2 h3 ih =>
    rcases ih with rfl | rfl
    · rw [cnd_P h, List.mem_singleton] at h2
      rw [h2]
      exact .inr rfl
    · rw [cnd_Q h, List.mem_singleton] at h2
      rw [h2] at h3
      have h3 : conc (actR L e.2.1) L = false := h3
      rw [conc_R] at h3
      cases h3
theorem Cnd.svL (v : List Act) : (∀ a ∈ v, conc a L = true) → (∃ k, k < T0.n ∧ ∀ y, sv (cndT T0 L) L v y → y = k) ∨ ∃ i e, (edgesOf T0)[i]? = some e ∧ ∀ y, sv (cndT T0 L) L v y → y = T0.n + 2 * i ∨ y = T0.n + 2 * i + 1 := by
  generalize hn : v.length = n
  induction n generalizing v with
  | zero =>
    intro _
    rw [List.length_eq_zero_iff.mp hn]
    exact .inl ⟨0, H.wf.pos, fun y hy => H.unB H.wf.pos hy⟩
  | succ n ih =>
    intro hc
    rcases List.eq_nil_or_concat v with rfl | ⟨v, a, rfl⟩
    · cases hn
    · rw [List.concat_eq_append] at hn hc ⊢
      have ha : conc a L = true := hc a (by simp)
      rw [sv_snoc]
      rcases ih v (by simpa using hn) (fun b hb => hc b (by simp [hb])) with ⟨k, hk, h⟩ | ⟨i, e, he, h⟩
      · cases q : (cndT T0 L).step k a with
        | none => exact .inl ⟨k, hk, fun y ⟨s, hs, g, hg, _⟩ => by
            rw [h s hs, q] at hg
            cases hg⟩
        | some x =>
          cases cnd_step q with
          | l i e he _ _ hx =>
            refine .inr ⟨i, e, he, fun y ⟨s, hs, g, hg, hu⟩ => ?_⟩
            rw [h s hs, q] at hg
            cases hg
            subst hx
            exact H.unP he hu
          | m i e he hs _ _ => omega
          | r i e he hs _ _ => omega
      · refine .inl ⟨e.2.2, (H.edge he).2.2, fun y ⟨s, hs, g, hg, hu⟩ => ?_⟩
        rcases h s hs with rfl | rfl
        · obtain ⟨rfl, _⟩ := H.fromP he hg
          obtain ⟨n1, n2⟩ := H.nl he
          rcases conc_iff.mp ha with z | z
          · exact absurd z n1
          · exact absurd z n2
        · obtain ⟨_, rfl⟩ := H.fromQ he hg
          exact H.unB (H.edge he).2.2 hu
end
/-! ### ready -/
theorem last_view {T : Tab} {p : Str} {c : Act} {u : List Act} (hn : ∀ z g, T.step z c = some g → ∀ b h, T.step g b = some h → conc b p = true) {r : List Act} : ∀ {s : Nat}, T.walk r = some s → view r p = u ++ [c] → ∃ r1, r = r1 ++ [c] := by
  generalize hl : r.length = n
  induction n generalizing r with
  | zero =>
    intro s _ h
    rw [List.length_eq_zero_iff.mp hl] at h
    have := congrArg List.length h
    simp [view] at this
  | succ n ih =>
    intro s hw hv
    rcases List.eq_nil_or_concat r with rfl | ⟨r, b, rfl⟩
    · cases hl
    · rw [List.concat_eq_append] at hw hv hl ⊢
      obtain ⟨z, h1, h2⟩ := snoc_some hw
      rw [view_snoc] at hv
      by_cases hc : conc b p = true
      · rw [if_pos hc] at hv
        have := (List.append_inj' hv rfl).2
        have : b = c := by simpa using this
        exact ⟨r, by rw [this]⟩
      · rw [if_neg hc] at hv
        obtain ⟨r1, rfl⟩ := ih (by simpa using hl) h1 hv
        obtain ⟨z0, _, h4⟩ := snoc_some h1
        exact absurd (hn z0 z h4 b s h2) hc
theorem walk_to {T : Tab} {r : List Act} {s z : Nat} {a : Act} (h : T.walk r = some s) (k : T.step s a = some z) : ∃ z, T.walk (r ++ [a]) = some z := ⟨z, by rw [T.walk_snoc, h]; exact k⟩
theorem Cnd.ready {T0 : Tab} {L : Str} (H : Cnd T0 L) : Ready (cndT T0 L) := by
  intro r s o a hr hv ⟨z, hz⟩
  obtain ⟨t, ht, hta⟩ := snoc_some hz
  have last : ∀ {q : Nat}, T0.n ≤ q → t = q → ∃ o' c t', o = o' ++ [c] ∧ (cndT T0 L).walk o' = some t' ∧ (cndT T0 L).step t' c = some q := by
    intro q hq e
    rcases List.eq_nil_or_concat o with rfl | ⟨o, c, rfl⟩
    · cases ht
      have := H.wf.pos
      omega
    · rw [List.concat_eq_append] at ht ⊢
      obtain ⟨t', h1, h2⟩ := snoc_some ht
      exact ⟨o, c, t', rfl, h1, e ▸ h2⟩
  cases cnd_step hta with
  | l i e he hs hc hg =>
    subst hc
    have hv : view o L = view r L := hv
    have h1 := sv_run L ht
    have h2 := sv_run L hr
    rw [hv] at h1
    have htn : t < T0.n := by rw [hs]; exact (H.edge he).1
    rcases H.svL (view r L) (view_conc r L) with ⟨k, hk, h⟩ | ⟨j, x, hx, h⟩
    · have e1 := h _ h1
      have e2 := h _ h2
      rw [e1.trans e2.symm] at hta
      exact walk_to hr hta
    · have := h _ h1
      omega
  | m i e he hs hc hg =>
    subst hc
    obtain ⟨o', c, t', rfl, h1, h2⟩ := last (by omega) hs
    have hcL : c = actL L e.2.1 := by
      cases cnd_step h2 with
      | l j x hx _ hc hg =>
        have : i = j := by omega
        subst this
        rw [he] at hx
        cases hx
        exact hc
      | m j x hx _ hc hg => omega
      | r j x hx _ hc hg =>
        have := (H.edge hx).2.2
        omega
    subst hcL
    rw [view_snoc, if_pos (conc_L2 _ _)] at hv
    obtain ⟨r1, rfl⟩ := last_view (fun z g hzg b h hb => by
      obtain ⟨j, x, hx, e1, rfl⟩ := H.afterL he hzg
      obtain ⟨rfl, _⟩ := H.fromP hx hb
      rw [e1]
      exact conc_self _) hr hv.symm
    obtain ⟨z1, _, h4⟩ := snoc_some hr
    obtain ⟨j, x, hx, e1, rfl⟩ := H.afterL he h4
    have hs2 := cnd_stepM (L := L) hx
    rw [e1] at hs2
    exact walk_to hr hs2
  | r i e he hs hc hg =>
    subst hc
    obtain ⟨o', c, t', rfl, h1, h2⟩ := last (by omega) hs
    have hcM : c = e.2.1 := by
      cases cnd_step h2 with
      | l j x hx _ hc hg => omega
      | m j x hx _ hc hg =>
        have : i = j := by omega
        subst this
        rw [he] at hx
        cases hx
        exact hc
      | r j x hx _ hc hg =>
        have := (H.edge hx).2.2
        omega
    subst hcM
    rw [view_snoc, if_pos (conc_M _ _)] at hv
    obtain ⟨r1, rfl⟩ := last_view (fun z g hzg b h hb => by
      obtain ⟨j, x, hx, e1, rfl⟩ := H.afterM he hzg
      obtain ⟨rfl, _⟩ := H.fromQ hx hb
      rw [e1]
      exact conc_self _) hr hv.symm
    obtain ⟨z1, _, h4⟩ := snoc_some hr
    obtain ⟨j, x, hx, e1, rfl⟩ := H.afterM he h4
    have hs2 := cnd_stepR (L := L) hx
    rw [e1] at hs2
    exact walk_to hr hs2
/-! ### conducted: few sights -/
theorem countP_flat {α β : Type} {p : β → Bool} {q : α → Bool} {f : α → List β} : ∀ {l : List α}, (∀ x ∈ l, (f x).countP p ≤ if q x = true then 1 else 0) → (l.flatMap f).countP p ≤ l.countP q
  | [], _ => Nat.le_refl _
  | x :: l, h => by
    rw [List.flatMap_cons, List.countP_append, List.countP_cons]
    have h1 := h x (by simp)
    have h2 := countP_flat (p := p) (q := q) (f := f) (l := l) fun y hy => h y (by simp [hy])
    omega
theorem countP_one {α : Type} {p : α → Bool} {l : List α} (h : l.Pairwise fun a b => ¬ (p a = true ∧ p b = true)) : l.countP p ≤ 1 := by
  induction l with
  | nil => exact Nat.zero_le _
  | cons x l ih =>
    rw [List.pairwise_cons] at h
    rw [List.countP_cons]
    by_cases hx : p x = true
    · rw [if_pos hx]
      have : l.countP p = 0 := List.countP_eq_zero.mpr fun y hy hp => h.1 y hy ⟨hx, hp⟩
      omega
    · rw [if_neg hx]
      exact ih h.2
theorem edges_count {T0 : Tab} (hT : Wf T0) (a : Act) : (edgesOf T0).countP (fun e => decide (e.2.1 = a)) ≤ T0.n := by
  have := countP_flat (p := fun e : Edg => decide (e.2.1 = a)) (q := fun _ => true) (f := fun k => (T0.row k).map fun e => (k, e)) (l := List.range T0.n) fun k _ => by
    rw [if_pos rfl]
    refine countP_one ?_
    rw [List.pairwise_map]
    have hn := (hT.row' k).2.1
    unfold List.Nodup at hn
    rw [List.pairwise_map] at hn
    refine List.Pairwise.imp ?_ hn
    rintro x y h ⟨h1, h2⟩
    have h1 : x.1 = a := of_decide_eq_true h1
    have h2 : y.1 = a := of_decide_eq_true h2
    exact h (h1.trans h2.symm)
  refine Nat.le_trans this ?_
  refine Nat.le_trans List.countP_le_length ?_
  rw [List.length_range]
  exact Nat.le_refl _
def cndEs (T0 : Tab) (L : Str) : List Edg := (edgesOf T0).zipIdx.flatMap fun p => [(p.1.1, actL L p.1.2.1, T0.n + 2 * p.2), (T0.n + 2 * p.2, p.1.2.1, T0.n + 2 * p.2 + 1), (T0.n + 2 * p.2 + 1, actR L p.1.2.1, p.1.2.2)]
theorem len3 {α β : Type} {f g h : α → β} : ∀ l : List α, (l.flatMap fun p => [f p, g p, h p]).length = 3 * l.length
  | [] => rfl
  | x :: l => by
    rw [List.flatMap_cons, List.length_append, len3 l, List.length_cons (a := x)]
    show 3 + 3 * l.length = 3 * (l.length + 1)
    omega
theorem countP_three {a b c : Edg} {p : Edg → Bool} {n : Nat} (h1 : p a = true → 1 ≤ n) (h2 : p b = true → 1 ≤ n) (h3 : p c = true → 1 ≤ n) (h12 : ¬ (p a = true ∧ p b = true)) (h13 : ¬ (p a = true ∧ p c = true)) (h23 : ¬ (p b = true ∧ p c = true)) : [a, b, c].countP p ≤ n := by
  rw [List.countP_cons, List.countP_cons, List.countP_cons, List.countP_nil]
  cases ea : p a <;> cases eb : p b <;> cases ec : p c <;> simp_all
theorem Cnd.counts {T0 : Tab} {L : Str} (H : Cnd T0 L) (a : Act) : (cndEs T0 L).countP (fun e => decide (e.2.1 = a)) ≤ 4 := by
  have hex : ∃ a' : Act, ∀ p ∈ (edgesOf T0).zipIdx, (actL L p.1.2.1 = a → p.1.2.1 = a') ∧ (p.1.2.1 = a → p.1.2.1 = a') ∧ (actR L p.1.2.1 = a → p.1.2.1 = a') := by
    have hne : ∀ p ∈ (edgesOf T0).zipIdx, p.1.2.1.1 ≠ L ∧ p.1.2.1.2.1 ≠ L := fun p hp => H.nl (List.mem_zipIdx_iff_getElem?.mp hp)
    have hed : ∀ p ∈ (edgesOf T0).zipIdx, p.1.2 ∈ T0.row p.1.1 := fun p hp => (H.edge (List.mem_zipIdx_iff_getElem?.mp hp)).2.1
    by_cases hL : ∃ p ∈ (edgesOf T0).zipIdx, actL L p.1.2.1 = a
    · obtain ⟨p0, hp0, e0⟩ := hL
      refine ⟨p0.1.2.1, fun p hp => ⟨fun e => H.injL (hed p hp) (hed p0 hp0) (e.trans e0.symm), fun e => ?_, fun e => ?_⟩⟩
      · exact absurd (congrArg (fun a : Act => a.1) (e.trans e0.symm)) (hne p hp).1
      · exact absurd (congrArg (fun a : Act => a.2.1) (e.trans e0.symm)).symm (hne p0 hp0).1
    · by_cases hR : ∃ p ∈ (edgesOf T0).zipIdx, actR L p.1.2.1 = a
      · obtain ⟨p0, hp0, e0⟩ := hR
        refine ⟨p0.1.2.1, fun p hp => ⟨fun e => absurd ⟨p, hp, e⟩ hL, fun e => ?_, fun e => H.injR (hed p hp) (hed p0 hp0) (e.trans e0.symm)⟩⟩
        exact absurd (congrArg (fun a : Act => a.2.1) (e.trans e0.symm)) (hne p hp).2
      · exact ⟨a, fun p hp => ⟨fun e => absurd ⟨p, hp, e⟩ hL, fun e => e, fun e => absurd ⟨p, hp, e⟩ hR⟩⟩
  obtain ⟨a', ha'⟩ := hex
  have h1 := countP_flat (p := fun e : Edg => decide (e.2.1 = a)) (q := fun p : Edg × Nat => decide (p.1.2.1 = a')) (f := fun p => [(p.1.1, actL L p.1.2.1, T0.n + 2 * p.2), (T0.n + 2 * p.2, p.1.2.1, T0.n + 2 * p.2 + 1), (T0.n + 2 * p.2 + 1, actR L p.1.2.1, p.1.2.2)]) (l := (edgesOf T0).zipIdx) fun p hp => by
    obtain ⟨q1, q2, q3⟩ := ha' p hp
    obtain ⟨n1, n2⟩ := H.nl (List.mem_zipIdx_iff_getElem?.mp hp)
    refine countP_three (fun h => ?_) (fun h => ?_) (fun h => ?_) (fun ⟨h, k⟩ => ?_) (fun ⟨h, k⟩ => ?_) (fun ⟨h, k⟩ => ?_)
    · rw [if_pos (decide_eq_true (q1 (of_decide_eq_true h)))]
      exact Nat.le_refl _
    · rw [if_pos (decide_eq_true (q2 (of_decide_eq_true h)))]
      exact Nat.le_refl _
    · rw [if_pos (decide_eq_true (q3 (of_decide_eq_true h)))]
      exact Nat.le_refl _
    · have z : actL L p.1.2.1 = p.1.2.1 := (of_decide_eq_true h).trans (of_decide_eq_true k).symm
      exact n1 (congrArg (fun a : Act => a.1) z).symm
    · have z : actL L p.1.2.1 = actR L p.1.2.1 := (of_decide_eq_true h).trans (of_decide_eq_true k).symm
      exact n1 (congrArg (fun a : Act => a.2.1) z)
    · have z : p.1.2.1 = actR L p.1.2.1 := (of_decide_eq_true h).trans (of_decide_eq_true k).symm
      exact n2 (congrArg (fun a : Act => a.2.1) z)
  have h2 : (edgesOf T0).zipIdx.countP (fun p : Edg × Nat => decide (p.1.2.1 = a')) = (edgesOf T0).countP fun e => decide (e.2.1 = a') := by
    conv => rhs; rw [← List.zipIdx_map_fst 0 (edgesOf T0)]
    rw [List.countP_map]
    rfl
  rw [h2] at h1
  exact Nat.le_trans h1 (Nat.le_trans (edges_count H.wf a') H.n4)
theorem Cnd.allFew {T0 : Tab} {L : Str} (H : Cnd T0 L) : AllFew (cndT T0 L) := by
  refine ⟨H.gd, fun p _ => few_edges (cndEs T0 L) (fun s a g h => ?_) (fun e he => ?_) H.counts ?_⟩
  · refine List.mem_flatMap.mpr ?_
    cases cnd_step h with
    | l i e he hs hc hg =>
      refine ⟨(e, i), List.mem_zipIdx_iff_getElem?.mpr he, ?_⟩
      rw [hs, hc, hg]
      simp
    | m i e he hs hc hg =>
      refine ⟨(e, i), List.mem_zipIdx_iff_getElem?.mpr he, ?_⟩
      rw [hs, hc, hg]
      simp
    | r i e he hs hc hg =>
      refine ⟨(e, i), List.mem_zipIdx_iff_getElem?.mpr he, ?_⟩
      rw [hs, hc, hg]
      simp
  · obtain ⟨q, hq, he⟩ := List.mem_flatMap.mp he
    have hq := List.mem_zipIdx_iff_getElem?.mp hq
    rcases List.mem_cons.mp he with rfl | he
    · exact H.stepL (e := q.1) hq
    · rcases List.mem_cons.mp he with rfl | he
      · exact cnd_stepM (e := q.1) hq
      · rw [List.mem_singleton.mp he]
        exact cnd_stepR (e := q.1) hq
  · unfold cndEs
    rw [len3, List.length_zipIdx]
    have := H.len
    omega
/-! ### _law_beside -/
theorem eqOk_ent (a b : Act × Nat) : eqOk (dE a) (dE b) = true := by
  simp [eqOk, dE, dA, dN, PySem.W.alike, PySem.W.alikeAll, noDict, noDicts, PyData.depth, PyData.depthAll]
theorem srtOk_ent (F : Ents) : SrtOk (F.map dE) := by
  refine ⟨fun d hd e he => ?_, .inl fun d hd => ?_, fun d hd => ?_, fun d hd => ?_⟩
  · obtain ⟨a, _, rfl⟩ := List.mem_map.mp hd
    obtain ⟨b, _, rfl⟩ := List.mem_map.mp he
    exact (eqOk_of (eqOk_ent _ _)).1
  · obtain ⟨a, _, rfl⟩ := List.mem_map.mp hd
    exact ⟨_, _, rfl⟩
  · obtain ⟨a, _, rfl⟩ := List.mem_map.mp hd
    exact (eqOk_of (eqOk_ent a a)).2.1
  · obtain ⟨a, _, rfl⟩ := List.mem_map.mp hd
    exact (eqOk_of (eqOk_ent a a)).2.2.2
structure pBes (x : Tab × Tab) : Prop where
  wf1 : Wf x.1
  wf2 : Wf x.2
  n1 : x.1.n ≤ 3
  n2 : x.2.n ≤ 3
def aBes (x : Tab × Tab) : List D := [dT x.1, dT x.2]
def qBes (x : Tab × Tab) (d : D) : Prop := d = dT (besT x.1 x.2)
def mB (T1 T2 : Tab) (i : Nat) : List Ct := [.lst ((((List.range i).map (rowB T1 T2)).map dRow).map .dat), .lst ((((List.range i).map (endB T1 T2)).map .bool).map .dat)]
theorem rd__law_beside {K : PySem.W.Frag} {P : Program} {w : World} {N : List Str} (hN : N.length = 10) : ∀ vs H Q E, spI P w aBes pBes qBes vs H Q E → t__law_beside K P w { nx := fun _ H' => Q .non H', rt := Q } (L2.start N vs) H := by
  refine fnI fun G x hp => ⟨by rw [hN]; show 2 ≤ 10; decide, ?_⟩
  rw [hN]
  obtain ⟨T1, T2⟩ := x
  obtain ⟨wf1, wf2, n1, n2⟩ := hp
  dsimp only at wf1 wf2 n1 n2
  show AST P w G (t__law_beside K P w) ⟨[some (.dat (dT T1)), some (.dat (dT T2)), none, none, none, none, none, none, none, none], []⟩ _
  unfold t__law_beside
  have hr1 : (T1.rows.map dRow).length = T1.n := by rw [List.length_map]; rfl
  have hr2 : (T2.rows.map dRow).length = T2.n := by rw [List.length_map]; rfl
  walk_at "e"
  refine ar_lenQ (ds := T2.rows.map dRow) rfl ?_
  rw [hr2]
  show AST P w G _ ⟨[some (.dat (dT T1)), some (.dat (dT T2)), some (.dat (dN T2.n)), none, none, none, none, none, none, none], []⟩ _
  walk_at "e"
  refine ae_lst ?_
  walk_at "e"
  refine ⟨Nat.zero_le _, ?_⟩
  walk_at "e"
  refine ae_lst ?_
  walk_at "e"
  refine ⟨Nat.zero_le _, ?_⟩
  show AST P w G _ ⟨[some (.dat (dT T1)), some (.dat (dT T2)), some (.dat (dN T2.n)), some (.own 0), some (.own 1), none, none, none, none, none], mB T1 T2 0⟩ _
  refine as_seq (as_forR ?_)
  walk_at "e"
  refine ar_lenQ (ds := T1.rows.map dRow) rfl ?_
  rw [hr1]
  refine aa_nil ⟨T1.n, rfl, by omega, fun k st => ∃ x5 x6 x7 x8 x9, st = ⟨[some (.dat (dT T1)), some (.dat (dT T2)), some (.dat (dN T2.n)), some (.own 0), some (.own 1), x5, x6, x7, x8, x9], mB T1 T2 (k * T2.n)⟩, ⟨_, _, _, _, _, by rw [Nat.zero_mul]⟩, ?_, ?_⟩
  · rintro k st hk ⟨x5, x6, x7, x8, x9, rfl⟩
    refine ag_name ?_
    refine as_forR ?_
    walk_at "e"
    refine ⟨T2.n, rfl, by omega, fun j st => ∃ x6 x7 x8 x9, st = ⟨[some (.dat (dT T1)), some (.dat (dT T2)), some (.dat (dN T2.n)), some (.own 0), some (.own 1), some (.dat (dN k)), x6, x7, x8, x9], mB T1 T2 (k * T2.n + j)⟩, ⟨_, _, _, _, rfl⟩, ?_, ?_⟩
    · rintro j st hj ⟨x6, x7, x8, x9, rfl⟩
      have hi : (k + 1) * T2.n ≤ T1.n * T2.n := Nat.mul_le_mul_right _ hk
      have h9 : T1.n * T2.n ≤ 9 := Nat.mul_le_mul n1 n2
      rw [Nat.succ_mul] at hi
      have e1 : (k * T2.n + j) / T2.n = k := by
        rw [Nat.mul_comm, Nat.mul_add_div (by omega), Nat.div_eq_of_lt hj, Nat.add_zero]
      have e2 : (k * T2.n + j) % T2.n = j := by
        rw [Nat.mul_comm, Nat.mul_add_mod, Nat.mod_eq_of_lt hj]
      refine ag_name ?_
      refine as_seq (as_set (ae_lcT (α := Act × Nat) ?_))
      walk_at "e"
      have l1 := (wf1.row' k).1
      have l2 := (wf2.row' j).1
      refine ⟨T1.row k, dE, fun e => some (dE (e.1, e.2 * T2.n + j)), rfl, size_big (by omega), fun i e he acc => ?_, ?_⟩
      · refine agc_pair (by simp) (by simp) (at_yes ⟨fun _ => ae_tup ?_, fun h => (nomatch h)⟩)
        have hlt := (wf1.row' k).2.2 e (List.mem_of_getElem? he)
        walk_at "e"
        refine ao_mulI (.inr (by omega)) ?_
        walk_at "e"
        refine ao_addI ?_
        refine aa_nil ⟨_, rfl, size_big (by show 2 ≤ _; decide), rfl, rfl, _, rfl, ?_⟩
        show Rf.dat (.tuple [dA e.1, .int ((e.2 : Int) * T2.n + j)]) = Rf.dat (.tuple [dA e.1, .int ((e.2 * T2.n + j : Nat) : Int)])
        rw [Int.natCast_add, Int.natCast_mul]
      rw [fm_map]
      refine as_seq (as_drop (ae_append ?_))
      walk_at "e"
      refine ⟨0, rfl, ⟨_, rfl⟩, ?_⟩
      refine aa_cons (ae_cb (aa_cons (ae_cb (aa_cons (ae_op (ae_var rfl (ae_lcT (α := Act × Nat) ?_)))))))
      walk_at "e"
      refine ao_row hj ?_
      refine ⟨T2.row j, dE, fun e => some (dE (e.1, k * T2.n + e.2)), rfl, size_big (by omega), fun i e he acc => ?_, ?_⟩
      · refine agc_pair (by simp) (by simp) (at_yes ⟨fun _ => ae_tup ?_, fun h => (nomatch h)⟩)
        walk_at "e"
        refine ao_mulI (.inr (by omega)) ?_
        walk_at "e"
        refine ao_addI ?_
        refine aa_nil ⟨_, rfl, size_big (by show 2 ≤ _; decide), rfl, rfl, _, rfl, ?_⟩
        show Rf.dat (.tuple [dA e.1, .int ((k : Int) * T2.n + e.2)]) = Rf.dat (.tuple [dA e.1, .int ((k * T2.n + e.2 : Nat) : Int)])
        rw [Int.natCast_add, Int.natCast_mul]
      rw [fm_map]
      refine ao_catD (xs := (T1.row k).map fun e : Act × Nat => dE (e.1, e.2 * T2.n + j)) (ys := (T2.row j).map fun e : Act × Nat => dE (e.1, k * T2.n + e.2)) (by exact rfl) (by exact rfl) (size_big (by rw [List.length_map, List.length_map]; omega)) ?_
      have eb : ((T1.row k).map fun e => dE (e.1, e.2 * T2.n + j)) ++ ((T2.row j).map fun e => dE (e.1, k * T2.n + e.2)) = (besRow T1 T2 k j).map dE := by
        unfold besRow
        rw [List.map_append, List.map_map, List.map_map]
        rfl
      rw [eb]
      have lb : (besRow T1 T2 k j).length ≤ 600 := by
        unfold besRow
        rw [List.length_append, List.length_map, List.length_map]
        omega
      refine aa_nil (ar_sorted (ds := (besRow T1 T2 k j).map dE) rfl (srtOk_ent _) (size_big (by rw [List.length_map]; omega)) ?_)
      refine aa_nil (ar_tuple (ds := srtD ((besRow T1 T2 k j).map dE)) rfl ?_)
      refine aa_nil ⟨_, _, rfl, rfl, size_lt (by rw [List.length_map, List.length_map, List.length_map, List.length_range]; omega), ?_⟩
      refine as_drop (ae_append ?_)
      walk_at "e"
      refine ⟨1, rfl, ⟨_, rfl⟩, ?_⟩
      refine aa_cons (ae_andV ?_)
      walk_at "e"
      refine ao_end (by rw [wf1.ends]; exact hk) ?_
      have fin : ∀ b : Bool, b = endB T1 T2 (k * T2.n + j) → AA P w G tNil ⟨[some (.dat (dT T1)), some (.dat (dT T2)), some (.dat (dN T2.n)), some (.own 0), some (.own 1), some (.dat (dN k)), some (.dat (dN j)), some (.dat (.list ((T1.row k).map fun e => dE (e.1, e.2 * T2.n + j)))), x8, x9], [.lst ((((List.range (k * T2.n + j)).map (rowB T1 T2)).map dRow).map .dat ++ [.dat (.tuple (srtD ((besRow T1 T2 k j).map dE)))]), .lst ((((List.range (k * T2.n + j)).map (endB T1 T2)).map .bool).map .dat)]⟩ fun xs s2 => ∃ y xs', .dat (.bool b) :: xs = [y] ∧ s2.m[1]? = some (.lst xs') ∧ xs'.length < sizeLine ∧ ∃ x6 x7 x8 x9, (⟨s2.sl, s2.m.set 1 (.lst (xs' ++ [y]))⟩ : AS) = ⟨[some (.dat (dT T1)), some (.dat (dT T2)), some (.dat (dN T2.n)), some (.own 0), some (.own 1), some (.dat (dN k)), x6, x7, x8, x9], mB T1 T2 (k * T2.n + (j + 1))⟩ := by
        intro b hb
        refine aa_nil ⟨_, _, rfl, rfl, size_lt (by rw [List.length_map, List.length_map, List.length_map, List.length_range]; omega), some (.dat (dN j)), some (.dat (.list ((T1.row k).map fun e => dE (e.1, e.2 * T2.n + j)))), x8, x9, ?_⟩
        subst hb
        have er : Rf.dat (.tuple (srtD ((besRow T1 T2 k j).map dE))) = .dat (dRow (rowB T1 T2 (k * T2.n + j))) := by
          unfold rowB
          rw [e1, e2, srtD_srtE]
          rfl
        rw [er]
        unfold mB
        rw [← Nat.add_assoc, List.range_succ, List.map_append, List.map_append, List.map_append, List.map_append, List.map_append, List.map_append]
        rfl
      have ee : ∀ b c : Bool, T1.ends.getD k false = b → T2.ends.getD j false = c → (b && c) = endB T1 T2 (k * T2.n + j) := by
        intro b c h1 h2
        unfold endB
        rw [e1, e2, h1, h2]
      refine ⟨_, rfl, fun hb => ?_, fun hb => ?_⟩
      · walk_at "e"
        refine ao_end (by rw [wf2.ends]; exact hj) ?_
        exact fin _ (by have := ee _ _ hb rfl; rw [← this]; rfl)
      · exact fin _ (by have := ee _ _ hb rfl; rw [← this]; rfl)
    · rintro st ⟨x6, x7, x8, x9, rfl⟩
      exact ⟨_, _, _, _, _, by rw [Nat.succ_mul]⟩
  · rintro st ⟨x5, x6, x7, x8, x9, rfl⟩
    show AST P w G _ _ _
    refine as_ret (ae_tup (aa_cons (ae_str (aa_cons (ae_cb (aa_cons (ae_var rfl (aa_nil (ar_tuple (x := .own 0) (ds := ((List.range (T1.n * T2.n)).map (rowB T1 T2)).map dRow) rfl ?_)))))))))
    refine aa_cons (ae_cb (aa_cons (ae_var rfl (aa_nil (ar_tuple (x := .own 1) (ds := ((List.range (T1.n * T2.n)).map (endB T1 T2)).map .bool) rfl ?_)))))
    exact aa_nil ⟨_, rfl, size_big (by show 3 ≤ _; decide), _, rfl, rfl⟩
/-! ### _law_conducted -/
def aCnd (x : Tab × Str) : List D := [dT x.1, .str x.2]
def pCnd (x : Tab × Str) : Prop := Cnd x.1 x.2
def qCnd (x : Tab × Str) (d : D) : Prop := d = dT (cndT x.1 x.2)
def mD (n : Nat) (o : List Rf) (B : Nat → Ents) : List Ct := .lst o :: (List.range n).map fun k => .lst (((B k).map dE).map .dat)
def outC (n : Nat) (X : List Ents) : List Rf := ((List.range n).map fun j => .own (j + 1)) ++ X.map fun r => .dat (.list (r.map dE))
theorem range_set {α : Type} {n k : Nat} {f : Nat → α} {c : α} : ((List.range n).map f).set k c = (List.range n).map fun i => if i = k then c else f i := by
  refine List.ext_getElem? fun i => ?_
  rw [List.getElem?_set, List.length_map, List.length_range]
  by_cases hi : i < n
  · have e2 : (List.range n)[i]? = some i := List.getElem?_range hi
    simp only [List.getElem?_map, e2, Option.map_some]
    by_cases e : k = i
    · rw [if_pos e, if_pos (by omega), if_pos e.symm]
    · rw [if_neg e, if_neg (fun z => e z.symm)]
  · have hn : (List.range n)[i]? = none := List.getElem?_eq_none (by rw [List.length_range]; omega)
    simp only [List.getElem?_map, hn, Option.map_none]
    by_cases e : k = i
    · rw [if_pos e, if_neg (by omega)]
    · rw [if_neg e]
theorem mD_set {n k : Nat} {o : List Rf} {B : Nat → Ents} {x : Act × Nat} : (mD n o B).set (k + 1) (.lst (((B k).map dE).map .dat ++ [.dat (dE x)])) = mD n o fun i => if i = k then B k ++ [x] else B i := by
  show Ct.lst o :: ((List.range n).map _).set k _ = Ct.lst o :: _
  rw [range_set]
  congr 1
  apply List.map_congr_left
  intro i _
  show (if i = k then _ else _) = Ct.lst (((if i = k then B k ++ [x] else B i).map dE).map .dat)
  by_cases e : i = k
  · rw [if_pos e, if_pos e, md_snoc]
  · rw [if_neg e, if_neg e]
theorem mD_get {n k : Nat} {o : List Rf} {B : Nat → Ents} (hk : k < n) : (mD n o B)[k + 1]? = some (.lst (((B k).map dE).map .dat)) := by
  show ((List.range n).map _)[k]? = _
  rw [List.getElem?_map, List.getElem?_range hk]
  rfl
theorem outC_own {n k : Nat} {X : List Ents} (hk : k < n) : (outC n X)[k]? = some (.own (k + 1)) := by
  unfold outC
  rw [List.getElem?_append_left (by rw [List.length_map, List.length_range]; exact hk), List.getElem?_map, List.getElem?_range hk]
  rfl
theorem outC_len (n : Nat) (X : List Ents) : (outC n X).length = n + X.length := by
  unfold outC
  rw [List.length_append, List.length_map, List.length_range, List.length_map]
theorem outC_snoc (n : Nat) (X : List Ents) (r : Ents) : outC n X ++ [.dat (.list (r.map dE))] = outC n (X ++ [r]) := by
  unfold outC
  rw [List.map_append, List.append_assoc]
  rfl
theorem ex_rows_len (n : Nat) (L : Str) (E : List Edg) : (exRows n L E).length = 2 * E.length := by
  unfold exRows
  rw [ex_len fun _ => rfl]
theorem ex_snoc (n : Nat) (L : Str) (E : List Edg) (e : Edg) : exRows n L (E ++ [e]) = (exRows n L E ++ [[(e.2.1, n + 2 * E.length + 1)]]) ++ [[(actR L e.2.1, e.2.2)]] := by
  unfold exRows
  rw [List.zipIdx_append, List.flatMap_append, Nat.zero_add, List.append_assoc]
  rfl
theorem base_snoc (n : Nat) (L : Str) (E : List Edg) (e : Edg) : baseRow n L (E ++ [e]) = fun i => if i = e.1 then baseRow n L E e.1 ++ [(actL L e.2.1, n + 2 * E.length)] else baseRow n L E i := by
  funext i
  unfold baseRow
  rw [List.zipIdx_append, List.filter_append, List.map_append, Nat.zero_add]
  by_cases h : i = e.1
  · subst h
    rw [if_pos rfl]
    congr 1
    show (List.filter _ [(e, E.length)]).map _ = _
    rw [List.filter_cons, if_pos (by simp)]
    rfl
  · rw [if_neg h]
    show _ ++ (List.filter _ [(e, E.length)]).map _ = _
    rw [List.filter_cons, if_neg (by simp; exact fun z => h z.symm)]
    exact List.append_nil _
abbrev stC (T0 : Tab) (L : Str) (E : List Edg) (x4 x5 x6 x7 x8 x9 x10 : Option Rf) : AS := ⟨[some (.dat (dT T0)), some (.dat (.str L)), some (.own 0), some (.dat (.list ((T0.ends ++ List.replicate (2 * E.length) false).map .bool))), x4, x5, x6, x7, x8, x9, x10, none], mD T0.n (outC T0.n (exRows T0.n L E)) (baseRow T0.n L E)⟩
abbrev stD (T0 : Tab) (L : Str) (m : Nat) (o : List Rf) (B : Nat → Ents) (k : Nat) (sd tk lb : Str) (g : Nat) : AS := ⟨[some (.dat (dT T0)), some (.dat (.str L)), some (.own 0), some (.dat (.list ((T0.ends ++ List.replicate (2 * m) false).map .bool))), some (.dat (dN k)), some (.dat (dA (sd, tk, lb))), some (.dat (dN g)), some (.dat (.str sd)), some (.dat (.str tk)), some (.dat (.str lb)), some (.dat (dN (T0.n + 2 * m))), none], mD T0.n o B⟩
theorem dot_len {l t : Str} (h : Nm 14 l) (h' : Nm 14 t) : (l ++ ".").length + t.length ≤ 29 := by
  have e : (l ++ ".").length = l.length + 1 := by
    rw [chs_len, chs_app, List.length_append, ← chs_len]
    rfl
  have := h.len
  have := h'.len
  omega
theorem rd__law_conducted {K : PySem.W.Frag} {P : Program} {w : World} {N : List Str} (hN : N.length = 12) : ∀ vs H Q E, spI P w aCnd pCnd qCnd vs H Q E → t__law_conducted K P w { nx := fun _ H' => Q .non H', rt := Q } (L2.start N vs) H := by
  refine fnI fun G x hp => ⟨by rw [hN]; show 2 ≤ 12; decide, ?_⟩
  rw [hN]
  obtain ⟨T0, L⟩ := x
  have H : Cnd T0 L := hp
  show AST P w G (t__law_conducted K P w) ⟨[some (.dat (dT T0)), some (.dat (.str L)), none, none, none, none, none, none, none, none, none, none], []⟩ _
  unfold t__law_conducted
  have hr0 : (T0.rows.map dRow).length = T0.n := by rw [List.length_map]; rfl
  have hn4 := H.n4
  walk_at "e"
  refine ae_lc (ai_tup ?_)
  walk_at "e"
  refine ⟨T0.rows.map dRow, rfl, fun i acc s2 => s2 = ⟨[some (.dat (dT T0)), some (.dat (.str L)), none, none, none, none, none, none, none, none, none, none], .lst acc :: List.replicate i (.lst [])⟩ ∧ acc = (List.range i).map fun j => .own (j + 1), ⟨rfl, rfl⟩, fun _ _ _ _ _ => True.intro, ?_, ?_⟩
  · rintro i r acc s2 hr ⟨rfl, rfl⟩
    have hi : i < T0.n := by
      have := (List.getElem?_eq_some_iff.mp hr).1
      rw [List.length_map, hr0] at this
      exact this
    refine agc_name (by simp) (at_yes ⟨fun _ => ae_lst (aa_nil ⟨Nat.zero_le _, _, rfl, size_lt (by rw [List.length_map, List.length_range]; omega), ?_, ?_⟩), fun h => (nomatch h)⟩)
    · show AS.mk _ (Ct.lst _ :: (List.replicate i (Ct.lst []) ++ [Ct.lst []])) = _
      rw [List.replicate_succ']
      rfl
    · show _ ++ [Rf.own (List.replicate i (Ct.lst [])).length.succ] = _
      rw [List.length_replicate, List.range_succ, List.map_append]
      rfl
  rintro acc s2 ⟨rfl, rfl⟩
  rw [List.length_map, hr0]
  walk_at "e"
  refine ar_listD (ds := T0.ends.map .bool) rfl ?_
  have em : (Ct.lst ((List.range T0.n).map fun j => .own (j + 1)) :: List.replicate T0.n (Ct.lst [])) = mD T0.n (outC T0.n (exRows T0.n L [])) (baseRow T0.n L []) := by
    show _ = Ct.lst (((List.range T0.n).map fun j => .own (j + 1)) ++ []) :: (List.range T0.n).map fun _ => Ct.lst []
    rw [List.append_nil, List.map_const', List.length_range]
  have ee : T0.ends.map PyData.bool = (T0.ends ++ List.replicate (2 * ([] : List Edg).length) false).map .bool := by
    rw [List.length_nil]
    show _ = (T0.ends ++ []).map PyData.bool
    rw [List.append_nil]
  show AST P w G _ ⟨[some (.dat (dT T0)), some (.dat (.str L)), some (.own 0), some (.dat (.list (T0.ends.map .bool))), none, none, none, none, none, none, none, none], _⟩ _
  rw [em, ee]
  refine as_seq (as_forR ?_)
  walk_at "e"
  refine ar_lenQ (ds := T0.rows.map dRow) rfl ?_
  rw [hr0]
  refine aa_nil ⟨T0.n, rfl, by omega, fun k st => ∃ x4 x5 x6 x7 x8 x9 x10, st = stC T0 L (edgesTo T0 k) x4 x5 x6 x7 x8 x9 x10, ⟨_, _, _, _, _, _, _, rfl⟩, ?_, ?_⟩
  · rintro k st hk ⟨x4, x5, x6, x7, x8, x9, x10, rfl⟩
    refine ag_name ?_
    refine as_forT (α := Act × Nat) ?_
    walk_at "e"
    refine ao_row hk ?_
    refine ⟨T0.row k, dE, rfl, fun j st => ∃ x5 x6 x7 x8 x9 x10, st = stC T0 L (edgesTo T0 k ++ ((T0.row k).take j).map fun e => (k, e)) (some (.dat (dN k))) x5 x6 x7 x8 x9 x10, ⟨x5, x6, x7, x8, x9, x10, by rw [List.take_zero, List.map_nil, List.append_nil]; rfl⟩, ?_, ?_⟩
    · rintro j e st he ⟨x5, x6, x7, x8, x9, x10, rfl⟩
      have hem := List.mem_of_getElem? he
      obtain ⟨m1, m2, m3, _, _⟩ := H.nm k e hem
      have hEl : (edgesTo T0 k ++ ((T0.row k).take j).map fun e => (k, e)).length ≤ 100000 := by
        have h1 := flat_len (f := fun k => (T0.row k).map fun e => (k, e)) (n := 300) (l := List.range k) fun i _ => by
          rw [List.length_map]
          exact (H.wf.row' i).1
        rw [List.length_range] at h1
        have h1 : (edgesTo T0 k).length ≤ 300 * k := h1
        have h2 : ((T0.row k).take j).length ≤ 300 := Nat.le_trans (List.length_take_le' _ _) (H.wf.row' k).1
        rw [List.length_append, List.length_map]
        omega
      have eE : edgesTo T0 k ++ ((T0.row k).take (j + 1)).map (fun e => (k, e)) = (edgesTo T0 k ++ ((T0.row k).take j).map fun e => (k, e)) ++ [(k, e)] := by
        rw [List.take_add_one, he, List.map_append, List.append_assoc]
        rfl
      obtain ⟨E, hE⟩ : ∃ E, E = edgesTo T0 k ++ ((T0.row k).take j).map fun e => (k, e) := ⟨_, rfl⟩
      rw [← hE] at hEl eE ⊢
      obtain ⟨⟨sd, tk, lb⟩, g⟩ := e
      have hlen : (outC T0.n (exRows T0.n L E)).length = T0.n + 2 * E.length := by rw [outC_len, ex_rows_len]
      refine ag_pair ?_
      refine as_seq (as_asg (ae_var rfl (ag_three ?_)))
      walk_at "e"
      refine ar_lenO (x := .own 0) (xs := outC T0.n (exRows T0.n L E)) rfl ?_
      rw [hlen]
      refine as_seq (as_drop (ae_append ?_))
      walk_at "e"
      refine ao_seqO (xs := outC T0.n (exRows T0.n L E)) (i := k) (r := .own (k + 1)) rfl (outC_own hk) ?_
      refine ⟨k + 1, rfl, ⟨_, mD_get hk⟩, ?_⟩
      refine aa_cons (ae_tup (aa_cons (ae_tup ?_)))
      walk_at "e"
      have hd1 := dot_len m3 m2
      have hd2 := dot_len m3 m1
      refine ao_addS (size_big (by show lb.length + 1 ≤ _; have : lb.length ≤ 14 := m3.len; omega)) ?_
      walk_at "e"
      refine ao_addS (size_big (Nat.le_trans hd1 (by omega))) ?_
      refine aa_nil ⟨_, rfl, size_big (by show 3 ≤ _; decide), ?_⟩
      walk_at "e"
      refine ⟨_, rfl, size_big (by show 2 ≤ _; decide), ?_⟩
      have hbl : (baseRow T0.n L E k).length ≤ 100000 := by
        unfold baseRow
        rw [List.length_map]
        refine Nat.le_trans (List.length_filter_le _ _) ?_
        rw [List.length_zipIdx]
        exact hEl
      refine aa_nil ⟨_, _, rfl, mD_get hk, size_lt (by rw [List.length_map, List.length_map]; omega), ?_⟩
      have eset := mD_set (n := T0.n) (k := k) (o := outC T0.n (exRows T0.n L E)) (B := baseRow T0.n L E) (x := (actL L (sd, tk, lb), T0.n + 2 * E.length))
      have eb : (fun i => if i = k then baseRow T0.n L E k ++ [(actL L (sd, tk, lb), T0.n + 2 * E.length)] else baseRow T0.n L E i) = baseRow T0.n L (E ++ [(k, ((sd, tk, lb), g))]) := (base_snoc T0.n L E (k, ((sd, tk, lb), g))).symm
      rw [eb] at eset
      show AST P w G _ (AS.mk (stD T0 L E.length [] (baseRow T0.n L E) k sd tk lb g).sl ((mD T0.n (outC T0.n (exRows T0.n L E)) (baseRow T0.n L E)).set (k + 1) (.lst (((baseRow T0.n L E k).map dE).map .dat ++ [.dat (dE (actL L (sd, tk, lb), T0.n + 2 * E.length))])))) _
      rw [eset]
      show AST P w G _ (stD T0 L E.length (outC T0.n (exRows T0.n L E)) (baseRow T0.n L (E ++ [(k, ((sd, tk, lb), g))])) k sd tk lb g) _
      refine as_seq (as_drop (ae_append ?_))
      walk_at "e"
      refine ⟨0, rfl, ⟨_, rfl⟩, ?_⟩
      refine aa_cons (ae_lstD (aa_cons (ae_tup ?_)))
      walk_at "e"
      refine ao_addI ?_
      refine aa_nil ⟨_, rfl, size_big (by show 2 ≤ _; decide), ?_⟩
      refine aa_nil ⟨_, rfl, size_big (by show 1 ≤ _; decide), ?_⟩
      refine aa_nil ⟨_, _, rfl, rfl, size_lt (by rw [hlen]; omega), ?_⟩
      show AST P w G _ (stD T0 L E.length (outC T0.n (exRows T0.n L E) ++ [.dat (.list ([((sd, tk, lb), T0.n + 2 * E.length + 1)].map dE))]) (baseRow T0.n L (E ++ [(k, ((sd, tk, lb), g))])) k sd tk lb g) _
      rw [outC_snoc]
      refine as_seq (as_drop (ae_append ?_))
      walk_at "e"
      refine ⟨0, rfl, ⟨_, rfl⟩, ?_⟩
      refine aa_cons (ae_lstD (aa_cons (ae_tup (aa_cons (ae_tup ?_)))))
      walk_at "e"
      refine ao_addS (size_big (by show lb.length + 1 ≤ _; have : lb.length ≤ 14 := m3.len; omega)) ?_
      walk_at "e"
      refine ao_addS (size_big (Nat.le_trans hd2 (by omega))) ?_
      refine aa_nil ⟨_, rfl, size_big (by show 3 ≤ _; decide), ?_⟩
      walk_at "e"
      refine ⟨_, rfl, size_big (by show 2 ≤ _; decide), ?_⟩
      refine aa_nil ⟨_, rfl, size_big (by show 1 ≤ _; decide), ?_⟩
      refine aa_nil ⟨_, _, rfl, rfl, size_lt (by rw [outC_len, List.length_append, ex_rows_len]; show _ + (_ + 1) ≤ _; omega), ?_⟩
      have ex2 : (exRows T0.n L E ++ [[((sd, tk, lb), T0.n + 2 * E.length + 1)]]) ++ [[(actR L (sd, tk, lb), g)]] = exRows T0.n L (E ++ [(k, ((sd, tk, lb), g))]) := (ex_snoc T0.n L E (k, ((sd, tk, lb), g))).symm
      show AST P w G _ (stD T0 L E.length (outC T0.n (exRows T0.n L E ++ [[((sd, tk, lb), T0.n + 2 * E.length + 1)]]) ++ [.dat (.list ([(actR L (sd, tk, lb), g)].map dE))]) (baseRow T0.n L (E ++ [(k, ((sd, tk, lb), g))])) k sd tk lb g) _
      rw [outC_snoc, ex2]
      refine as_set (ae_op (ae_var rfl (ae_lstD ?_)))
      walk_at "e"
      refine ⟨_, rfl, size_big (by show 2 ≤ _; decide), ?_⟩
      have hel := H.wf.ends
      have hel : T0.ends.length = T0.n := hel
      refine ao_catD (xs := (T0.ends ++ List.replicate (2 * E.length) false).map .bool) (ys := [.bool false, .bool false]) (by exact rfl) (by exact rfl) (size_big (by rw [List.length_map, List.length_append, List.length_replicate]; show _ + 2 ≤ _; omega)) ?_
      have een : (T0.ends ++ List.replicate (2 * E.length) false).map PyData.bool ++ [.bool false, .bool false] = (T0.ends ++ List.replicate (2 * (E ++ [(k, ((sd, tk, lb), g))]).length) false).map .bool := by
        rw [List.length_append, show 2 * (E.length + [(k, ((sd, tk, lb), g))].length) = 2 * E.length + 1 + 1 from by show 2 * (E.length + 1) = _; omega, List.replicate_succ', List.replicate_succ', ← List.append_assoc, ← List.append_assoc, List.map_append (l₁ := (T0.ends ++ _) ++ [false]), List.map_append (l₁ := T0.ends ++ _), List.append_assoc]
        rfl
      rw [een]
      refine ⟨some (.dat (dA (sd, tk, lb))), some (.dat (dN g)), some (.dat (.str sd)), some (.dat (.str tk)), some (.dat (.str lb)), some (.dat (dN (T0.n + 2 * E.length))), ?_⟩
      rw [eE]
      rfl
    · rintro st ⟨x5, x6, x7, x8, x9, x10, rfl⟩
      refine ⟨some (.dat (dN k)), x5, x6, x7, x8, x9, x10, ?_⟩
      rw [List.take_length, edges_succ]
  rintro st ⟨x4, x5, x6, x7, x8, x9, x10, rfl⟩
  show AST P w G _ (stC T0 L (edgesOf T0) x4 x5 x6 x7 x8 x9 x10) _
  have hEl := H.len
  refine as_ret (ae_tup (aa_cons (ae_str (aa_cons (ae_cb (aa_cons ?_))))))
  refine ae_lcD (ai_own (ae_var rfl ⟨0, outC T0.n (exRows T0.n L (edgesOf T0)), rfl, rfl, fun i => ((cndT T0 L).rows[i]?).map dRow, fun acc => rfl, size_big (by rw [outC_len, ex_rows_len]; omega), ?_, ?_⟩))
  · intro i r acc hr
    refine agc_name (by simp) (at_yes ⟨fun _ => ?_, fun h => (nomatch h)⟩)
    by_cases hi : i < T0.n
    · rw [outC_own hi] at hr
      cases hr
      refine ae_cb (aa_cons (ae_cb (aa_cons (ae_var rfl (aa_nil (ar_sorted (x := .own (i + 1)) (ds := (baseRow T0.n L (edgesOf T0) i).map dE) (.inl (by
        show (mD T0.n _ _ ++ [Ct.lst acc])[i + 1]? = _
        rw [List.getElem?_append_left (by show i + 1 < ((List.range T0.n).map _).length + 1; rw [List.length_map, List.length_range]; omega)]
        exact mD_get hi)) (srtOk_ent _) (size_big (by rw [List.length_map]; have := H.baseLen i; omega)) ?_))))))
      refine aa_nil (ar_tuple (ds := srtD ((baseRow T0.n L (edgesOf T0) i).map dE)) rfl ⟨rfl, rfl, _, ?_, rfl⟩)
      have e1 : (cndT T0 L).rows[i]? = some (srtE (baseRow T0.n L (edgesOf T0) i)) := by
        show (List.map _ _ ++ _)[i]? = _
        rw [List.getElem?_append_left (by rw [List.length_map, List.length_range]; exact hi), List.getElem?_map, List.getElem?_range hi]
        rfl
      show ((cndT T0 L).rows[i]?).map dRow = _
      rw [e1, srtD_srtE]
      rfl
    · have e1 : (outC T0.n (exRows T0.n L (edgesOf T0)))[i]? = ((exRows T0.n L (edgesOf T0)).map fun r => Rf.dat (.list (r.map dE)))[i - T0.n]? := by
        unfold outC
        rw [List.getElem?_append_right (by rw [List.length_map, List.length_range]; omega), List.length_map, List.length_range]
      rw [e1] at hr
      obtain ⟨X, hX, rfl⟩ := map_get hr
      have hX1 : X.length ≤ 1 := by
        obtain ⟨p, _, hp⟩ := List.mem_flatMap.mp (List.mem_of_getElem? hX)
        rcases List.mem_cons.mp hp with rfl | hp
        · exact Nat.le_refl _
        · rw [List.mem_singleton.mp hp]
          exact Nat.le_refl _
      refine ae_cb (aa_cons (ae_cb (aa_cons (ae_var rfl (aa_nil (ar_sorted (x := .dat (.list (X.map dE))) (ds := X.map dE) rfl (srtOk_ent _) (size_big (by rw [List.length_map]; omega)) ?_))))))
      refine aa_nil (ar_tuple (ds := srtD (X.map dE)) rfl ⟨rfl, rfl, _, ?_, rfl⟩)
      have e1 : (cndT T0 L).rows[i]? = some (srtE X) := by
        show (List.map _ _ ++ _)[i]? = _
        rw [List.getElem?_append_right (by rw [List.length_map, List.length_range]; omega), List.length_map, List.length_range, List.getElem?_map, hX]
        rfl
      show ((cndT T0 L).rows[i]?).map dRow = _
      rw [e1, srtD_srtE]
      rfl
  · have e1 : ((List.range (outC T0.n (exRows T0.n L (edgesOf T0))).length).filterMap fun i => ((cndT T0 L).rows[i]?).map dRow) = (cndT T0 L).rows.map dRow := by
      have hl : (outC T0.n (exRows T0.n L (edgesOf T0))).length = (cndT T0 L).rows.length := by
        rw [outC_len, ex_rows_len]
        exact (cnd_n T0 L).symm
      rw [hl]
      refine Eq.trans ?_ ((fm_range (l := (cndT T0 L).rows) (o := fun R => some (dRow R))).trans (fm_map _))
      congr 1
      funext i
      cases (cndT T0 L).rows[i]? <;> rfl
    rw [e1]
    refine aa_nil (ar_tuple (ds := (cndT T0 L).rows.map dRow) rfl ?_)
    refine aa_cons (ae_cb (aa_cons (ae_var rfl (aa_nil (ar_tuple (x := .dat (.list ((T0.ends ++ List.replicate (2 * (edgesOf T0).length) false).map .bool))) (ds := (T0.ends ++ List.replicate (2 * (edgesOf T0).length) false).map .bool) rfl ?_)))))
    exact aa_nil ⟨_, rfl, size_big (by show 3 ≤ _; decide), _, rfl, rfl⟩
/-! ### _law_accepted -/
section
variable {P : Program} {w : World} {G : Hp} {s : AS} {K : Rf → AS → Prop} {ta : TA} {j : Nat}
theorem ae_names (h : AA P w G ta s fun xs s1 => ∃ (cnt : Nat) (y : Dst), xs = [.own j, .dat (dN cnt), .dat (.list [])] ∧ cnt ≤ 5 ∧ s1.m[j]? = some y.ct ∧ ∀ (y' : Dst) (l : List Str), l.length = cnt → l.Nodup → (∀ z ∈ l, Nm 14 z) → K (.dat (dSs l)) { s1 with m := s1.m.set j y'.ct }) :
    AE P w G (tCall (spGI P w cNms aNms pNms qNms) [] E0 ta) s K := by
  refine ae_callGI (h.mono fun xs s1 ⟨cnt, y, e, hc, hm, k⟩ => ⟨(y, cnt), [j], e, by simp, .cons ⟨hm, fun z => (nomatch z), rfl⟩ .nil, hc, fun cs' d hl hq => ?_⟩)
  obtain ⟨⟨y', rfl⟩, l, rfl, h1, h2, h3⟩ := hq
  exact k y' l h1 h2 h3
theorem ae_table (h : AA P w G ta s fun xs s1 => ∃ (ps ls : List Str) (n : Nat) (y : Dst), xs = [.own j, .dat (dSs ps), .dat (dSs ls), .dat (dN n)] ∧ PsOk ps ls ∧ 0 < n ∧ n ≤ 6 ∧ s1.m[j]? = some y.ct ∧ ∀ (y' : Dst) (T : Tab), Drawn ps ls n T → K (.dat (dT T)) { s1 with m := s1.m.set j y'.ct }) :
    AE P w G (tCall (spGI P w cTb aTb pTb qTb) [] E0 ta) s K := by
  refine ae_callGI (h.mono fun xs s1 ⟨ps, ls, n, y, e, h1, h2, h3, hm, k⟩ => ⟨⟨y, ps, ls, n⟩, [j], e, by simp, .cons ⟨hm, fun z => (nomatch z), rfl⟩ .nil, ⟨h1, h2, h3⟩, fun cs' d hl hq => ?_⟩)
  obtain ⟨⟨y', rfl⟩, T, rfl, hT⟩ := hq
  exact k y' T hT
end
theorem row_le {T : Tab} {r : Ents} (h : r ∈ T.rows) : r.length ≤ T.acts.length := by
  unfold Tab.acts
  obtain ⟨l1, l2, e⟩ := List.append_of_mem h
  rw [e, List.flatMap_append, List.flatMap_cons, List.length_append, List.length_append, List.length_map]
  omega
theorem row_mem {T : Tab} {s : Nat} {e : Act × Nat} (h : e ∈ T.row s) : ∃ r ∈ T.rows, e ∈ r := by
  unfold Tab.row at h
  rw [List.getD_eq_getElem?_getD] at h
  cases q : T.rows[s]? with
  | none => rw [q] at h; cases h
  | some r => rw [q] at h; exact ⟨r, List.mem_of_getElem? q, h⟩
theorem row_len {T : Tab} (s : Nat) : (T.row s).length ≤ T.acts.length := by
  unfold Tab.row
  rw [List.getD_eq_getElem?_getD]
  cases q : T.rows[s]? with
  | none => exact Nat.zero_le _
  | some r => exact row_le (List.mem_of_getElem? q)
section
variable {ps ls : List Str} {n : Nat} {T : Tab} (h : Drawn ps ls n T)
include h
theorem Drawn.wf (h0 : 0 < n) (h6 : n ≤ 6) : Wf T := by
  have ht := h.tot
  refine ⟨by rw [h.size]; exact h0, by rw [h.size]; omega, by rw [h.size]; exact h.ends, fun r hr => ⟨?_, h.nd r hr, fun e he => ?_⟩⟩
  · have := row_le hr
    omega
  · rw [h.size]
    exact (h.act r hr e he).2
theorem Drawn.allFew (h0 : 0 < n) (h6 : n ≤ 6) : AllFew T := by
  have ht := h.tot
  exact ⟨⟨h.wf h0 h6, by omega⟩, fun p _ => few_small (by rw [h.size]; omega) p⟩
theorem Drawn.act' {s : Nat} {e : Act × Nat} (he : e ∈ T.row s) : e.1.1 ∈ ps ∧ e.1.2.1 ∈ ps ∧ e.1.1 ≠ e.1.2.1 ∧ e.1.2.2 ∈ ls := by
  obtain ⟨r, hr, he⟩ := row_mem he
  exact (h.act r hr e he).1
end
theorem Drawn.two {p q : Str} {ls : List Str} {n : Nat} {T : Tab} (h : Drawn [p, q] ls n T) : Two p q T := by
  refine ⟨fun t e he => ?_⟩
  obtain ⟨h1, h2, h3, _⟩ := h.act' he
  simp only [List.mem_cons, List.not_mem_nil, or_false] at h1 h2
  rcases h1 with h1 | h1 <;> rcases h2 with h2 | h2
  · exact absurd (h1.trans h2.symm) h3
  · exact .inl ⟨h1, h2⟩
  · exact .inr ⟨h1, h2⟩
  · exact absurd (h1.trans h2.symm) h3
theorem Drawn.conc {p q : Str} {ls : List Str} {n : Nat} {T : Tab} (h : Drawn [p, q] ls n T) {s : Nat} {e : Act × Nat} (he : e ∈ T.row s) (x : Str) : conc e.1 x = decide (x ∈ [p, q]) := by
  unfold N.conc
  rcases h.two.act s e he with ⟨h1, h2⟩ | ⟨h1, h2⟩
  · rw [h1, h2]
    by_cases a : x = p
    · subst a; simp
    · by_cases b : x = q
      · subst b; simp
      · have a' : ¬ p = x := fun z => a z.symm
        have b' : ¬ q = x := fun z => b z.symm
        simp [a, b, a', b']
  · rw [h1, h2]
    by_cases a : x = p
    · subst a; simp
    · by_cases b : x = q
      · subst b; simp
      · have a' : ¬ p = x := fun z => a z.symm
        have b' : ¬ q = x := fun z => b z.symm
        simp [a, b, a', b']
theorem apart_of {a b c d : Str} {ls : List Str} {n m : Nat} {T1 T2 : Tab} (h1 : Drawn [a, b] ls n T1) (h2 : Drawn [c, d] ls m T2) (n0 : 0 < n) (n3 : n ≤ 3) (m0 : 0 < m) (m3 : m ≤ 3) (hd : ∀ p ∈ [a, b], p ∉ [c, d]) : Apart [a, b] [c, d] T1 T2 := by
  have t1 := h1.tot
  have t2 := h2.tot
  refine ⟨h1.wf n0 (by omega), h2.wf m0 (by omega), by rw [h1.size]; exact n3, by rw [h2.size]; exact m3, fun s => ?_, fun s => ?_, hd, fun s e he x => h1.conc he x, fun s e he x => h2.conc he x⟩
  · have := row_len (T := T1) s
    omega
  · have := row_len (T := T2) s
    omega
theorem cnd_of {ps ls : List Str} {n : Nat} {T : Tab} {L : Str} (h : Drawn ps ls n T) (n0 : 0 < n) (n4 : n ≤ 4) (hp : ∀ z ∈ ps, Nm 14 z ∧ z ≠ L) (hl : ∀ z ∈ ls, Nm 14 z) : Cnd T L := by
  have t1 := h.tot
  refine ⟨h.wf n0 (by omega), by rw [h.size]; exact n4, by omega, fun s e he => ?_⟩
  obtain ⟨h1, h2, _, h4⟩ := h.act' he
  exact ⟨(hp _ h1).1, (hp _ h2).1, hl _ h4, (hp _ h1).2, (hp _ h2).2⟩
def qAcc (_ : Dst) (cs : List Ct) (d : D) : Prop := (∃ y : Dst, cs = [y.ct]) ∧ ∃ T, d = dT T ∧ AllFew T ∧ Ready T
theorem add_nat (a b : Nat) : PyData.int ((a : Int) + (b : Int)) = dN (a + b) := by
  unfold dN
  rw [Int.natCast_add]
theorem rd__law_accepted {K : PySem.W.Frag} {P : Program} {w : World} {N : List Str} (hN : N.length = 6) : ∀ vs H Q E, spGI P w cNam aNam (fun _ => True) qAcc vs H Q E → t__law_accepted K P w (spI P w aBes pBes qBes) (spI P w aCnd pCnd qCnd) (spGI P w cDrw aDrw pDrw qDrw) (spGI P w cNms aNms pNms qNms) (spGI P w cTb aTb pTb qTb) { nx := fun _ H' => Q .non H', rt := Q } (L2.start N vs) H := by
  refine fnGI fun G x hx => ⟨by rw [hN]; show 1 + 0 ≤ 6; decide, fun c hc => by rw [List.mem_singleton.mp hc]; exact fun z => (nomatch z), ?_⟩
  rw [hN]
  show AST P w G (t__law_accepted K P w _ _ _ _ _) ⟨[some (.own 0), none, none, none, none, none], [x.ct]⟩ _
  unfold t__law_accepted
  have ret : ∀ (y : Dst) (T : Tab), AllFew T → Ready T → ∃ cs' l d, Rf.dat (dT T) = .dat d ∧ [y.ct] = cs' ++ l ∧ cs'.length = 1 ∧ (∀ c ∈ cs', c ≠ .gone ∧ ctD c = true) ∧ qAcc x cs' d := fun y T h1 h2 =>
    ⟨[y.ct], [], dT T, rfl, rfl, rfl, fun c hc => by rw [List.mem_singleton.mp hc]; exact ⟨fun z => (nomatch z), rfl⟩, ⟨y, rfl⟩, T, rfl, h1, h2⟩
  refine as_seq (as_set (ae_names (j := 0) ?_))
  refine aa_cons (ae_var rfl (aa_cons (ae_int ?_)))
  refine aa_cons (ae_lstD (aa_nil ⟨[], rfl, Nat.zero_le _, ?_⟩))
  refine aa_nil ⟨5, x, rfl, by omega, rfl, fun y zs hz5 hznd hznm => ?_⟩
  refine as_seq (as_set (ae_names (j := 0) ?_))
  refine aa_cons (ae_var rfl (aa_cons (ae_op (ae_int (ae_draw rfl (ae_int ⟨3, y, rfl, by omega, by omega, rfl, fun y d hd => ao_addI ?_⟩))))))
  refine aa_cons (ae_lstD (aa_nil ⟨[], rfl, Nat.zero_le _, ?_⟩))
  refine aa_nil ⟨1 + d, y, ?_, by omega, rfl, fun y ls hll hlnd hlnm => ?_⟩
  · rw [show PyData.int ((1 : Int) + (d : Int)) = dN (1 + d) from add_nat 1 d]
  obtain ⟨z0, z1, z2, z3, z4, rfl⟩ : ∃ z0 z1 z2 z3 z4, zs = [z0, z1, z2, z3, z4] := by
    match zs, hz5 with
    | [z0, z1, z2, z3, z4], _ => exact ⟨z0, z1, z2, z3, z4, rfl⟩
  have pl : ∀ (ps : List Str), 2 ≤ ps.length → ps.length ≤ 5 → ps.Nodup → PsOk ps ls := fun ps h1 h2 h3 => ⟨h1, h2, h3, by omega, by omega⟩
  refine as_seq (as_set (ae_draw rfl (ae_int ⟨4, y, rfl, by omega, by omega, rfl, fun y kd hkd => ?_⟩)))
  refine as_seq (as_if (at_test (ae_op (ae_var rfl (ae_int (ao_eqI (a := (kd : Int)) (b := 0) ⟨_, rfl, fun _ => ?_, fun _ => ?_⟩))))))
  · refine as_ret (ae_table (j := 0) ?_)
    refine aa_cons (ae_var rfl (aa_cons (ae_slL (ae_var rfl ⟨[z0, z1, z2, z3, z4].map .str, rfl, aop_none (aop_some (ae_int ⟨2, rfl, ?_⟩))⟩))))
    refine aa_cons (ae_var rfl (aa_cons (ae_op (ae_int (ae_draw rfl (ae_int ⟨6, y, rfl, by omega, by omega, rfl, fun y n hn => ao_addI ?_⟩))))))
    refine aa_nil ⟨[z0, z1], ls, 1 + n, y, ?_, ?_, by omega, by omega, rfl, fun y T hT => ?_⟩
    · rw [show PyData.int ((1 : Int) + (n : Int)) = dN (1 + n) from add_nat 1 n]
      rfl
    · refine pl _ (by show 2 ≤ 2; decide) (by show 2 ≤ 5; decide) ?_
      simp only [List.nodup_cons, List.mem_cons, not_or] at hznd
      simp only [List.nodup_cons, List.mem_cons, not_or]
      exact ⟨⟨hznd.1.1, List.not_mem_nil⟩, List.not_mem_nil, List.nodup_nil⟩
    · exact ret y T (hT.allFew (by omega) (by omega)) (ready_two hT.two)
  · refine as_next ?_
    refine as_seq (as_if (at_test (ae_op (ae_var rfl (ae_int (ao_eqI (a := (kd : Int)) (b := 1) ⟨_, rfl, fun _ => ?_, fun _ => ?_⟩))))))
    · refine as_seq (as_set (ae_table (j := 0) ?_))
      refine aa_cons (ae_var rfl (aa_cons (ae_slL (ae_var rfl ⟨[z0, z1, z2, z3, z4].map .str, rfl, aop_none (aop_some (ae_int ⟨2, rfl, ?_⟩))⟩))))
      refine aa_cons (ae_var rfl (aa_cons (ae_op (ae_int (ae_draw rfl (ae_int ⟨3, y, rfl, by omega, by omega, rfl, fun y n hn => ao_addI ?_⟩))))))
      refine aa_nil ⟨[z0, z1], ls, 1 + n, y, ?_, ?_, by omega, by omega, rfl, fun y T1 hT1 => ?_⟩
      · rw [show PyData.int ((1 : Int) + (n : Int)) = dN (1 + n) from add_nat 1 n]
        rfl
      · refine pl _ (by show 2 ≤ 2; decide) (by show 2 ≤ 5; decide) ?_
        simp only [List.nodup_cons, List.mem_cons, not_or] at hznd
        simp only [List.nodup_cons, List.mem_cons, not_or]
        exact ⟨⟨hznd.1.1, List.not_mem_nil⟩, List.not_mem_nil, List.nodup_nil⟩
      refine as_ret (ae_callI (aa_cons (ae_var rfl (aa_cons (ae_table (j := 0) ?_)))))
      refine aa_cons (ae_var rfl (aa_cons (ae_slL (ae_var rfl ⟨[z0, z1, z2, z3, z4].map .str, rfl, aop_some (ae_int ⟨2, rfl, aop_some (ae_int ⟨4, rfl, ?_⟩)⟩)⟩))))
      refine aa_cons (ae_var rfl (aa_cons (ae_op (ae_int (ae_draw rfl (ae_int ⟨3, y, rfl, by omega, by omega, rfl, fun y m hm => ao_addI ?_⟩))))))
      refine aa_nil ⟨[z2, z3], ls, 1 + m, y, ?_, ?_, by omega, by omega, rfl, fun y T2 hT2 => ?_⟩
      · rw [show PyData.int ((1 : Int) + (m : Int)) = dN (1 + m) from add_nat 1 m]
        rfl
      · refine pl _ (by show 2 ≤ 2; decide) (by show 2 ≤ 5; decide) ?_
        simp only [List.nodup_cons, List.mem_cons, not_or] at hznd
        simp only [List.nodup_cons, List.mem_cons, not_or]
        exact ⟨⟨hznd.2.2.1.1, List.not_mem_nil⟩, List.not_mem_nil, List.nodup_nil⟩
      · have H : Apart [z0, z1] [z2, z3] T1 T2 := apart_of hT1 hT2 (by omega) (by omega) (by omega) (by omega) (by
          simp only [List.nodup_cons, List.mem_cons, not_or] at hznd
          intro p hp
          simp only [List.mem_cons, List.not_mem_nil, or_false, not_or] at hp ⊢
          rcases hp with rfl | rfl
          · exact ⟨hznd.1.2.1, hznd.1.2.2.1⟩
          · exact ⟨hznd.2.1.1, hznd.2.1.2.1⟩)
        refine aa_nil ⟨(T1, T2), rfl, ⟨H.wf1, H.wf2, H.n1, H.n2⟩, fun d hd => ?_⟩
        have hd : d = dT (besT T1 T2) := hd
        subst hd
        exact ret y _ H.allFew H.ready
    · refine as_next ?_
      refine as_seq (as_set (ae_op (ae_int (ae_cb (aa_cons (ae_op (ae_var rfl (ae_int ?_))))))))
      refine ao_eqI (a := (kd : Int)) (b := 3) (aa_nil (ar_intB (ao_addI ?_)))
      have hcnt : ∃ c : Nat, (2 : Int) + (if decide ((kd : Int) = 3) = true then 1 else 0) = ((c : Nat) : Int) ∧ (c = 2 ∨ c = 3) := by
        by_cases h : (kd : Int) = 3
        · rw [decide_eq_true h]
          exact ⟨3, rfl, .inr rfl⟩
        · rw [decide_eq_false h]
          exact ⟨2, rfl, .inl rfl⟩
      obtain ⟨c, ec, hc⟩ := hcnt
      rw [ec]
      have hps : ∃ ps : List Str, cutL ([z0, z1, z2, z3, z4].map PyData.str) none (some ((c : Int) + 1)) = ps.map .str ∧ 2 ≤ ps.length ∧ ps.length ≤ 5 ∧ ps.Nodup ∧ ∀ z ∈ ps, Nm 14 z ∧ z ≠ z4 := by
        simp only [List.nodup_cons, List.mem_cons, not_or] at hznd
        obtain ⟨⟨a1, a2, a3, a4, _⟩, ⟨b1, b2, b3, _⟩, ⟨c1, c2, _⟩, ⟨d1, _⟩, _⟩ := hznd
        have m0 := hznm z0 (by simp)
        have m1 := hznm z1 (by simp)
        have m2 := hznm z2 (by simp)
        have m3 := hznm z3 (by simp)
        rcases hc with rfl | rfl
        · refine ⟨[z0, z1, z2], rfl, by show 2 ≤ 3; decide, by show 3 ≤ 5; decide, ?_, ?_⟩
          · simp [a1, a2, b1]
          · intro z hz
            simp only [List.mem_cons, List.not_mem_nil, or_false] at hz
            rcases hz with rfl | rfl | rfl
            · exact ⟨m0, a4⟩
            · exact ⟨m1, b3⟩
            · exact ⟨m2, c2⟩
        · refine ⟨[z0, z1, z2, z3], rfl, by show 2 ≤ 4; decide, by show 4 ≤ 5; decide, ?_, ?_⟩
          · simp [a1, a2, a3, b1, b2, c1]
          · intro z hz
            simp only [List.mem_cons, List.not_mem_nil, or_false] at hz
            rcases hz with rfl | rfl | rfl | rfl
            · exact ⟨m0, a4⟩
            · exact ⟨m1, b3⟩
            · exact ⟨m2, c2⟩
            · exact ⟨m3, d1⟩
      obtain ⟨ps, ecut, p2, p5, pnd, pnm⟩ := hps
      refine as_ret (ae_callI (aa_cons (ae_table (j := 0) ?_)))
      refine aa_cons (ae_var rfl (aa_cons (ae_slL (ae_var rfl ⟨[z0, z1, z2, z3, z4].map .str, rfl, aop_none (aop_some (ae_op (ae_var rfl (ae_int (ao_addI ⟨(c : Int) + 1, rfl, ?_⟩)))))⟩))))
      rw [ecut]
      refine aa_cons (ae_var rfl (aa_cons (ae_op (ae_int (ae_draw rfl (ae_int ⟨4, y, rfl, by omega, by omega, rfl, fun y n hn => ao_addI ?_⟩))))))
      refine aa_nil ⟨ps, ls, 1 + n, y, ?_, pl _ p2 p5 pnd, by omega, by omega, rfl, fun y T hT => ?_⟩
      · rw [show PyData.int ((1 : Int) + (n : Int)) = dN (1 + n) from add_nat 1 n]
        rfl
      · refine aa_cons (ae_op (ae_var rfl (ae_int (ao_seqD (ds := [z0, z1, z2, z3, z4].map .str) (i := 4) (d := .str z4) rfl rfl ?_))))
        have H : Cnd T z4 := cnd_of hT (by omega) (by omega) pnm hlnm
        refine aa_nil ⟨(T, z4), rfl, H, fun d hd => ?_⟩
        have hd : d = dT (cndT T z4) := hd
        subst hd
        exact ret y _ H.allFew H.ready
/-! ### the plain law -/
theorem flt_not_ready {T : Tab} (hT : Wf T) {r : List Act} {e : Ent} (he : EntAt T r e) (hf : Flt T e.1 e.2) (hr : Ready T) : False := by
  obtain ⟨h1, h2⟩ := he
  obtain ⟨a, ⟨k, p, S, hp, hS, rfl, s, hs, x, hx, rfl⟩, hn⟩ := hf
  obtain ⟨p', hp', iS⟩ := Paired.get h2 hS
  rw [hp] at hp'
  cases hp'
  obtain ⟨o, ho, ev⟩ := sv_char hT (view_conc r x.1.1) ((iS.2 s).mp hs)
  have hst : T.step s x.1 = some x.2 := mem_look (hT.row' s).2.1 hx
  obtain ⟨z, hz⟩ := hr r e.1 o x.1 h1 ev ⟨x.2, by rw [T.walk_snoc, ho]; exact hst⟩
  rw [T.walk_snoc, h1] at hz
  have hz : T.step e.1 x.1 = some z := hz
  rw [hn] at hz
  cases hz
theorem cert_flt {T : Tab} {r o : List Act} {a : Act} (hc : Cert T r a o) {L : List Ent} (hL : ∀ r s, T.walk r = some s → ∃ e ∈ L, EntAt T r e) : ∃ e ∈ L, Flt T e.1 e.2 := by
  obtain ⟨s, hs⟩ := hc.run
  obtain ⟨e, he, h1, h2⟩ := hL r s hs
  obtain ⟨z, hz⟩ := hc.other
  obtain ⟨t, ht, hta⟩ := snoc_some hz
  have hsv := sv_run a.1 ht
  rw [hc.alike] at hsv
  obtain ⟨k, hk⟩ := List.mem_iff_getElem?.mp (party_of hta)
  obtain ⟨S, hS, iS⟩ := Paired.getL h2 hk
  refine ⟨e, he, a, ⟨k, a.1, S, hk, hS, rfl, t, (iS.2 t).mpr hsv, (a, z), look_mem hta, rfl⟩, ?_⟩
  have hn := hc.not
  rw [T.walk_snoc, h1] at hn
  exact hn
theorem small_of {T : Tab} {L : List Ent} (h1 : L.length ≤ 3000) (h2 : ∀ r s, T.walk r = some s → ∃ e ∈ L, EntAt T r e) : Small T := ⟨L, h1, h2⟩
theorem cert_not_ready {T : Tab} {r o : List Act} {a : Act} (hc : Cert T r a o) (hr : Ready T) : False := by
  obtain ⟨s, hs⟩ := hc.run
  obtain ⟨z, hz⟩ := hr r s o a hs hc.alike hc.other
  rw [hc.not] at hz
  cases hz
/-! ### _law_state -/
def dst0 (ns : List Int) : Dst := ⟨ns, 0, 0, 0, false⟩
def spSt (K : PySem.W.Frag) : Sp := fun vs H Q _ => ∃ (a : Addr) (ns : List Int), vs = [.ref a] ∧ SqL K H a (ns.map V.int) ∧ ∀ l p : Addr, H l = none → (upd H l (.lst (ns.map V.int))) p = none → Q (.ref p) (upd (upd H l (.lst (ns.map V.int))) p (.lst [.ref l, .int 0, .int 0, .int 0, .bl false, .int 500]))
theorem rd__law_state {K : PySem.W.Frag} {P : Program} {w : World} : ∀ vs H Q E, spSt K vs H Q E → t__law_state K P w { nx := fun _ H' => Q .non H', rt := Q } (L2.start ["_law_script"] vs) H := by
  rintro vs H Q E ⟨a, ns, rfl, hS, q⟩
  refine ⟨_, rfl, ?_⟩
  refine ⟨a, ns.map V.int, rfl, .inl hS, fun l hl => ?_⟩
  exact ⟨size_big (by show 6 ≤ _; decide), fun p hp => q l p hl hp⟩
theorem spSt_len {K : PySem.W.Frag} (vs : List V) (H : Hp) (Q : VK) (E : XK) (q : spSt K vs H Q E) : vs.length = 1 := by
  obtain ⟨a, ns, rfl, _⟩ := q
  rfl
theorem den_ints {F : Hp} : ∀ ns : List Int, DenL F (ns.map V.int) (ns.map PyData.int)
  | [] => .nil
  | n :: ns => .cons (.int n) (den_ints ns)
/-! ### law -/
def spLaw (K : PySem.W.Frag) : Sp := fun vs H Q _ => ∃ (a : Addr) (ns : List Int), vs = [.ref a] ∧ SqL K H a (ns.map V.int) ∧ ∀ H', Q (.bl true) H'
theorem spLaw_len {K : PySem.W.Frag} (vs : List V) (H : Hp) (Q : VK) (E : XK) (q : spLaw K vs H Q E) : vs.length = 1 := by
  obtain ⟨a, ns, rfl, _⟩ := q
  rfl
theorem qTold_ready {T : Tab} {d : D} (h : qTold T d) (hr : Ready T) : (d = .none ∧ ¬ Small T) ∨ d = .tuple [.str "told", .none] := by
  rcases h with h | ⟨e, rfl, h | ⟨r, a, o, rfl, hc⟩⟩
  · exact .inl h
  · rw [h.1]
    exact .inr rfl
  · exact (cert_not_ready hc hr).elim
def tRest (K : PySem.W.Frag) (P : Program) (w : World) (s__law_accepted : Sp) (s__law_draw : Sp) (s__law_explored : Sp) (s__law_faulty : Sp) (s__law_holds : Sp) (s__law_names : Sp) (s__law_table : Sp) (s__law_told : Sp) : TS :=
 (tSeq (tIfS (tTest (tOp (rEqZ K) (tCall s__law_draw [] E0 (tCons (tVar 1) (tCons (tC (.int 4)) tNil))) (tC (.int 0)))) (tSeq (tAsg (tCall s__law_accepted [] E0 (tCons (tVar 1) tNil)) (gName 2))
  (tSeq (tAsg (tCall s__law_told [] E0 (tCons (tVar 2) tNil)) (gName 3))
  (tRet (tOrV (tOp (rEqZ K) (tVar 3) (tTup (tCons (tC (.str "told")) (tCons (tC .non) tNil)))) (tAndV (tOp rIsN (tVar 3) (tC .non)) (tOp rIsN (tCall s__law_explored [] E0 (tCons (tVar 2) tNil)) (tC .non))))))) tNext)
 (tSeq (tAsg (tCall s__law_names [] E0 (tCons (tVar 1) (tCons (tOp rAdd (tC (.int 2)) (tCall s__law_draw [] E0 (tCons (tVar 1) (tCons (tC (.int 3)) tNil)))) (tCons (tLst tNil) tNil)))) (gName 4))
 (tSeq (tAsg (tCall s__law_table [] E0 (tCons (tVar 1) (tCons (tVar 4) (tCons (tCall s__law_names [] E0 (tCons (tVar 1) (tCons (tOp rAdd (tC (.int 1)) (tCall s__law_draw [] E0 (tCons (tVar 1) (tCons (tC (.int 2)) tNil)))) (tCons (tLst tNil) tNil)))) (tCons (tOp rAdd (tC (.int 1)) (tCall s__law_draw [] E0 (tCons (tVar 1) (tCons (tC (.int 5)) tNil)))) tNil))))) (gName 2))
 (tSeq (tAsg (tCall s__law_explored [] E0 (tCons (tVar 2) tNil)) (gName 5))
 (tSeq (tAsg (tCall s__law_told [] E0 (tCons (tVar 2) tNil)) (gName 3))
 (tSeq (tIfS (tTest (tOp rIsN (tVar 5) (tC .non))) (tRet (tC (.bl true))) tNext)
 (tSeq (tIfS (tTest (tOp rIsN (tVar 3) (tC .non))) (tRet (tC (.bl false))) tNext)
 (tSeq (tAsg (tOp (rGet K P w) (tVar 3) (tC (.int 1))) (gName 6))
 (tSeq (tIfS (tB (tCall s__law_faulty [] E0 (tCons (tVar 2) (tCons (tVar 5) (tCons (tC (.str "unready")) tNil))))) (tRet (tAndV (tCB (rIsi K) (tCons (tVar 6) (tCons (tC (.ty "tuple")) tNil))) (tAndV (tOp (rEqZ K) (tOp (rGet K P w) (tVar 6) (tC (.int 0))) (tC (.str "unready"))) (tCall s__law_holds [] E0 (tCons (tVar 2) (tCons (tVar 6) tNil)))))) tNext)
 (tRet (tOp rIsN (tVar 6) (tC .non))))))))))))
theorem rest_true {K : PySem.W.Frag} {P : Program} {w : World} {G : Hp} (x : Dst) :
    AST P w G (tRest K P w (spGI P w cNam aNam (fun _ => True) qAcc) (spGI P w cDrw aDrw pDrw qDrw) (spI P w aTab Wf qExp) (spI P w aFaulty pFaulty qFaulty) (spI P w aHld pHld qHld) (spGI P w cNms aNms pNms qNms) (spGI P w cTb aTb pTb qTb) (spI P w aTab AllFew qTold)) ⟨[none, some (.own 0), none, none, none, none, none], [x.ct]⟩ ⟨fun _ => False, fun r _ => r = .dat (.bool true), fun _ => False, fun _ => False⟩ := by
  unfold tRest
  refine as_seq (as_if (at_test (ae_op (ae_draw rfl (ae_int ⟨4, x, rfl, by omega, by omega, rfl, fun y d hd => ae_int (ao_eqI (a := (d : Int)) (b := 0) ⟨_, rfl, fun _ => ?_, fun _ => ?_⟩)⟩)))))
  · refine as_seq (as_set (ae_callGI (aa_cons (ae_var rfl (aa_nil ⟨y, [0], rfl, by simp, .cons ⟨rfl, fun z => (nomatch z), rfl⟩ .nil, True.intro, fun cs' d hl hq => ?_⟩)))))
    obtain ⟨⟨y', rfl⟩, T, rfl, hF, hR⟩ := hq
    refine as_seq (as_set (ae_callI (aa_cons (ae_var rfl (aa_nil ⟨T, rfl, hF, fun d hq => ?_⟩)))))
    refine as_ret (ae_orV (ae_op (ae_var rfl (ae_tup ?_))))
    refine aa_cons (ae_str (aa_cons (ae_non (aa_nil ⟨_, rfl, size_big (by show 2 ≤ _; decide), ?_⟩))))
    rcases qTold_ready hq hR with ⟨rfl, hS⟩ | rfl
    · refine ao_eqS (by decide +kernel) (by decide +kernel) rfl rfl ⟨_, rfl, fun h => (nomatch h), fun _ => ?_⟩
      refine ae_andV (ae_op (ae_var rfl (ae_non (ao_isN ⟨_, rfl, fun _ => ?_, fun h => (nomatch h)⟩))))
      refine ae_op (ae_callI (aa_cons (ae_var rfl (aa_nil ⟨T, rfl, hF.gd.wf, fun d hq => ae_non (ao_isN ?_)⟩))))
      rcases hq with ⟨rfl, _⟩ | ⟨L, rfl, h1, h2, h3⟩
      · rfl
      · exact (hS (small_of h1 h3)).elim
    · refine ao_eqS (by decide +kernel) (by decide +kernel) rfl rfl ⟨_, rfl, fun _ => rfl, fun h => ?_⟩
      have : PyData.eqv (.tuple [.str "told", .none]) (.tuple [.str "told", .none]) = true := by decide +kernel
      rw [this] at h
      cases h
  · refine as_next ?_
    refine as_seq (as_set (ae_names (j := 0) ?_))
    refine aa_cons (ae_var rfl (aa_cons (ae_op (ae_int (ae_draw rfl (ae_int ⟨3, y, rfl, by omega, by omega, rfl, fun y d hd => ao_addI ?_⟩))))))
    refine aa_cons (ae_lstD (aa_nil ⟨[], rfl, Nat.zero_le _, ?_⟩))
    refine aa_nil ⟨2 + d, y, ?_, by omega, rfl, fun y ps hpl hpnd hpnm => ?_⟩
    · rw [show PyData.int ((2 : Int) + (d : Int)) = dN (2 + d) from add_nat 2 d]
    refine as_seq (as_set (ae_table (j := 0) ?_))
    refine aa_cons (ae_var rfl (aa_cons (ae_var rfl (aa_cons (ae_names (j := 0) ?_)))))
    refine aa_cons (ae_var rfl (aa_cons (ae_op (ae_int (ae_draw rfl (ae_int ⟨2, y, rfl, by omega, by omega, rfl, fun y d1 hd1 => ao_addI ?_⟩))))))
    refine aa_cons (ae_lstD (aa_nil ⟨[], rfl, Nat.zero_le _, ?_⟩))
    refine aa_nil ⟨1 + d1, y, ?_, by omega, rfl, fun y ls hll hlnd hlnm => ?_⟩
    · rw [show PyData.int ((1 : Int) + (d1 : Int)) = dN (1 + d1) from add_nat 1 d1]
    refine aa_cons (ae_op (ae_int (ae_draw rfl (ae_int ⟨5, y, rfl, by omega, by omega, rfl, fun y n hn => ao_addI ?_⟩))))
    refine aa_nil ⟨ps, ls, 1 + n, y, ?_, ⟨by omega, by omega, hpnd, by omega, by omega⟩, by omega, by omega, rfl, fun y T hT => ?_⟩
    · rw [show PyData.int ((1 : Int) + (n : Int)) = dN (1 + n) from add_nat 1 n]
    have hF : AllFew T := hT.allFew (by omega) (by omega)
    have hW := hF.gd.wf
    refine as_seq (as_set (ae_callI (aa_cons (ae_var rfl (aa_nil ⟨T, rfl, hW, fun fd hfd => ?_⟩)))))
    refine as_seq (as_set (ae_callI (aa_cons (ae_var rfl (aa_nil ⟨T, rfl, hF, fun td htd => ?_⟩)))))
    rcases hfd with ⟨rfl, _⟩ | ⟨L, rfl, h1, h2, h3⟩
    · refine as_seq (as_if (at_test (ae_op (ae_var rfl (ae_non (ao_isN ⟨_, rfl, fun _ => as_ret (ae_bl rfl), fun h => (nomatch h)⟩))))))
    refine as_seq (as_if (at_test (ae_op (ae_var rfl (ae_non (ao_isN ⟨_, rfl, fun h => (nomatch h), fun _ => as_next ?_⟩))))))
    rcases htd with ⟨_, hS⟩ | ⟨e, rfl, he⟩
    · exact (hS (small_of h1 h3)).elim
    refine as_seq (as_if (at_test (ae_op (ae_var rfl (ae_non (ao_isN ⟨_, rfl, fun h => (nomatch h), fun _ => as_next ?_⟩))))))
    refine as_seq (as_set (ae_op (ae_var rfl (ae_int (ao_seqD (ds := [.str "told", e]) (i := 1) rfl rfl ?_)))))
    refine as_seq (as_if (at_B (ae_callI (aa_cons (ae_var rfl (aa_cons (ae_var rfl (aa_cons (ae_str (aa_nil ⟨(T, L), rfl, ⟨hW, h1, h2⟩, fun d hd => ?_⟩))))))))))
    obtain ⟨b, rfl, hb⟩ := hd
    refine ⟨b, rfl, fun hbt => ?_, fun hbf => ?_⟩
    · obtain ⟨x, hx, hfl⟩ := hb.mp hbt
      obtain ⟨r, hr⟩ := h2 x hx
      rcases he with ⟨_, hR⟩ | ⟨r, a, o, rfl, hc⟩
      · exact (flt_not_ready hW hr hfl hR).elim
      refine as_ret (ae_andV (ae_isTup (ae_var rfl ⟨_, rfl, ⟨_, rfl, fun _ => ?_, fun h => (nomatch h)⟩⟩)))
      refine ae_andV (ae_op (ae_op (ae_var rfl (ae_int (ao_seqD (ds := [.str "unready", dActs r, dA a, dActs o]) (i := 0) (d := .str "unready") rfl rfl (ae_str (ao_eqS' ⟨_, rfl, fun _ => ?_, fun h => ?_⟩)))))))
      · refine ae_callI (aa_cons (ae_var rfl (aa_cons (ae_var rfl (aa_nil ⟨(T, r, a, o), rfl, ⟨hW, hc⟩, fun d hd => ?_⟩)))))
        have hd : d = .bool true := hd
        rw [hd]
      · rw [decide_eq_true rfl] at h
        cases h
    · refine as_next ?_
      rcases he with ⟨rfl, _⟩ | ⟨r, a, o, rfl, hc⟩
      · exact as_ret (ae_op (ae_var rfl (ae_non (ao_isN rfl))))
      · have := hb.mpr (cert_flt hc h3)
        rw [hbf] at this
        cases this
theorem fit_law {P : Program} {w : World} {H : Hp} {ns : List Int} {l p : Addr} (hl : H l = none) (hp : (upd H l (.lst (ns.map V.int))) p = none) {v0 : Option V} :
    Fit P w ⟨H, ⟨fun b => if b = l then some (.lst (ns.map V.int)) else none, []⟩⟩ [p] (fun b => if b = l then some (.lst (ns.map V.int)) else none) [v0, some (.ref p), none, none, none, none, none] (upd (upd H l (.lst (ns.map V.int))) p (.lst [.ref l, .int 0, .int 0, .int 0, .bl false, .int 500])) ⟨[none, some (.own 0), none, none, none, none, none], [(dst0 ns).ct]⟩ := by
  have hpl : p ≠ l := fun e => by
    subst e
    rw [upd_same] at hp
    cases hp
  have hpH : H p = none := by rwa [upd_ne hpl] at hp
  have hlp : l ≠ p := fun e => hpl e.symm
  refine ⟨fun b o e => ?_, Same.refl _, fun b o e => ?_, fun a _ z => z, rfl, by simp, fun i a c h1 h2 => ?_, rfl, fun i r h => ?_, [p], rfl⟩
  · have e : H b = some o := e
    have h1 : b ≠ p := fun z => by rw [z, hpH] at e; cases e
    have h2 : b ≠ l := fun z => by rw [z, hl] at e; cases e
    rw [upd_ne h1, upd_ne h2]
    exact e
  · have e2 : (if b = l then some (HO.lst (ns.map V.int)) else none) = some o := e
    clear e
    by_cases hb : b = l
    · rw [if_pos hb] at e2
      rw [hb, upd_ne hlp, upd_same]
      exact e2
    · rw [if_neg hb] at e2
      cases e2
  · cases i with
    | zero =>
      have h1 : p = a := by simpa using h1
      have h2 : (dst0 ns).ct = c := by simpa using h2
      subst h1
      subst h2
      refine ⟨hpH, ⟨_, upd_same, ?_⟩, fun _ => if_neg hpl⟩
      refine .cons ?_ (.cons ?_ (.cons ?_ (.cons ?_ (.cons ?_ (.cons ?_ .nil)))))
      · exact RfOk.dat (Den.lst (vs := ns.map V.int) (if_pos rfl) (den_ints ns))
      · exact RfOk.dat (Den.int _)
      · exact RfOk.dat (Den.int _)
      · exact RfOk.dat (Den.int _)
      · exact RfOk.dat (Den.bl _)
      · exact RfOk.dat (Den.int _)
    | succ i => simp at h1
  · match i, h with
    | 0, h => simp at h
    | 1, h =>
      have h : Rf.own 0 = r := by simpa using h
      subst h
      exact ⟨.ref p, rfl, p, rfl, rfl⟩
    | 2, h => simp at h
    | 3, h => simp at h
    | 4, h => simp at h
    | 5, h => simp at h
    | 6, h => simp at h
    | n + 7, h => simp at h
theorem rd_law {K : PySem.W.Frag} {P : Program} {w : World} : ∀ vs H Q E, spLaw K vs H Q E → t_law K P w (spGI P w cNam aNam (fun _ => True) qAcc) (spGI P w cDrw aDrw pDrw qDrw) (spI P w aTab Wf qExp) (spI P w aFaulty pFaulty qFaulty) (spI P w aHld pHld qHld) (spGI P w cNms aNms pNms qNms) (spSt K) (spGI P w cTb aTb pTb qTb) (spI P w aTab AllFew qTold) { nx := fun _ H' => Q .non H', rt := Q } (L2.start ["_law_script", "_law_state_here", "_law_table_here", "_law_told_here", "_law_parties_here", "_law_found", "_law_actual"] vs) H := by
  rintro vs H Q E ⟨a, ns, rfl, hS, q⟩
  refine ⟨_, rfl, a, ns, rfl, hS, fun l p hl hp => ?_⟩
  have X := fit_law (P := P) (w := w) hl hp (v0 := some (.ref a))
  refine rest_true (K := K) (P := P) (w := w) (dst0 ns) _ _ _ _ _ X _ ⟨fun _ _ _ _ _ _ z => z.elim, fun as F σ H v r s x rv e => ?_, fun _ _ _ _ _ _ z => z.elim, fun _ _ _ _ _ _ z => z.elim⟩
  subst e
  cases rv
  exact q H
end N
set_option Elab.async false
set_option linter.all false
set_option maxRecDepth 100000
set_option maxHeartbeats 4000000
namespace N
open PySem PySem.Spec PyProof.Rows L2

abbrev sgrouped : Stmt := top 5
theorem scgrouped : FnScope ["nodes", "moves", "groups", "node", "action", "goals", "goal", "other"] ["nodes", "moves"] (defScope sgrouped) := ⟨rfl, rfl, rfl, by decide +kernel, rfl, by decide +kernel, by decide +kernel⟩
theorem ok_grouped {P : Program} {w : World} {K : PySem.W.Frag} {mg : Str → Option Value} {base : Heap} {C : Addr} {sp : Sp} (F : Def K mg "grouped" sgrouped) (T : Txt K mg C)
    (len : ∀ vs H Q E, sp vs H Q E → vs.length = 2) (rd : ∀ vs H Q E, sp vs H Q E → t_grouped K P w { nx := fun _ H' => Q .non H', rt := Q } (L2.start ["nodes", "moves", "groups", "node", "action", "goals", "goal", "other"] vs) H) : Has P w K mg base CX0 1 "grouped" ["nodes", "moves"] sp := by
  obtain ⟨f, fd, g, F⟩ := F
  have b : L2.Binds K fd ["nodes", "moves"] [] := F.bindsN fun _ _ _ _ _ _ us hl => match us, hl with | [_, _], _ => rfl
  refine ⟨f, fd, g, ?_, F.kp, b⟩
  refine F.ok scgrouped (fun vs H Q E h => len vs H Q E h) (fun cdv A outer s H vs Q E hr h => ⟨t_grouped K P w, PSs.nox ?_, rd vs H Q E h⟩)
  have hu := hu100 hr
  have hu64 := hr.units
  have nd := scgrouped.nd
  exact (pss_cons
    (ps_set (i := 2) nd rfl (Or.inr rfl) pe_dnew)
   (pss_cons
    (ps_for PassesOwn.never rfl (pi_seq (pv 0)) (pg_name (i := 3) nd rfl (Or.inl rfl)) (pss_one
     (ps_for PassesOwn.never rfl (pi_seq (pe_ix (ix_any hu) (pv 1) (pv 3) (fun _ _ => rfl))) (pg_tup rfl (pgs_cons (pg_name (i := 4) nd rfl (Or.inl rfl)) (pgs_cons (pg_name (i := 5) nd rfl (Or.inl rfl)) pgs_nil))) (pss_cons
      (ps_set (i := 6) nd rfl (Or.inl rfl) (pe_dsetN hu (pv 2) (pv 4) pe_dnew ⟨rfl, rfl, rfl, rfl⟩))
     (pss_one
      (ps_for PassesOwn.never rfl (pi_seq (pv 5)) (pg_name (i := 7) nd rfl (Or.inl rfl)) (pss_one
       (ps_asg pe_bl (pg_sub (pv 6) (pv 7) (set_any hu))))))))))
   (pss_one
    (ps_ret (pe_nc hu (own := [("action", 4)]) rfl nd (pi_keysA (pv 2)) (blkOk_by (own := [("action", 4)]) (by kernel_rfl)) (fun _ _ _ _ _ => (pg_name (i := 4) nd rfl (Or.inl rfl))) (fun _ _ _ _ _ => pts_nil) (fun _ _ _ _ _ => (pv 4)) (fun _ _ _ _ _ => (pe_callTy call_tuple_of (by rfl) T.b_tuple (by decide +kernel) (pa_cons (pe_callB (cr_sorted rfl hu) (by rfl) T.b_sorted (by decide +kernel) (pa_cons (pe_ix (ix_any hu) (pv 2) (pv 4) (fun _ _ => rfl)) pa_nil)) pa_nil))))))))

abbrev ssubset_table : Stmt := top 6
theorem scsubset_table : FnScope ["start", "moves", "ends", "limit", "numbers", "order", "rows", "at", "groups", "row", "action", "goal", "marks", "nodes", "node"] ["start", "moves", "ends", "limit"] (defScope ssubset_table) := ⟨rfl, rfl, rfl, by decide +kernel, rfl, by decide +kernel, by decide +kernel⟩
theorem ok_subset_table {P : Program} {w : World} {K : PySem.W.Frag} {mg : Str → Option Value} {base : Heap} {C : Addr} {s_grouped : Sp} {sp : Sp} (F : Def K mg "subset_table" ssubset_table) (T : Txt K mg C) (H_grouped : Has P w K mg base CX0 1 "grouped" ["nodes", "moves"] s_grouped)
    (len : ∀ vs H Q E, sp vs H Q E → vs.length = 4) (rd : ∀ vs H Q E, sp vs H Q E → t_subset_table K P w s_grouped { nx := fun _ H' => Q .non H', rt := Q } (L2.start ["start", "moves", "ends", "limit", "numbers", "order", "rows", "at", "groups", "row", "action", "goal", "marks", "nodes", "node"] vs) H) : Has P w K mg base CX0 2 "subset_table" ["start", "moves", "ends", "limit"] sp := by
  obtain ⟨f, fd, g, F⟩ := F
  have b : L2.Binds K fd ["start", "moves", "ends", "limit"] [] := F.bindsN fun _ _ _ _ _ _ us hl => match us, hl with | [_, _, _, _], _ => rfl
  refine ⟨f, fd, g, ?_, F.kp, b⟩
  refine F.ok scsubset_table (fun vs H Q E h => len vs H Q E h) (fun cdv A outer s H vs Q E hr h => ⟨t_subset_table K P w s_grouped, PSs.nox ?_, rd vs H Q E h⟩)
  have hu := hu100 hr
  have hu64 := hr.units
  have nd := scsubset_table.nd
  exact (pss_cons
    (ps_set (i := 4) nd rfl (Or.inl rfl) (pe_dispN hu (pv 0) pe_int))
   (pss_cons
    (ps_set (i := 5) nd rfl (Or.inl rfl) (pe_lst (pa_cons (pv 0) pa_nil)))
   (pss_cons
    (ps_set (i := 6) nd rfl (Or.inl rfl) (pe_lst pa_nil))
   (pss_cons
    (ps_set (i := 7) nd rfl (Or.inl rfl) pe_int)
   (pss_cons
    (ps_while PassesOwn.never (pt_cmpR op_lt (pv 7) (pe_callB call_lenA (by rfl) T.b_len (by decide +kernel) (pa_cons (pv 5) pa_nil)) (nomark _)) (pss_cons
     (ps_set (i := 8) nd rfl (Or.inl rfl) (pe_callH H_grouped hr rfl pass0 (pa_cons (pe_ix (ix_any hu) (pv 5) (pv 7) (fun _ _ => rfl)) (pa_cons (pv 1) pa_nil))))
    (pss_cons
     (ps_set (i := 9) nd rfl (Or.inl rfl) (pe_lst pa_nil))
    (pss_cons
     (ps_for PassesOwn.never rfl (pi_seq (pe_callB (cr_sorted rfl hu) (by rfl) T.b_sorted (by decide +kernel) (pa_cons (pv 8) pa_nil))) (pg_name (i := 10) nd rfl (Or.inl rfl)) (pss_cons
      (ps_set (i := 11) nd rfl (Or.inl rfl) (pe_ix (ix_any hu) (pv 8) (pv 10) (fun _ _ => rfl)))
     (pss_cons
      (ps_if (pt_cmpR (op_notIn hu) (pv 11) (pv 4) rfl) (pss_cons
       (ps_if (pt_cmpR (op_eqZ hu64) (pe_callB call_lenA (by rfl) T.b_len (by decide +kernel) (pa_cons (pv 5) pa_nil)) (pv 3) (nomark _)) (pss_one
        ps_never) pss_nil)
      (pss_cons
       (ps_asg (pe_callB call_lenA (by rfl) T.b_len (by decide +kernel) (pa_cons (pv 5) pa_nil)) (pg_sub (pv 4) (pv 11) (set_any hu)))
      (pss_one
       (ps_expr (pe_bm PySem.F.plainAttrs_list PySem.F.slot_list_append PySem.F.type_list_append mt_append (pv 5) (pa_cons (pv 11) pa_nil)))))) pss_nil)
     (pss_one
      (ps_expr (pe_bm PySem.F.plainAttrs_list PySem.F.slot_list_append PySem.F.type_list_append mt_append (pv 9) (pa_cons (pe_tup (pa_cons (pv 10) (pa_cons (pe_ix (ix_any hu) (pv 4) (pv 11) (fun _ _ => rfl)) pa_nil))) pa_nil)))))))
    (pss_cons
     (ps_expr (pe_bm PySem.F.plainAttrs_list PySem.F.slot_list_append PySem.F.type_list_append mt_append (pv 6) (pa_cons (pe_callTy call_tuple_of (by rfl) T.b_tuple (by decide +kernel) (pa_cons (pv 9) pa_nil)) pa_nil)))
    (pss_one
     (ps_aug (i := 7) nd rfl (Or.inl rfl) pe_int ip_add)))))))
   (pss_cons
    (ps_setLc (i := 12) (own := [("nodes", 13)]) rfl nd rfl rfl (sw_true rfl rfl rfl (by kernel_rfl)) (pi_seq (pv 5)) (blkOk_by (own := [("nodes", 13)]) (by kernel_rfl)) (fun _ _ _ _ _ => (pg_name (i := 13) nd rfl (Or.inl rfl))) (fun _ _ _ _ _ => pts_nil) (fun _ _ _ _ _ => (pe_cmpR (op_neA hu64) (pe_lc (own := [("node", 14)]) rfl nd (pi_seq (pv 13)) (blkOk_by (own := [("node", 14)]) (by kernel_rfl)) (fun _ _ _ _ _ => (pg_name (i := 14) nd rfl (Or.inl rfl))) (fun _ _ _ _ _ => (pts_one (pt_val (pe_ix (ix_any hu) (pv 2) (pv 14) (fun _ _ => rfl))))) (fun _ _ _ _ _ => (pv 14))) (pe_lst pa_nil) (nomark _))))
   (pss_one
    (ps_ret (pe_tup (pa_cons pe_str (pa_cons (pe_callTy call_tuple_of (by rfl) T.b_tuple (by decide +kernel) (pa_cons (pv 6) pa_nil)) (pa_cons (pe_callTy call_tuple_of (by rfl) T.b_tuple (by decide +kernel) (pa_cons (pv 12) pa_nil)) pa_nil))))))))))))

abbrev srefined_classes : Stmt := top 7
theorem screfined_classes : FnScope ["table", "classes", "numbers", "fresh", "state", "row", "sign", "action", "goal"] ["table", "classes"] (defScope srefined_classes) := ⟨rfl, rfl, rfl, by decide +kernel, rfl, by decide +kernel, by decide +kernel⟩
theorem ok_refined_classes {P : Program} {w : World} {K : PySem.W.Frag} {mg : Str → Option Value} {base : Heap} {C : Addr} {sp : Sp} (F : Def K mg "refined_classes" srefined_classes) (T : Txt K mg C)
    (len : ∀ vs H Q E, sp vs H Q E → vs.length = 2) (rd : ∀ vs H Q E, sp vs H Q E → t_refined_classes K P w { nx := fun _ H' => Q .non H', rt := Q } (L2.start ["table", "classes", "numbers", "fresh", "state", "row", "sign", "action", "goal"] vs) H) : Has P w K mg base CX0 1 "refined_classes" ["table", "classes"] sp := by
  obtain ⟨f, fd, g, F⟩ := F
  have b : L2.Binds K fd ["table", "classes"] [] := F.bindsN fun _ _ _ _ _ _ us hl => match us, hl with | [_, _], _ => rfl
  refine ⟨f, fd, g, ?_, F.kp, b⟩
  refine F.ok screfined_classes (fun vs H Q E h => len vs H Q E h) (fun cdv A outer s H vs Q E hr h => ⟨t_refined_classes K P w, PSs.nox ?_, rd vs H Q E h⟩)
  have hu := hu100 hr
  have hu64 := hr.units
  have nd := screfined_classes.nd
  exact (pss_cons
    (ps_set (i := 2) nd rfl (Or.inl rfl) pe_dnew)
   (pss_cons
    (ps_set (i := 3) nd rfl (Or.inl rfl) (pe_lst pa_nil))
   (pss_cons
    (ps_for PassesOwn.never rfl (pi_enumA rfl T.b_enumerate (pa_cons (pe_ix (ix_any hu) (pv 0) pe_int (fun _ _ => rfl)) pa_nil)) (pg_tup rfl (pgs_cons (pg_name (i := 4) nd rfl (Or.inl rfl)) (pgs_cons (pg_name (i := 5) nd rfl (Or.inl rfl)) pgs_nil))) (pss_cons
     (ps_set (i := 6) nd rfl (Or.inl rfl) (pe_tup (pa_cons (pe_ix (ix_any hu) (pv 1) (pv 4) (fun _ _ => rfl)) (pa_cons (pe_callTy call_tuple_of (by rfl) T.b_tuple (by decide +kernel) (pa_cons (pe_lc (own := [("action", 7), ("goal", 8)]) rfl nd (pi_seq (pv 5)) (blkOk_by (own := [("action", 7), ("goal", 8)]) (by kernel_rfl)) (fun _ _ _ _ _ => (pg_tup rfl (pgs_cons (pg_name (i := 7) nd rfl (Or.inl rfl)) (pgs_cons (pg_name (i := 8) nd rfl (Or.inl rfl)) pgs_nil)))) (fun _ _ _ _ _ => pts_nil) (fun _ _ _ _ _ => (pe_tup (pa_cons (pv 7) (pa_cons (pe_ix (ix_any hu) (pv 1) (pv 8) (fun _ _ => rfl)) pa_nil))))) pa_nil)) pa_nil))))
    (pss_cons
     (ps_if (pt_cmpR (op_notIn hu) (pv 6) (pv 2) rfl) (pss_one
      (ps_asg (pe_callB call_lenA (by rfl) T.b_len (by decide +kernel) (pa_cons (pv 2) pa_nil)) (pg_sub (pv 2) (pv 6) (set_any hu)))) pss_nil)
    (pss_one
     (ps_expr (pe_bm PySem.F.plainAttrs_list PySem.F.slot_list_append PySem.F.type_list_append mt_append (pv 3) (pa_cons (pe_ix (ix_any hu) (pv 2) (pv 6) (fun _ _ => rfl)) pa_nil)))))))
   (pss_one
    (ps_ret (pv 3))))))

abbrev salike_classes : Stmt := top 8
theorem scalike_classes : FnScope ["table", "classes", "count", "fresh", "size", "end"] ["table"] (defScope salike_classes) := ⟨rfl, rfl, rfl, by decide +kernel, rfl, by decide +kernel, by decide +kernel⟩
theorem ok_alike_classes {P : Program} {w : World} {K : PySem.W.Frag} {mg : Str → Option Value} {base : Heap} {C : Addr} {s_refined_classes : Sp} {sp : Sp} (F : Def K mg "alike_classes" salike_classes) (T : Txt K mg C) (H_refined_classes : Has P w K mg base CX0 1 "refined_classes" ["table", "classes"] s_refined_classes)
    (len : ∀ vs H Q E, sp vs H Q E → vs.length = 1) (rd : ∀ vs H Q E, sp vs H Q E → t_alike_classes K P w s_refined_classes { nx := fun _ H' => Q .non H', rt := Q } (L2.start ["table", "classes", "count", "fresh", "size", "end"] vs) H) : Has P w K mg base CX0 2 "alike_classes" ["table"] sp := by
  obtain ⟨f, fd, g, F⟩ := F
  have b : L2.Binds K fd ["table"] [] := F.bindsN fun _ _ _ _ _ _ us hl => match us, hl with | [_], _ => rfl
  refine ⟨f, fd, g, ?_, F.kp, b⟩
  refine F.ok scalike_classes (fun vs H Q E h => len vs H Q E h) (fun cdv A outer s H vs Q E hr h => ⟨t_alike_classes K P w s_refined_classes, PSs.nox ?_, rd vs H Q E h⟩)
  have hu := hu100 hr
  have hu64 := hr.units
  have nd := scalike_classes.nd
  exact (pss_cons
    (ps_setLc (i := 1) (own := [("end", 5)]) rfl nd rfl rfl (sw_true rfl rfl rfl (by kernel_rfl)) (pi_seq (pe_ix (ix_any hu) (pv 0) pe_int (fun _ _ => rfl))) (blkOk_by (own := [("end", 5)]) (by kernel_rfl)) (fun _ _ _ _ _ => (pg_name (i := 5) nd rfl (Or.inl rfl))) (fun _ _ _ _ _ => pts_nil) (fun _ _ _ _ _ => (pe_callTy call_int1 (by rfl) T.b_int (by decide +kernel) (pa_cons (pv 5) pa_nil))))
   (pss_cons
    (ps_set (i := 2) nd rfl (Or.inl rfl) (pe_lenSet rfl T.b_len rfl T.b_set (pv 1)))
   (pss_one
    (ps_while PassesOwn.never (pt_val pe_bl) (pss_cons
     (ps_set (i := 3) nd rfl (Or.inl rfl) (pe_callH H_refined_classes hr rfl pass0 (pa_cons (pv 0) (pa_cons (pv 1) pa_nil))))
    (pss_cons
     (ps_set (i := 4) nd rfl (Or.inl rfl) (pe_lenSet rfl T.b_len rfl T.b_set (pv 3)))
    (pss_cons
     (ps_if (pt_cmpR (op_eqZ hu64) (pv 4) (pv 2) (nomark _)) (pss_one
      (ps_ret (pv 3))) pss_nil)
    (pss_cons
     (ps_set (i := 1) nd rfl (Or.inl rfl) (pv 3))
    (pss_one
     (ps_set (i := 2) nd rfl (Or.inl rfl) (pv 4)))))))))))

abbrev sleast : Stmt := top 9
theorem scleast : FnScope ["table", "classes", "moves", "ends", "state", "row", "_", "action", "goal"] ["table"] (defScope sleast) := ⟨rfl, rfl, rfl, by decide +kernel, rfl, by decide +kernel, by decide +kernel⟩
theorem ok_least {P : Program} {w : World} {K : PySem.W.Frag} {mg : Str → Option Value} {base : Heap} {C : Addr} {s_alike_classes : Sp} {s_subset_table : Sp} {sp : Sp} (F : Def K mg "least" sleast) (T : Txt K mg C) (H_alike_classes : Has P w K mg base CX0 2 "alike_classes" ["table"] s_alike_classes) (H_subset_table : Has P w K mg base CX0 2 "subset_table" ["start", "moves", "ends", "limit"] s_subset_table)
    (len : ∀ vs H Q E, sp vs H Q E → vs.length = 1) (rd : ∀ vs H Q E, sp vs H Q E → t_least K P w s_alike_classes s_subset_table { nx := fun _ H' => Q .non H', rt := Q } (L2.start ["table", "classes", "moves", "ends", "state", "row", "_", "action", "goal"] vs) H) : Has P w K mg base CX0 3 "least" ["table"] sp := by
  obtain ⟨f, fd, g, F⟩ := F
  have b : L2.Binds K fd ["table"] [] := F.bindsN fun _ _ _ _ _ _ us hl => match us, hl with | [_], _ => rfl
  refine ⟨f, fd, g, ?_, F.kp, b⟩
  refine F.ok scleast (fun vs H Q E h => len vs H Q E h) (fun cdv A outer s H vs Q E hr h => ⟨t_least K P w s_alike_classes s_subset_table, PSs.nox ?_, rd vs H Q E h⟩)
  have hu := hu100 hr
  have hu64 := hr.units
  have nd := scleast.nd
  exact (pss_cons
    (ps_set (i := 1) nd rfl (Or.inr rfl) (pe_callH H_alike_classes hr rfl pass0 (pa_cons (pv 0) pa_nil)))
   (pss_cons
    (ps_setLc (i := 2) (own := [("_", 6)]) rfl nd rfl rfl (sw_true rfl rfl rfl (by kernel_rfl)) (pi_seq (pv 1)) (blkOk_by (own := [("_", 6)]) (by kernel_rfl)) (fun _ _ _ _ _ => (pg_name (i := 6) nd rfl (Or.inl rfl))) (fun _ _ _ _ _ => pts_nil) (fun _ _ _ _ _ => (pe_lst pa_nil)))
   (pss_cons
    (ps_setLc (i := 3) (own := [("_", 6)]) rfl nd rfl rfl (sw_true rfl rfl rfl (by kernel_rfl)) (pi_seq (pv 1)) (blkOk_by (own := [("_", 6)]) (by kernel_rfl)) (fun _ _ _ _ _ => (pg_name (i := 6) nd rfl (Or.inl rfl))) (fun _ _ _ _ _ => pts_nil) (fun _ _ _ _ _ => pe_bl))
   (pss_cons
    (ps_for PassesOwn.never rfl (pi_enumA rfl T.b_enumerate (pa_cons (pe_ix (ix_any hu) (pv 0) pe_int (fun _ _ => rfl)) pa_nil)) (pg_tup rfl (pgs_cons (pg_name (i := 4) nd rfl (Or.inl rfl)) (pgs_cons (pg_name (i := 5) nd rfl (Or.inl rfl)) pgs_nil))) (pss_cons
     (ps_asg (pe_lc (own := [("action", 7), ("goal", 8)]) rfl nd (pi_seq (pv 5)) (blkOk_by (own := [("action", 7), ("goal", 8)]) (by kernel_rfl)) (fun _ _ _ _ _ => (pg_tup rfl (pgs_cons (pg_name (i := 7) nd rfl (Or.inl rfl)) (pgs_cons (pg_name (i := 8) nd rfl (Or.inl rfl)) pgs_nil)))) (fun _ _ _ _ _ => pts_nil) (fun _ _ _ _ _ => (pe_tup (pa_cons (pv 7) (pa_cons (pe_tup (pa_cons (pe_ix (ix_any hu) (pv 1) (pv 8) (fun _ _ => rfl)) pa_nil)) pa_nil))))) (pg_sub (pv 2) (pe_ix (ix_any hu) (pv 1) (pv 4) (fun _ _ => rfl)) (set_any hu)))
    (pss_one
     (ps_asg (pe_ix (ix_any hu) (pe_ix (ix_any hu) (pv 0) pe_int (fun _ _ => rfl)) (pv 4) (fun _ _ => rfl)) (pg_sub (pv 3) (pe_ix (ix_any hu) (pv 1) (pv 4) (fun _ _ => rfl)) (set_any hu))))))
   (pss_one
    (ps_ret (pe_callH H_subset_table hr rfl pass0 (pa_cons (pe_tup (pa_cons (pe_ix (ix_any hu) (pv 1) pe_int (fun _ _ => rfl)) pa_nil)) (pa_cons (pv 2) (pa_cons (pv 3) (pa_cons (pe_callB call_lenA (by rfl) T.b_len (by decide +kernel) (pa_cons (pv 1) pa_nil)) pa_nil)))))))))))

abbrev snext_state : Stmt := top 10
theorem scnext_state : FnScope ["table", "state", "action", "other", "goal"] ["table", "state", "action"] (defScope snext_state) := ⟨rfl, rfl, rfl, by decide +kernel, rfl, by decide +kernel, by decide +kernel⟩
theorem ok_next_state {P : Program} {w : World} {K : PySem.W.Frag} {mg : Str → Option Value} {base : Heap} {C : Addr} {sp : Sp} (F : Def K mg "next_state" snext_state) (T : Txt K mg C)
    (len : ∀ vs H Q E, sp vs H Q E → vs.length = 3) (rd : ∀ vs H Q E, sp vs H Q E → t_next_state K P w { nx := fun _ H' => Q .non H', rt := Q } (L2.start ["table", "state", "action", "other", "goal"] vs) H) : Has P w K mg base CX0 1 "next_state" ["table", "state", "action"] sp := by
  obtain ⟨f, fd, g, F⟩ := F
  have b : L2.Binds K fd ["table", "state", "action"] [] := F.bindsN fun _ _ _ _ _ _ us hl => match us, hl with | [_, _, _], _ => rfl
  refine ⟨f, fd, g, ?_, F.kp, b⟩
  refine F.ok scnext_state (fun vs H Q E h => len vs H Q E h) (fun cdv A outer s H vs Q E hr h => ⟨t_next_state K P w, PSs.nox ?_, rd vs H Q E h⟩)
  have hu := hu100 hr
  have hu64 := hr.units
  have nd := scnext_state.nd
  exact (pss_cons
    (ps_for PassesOwn.never rfl (pi_seq (pe_ix (ix_any hu) (pe_ix (ix_any hu) (pv 0) pe_int (fun _ _ => rfl)) (pv 1) (fun _ _ => rfl))) (pg_tup rfl (pgs_cons (pg_name (i := 3) nd rfl (Or.inl rfl)) (pgs_cons (pg_name (i := 4) nd rfl (Or.inl rfl)) pgs_nil))) (pss_one
     (ps_if (pt_cmpR (op_eqZ hu64) (pv 3) (pv 2) (nomark _)) (pss_one
      (ps_ret (pv 4))) pss_nil)))
   (pss_one
    (ps_ret pe_non)))

abbrev swalk : Stmt := top 11
theorem scwalk : FnScope ["table", "actions", "state", "action"] ["table", "actions"] (defScope swalk) := ⟨rfl, rfl, rfl, by decide +kernel, rfl, by decide +kernel, by decide +kernel⟩
theorem ok_walk {P : Program} {w : World} {K : PySem.W.Frag} {mg : Str → Option Value} {base : Heap} {C : Addr} {s_next_state : Sp} {sp : Sp} (F : Def K mg "walk" swalk) (T : Txt K mg C) (H_next_state : Has P w K mg base CX0 1 "next_state" ["table", "state", "action"] s_next_state)
    (len : ∀ vs H Q E, sp vs H Q E → vs.length = 2) (rd : ∀ vs H Q E, sp vs H Q E → t_walk K P w s_next_state { nx := fun _ H' => Q .non H', rt := Q } (L2.start ["table", "actions", "state", "action"] vs) H) : Has P w K mg base CX0 2 "walk" ["table", "actions"] sp := by
  obtain ⟨f, fd, g, F⟩ := F
  have b : L2.Binds K fd ["table", "actions"] [] := F.bindsN fun _ _ _ _ _ _ us hl => match us, hl with | [_, _], _ => rfl
  refine ⟨f, fd, g, ?_, F.kp, b⟩
  refine F.ok scwalk (fun vs H Q E h => len vs H Q E h) (fun cdv A outer s H vs Q E hr h => ⟨t_walk K P w s_next_state, PSs.nox ?_, rd vs H Q E h⟩)
  have hu := hu100 hr
  have hu64 := hr.units
  have nd := scwalk.nd
  exact (pss_cons
    (ps_set (i := 2) nd rfl (Or.inl rfl) pe_int)
   (pss_cons
    (ps_for PassesOwn.never rfl (pi_seq (pv 1)) (pg_name (i := 3) nd rfl (Or.inl rfl)) (pss_cons
     (ps_set (i := 2) nd rfl (Or.inl rfl) (pe_callH H_next_state hr rfl pass0 (pa_cons (pv 0) (pa_cons (pv 2) (pa_cons (pv 3) pa_nil)))))
    (pss_one
     (ps_if (pt_cmpR op_isN (pv 2) pe_non (nomark _)) (pss_one
      (ps_ret pe_non)) pss_nil))))
   (pss_one
    (ps_ret (pv 2)))))

abbrev sparties_of : Stmt := top 13
theorem scparties_of : FnScope ["table", "found", "row", "action", "_"] ["table"] (defScope sparties_of) := ⟨rfl, rfl, rfl, by decide +kernel, rfl, by decide +kernel, by decide +kernel⟩
theorem ok_parties_of {P : Program} {w : World} {K : PySem.W.Frag} {mg : Str → Option Value} {base : Heap} {C : Addr} {sp : Sp} (F : Def K mg "parties_of" sparties_of) (T : Txt K mg C)
    (len : ∀ vs H Q E, sp vs H Q E → vs.length = 1) (rd : ∀ vs H Q E, sp vs H Q E → t_parties_of K P w { nx := fun _ H' => Q .non H', rt := Q } (L2.start ["table", "found", "row", "action", "_"] vs) H) : Has P w K mg base CX0 1 "parties_of" ["table"] sp := by
  obtain ⟨f, fd, g, F⟩ := F
  have b : L2.Binds K fd ["table"] [] := F.bindsN fun _ _ _ _ _ _ us hl => match us, hl with | [_], _ => rfl
  refine ⟨f, fd, g, ?_, F.kp, b⟩
  refine F.ok scparties_of (fun vs H Q E h => len vs H Q E h) (fun cdv A outer s H vs Q E hr h => ⟨t_parties_of K P w, PSs.nox ?_, rd vs H Q E h⟩)
  have hu := hu100 hr
  have hu64 := hr.units
  have nd := scparties_of.nd
  exact (pss_cons
    (ps_set (i := 1) nd rfl (Or.inl rfl) pe_dnew)
   (pss_cons
    (ps_for PassesOwn.never rfl (pi_seq (pe_ix (ix_any hu) (pv 0) pe_int (fun _ _ => rfl))) (pg_name (i := 2) nd rfl (Or.inl rfl)) (pss_one
     (ps_for PassesOwn.never rfl (pi_seq (pv 2)) (pg_tup rfl (pgs_cons (pg_name (i := 3) nd rfl (Or.inl rfl)) (pgs_cons (pg_name (i := 4) nd rfl (Or.inl rfl)) pgs_nil))) (pss_cons
      (ps_asg pe_bl (pg_sub (pv 1) (pe_ix (ix_any hu) (pv 3) pe_int (fun _ _ => rfl)) (set_any hu)))
     (pss_one
      (ps_asg pe_bl (pg_sub (pv 1) (pe_ix (ix_any hu) (pv 3) pe_int (fun _ _ => rfl)) (set_any hu))))))))
   (pss_one
    (ps_ret (pe_callB (cr_sorted rfl hu) (by rfl) T.b_sorted (by decide +kernel) (pa_cons (pv 1) pa_nil))))))

abbrev sconcerns : Stmt := top 14
theorem scconcerns : FnScope ["action", "party"] ["action", "party"] (defScope sconcerns) := ⟨rfl, rfl, rfl, by decide +kernel, rfl, by decide +kernel, by decide +kernel⟩
theorem ok_concerns {P : Program} {w : World} {K : PySem.W.Frag} {mg : Str → Option Value} {base : Heap} {C : Addr} {sp : Sp} (F : Def K mg "concerns" sconcerns) (T : Txt K mg C)
    (len : ∀ vs H Q E, sp vs H Q E → vs.length = 2) (rd : ∀ vs H Q E, sp vs H Q E → t_concerns K P w { nx := fun _ H' => Q .non H', rt := Q } (L2.start ["action", "party"] vs) H) : Has P w K mg base CX0 1 "concerns" ["action", "party"] sp := by
  obtain ⟨f, fd, g, F⟩ := F
  have b : L2.Binds K fd ["action", "party"] [] := F.bindsN fun _ _ _ _ _ _ us hl => match us, hl with | [_, _], _ => rfl
  refine ⟨f, fd, g, ?_, F.kp, b⟩
  refine F.ok scconcerns (fun vs H Q E h => len vs H Q E h) (fun cdv A outer s H vs Q E hr h => ⟨t_concerns K P w, PSs.nox ?_, rd vs H Q E h⟩)
  have hu := hu100 hr
  have hu64 := hr.units
  have nd := scconcerns.nd
  exact (pss_one
    (ps_ret (pe_or (pe_cmpR (op_eqZ hu64) (pe_ix (ix_any hu) (pv 0) pe_int (fun _ _ => rfl)) (pv 1) (nomark _)) (pe_one (pe_cmpR (op_eqZ hu64) (pe_ix (ix_any hu) (pv 0) pe_int (fun _ _ => rfl)) (pv 1) (nomark _))))))

abbrev sview : Stmt := top 15
theorem scview : FnScope ["actions", "party", "action"] ["actions", "party"] (defScope sview) := ⟨rfl, rfl, rfl, by decide +kernel, rfl, by decide +kernel, by decide +kernel⟩
theorem ok_view {P : Program} {w : World} {K : PySem.W.Frag} {mg : Str → Option Value} {base : Heap} {C : Addr} {s_concerns : Sp} {sp : Sp} (F : Def K mg "view" sview) (T : Txt K mg C) (H_concerns : Has P w K mg base CX0 1 "concerns" ["action", "party"] s_concerns)
    (len : ∀ vs H Q E, sp vs H Q E → vs.length = 2) (rd : ∀ vs H Q E, sp vs H Q E → t_view K P w s_concerns { nx := fun _ H' => Q .non H', rt := Q } (L2.start ["actions", "party", "action"] vs) H) : Has P w K mg base CX0 2 "view" ["actions", "party"] sp := by
  obtain ⟨f, fd, g, F⟩ := F
  have b : L2.Binds K fd ["actions", "party"] [] := F.bindsN fun _ _ _ _ _ _ us hl => match us, hl with | [_, _], _ => rfl
  refine ⟨f, fd, g, ?_, F.kp, b⟩
  refine F.ok scview (fun vs H Q E h => len vs H Q E h) (fun cdv A outer s H vs Q E hr h => ⟨t_view K P w s_concerns, PSs.nox ?_, rd vs H Q E h⟩)
  have hu := hu100 hr
  have hu64 := hr.units
  have nd := scview.nd
  exact (pss_one
    (ps_ret (pe_lc (own := [("action", 2)]) rfl nd (pi_seq (pv 0)) (blkOk_by (own := [("action", 2)]) (by kernel_rfl)) (fun _ _ _ _ _ => (pg_name (i := 2) nd rfl (Or.inl rfl))) (fun _ _ _ _ _ => (pts_one (pt_val (pe_callH H_concerns hr rfl pass0 (pa_cons (pv 2) (pa_cons (pv 1) pa_nil)))))) (fun _ _ _ _ _ => (pv 2)))))

abbrev sreached_unseen : Stmt := top 16
theorem screached_unseen : FnScope ["table", "state", "party", "seen", "found", "waiting", "action", "goal"] ["table", "state", "party", "seen"] (defScope sreached_unseen) := ⟨rfl, rfl, rfl, by decide +kernel, rfl, by decide +kernel, by decide +kernel⟩
theorem ok_reached_unseen {P : Program} {w : World} {K : PySem.W.Frag} {mg : Str → Option Value} {base : Heap} {C : Addr} {s_concerns : Sp} {sp : Sp} (F : Def K mg "reached_unseen" sreached_unseen) (T : Txt K mg C) (H_concerns : Has P w K mg base CX0 1 "concerns" ["action", "party"] s_concerns)
    (len : ∀ vs H Q E, sp vs H Q E → vs.length = 4) (rd : ∀ vs H Q E, sp vs H Q E → t_reached_unseen K P w s_concerns { nx := fun _ H' => Q .non H', rt := Q } (L2.start ["table", "state", "party", "seen", "found", "waiting", "action", "goal"] vs) H) : Has P w K mg base CX0 2 "reached_unseen" ["table", "state", "party", "seen"] sp := by
  obtain ⟨f, fd, g, F⟩ := F
  have b : L2.Binds K fd ["table", "state", "party", "seen"] [] := F.bindsN fun _ _ _ _ _ _ us hl => match us, hl with | [_, _, _, _], _ => rfl
  refine ⟨f, fd, g, ?_, F.kp, b⟩
  refine F.ok screached_unseen (fun vs H Q E h => len vs H Q E h) (fun cdv A outer s H vs Q E hr h => ⟨t_reached_unseen K P w s_concerns, PSs.nox ?_, rd vs H Q E h⟩)
  have hu := hu100 hr
  have hu64 := hr.units
  have nd := screached_unseen.nd
  exact (pss_cons
    (ps_set (i := 4) nd rfl (Or.inl rfl) (pe_disp (pps_cons (pv 1) pe_bl pps_nil) (by rfl) (by rfl) (fun z => by cases z) (by decide)))
   (pss_cons
    (ps_set (i := 5) nd rfl (Or.inl rfl) (pe_lst (pa_cons (pv 1) pa_nil)))
   (pss_cons
    (ps_while PassesOwn.never (pt_truth (pv 5) (by intro _; rfl)) (pss_one
     (ps_for PassesOwn.never rfl (pi_seq (pe_ix (ix_any hu) (pe_ix (ix_any hu) (pv 0) pe_int (fun _ _ => rfl)) (pe_bm0 PySem.F.plainAttrs_list PySem.F.slot_list_pop PySem.F.type_list_pop mt_pop (pv 5)) (fun _ _ => rfl))) (pg_tup rfl (pgs_cons (pg_name (i := 6) nd rfl (Or.inl rfl)) (pgs_cons (pg_name (i := 7) nd rfl (Or.inl rfl)) pgs_nil))) (pss_one
      (ps_if (PW.pt (pw_and (pt_cmpR (op_neA hu64) (pe_callH H_concerns hr rfl pass0 (pa_cons (pv 6) (pa_cons (pv 2) pa_nil))) (pv 3) (nomark _)) (pw_and1 (pt_cmpR (op_notIn hu) (pv 7) (pv 4) rfl)))) (pss_cons
       (ps_asg pe_bl (pg_sub (pv 4) (pv 7) (set_any hu)))
      (pss_one
       (ps_expr (pe_bm PySem.F.plainAttrs_list PySem.F.slot_list_append PySem.F.type_list_append mt_append (pv 5) (pa_cons (pv 7) pa_nil))))) pss_nil)))))
   (pss_one
    (ps_ret (pe_callTy call_tuple_of (by rfl) T.b_tuple (by decide +kernel) (pa_cons (pe_callB (cr_sorted rfl hu) (by rfl) T.b_sorted (by decide +kernel) (pa_cons (pv 4) pa_nil)) pa_nil)))))))

abbrev serased : Stmt := top 17
theorem scerased : FnScope ["table", "party", "seen", "reach", "moves", "row", "state", "action", "goal"] ["table", "party", "seen"] (defScope serased) := ⟨rfl, rfl, rfl, by decide +kernel, rfl, by decide +kernel, by decide +kernel⟩
theorem ok_erased {P : Program} {w : World} {K : PySem.W.Frag} {mg : Str → Option Value} {base : Heap} {C : Addr} {s_concerns : Sp} {s_least : Sp} {s_reached_unseen : Sp} {s_subset_table : Sp} {sp : Sp} (F : Def K mg "erased" serased) (T : Txt K mg C) (H_concerns : Has P w K mg base CX0 3 "concerns" ["action", "party"] s_concerns) (H_least : Has P w K mg base CX0 3 "least" ["table"] s_least) (H_reached_unseen : Has P w K mg base CX0 3 "reached_unseen" ["table", "state", "party", "seen"] s_reached_unseen) (H_subset_table : Has P w K mg base CX0 3 "subset_table" ["start", "moves", "ends", "limit"] s_subset_table)
    (len : ∀ vs H Q E, sp vs H Q E → vs.length = 3) (rd : ∀ vs H Q E, sp vs H Q E → t_erased K P w s_concerns s_least s_reached_unseen s_subset_table { nx := fun _ H' => Q .non H', rt := Q } (L2.start ["table", "party", "seen", "reach", "moves", "row", "state", "action", "goal"] vs) H) : Has P w K mg base CX0 4 "erased" ["table", "party", "seen"] sp := by
  obtain ⟨f, fd, g, F⟩ := F
  have b : L2.Binds K fd ["table", "party", "seen"] [] := F.bindsN fun _ _ _ _ _ _ us hl => match us, hl with | [_, _, _], _ => rfl
  refine ⟨f, fd, g, ?_, F.kp, b⟩
  refine F.ok scerased (fun vs H Q E h => len vs H Q E h) (fun cdv A outer s H vs Q E hr h => ⟨t_erased K P w s_concerns s_least s_reached_unseen s_subset_table, PSs.nox ?_, rd vs H Q E h⟩)
  have hu := hu100 hr
  have hu64 := hr.units
  have nd := scerased.nd
  exact (pss_cons
    (ps_set (i := 3) nd rfl (Or.inr rfl) (pe_lc (own := [("state", 6)]) rfl nd (pi_range1 rfl T.b_range (pa_cons (pe_callB call_lenA (by rfl) T.b_len (by decide +kernel) (pa_cons (pe_ix (ix_any hu) (pv 0) pe_int (fun _ _ => rfl)) pa_nil)) pa_nil)) (blkOk_by (own := [("state", 6)]) (by kernel_rfl)) (fun _ _ _ _ _ => (pg_name (i := 6) nd rfl (Or.inl rfl))) (fun _ _ _ _ _ => pts_nil) (fun _ _ _ _ _ => (pe_callH H_reached_unseen hr rfl pass0 (pa_cons (pv 0) (pa_cons (pv 6) (pa_cons (pv 1) (pa_cons (pv 2) pa_nil))))))))
   (pss_cons
    (ps_set (i := 4) nd rfl (Or.inl rfl) (pe_lst pa_nil))
   (pss_cons
    (ps_for PassesOwn.never rfl (pi_seq (pe_ix (ix_any hu) (pv 0) pe_int (fun _ _ => rfl))) (pg_name (i := 5) nd rfl (Or.inl rfl)) (pss_one
     (ps_expr (pe_bm PySem.F.plainAttrs_list PySem.F.slot_list_append PySem.F.type_list_append mt_append (pv 4) (pa_cons (pe_lc (own := [("action", 7), ("goal", 8)]) rfl nd (pi_seq (pv 5)) (blkOk_by (own := [("action", 7), ("goal", 8)]) (by kernel_rfl)) (fun _ _ _ _ _ => (pg_tup rfl (pgs_cons (pg_name (i := 7) nd rfl (Or.inl rfl)) (pgs_cons (pg_name (i := 8) nd rfl (Or.inl rfl)) pgs_nil)))) (fun _ _ _ _ _ => (pts_one (pt_cmpR (op_eqZ hu64) (pe_callH H_concerns hr rfl pass0 (pa_cons (pv 7) (pa_cons (pv 1) pa_nil))) (pv 2) (nomark _)))) (fun _ _ _ _ _ => (pe_tup (pa_cons (pv 7) (pa_cons (pe_ix (ix_any hu) (pv 3) (pv 8) (fun _ _ => rfl)) pa_nil))))) pa_nil)))))
   (pss_one
    (ps_ret (pe_callH H_least hr rfl pass0 (pa_cons (pe_callH H_subset_table hr rfl pass0 (pa_cons (pe_ix (ix_any hu) (pv 3) pe_int (fun _ _ => rfl)) (pa_cons (pv 4) (pa_cons (pe_ix (ix_any hu) (pv 0) pe_int (fun _ _ => rfl)) (pa_cons (pe_globN rfl T.gMOSTSTATES) pa_nil))))) pa_nil)))))))

abbrev smachine_of : Stmt := top 18
theorem scmachine_of : FnScope ["table", "party"] ["table", "party"] (defScope smachine_of) := ⟨rfl, rfl, rfl, by decide +kernel, rfl, by decide +kernel, by decide +kernel⟩
theorem ok_machine_of {P : Program} {w : World} {K : PySem.W.Frag} {mg : Str → Option Value} {base : Heap} {C : Addr} {s_erased : Sp} {sp : Sp} (F : Def K mg "machine_of" smachine_of) (T : Txt K mg C) (H_erased : Has P w K mg base CX0 4 "erased" ["table", "party", "seen"] s_erased)
    (len : ∀ vs H Q E, sp vs H Q E → vs.length = 2) (rd : ∀ vs H Q E, sp vs H Q E → t_machine_of K P w s_erased { nx := fun _ H' => Q .non H', rt := Q } (L2.start ["table", "party"] vs) H) : Has P w K mg base CX0 5 "machine_of" ["table", "party"] sp := by
  obtain ⟨f, fd, g, F⟩ := F
  have b : L2.Binds K fd ["table", "party"] [] := F.bindsN fun _ _ _ _ _ _ us hl => match us, hl with | [_, _], _ => rfl
  refine ⟨f, fd, g, ?_, F.kp, b⟩
  refine F.ok scmachine_of (fun vs H Q E h => len vs H Q E h) (fun cdv A outer s H vs Q E hr h => ⟨t_machine_of K P w s_erased, PSs.nox ?_, rd vs H Q E h⟩)
  have hu := hu100 hr
  have hu64 := hr.units
  have nd := scmachine_of.nd
  exact (pss_one
    (ps_ret (pe_callH H_erased hr rfl pass0 (pa_cons (pv 0) (pa_cons (pv 1) (pa_cons pe_bl pa_nil))))))

abbrev smachines_of : Stmt := top 19
theorem scmachines_of : FnScope ["table", "party"] ["table"] (defScope smachines_of) := ⟨rfl, rfl, rfl, by decide +kernel, rfl, by decide +kernel, by decide +kernel⟩
theorem ok_machines_of {P : Program} {w : World} {K : PySem.W.Frag} {mg : Str → Option Value} {base : Heap} {C : Addr} {s_machine_of : Sp} {s_parties_of : Sp} {sp : Sp} (F : Def K mg "machines_of" smachines_of) (T : Txt K mg C) (H_machine_of : Has P w K mg base CX0 5 "machine_of" ["table", "party"] s_machine_of) (H_parties_of : Has P w K mg base CX0 5 "parties_of" ["table"] s_parties_of)
    (len : ∀ vs H Q E, sp vs H Q E → vs.length = 1) (rd : ∀ vs H Q E, sp vs H Q E → t_machines_of K P w s_machine_of s_parties_of { nx := fun _ H' => Q .non H', rt := Q } (L2.start ["table", "party"] vs) H) : Has P w K mg base CX0 6 "machines_of" ["table"] sp := by
  obtain ⟨f, fd, g, F⟩ := F
  have b : L2.Binds K fd ["table"] [] := F.bindsN fun _ _ _ _ _ _ us hl => match us, hl with | [_], _ => rfl
  refine ⟨f, fd, g, ?_, F.kp, b⟩
  refine F.ok scmachines_of (fun vs H Q E h => len vs H Q E h) (fun cdv A outer s H vs Q E hr h => ⟨t_machines_of K P w s_machine_of s_parties_of, PSs.nox ?_, rd vs H Q E h⟩)
  have hu := hu100 hr
  have hu64 := hr.units
  have nd := scmachines_of.nd
  exact (pss_one
    (ps_ret (pe_frz (pe_dc (own := [("party", 1)]) rfl nd (pi_seq (pe_callH H_parties_of hr rfl pass0 (pa_cons (pv 0) pa_nil))) (blkOk_by (own := [("party", 1)]) (by kernel_rfl)) (fun _ _ _ _ _ => (pg_name (i := 1) nd rfl (Or.inl rfl))) (fun _ _ _ _ _ => pts_nil) (fun _ _ _ _ _ => (pv 1)) (fun _ _ _ _ _ => (pe_callH H_machine_of hr rfl pass0 (pa_cons (pv 0) (pa_cons (pv 1) pa_nil))))))))

abbrev snext_joint : Stmt := top 22
theorem scnext_joint : FnScope ["table", "machines", "joint", "action", "states", "place", "party", "state"] ["table", "machines", "joint", "action"] (defScope snext_joint) := ⟨rfl, rfl, rfl, by decide +kernel, rfl, by decide +kernel, by decide +kernel⟩
theorem ok_next_joint {P : Program} {w : World} {K : PySem.W.Frag} {mg : Str → Option Value} {base : Heap} {C : Addr} {s_concerns : Sp} {s_next_state : Sp} {sp : Sp} (F : Def K mg "next_joint" snext_joint) (T : Txt K mg C) (H_concerns : Has P w K mg base CX0 1 "concerns" ["action", "party"] s_concerns) (H_next_state : Has P w K mg base CX0 1 "next_state" ["table", "state", "action"] s_next_state)
    (len : ∀ vs H Q E, sp vs H Q E → vs.length = 4) (rd : ∀ vs H Q E, sp vs H Q E → t_next_joint K P w s_concerns s_next_state { nx := fun _ H' => Q .non H', rt := Q } (L2.start ["table", "machines", "joint", "action", "states", "place", "party", "state"] vs) H) : Has P w K mg base CX0 2 "next_joint" ["table", "machines", "joint", "action"] sp := by
  obtain ⟨f, fd, g, F⟩ := F
  have b : L2.Binds K fd ["table", "machines", "joint", "action"] [] := F.bindsN fun _ _ _ _ _ _ us hl => match us, hl with | [_, _, _, _], _ => rfl
  refine ⟨f, fd, g, ?_, F.kp, b⟩
  refine F.ok scnext_joint (fun vs H Q E h => len vs H Q E h) (fun cdv A outer s H vs Q E hr h => ⟨t_next_joint K P w s_concerns s_next_state, PSs.nox ?_, rd vs H Q E h⟩)
  have hu := hu100 hr
  have hu64 := hr.units
  have nd := scnext_joint.nd
  exact (pss_cons
    (ps_set (i := 4) nd rfl (Or.inl rfl) (pe_lst (pa_cons (pe_callH H_next_state hr rfl pass0 (pa_cons (pv 0) (pa_cons (pe_ix (ix_any hu) (pv 2) pe_int (fun _ _ => rfl)) (pa_cons (pv 3) pa_nil)))) pa_nil)))
   (pss_cons
    (ps_for PassesOwn.never rfl (pi_enumA rfl T.b_enumerate (pa_cons (pv 1) pa_nil)) (pg_tup rfl (pgs_cons (pg_name (i := 5) nd rfl (Or.inl rfl)) (pgs_cons (pg_name (i := 6) nd rfl (Or.inl rfl)) pgs_nil))) (pss_cons
     (ps_set (i := 7) nd rfl (Or.inl rfl) (pe_ix (ix_any hu) (pv 2) (pe_op op_addA (pv 5) pe_int) (fun _ _ => rfl)))
    (pss_cons
     (ps_if (pt_val (pe_callH H_concerns hr rfl pass0 (pa_cons (pv 3) (pa_cons (pv 6) pa_nil)))) (pss_one
      (ps_set (i := 7) nd rfl (Or.inl rfl) (pe_callH H_next_state hr rfl pass0 (pa_cons (pe_ix (ix_any hu) (pv 1) (pv 6) (fun _ _ => rfl)) (pa_cons (pv 7) (pa_cons (pv 3) pa_nil)))))) pss_nil)
    (pss_one
     (ps_expr (pe_bm PySem.F.plainAttrs_list PySem.F.slot_list_append PySem.F.type_list_append mt_append (pv 4) (pa_cons (pv 7) pa_nil)))))))
   (pss_one
    (ps_ret (pe_callTy call_tuple_of (by rfl) T.b_tuple (by decide +kernel) (pa_cons (pv 4) pa_nil))))))

abbrev sjoint_states : Stmt := top 23
theorem scjoint_states : FnScope ["table", "machines", "start", "found", "order", "at", "joint", "run", "action", "_", "goal"] ["table"] (defScope sjoint_states) := ⟨rfl, rfl, rfl, by decide +kernel, rfl, by decide +kernel, by decide +kernel⟩
theorem ok_joint_states {P : Program} {w : World} {K : PySem.W.Frag} {mg : Str → Option Value} {base : Heap} {C : Addr} {s_machines_of : Sp} {s_next_joint : Sp} {sp : Sp} (F : Def K mg "joint_states" sjoint_states) (T : Txt K mg C) (H_machines_of : Has P w K mg base CX0 6 "machines_of" ["table"] s_machines_of) (H_next_joint : Has P w K mg base CX0 6 "next_joint" ["table", "machines", "joint", "action"] s_next_joint)
    (len : ∀ vs H Q E, sp vs H Q E → vs.length = 1) (rd : ∀ vs H Q E, sp vs H Q E → t_joint_states K P w C E s_machines_of s_next_joint { nx := fun _ H' => Q .non H', rt := Q } (L2.start ["table", "machines", "start", "found", "order", "at", "joint", "run", "action", "_", "goal"] vs) H) : Has P w K mg base (L2.CX P w) 7 "joint_states" ["table"] sp := by
  obtain ⟨f, fd, g, F⟩ := F
  have b : L2.Binds K fd ["table"] [] := F.bindsN fun _ _ _ _ _ _ us hl => match us, hl with | [_], _ => rfl
  refine ⟨f, fd, g, ?_, F.kp, b⟩
  refine F.ok scjoint_states (fun vs H Q E h => len vs H Q E h) (fun cdv A outer s H vs Q E hr h => ⟨t_joint_states K P w C E s_machines_of s_next_joint, ?_, rd vs H Q E h⟩)
  have hu := hu100 hr
  have hu64 := hr.units
  have nd := scjoint_states.nd
  exact (pss_cons
    (ps_set (i := 1) nd rfl (Or.inl rfl) (pe_callH H_machines_of hr rfl pass0 (pa_cons (pv 0) pa_nil)))
   (pss_cons
    (ps_set (i := 2) nd rfl (Or.inl rfl) (pe_callTy call_tuple_of (by rfl) T.b_tuple (by decide +kernel) (pa_cons (pe_op op_mulA (pe_lst (pa_cons pe_int pa_nil)) (pe_op op_addA (pe_callB call_lenA (by rfl) T.b_len (by decide +kernel) (pa_cons (pv 1) pa_nil)) pe_int)) pa_nil)))
   (pss_cons
    (ps_set (i := 3) nd rfl (Or.inl rfl) (pe_dispN hu (pv 2) pe_bl))
   (pss_cons
    (ps_set (i := 4) nd rfl (Or.inl rfl) (pe_lst (pa_cons (pe_tup (pa_cons (pv 2) (pa_cons (pe_lst pa_nil) pa_nil))) pa_nil)))
   (pss_cons
    (ps_set (i := 5) nd rfl (Or.inl rfl) pe_int)
   (pss_cons
    (ps_while (passes_of rfl) (pt_cmpR op_lt (pv 5) (pe_callB call_lenA (by rfl) T.b_len (by decide +kernel) (pa_cons (pv 4) pa_nil)) (nomark _)) (pss_cons
     (ps_asg (pe_ix (ix_any hu) (pv 4) (pv 5) (fun _ _ => rfl)) (pg_tup rfl (pgs_cons (pg_name (i := 6) nd rfl (Or.inl rfl)) (pgs_cons (pg_name (i := 7) nd rfl (Or.inl rfl)) pgs_nil))))
    (pss_cons
     (ps_aug (i := 5) nd rfl (Or.inl rfl) pe_int ip_add)
    (pss_one
     (ps_for (passes_of rfl) rfl (pi_seq (pe_ix (ix_any hu) (pe_ix (ix_any hu) (pv 0) pe_int (fun _ _ => rfl)) (pe_ix (ix_any hu) (pv 6) pe_int (fun _ _ => rfl)) (fun _ _ => rfl))) (pg_tup rfl (pgs_cons (pg_name (i := 8) nd rfl (Or.inl rfl)) (pgs_cons (pg_name (i := 9) nd rfl (Or.inl rfl)) pgs_nil))) (pss_cons
      (ps_set (i := 10) nd rfl (Or.inl rfl) (pe_callH H_next_joint hr rfl pass0 (pa_cons (pv 0) (pa_cons (pv 1) (pa_cons (pv 6) (pa_cons (pv 8) pa_nil))))))
     (pss_one
      (ps_if (pt_cmpR (op_notIn hu) (pv 10) (pv 3) rfl) (pss_cons
       (ps_if (pt_cmpR (op_eqZ hu64) (pe_callB call_lenA (by rfl) T.b_len (by decide +kernel) (pa_cons (pv 4) pa_nil)) (pe_globN rfl T.gMOSTJOINT) (nomark _)) (pss_one
        (ps_raise rfl (takes_of (E := E) rfl rfl rfl rfl) (pmk_own0 PySem.F.excBase_ValueError T.xC T.gC T.kC (raises_own T.bC T.yC) (by exact rfl)))) pss_nil)
      (pss_cons
       (ps_asg pe_bl (pg_sub (pv 3) (pv 10) (set_any hu)))
      (pss_one
       (ps_expr (pe_bm PySem.F.plainAttrs_list PySem.F.slot_list_append PySem.F.type_list_append mt_append (pv 4) (pa_cons (pe_tup (pa_cons (pv 10) (pa_cons (pe_op op_addA (pv 7) (pe_lst (pa_cons (pv 8) pa_nil))) pa_nil))) pa_nil)))))) pss_nil))))))))
   (pss_one
    (ps_ret (pv 4)))))))))

abbrev sseen_alike : Stmt := top 25
theorem scseen_alike : FnScope ["table", "party", "sight", "wanted", "waiting", "found", "at", "state", "count", "run", "action", "goal", "ahead"] ["table", "party", "sight", "wanted"] (defScope sseen_alike) := ⟨rfl, rfl, rfl, by decide +kernel, rfl, by decide +kernel, by decide +kernel⟩
theorem ok_seen_alike {P : Program} {w : World} {K : PySem.W.Frag} {mg : Str → Option Value} {base : Heap} {C : Addr} {s_concerns : Sp} {s_next_state : Sp} {sp : Sp} (F : Def K mg "seen_alike" sseen_alike) (T : Txt K mg C) (H_concerns : Has P w K mg base CX0 1 "concerns" ["action", "party"] s_concerns) (H_next_state : Has P w K mg base CX0 1 "next_state" ["table", "state", "action"] s_next_state)
    (len : ∀ vs H Q E, sp vs H Q E → vs.length = 4) (rd : ∀ vs H Q E, sp vs H Q E → t_seen_alike K P w s_concerns s_next_state { nx := fun _ H' => Q .non H', rt := Q } (L2.start ["table", "party", "sight", "wanted", "waiting", "found", "at", "state", "count", "run", "action", "goal", "ahead"] vs) H) : Has P w K mg base CX0 2 "seen_alike" ["table", "party", "sight", "wanted"] sp := by
  obtain ⟨f, fd, g, F⟩ := F
  have b : L2.Binds K fd ["table", "party", "sight", "wanted"] [] := F.bindsN fun _ _ _ _ _ _ us hl => match us, hl with | [_, _, _, _], _ => rfl
  refine ⟨f, fd, g, ?_, F.kp, b⟩
  refine F.ok scseen_alike (fun vs H Q E h => len vs H Q E h) (fun cdv A outer s H vs Q E hr h => ⟨t_seen_alike K P w s_concerns s_next_state, PSs.nox ?_, rd vs H Q E h⟩)
  have hu := hu100 hr
  have hu64 := hr.units
  have nd := scseen_alike.nd
  exact (pss_cons
    (ps_set (i := 4) nd rfl (Or.inl rfl) (pe_lst (pa_cons (pe_tup (pa_cons pe_int (pa_cons pe_int (pa_cons (pe_lst pa_nil) pa_nil)))) pa_nil)))
   (pss_cons
    (ps_set (i := 5) nd rfl (Or.inl rfl) (pe_dispN hu (pe_tup (pa_cons pe_int (pa_cons pe_int pa_nil))) pe_bl))
   (pss_cons
    (ps_set (i := 6) nd rfl (Or.inl rfl) pe_int)
   (pss_cons
    (ps_while PassesOwn.never (pt_cmpR op_lt (pv 6) (pe_callB call_lenA (by rfl) T.b_len (by decide +kernel) (pa_cons (pv 4) pa_nil)) (nomark _)) (pss_cons
     (ps_asg (pe_ix (ix_any hu) (pv 4) (pv 6) (fun _ _ => rfl)) (pg_tup rfl (pgs_cons (pg_name (i := 7) nd rfl (Or.inl rfl)) (pgs_cons (pg_name (i := 8) nd rfl (Or.inl rfl)) (pgs_cons (pg_name (i := 9) nd rfl (Or.inl rfl)) pgs_nil)))))
    (pss_cons
     (ps_aug (i := 6) nd rfl (Or.inl rfl) pe_int ip_add)
    (pss_cons
     (ps_if (pt_cmpR (op_eqZ hu64) (pv 8) (pe_callB call_lenA (by rfl) T.b_len (by decide +kernel) (pa_cons (pv 2) pa_nil)) (nomark _)) (pss_cons
      (ps_if (PW.pt (pw_and (pt_cmpR op_isN (pv 3) pe_non (nomark _)) (pw_and1 (pt_val (pe_ix (ix_any hu) (pe_ix (ix_any hu) (pv 0) pe_int (fun _ _ => rfl)) (pv 7) (fun _ _ => rfl)))))) (pss_one
       (ps_ret (pv 9))) pss_nil)
     (pss_one
      (ps_if (PW.pt (pw_and (pt_cmpR op_notN (pv 3) pe_non (nomark _)) (pw_and1 (pt_cmpR op_notN (pe_callH H_next_state hr rfl pass0 (pa_cons (pv 0) (pa_cons (pv 7) (pa_cons (pv 3) pa_nil)))) pe_non (nomark _))))) (pss_one
       (ps_ret (pv 9))) pss_nil))) pss_nil)
    (pss_one
     (ps_for PassesOwn.never rfl (pi_seq (pe_ix (ix_any hu) (pe_ix (ix_any hu) (pv 0) pe_int (fun _ _ => rfl)) (pv 7) (fun _ _ => rfl))) (pg_tup rfl (pgs_cons (pg_name (i := 10) nd rfl (Or.inl rfl)) (pgs_cons (pg_name (i := 11) nd rfl (Or.inl rfl)) pgs_nil))) (pss_cons
      (ps_set (i := 12) nd rfl (Or.inl rfl) (pv 8))
     (pss_cons
      (ps_if (pt_val (pe_callH H_concerns hr rfl pass0 (pa_cons (pv 10) (pa_cons (pv 1) pa_nil)))) (pss_cons
       (ps_if (PW.pt (pw_or (pt_cmpR (op_eqZ hu64) (pv 8) (pe_callB call_lenA (by rfl) T.b_len (by decide +kernel) (pa_cons (pv 2) pa_nil)) (nomark _)) (pw_or1 (pt_cmpR (op_neA hu64) (pe_ix (ix_any hu) (pv 2) (pv 8) (fun _ _ => rfl)) (pv 10) (nomark _))))) (pss_one
        ps_continue) pss_nil)
      (pss_one
       (ps_set (i := 12) nd rfl (Or.inl rfl) (pe_op op_addA (pv 8) pe_int)))) pss_nil)
     (pss_one
      (ps_if (pt_cmpR (op_notIn hu) (pe_tup (pa_cons (pv 11) (pa_cons (pv 12) pa_nil))) (pv 5) rfl) (pss_cons
       (ps_asg pe_bl (pg_sub (pv 5) (pe_tup (pa_cons (pv 11) (pa_cons (pv 12) pa_nil))) (set_any hu)))
      (pss_one
       (ps_expr (pe_bm PySem.F.plainAttrs_list PySem.F.slot_list_append PySem.F.type_list_append mt_append (pv 4) (pa_cons (pe_tup (pa_cons (pv 11) (pa_cons (pv 12) (pa_cons (pe_op op_addA (pv 9) (pe_lst (pa_cons (pv 10) pa_nil))) pa_nil)))) pa_nil))))) pss_nil))))))))))
   (pss_one
    (ps_ret pe_non))))))

abbrev sstates_by_party : Stmt := top 26
theorem scstates_by_party : FnScope ["machines", "joint", "place", "party"] ["machines", "joint"] (defScope sstates_by_party) := ⟨rfl, rfl, rfl, by decide +kernel, rfl, by decide +kernel, by decide +kernel⟩
theorem ok_states_by_party {P : Program} {w : World} {K : PySem.W.Frag} {mg : Str → Option Value} {base : Heap} {C : Addr} {sp : Sp} (F : Def K mg "states_by_party" sstates_by_party) (T : Txt K mg C)
    (len : ∀ vs H Q E, sp vs H Q E → vs.length = 2) (rd : ∀ vs H Q E, sp vs H Q E → t_states_by_party K P w { nx := fun _ H' => Q .non H', rt := Q } (L2.start ["machines", "joint", "place", "party"] vs) H) : Has P w K mg base CX0 1 "states_by_party" ["machines", "joint"] sp := by
  obtain ⟨f, fd, g, F⟩ := F
  have b : L2.Binds K fd ["machines", "joint"] [] := F.bindsN fun _ _ _ _ _ _ us hl => match us, hl with | [_, _], _ => rfl
  refine ⟨f, fd, g, ?_, F.kp, b⟩
  refine F.ok scstates_by_party (fun vs H Q E h => len vs H Q E h) (fun cdv A outer s H vs Q E hr h => ⟨t_states_by_party K P w, PSs.nox ?_, rd vs H Q E h⟩)
  have hu := hu100 hr
  have hu64 := hr.units
  have nd := scstates_by_party.nd
  exact (pss_one
    (ps_ret (pe_frz (pe_dc (own := [("place", 2), ("party", 3)]) rfl nd (pi_enumA rfl T.b_enumerate (pa_cons (pv 0) pa_nil)) (blkOk_by (own := [("place", 2), ("party", 3)]) (by kernel_rfl)) (fun _ _ _ _ _ => (pg_tup rfl (pgs_cons (pg_name (i := 2) nd rfl (Or.inl rfl)) (pgs_cons (pg_name (i := 3) nd rfl (Or.inl rfl)) pgs_nil)))) (fun _ _ _ _ _ => pts_nil) (fun _ _ _ _ _ => (pv 3)) (fun _ _ _ _ _ => (pe_ix (ix_any hu) (pv 1) (pe_op op_addA (pv 2) pe_int) (fun _ _ => rfl)))))))

abbrev ssends_at : Stmt := top 27
theorem scsends_at : FnScope ["machines", "states", "actions", "party", "action", "_"] ["machines", "states"] (defScope ssends_at) := ⟨rfl, rfl, rfl, by decide +kernel, rfl, by decide +kernel, by decide +kernel⟩
theorem ok_sends_at {P : Program} {w : World} {K : PySem.W.Frag} {mg : Str → Option Value} {base : Heap} {C : Addr} {sp : Sp} (F : Def K mg "sends_at" ssends_at) (T : Txt K mg C)
    (len : ∀ vs H Q E, sp vs H Q E → vs.length = 2) (rd : ∀ vs H Q E, sp vs H Q E → t_sends_at K P w { nx := fun _ H' => Q .non H', rt := Q } (L2.start ["machines", "states", "actions", "party", "action", "_"] vs) H) : Has P w K mg base CX0 1 "sends_at" ["machines", "states"] sp := by
  obtain ⟨f, fd, g, F⟩ := F
  have b : L2.Binds K fd ["machines", "states"] [] := F.bindsN fun _ _ _ _ _ _ us hl => match us, hl with | [_, _], _ => rfl
  refine ⟨f, fd, g, ?_, F.kp, b⟩
  refine F.ok scsends_at (fun vs H Q E h => len vs H Q E h) (fun cdv A outer s H vs Q E hr h => ⟨t_sends_at K P w, PSs.nox ?_, rd vs H Q E h⟩)
  have hu := hu100 hr
  have hu64 := hr.units
  have nd := scsends_at.nd
  exact (pss_cons
    (ps_set (i := 2) nd rfl (Or.inl rfl) (pe_lst pa_nil))
   (pss_cons
    (ps_for PassesOwn.never rfl (pi_keysA (pv 0)) (pg_name (i := 3) nd rfl (Or.inl rfl)) (pss_one
     (ps_for PassesOwn.never rfl (pi_seq (pe_ix (ix_any hu) (pe_ix (ix_any hu) (pe_ix (ix_any hu) (pv 0) (pv 3) (fun _ _ => rfl)) pe_int (fun _ _ => rfl)) (pe_ix (ix_any hu) (pv 1) (pv 3) (fun _ _ => rfl)) (fun _ _ => rfl))) (pg_tup rfl (pgs_cons (pg_name (i := 4) nd rfl (Or.inl rfl)) (pgs_cons (pg_name (i := 5) nd rfl (Or.inl rfl)) pgs_nil))) (pss_one
      (ps_if (pt_cmpR (op_eqZ hu64) (pe_ix (ix_any hu) (pv 4) pe_int (fun _ _ => rfl)) (pv 3) (nomark _)) (pss_one
       (ps_expr (pe_bm PySem.F.plainAttrs_list PySem.F.slot_list_append PySem.F.type_list_append mt_append (pv 2) (pa_cons (pv 4) pa_nil)))) pss_nil)))))
   (pss_one
    (ps_ret (pe_callB (cr_sorted rfl hu) (by rfl) T.b_sorted (by decide +kernel) (pa_cons (pv 2) pa_nil))))))

abbrev sunready : Stmt := top 28
theorem scunready : FnScope ["table", "machines", "joint", "run", "action", "other"] ["table"] (defScope sunready) := ⟨rfl, rfl, rfl, by decide +kernel, rfl, by decide +kernel, by decide +kernel⟩
theorem ok_unready {P : Program} {w : World} {K : PySem.W.Frag} {mg : Str → Option Value} {base : Heap} {C : Addr} {s_joint_states : Sp} {s_machines_of : Sp} {s_seen_alike : Sp} {s_sends_at : Sp} {s_states_by_party : Sp} {s_view : Sp} {s_walk : Sp} {sp : Sp} (F : Def K mg "unready" sunready) (T : Txt K mg C) (H_joint_states : Has P w K mg base (L2.CX P w) 7 "joint_states" ["table"] s_joint_states) (H_machines_of : Has P w K mg base CX0 7 "machines_of" ["table"] s_machines_of) (H_seen_alike : Has P w K mg base CX0 7 "seen_alike" ["table", "party", "sight", "wanted"] s_seen_alike) (H_sends_at : Has P w K mg base CX0 7 "sends_at" ["machines", "states"] s_sends_at) (H_states_by_party : Has P w K mg base CX0 7 "states_by_party" ["machines", "joint"] s_states_by_party) (H_view : Has P w K mg base CX0 7 "view" ["actions", "party"] s_view) (H_walk : Has P w K mg base CX0 7 "walk" ["table", "actions"] s_walk)
    (len : ∀ vs H Q E, sp vs H Q E → vs.length = 1) (rd : ∀ vs H Q E, sp vs H Q E → t_unready K P w C E s_joint_states s_machines_of s_seen_alike s_sends_at s_states_by_party s_view s_walk { nx := fun _ H' => Q .non H', rt := Q } (L2.start ["table", "machines", "joint", "run", "action", "other"] vs) H) : Has P w K mg base (L2.CX P w) 8 "unready" ["table"] sp := by
  obtain ⟨f, fd, g, F⟩ := F
  have b : L2.Binds K fd ["table"] [] := F.bindsN fun _ _ _ _ _ _ us hl => match us, hl with | [_], _ => rfl
  refine ⟨f, fd, g, ?_, F.kp, b⟩
  refine F.ok scunready (fun vs H Q E h => len vs H Q E h) (fun cdv A outer s H vs Q E hr h => ⟨t_unready K P w C E s_joint_states s_machines_of s_seen_alike s_sends_at s_states_by_party s_view s_walk, ?_, rd vs H Q E h⟩)
  have hu := hu100 hr
  have hu64 := hr.units
  have nd := scunready.nd
  exact (pss_cons
    (ps_set (i := 1) nd rfl (Or.inl rfl) (pe_callH H_machines_of hr rfl pass0 (pa_cons (pv 0) pa_nil)))
   (pss_cons
    (ps_for (passes_of rfl) rfl (pi_seq (pe_callH H_joint_states hr rfl (passes_call (takes_of (E := E) rfl rfl rfl rfl) fun _ _ _ _ z => z) (pa_cons (pv 0) pa_nil))) (pg_tup rfl (pgs_cons (pg_name (i := 2) nd rfl (Or.inl rfl)) (pgs_cons (pg_name (i := 3) nd rfl (Or.inl rfl)) pgs_nil))) (pss_one
     (ps_for (passes_of rfl) rfl (pi_seq (pe_callH H_sends_at hr rfl pass0 (pa_cons (pv 1) (pa_cons (pe_callH H_states_by_party hr rfl pass0 (pa_cons (pv 1) (pa_cons (pv 2) pa_nil))) pa_nil)))) (pg_name (i := 4) nd rfl (Or.inl rfl)) (pss_one
      (ps_if (pt_cmpR op_isN (pe_callH H_walk hr rfl pass0 (pa_cons (pv 0) (pa_cons (pe_op op_addA (pv 3) (pe_lst (pa_cons (pv 4) pa_nil))) pa_nil))) pe_non (nomark _)) (pss_cons
       (ps_set (i := 5) nd rfl (Or.inl rfl) (pe_callH H_seen_alike hr rfl pass0 (pa_cons (pv 0) (pa_cons (pe_ix (ix_any hu) (pv 4) pe_int (fun _ _ => rfl)) (pa_cons (pe_callH H_view hr rfl pass0 (pa_cons (pv 3) (pa_cons (pe_ix (ix_any hu) (pv 4) pe_int (fun _ _ => rfl)) pa_nil))) (pa_cons (pv 4) pa_nil))))))
      (pss_one
       (ps_ret (pe_tup (pa_cons pe_str (pa_cons (pv 3) (pa_cons (pv 4) (pa_cons (pv 5) pa_nil)))))))) pss_nil)))))
   (pss_one
    (ps_ret pe_non))))

abbrev s_law_state : Stmt := top 30
theorem sc_law_state : FnScope ["_law_script"] ["_law_script"] (defScope s_law_state) := ⟨rfl, rfl, rfl, by decide +kernel, rfl, by decide +kernel, by decide +kernel⟩
theorem ok__law_state {P : Program} {w : World} {K : PySem.W.Frag} {mg : Str → Option Value} {base : Heap} {C : Addr} {sp : Sp} (F : Def K mg "_law_state" s_law_state) (T : Txt K mg C)
    (len : ∀ vs H Q E, sp vs H Q E → vs.length = 1) (rd : ∀ vs H Q E, sp vs H Q E → t__law_state K P w { nx := fun _ H' => Q .non H', rt := Q } (L2.start ["_law_script"] vs) H) : Has P w K mg base CX0 1 "_law_state" ["_law_script"] sp := by
  obtain ⟨f, fd, g, F⟩ := F
  have b : L2.Binds K fd ["_law_script"] [] := F.bindsN fun _ _ _ _ _ _ us hl => match us, hl with | [_], _ => rfl
  refine ⟨f, fd, g, ?_, F.kp, b⟩
  refine F.ok sc_law_state (fun vs H Q E h => len vs H Q E h) (fun cdv A outer s H vs Q E hr h => ⟨t__law_state K P w, PSs.nox ?_, rd vs H Q E h⟩)
  have hu := hu100 hr
  have hu64 := hr.units
  have nd := sc_law_state.nd
  exact (pss_one
    (ps_ret (pe_lst (pa_cons (pe_callTy call_list_of (by rfl) T.b_list (by decide +kernel) (pa_cons (pv 0) pa_nil)) (pa_cons pe_int (pa_cons pe_int (pa_cons pe_int (pa_cons pe_bl (pa_cons pe_int pa_nil)))))))))

abbrev s_law_draw : Stmt := top 31
theorem sc_law_draw : FnScope ["_law_state_here", "_law_limit", "_law_cell", "_law_digit", "_law_mixed"] ["_law_state_here", "_law_limit"] (defScope s_law_draw) := ⟨rfl, rfl, rfl, by decide +kernel, rfl, by decide +kernel, by decide +kernel⟩
theorem ok__law_draw {P : Program} {w : World} {K : PySem.W.Frag} {mg : Str → Option Value} {base : Heap} {C : Addr} {sp : Sp} (F : Def K mg "_law_draw" s_law_draw) (T : Txt K mg C)
    (len : ∀ vs H Q E, sp vs H Q E → vs.length = 2) (rd : ∀ vs H Q E, sp vs H Q E → t__law_draw K P w { nx := fun _ H' => Q .non H', rt := Q } (L2.start ["_law_state_here", "_law_limit", "_law_cell", "_law_digit", "_law_mixed"] vs) H) : Has P w K mg base CX0 1 "_law_draw" ["_law_state_here", "_law_limit"] sp := by
  obtain ⟨f, fd, g, F⟩ := F
  have b : L2.Binds K fd ["_law_state_here", "_law_limit"] [] := F.bindsN fun _ _ _ _ _ _ us hl => match us, hl with | [_, _], _ => rfl
  refine ⟨f, fd, g, ?_, F.kp, b⟩
  refine F.ok sc_law_draw (fun vs H Q E h => len vs H Q E h) (fun cdv A outer s H vs Q E hr h => ⟨t__law_draw K P w, PSs.nox ?_, rd vs H Q E h⟩)
  have hu := hu100 hr
  have hu64 := hr.units
  have nd := sc_law_draw.nd
  exact (pss_cons
    (ps_if (pt_cmpR (op_eqZ hu64) (pe_ix (ix_any hu) (pv 0) pe_int (fun _ _ => rfl)) pe_int (nomark _)) (pss_cons
     (ps_if (pt_cmpR op_ge (pe_ix (ix_any hu) (pv 0) pe_int (fun _ _ => rfl)) (pe_callB call_lenA (by rfl) T.b_len (by decide +kernel) (pa_cons (pe_ix (ix_any hu) (pv 0) pe_int (fun _ _ => rfl)) pa_nil)) (nomark _)) (pss_one
      (ps_ret pe_int)) pss_nil)
    (pss_cons
     (ps_set (i := 2) nd rfl (Or.inl rfl) (pe_ix (ix_any hu) (pe_ix (ix_any hu) (pv 0) pe_int (fun _ _ => rfl)) (pe_ix (ix_any hu) (pv 0) pe_int (fun _ _ => rfl)) (fun _ _ => rfl)))
    (pss_cons
     (ps_if (pt_cmpR op_lt (pv 2) pe_int (nomark _)) (pss_one
      (ps_set (i := 2) nd rfl (Or.inl rfl) (pe_op op_sub (pe_un un_neg pe_int) (pv 2)))) pss_nil)
    (pss_cons
     (ps_asg (pe_op op_addA (pe_ix (ix_any hu) (pv 0) pe_int (fun _ _ => rfl)) pe_int) (pg_sub (pv 0) pe_int (set_any hu)))
    (pss_cons
     (ps_asg (pv 2) (pg_sub (pv 0) pe_int (set_any hu)))
    (pss_cons
     (ps_asg (pe_cmpR op_ge (pv 2) (pe_op op_pow pe_int pe_int) (nomark _)) (pg_sub (pv 0) pe_int (set_any hu)))
    (pss_cons
     (ps_asg pe_int (pg_sub (pv 0) pe_int (set_any hu)))
    (pss_one
     (ps_if (pt_val (pe_ix (ix_any hu) (pv 0) pe_int (fun _ _ => rfl))) (pss_one
      (ps_asg pe_int (pg_sub (pv 0) pe_int (set_any hu)))) pss_nil))))))))) pss_nil)
   (pss_cons
    (ps_asg (pe_op op_sub (pe_ix (ix_any hu) (pv 0) pe_int (fun _ _ => rfl)) pe_int) (pg_sub (pv 0) pe_int (set_any hu)))
   (pss_cons
    (ps_if (pt_val (pe_ix (ix_any hu) (pv 0) pe_int (fun _ _ => rfl))) (pss_cons
     (ps_set (i := 3) nd rfl (Or.inl rfl) (pe_op op_mod (pe_callTy call_int1 (by rfl) T.b_int (by decide +kernel) (pa_cons (pe_ix (ix_any hu) (pv 0) pe_int (fun _ _ => rfl)) pa_nil)) (pv 1)))
    (pss_cons
     (ps_asg (pe_op op_fdiv (pe_ix (ix_any hu) (pv 0) pe_int (fun _ _ => rfl)) (pv 1)) (pg_sub (pv 0) pe_int (set_any hu)))
    (pss_cons
     (ps_if (pt_cmpR (op_eqZ hu64) (pe_ix (ix_any hu) (pv 0) pe_int (fun _ _ => rfl)) pe_int (nomark _)) (pss_one
      (ps_asg pe_int (pg_sub (pv 0) pe_int (set_any hu)))) pss_nil)
    (pss_one
     (ps_ret (pv 3)))))) pss_nil)
   (pss_cons
    (ps_set (i := 4) nd rfl (Or.inl rfl) (pe_op op_mod (pe_callTy call_int1 (by rfl) T.b_int (by decide +kernel) (pa_cons (pe_op op_addA (pe_op op_addA (pe_op op_mulA (pe_ix (ix_any hu) (pv 0) pe_int (fun _ _ => rfl)) pe_int) (pe_op op_mulA (pe_ix (ix_any hu) (pv 0) pe_int (fun _ _ => rfl)) pe_int)) pe_int) pa_nil)) pe_int))
   (pss_cons
    (ps_set (i := 4) nd rfl (Or.inl rfl) (pe_op op_mod (pe_callTy call_int1 (by rfl) T.b_int (by decide +kernel) (pa_cons (pe_op op_addA (pe_op op_addA (pe_op op_mulA (pv 4) (pv 4)) (pe_op op_mulA (pe_ix (ix_any hu) (pv 0) pe_int (fun _ _ => rfl)) pe_int)) (pe_ix (ix_any hu) (pv 0) pe_int (fun _ _ => rfl))) pa_nil)) pe_int))
   (pss_one
    (ps_ret (pe_op op_mod (pe_callTy call_int1 (by rfl) T.b_int (by decide +kernel) (pa_cons (pv 4) pa_nil)) (pv 1)))))))))

abbrev s_law_name : Stmt := top 32
theorem sc_law_name : FnScope ["_law_state_here", "_law_first", "_law_other", "_law_number", "_law_name_here", "_law_tail"] ["_law_state_here"] (defScope s_law_name) := ⟨rfl, rfl, rfl, by decide +kernel, rfl, by decide +kernel, by decide +kernel⟩
theorem ok__law_name {P : Program} {w : World} {K : PySem.W.Frag} {mg : Str → Option Value} {base : Heap} {C : Addr} {s__law_draw : Sp} {sp : Sp} (F : Def K mg "_law_name" s_law_name) (T : Txt K mg C) (H__law_draw : Has P w K mg base CX0 1 "_law_draw" ["_law_state_here", "_law_limit"] s__law_draw)
    (len : ∀ vs H Q E, sp vs H Q E → vs.length = 1) (rd : ∀ vs H Q E, sp vs H Q E → t__law_name K P w s__law_draw { nx := fun _ H' => Q .non H', rt := Q } (L2.start ["_law_state_here", "_law_first", "_law_other", "_law_number", "_law_name_here", "_law_tail"] vs) H) : Has P w K mg base CX0 2 "_law_name" ["_law_state_here"] sp := by
  obtain ⟨f, fd, g, F⟩ := F
  have b : L2.Binds K fd ["_law_state_here"] [] := F.bindsN fun _ _ _ _ _ _ us hl => match us, hl with | [_], _ => rfl
  refine ⟨f, fd, g, ?_, F.kp, b⟩
  refine F.ok sc_law_name (fun vs H Q E h => len vs H Q E h) (fun cdv A outer s H vs Q E hr h => ⟨t__law_name K P w s__law_draw, PSs.nox ?_, rd vs H Q E h⟩)
  have hu := hu100 hr
  have hu64 := hr.units
  have nd := sc_law_name.nd
  exact (pss_cons
    (ps_set (i := 1) nd rfl (Or.inl rfl) pe_str)
   (pss_cons
    (ps_set (i := 2) nd rfl (Or.inl rfl) (pe_op op_addA (pv 1) pe_str))
   (pss_cons
    (ps_set (i := 3) nd rfl (Or.inl rfl) (pe_callH H__law_draw hr rfl pass0 (pa_cons (pv 0) (pa_cons pe_int pa_nil))))
   (pss_cons
    (ps_set (i := 4) nd rfl (Or.inl rfl) (pe_ix (ix_any hu) (pv 1) (pe_op op_mod (pe_callTy call_int1 (by rfl) T.b_int (by decide +kernel) (pa_cons (pe_op op_fdiv (pv 3) pe_int) pa_nil)) pe_int) (fun _ _ => rfl)))
   (pss_cons
    (ps_set (i := 5) nd rfl (Or.inl rfl) (pe_op op_addA (pe_op op_addA (pe_ix (ix_any hu) (pv 2) (pe_op op_mod (pe_callTy call_int1 (by rfl) T.b_int (by decide +kernel) (pa_cons (pe_op op_fdiv (pv 3) pe_int) pa_nil)) pe_int) (fun _ _ => rfl)) (pe_ix (ix_any hu) (pv 2) (pe_op op_mod (pe_callTy call_int1 (by rfl) T.b_int (by decide +kernel) (pa_cons (pe_op op_fdiv (pv 3) pe_int) pa_nil)) pe_int) (fun _ _ => rfl))) (pe_ix (ix_any hu) (pv 2) (pe_op op_mod (pe_callTy call_int1 (by rfl) T.b_int (by decide +kernel) (pa_cons (pv 3) pa_nil)) pe_int) (fun _ _ => rfl))))
   (pss_cons
    (ps_if (pt_cmpR (op_eqZ hu64) (pe_callH H__law_draw hr rfl pass0 (pa_cons (pv 0) (pa_cons pe_int pa_nil))) pe_int (nomark _)) (pss_one
     (ps_set (i := 4) nd rfl (Or.inl rfl) (pe_slice sl_any (pe_op op_addA (pv 4) (pe_op op_mulA (pv 5) pe_int)) po_none (po_some (pe_op op_addA pe_int (pe_callH H__law_draw hr rfl pass0 (pa_cons (pv 0) (pa_cons pe_int pa_nil)))))))) (pss_one
     (ps_set (i := 4) nd rfl (Or.inl rfl) (pe_op op_addA (pv 4) (pe_slice sl_any (pv 5) po_none (po_some (pe_op op_mod (pe_callTy call_int1 (by rfl) T.b_int (by decide +kernel) (pa_cons (pv 3) pa_nil)) pe_int)))))))
   (pss_cons
    (ps_if (pt_cmpR (op_in hu) (pv 4) (pe_lst (pa_cons pe_str (pa_cons pe_str (pa_cons pe_str (pa_cons pe_str (pa_cons pe_str (pa_cons pe_str pa_nil))))))) rfl) (pss_one
     (ps_ret (pe_op op_addA (pv 4) pe_str))) pss_nil)
   (pss_one
    (ps_ret (pv 4))))))))))

abbrev s_law_names : Stmt := top 33
theorem sc_law_names : FnScope ["_law_state_here", "_law_count", "_law_taken", "_law_names_here", "_law_k", "_law_name_here", "_law_j"] ["_law_state_here", "_law_count", "_law_taken"] (defScope s_law_names) := ⟨rfl, rfl, rfl, by decide +kernel, rfl, by decide +kernel, by decide +kernel⟩
theorem ok__law_names {P : Program} {w : World} {K : PySem.W.Frag} {mg : Str → Option Value} {base : Heap} {C : Addr} {s__law_name : Sp} {sp : Sp} (F : Def K mg "_law_names" s_law_names) (T : Txt K mg C) (H__law_name : Has P w K mg base CX0 2 "_law_name" ["_law_state_here"] s__law_name)
    (len : ∀ vs H Q E, sp vs H Q E → vs.length = 3) (rd : ∀ vs H Q E, sp vs H Q E → t__law_names K P w s__law_name { nx := fun _ H' => Q .non H', rt := Q } (L2.start ["_law_state_here", "_law_count", "_law_taken", "_law_names_here", "_law_k", "_law_name_here", "_law_j"] vs) H) : Has P w K mg base CX0 3 "_law_names" ["_law_state_here", "_law_count", "_law_taken"] sp := by
  obtain ⟨f, fd, g, F⟩ := F
  have b : L2.Binds K fd ["_law_state_here", "_law_count", "_law_taken"] [] := F.bindsN fun _ _ _ _ _ _ us hl => match us, hl with | [_, _, _], _ => rfl
  refine ⟨f, fd, g, ?_, F.kp, b⟩
  refine F.ok sc_law_names (fun vs H Q E h => len vs H Q E h) (fun cdv A outer s H vs Q E hr h => ⟨t__law_names K P w s__law_name, PSs.nox ?_, rd vs H Q E h⟩)
  have hu := hu100 hr
  have hu64 := hr.units
  have nd := sc_law_names.nd
  exact (pss_cons
    (ps_set (i := 3) nd rfl (Or.inl rfl) (pe_lst pa_nil))
   (pss_cons
    (ps_for PassesOwn.never rfl (pi_range1 rfl T.b_range (pa_cons (pv 1) pa_nil)) (pg_name (i := 4) nd rfl (Or.inl rfl)) (pss_cons
     (ps_set (i := 5) nd rfl (Or.inl rfl) (pe_callH H__law_name hr rfl pass0 (pa_cons (pv 0) pa_nil)))
    (pss_cons
     (ps_for PassesOwn.never rfl (pi_range1 rfl T.b_range (pa_cons pe_int pa_nil)) (pg_name (i := 6) nd rfl (Or.inl rfl)) (pss_one
      (ps_if (PW.pt (pw_or (pt_cmpR (op_in hu) (pv 5) (pv 3) rfl) (pw_or1 (pt_cmpR (op_in hu) (pv 5) (pv 2) rfl)))) (pss_one
       (ps_set (i := 5) nd rfl (Or.inl rfl) (pe_op op_addA (pe_op op_addA (pe_slice sl_any (pv 5) po_none (po_some pe_int)) pe_str) (pe_callTy call_str_int (by rfl) T.b_str (by decide +kernel) (pa_cons (pv 6) pa_nil))))) pss_nil)))
    (pss_one
     (ps_expr (pe_bm PySem.F.plainAttrs_list PySem.F.slot_list_append PySem.F.type_list_append mt_append (pv 3) (pa_cons (pv 5) pa_nil)))))))
   (pss_one
    (ps_ret (pv 3)))))

abbrev s_law_table : Stmt := top 34
theorem sc_law_table : FnScope ["_law_state_here", "_law_parties_here", "_law_labels", "_law_size", "_law_rows", "_law_k", "_law_ends", "_law_row", "_law_x"] ["_law_state_here", "_law_parties_here", "_law_labels", "_law_size"] (defScope s_law_table) := ⟨rfl, rfl, rfl, by decide +kernel, rfl, by decide +kernel, by decide +kernel⟩
theorem ok__law_table {P : Program} {w : World} {K : PySem.W.Frag} {mg : Str → Option Value} {base : Heap} {C : Addr} {s__law_draw : Sp} {s__law_edge : Sp} {sp : Sp} (F : Def K mg "_law_table" s_law_table) (T : Txt K mg C) (H__law_draw : Has P w K mg base CX0 2 "_law_draw" ["_law_state_here", "_law_limit"] s__law_draw) (H__law_edge : Has P w K mg base CX0 2 "_law_edge" ["_law_state_here", "_law_row", "_law_parties_here", "_law_labels", "_law_goal"] s__law_edge)
    (len : ∀ vs H Q E, sp vs H Q E → vs.length = 4) (rd : ∀ vs H Q E, sp vs H Q E → t__law_table K P w s__law_draw s__law_edge { nx := fun _ H' => Q .non H', rt := Q } (L2.start ["_law_state_here", "_law_parties_here", "_law_labels", "_law_size", "_law_rows", "_law_k", "_law_ends", "_law_row", "_law_x"] vs) H) : Has P w K mg base CX0 3 "_law_table" ["_law_state_here", "_law_parties_here", "_law_labels", "_law_size"] sp := by
  obtain ⟨f, fd, g, F⟩ := F
  have b : L2.Binds K fd ["_law_state_here", "_law_parties_here", "_law_labels", "_law_size"] [] := F.bindsN fun _ _ _ _ _ _ us hl => match us, hl with | [_, _, _, _], _ => rfl
  refine ⟨f, fd, g, ?_, F.kp, b⟩
  refine F.ok sc_law_table (fun vs H Q E h => len vs H Q E h) (fun cdv A outer s H vs Q E hr h => ⟨t__law_table K P w s__law_draw s__law_edge, PSs.nox ?_, rd vs H Q E h⟩)
  have hu := hu100 hr
  have hu64 := hr.units
  have nd := sc_law_table.nd
  exact (pss_cons
    (ps_setLc (i := 4) (own := [("_law_k", 5)]) rfl nd rfl rfl (sw_true rfl rfl rfl (by kernel_rfl)) (pi_range1 rfl T.b_range (pa_cons (pv 3) pa_nil)) (blkOk_by (own := [("_law_k", 5)]) (by kernel_rfl)) (fun _ _ _ _ _ => (pg_name (i := 5) nd rfl (Or.inl rfl))) (fun _ _ _ _ _ => pts_nil) (fun _ _ _ _ _ => pe_dnew))
   (pss_cons
    (ps_for PassesOwn.never rfl (pi_range1 rfl T.b_range (pa_cons (pe_op op_sub (pv 3) pe_int) pa_nil)) (pg_name (i := 5) nd rfl (Or.inl rfl)) (pss_one
     (ps_expr (pe_callH H__law_edge hr rfl pass0 (pa_cons (pv 0) (pa_cons (pe_ix (ix_any hu) (pv 4) (pv 5) (fun _ _ => rfl)) (pa_cons (pv 1) (pa_cons (pv 2) (pa_cons (pe_op op_addA (pv 5) pe_int) pa_nil)))))))))
   (pss_cons
    (ps_for PassesOwn.never rfl (pi_range1 rfl T.b_range (pa_cons (pe_callH H__law_draw hr rfl pass0 (pa_cons (pv 0) (pa_cons (pe_op op_addA (pe_op op_mulA pe_int (pv 3)) pe_int) pa_nil))) pa_nil)) (pg_name (i := 5) nd rfl (Or.inl rfl)) (pss_one
     (ps_expr (pe_callH H__law_edge hr rfl pass0 (pa_cons (pv 0) (pa_cons (pe_ix (ix_any hu) (pv 4) (pe_callH H__law_draw hr rfl pass0 (pa_cons (pv 0) (pa_cons (pv 3) pa_nil))) (fun _ _ => rfl)) (pa_cons (pv 1) (pa_cons (pv 2) (pa_cons (pe_callH H__law_draw hr rfl pass0 (pa_cons (pv 0) (pa_cons (pv 3) pa_nil))) pa_nil)))))))))
   (pss_cons
    (ps_setLc (i := 6) (own := [("_law_k", 5)]) rfl nd rfl rfl (sw_true rfl rfl rfl (by kernel_rfl)) (pi_range1 rfl T.b_range (pa_cons (pv 3) pa_nil)) (blkOk_by (own := [("_law_k", 5)]) (by kernel_rfl)) (fun _ _ _ _ _ => (pg_name (i := 5) nd rfl (Or.inl rfl))) (fun _ _ _ _ _ => pts_nil) (fun _ _ _ _ _ => (pe_cmpR (op_eqZ hu64) (pe_callH H__law_draw hr rfl pass0 (pa_cons (pv 0) (pa_cons pe_int pa_nil))) pe_int (nomark _))))
   (pss_cons
    (ps_asg pe_bl (pg_sub (pv 6) (pe_op op_sub (pv 3) pe_int) (set_any hu)))
   (pss_one
    (ps_ret (pe_tup (pa_cons pe_str (pa_cons (pe_callTy call_tuple_of (by rfl) T.b_tuple (by decide +kernel) (pa_cons (pe_lc (own := [("_law_row", 7)]) rfl nd (pi_seq (pv 4)) (blkOk_by (own := [("_law_row", 7)]) (by kernel_rfl)) (fun _ _ _ _ _ => (pg_name (i := 7) nd rfl (Or.inr rfl))) (fun _ _ _ _ _ => pts_nil) (fun _ _ _ _ _ => (pe_callTy call_tuple_of (by rfl) T.b_tuple (by decide +kernel) (pa_cons (pe_lc (own := [("_law_x", 8)]) rfl nd (pi_seq (pe_callB (cr_sorted rfl hu) (by rfl) T.b_sorted (by decide +kernel) (pa_cons (pv 7) pa_nil))) (blkOk_by (own := [("_law_x", 8)]) (by kernel_rfl)) (fun _ _ _ _ _ => (pg_name (i := 8) nd rfl (Or.inl rfl))) (fun _ _ _ _ _ => pts_nil) (fun _ _ _ _ _ => (pe_tup (pa_cons (pv 8) (pa_cons (pe_ix (ix_any hu) (pv 7) (pv 8) (fun _ _ => rfl)) pa_nil))))) pa_nil)))) pa_nil)) (pa_cons (pe_callTy call_tuple_of (by rfl) T.b_tuple (by decide +kernel) (pa_cons (pv 6) pa_nil)) pa_nil)))))))))))

abbrev s_law_edge : Stmt := top 35
theorem sc_law_edge : FnScope ["_law_state_here", "_law_row", "_law_parties_here", "_law_labels", "_law_goal", "_law_sender", "_law_taker", "_law_action", "_law_label"] ["_law_state_here", "_law_row", "_law_parties_here", "_law_labels", "_law_goal"] (defScope s_law_edge) := ⟨rfl, rfl, rfl, by decide +kernel, rfl, by decide +kernel, by decide +kernel⟩
theorem ok__law_edge {P : Program} {w : World} {K : PySem.W.Frag} {mg : Str → Option Value} {base : Heap} {C : Addr} {s__law_draw : Sp} {sp : Sp} (F : Def K mg "_law_edge" s_law_edge) (T : Txt K mg C) (H__law_draw : Has P w K mg base CX0 1 "_law_draw" ["_law_state_here", "_law_limit"] s__law_draw)
    (len : ∀ vs H Q E, sp vs H Q E → vs.length = 5) (rd : ∀ vs H Q E, sp vs H Q E → t__law_edge K P w s__law_draw { nx := fun _ H' => Q .non H', rt := Q } (L2.start ["_law_state_here", "_law_row", "_law_parties_here", "_law_labels", "_law_goal", "_law_sender", "_law_taker", "_law_action", "_law_label"] vs) H) : Has P w K mg base CX0 2 "_law_edge" ["_law_state_here", "_law_row", "_law_parties_here", "_law_labels", "_law_goal"] sp := by
  obtain ⟨f, fd, g, F⟩ := F
  have b : L2.Binds K fd ["_law_state_here", "_law_row", "_law_parties_here", "_law_labels", "_law_goal"] [] := F.bindsN fun _ _ _ _ _ _ us hl => match us, hl with | [_, _, _, _, _], _ => rfl
  refine ⟨f, fd, g, ?_, F.kp, b⟩
  refine F.ok sc_law_edge (fun vs H Q E h => len vs H Q E h) (fun cdv A outer s H vs Q E hr h => ⟨t__law_edge K P w s__law_draw, PSs.nox ?_, rd vs H Q E h⟩)
  have hu := hu100 hr
  have hu64 := hr.units
  have nd := sc_law_edge.nd
  exact (pss_cons
    (ps_set (i := 5) nd rfl (Or.inl rfl) (pe_callH H__law_draw hr rfl pass0 (pa_cons (pv 0) (pa_cons (pe_callB call_lenA (by rfl) T.b_len (by decide +kernel) (pa_cons (pv 2) pa_nil)) pa_nil))))
   (pss_cons
    (ps_set (i := 6) nd rfl (Or.inl rfl) (pe_op op_mod (pe_callTy call_int1 (by rfl) T.b_int (by decide +kernel) (pa_cons (pe_op op_addA (pe_op op_addA (pv 5) pe_int) (pe_callH H__law_draw hr rfl pass0 (pa_cons (pv 0) (pa_cons (pe_op op_sub (pe_callB call_lenA (by rfl) T.b_len (by decide +kernel) (pa_cons (pv 2) pa_nil)) pe_int) pa_nil)))) pa_nil)) (pe_callB call_lenA (by rfl) T.b_len (by decide +kernel) (pa_cons (pv 2) pa_nil))))
   (pss_cons
    (ps_set (i := 7) nd rfl (Or.inl rfl) (pe_tup (pa_cons (pe_ix (ix_any hu) (pv 2) (pv 5) (fun _ _ => rfl)) (pa_cons (pe_ix (ix_any hu) (pv 2) (pv 6) (fun _ _ => rfl)) (pa_cons (pe_ix (ix_any hu) (pv 3) (pe_callH H__law_draw hr rfl pass0 (pa_cons (pv 0) (pa_cons (pe_callB call_lenA (by rfl) T.b_len (by decide +kernel) (pa_cons (pv 3) pa_nil)) pa_nil))) (fun _ _ => rfl)) pa_nil)))))
   (pss_cons
    (ps_for PassesOwn.never rfl (pi_seq (pv 3)) (pg_name (i := 8) nd rfl (Or.inl rfl)) (pss_one
     (ps_if (pt_cmpR (op_in hu) (pv 7) (pv 1) rfl) (pss_one
      (ps_set (i := 7) nd rfl (Or.inl rfl) (pe_tup (pa_cons (pe_ix (ix_any hu) (pv 7) pe_int (fun _ _ => rfl)) (pa_cons (pe_ix (ix_any hu) (pv 7) pe_int (fun _ _ => rfl)) (pa_cons (pv 8) pa_nil)))))) pss_nil)))
   (pss_one
    (ps_if (pt_cmpR (op_notIn hu) (pv 7) (pv 1) rfl) (pss_one
     (ps_asg (pv 4) (pg_sub (pv 1) (pv 7) (set_any hu)))) pss_nil))))))

abbrev s_law_step : Stmt := top 36
theorem sc_law_step : FnScope ["_law_table_here", "_law_state_here", "_law_action", "_law_other", "_law_goal"] ["_law_table_here", "_law_state_here", "_law_action"] (defScope s_law_step) := ⟨rfl, rfl, rfl, by decide +kernel, rfl, by decide +kernel, by decide +kernel⟩
theorem ok__law_step {P : Program} {w : World} {K : PySem.W.Frag} {mg : Str → Option Value} {base : Heap} {C : Addr} {sp : Sp} (F : Def K mg "_law_step" s_law_step) (T : Txt K mg C)
    (len : ∀ vs H Q E, sp vs H Q E → vs.length = 3) (rd : ∀ vs H Q E, sp vs H Q E → t__law_step K P w { nx := fun _ H' => Q .non H', rt := Q } (L2.start ["_law_table_here", "_law_state_here", "_law_action", "_law_other", "_law_goal"] vs) H) : Has P w K mg base CX0 1 "_law_step" ["_law_table_here", "_law_state_here", "_law_action"] sp := by
  obtain ⟨f, fd, g, F⟩ := F
  have b : L2.Binds K fd ["_law_table_here", "_law_state_here", "_law_action"] [] := F.bindsN fun _ _ _ _ _ _ us hl => match us, hl with | [_, _, _], _ => rfl
  refine ⟨f, fd, g, ?_, F.kp, b⟩
  refine F.ok sc_law_step (fun vs H Q E h => len vs H Q E h) (fun cdv A outer s H vs Q E hr h => ⟨t__law_step K P w, PSs.nox ?_, rd vs H Q E h⟩)
  have hu := hu100 hr
  have hu64 := hr.units
  have nd := sc_law_step.nd
  exact (pss_cons
    (ps_for PassesOwn.never rfl (pi_seq (pe_ix (ix_any hu) (pe_ix (ix_any hu) (pv 0) pe_int (fun _ _ => rfl)) (pv 1) (fun _ _ => rfl))) (pg_tup rfl (pgs_cons (pg_name (i := 3) nd rfl (Or.inl rfl)) (pgs_cons (pg_name (i := 4) nd rfl (Or.inl rfl)) pgs_nil))) (pss_one
     (ps_if (pt_cmpR (op_eqZ hu64) (pv 3) (pv 2) (nomark _)) (pss_one
      (ps_ret (pv 4))) pss_nil)))
   (pss_one
    (ps_ret pe_non)))

abbrev s_law_walk : Stmt := top 37
theorem sc_law_walk : FnScope ["_law_table_here", "_law_actions", "_law_state_here", "_law_action"] ["_law_table_here", "_law_actions"] (defScope s_law_walk) := ⟨rfl, rfl, rfl, by decide +kernel, rfl, by decide +kernel, by decide +kernel⟩
theorem ok__law_walk {P : Program} {w : World} {K : PySem.W.Frag} {mg : Str → Option Value} {base : Heap} {C : Addr} {s__law_step : Sp} {sp : Sp} (F : Def K mg "_law_walk" s_law_walk) (T : Txt K mg C) (H__law_step : Has P w K mg base CX0 1 "_law_step" ["_law_table_here", "_law_state_here", "_law_action"] s__law_step)
    (len : ∀ vs H Q E, sp vs H Q E → vs.length = 2) (rd : ∀ vs H Q E, sp vs H Q E → t__law_walk K P w s__law_step { nx := fun _ H' => Q .non H', rt := Q } (L2.start ["_law_table_here", "_law_actions", "_law_state_here", "_law_action"] vs) H) : Has P w K mg base CX0 2 "_law_walk" ["_law_table_here", "_law_actions"] sp := by
  obtain ⟨f, fd, g, F⟩ := F
  have b : L2.Binds K fd ["_law_table_here", "_law_actions"] [] := F.bindsN fun _ _ _ _ _ _ us hl => match us, hl with | [_, _], _ => rfl
  refine ⟨f, fd, g, ?_, F.kp, b⟩
  refine F.ok sc_law_walk (fun vs H Q E h => len vs H Q E h) (fun cdv A outer s H vs Q E hr h => ⟨t__law_walk K P w s__law_step, PSs.nox ?_, rd vs H Q E h⟩)
  have hu := hu100 hr
  have hu64 := hr.units
  have nd := sc_law_walk.nd
  exact (pss_cons
    (ps_set (i := 2) nd rfl (Or.inl rfl) pe_int)
   (pss_cons
    (ps_for PassesOwn.never rfl (pi_seq (pv 1)) (pg_name (i := 3) nd rfl (Or.inl rfl)) (pss_one
     (ps_if (pt_cmpR op_notN (pv 2) pe_non (nomark _)) (pss_one
      (ps_set (i := 2) nd rfl (Or.inl rfl) (pe_callH H__law_step hr rfl pass0 (pa_cons (pv 0) (pa_cons (pv 2) (pa_cons (pv 3) pa_nil)))))) pss_nil)))
   (pss_one
    (ps_ret (pv 2)))))

abbrev s_law_view : Stmt := top 38
theorem sc_law_view : FnScope ["_law_actions", "_law_party", "_law_action"] ["_law_actions", "_law_party"] (defScope s_law_view) := ⟨rfl, rfl, rfl, by decide +kernel, rfl, by decide +kernel, by decide +kernel⟩
theorem ok__law_view {P : Program} {w : World} {K : PySem.W.Frag} {mg : Str → Option Value} {base : Heap} {C : Addr} {sp : Sp} (F : Def K mg "_law_view" s_law_view) (T : Txt K mg C)
    (len : ∀ vs H Q E, sp vs H Q E → vs.length = 2) (rd : ∀ vs H Q E, sp vs H Q E → t__law_view K P w { nx := fun _ H' => Q .non H', rt := Q } (L2.start ["_law_actions", "_law_party", "_law_action"] vs) H) : Has P w K mg base CX0 1 "_law_view" ["_law_actions", "_law_party"] sp := by
  obtain ⟨f, fd, g, F⟩ := F
  have b : L2.Binds K fd ["_law_actions", "_law_party"] [] := F.bindsN fun _ _ _ _ _ _ us hl => match us, hl with | [_, _], _ => rfl
  refine ⟨f, fd, g, ?_, F.kp, b⟩
  refine F.ok sc_law_view (fun vs H Q E h => len vs H Q E h) (fun cdv A outer s H vs Q E hr h => ⟨t__law_view K P w, PSs.nox ?_, rd vs H Q E h⟩)
  have hu := hu100 hr
  have hu64 := hr.units
  have nd := sc_law_view.nd
  exact (pss_one
    (ps_ret (pe_lc (own := [("_law_action", 2)]) rfl nd (pi_seq (pv 0)) (blkOk_by (own := [("_law_action", 2)]) (by kernel_rfl)) (fun _ _ _ _ _ => (pg_name (i := 2) nd rfl (Or.inl rfl))) (fun _ _ _ _ _ => (pts_one (pt_cmpR (op_in hu) (pv 1) (pe_lst (pa_cons (pe_ix (ix_any hu) (pv 2) pe_int (fun _ _ => rfl)) (pa_cons (pe_ix (ix_any hu) (pv 2) pe_int (fun _ _ => rfl)) pa_nil))) rfl))) (fun _ _ _ _ _ => (pv 2)))))

abbrev s_law_conducted : Stmt := top 39
theorem sc_law_conducted : FnScope ["_law_table_here", "_law_leader", "_law_rows", "_law_ends", "_law_k", "_law_action", "_law_goal", "_law_sender", "_law_taker", "_law_label", "_law_place", "_law_row"] ["_law_table_here", "_law_leader"] (defScope s_law_conducted) := ⟨rfl, rfl, rfl, by decide +kernel, rfl, by decide +kernel, by decide +kernel⟩
theorem ok__law_conducted {P : Program} {w : World} {K : PySem.W.Frag} {mg : Str → Option Value} {base : Heap} {C : Addr} {sp : Sp} (F : Def K mg "_law_conducted" s_law_conducted) (T : Txt K mg C)
    (len : ∀ vs H Q E, sp vs H Q E → vs.length = 2) (rd : ∀ vs H Q E, sp vs H Q E → t__law_conducted K P w { nx := fun _ H' => Q .non H', rt := Q } (L2.start ["_law_table_here", "_law_leader", "_law_rows", "_law_ends", "_law_k", "_law_action", "_law_goal", "_law_sender", "_law_taker", "_law_label", "_law_place", "_law_row"] vs) H) : Has P w K mg base CX0 1 "_law_conducted" ["_law_table_here", "_law_leader"] sp := by
  obtain ⟨f, fd, g, F⟩ := F
  have b : L2.Binds K fd ["_law_table_here", "_law_leader"] [] := F.bindsN fun _ _ _ _ _ _ us hl => match us, hl with | [_, _], _ => rfl
  refine ⟨f, fd, g, ?_, F.kp, b⟩
  refine F.ok sc_law_conducted (fun vs H Q E h => len vs H Q E h) (fun cdv A outer s H vs Q E hr h => ⟨t__law_conducted K P w, PSs.nox ?_, rd vs H Q E h⟩)
  have hu := hu100 hr
  have hu64 := hr.units
  have nd := sc_law_conducted.nd
  exact (pss_cons
    (ps_setLc (i := 2) (own := [("_law_row", 11)]) rfl nd rfl rfl (sw_true rfl rfl rfl (by kernel_rfl)) (pi_seq (pe_ix (ix_any hu) (pv 0) pe_int (fun _ _ => rfl))) (blkOk_by (own := [("_law_row", 11)]) (by kernel_rfl)) (fun _ _ _ _ _ => (pg_name (i := 11) nd rfl (Or.inl rfl))) (fun _ _ _ _ _ => pts_nil) (fun _ _ _ _ _ => (pe_lst pa_nil)))
   (pss_cons
    (ps_set (i := 3) nd rfl (Or.inl rfl) (pe_callTy call_list_of (by rfl) T.b_list (by decide +kernel) (pa_cons (pe_ix (ix_any hu) (pv 0) pe_int (fun _ _ => rfl)) pa_nil)))
   (pss_cons
    (ps_for PassesOwn.never rfl (pi_range1 rfl T.b_range (pa_cons (pe_callB call_lenA (by rfl) T.b_len (by decide +kernel) (pa_cons (pe_ix (ix_any hu) (pv 0) pe_int (fun _ _ => rfl)) pa_nil)) pa_nil)) (pg_name (i := 4) nd rfl (Or.inl rfl)) (pss_one
     (ps_for PassesOwn.never rfl (pi_seq (pe_ix (ix_any hu) (pe_ix (ix_any hu) (pv 0) pe_int (fun _ _ => rfl)) (pv 4) (fun _ _ => rfl))) (pg_tup rfl (pgs_cons (pg_name (i := 5) nd rfl (Or.inl rfl)) (pgs_cons (pg_name (i := 6) nd rfl (Or.inl rfl)) pgs_nil))) (pss_cons
      (ps_asg (pv 5) (pg_tup rfl (pgs_cons (pg_name (i := 7) nd rfl (Or.inl rfl)) (pgs_cons (pg_name (i := 8) nd rfl (Or.inl rfl)) (pgs_cons (pg_name (i := 9) nd rfl (Or.inl rfl)) pgs_nil)))))
     (pss_cons
      (ps_set (i := 10) nd rfl (Or.inl rfl) (pe_callB call_lenA (by rfl) T.b_len (by decide +kernel) (pa_cons (pv 2) pa_nil)))
     (pss_cons
      (ps_expr (pe_bm PySem.F.plainAttrs_list PySem.F.slot_list_append PySem.F.type_list_append mt_append (pe_ix (ix_any hu) (pv 2) (pv 4) (fun _ _ => rfl)) (pa_cons (pe_tup (pa_cons (pe_tup (pa_cons (pv 1) (pa_cons (pv 7) (pa_cons (pe_op op_addA (pe_op op_addA (pv 9) pe_str) (pv 8)) pa_nil)))) (pa_cons (pv 10) pa_nil))) pa_nil)))
     (pss_cons
      (ps_expr (pe_bm PySem.F.plainAttrs_list PySem.F.slot_list_append PySem.F.type_list_append mt_append (pv 2) (pa_cons (pe_lst (pa_cons (pe_tup (pa_cons (pv 5) (pa_cons (pe_op op_addA (pv 10) pe_int) pa_nil))) pa_nil)) pa_nil)))
     (pss_cons
      (ps_expr (pe_bm PySem.F.plainAttrs_list PySem.F.slot_list_append PySem.F.type_list_append mt_append (pv 2) (pa_cons (pe_lst (pa_cons (pe_tup (pa_cons (pe_tup (pa_cons (pv 8) (pa_cons (pv 1) (pa_cons (pe_op op_addA (pe_op op_addA (pv 9) pe_str) (pv 7)) pa_nil)))) (pa_cons (pv 6) pa_nil))) pa_nil)) pa_nil)))
     (pss_one
      (ps_set (i := 3) nd rfl (Or.inl rfl) (pe_op op_addA (pv 3) (pe_lst (pa_cons pe_bl (pa_cons pe_bl pa_nil))))))))))))))
   (pss_one
    (ps_ret (pe_tup (pa_cons pe_str (pa_cons (pe_callTy call_tuple_of (by rfl) T.b_tuple (by decide +kernel) (pa_cons (pe_lc (own := [("_law_row", 11)]) rfl nd (pi_seq (pv 2)) (blkOk_by (own := [("_law_row", 11)]) (by kernel_rfl)) (fun _ _ _ _ _ => (pg_name (i := 11) nd rfl (Or.inl rfl))) (fun _ _ _ _ _ => pts_nil) (fun _ _ _ _ _ => (pe_callTy call_tuple_of (by rfl) T.b_tuple (by decide +kernel) (pa_cons (pe_callB (cr_sorted rfl hu) (by rfl) T.b_sorted (by decide +kernel) (pa_cons (pv 11) pa_nil)) pa_nil)))) pa_nil)) (pa_cons (pe_callTy call_tuple_of (by rfl) T.b_tuple (by decide +kernel) (pa_cons (pv 3) pa_nil)) pa_nil)))))))))

abbrev s_law_beside : Stmt := top 40
theorem sc_law_beside : FnScope ["_law_one", "_law_other", "_law_size", "_law_rows", "_law_ends", "_law_k", "_law_j", "_law_row", "_law_action", "_law_goal"] ["_law_one", "_law_other"] (defScope s_law_beside) := ⟨rfl, rfl, rfl, by decide +kernel, rfl, by decide +kernel, by decide +kernel⟩
theorem ok__law_beside {P : Program} {w : World} {K : PySem.W.Frag} {mg : Str → Option Value} {base : Heap} {C : Addr} {sp : Sp} (F : Def K mg "_law_beside" s_law_beside) (T : Txt K mg C)
    (len : ∀ vs H Q E, sp vs H Q E → vs.length = 2) (rd : ∀ vs H Q E, sp vs H Q E → t__law_beside K P w { nx := fun _ H' => Q .non H', rt := Q } (L2.start ["_law_one", "_law_other", "_law_size", "_law_rows", "_law_ends", "_law_k", "_law_j", "_law_row", "_law_action", "_law_goal"] vs) H) : Has P w K mg base CX0 1 "_law_beside" ["_law_one", "_law_other"] sp := by
  obtain ⟨f, fd, g, F⟩ := F
  have b : L2.Binds K fd ["_law_one", "_law_other"] [] := F.bindsN fun _ _ _ _ _ _ us hl => match us, hl with | [_, _], _ => rfl
  refine ⟨f, fd, g, ?_, F.kp, b⟩
  refine F.ok sc_law_beside (fun vs H Q E h => len vs H Q E h) (fun cdv A outer s H vs Q E hr h => ⟨t__law_beside K P w, PSs.nox ?_, rd vs H Q E h⟩)
  have hu := hu100 hr
  have hu64 := hr.units
  have nd := sc_law_beside.nd
  exact (pss_cons
    (ps_set (i := 2) nd rfl (Or.inr rfl) (pe_callB call_lenA (by rfl) T.b_len (by decide +kernel) (pa_cons (pe_ix (ix_any hu) (pv 1) pe_int (fun _ _ => rfl)) pa_nil)))
   (pss_cons
    (ps_set (i := 3) nd rfl (Or.inl rfl) (pe_lst pa_nil))
   (pss_cons
    (ps_set (i := 4) nd rfl (Or.inl rfl) (pe_lst pa_nil))
   (pss_cons
    (ps_for PassesOwn.never rfl (pi_range1 rfl T.b_range (pa_cons (pe_callB call_lenA (by rfl) T.b_len (by decide +kernel) (pa_cons (pe_ix (ix_any hu) (pv 0) pe_int (fun _ _ => rfl)) pa_nil)) pa_nil)) (pg_name (i := 5) nd rfl (Or.inr rfl)) (pss_one
     (ps_for PassesOwn.never rfl (pi_range1 rfl T.b_range (pa_cons (pv 2) pa_nil)) (pg_name (i := 6) nd rfl (Or.inr rfl)) (pss_cons
      (ps_setLc (i := 7) (own := [("_law_action", 8), ("_law_goal", 9)]) rfl nd rfl rfl (sw_true rfl rfl rfl (by kernel_rfl)) (pi_seq (pe_ix (ix_any hu) (pe_ix (ix_any hu) (pv 0) pe_int (fun _ _ => rfl)) (pv 5) (fun _ _ => rfl))) (blkOk_by (own := [("_law_action", 8), ("_law_goal", 9)]) (by kernel_rfl)) (fun _ _ _ _ _ => (pg_tup rfl (pgs_cons (pg_name (i := 8) nd rfl (Or.inl rfl)) (pgs_cons (pg_name (i := 9) nd rfl (Or.inl rfl)) pgs_nil)))) (fun _ _ _ _ _ => pts_nil) (fun _ _ _ _ _ => (pe_tup (pa_cons (pv 8) (pa_cons (pe_op op_addA (pe_op op_mulA (pv 9) (pv 2)) (pv 6)) pa_nil)))))
     (pss_cons
      (ps_expr (pe_bm PySem.F.plainAttrs_list PySem.F.slot_list_append PySem.F.type_list_append mt_append (pv 3) (pa_cons (pe_callTy call_tuple_of (by rfl) T.b_tuple (by decide +kernel) (pa_cons (pe_callB (cr_sorted rfl hu) (by rfl) T.b_sorted (by decide +kernel) (pa_cons (pe_op op_addA (pv 7) (pe_lc (own := [("_law_action", 8), ("_law_goal", 9)]) rfl nd (pi_seq (pe_ix (ix_any hu) (pe_ix (ix_any hu) (pv 1) pe_int (fun _ _ => rfl)) (pv 6) (fun _ _ => rfl))) (blkOk_by (own := [("_law_action", 8), ("_law_goal", 9)]) (by kernel_rfl)) (fun _ _ _ _ _ => (pg_tup rfl (pgs_cons (pg_name (i := 8) nd rfl (Or.inl rfl)) (pgs_cons (pg_name (i := 9) nd rfl (Or.inl rfl)) pgs_nil)))) (fun _ _ _ _ _ => pts_nil) (fun _ _ _ _ _ => (pe_tup (pa_cons (pv 8) (pa_cons (pe_op op_addA (pe_op op_mulA (pv 5) (pv 2)) (pv 9)) pa_nil)))))) pa_nil)) pa_nil)) pa_nil)))
     (pss_one
      (ps_expr (pe_bm PySem.F.plainAttrs_list PySem.F.slot_list_append PySem.F.type_list_append mt_append (pv 4) (pa_cons (pe_and (pe_ix (ix_any hu) (pe_ix (ix_any hu) (pv 0) pe_int (fun _ _ => rfl)) (pv 5) (fun _ _ => rfl)) (pe_one (pe_ix (ix_any hu) (pe_ix (ix_any hu) (pv 1) pe_int (fun _ _ => rfl)) (pv 6) (fun _ _ => rfl)))) pa_nil)))))))))
   (pss_one
    (ps_ret (pe_tup (pa_cons pe_str (pa_cons (pe_callTy call_tuple_of (by rfl) T.b_tuple (by decide +kernel) (pa_cons (pv 3) pa_nil)) (pa_cons (pe_callTy call_tuple_of (by rfl) T.b_tuple (by decide +kernel) (pa_cons (pv 4) pa_nil)) pa_nil))))))))))

abbrev s_law_accepted : Stmt := top 41
theorem sc_law_accepted : FnScope ["_law_state_here", "_law_names_here", "_law_labels", "_law_kind", "_law_one", "_law_count"] ["_law_state_here"] (defScope s_law_accepted) := ⟨rfl, rfl, rfl, by decide +kernel, rfl, by decide +kernel, by decide +kernel⟩
theorem ok__law_accepted {P : Program} {w : World} {K : PySem.W.Frag} {mg : Str → Option Value} {base : Heap} {C : Addr} {s__law_beside : Sp} {s__law_conducted : Sp} {s__law_draw : Sp} {s__law_names : Sp} {s__law_table : Sp} {sp : Sp} (F : Def K mg "_law_accepted" s_law_accepted) (T : Txt K mg C) (H__law_beside : Has P w K mg base CX0 3 "_law_beside" ["_law_one", "_law_other"] s__law_beside) (H__law_conducted : Has P w K mg base CX0 3 "_law_conducted" ["_law_table_here", "_law_leader"] s__law_conducted) (H__law_draw : Has P w K mg base CX0 3 "_law_draw" ["_law_state_here", "_law_limit"] s__law_draw) (H__law_names : Has P w K mg base CX0 3 "_law_names" ["_law_state_here", "_law_count", "_law_taken"] s__law_names) (H__law_table : Has P w K mg base CX0 3 "_law_table" ["_law_state_here", "_law_parties_here", "_law_labels", "_law_size"] s__law_table)
    (len : ∀ vs H Q E, sp vs H Q E → vs.length = 1) (rd : ∀ vs H Q E, sp vs H Q E → t__law_accepted K P w s__law_beside s__law_conducted s__law_draw s__law_names s__law_table { nx := fun _ H' => Q .non H', rt := Q } (L2.start ["_law_state_here", "_law_names_here", "_law_labels", "_law_kind", "_law_one", "_law_count"] vs) H) : Has P w K mg base CX0 4 "_law_accepted" ["_law_state_here"] sp := by
  obtain ⟨f, fd, g, F⟩ := F
  have b : L2.Binds K fd ["_law_state_here"] [] := F.bindsN fun _ _ _ _ _ _ us hl => match us, hl with | [_], _ => rfl
  refine ⟨f, fd, g, ?_, F.kp, b⟩
  refine F.ok sc_law_accepted (fun vs H Q E h => len vs H Q E h) (fun cdv A outer s H vs Q E hr h => ⟨t__law_accepted K P w s__law_beside s__law_conducted s__law_draw s__law_names s__law_table, PSs.nox ?_, rd vs H Q E h⟩)
  have hu := hu100 hr
  have hu64 := hr.units
  have nd := sc_law_accepted.nd
  exact (pss_cons
    (ps_set (i := 1) nd rfl (Or.inl rfl) (pe_callH H__law_names hr rfl pass0 (pa_cons (pv 0) (pa_cons pe_int (pa_cons (pe_lst pa_nil) pa_nil)))))
   (pss_cons
    (ps_set (i := 2) nd rfl (Or.inl rfl) (pe_callH H__law_names hr rfl pass0 (pa_cons (pv 0) (pa_cons (pe_op op_addA pe_int (pe_callH H__law_draw hr rfl pass0 (pa_cons (pv 0) (pa_cons pe_int pa_nil)))) (pa_cons (pe_lst pa_nil) pa_nil)))))
   (pss_cons
    (ps_set (i := 3) nd rfl (Or.inl rfl) (pe_callH H__law_draw hr rfl pass0 (pa_cons (pv 0) (pa_cons pe_int pa_nil))))
   (pss_cons
    (ps_if (pt_cmpR (op_eqZ hu64) (pv 3) pe_int (nomark _)) (pss_one
     (ps_ret (pe_callH H__law_table hr rfl pass0 (pa_cons (pv 0) (pa_cons (pe_slice sl_any (pv 1) po_none (po_some pe_int)) (pa_cons (pv 2) (pa_cons (pe_op op_addA pe_int (pe_callH H__law_draw hr rfl pass0 (pa_cons (pv 0) (pa_cons pe_int pa_nil)))) pa_nil))))))) pss_nil)
   (pss_cons
    (ps_if (pt_cmpR (op_eqZ hu64) (pv 3) pe_int (nomark _)) (pss_cons
     (ps_set (i := 4) nd rfl (Or.inl rfl) (pe_callH H__law_table hr rfl pass0 (pa_cons (pv 0) (pa_cons (pe_slice sl_any (pv 1) po_none (po_some pe_int)) (pa_cons (pv 2) (pa_cons (pe_op op_addA pe_int (pe_callH H__law_draw hr rfl pass0 (pa_cons (pv 0) (pa_cons pe_int pa_nil)))) pa_nil))))))
    (pss_one
     (ps_ret (pe_callH H__law_beside hr rfl pass0 (pa_cons (pv 4) (pa_cons (pe_callH H__law_table hr rfl pass0 (pa_cons (pv 0) (pa_cons (pe_slice sl_any (pv 1) (po_some pe_int) (po_some pe_int)) (pa_cons (pv 2) (pa_cons (pe_op op_addA pe_int (pe_callH H__law_draw hr rfl pass0 (pa_cons (pv 0) (pa_cons pe_int pa_nil)))) pa_nil))))) pa_nil)))))) pss_nil)
   (pss_cons
    (ps_set (i := 5) nd rfl (Or.inl rfl) (pe_op op_addA pe_int (pe_callTy call_int1 (by rfl) T.b_int (by decide +kernel) (pa_cons (pe_cmpR (op_eqZ hu64) (pv 3) pe_int (nomark _)) pa_nil))))
   (pss_one
    (ps_ret (pe_callH H__law_conducted hr rfl pass0 (pa_cons (pe_callH H__law_table hr rfl pass0 (pa_cons (pv 0) (pa_cons (pe_slice sl_any (pv 1) po_none (po_some (pe_op op_addA (pv 5) pe_int))) (pa_cons (pv 2) (pa_cons (pe_op op_addA pe_int (pe_callH H__law_draw hr rfl pass0 (pa_cons (pv 0) (pa_cons pe_int pa_nil)))) pa_nil))))) (pa_cons (pe_ix (ix_any hu) (pv 1) pe_int (fun _ _ => rfl)) pa_nil)))))))))))

abbrev s_law_unseen : Stmt := top 42
theorem sc_law_unseen : FnScope ["_law_table_here", "_law_states", "_law_party", "_law_found", "_law_waiting", "_law_k", "_law_state_here", "_law_action", "_law_goal"] ["_law_table_here", "_law_states", "_law_party"] (defScope s_law_unseen) := ⟨rfl, rfl, rfl, by decide +kernel, rfl, by decide +kernel, by decide +kernel⟩
theorem ok__law_unseen {P : Program} {w : World} {K : PySem.W.Frag} {mg : Str → Option Value} {base : Heap} {C : Addr} {sp : Sp} (F : Def K mg "_law_unseen" s_law_unseen) (T : Txt K mg C)
    (len : ∀ vs H Q E, sp vs H Q E → vs.length = 3) (rd : ∀ vs H Q E, sp vs H Q E → t__law_unseen K P w { nx := fun _ H' => Q .non H', rt := Q } (L2.start ["_law_table_here", "_law_states", "_law_party", "_law_found", "_law_waiting", "_law_k", "_law_state_here", "_law_action", "_law_goal"] vs) H) : Has P w K mg base CX0 1 "_law_unseen" ["_law_table_here", "_law_states", "_law_party"] sp := by
  obtain ⟨f, fd, g, F⟩ := F
  have b : L2.Binds K fd ["_law_table_here", "_law_states", "_law_party"] [] := F.bindsN fun _ _ _ _ _ _ us hl => match us, hl with | [_, _, _], _ => rfl
  refine ⟨f, fd, g, ?_, F.kp, b⟩
  refine F.ok sc_law_unseen (fun vs H Q E h => len vs H Q E h) (fun cdv A outer s H vs Q E hr h => ⟨t__law_unseen K P w, PSs.nox ?_, rd vs H Q E h⟩)
  have hu := hu100 hr
  have hu64 := hr.units
  have nd := sc_law_unseen.nd
  exact (pss_cons
    (ps_set (i := 3) nd rfl (Or.inl rfl) (pe_lst pa_nil))
   (pss_cons
    (ps_set (i := 4) nd rfl (Or.inl rfl) (pe_callTy call_list_of (by rfl) T.b_list (by decide +kernel) (pa_cons (pv 1) pa_nil)))
   (pss_cons
    (ps_for PassesOwn.never rfl (pi_range1 rfl T.b_range (pa_cons pe_int pa_nil)) (pg_name (i := 5) nd rfl (Or.inl rfl)) (pss_cons
     (ps_if (pt_not (pt_truth (pv 4) (by intro _; rfl))) (pss_one
      (ps_ret (pe_callB (cr_sorted rfl hu) (by rfl) T.b_sorted (by decide +kernel) (pa_cons (pv 3) pa_nil)))) pss_nil)
    (pss_cons
     (ps_set (i := 6) nd rfl (Or.inl rfl) (pe_bm0 PySem.F.plainAttrs_list PySem.F.slot_list_pop PySem.F.type_list_pop mt_pop (pv 4)))
    (pss_one
     (ps_if (pt_cmpR (op_notIn hu) (pv 6) (pv 3) rfl) (pss_cons
      (ps_expr (pe_bm PySem.F.plainAttrs_list PySem.F.slot_list_append PySem.F.type_list_append mt_append (pv 3) (pa_cons (pv 6) pa_nil)))
     (pss_one
      (ps_for PassesOwn.never rfl (pi_seq (pe_ix (ix_any hu) (pe_ix (ix_any hu) (pv 0) pe_int (fun _ _ => rfl)) (pv 6) (fun _ _ => rfl))) (pg_tup rfl (pgs_cons (pg_name (i := 7) nd rfl (Or.inl rfl)) (pgs_cons (pg_name (i := 8) nd rfl (Or.inl rfl)) pgs_nil))) (pss_one
       (ps_if (pt_cmpR (op_notIn hu) (pv 2) (pe_lst (pa_cons (pe_ix (ix_any hu) (pv 7) pe_int (fun _ _ => rfl)) (pa_cons (pe_ix (ix_any hu) (pv 7) pe_int (fun _ _ => rfl)) pa_nil))) rfl) (pss_one
        (ps_expr (pe_bm PySem.F.plainAttrs_list PySem.F.slot_list_append PySem.F.type_list_append mt_append (pv 4) (pa_cons (pv 8) pa_nil)))) pss_nil))))) pss_nil)))))
   (pss_one
    (ps_ret (pe_callB (cr_sorted rfl hu) (by rfl) T.b_sorted (by decide +kernel) (pa_cons (pv 3) pa_nil)))))))

abbrev s_law_seen : Stmt := top 43
theorem sc_law_seen : FnScope ["_law_table_here", "_law_states", "_law_party", "_law_action", "_law_goals", "_law_state_here", "_law_goal"] ["_law_table_here", "_law_states", "_law_party", "_law_action"] (defScope s_law_seen) := ⟨rfl, rfl, rfl, by decide +kernel, rfl, by decide +kernel, by decide +kernel⟩
theorem ok__law_seen {P : Program} {w : World} {K : PySem.W.Frag} {mg : Str → Option Value} {base : Heap} {C : Addr} {s__law_step : Sp} {s__law_unseen : Sp} {sp : Sp} (F : Def K mg "_law_seen" s_law_seen) (T : Txt K mg C) (H__law_step : Has P w K mg base CX0 1 "_law_step" ["_law_table_here", "_law_state_here", "_law_action"] s__law_step) (H__law_unseen : Has P w K mg base CX0 1 "_law_unseen" ["_law_table_here", "_law_states", "_law_party"] s__law_unseen)
    (len : ∀ vs H Q E, sp vs H Q E → vs.length = 4) (rd : ∀ vs H Q E, sp vs H Q E → t__law_seen K P w s__law_step s__law_unseen { nx := fun _ H' => Q .non H', rt := Q } (L2.start ["_law_table_here", "_law_states", "_law_party", "_law_action", "_law_goals", "_law_state_here", "_law_goal"] vs) H) : Has P w K mg base CX0 2 "_law_seen" ["_law_table_here", "_law_states", "_law_party", "_law_action"] sp := by
  obtain ⟨f, fd, g, F⟩ := F
  have b : L2.Binds K fd ["_law_table_here", "_law_states", "_law_party", "_law_action"] [] := F.bindsN fun _ _ _ _ _ _ us hl => match us, hl with | [_, _, _, _], _ => rfl
  refine ⟨f, fd, g, ?_, F.kp, b⟩
  refine F.ok sc_law_seen (fun vs H Q E h => len vs H Q E h) (fun cdv A outer s H vs Q E hr h => ⟨t__law_seen K P w s__law_step s__law_unseen, PSs.nox ?_, rd vs H Q E h⟩)
  have hu := hu100 hr
  have hu64 := hr.units
  have nd := sc_law_seen.nd
  exact (pss_cons
    (ps_set (i := 4) nd rfl (Or.inl rfl) (pe_lst pa_nil))
   (pss_cons
    (ps_for PassesOwn.never rfl (pi_seq (pv 1)) (pg_name (i := 5) nd rfl (Or.inl rfl)) (pss_cons
     (ps_set (i := 6) nd rfl (Or.inl rfl) (pe_callH H__law_step hr rfl pass0 (pa_cons (pv 0) (pa_cons (pv 5) (pa_cons (pv 3) pa_nil)))))
    (pss_one
     (ps_if (pt_cmpR op_notN (pv 6) pe_non (nomark _)) (pss_one
      (ps_expr (pe_bm PySem.F.plainAttrs_list PySem.F.slot_list_append PySem.F.type_list_append mt_append (pv 4) (pa_cons (pv 6) pa_nil)))) pss_nil))))
   (pss_one
    (ps_ret (pe_callH H__law_unseen hr rfl pass0 (pa_cons (pv 0) (pa_cons (pv 4) (pa_cons (pv 2) pa_nil))))))))

abbrev s_law_parties : Stmt := top 44
theorem sc_law_parties : FnScope ["_law_table_here", "_law_found", "_law_row", "_law_action", "_law_goal", "_law_party"] ["_law_table_here"] (defScope s_law_parties) := ⟨rfl, rfl, rfl, by decide +kernel, rfl, by decide +kernel, by decide +kernel⟩
theorem ok__law_parties {P : Program} {w : World} {K : PySem.W.Frag} {mg : Str → Option Value} {base : Heap} {C : Addr} {sp : Sp} (F : Def K mg "_law_parties" s_law_parties) (T : Txt K mg C)
    (len : ∀ vs H Q E, sp vs H Q E → vs.length = 1) (rd : ∀ vs H Q E, sp vs H Q E → t__law_parties K P w { nx := fun _ H' => Q .non H', rt := Q } (L2.start ["_law_table_here", "_law_found", "_law_row", "_law_action", "_law_goal", "_law_party"] vs) H) : Has P w K mg base CX0 1 "_law_parties" ["_law_table_here"] sp := by
  obtain ⟨f, fd, g, F⟩ := F
  have b : L2.Binds K fd ["_law_table_here"] [] := F.bindsN fun _ _ _ _ _ _ us hl => match us, hl with | [_], _ => rfl
  refine ⟨f, fd, g, ?_, F.kp, b⟩
  refine F.ok sc_law_parties (fun vs H Q E h => len vs H Q E h) (fun cdv A outer s H vs Q E hr h => ⟨t__law_parties K P w, PSs.nox ?_, rd vs H Q E h⟩)
  have hu := hu100 hr
  have hu64 := hr.units
  have nd := sc_law_parties.nd
  exact (pss_cons
    (ps_set (i := 1) nd rfl (Or.inl rfl) (pe_lst pa_nil))
   (pss_cons
    (ps_for PassesOwn.never rfl (pi_seq (pe_ix (ix_any hu) (pv 0) pe_int (fun _ _ => rfl))) (pg_name (i := 2) nd rfl (Or.inl rfl)) (pss_one
     (ps_for PassesOwn.never rfl (pi_seq (pv 2)) (pg_tup rfl (pgs_cons (pg_name (i := 3) nd rfl (Or.inl rfl)) (pgs_cons (pg_name (i := 4) nd rfl (Or.inl rfl)) pgs_nil))) (pss_one
      (ps_for PassesOwn.never rfl (pi_seq (pe_lst (pa_cons (pe_ix (ix_any hu) (pv 3) pe_int (fun _ _ => rfl)) (pa_cons (pe_ix (ix_any hu) (pv 3) pe_int (fun _ _ => rfl)) pa_nil)))) (pg_name (i := 5) nd rfl (Or.inl rfl)) (pss_one
       (ps_if (pt_cmpR (op_notIn hu) (pv 5) (pv 1) rfl) (pss_one
        (ps_expr (pe_bm PySem.F.plainAttrs_list PySem.F.slot_list_append PySem.F.type_list_append mt_append (pv 1) (pa_cons (pv 5) pa_nil)))) pss_nil)))))))
   (pss_one
    (ps_ret (pe_callB (cr_sorted rfl hu) (by rfl) T.b_sorted (by decide +kernel) (pa_cons (pv 1) pa_nil))))))

abbrev s_law_same_view : Stmt := top 45
theorem sc_law_same_view : FnScope ["_law_one", "_law_other", "_law_party"] ["_law_one", "_law_other", "_law_party"] (defScope s_law_same_view) := ⟨rfl, rfl, rfl, by decide +kernel, rfl, by decide +kernel, by decide +kernel⟩
theorem ok__law_same_view {P : Program} {w : World} {K : PySem.W.Frag} {mg : Str → Option Value} {base : Heap} {C : Addr} {s__law_view : Sp} {sp : Sp} (F : Def K mg "_law_same_view" s_law_same_view) (T : Txt K mg C) (H__law_view : Has P w K mg base CX0 1 "_law_view" ["_law_actions", "_law_party"] s__law_view)
    (len : ∀ vs H Q E, sp vs H Q E → vs.length = 3) (rd : ∀ vs H Q E, sp vs H Q E → t__law_same_view K P w s__law_view { nx := fun _ H' => Q .non H', rt := Q } (L2.start ["_law_one", "_law_other", "_law_party"] vs) H) : Has P w K mg base CX0 2 "_law_same_view" ["_law_one", "_law_other", "_law_party"] sp := by
  obtain ⟨f, fd, g, F⟩ := F
  have b : L2.Binds K fd ["_law_one", "_law_other", "_law_party"] [] := F.bindsN fun _ _ _ _ _ _ us hl => match us, hl with | [_, _, _], _ => rfl
  refine ⟨f, fd, g, ?_, F.kp, b⟩
  refine F.ok sc_law_same_view (fun vs H Q E h => len vs H Q E h) (fun cdv A outer s H vs Q E hr h => ⟨t__law_same_view K P w s__law_view, PSs.nox ?_, rd vs H Q E h⟩)
  have hu := hu100 hr
  have hu64 := hr.units
  have nd := sc_law_same_view.nd
  exact (pss_one
    (ps_ret (pe_cmpR (op_eqZ hu64) (pe_callH H__law_view hr rfl pass0 (pa_cons (pv 0) (pa_cons (pv 2) pa_nil))) (pe_callH H__law_view hr rfl pass0 (pa_cons (pv 1) (pa_cons (pv 2) pa_nil))) (nomark _))))

abbrev s_law_goes : Stmt := top 46
theorem sc_law_goes : FnScope ["_law_table_here", "_law_run", "_law_action"] ["_law_table_here", "_law_run", "_law_action"] (defScope s_law_goes) := ⟨rfl, rfl, rfl, by decide +kernel, rfl, by decide +kernel, by decide +kernel⟩
theorem ok__law_goes {P : Program} {w : World} {K : PySem.W.Frag} {mg : Str → Option Value} {base : Heap} {C : Addr} {s__law_walk : Sp} {sp : Sp} (F : Def K mg "_law_goes" s_law_goes) (T : Txt K mg C) (H__law_walk : Has P w K mg base CX0 2 "_law_walk" ["_law_table_here", "_law_actions"] s__law_walk)
    (len : ∀ vs H Q E, sp vs H Q E → vs.length = 3) (rd : ∀ vs H Q E, sp vs H Q E → t__law_goes K P w s__law_walk { nx := fun _ H' => Q .non H', rt := Q } (L2.start ["_law_table_here", "_law_run", "_law_action"] vs) H) : Has P w K mg base CX0 3 "_law_goes" ["_law_table_here", "_law_run", "_law_action"] sp := by
  obtain ⟨f, fd, g, F⟩ := F
  have b : L2.Binds K fd ["_law_table_here", "_law_run", "_law_action"] [] := F.bindsN fun _ _ _ _ _ _ us hl => match us, hl with | [_, _, _], _ => rfl
  refine ⟨f, fd, g, ?_, F.kp, b⟩
  refine F.ok sc_law_goes (fun vs H Q E h => len vs H Q E h) (fun cdv A outer s H vs Q E hr h => ⟨t__law_goes K P w s__law_walk, PSs.nox ?_, rd vs H Q E h⟩)
  have hu := hu100 hr
  have hu64 := hr.units
  have nd := sc_law_goes.nd
  exact (pss_one
    (ps_ret (pe_cmpR op_notN (pe_callH H__law_walk hr rfl pass0 (pa_cons (pv 0) (pa_cons (pe_op op_addA (pe_callTy call_list_of (by rfl) T.b_list (by decide +kernel) (pa_cons (pv 1) pa_nil)) (pe_lst (pa_cons (pv 2) pa_nil))) pa_nil))) pe_non (nomark _))))

abbrev s_law_holds : Stmt := top 47
theorem sc_law_holds : FnScope ["_law_table_here", "_law_paper", "_law_run", "_law_at", "_law_senders", "_law_party", "_law_other", "_law_goal", "_law_action", "_law_k", "_law_p"] ["_law_table_here", "_law_paper"] (defScope s_law_holds) := ⟨rfl, rfl, rfl, by decide +kernel, rfl, by decide +kernel, by decide +kernel⟩
theorem ok__law_holds {P : Program} {w : World} {K : PySem.W.Frag} {mg : Str → Option Value} {base : Heap} {C : Addr} {s__law_goes : Sp} {s__law_parties : Sp} {s__law_same_view : Sp} {s__law_walk : Sp} {sp : Sp} (F : Def K mg "_law_holds" s_law_holds) (T : Txt K mg C) (H__law_goes : Has P w K mg base CX0 3 "_law_goes" ["_law_table_here", "_law_run", "_law_action"] s__law_goes) (H__law_parties : Has P w K mg base CX0 3 "_law_parties" ["_law_table_here"] s__law_parties) (H__law_same_view : Has P w K mg base CX0 3 "_law_same_view" ["_law_one", "_law_other", "_law_party"] s__law_same_view) (H__law_walk : Has P w K mg base CX0 3 "_law_walk" ["_law_table_here", "_law_actions"] s__law_walk)
    (len : ∀ vs H Q E, sp vs H Q E → vs.length = 2) (rd : ∀ vs H Q E, sp vs H Q E → t__law_holds K P w s__law_goes s__law_parties s__law_same_view s__law_walk { nx := fun _ H' => Q .non H', rt := Q } (L2.start ["_law_table_here", "_law_paper", "_law_run", "_law_at", "_law_senders", "_law_party", "_law_other", "_law_goal", "_law_action", "_law_k", "_law_p"] vs) H) : Has P w K mg base CX0 4 "_law_holds" ["_law_table_here", "_law_paper"] sp := by
  obtain ⟨f, fd, g, F⟩ := F
  have b : L2.Binds K fd ["_law_table_here", "_law_paper"] [] := F.bindsN fun _ _ _ _ _ _ us hl => match us, hl with | [_, _], _ => rfl
  refine ⟨f, fd, g, ?_, F.kp, b⟩
  refine F.ok sc_law_holds (fun vs H Q E h => len vs H Q E h) (fun cdv A outer s H vs Q E hr h => ⟨t__law_holds K P w s__law_goes s__law_parties s__law_same_view s__law_walk, PSs.nox ?_, rd vs H Q E h⟩)
  have hu := hu100 hr
  have hu64 := hr.units
  have nd := sc_law_holds.nd
  exact (pss_cons
    (ps_if (PW.pt (pw_or (pt_not (pt_val (pe_callB call_isi (by rfl) T.b_isinstance (by decide +kernel) (pa_cons (pv 1) (pa_cons (pe_bltn (v := .ty "tuple") (by rfl) T.b_tuple (by decide +kernel) rfl) pa_nil))))) (pw_or1 (pt_cmpR (op_notIn hu) (pe_ix (ix_any hu) (pv 1) pe_int (fun _ _ => rfl)) (pe_lst (pa_cons pe_str (pa_cons pe_str (pa_cons pe_str pa_nil)))) rfl)))) (pss_one
     (ps_ret pe_bl)) pss_nil)
   (pss_cons
    (ps_set (i := 2) nd rfl (Or.inl rfl) (pe_ix (ix_any hu) (pv 1) pe_int (fun _ _ => rfl)))
   (pss_cons
    (ps_set (i := 3) nd rfl (Or.inl rfl) (pe_callH H__law_walk hr rfl pass0 (pa_cons (pv 0) (pa_cons (pv 2) pa_nil))))
   (pss_cons
    (ps_if (pt_cmpR op_isN (pv 3) pe_non (nomark _)) (pss_one
     (ps_ret pe_bl)) pss_nil)
   (pss_cons
    (ps_if (pt_cmpR (op_eqZ hu64) (pe_ix (ix_any hu) (pv 1) pe_int (fun _ _ => rfl)) pe_str (nomark _)) (pss_cons
     (ps_set (i := 4) nd rfl (Or.inr rfl) (pe_lc (own := [("_law_action", 8), ("_law_goal", 7)]) rfl nd (pi_seq (pe_ix (ix_any hu) (pe_ix (ix_any hu) (pv 0) pe_int (fun _ _ => rfl)) (pv 3) (fun _ _ => rfl))) (blkOk_by (own := [("_law_action", 8), ("_law_goal", 7)]) (by kernel_rfl)) (fun _ _ _ _ _ => (pg_tup rfl (pgs_cons (pg_name (i := 8) nd rfl (Or.inl rfl)) (pgs_cons (pg_name (i := 7) nd rfl (Or.inl rfl)) pgs_nil)))) (fun _ _ _ _ _ => pts_nil) (fun _ _ _ _ _ => (pe_ix (ix_any hu) (pv 8) pe_int (fun _ _ => rfl)))))
    (pss_cons
     (ps_if (PW.pt (pw_or (pt_val (pe_ix (ix_any hu) (pe_ix (ix_any hu) (pv 0) pe_int (fun _ _ => rfl)) (pv 3) (fun _ _ => rfl))) (pw_or1 (pt_cmpR (op_neA hu64) (pe_lc (own := [("_law_other", 6)]) rfl nd (pi_seq (pe_ix (ix_any hu) (pv 1) pe_int (fun _ _ => rfl))) (blkOk_by (own := [("_law_other", 6)]) (by kernel_rfl)) (fun _ _ _ _ _ => (pg_name (i := 6) nd rfl (Or.inl rfl))) (fun _ _ _ _ _ => pts_nil) (fun _ _ _ _ _ => (pe_ix (ix_any hu) (pv 6) pe_int (fun _ _ => rfl)))) (pe_callB (cr_sorted rfl hu) (by rfl) T.b_sorted (by decide +kernel) (pa_cons (pe_lc (own := [("_law_p", 10)]) rfl nd (pi_seq (pe_callH H__law_parties hr rfl pass0 (pa_cons (pv 0) pa_nil))) (blkOk_by (own := [("_law_p", 10)]) (by kernel_rfl)) (fun _ _ _ _ _ => (pg_name (i := 10) nd rfl (Or.inl rfl))) (fun _ _ _ _ _ => (pts_one (pt_cmpR (op_in hu) (pv 10) (pv 4) rfl))) (fun _ _ _ _ _ => (pv 10))) pa_nil)) (nomark _))))) (pss_one
      (ps_ret pe_bl)) pss_nil)
    (pss_cons
     (ps_for PassesOwn.never rfl (pi_seq (pe_ix (ix_any hu) (pv 1) pe_int (fun _ _ => rfl))) (pg_tup rfl (pgs_cons (pg_name (i := 5) nd rfl (Or.inl rfl)) (pgs_cons (pg_name (i := 6) nd rfl (Or.inl rfl)) pgs_nil))) (pss_cons
      (ps_set (i := 7) nd rfl (Or.inl rfl) (pe_callH H__law_walk hr rfl pass0 (pa_cons (pv 0) (pa_cons (pv 6) pa_nil))))
     (pss_one
      (ps_if (PW.pt (pw_or (pt_cmpR op_isN (pv 7) pe_non (nomark _)) (pw_or (pt_not (pt_val (pe_ix (ix_any hu) (pe_ix (ix_any hu) (pv 0) pe_int (fun _ _ => rfl)) (pv 7) (fun _ _ => rfl)))) (pw_or1 (pt_not (pt_val (pe_callH H__law_same_view hr rfl pass0 (pa_cons (pv 2) (pa_cons (pv 6) (pa_cons (pv 5) pa_nil)))))))))) (pss_one
       (ps_ret pe_bl)) pss_nil))))
    (pss_one
     (ps_ret pe_bl))))) pss_nil)
   (pss_cons
    (ps_set (i := 8) nd rfl (Or.inl rfl) (pe_ix (ix_any hu) (pv 1) pe_int (fun _ _ => rfl)))
   (pss_cons
    (ps_if (pt_val (pe_callH H__law_goes hr rfl pass0 (pa_cons (pv 0) (pa_cons (pv 2) (pa_cons (pv 8) pa_nil))))) (pss_one
     (ps_ret pe_bl)) pss_nil)
   (pss_cons
    (ps_for PassesOwn.never rfl (pi_range2 rfl T.b_range (pa_cons pe_int (pa_cons (pe_callB call_lenA (by rfl) T.b_len (by decide +kernel) (pa_cons (pv 1) pa_nil)) pa_nil))) (pg_name (i := 9) nd rfl (Or.inl rfl)) (pss_one
     (ps_if (PW.pt (pw_or (pt_not (pt_val (pe_callH H__law_same_view hr rfl pass0 (pa_cons (pv 2) (pa_cons (pe_ix (ix_any hu) (pv 1) (pv 9) (fun _ _ => rfl)) (pa_cons (pe_ix (ix_any hu) (pv 8) (pe_op op_sub (pv 9) pe_int) (fun _ _ => rfl)) pa_nil)))))) (pw_or1 (pt_not (pt_val (pe_callH H__law_goes hr rfl pass0 (pa_cons (pv 0) (pa_cons (pe_ix (ix_any hu) (pv 1) (pv 9) (fun _ _ => rfl)) (pa_cons (pv 8) pa_nil))))))))) (pss_one
      (ps_ret pe_bl)) pss_nil)))
   (pss_one
    (ps_ret (pe_cmpR (op_eqZ hu64) (pe_callB call_lenA (by rfl) T.b_len (by decide +kernel) (pa_cons (pv 1) pa_nil)) (pe_ix (ix_any hu) (pe_lst (pa_cons pe_int (pa_cons pe_int pa_nil))) (pe_callTy call_int1 (by rfl) T.b_int (by decide +kernel) (pa_cons (pe_cmpR (op_eqZ hu64) (pe_ix (ix_any hu) (pv 1) pe_int (fun _ _ => rfl)) pe_str (nomark _)) pa_nil)) (fun _ _ => rfl)) (nomark _))))))))))))

abbrev s_law_sights : Stmt := top 48
theorem sc_law_sights : FnScope ["_law_table_here", "_law_parties_here", "_law_sights_here", "_law_action", "_law_fresh", "_law_k"] ["_law_table_here", "_law_parties_here", "_law_sights_here", "_law_action"] (defScope s_law_sights) := ⟨rfl, rfl, rfl, by decide +kernel, rfl, by decide +kernel, by decide +kernel⟩
theorem ok__law_sights {P : Program} {w : World} {K : PySem.W.Frag} {mg : Str → Option Value} {base : Heap} {C : Addr} {s__law_seen : Sp} {sp : Sp} (F : Def K mg "_law_sights" s_law_sights) (T : Txt K mg C) (H__law_seen : Has P w K mg base CX0 2 "_law_seen" ["_law_table_here", "_law_states", "_law_party", "_law_action"] s__law_seen)
    (len : ∀ vs H Q E, sp vs H Q E → vs.length = 4) (rd : ∀ vs H Q E, sp vs H Q E → t__law_sights K P w s__law_seen { nx := fun _ H' => Q .non H', rt := Q } (L2.start ["_law_table_here", "_law_parties_here", "_law_sights_here", "_law_action", "_law_fresh", "_law_k"] vs) H) : Has P w K mg base CX0 3 "_law_sights" ["_law_table_here", "_law_parties_here", "_law_sights_here", "_law_action"] sp := by
  obtain ⟨f, fd, g, F⟩ := F
  have b : L2.Binds K fd ["_law_table_here", "_law_parties_here", "_law_sights_here", "_law_action"] [] := F.bindsN fun _ _ _ _ _ _ us hl => match us, hl with | [_, _, _, _], _ => rfl
  refine ⟨f, fd, g, ?_, F.kp, b⟩
  refine F.ok sc_law_sights (fun vs H Q E h => len vs H Q E h) (fun cdv A outer s H vs Q E hr h => ⟨t__law_sights K P w s__law_seen, PSs.nox ?_, rd vs H Q E h⟩)
  have hu := hu100 hr
  have hu64 := hr.units
  have nd := sc_law_sights.nd
  exact (pss_cons
    (ps_set (i := 4) nd rfl (Or.inl rfl) (pe_lst pa_nil))
   (pss_cons
    (ps_for PassesOwn.never rfl (pi_range1 rfl T.b_range (pa_cons (pe_callB call_lenA (by rfl) T.b_len (by decide +kernel) (pa_cons (pv 1) pa_nil)) pa_nil)) (pg_name (i := 5) nd rfl (Or.inl rfl)) (pss_one
     (ps_if (pt_cmpR (op_in hu) (pe_ix (ix_any hu) (pv 1) (pv 5) (fun _ _ => rfl)) (pe_lst (pa_cons (pe_ix (ix_any hu) (pv 3) pe_int (fun _ _ => rfl)) (pa_cons (pe_ix (ix_any hu) (pv 3) pe_int (fun _ _ => rfl)) pa_nil))) rfl) (pss_one
      (ps_expr (pe_bm PySem.F.plainAttrs_list PySem.F.slot_list_append PySem.F.type_list_append mt_append (pv 4) (pa_cons (pe_callH H__law_seen hr rfl pass0 (pa_cons (pv 0) (pa_cons (pe_ix (ix_any hu) (pv 2) (pv 5) (fun _ _ => rfl)) (pa_cons (pe_ix (ix_any hu) (pv 1) (pv 5) (fun _ _ => rfl)) (pa_cons (pv 3) pa_nil))))) pa_nil)))) (pss_one
      (ps_expr (pe_bm PySem.F.plainAttrs_list PySem.F.slot_list_append PySem.F.type_list_append mt_append (pv 4) (pa_cons (pe_ix (ix_any hu) (pv 2) (pv 5) (fun _ _ => rfl)) pa_nil)))))))
   (pss_one
    (ps_ret (pv 4)))))

abbrev s_law_offers : Stmt := top 49
theorem sc_law_offers : FnScope ["_law_table_here", "_law_parties_here", "_law_sights_here", "_law_actions", "_law_k", "_law_one", "_law_action", "_law_goal"] ["_law_table_here", "_law_parties_here", "_law_sights_here"] (defScope s_law_offers) := ⟨rfl, rfl, rfl, by decide +kernel, rfl, by decide +kernel, by decide +kernel⟩
theorem ok__law_offers {P : Program} {w : World} {K : PySem.W.Frag} {mg : Str → Option Value} {base : Heap} {C : Addr} {sp : Sp} (F : Def K mg "_law_offers" s_law_offers) (T : Txt K mg C)
    (len : ∀ vs H Q E, sp vs H Q E → vs.length = 3) (rd : ∀ vs H Q E, sp vs H Q E → t__law_offers K P w { nx := fun _ H' => Q .non H', rt := Q } (L2.start ["_law_table_here", "_law_parties_here", "_law_sights_here", "_law_actions", "_law_k", "_law_one", "_law_action", "_law_goal"] vs) H) : Has P w K mg base CX0 1 "_law_offers" ["_law_table_here", "_law_parties_here", "_law_sights_here"] sp := by
  obtain ⟨f, fd, g, F⟩ := F
  have b : L2.Binds K fd ["_law_table_here", "_law_parties_here", "_law_sights_here"] [] := F.bindsN fun _ _ _ _ _ _ us hl => match us, hl with | [_, _, _], _ => rfl
  refine ⟨f, fd, g, ?_, F.kp, b⟩
  refine F.ok sc_law_offers (fun vs H Q E h => len vs H Q E h) (fun cdv A outer s H vs Q E hr h => ⟨t__law_offers K P w, PSs.nox ?_, rd vs H Q E h⟩)
  have hu := hu100 hr
  have hu64 := hr.units
  have nd := sc_law_offers.nd
  exact (pss_cons
    (ps_set (i := 3) nd rfl (Or.inl rfl) (pe_lst pa_nil))
   (pss_cons
    (ps_for PassesOwn.never rfl (pi_range1 rfl T.b_range (pa_cons (pe_callB call_lenA (by rfl) T.b_len (by decide +kernel) (pa_cons (pv 1) pa_nil)) pa_nil)) (pg_name (i := 4) nd rfl (Or.inl rfl)) (pss_one
     (ps_for PassesOwn.never rfl (pi_seq (pe_ix (ix_any hu) (pv 2) (pv 4) (fun _ _ => rfl))) (pg_name (i := 5) nd rfl (Or.inl rfl)) (pss_one
      (ps_for PassesOwn.never rfl (pi_seq (pe_ix (ix_any hu) (pe_ix (ix_any hu) (pv 0) pe_int (fun _ _ => rfl)) (pv 5) (fun _ _ => rfl))) (pg_tup rfl (pgs_cons (pg_name (i := 6) nd rfl (Or.inl rfl)) (pgs_cons (pg_name (i := 7) nd rfl (Or.inl rfl)) pgs_nil))) (pss_one
       (ps_if (PW.pt (pw_and (pt_cmpR (op_eqZ hu64) (pe_ix (ix_any hu) (pv 6) pe_int (fun _ _ => rfl)) (pe_ix (ix_any hu) (pv 1) (pv 4) (fun _ _ => rfl)) (nomark _)) (pw_and1 (pt_cmpR (op_notIn hu) (pv 6) (pv 3) rfl)))) (pss_one
        (ps_expr (pe_bm PySem.F.plainAttrs_list PySem.F.slot_list_append PySem.F.type_list_append mt_append (pv 3) (pa_cons (pv 6) pa_nil)))) pss_nil)))))))
   (pss_one
    (ps_ret (pv 3)))))

abbrev s_law_has : Stmt := top 50
theorem sc_law_has : FnScope ["_law_table_here", "_law_parties_here", "_law_sights_here", "_law_party", "_law_action", "_law_states", "_law_one"] ["_law_table_here", "_law_parties_here", "_law_sights_here", "_law_party", "_law_action"] (defScope s_law_has) := ⟨rfl, rfl, rfl, by decide +kernel, rfl, by decide +kernel, by decide +kernel⟩
theorem ok__law_has {P : Program} {w : World} {K : PySem.W.Frag} {mg : Str → Option Value} {base : Heap} {C : Addr} {s__law_step : Sp} {sp : Sp} (F : Def K mg "_law_has" s_law_has) (T : Txt K mg C) (H__law_step : Has P w K mg base CX0 1 "_law_step" ["_law_table_here", "_law_state_here", "_law_action"] s__law_step)
    (len : ∀ vs H Q E, sp vs H Q E → vs.length = 5) (rd : ∀ vs H Q E, sp vs H Q E → t__law_has K P w s__law_step { nx := fun _ H' => Q .non H', rt := Q } (L2.start ["_law_table_here", "_law_parties_here", "_law_sights_here", "_law_party", "_law_action", "_law_states", "_law_one"] vs) H) : Has P w K mg base CX0 2 "_law_has" ["_law_table_here", "_law_parties_here", "_law_sights_here", "_law_party", "_law_action"] sp := by
  obtain ⟨f, fd, g, F⟩ := F
  have b : L2.Binds K fd ["_law_table_here", "_law_parties_here", "_law_sights_here", "_law_party", "_law_action"] [] := F.bindsN fun _ _ _ _ _ _ us hl => match us, hl with | [_, _, _, _, _], _ => rfl
  refine ⟨f, fd, g, ?_, F.kp, b⟩
  refine F.ok sc_law_has (fun vs H Q E h => len vs H Q E h) (fun cdv A outer s H vs Q E hr h => ⟨t__law_has K P w s__law_step, PSs.nox ?_, rd vs H Q E h⟩)
  have hu := hu100 hr
  have hu64 := hr.units
  have nd := sc_law_has.nd
  exact (pss_cons
    (ps_set (i := 5) nd rfl (Or.inl rfl) (pe_ix (ix_any hu) (pv 2) (pe_bm PySem.F.plainAttrs_list PySem.F.slot_list_index PySem.F.type_list_index mt_index (pv 1) (pa_cons (pv 3) pa_nil)) (fun _ _ => rfl)))
   (pss_one
    (ps_ret (pe_cmpR op_gt (pe_callB call_lenA (by rfl) T.b_len (by decide +kernel) (pa_cons (pe_lc (own := [("_law_one", 6)]) rfl nd (pi_seq (pv 5)) (blkOk_by (own := [("_law_one", 6)]) (by kernel_rfl)) (fun _ _ _ _ _ => (pg_name (i := 6) nd rfl (Or.inl rfl))) (fun _ _ _ _ _ => (pts_one (pt_cmpR op_notN (pe_callH H__law_step hr rfl pass0 (pa_cons (pv 0) (pa_cons (pv 6) (pa_cons (pv 4) pa_nil)))) pe_non (nomark _)))) (fun _ _ _ _ _ => (pv 6))) pa_nil)) pe_int (nomark _)))))

abbrev s_law_fault : Stmt := top 51
theorem sc_law_fault : FnScope ["_law_table_here", "_law_parties_here", "_law_at", "_law_sights_here", "_law_kind", "_law_action", "_law_senders", "_law_k", "_law_goal", "_law_one"] ["_law_table_here", "_law_parties_here", "_law_at", "_law_sights_here", "_law_kind"] (defScope s_law_fault) := ⟨rfl, rfl, rfl, by decide +kernel, rfl, by decide +kernel, by decide +kernel⟩
theorem ok__law_fault {P : Program} {w : World} {K : PySem.W.Frag} {mg : Str → Option Value} {base : Heap} {C : Addr} {s__law_has : Sp} {s__law_offers : Sp} {s__law_step : Sp} {sp : Sp} (F : Def K mg "_law_fault" s_law_fault) (T : Txt K mg C) (H__law_has : Has P w K mg base CX0 2 "_law_has" ["_law_table_here", "_law_parties_here", "_law_sights_here", "_law_party", "_law_action"] s__law_has) (H__law_offers : Has P w K mg base CX0 2 "_law_offers" ["_law_table_here", "_law_parties_here", "_law_sights_here"] s__law_offers) (H__law_step : Has P w K mg base CX0 2 "_law_step" ["_law_table_here", "_law_state_here", "_law_action"] s__law_step)
    (len : ∀ vs H Q E, sp vs H Q E → vs.length = 5) (rd : ∀ vs H Q E, sp vs H Q E → t__law_fault K P w s__law_has s__law_offers s__law_step { nx := fun _ H' => Q .non H', rt := Q } (L2.start ["_law_table_here", "_law_parties_here", "_law_at", "_law_sights_here", "_law_kind", "_law_action", "_law_senders", "_law_k", "_law_goal", "_law_one"] vs) H) : Has P w K mg base CX0 3 "_law_fault" ["_law_table_here", "_law_parties_here", "_law_at", "_law_sights_here", "_law_kind"] sp := by
  obtain ⟨f, fd, g, F⟩ := F
  have b : L2.Binds K fd ["_law_table_here", "_law_parties_here", "_law_at", "_law_sights_here", "_law_kind"] [] := F.bindsN fun _ _ _ _ _ _ us hl => match us, hl with | [_, _, _, _, _], _ => rfl
  refine ⟨f, fd, g, ?_, F.kp, b⟩
  refine F.ok sc_law_fault (fun vs H Q E h => len vs H Q E h) (fun cdv A outer s H vs Q E hr h => ⟨t__law_fault K P w s__law_has s__law_offers s__law_step, PSs.nox ?_, rd vs H Q E h⟩)
  have hu := hu100 hr
  have hu64 := hr.units
  have nd := sc_law_fault.nd
  exact (pss_cons
    (ps_for PassesOwn.never rfl (pi_seq (pe_callH H__law_offers hr rfl pass0 (pa_cons (pv 0) (pa_cons (pv 1) (pa_cons (pv 3) pa_nil))))) (pg_name (i := 5) nd rfl (Or.inl rfl)) (pss_one
     (ps_if (pt_cmpR op_isN (pe_callH H__law_step hr rfl pass0 (pa_cons (pv 0) (pa_cons (pv 2) (pa_cons (pv 5) pa_nil)))) pe_non (nomark _)) (pss_one
      (ps_if (PW.pt (pw_or (pt_cmpR (op_eqZ hu64) (pv 4) pe_str (nomark _)) (pw_or1 (pt_val (pe_callH H__law_has hr rfl pass0 (pa_cons (pv 0) (pa_cons (pv 1) (pa_cons (pv 3) (pa_cons (pe_ix (ix_any hu) (pv 5) pe_int (fun _ _ => rfl)) (pa_cons (pv 5) pa_nil)))))))))) (pss_one
       (ps_ret pe_bl)) pss_nil)) pss_nil)))
   (pss_cons
    (ps_if (PW.pt (pw_or (pt_cmpR (op_eqZ hu64) (pv 4) pe_str (nomark _)) (pw_or1 (pt_val (pe_ix (ix_any hu) (pe_ix (ix_any hu) (pv 0) pe_int (fun _ _ => rfl)) (pv 2) (fun _ _ => rfl)))))) (pss_one
     (ps_ret pe_bl)) pss_nil)
   (pss_cons
    (ps_setLc (i := 6) (own := [("_law_action", 5), ("_law_goal", 8)]) rfl nd rfl rfl (sw_true rfl rfl rfl (by kernel_rfl)) (pi_seq (pe_ix (ix_any hu) (pe_ix (ix_any hu) (pv 0) pe_int (fun _ _ => rfl)) (pv 2) (fun _ _ => rfl))) (blkOk_by (own := [("_law_action", 5), ("_law_goal", 8)]) (by kernel_rfl)) (fun _ _ _ _ _ => (pg_tup rfl (pgs_cons (pg_name (i := 5) nd rfl (Or.inl rfl)) (pgs_cons (pg_name (i := 8) nd rfl (Or.inl rfl)) pgs_nil)))) (fun _ _ _ _ _ => pts_nil) (fun _ _ _ _ _ => (pe_ix (ix_any hu) (pv 5) pe_int (fun _ _ => rfl))))
   (pss_cons
    (ps_for PassesOwn.never rfl (pi_range1 rfl T.b_range (pa_cons (pe_callB call_lenA (by rfl) T.b_len (by decide +kernel) (pa_cons (pv 1) pa_nil)) pa_nil)) (pg_name (i := 7) nd rfl (Or.inl rfl)) (pss_one
     (ps_if (PW.pt (pw_and (pt_cmpR (op_in hu) (pe_ix (ix_any hu) (pv 1) (pv 7) (fun _ _ => rfl)) (pv 6) rfl) (pw_and1 (pt_cmpR (op_eqZ hu64) (pe_callB call_lenA (by rfl) T.b_len (by decide +kernel) (pa_cons (pe_lc (own := [("_law_one", 9)]) rfl nd (pi_seq (pe_ix (ix_any hu) (pv 3) (pv 7) (fun _ _ => rfl))) (blkOk_by (own := [("_law_one", 9)]) (by kernel_rfl)) (fun _ _ _ _ _ => (pg_name (i := 9) nd rfl (Or.inl rfl))) (fun _ _ _ _ _ => (pts_one (pt_val (pe_ix (ix_any hu) (pe_ix (ix_any hu) (pv 0) pe_int (fun _ _ => rfl)) (pv 9) (fun _ _ => rfl))))) (fun _ _ _ _ _ => (pv 9))) pa_nil)) pe_int (nomark _))))) (pss_one
      (ps_ret pe_bl)) pss_nil)))
   (pss_one
    (ps_ret pe_bl))))))

abbrev s_law_explored : Stmt := top 52
theorem sc_law_explored : FnScope ["_law_table_here", "_law_parties_here", "_law_found", "_law_known", "_law_k", "_law_at", "_law_sights_here", "_law_action", "_law_goal", "_law_fresh", "_law_key", "_law_party", "_law_sight"] ["_law_table_here"] (defScope s_law_explored) := ⟨rfl, rfl, rfl, by decide +kernel, rfl, by decide +kernel, by decide +kernel⟩
theorem ok__law_explored {P : Program} {w : World} {K : PySem.W.Frag} {mg : Str → Option Value} {base : Heap} {C : Addr} {s__law_parties : Sp} {s__law_sights : Sp} {s__law_unseen : Sp} {sp : Sp} (F : Def K mg "_law_explored" s_law_explored) (T : Txt K mg C) (H__law_parties : Has P w K mg base CX0 3 "_law_parties" ["_law_table_here"] s__law_parties) (H__law_sights : Has P w K mg base CX0 3 "_law_sights" ["_law_table_here", "_law_parties_here", "_law_sights_here", "_law_action"] s__law_sights) (H__law_unseen : Has P w K mg base CX0 3 "_law_unseen" ["_law_table_here", "_law_states", "_law_party"] s__law_unseen)
    (len : ∀ vs H Q E, sp vs H Q E → vs.length = 1) (rd : ∀ vs H Q E, sp vs H Q E → t__law_explored K P w s__law_parties s__law_sights s__law_unseen { nx := fun _ H' => Q .non H', rt := Q } (L2.start ["_law_table_here", "_law_parties_here", "_law_found", "_law_known", "_law_k", "_law_at", "_law_sights_here", "_law_action", "_law_goal", "_law_fresh", "_law_key", "_law_party", "_law_sight"] vs) H) : Has P w K mg base CX0 4 "_law_explored" ["_law_table_here"] sp := by
  obtain ⟨f, fd, g, F⟩ := F
  have b : L2.Binds K fd ["_law_table_here"] [] := F.bindsN fun _ _ _ _ _ _ us hl => match us, hl with | [_], _ => rfl
  refine ⟨f, fd, g, ?_, F.kp, b⟩
  refine F.ok sc_law_explored (fun vs H Q E h => len vs H Q E h) (fun cdv A outer s H vs Q E hr h => ⟨t__law_explored K P w s__law_parties s__law_sights s__law_unseen, PSs.nox ?_, rd vs H Q E h⟩)
  have hu := hu100 hr
  have hu64 := hr.units
  have nd := sc_law_explored.nd
  exact (pss_cons
    (ps_set (i := 1) nd rfl (Or.inl rfl) (pe_callH H__law_parties hr rfl pass0 (pa_cons (pv 0) pa_nil)))
   (pss_cons
    (ps_set (i := 2) nd rfl (Or.inl rfl) (pe_lst (pa_cons (pe_tup (pa_cons pe_int (pa_cons (pe_lc (own := [("_law_party", 11)]) rfl nd (pi_seq (pv 1)) (blkOk_by (own := [("_law_party", 11)]) (by kernel_rfl)) (fun _ _ _ _ _ => (pg_name (i := 11) nd rfl (Or.inl rfl))) (fun _ _ _ _ _ => pts_nil) (fun _ _ _ _ _ => (pe_callH H__law_unseen hr rfl pass0 (pa_cons (pv 0) (pa_cons (pe_lst (pa_cons pe_int pa_nil)) (pa_cons (pv 11) pa_nil)))))) pa_nil))) pa_nil)))
   (pss_cons
    (ps_set (i := 3) nd rfl (Or.inl rfl) (pe_dispN hu (pe_tup (pa_cons pe_int (pa_cons (pe_callTy call_tuple_of (by rfl) T.b_tuple (by decide +kernel) (pa_cons (pe_lc (own := [("_law_sight", 12)]) rfl nd (pi_seq (pe_ix (ix_any hu) (pe_ix (ix_any hu) (pv 2) pe_int (fun _ _ => rfl)) pe_int (fun _ _ => rfl))) (blkOk_by (own := [("_law_sight", 12)]) (by kernel_rfl)) (fun _ _ _ _ _ => (pg_name (i := 12) nd rfl (Or.inl rfl))) (fun _ _ _ _ _ => pts_nil) (fun _ _ _ _ _ => (pe_callTy call_tuple_of (by rfl) T.b_tuple (by decide +kernel) (pa_cons (pv 12) pa_nil)))) pa_nil)) pa_nil))) pe_bl))
   (pss_cons
    (ps_for PassesOwn.never rfl (pi_range1 rfl T.b_range (pa_cons pe_int pa_nil)) (pg_name (i := 4) nd rfl (Or.inl rfl)) (pss_cons
     (ps_if (pt_cmpR op_ge (pv 4) (pe_callB call_lenA (by rfl) T.b_len (by decide +kernel) (pa_cons (pv 2) pa_nil)) (nomark _)) (pss_one
      (ps_ret (pv 2))) pss_nil)
    (pss_cons
     (ps_asg (pe_ix (ix_any hu) (pv 2) (pv 4) (fun _ _ => rfl)) (pg_tup rfl (pgs_cons (pg_name (i := 5) nd rfl (Or.inl rfl)) (pgs_cons (pg_name (i := 6) nd rfl (Or.inl rfl)) pgs_nil))))
    (pss_one
     (ps_for PassesOwn.never rfl (pi_seq (pe_ix (ix_any hu) (pe_ix (ix_any hu) (pv 0) pe_int (fun _ _ => rfl)) (pv 5) (fun _ _ => rfl))) (pg_tup rfl (pgs_cons (pg_name (i := 7) nd rfl (Or.inl rfl)) (pgs_cons (pg_name (i := 8) nd rfl (Or.inl rfl)) pgs_nil))) (pss_cons
      (ps_set (i := 9) nd rfl (Or.inl rfl) (pe_callH H__law_sights hr rfl pass0 (pa_cons (pv 0) (pa_cons (pv 1) (pa_cons (pv 6) (pa_cons (pv 7) pa_nil))))))
     (pss_cons
      (ps_set (i := 10) nd rfl (Or.inl rfl) (pe_tup (pa_cons (pv 8) (pa_cons (pe_callTy call_tuple_of (by rfl) T.b_tuple (by decide +kernel) (pa_cons (pe_lc (own := [("_law_sight", 12)]) rfl nd (pi_seq (pv 9)) (blkOk_by (own := [("_law_sight", 12)]) (by kernel_rfl)) (fun _ _ _ _ _ => (pg_name (i := 12) nd rfl (Or.inl rfl))) (fun _ _ _ _ _ => pts_nil) (fun _ _ _ _ _ => (pe_callTy call_tuple_of (by rfl) T.b_tuple (by decide +kernel) (pa_cons (pv 12) pa_nil)))) pa_nil)) pa_nil))))
     (pss_one
      (ps_if (pt_cmpR (op_notIn hu) (pv 10) (pv 3) rfl) (pss_cons
       (ps_asg pe_bl (pg_sub (pv 3) (pv 10) (set_any hu)))
      (pss_one
       (ps_expr (pe_bm PySem.F.plainAttrs_list PySem.F.slot_list_append PySem.F.type_list_append mt_append (pv 2) (pa_cons (pe_tup (pa_cons (pv 8) (pa_cons (pv 9) pa_nil))) pa_nil))))) pss_nil)))))))))
   (pss_one
    (ps_ret pe_non))))))

abbrev s_law_faulty : Stmt := top 53
theorem sc_law_faulty : FnScope ["_law_table_here", "_law_found", "_law_kind", "_law_parties_here", "_law_at", "_law_sights_here"] ["_law_table_here", "_law_found", "_law_kind"] (defScope s_law_faulty) := ⟨rfl, rfl, rfl, by decide +kernel, rfl, by decide +kernel, by decide +kernel⟩
theorem ok__law_faulty {P : Program} {w : World} {K : PySem.W.Frag} {mg : Str → Option Value} {base : Heap} {C : Addr} {s__law_fault : Sp} {s__law_parties : Sp} {sp : Sp} (F : Def K mg "_law_faulty" s_law_faulty) (T : Txt K mg C) (H__law_fault : Has P w K mg base CX0 3 "_law_fault" ["_law_table_here", "_law_parties_here", "_law_at", "_law_sights_here", "_law_kind"] s__law_fault) (H__law_parties : Has P w K mg base CX0 3 "_law_parties" ["_law_table_here"] s__law_parties)
    (len : ∀ vs H Q E, sp vs H Q E → vs.length = 3) (rd : ∀ vs H Q E, sp vs H Q E → t__law_faulty K P w s__law_fault s__law_parties { nx := fun _ H' => Q .non H', rt := Q } (L2.start ["_law_table_here", "_law_found", "_law_kind", "_law_parties_here", "_law_at", "_law_sights_here"] vs) H) : Has P w K mg base CX0 4 "_law_faulty" ["_law_table_here", "_law_found", "_law_kind"] sp := by
  obtain ⟨f, fd, g, F⟩ := F
  have b : L2.Binds K fd ["_law_table_here", "_law_found", "_law_kind"] [] := F.bindsN fun _ _ _ _ _ _ us hl => match us, hl with | [_, _, _], _ => rfl
  refine ⟨f, fd, g, ?_, F.kp, b⟩
  refine F.ok sc_law_faulty (fun vs H Q E h => len vs H Q E h) (fun cdv A outer s H vs Q E hr h => ⟨t__law_faulty K P w s__law_fault s__law_parties, PSs.nox ?_, rd vs H Q E h⟩)
  have hu := hu100 hr
  have hu64 := hr.units
  have nd := sc_law_faulty.nd
  exact (pss_cons
    (ps_set (i := 3) nd rfl (Or.inr rfl) (pe_callH H__law_parties hr rfl pass0 (pa_cons (pv 0) pa_nil)))
   (pss_one
    (ps_ret (pe_cmpR op_gt (pe_callB call_lenA (by rfl) T.b_len (by decide +kernel) (pa_cons (pe_lc (own := [("_law_at", 4), ("_law_sights_here", 5)]) rfl nd (pi_seq (pv 1)) (blkOk_by (own := [("_law_at", 4), ("_law_sights_here", 5)]) (by kernel_rfl)) (fun _ _ _ _ _ => (pg_tup rfl (pgs_cons (pg_name (i := 4) nd rfl (Or.inl rfl)) (pgs_cons (pg_name (i := 5) nd rfl (Or.inl rfl)) pgs_nil)))) (fun _ _ _ _ _ => (pts_one (pt_val (pe_callH H__law_fault hr rfl pass0 (pa_cons (pv 0) (pa_cons (pv 3) (pa_cons (pv 4) (pa_cons (pv 5) (pa_cons (pv 2) pa_nil))))))))) (fun _ _ _ _ _ => pe_int)) pa_nil)) pe_int (nomark _)))))

abbrev s_law_told : Stmt := top 54
theorem sc_law_told : FnScope ["_law_table_here"] ["_law_table_here"] (defScope s_law_told) := ⟨rfl, rfl, rfl, by decide +kernel, rfl, by decide +kernel, by decide +kernel⟩
theorem ok__law_told {P : Program} {w : World} {K : PySem.W.Frag} {mg : Str → Option Value} {base : Heap} {C : Addr} {s_unready : Sp} {sp : Sp} (F : Def K mg "_law_told" s_law_told) (T : Txt K mg C) (H_unready : Has P w K mg base (L2.CX P w) 8 "unready" ["table"] s_unready)
    (len : ∀ vs H Q E, sp vs H Q E → vs.length = 1) (rd : ∀ vs H Q E, sp vs H Q E → t__law_told K P w C s_unready { nx := fun _ H' => Q .non H', rt := Q } (L2.start ["_law_table_here"] vs) H) : Has P w K mg base CX0 9 "_law_told" ["_law_table_here"] sp := by
  obtain ⟨f, fd, g, F⟩ := F
  have b : L2.Binds K fd ["_law_table_here"] [] := F.bindsN fun _ _ _ _ _ _ us hl => match us, hl with | [_], _ => rfl
  refine ⟨f, fd, g, ?_, F.kp, b⟩
  refine F.ok sc_law_told (fun vs H Q E h => len vs H Q E h) (fun cdv A outer s H vs Q E hr h => ⟨t__law_told K P w C s_unready, PSs.nox ?_, rd vs H Q E h⟩)
  have hu := hu100 hr
  have hu64 := hr.units
  have nd := sc_law_told.nd
  exact (pss_one
    (ps_try_only (tb := fun W => (tRet (tTup (tCons (tC (.str "told")) (tCons (tCallS s_unready (WE W) (tCons (tVar 0) tNil)) tNil))))) (ts := fun _ _ _ => (tRet (tC .non))) (Wout := fun _ _ _ _ => False) rfl rfl ⟨rfl, by decide, Or.inl T.gC⟩ takes0 (fun W pn xe tk _ => (pss_one
     (ps_ret (pe_tup (pa_cons pe_str (pa_cons (pe_callSH H_unready hr rfl (fun σ => passAt tk σ) (pa_cons (pv 0) pa_nil)) pa_nil)))))) (fun a oe cls d pn _ _ => (pss_one
     (ps_ret pe_non)))))

abbrev slaw : Stmt := top 55
theorem sclaw : FnScope ["_law_script", "_law_state_here", "_law_table_here", "_law_told_here", "_law_parties_here", "_law_found", "_law_actual"] ["_law_script"] (defScope slaw) := ⟨rfl, rfl, rfl, by decide +kernel, rfl, by decide +kernel, by decide +kernel⟩
theorem ok_law {P : Program} {w : World} {K : PySem.W.Frag} {mg : Str → Option Value} {base : Heap} {C : Addr} {s__law_accepted : Sp} {s__law_draw : Sp} {s__law_explored : Sp} {s__law_faulty : Sp} {s__law_holds : Sp} {s__law_names : Sp} {s__law_state : Sp} {s__law_table : Sp} {s__law_told : Sp} {sp : Sp} (F : Def K mg "law" slaw) (T : Txt K mg C) (H__law_accepted : Has P w K mg base CX0 9 "_law_accepted" ["_law_state_here"] s__law_accepted) (H__law_draw : Has P w K mg base CX0 9 "_law_draw" ["_law_state_here", "_law_limit"] s__law_draw) (H__law_explored : Has P w K mg base CX0 9 "_law_explored" ["_law_table_here"] s__law_explored) (H__law_faulty : Has P w K mg base CX0 9 "_law_faulty" ["_law_table_here", "_law_found", "_law_kind"] s__law_faulty) (H__law_holds : Has P w K mg base CX0 9 "_law_holds" ["_law_table_here", "_law_paper"] s__law_holds) (H__law_names : Has P w K mg base CX0 9 "_law_names" ["_law_state_here", "_law_count", "_law_taken"] s__law_names) (H__law_state : Has P w K mg base CX0 9 "_law_state" ["_law_script"] s__law_state) (H__law_table : Has P w K mg base CX0 9 "_law_table" ["_law_state_here", "_law_parties_here", "_law_labels", "_law_size"] s__law_table) (H__law_told : Has P w K mg base CX0 9 "_law_told" ["_law_table_here"] s__law_told)
    (len : ∀ vs H Q E, sp vs H Q E → vs.length = 1) (rd : ∀ vs H Q E, sp vs H Q E → t_law K P w s__law_accepted s__law_draw s__law_explored s__law_faulty s__law_holds s__law_names s__law_state s__law_table s__law_told { nx := fun _ H' => Q .non H', rt := Q } (L2.start ["_law_script", "_law_state_here", "_law_table_here", "_law_told_here", "_law_parties_here", "_law_found", "_law_actual"] vs) H) : Has P w K mg base CX0 10 "law" ["_law_script"] sp := by
  obtain ⟨f, fd, g, F⟩ := F
  have b : L2.Binds K fd ["_law_script"] [] := F.bindsN fun _ _ _ _ _ _ us hl => match us, hl with | [_], _ => rfl
  refine ⟨f, fd, g, ?_, F.kp, b⟩
  refine F.ok sclaw (fun vs H Q E h => len vs H Q E h) (fun cdv A outer s H vs Q E hr h => ⟨t_law K P w s__law_accepted s__law_draw s__law_explored s__law_faulty s__law_holds s__law_names s__law_state s__law_table s__law_told, PSs.nox ?_, rd vs H Q E h⟩)
  have hu := hu100 hr
  have hu64 := hr.units
  have nd := sclaw.nd
  exact (pss_cons
    (ps_set (i := 1) nd rfl (Or.inl rfl) (pe_callH H__law_state hr rfl pass0 (pa_cons (pv 0) pa_nil)))
   (pss_cons
    (ps_if (pt_cmpR (op_eqZ hu64) (pe_callH H__law_draw hr rfl pass0 (pa_cons (pv 1) (pa_cons pe_int pa_nil))) pe_int (nomark _)) (pss_cons
     (ps_set (i := 2) nd rfl (Or.inl rfl) (pe_callH H__law_accepted hr rfl pass0 (pa_cons (pv 1) pa_nil)))
    (pss_cons
     (ps_set (i := 3) nd rfl (Or.inl rfl) (pe_callH H__law_told hr rfl pass0 (pa_cons (pv 2) pa_nil)))
    (pss_one
     (ps_ret (pe_or (pe_cmpR (op_eqZ hu64) (pv 3) (pe_tup (pa_cons pe_str (pa_cons pe_non pa_nil))) (nomark _)) (pe_one (pe_and (pe_cmpR op_isN (pv 3) pe_non (nomark _)) (pe_one (pe_cmpR op_isN (pe_callH H__law_explored hr rfl pass0 (pa_cons (pv 2) pa_nil)) pe_non (nomark _)))))))))) pss_nil)
   (pss_cons
    (ps_set (i := 4) nd rfl (Or.inl rfl) (pe_callH H__law_names hr rfl pass0 (pa_cons (pv 1) (pa_cons (pe_op op_addA pe_int (pe_callH H__law_draw hr rfl pass0 (pa_cons (pv 1) (pa_cons pe_int pa_nil)))) (pa_cons (pe_lst pa_nil) pa_nil)))))
   (pss_cons
    (ps_set (i := 2) nd rfl (Or.inl rfl) (pe_callH H__law_table hr rfl pass0 (pa_cons (pv 1) (pa_cons (pv 4) (pa_cons (pe_callH H__law_names hr rfl pass0 (pa_cons (pv 1) (pa_cons (pe_op op_addA pe_int (pe_callH H__law_draw hr rfl pass0 (pa_cons (pv 1) (pa_cons pe_int pa_nil)))) (pa_cons (pe_lst pa_nil) pa_nil)))) (pa_cons (pe_op op_addA pe_int (pe_callH H__law_draw hr rfl pass0 (pa_cons (pv 1) (pa_cons pe_int pa_nil)))) pa_nil))))))
   (pss_cons
    (ps_set (i := 5) nd rfl (Or.inl rfl) (pe_callH H__law_explored hr rfl pass0 (pa_cons (pv 2) pa_nil)))
   (pss_cons
    (ps_set (i := 3) nd rfl (Or.inl rfl) (pe_callH H__law_told hr rfl pass0 (pa_cons (pv 2) pa_nil)))
   (pss_cons
    (ps_if (pt_cmpR op_isN (pv 5) pe_non (nomark _)) (pss_one
     (ps_ret pe_bl)) pss_nil)
   (pss_cons
    (ps_if (pt_cmpR op_isN (pv 3) pe_non (nomark _)) (pss_one
     (ps_ret pe_bl)) pss_nil)
   (pss_cons
    (ps_set (i := 6) nd rfl (Or.inl rfl) (pe_ix (ix_any hu) (pv 3) pe_int (fun _ _ => rfl)))
   (pss_cons
    (ps_if (pt_val (pe_callH H__law_faulty hr rfl pass0 (pa_cons (pv 2) (pa_cons (pv 5) (pa_cons pe_str pa_nil))))) (pss_one
     (ps_ret (pe_and (pe_callB call_isi (by rfl) T.b_isinstance (by decide +kernel) (pa_cons (pv 6) (pa_cons (pe_bltn (v := .ty "tuple") (by rfl) T.b_tuple (by decide +kernel) rfl) pa_nil))) (pe_and (pe_cmpR (op_eqZ hu64) (pe_ix (ix_any hu) (pv 6) pe_int (fun _ _ => rfl)) pe_str (nomark _)) (pe_one (pe_callH H__law_holds hr rfl pass0 (pa_cons (pv 2) (pa_cons (pv 6) pa_nil)))))))) pss_nil)
   (pss_one
    (ps_ret (pe_cmpR op_isN (pv 6) pe_non (nomark _))))))))))))))

end N
set_option Elab.async false
set_option linter.all false
set_option maxRecDepth 100000
set_option maxHeartbeats 0
namespace N
open PySem PySem.Spec PyProof.Rows L2
def hgrouped : He.DefD := ⟨("grouped", none), "grouped", "grouped", defArgs (top 5), defBody (top 5), defScope (top 5), [], []⟩
def hsubset_table : He.DefD := ⟨("subset_table", none), "subset_table", "subset_table", defArgs (top 6), defBody (top 6), defScope (top 6), [], []⟩
def hrefined_classes : He.DefD := ⟨("refined_classes", none), "refined_classes", "refined_classes", defArgs (top 7), defBody (top 7), defScope (top 7), [], []⟩
def halike_classes : He.DefD := ⟨("alike_classes", none), "alike_classes", "alike_classes", defArgs (top 8), defBody (top 8), defScope (top 8), [], []⟩
def hleast : He.DefD := ⟨("least", none), "least", "least", defArgs (top 9), defBody (top 9), defScope (top 9), [], []⟩
def hnext_state : He.DefD := ⟨("next_state", none), "next_state", "next_state", defArgs (top 10), defBody (top 10), defScope (top 10), [], []⟩
def hwalk : He.DefD := ⟨("walk", none), "walk", "walk", defArgs (top 11), defBody (top 11), defScope (top 11), [], []⟩
def hparties_of : He.DefD := ⟨("parties_of", none), "parties_of", "parties_of", defArgs (top 13), defBody (top 13), defScope (top 13), [], []⟩
def hconcerns : He.DefD := ⟨("concerns", none), "concerns", "concerns", defArgs (top 14), defBody (top 14), defScope (top 14), [], []⟩
def hview : He.DefD := ⟨("view", none), "view", "view", defArgs (top 15), defBody (top 15), defScope (top 15), [], []⟩
def hreached_unseen : He.DefD := ⟨("reached_unseen", none), "reached_unseen", "reached_unseen", defArgs (top 16), defBody (top 16), defScope (top 16), [], []⟩
def herased : He.DefD := ⟨("erased", none), "erased", "erased", defArgs (top 17), defBody (top 17), defScope (top 17), [], []⟩
def hmachine_of : He.DefD := ⟨("machine_of", none), "machine_of", "machine_of", defArgs (top 18), defBody (top 18), defScope (top 18), [], []⟩
def hmachines_of : He.DefD := ⟨("machines_of", none), "machines_of", "machines_of", defArgs (top 19), defBody (top 19), defScope (top 19), [], []⟩
def hnext_joint : He.DefD := ⟨("next_joint", none), "next_joint", "next_joint", defArgs (top 22), defBody (top 22), defScope (top 22), [], []⟩
def hjoint_states : He.DefD := ⟨("joint_states", none), "joint_states", "joint_states", defArgs (top 23), defBody (top 23), defScope (top 23), [], []⟩
def hseen_alike : He.DefD := ⟨("seen_alike", none), "seen_alike", "seen_alike", defArgs (top 25), defBody (top 25), defScope (top 25), [], []⟩
def hstates_by_party : He.DefD := ⟨("states_by_party", none), "states_by_party", "states_by_party", defArgs (top 26), defBody (top 26), defScope (top 26), [], []⟩
def hsends_at : He.DefD := ⟨("sends_at", none), "sends_at", "sends_at", defArgs (top 27), defBody (top 27), defScope (top 27), [], []⟩
def hunready : He.DefD := ⟨("unready", none), "unready", "unready", defArgs (top 28), defBody (top 28), defScope (top 28), [], []⟩
def h_law_state : He.DefD := ⟨("_law_state", none), "_law_state", "_law_state", defArgs (top 30), defBody (top 30), defScope (top 30), [], []⟩
def h_law_draw : He.DefD := ⟨("_law_draw", none), "_law_draw", "_law_draw", defArgs (top 31), defBody (top 31), defScope (top 31), [], []⟩
def h_law_name : He.DefD := ⟨("_law_name", none), "_law_name", "_law_name", defArgs (top 32), defBody (top 32), defScope (top 32), [], []⟩
def h_law_names : He.DefD := ⟨("_law_names", none), "_law_names", "_law_names", defArgs (top 33), defBody (top 33), defScope (top 33), [], []⟩
def h_law_table : He.DefD := ⟨("_law_table", none), "_law_table", "_law_table", defArgs (top 34), defBody (top 34), defScope (top 34), [], []⟩
def h_law_edge : He.DefD := ⟨("_law_edge", none), "_law_edge", "_law_edge", defArgs (top 35), defBody (top 35), defScope (top 35), [], []⟩
def h_law_step : He.DefD := ⟨("_law_step", none), "_law_step", "_law_step", defArgs (top 36), defBody (top 36), defScope (top 36), [], []⟩
def h_law_walk : He.DefD := ⟨("_law_walk", none), "_law_walk", "_law_walk", defArgs (top 37), defBody (top 37), defScope (top 37), [], []⟩
def h_law_view : He.DefD := ⟨("_law_view", none), "_law_view", "_law_view", defArgs (top 38), defBody (top 38), defScope (top 38), [], []⟩
def h_law_conducted : He.DefD := ⟨("_law_conducted", none), "_law_conducted", "_law_conducted", defArgs (top 39), defBody (top 39), defScope (top 39), [], []⟩
def h_law_beside : He.DefD := ⟨("_law_beside", none), "_law_beside", "_law_beside", defArgs (top 40), defBody (top 40), defScope (top 40), [], []⟩
def h_law_accepted : He.DefD := ⟨("_law_accepted", none), "_law_accepted", "_law_accepted", defArgs (top 41), defBody (top 41), defScope (top 41), [], []⟩
def h_law_unseen : He.DefD := ⟨("_law_unseen", none), "_law_unseen", "_law_unseen", defArgs (top 42), defBody (top 42), defScope (top 42), [], []⟩
def h_law_seen : He.DefD := ⟨("_law_seen", none), "_law_seen", "_law_seen", defArgs (top 43), defBody (top 43), defScope (top 43), [], []⟩
def h_law_parties : He.DefD := ⟨("_law_parties", none), "_law_parties", "_law_parties", defArgs (top 44), defBody (top 44), defScope (top 44), [], []⟩
def h_law_same_view : He.DefD := ⟨("_law_same_view", none), "_law_same_view", "_law_same_view", defArgs (top 45), defBody (top 45), defScope (top 45), [], []⟩
def h_law_goes : He.DefD := ⟨("_law_goes", none), "_law_goes", "_law_goes", defArgs (top 46), defBody (top 46), defScope (top 46), [], []⟩
def h_law_holds : He.DefD := ⟨("_law_holds", none), "_law_holds", "_law_holds", defArgs (top 47), defBody (top 47), defScope (top 47), [], []⟩
def h_law_sights : He.DefD := ⟨("_law_sights", none), "_law_sights", "_law_sights", defArgs (top 48), defBody (top 48), defScope (top 48), [], []⟩
def h_law_offers : He.DefD := ⟨("_law_offers", none), "_law_offers", "_law_offers", defArgs (top 49), defBody (top 49), defScope (top 49), [], []⟩
def h_law_has : He.DefD := ⟨("_law_has", none), "_law_has", "_law_has", defArgs (top 50), defBody (top 50), defScope (top 50), [], []⟩
def h_law_fault : He.DefD := ⟨("_law_fault", none), "_law_fault", "_law_fault", defArgs (top 51), defBody (top 51), defScope (top 51), [], []⟩
def h_law_explored : He.DefD := ⟨("_law_explored", none), "_law_explored", "_law_explored", defArgs (top 52), defBody (top 52), defScope (top 52), [], []⟩
def h_law_faulty : He.DefD := ⟨("_law_faulty", none), "_law_faulty", "_law_faulty", defArgs (top 53), defBody (top 53), defScope (top 53), [], []⟩
def h_law_told : He.DefD := ⟨("_law_told", none), "_law_told", "_law_told", defArgs (top 54), defBody (top 54), defScope (top 54), [], []⟩
def hlaw : He.DefD := ⟨("law", none), "law", "law", defArgs (top 55), defBody (top 55), defScope (top 55), [], []⟩
def fn1 : List He.DefD := [hgrouped, hsubset_table, hrefined_classes, halike_classes, hleast, hnext_state, hwalk, hparties_of, hconcerns, hview, hreached_unseen, herased, hmachine_of, hmachines_of, hnext_joint, hjoint_states, hseen_alike, hstates_by_party, hsends_at, hunready, h_law_state, h_law_draw, h_law_name, h_law_names]
def fn2 : List He.DefD := [h_law_table, h_law_edge, h_law_step, h_law_walk, h_law_view, h_law_conducted, h_law_beside, h_law_accepted, h_law_unseen, h_law_seen, h_law_parties, h_law_same_view, h_law_goes, h_law_holds, h_law_sights, h_law_offers, h_law_has, h_law_fault, h_law_explored, h_law_faulty, h_law_told, hlaw]
def fn : List He.DefD := fn1 ++ fn2
def fa1 : List He.Fa := [.free "len", .free "sorted", .free "tuple", .free "list", .free "int", .free "str", .free "set", .free "enumerate", .free "range", .free "isinstance", .int "MOST_STATES" 300, .int "MOST_JOINT" 3000, .glo "TooLarge", .exc "TooLarge", .exm "TooLarge" "TooLarge" true, .glo "grouped", .glo "subset_table", .glo "refined_classes", .glo "alike_classes", .glo "least", .glo "next_state", .glo "walk", .glo "parties_of", .glo "concerns", .glo "view", .glo "reached_unseen", .glo "erased", .glo "machine_of", .glo "machines_of", .glo "next_joint", .glo "joint_states", .glo "seen_alike", .glo "states_by_party", .glo "sends_at", .glo "unready"]
def fa2 : List He.Fa := [.glo "_law_state", .glo "_law_draw", .glo "_law_name", .glo "_law_names", .glo "_law_table", .glo "_law_edge", .glo "_law_step", .glo "_law_walk", .glo "_law_view", .glo "_law_conducted", .glo "_law_beside", .glo "_law_accepted", .glo "_law_unseen", .glo "_law_seen", .glo "_law_parties", .glo "_law_same_view", .glo "_law_goes", .glo "_law_holds", .glo "_law_sights", .glo "_law_offers", .glo "_law_has", .glo "_law_fault", .glo "_law_explored", .glo "_law_faulty", .glo "_law_told", .glo "law"]
def fa : List He.Fa := fa1 ++ fa2
def loose1 : List Str := ["PactError", "TooLarge", "MOST_STATES", "MOST_JOINT", "grouped", "subset_table", "refined_classes", "alike_classes", "least", "next_state", "walk", "parties_of", "concerns", "view", "reached_unseen", "erased", "machine_of", "machines_of", "next_joint", "joint_states", "seen_alike", "states_by_party", "sends_at", "unready", "_law_state"]
def loose2 : List Str := ["_law_draw", "_law_name", "_law_names", "_law_table", "_law_edge", "_law_step", "_law_walk", "_law_view", "_law_conducted", "_law_beside", "_law_accepted", "_law_unseen", "_law_seen", "_law_parties", "_law_same_view", "_law_goes", "_law_holds", "_law_sights", "_law_offers", "_law_has", "_law_fault", "_law_explored", "_law_faulty", "_law_told"]
abbrev R : PySem.W.OpenRow := PySem.W.OpenLaw.row PySem.Challenge.rw_pactloom_k22_whole_ready_is_exact
abbrev hk : PySem.W.Hook := He.hookD 4 fa fn
def ob (s : PySem.W.SharedT) : He.AlD := He.obsDG 4 fa fn (HandSHeadRun.getT s)
theorem ob_eq (s : PySem.W.SharedT) : ob s = hk.obs s.abs := He.obsDG_eq (HandSHeadRun.getT_eq s)
theorem run (w : World) : HandSHeadRun.RunEq R (PySem.W.view R.prog [55]) hk ob 6000 (loose1 ++ loose2) w := by
  intro os
  kernel_rfl
end N
set_option Elab.async false
set_option linter.all false
set_option maxRecDepth 100000
set_option maxHeartbeats 0
namespace N
open PySem PySem.Spec PyProof.Rows L2
theorem txt {K : PySem.W.Frag} {h : Heap} {mg : Str → Option Value} (X : K.In h) (G : h.Ns mainGlobals mg) (c : He.SaysD fa fn K) : Txt K mg (He.ga K "TooLarge") := by
  obtain ⟨e1, e2, e3, e4⟩ := He.exc_ok (c.fact 13 (f := .exc "TooLarge") rfl)
  exact ⟨He.free_ok X G (c.fact 0 (f := .free "len") rfl), He.free_ok X G (c.fact 1 (f := .free "sorted") rfl), He.free_ok X G (c.fact 2 (f := .free "tuple") rfl), He.free_ok X G (c.fact 3 (f := .free "list") rfl), He.free_ok X G (c.fact 4 (f := .free "int") rfl), He.free_ok X G (c.fact 5 (f := .free "str") rfl), He.free_ok X G (c.fact 6 (f := .free "set") rfl), He.free_ok X G (c.fact 7 (f := .free "enumerate") rfl), He.free_ok X G (c.fact 8 (f := .free "range") rfl), He.free_ok X G (c.fact 9 (f := .free "isinstance") rfl), He.int_ok X G (c.fact 10 (f := .int "MOST_STATES" 300) rfl), He.int_ok X G (c.fact 11 (f := .int "MOST_JOINT" 3000) rfl), He.glo_ok X G (c.fact 12 (f := .glo "TooLarge") rfl), e1, e2, e3, e4⟩
theorem df_grouped {K : PySem.W.Frag} {h : Heap} {mg : Str → Option Value} (X : K.In h) (G : h.Ns mainGlobals mg) (c : He.SaysD fa fn K) : Def K mg "grouped" sgrouped := by
  obtain ⟨fd, F⟩ := c.def_ 0 (d := hgrouped) rfl
  exact ⟨_, fd, He.glo_ok X G (c.fact 15 (f := .glo "grouped") rfl), F⟩
theorem hs_grouped {P : Program} {w : World} {K : PySem.W.Frag} {h : Heap} {mg : Str → Option Value} {base : Heap} (X : K.In h) (G : h.Ns mainGlobals mg) (c : He.SaysD fa fn K) : Has P w K mg base CX0 1 "grouped" ["nodes", "moves"] (spNI P w aGrp pGrp qGrp) :=
  ok_grouped (df_grouped X G c) (txt X G c)  (spNI_len fun _ => rfl) (rd_grouped (by rfl))
theorem df_refined_classes {K : PySem.W.Frag} {h : Heap} {mg : Str → Option Value} (X : K.In h) (G : h.Ns mainGlobals mg) (c : He.SaysD fa fn K) : Def K mg "refined_classes" srefined_classes := by
  obtain ⟨fd, F⟩ := c.def_ 2 (d := hrefined_classes) rfl
  exact ⟨_, fd, He.glo_ok X G (c.fact 17 (f := .glo "refined_classes") rfl), F⟩
theorem hs_refined_classes {P : Program} {w : World} {K : PySem.W.Frag} {h : Heap} {mg : Str → Option Value} {base : Heap} (X : K.In h) (G : h.Ns mainGlobals mg) (c : He.SaysD fa fn K) : Has P w K mg base CX0 1 "refined_classes" ["table", "classes"] (spI P w aRef pRef qRef) :=
  ok_refined_classes (df_refined_classes X G c) (txt X G c)  (spI_len fun _ => rfl) (rd_refined_classes (by rfl))
theorem df_next_state {K : PySem.W.Frag} {h : Heap} {mg : Str → Option Value} (X : K.In h) (G : h.Ns mainGlobals mg) (c : He.SaysD fa fn K) : Def K mg "next_state" snext_state := by
  obtain ⟨fd, F⟩ := c.def_ 5 (d := hnext_state) rfl
  exact ⟨_, fd, He.glo_ok X G (c.fact 20 (f := .glo "next_state") rfl), F⟩
theorem hs_next_state {P : Program} {w : World} {K : PySem.W.Frag} {h : Heap} {mg : Str → Option Value} {base : Heap} (X : K.In h) (G : h.Ns mainGlobals mg) (c : He.SaysD fa fn K) : Has P w K mg base CX0 1 "next_state" ["table", "state", "action"] (spI P w aStep pStep qStep) :=
  ok_next_state (df_next_state X G c) (txt X G c)  (spI_len fun _ => rfl) (rd_next_state (by rfl))
theorem df_parties_of {K : PySem.W.Frag} {h : Heap} {mg : Str → Option Value} (X : K.In h) (G : h.Ns mainGlobals mg) (c : He.SaysD fa fn K) : Def K mg "parties_of" sparties_of := by
  obtain ⟨fd, F⟩ := c.def_ 7 (d := hparties_of) rfl
  exact ⟨_, fd, He.glo_ok X G (c.fact 22 (f := .glo "parties_of") rfl), F⟩
theorem hs_parties_of {P : Program} {w : World} {K : PySem.W.Frag} {h : Heap} {mg : Str → Option Value} {base : Heap} (X : K.In h) (G : h.Ns mainGlobals mg) (c : He.SaysD fa fn K) : Has P w K mg base CX0 1 "parties_of" ["table"] (spI P w aTab Wf qPart) :=
  ok_parties_of (df_parties_of X G c) (txt X G c)  (spI_len fun _ => rfl) (rd_parties_of (by rfl))
theorem df_concerns {K : PySem.W.Frag} {h : Heap} {mg : Str → Option Value} (X : K.In h) (G : h.Ns mainGlobals mg) (c : He.SaysD fa fn K) : Def K mg "concerns" sconcerns := by
  obtain ⟨fd, F⟩ := c.def_ 8 (d := hconcerns) rfl
  exact ⟨_, fd, He.glo_ok X G (c.fact 23 (f := .glo "concerns") rfl), F⟩
theorem hs_concerns {P : Program} {w : World} {K : PySem.W.Frag} {h : Heap} {mg : Str → Option Value} {base : Heap} (X : K.In h) (G : h.Ns mainGlobals mg) (c : He.SaysD fa fn K) : Has P w K mg base CX0 1 "concerns" ["action", "party"] (spI P w aConc (fun _ => True) qConc) :=
  ok_concerns (df_concerns X G c) (txt X G c)  (spI_len fun _ => rfl) (rd_concerns (by rfl))
theorem df_states_by_party {K : PySem.W.Frag} {h : Heap} {mg : Str → Option Value} (X : K.In h) (G : h.Ns mainGlobals mg) (c : He.SaysD fa fn K) : Def K mg "states_by_party" sstates_by_party := by
  obtain ⟨fd, F⟩ := c.def_ 17 (d := hstates_by_party) rfl
  exact ⟨_, fd, He.glo_ok X G (c.fact 32 (f := .glo "states_by_party") rfl), F⟩
theorem hs_states_by_party {P : Program} {w : World} {K : PySem.W.Frag} {h : Heap} {mg : Str → Option Value} {base : Heap} (X : K.In h) (G : h.Ns mainGlobals mg) (c : He.SaysD fa fn K) : Has P w K mg base CX0 1 "states_by_party" ["machines", "joint"] (spI P w aSbp pSbp qSbp) :=
  ok_states_by_party (df_states_by_party X G c) (txt X G c)  (spI_len fun _ => rfl) (rd_states_by_party (by rfl))
theorem df_sends_at {K : PySem.W.Frag} {h : Heap} {mg : Str → Option Value} (X : K.In h) (G : h.Ns mainGlobals mg) (c : He.SaysD fa fn K) : Def K mg "sends_at" ssends_at := by
  obtain ⟨fd, F⟩ := c.def_ 18 (d := hsends_at) rfl
  exact ⟨_, fd, He.glo_ok X G (c.fact 33 (f := .glo "sends_at") rfl), F⟩
theorem hs_sends_at {P : Program} {w : World} {K : PySem.W.Frag} {h : Heap} {mg : Str → Option Value} {base : Heap} (X : K.In h) (G : h.Ns mainGlobals mg) (c : He.SaysD fa fn K) : Has P w K mg base CX0 1 "sends_at" ["machines", "states"] (spI P w aSnd pSbp qSnd) :=
  ok_sends_at (df_sends_at X G c) (txt X G c)  (spI_len fun _ => rfl) (rd_sends_at (by rfl))
theorem df__law_state {K : PySem.W.Frag} {h : Heap} {mg : Str → Option Value} (X : K.In h) (G : h.Ns mainGlobals mg) (c : He.SaysD fa fn K) : Def K mg "_law_state" s_law_state := by
  obtain ⟨fd, F⟩ := c.def_ 20 (d := h_law_state) rfl
  exact ⟨_, fd, He.glo_ok X G (c.fact 35 (f := .glo "_law_state") rfl), F⟩
theorem hs__law_state {P : Program} {w : World} {K : PySem.W.Frag} {h : Heap} {mg : Str → Option Value} {base : Heap} (X : K.In h) (G : h.Ns mainGlobals mg) (c : He.SaysD fa fn K) : Has P w K mg base CX0 1 "_law_state" ["_law_script"] (spSt K) :=
  ok__law_state (df__law_state X G c) (txt X G c)  spSt_len (rd__law_state)
theorem df__law_draw {K : PySem.W.Frag} {h : Heap} {mg : Str → Option Value} (X : K.In h) (G : h.Ns mainGlobals mg) (c : He.SaysD fa fn K) : Def K mg "_law_draw" s_law_draw := by
  obtain ⟨fd, F⟩ := c.def_ 21 (d := h_law_draw) rfl
  exact ⟨_, fd, He.glo_ok X G (c.fact 36 (f := .glo "_law_draw") rfl), F⟩
theorem hs__law_draw {P : Program} {w : World} {K : PySem.W.Frag} {h : Heap} {mg : Str → Option Value} {base : Heap} (X : K.In h) (G : h.Ns mainGlobals mg) (c : He.SaysD fa fn K) : Has P w K mg base CX0 1 "_law_draw" ["_law_state_here", "_law_limit"] (spGI P w cDrw aDrw pDrw qDrw) :=
  ok__law_draw (df__law_draw X G c) (txt X G c)  (spGI_len fun _ => rfl) (rd__law_draw (by rfl))
theorem df__law_step {K : PySem.W.Frag} {h : Heap} {mg : Str → Option Value} (X : K.In h) (G : h.Ns mainGlobals mg) (c : He.SaysD fa fn K) : Def K mg "_law_step" s_law_step := by
  obtain ⟨fd, F⟩ := c.def_ 26 (d := h_law_step) rfl
  exact ⟨_, fd, He.glo_ok X G (c.fact 41 (f := .glo "_law_step") rfl), F⟩
theorem hs__law_step {P : Program} {w : World} {K : PySem.W.Frag} {h : Heap} {mg : Str → Option Value} {base : Heap} (X : K.In h) (G : h.Ns mainGlobals mg) (c : He.SaysD fa fn K) : Has P w K mg base CX0 1 "_law_step" ["_law_table_here", "_law_state_here", "_law_action"] (spI P w aStep pStep qStep) :=
  ok__law_step (df__law_step X G c) (txt X G c)  (spI_len fun _ => rfl) (rd__law_step (by rfl))
theorem df__law_view {K : PySem.W.Frag} {h : Heap} {mg : Str → Option Value} (X : K.In h) (G : h.Ns mainGlobals mg) (c : He.SaysD fa fn K) : Def K mg "_law_view" s_law_view := by
  obtain ⟨fd, F⟩ := c.def_ 28 (d := h_law_view) rfl
  exact ⟨_, fd, He.glo_ok X G (c.fact 43 (f := .glo "_law_view") rfl), F⟩
theorem hs__law_view {P : Program} {w : World} {K : PySem.W.Frag} {h : Heap} {mg : Str → Option Value} {base : Heap} (X : K.In h) (G : h.Ns mainGlobals mg) (c : He.SaysD fa fn K) : Has P w K mg base CX0 1 "_law_view" ["_law_actions", "_law_party"] (spI P w aView pView qView) :=
  ok__law_view (df__law_view X G c) (txt X G c)  (spI_len fun _ => rfl) (rd__law_view (by rfl))
theorem df__law_conducted {K : PySem.W.Frag} {h : Heap} {mg : Str → Option Value} (X : K.In h) (G : h.Ns mainGlobals mg) (c : He.SaysD fa fn K) : Def K mg "_law_conducted" s_law_conducted := by
  obtain ⟨fd, F⟩ := c.def_ 29 (d := h_law_conducted) rfl
  exact ⟨_, fd, He.glo_ok X G (c.fact 44 (f := .glo "_law_conducted") rfl), F⟩
theorem hs__law_conducted {P : Program} {w : World} {K : PySem.W.Frag} {h : Heap} {mg : Str → Option Value} {base : Heap} (X : K.In h) (G : h.Ns mainGlobals mg) (c : He.SaysD fa fn K) : Has P w K mg base CX0 1 "_law_conducted" ["_law_table_here", "_law_leader"] (spI P w aCnd pCnd qCnd) :=
  ok__law_conducted (df__law_conducted X G c) (txt X G c)  (spI_len fun _ => rfl) (rd__law_conducted (by rfl))
theorem df__law_beside {K : PySem.W.Frag} {h : Heap} {mg : Str → Option Value} (X : K.In h) (G : h.Ns mainGlobals mg) (c : He.SaysD fa fn K) : Def K mg "_law_beside" s_law_beside := by
  obtain ⟨fd, F⟩ := c.def_ 30 (d := h_law_beside) rfl
  exact ⟨_, fd, He.glo_ok X G (c.fact 45 (f := .glo "_law_beside") rfl), F⟩
theorem hs__law_beside {P : Program} {w : World} {K : PySem.W.Frag} {h : Heap} {mg : Str → Option Value} {base : Heap} (X : K.In h) (G : h.Ns mainGlobals mg) (c : He.SaysD fa fn K) : Has P w K mg base CX0 1 "_law_beside" ["_law_one", "_law_other"] (spI P w aBes pBes qBes) :=
  ok__law_beside (df__law_beside X G c) (txt X G c)  (spI_len fun _ => rfl) (rd__law_beside (by rfl))
theorem df__law_unseen {K : PySem.W.Frag} {h : Heap} {mg : Str → Option Value} (X : K.In h) (G : h.Ns mainGlobals mg) (c : He.SaysD fa fn K) : Def K mg "_law_unseen" s_law_unseen := by
  obtain ⟨fd, F⟩ := c.def_ 32 (d := h_law_unseen) rfl
  exact ⟨_, fd, He.glo_ok X G (c.fact 47 (f := .glo "_law_unseen") rfl), F⟩
theorem hs__law_unseen {P : Program} {w : World} {K : PySem.W.Frag} {h : Heap} {mg : Str → Option Value} {base : Heap} (X : K.In h) (G : h.Ns mainGlobals mg) (c : He.SaysD fa fn K) : Has P w K mg base CX0 1 "_law_unseen" ["_law_table_here", "_law_states", "_law_party"] (spI P w aUnseen pUnseen qUnseen) :=
  ok__law_unseen (df__law_unseen X G c) (txt X G c)  (spI_len fun _ => rfl) (rd__law_unseen (by rfl))
theorem df__law_parties {K : PySem.W.Frag} {h : Heap} {mg : Str → Option Value} (X : K.In h) (G : h.Ns mainGlobals mg) (c : He.SaysD fa fn K) : Def K mg "_law_parties" s_law_parties := by
  obtain ⟨fd, F⟩ := c.def_ 34 (d := h_law_parties) rfl
  exact ⟨_, fd, He.glo_ok X G (c.fact 49 (f := .glo "_law_parties") rfl), F⟩
theorem hs__law_parties {P : Program} {w : World} {K : PySem.W.Frag} {h : Heap} {mg : Str → Option Value} {base : Heap} (X : K.In h) (G : h.Ns mainGlobals mg) (c : He.SaysD fa fn K) : Has P w K mg base CX0 1 "_law_parties" ["_law_table_here"] (spI P w aTab Wf qPart) :=
  ok__law_parties (df__law_parties X G c) (txt X G c)  (spI_len fun _ => rfl) (rd__law_parties (by rfl))
theorem df__law_offers {K : PySem.W.Frag} {h : Heap} {mg : Str → Option Value} (X : K.In h) (G : h.Ns mainGlobals mg) (c : He.SaysD fa fn K) : Def K mg "_law_offers" s_law_offers := by
  obtain ⟨fd, F⟩ := c.def_ 39 (d := h_law_offers) rfl
  exact ⟨_, fd, He.glo_ok X G (c.fact 54 (f := .glo "_law_offers") rfl), F⟩
theorem hs__law_offers {P : Program} {w : World} {K : PySem.W.Frag} {h : Heap} {mg : Str → Option Value} {base : Heap} (X : K.In h) (G : h.Ns mainGlobals mg) (c : He.SaysD fa fn K) : Has P w K mg base CX0 1 "_law_offers" ["_law_table_here", "_law_parties_here", "_law_sights_here"] (spI P w aOff pOff qOff) :=
  ok__law_offers (df__law_offers X G c) (txt X G c)  (spI_len fun _ => rfl) (rd__law_offers (by rfl))
theorem df_subset_table {K : PySem.W.Frag} {h : Heap} {mg : Str → Option Value} (X : K.In h) (G : h.Ns mainGlobals mg) (c : He.SaysD fa fn K) : Def K mg "subset_table" ssubset_table := by
  obtain ⟨fd, F⟩ := c.def_ 1 (d := hsubset_table) rfl
  exact ⟨_, fd, He.glo_ok X G (c.fact 16 (f := .glo "subset_table") rfl), F⟩
theorem hs_subset_table {P : Program} {w : World} {K : PySem.W.Frag} {h : Heap} {mg : Str → Option Value} {base : Heap} (X : K.In h) (G : h.Ns mainGlobals mg) (c : He.SaysD fa fn K) : Has P w K mg base CX0 2 "subset_table" ["start", "moves", "ends", "limit"] (spI P w aSub pSub qSub) :=
  ok_subset_table (df_subset_table X G c) (txt X G c) ((hs_grouped X G c).up (by decide)) (spI_len fun _ => rfl) (rd_subset_table (by rfl))
theorem df_alike_classes {K : PySem.W.Frag} {h : Heap} {mg : Str → Option Value} (X : K.In h) (G : h.Ns mainGlobals mg) (c : He.SaysD fa fn K) : Def K mg "alike_classes" salike_classes := by
  obtain ⟨fd, F⟩ := c.def_ 3 (d := halike_classes) rfl
  exact ⟨_, fd, He.glo_ok X G (c.fact 18 (f := .glo "alike_classes") rfl), F⟩
theorem hs_alike_classes {P : Program} {w : World} {K : PySem.W.Frag} {h : Heap} {mg : Str → Option Value} {base : Heap} (X : K.In h) (G : h.Ns mainGlobals mg) (c : He.SaysD fa fn K) : Has P w K mg base CX0 2 "alike_classes" ["table"] (spI P w aTab Wf qAli) :=
  ok_alike_classes (df_alike_classes X G c) (txt X G c) ((hs_refined_classes X G c).up (by decide)) (spI_len fun _ => rfl) (rd_alike_classes (by rfl))
theorem df_walk {K : PySem.W.Frag} {h : Heap} {mg : Str → Option Value} (X : K.In h) (G : h.Ns mainGlobals mg) (c : He.SaysD fa fn K) : Def K mg "walk" swalk := by
  obtain ⟨fd, F⟩ := c.def_ 6 (d := hwalk) rfl
  exact ⟨_, fd, He.glo_ok X G (c.fact 21 (f := .glo "walk") rfl), F⟩
theorem hs_walk {P : Program} {w : World} {K : PySem.W.Frag} {h : Heap} {mg : Str → Option Value} {base : Heap} (X : K.In h) (G : h.Ns mainGlobals mg) (c : He.SaysD fa fn K) : Has P w K mg base CX0 2 "walk" ["table", "actions"] (spI P w aWalk pWalk qWalk) :=
  ok_walk (df_walk X G c) (txt X G c) ((hs_next_state X G c).up (by decide)) (spI_len fun _ => rfl) (rd_walk (by rfl))
theorem df_view {K : PySem.W.Frag} {h : Heap} {mg : Str → Option Value} (X : K.In h) (G : h.Ns mainGlobals mg) (c : He.SaysD fa fn K) : Def K mg "view" sview := by
  obtain ⟨fd, F⟩ := c.def_ 9 (d := hview) rfl
  exact ⟨_, fd, He.glo_ok X G (c.fact 24 (f := .glo "view") rfl), F⟩
theorem hs_view {P : Program} {w : World} {K : PySem.W.Frag} {h : Heap} {mg : Str → Option Value} {base : Heap} (X : K.In h) (G : h.Ns mainGlobals mg) (c : He.SaysD fa fn K) : Has P w K mg base CX0 2 "view" ["actions", "party"] (spI P w aView pView qView) :=
  ok_view (df_view X G c) (txt X G c) ((hs_concerns X G c).up (by decide)) (spI_len fun _ => rfl) (rd_view (by rfl))
theorem df_reached_unseen {K : PySem.W.Frag} {h : Heap} {mg : Str → Option Value} (X : K.In h) (G : h.Ns mainGlobals mg) (c : He.SaysD fa fn K) : Def K mg "reached_unseen" sreached_unseen := by
  obtain ⟨fd, F⟩ := c.def_ 10 (d := hreached_unseen) rfl
  exact ⟨_, fd, He.glo_ok X G (c.fact 25 (f := .glo "reached_unseen") rfl), F⟩
theorem hs_reached_unseen {P : Program} {w : World} {K : PySem.W.Frag} {h : Heap} {mg : Str → Option Value} {base : Heap} (X : K.In h) (G : h.Ns mainGlobals mg) (c : He.SaysD fa fn K) : Has P w K mg base CX0 2 "reached_unseen" ["table", "state", "party", "seen"] (spI P w aReach pReach qReach) :=
  ok_reached_unseen (df_reached_unseen X G c) (txt X G c) ((hs_concerns X G c).up (by decide)) (spI_len fun _ => rfl) (rd_reached_unseen (by rfl))
theorem df_next_joint {K : PySem.W.Frag} {h : Heap} {mg : Str → Option Value} (X : K.In h) (G : h.Ns mainGlobals mg) (c : He.SaysD fa fn K) : Def K mg "next_joint" snext_joint := by
  obtain ⟨fd, F⟩ := c.def_ 14 (d := hnext_joint) rfl
  exact ⟨_, fd, He.glo_ok X G (c.fact 29 (f := .glo "next_joint") rfl), F⟩
theorem hs_next_joint {P : Program} {w : World} {K : PySem.W.Frag} {h : Heap} {mg : Str → Option Value} {base : Heap} (X : K.In h) (G : h.Ns mainGlobals mg) (c : He.SaysD fa fn K) : Has P w K mg base CX0 2 "next_joint" ["table", "machines", "joint", "action"] (spI P w aNxt pNxt qNxt) :=
  ok_next_joint (df_next_joint X G c) (txt X G c) ((hs_concerns X G c).up (by decide)) ((hs_next_state X G c).up (by decide)) (spI_len fun _ => rfl) (rd_next_joint (by rfl))
theorem df_seen_alike {K : PySem.W.Frag} {h : Heap} {mg : Str → Option Value} (X : K.In h) (G : h.Ns mainGlobals mg) (c : He.SaysD fa fn K) : Def K mg "seen_alike" sseen_alike := by
  obtain ⟨fd, F⟩ := c.def_ 16 (d := hseen_alike) rfl
  exact ⟨_, fd, He.glo_ok X G (c.fact 31 (f := .glo "seen_alike") rfl), F⟩
theorem hs_seen_alike {P : Program} {w : World} {K : PySem.W.Frag} {h : Heap} {mg : Str → Option Value} {base : Heap} (X : K.In h) (G : h.Ns mainGlobals mg) (c : He.SaysD fa fn K) : Has P w K mg base CX0 2 "seen_alike" ["table", "party", "sight", "wanted"] (spI P w aAlk pAlk qAlk) :=
  ok_seen_alike (df_seen_alike X G c) (txt X G c) ((hs_concerns X G c).up (by decide)) ((hs_next_state X G c).up (by decide)) (spI_len fun _ => rfl) (rd_seen_alike (by rfl))
theorem df__law_name {K : PySem.W.Frag} {h : Heap} {mg : Str → Option Value} (X : K.In h) (G : h.Ns mainGlobals mg) (c : He.SaysD fa fn K) : Def K mg "_law_name" s_law_name := by
  obtain ⟨fd, F⟩ := c.def_ 22 (d := h_law_name) rfl
  exact ⟨_, fd, He.glo_ok X G (c.fact 37 (f := .glo "_law_name") rfl), F⟩
theorem hs__law_name {P : Program} {w : World} {K : PySem.W.Frag} {h : Heap} {mg : Str → Option Value} {base : Heap} (X : K.In h) (G : h.Ns mainGlobals mg) (c : He.SaysD fa fn K) : Has P w K mg base CX0 2 "_law_name" ["_law_state_here"] (spGI P w cNam aNam (fun _ => True) qNam) :=
  ok__law_name (df__law_name X G c) (txt X G c) ((hs__law_draw X G c).up (by decide)) (spGI_len fun _ => rfl) (rd__law_name (by rfl))
theorem df__law_edge {K : PySem.W.Frag} {h : Heap} {mg : Str → Option Value} (X : K.In h) (G : h.Ns mainGlobals mg) (c : He.SaysD fa fn K) : Def K mg "_law_edge" s_law_edge := by
  obtain ⟨fd, F⟩ := c.def_ 25 (d := h_law_edge) rfl
  exact ⟨_, fd, He.glo_ok X G (c.fact 40 (f := .glo "_law_edge") rfl), F⟩
theorem hs__law_edge {P : Program} {w : World} {K : PySem.W.Frag} {h : Heap} {mg : Str → Option Value} {base : Heap} (X : K.In h) (G : h.Ns mainGlobals mg) (c : He.SaysD fa fn K) : Has P w K mg base CX0 2 "_law_edge" ["_law_state_here", "_law_row", "_law_parties_here", "_law_labels", "_law_goal"] (spGI P w cEd aEd pEd qEd) :=
  ok__law_edge (df__law_edge X G c) (txt X G c) ((hs__law_draw X G c).up (by decide)) (spGI_len fun _ => rfl) (rd__law_edge (by rfl))
theorem df__law_walk {K : PySem.W.Frag} {h : Heap} {mg : Str → Option Value} (X : K.In h) (G : h.Ns mainGlobals mg) (c : He.SaysD fa fn K) : Def K mg "_law_walk" s_law_walk := by
  obtain ⟨fd, F⟩ := c.def_ 27 (d := h_law_walk) rfl
  exact ⟨_, fd, He.glo_ok X G (c.fact 42 (f := .glo "_law_walk") rfl), F⟩
theorem hs__law_walk {P : Program} {w : World} {K : PySem.W.Frag} {h : Heap} {mg : Str → Option Value} {base : Heap} (X : K.In h) (G : h.Ns mainGlobals mg) (c : He.SaysD fa fn K) : Has P w K mg base CX0 2 "_law_walk" ["_law_table_here", "_law_actions"] (spI P w aWalk pWalk qWalk) :=
  ok__law_walk (df__law_walk X G c) (txt X G c) ((hs__law_step X G c).up (by decide)) (spI_len fun _ => rfl) (rd__law_walk (by rfl))
theorem df__law_seen {K : PySem.W.Frag} {h : Heap} {mg : Str → Option Value} (X : K.In h) (G : h.Ns mainGlobals mg) (c : He.SaysD fa fn K) : Def K mg "_law_seen" s_law_seen := by
  obtain ⟨fd, F⟩ := c.def_ 33 (d := h_law_seen) rfl
  exact ⟨_, fd, He.glo_ok X G (c.fact 48 (f := .glo "_law_seen") rfl), F⟩
theorem hs__law_seen {P : Program} {w : World} {K : PySem.W.Frag} {h : Heap} {mg : Str → Option Value} {base : Heap} (X : K.In h) (G : h.Ns mainGlobals mg) (c : He.SaysD fa fn K) : Has P w K mg base CX0 2 "_law_seen" ["_law_table_here", "_law_states", "_law_party", "_law_action"] (spI P w aSeen pSeen qSeen) :=
  ok__law_seen (df__law_seen X G c) (txt X G c) ((hs__law_step X G c).up (by decide)) ((hs__law_unseen X G c).up (by decide)) (spI_len fun _ => rfl) (rd__law_seen (by rfl))
theorem df__law_same_view {K : PySem.W.Frag} {h : Heap} {mg : Str → Option Value} (X : K.In h) (G : h.Ns mainGlobals mg) (c : He.SaysD fa fn K) : Def K mg "_law_same_view" s_law_same_view := by
  obtain ⟨fd, F⟩ := c.def_ 35 (d := h_law_same_view) rfl
  exact ⟨_, fd, He.glo_ok X G (c.fact 50 (f := .glo "_law_same_view") rfl), F⟩
theorem hs__law_same_view {P : Program} {w : World} {K : PySem.W.Frag} {h : Heap} {mg : Str → Option Value} {base : Heap} (X : K.In h) (G : h.Ns mainGlobals mg) (c : He.SaysD fa fn K) : Has P w K mg base CX0 2 "_law_same_view" ["_law_one", "_law_other", "_law_party"] (spI P w aSame pSame qSame) :=
  ok__law_same_view (df__law_same_view X G c) (txt X G c) ((hs__law_view X G c).up (by decide)) (spI_len fun _ => rfl) (rd__law_same_view (by rfl))
theorem df__law_has {K : PySem.W.Frag} {h : Heap} {mg : Str → Option Value} (X : K.In h) (G : h.Ns mainGlobals mg) (c : He.SaysD fa fn K) : Def K mg "_law_has" s_law_has := by
  obtain ⟨fd, F⟩ := c.def_ 40 (d := h_law_has) rfl
  exact ⟨_, fd, He.glo_ok X G (c.fact 55 (f := .glo "_law_has") rfl), F⟩
theorem hs__law_has {P : Program} {w : World} {K : PySem.W.Frag} {h : Heap} {mg : Str → Option Value} {base : Heap} (X : K.In h) (G : h.Ns mainGlobals mg) (c : He.SaysD fa fn K) : Has P w K mg base CX0 2 "_law_has" ["_law_table_here", "_law_parties_here", "_law_sights_here", "_law_party", "_law_action"] (spNo) :=
  ok__law_has (df__law_has X G c) (txt X G c) ((hs__law_step X G c).up (by decide)) (fun _ _ _ _ h => h.elim) (fun _ _ _ _ h => h.elim)
theorem df_least {K : PySem.W.Frag} {h : Heap} {mg : Str → Option Value} (X : K.In h) (G : h.Ns mainGlobals mg) (c : He.SaysD fa fn K) : Def K mg "least" sleast := by
  obtain ⟨fd, F⟩ := c.def_ 4 (d := hleast) rfl
  exact ⟨_, fd, He.glo_ok X G (c.fact 19 (f := .glo "least") rfl), F⟩
theorem hs_least {P : Program} {w : World} {K : PySem.W.Frag} {h : Heap} {mg : Str → Option Value} {base : Heap} (X : K.In h) (G : h.Ns mainGlobals mg) (c : He.SaysD fa fn K) : Has P w K mg base CX0 3 "least" ["table"] (spI P w aLea pLea qLea) :=
  ok_least (df_least X G c) (txt X G c) ((hs_alike_classes X G c).up (by decide)) ((hs_subset_table X G c).up (by decide)) (spI_len fun _ => rfl) (rd_least (by rfl))
theorem df__law_names {K : PySem.W.Frag} {h : Heap} {mg : Str → Option Value} (X : K.In h) (G : h.Ns mainGlobals mg) (c : He.SaysD fa fn K) : Def K mg "_law_names" s_law_names := by
  obtain ⟨fd, F⟩ := c.def_ 23 (d := h_law_names) rfl
  exact ⟨_, fd, He.glo_ok X G (c.fact 38 (f := .glo "_law_names") rfl), F⟩
theorem hs__law_names {P : Program} {w : World} {K : PySem.W.Frag} {h : Heap} {mg : Str → Option Value} {base : Heap} (X : K.In h) (G : h.Ns mainGlobals mg) (c : He.SaysD fa fn K) : Has P w K mg base CX0 3 "_law_names" ["_law_state_here", "_law_count", "_law_taken"] (spGI P w cNms aNms pNms qNms) :=
  ok__law_names (df__law_names X G c) (txt X G c) ((hs__law_name X G c).up (by decide)) (spGI_len fun _ => rfl) (rd__law_names (by rfl))
theorem df__law_table {K : PySem.W.Frag} {h : Heap} {mg : Str → Option Value} (X : K.In h) (G : h.Ns mainGlobals mg) (c : He.SaysD fa fn K) : Def K mg "_law_table" s_law_table := by
  obtain ⟨fd, F⟩ := c.def_ 24 (d := h_law_table) rfl
  exact ⟨_, fd, He.glo_ok X G (c.fact 39 (f := .glo "_law_table") rfl), F⟩
theorem hs__law_table {P : Program} {w : World} {K : PySem.W.Frag} {h : Heap} {mg : Str → Option Value} {base : Heap} (X : K.In h) (G : h.Ns mainGlobals mg) (c : He.SaysD fa fn K) : Has P w K mg base CX0 3 "_law_table" ["_law_state_here", "_law_parties_here", "_law_labels", "_law_size"] (spGI P w cTb aTb pTb qTb) :=
  ok__law_table (df__law_table X G c) (txt X G c) ((hs__law_draw X G c).up (by decide)) ((hs__law_edge X G c).up (by decide)) (spGI_len fun _ => rfl) (rd__law_table (by rfl))
theorem df__law_goes {K : PySem.W.Frag} {h : Heap} {mg : Str → Option Value} (X : K.In h) (G : h.Ns mainGlobals mg) (c : He.SaysD fa fn K) : Def K mg "_law_goes" s_law_goes := by
  obtain ⟨fd, F⟩ := c.def_ 36 (d := h_law_goes) rfl
  exact ⟨_, fd, He.glo_ok X G (c.fact 51 (f := .glo "_law_goes") rfl), F⟩
theorem hs__law_goes {P : Program} {w : World} {K : PySem.W.Frag} {h : Heap} {mg : Str → Option Value} {base : Heap} (X : K.In h) (G : h.Ns mainGlobals mg) (c : He.SaysD fa fn K) : Has P w K mg base CX0 3 "_law_goes" ["_law_table_here", "_law_run", "_law_action"] (spI P w aGoes pGoes qGoes) :=
  ok__law_goes (df__law_goes X G c) (txt X G c) ((hs__law_walk X G c).up (by decide)) (spI_len fun _ => rfl) (rd__law_goes (by rfl))
theorem df__law_sights {K : PySem.W.Frag} {h : Heap} {mg : Str → Option Value} (X : K.In h) (G : h.Ns mainGlobals mg) (c : He.SaysD fa fn K) : Def K mg "_law_sights" s_law_sights := by
  obtain ⟨fd, F⟩ := c.def_ 38 (d := h_law_sights) rfl
  exact ⟨_, fd, He.glo_ok X G (c.fact 53 (f := .glo "_law_sights") rfl), F⟩
theorem hs__law_sights {P : Program} {w : World} {K : PySem.W.Frag} {h : Heap} {mg : Str → Option Value} {base : Heap} (X : K.In h) (G : h.Ns mainGlobals mg) (c : He.SaysD fa fn K) : Has P w K mg base CX0 3 "_law_sights" ["_law_table_here", "_law_parties_here", "_law_sights_here", "_law_action"] (spI P w aSig pSig qSig) :=
  ok__law_sights (df__law_sights X G c) (txt X G c) ((hs__law_seen X G c).up (by decide)) (spI_len fun _ => rfl) (rd__law_sights (by rfl))
theorem df__law_fault {K : PySem.W.Frag} {h : Heap} {mg : Str → Option Value} (X : K.In h) (G : h.Ns mainGlobals mg) (c : He.SaysD fa fn K) : Def K mg "_law_fault" s_law_fault := by
  obtain ⟨fd, F⟩ := c.def_ 41 (d := h_law_fault) rfl
  exact ⟨_, fd, He.glo_ok X G (c.fact 56 (f := .glo "_law_fault") rfl), F⟩
theorem hs__law_fault {P : Program} {w : World} {K : PySem.W.Frag} {h : Heap} {mg : Str → Option Value} {base : Heap} (X : K.In h) (G : h.Ns mainGlobals mg) (c : He.SaysD fa fn K) : Has P w K mg base CX0 3 "_law_fault" ["_law_table_here", "_law_parties_here", "_law_at", "_law_sights_here", "_law_kind"] (spI P w aFault pFault qFault) :=
  ok__law_fault (df__law_fault X G c) (txt X G c) ((hs__law_has X G c).up (by decide)) ((hs__law_offers X G c).up (by decide)) ((hs__law_step X G c).up (by decide)) (spI_len fun _ => rfl) (rd__law_fault (by rfl))
theorem df_erased {K : PySem.W.Frag} {h : Heap} {mg : Str → Option Value} (X : K.In h) (G : h.Ns mainGlobals mg) (c : He.SaysD fa fn K) : Def K mg "erased" serased := by
  obtain ⟨fd, F⟩ := c.def_ 11 (d := herased) rfl
  exact ⟨_, fd, He.glo_ok X G (c.fact 26 (f := .glo "erased") rfl), F⟩
theorem hs_erased {P : Program} {w : World} {K : PySem.W.Frag} {h : Heap} {mg : Str → Option Value} {base : Heap} (X : K.In h) (G : h.Ns mainGlobals mg) (c : He.SaysD fa fn K) : Has P w K mg base CX0 4 "erased" ["table", "party", "seen"] (spI P w aErs pMch qMch) :=
  ok_erased (df_erased X G c) (txt X G c) ((hs_concerns X G c).up (by decide)) ((hs_least X G c).up (by decide)) ((hs_reached_unseen X G c).up (by decide)) ((hs_subset_table X G c).up (by decide)) (spI_len fun _ => rfl) (rd_erased (by rfl))
theorem df__law_accepted {K : PySem.W.Frag} {h : Heap} {mg : Str → Option Value} (X : K.In h) (G : h.Ns mainGlobals mg) (c : He.SaysD fa fn K) : Def K mg "_law_accepted" s_law_accepted := by
  obtain ⟨fd, F⟩ := c.def_ 31 (d := h_law_accepted) rfl
  exact ⟨_, fd, He.glo_ok X G (c.fact 46 (f := .glo "_law_accepted") rfl), F⟩
theorem hs__law_accepted {P : Program} {w : World} {K : PySem.W.Frag} {h : Heap} {mg : Str → Option Value} {base : Heap} (X : K.In h) (G : h.Ns mainGlobals mg) (c : He.SaysD fa fn K) : Has P w K mg base CX0 4 "_law_accepted" ["_law_state_here"] (spGI P w cNam aNam (fun _ => True) qAcc) :=
  ok__law_accepted (df__law_accepted X G c) (txt X G c) ((hs__law_beside X G c).up (by decide)) ((hs__law_conducted X G c).up (by decide)) ((hs__law_draw X G c).up (by decide)) ((hs__law_names X G c).up (by decide)) ((hs__law_table X G c).up (by decide)) (spGI_len fun _ => rfl) (rd__law_accepted (by rfl))
theorem df__law_holds {K : PySem.W.Frag} {h : Heap} {mg : Str → Option Value} (X : K.In h) (G : h.Ns mainGlobals mg) (c : He.SaysD fa fn K) : Def K mg "_law_holds" s_law_holds := by
  obtain ⟨fd, F⟩ := c.def_ 37 (d := h_law_holds) rfl
  exact ⟨_, fd, He.glo_ok X G (c.fact 52 (f := .glo "_law_holds") rfl), F⟩
theorem hs__law_holds {P : Program} {w : World} {K : PySem.W.Frag} {h : Heap} {mg : Str → Option Value} {base : Heap} (X : K.In h) (G : h.Ns mainGlobals mg) (c : He.SaysD fa fn K) : Has P w K mg base CX0 4 "_law_holds" ["_law_table_here", "_law_paper"] (spI P w aHld pHld qHld) :=
  ok__law_holds (df__law_holds X G c) (txt X G c) ((hs__law_goes X G c).up (by decide)) ((hs__law_parties X G c).up (by decide)) ((hs__law_same_view X G c).up (by decide)) ((hs__law_walk X G c).up (by decide)) (spI_len fun _ => rfl) (rd__law_holds (by rfl))
theorem df__law_explored {K : PySem.W.Frag} {h : Heap} {mg : Str → Option Value} (X : K.In h) (G : h.Ns mainGlobals mg) (c : He.SaysD fa fn K) : Def K mg "_law_explored" s_law_explored := by
  obtain ⟨fd, F⟩ := c.def_ 42 (d := h_law_explored) rfl
  exact ⟨_, fd, He.glo_ok X G (c.fact 57 (f := .glo "_law_explored") rfl), F⟩
theorem hs__law_explored {P : Program} {w : World} {K : PySem.W.Frag} {h : Heap} {mg : Str → Option Value} {base : Heap} (X : K.In h) (G : h.Ns mainGlobals mg) (c : He.SaysD fa fn K) : Has P w K mg base CX0 4 "_law_explored" ["_law_table_here"] (spI P w aTab Wf qExp) :=
  ok__law_explored (df__law_explored X G c) (txt X G c) ((hs__law_parties X G c).up (by decide)) ((hs__law_sights X G c).up (by decide)) ((hs__law_unseen X G c).up (by decide)) (spI_len fun _ => rfl) (rd__law_explored (by rfl))
theorem df__law_faulty {K : PySem.W.Frag} {h : Heap} {mg : Str → Option Value} (X : K.In h) (G : h.Ns mainGlobals mg) (c : He.SaysD fa fn K) : Def K mg "_law_faulty" s_law_faulty := by
  obtain ⟨fd, F⟩ := c.def_ 43 (d := h_law_faulty) rfl
  exact ⟨_, fd, He.glo_ok X G (c.fact 58 (f := .glo "_law_faulty") rfl), F⟩
theorem hs__law_faulty {P : Program} {w : World} {K : PySem.W.Frag} {h : Heap} {mg : Str → Option Value} {base : Heap} (X : K.In h) (G : h.Ns mainGlobals mg) (c : He.SaysD fa fn K) : Has P w K mg base CX0 4 "_law_faulty" ["_law_table_here", "_law_found", "_law_kind"] (spI P w aFaulty pFaulty qFaulty) :=
  ok__law_faulty (df__law_faulty X G c) (txt X G c) ((hs__law_fault X G c).up (by decide)) ((hs__law_parties X G c).up (by decide)) (spI_len fun _ => rfl) (rd__law_faulty (by rfl))
theorem df_machine_of {K : PySem.W.Frag} {h : Heap} {mg : Str → Option Value} (X : K.In h) (G : h.Ns mainGlobals mg) (c : He.SaysD fa fn K) : Def K mg "machine_of" smachine_of := by
  obtain ⟨fd, F⟩ := c.def_ 12 (d := hmachine_of) rfl
  exact ⟨_, fd, He.glo_ok X G (c.fact 27 (f := .glo "machine_of") rfl), F⟩
theorem hs_machine_of {P : Program} {w : World} {K : PySem.W.Frag} {h : Heap} {mg : Str → Option Value} {base : Heap} (X : K.In h) (G : h.Ns mainGlobals mg) (c : He.SaysD fa fn K) : Has P w K mg base CX0 5 "machine_of" ["table", "party"] (spI P w aMch pMch qMch) :=
  ok_machine_of (df_machine_of X G c) (txt X G c) ((hs_erased X G c).up (by decide)) (spI_len fun _ => rfl) (rd_machine_of (by rfl))
theorem df_machines_of {K : PySem.W.Frag} {h : Heap} {mg : Str → Option Value} (X : K.In h) (G : h.Ns mainGlobals mg) (c : He.SaysD fa fn K) : Def K mg "machines_of" smachines_of := by
  obtain ⟨fd, F⟩ := c.def_ 13 (d := hmachines_of) rfl
  exact ⟨_, fd, He.glo_ok X G (c.fact 28 (f := .glo "machines_of") rfl), F⟩
theorem hs_machines_of {P : Program} {w : World} {K : PySem.W.Frag} {h : Heap} {mg : Str → Option Value} {base : Heap} (X : K.In h) (G : h.Ns mainGlobals mg) (c : He.SaysD fa fn K) : Has P w K mg base CX0 6 "machines_of" ["table"] (spI P w aTab AllFew qMs) :=
  ok_machines_of (df_machines_of X G c) (txt X G c) ((hs_machine_of X G c).up (by decide)) ((hs_parties_of X G c).up (by decide)) (spI_len fun _ => rfl) (rd_machines_of (by rfl))
theorem df_joint_states {K : PySem.W.Frag} {h : Heap} {mg : Str → Option Value} (X : K.In h) (G : h.Ns mainGlobals mg) (c : He.SaysD fa fn K) : Def K mg "joint_states" sjoint_states := by
  obtain ⟨fd, F⟩ := c.def_ 15 (d := hjoint_states) rfl
  exact ⟨_, fd, He.glo_ok X G (c.fact 30 (f := .glo "joint_states") rfl), F⟩
theorem hs_joint_states {P : Program} {w : World} {K : PySem.W.Frag} {h : Heap} {mg : Str → Option Value} {base : Heap} (X : K.In h) (G : h.Ns mainGlobals mg) (c : He.SaysD fa fn K) : Has P w K mg base (L2.CX P w) 7 "joint_states" ["table"] (spXI (He.ga K "TooLarge") aTab AllFew (fun T => ¬ Small T) qJnt) :=
  ok_joint_states (df_joint_states X G c) (txt X G c) ((hs_machines_of X G c).up (by decide)) ((hs_next_joint X G c).up (by decide)) (spXI_len fun _ => rfl) (rd_joint_states (by rfl))
theorem df_unready {K : PySem.W.Frag} {h : Heap} {mg : Str → Option Value} (X : K.In h) (G : h.Ns mainGlobals mg) (c : He.SaysD fa fn K) : Def K mg "unready" sunready := by
  obtain ⟨fd, F⟩ := c.def_ 19 (d := hunready) rfl
  exact ⟨_, fd, He.glo_ok X G (c.fact 34 (f := .glo "unready") rfl), F⟩
theorem hs_unready {P : Program} {w : World} {K : PySem.W.Frag} {h : Heap} {mg : Str → Option Value} {base : Heap} (X : K.In h) (G : h.Ns mainGlobals mg) (c : He.SaysD fa fn K) : Has P w K mg base (L2.CX P w) 8 "unready" ["table"] (spXI (He.ga K "TooLarge") aTab AllFew (fun T => ¬ Small T) qUnr) :=
  ok_unready (df_unready X G c) (txt X G c) ((hs_joint_states X G c).up (by decide)) ((hs_machines_of X G c).up (by decide)) ((hs_seen_alike X G c).up (by decide)) ((hs_sends_at X G c).up (by decide)) ((hs_states_by_party X G c).up (by decide)) ((hs_view X G c).up (by decide)) ((hs_walk X G c).up (by decide)) (spXI_len fun _ => rfl) (rd_unready (by rfl))
theorem df__law_told {K : PySem.W.Frag} {h : Heap} {mg : Str → Option Value} (X : K.In h) (G : h.Ns mainGlobals mg) (c : He.SaysD fa fn K) : Def K mg "_law_told" s_law_told := by
  obtain ⟨fd, F⟩ := c.def_ 44 (d := h_law_told) rfl
  exact ⟨_, fd, He.glo_ok X G (c.fact 59 (f := .glo "_law_told") rfl), F⟩
theorem hs__law_told {P : Program} {w : World} {K : PySem.W.Frag} {h : Heap} {mg : Str → Option Value} {base : Heap} (X : K.In h) (G : h.Ns mainGlobals mg) (c : He.SaysD fa fn K) : Has P w K mg base CX0 9 "_law_told" ["_law_table_here"] (spI P w aTab AllFew qTold) :=
  ok__law_told (df__law_told X G c) (txt X G c) ((hs_unready X G c).up (by decide)) (spI_len fun _ => rfl) (rd__law_told (He.exm_ok (c.fact 14 (f := .exm "TooLarge" "TooLarge" true) rfl)) (by rfl))
theorem df_law {K : PySem.W.Frag} {h : Heap} {mg : Str → Option Value} (X : K.In h) (G : h.Ns mainGlobals mg) (c : He.SaysD fa fn K) : Def K mg "law" slaw := by
  obtain ⟨fd, F⟩ := c.def_ 45 (d := hlaw) rfl
  exact ⟨_, fd, He.glo_ok X G (c.fact 60 (f := .glo "law") rfl), F⟩
theorem fn_law {P : Program} {w : World} {K : PySem.W.Frag} {mg : Str → Option Value} {base : Heap} {C : Addr} {s__law_accepted : Sp} {s__law_draw : Sp} {s__law_explored : Sp} {s__law_faulty : Sp} {s__law_holds : Sp} {s__law_names : Sp} {s__law_state : Sp} {s__law_table : Sp} {s__law_told : Sp} {sp : Sp} {f : Addr} {fd : FuncData} (F : FnP K "law" slaw f fd) (T : Txt K mg C) (H__law_accepted : Has P w K mg base CX0 9 "_law_accepted" ["_law_state_here"] s__law_accepted) (H__law_draw : Has P w K mg base CX0 9 "_law_draw" ["_law_state_here", "_law_limit"] s__law_draw) (H__law_explored : Has P w K mg base CX0 9 "_law_explored" ["_law_table_here"] s__law_explored) (H__law_faulty : Has P w K mg base CX0 9 "_law_faulty" ["_law_table_here", "_law_found", "_law_kind"] s__law_faulty) (H__law_holds : Has P w K mg base CX0 9 "_law_holds" ["_law_table_here", "_law_paper"] s__law_holds) (H__law_names : Has P w K mg base CX0 9 "_law_names" ["_law_state_here", "_law_count", "_law_taken"] s__law_names) (H__law_state : Has P w K mg base CX0 9 "_law_state" ["_law_script"] s__law_state) (H__law_table : Has P w K mg base CX0 9 "_law_table" ["_law_state_here", "_law_parties_here", "_law_labels", "_law_size"] s__law_table) (H__law_told : Has P w K mg base CX0 9 "_law_told" ["_law_table_here"] s__law_told)
    (len : ∀ vs H Q E, sp vs H Q E → vs.length = 1) (rd : ∀ vs H Q E, sp vs H Q E → t_law K P w s__law_accepted s__law_draw s__law_explored s__law_faulty s__law_holds s__law_names s__law_state s__law_table s__law_told { nx := fun _ H' => Q .non H', rt := Q } (L2.start ["_law_script", "_law_state_here", "_law_table_here", "_law_told_here", "_law_parties_here", "_law_found", "_law_actual"] vs) H) : FnOk P w K mg base CX0 10 f fd ["_law_script"] sp := by
  refine F.ok sclaw (fun vs H Q E h => len vs H Q E h) (fun cdv A outer s H vs Q E hr h => ⟨t_law K P w s__law_accepted s__law_draw s__law_explored s__law_faulty s__law_holds s__law_names s__law_state s__law_table s__law_told, PSs.nox ?_, rd vs H Q E h⟩)
  have hu := hu100 hr
  have hu64 := hr.units
  have nd := sclaw.nd
  exact (pss_cons
    (ps_set (i := 1) nd rfl (Or.inl rfl) (pe_callH H__law_state hr rfl pass0 (pa_cons (pv 0) pa_nil)))
   (pss_cons
    (ps_if (pt_cmpR (op_eqZ hu64) (pe_callH H__law_draw hr rfl pass0 (pa_cons (pv 1) (pa_cons pe_int pa_nil))) pe_int (nomark _)) (pss_cons
     (ps_set (i := 2) nd rfl (Or.inl rfl) (pe_callH H__law_accepted hr rfl pass0 (pa_cons (pv 1) pa_nil)))
    (pss_cons
     (ps_set (i := 3) nd rfl (Or.inl rfl) (pe_callH H__law_told hr rfl pass0 (pa_cons (pv 2) pa_nil)))
    (pss_one
     (ps_ret (pe_or (pe_cmpR (op_eqZ hu64) (pv 3) (pe_tup (pa_cons pe_str (pa_cons pe_non pa_nil))) (nomark _)) (pe_one (pe_and (pe_cmpR op_isN (pv 3) pe_non (nomark _)) (pe_one (pe_cmpR op_isN (pe_callH H__law_explored hr rfl pass0 (pa_cons (pv 2) pa_nil)) pe_non (nomark _)))))))))) pss_nil)
   (pss_cons
    (ps_set (i := 4) nd rfl (Or.inl rfl) (pe_callH H__law_names hr rfl pass0 (pa_cons (pv 1) (pa_cons (pe_op op_addA pe_int (pe_callH H__law_draw hr rfl pass0 (pa_cons (pv 1) (pa_cons pe_int pa_nil)))) (pa_cons (pe_lst pa_nil) pa_nil)))))
   (pss_cons
    (ps_set (i := 2) nd rfl (Or.inl rfl) (pe_callH H__law_table hr rfl pass0 (pa_cons (pv 1) (pa_cons (pv 4) (pa_cons (pe_callH H__law_names hr rfl pass0 (pa_cons (pv 1) (pa_cons (pe_op op_addA pe_int (pe_callH H__law_draw hr rfl pass0 (pa_cons (pv 1) (pa_cons pe_int pa_nil)))) (pa_cons (pe_lst pa_nil) pa_nil)))) (pa_cons (pe_op op_addA pe_int (pe_callH H__law_draw hr rfl pass0 (pa_cons (pv 1) (pa_cons pe_int pa_nil)))) pa_nil))))))
   (pss_cons
    (ps_set (i := 5) nd rfl (Or.inl rfl) (pe_callH H__law_explored hr rfl pass0 (pa_cons (pv 2) pa_nil)))
   (pss_cons
    (ps_set (i := 3) nd rfl (Or.inl rfl) (pe_callH H__law_told hr rfl pass0 (pa_cons (pv 2) pa_nil)))
   (pss_cons
    (ps_if (pt_cmpR op_isN (pv 5) pe_non (nomark _)) (pss_one
     (ps_ret pe_bl)) pss_nil)
   (pss_cons
    (ps_if (pt_cmpR op_isN (pv 3) pe_non (nomark _)) (pss_one
     (ps_ret pe_bl)) pss_nil)
   (pss_cons
    (ps_set (i := 6) nd rfl (Or.inl rfl) (pe_ix (ix_any hu) (pv 3) pe_int (fun _ _ => rfl)))
   (pss_cons
    (ps_if (pt_val (pe_callH H__law_faulty hr rfl pass0 (pa_cons (pv 2) (pa_cons (pv 5) (pa_cons pe_str pa_nil))))) (pss_one
     (ps_ret (pe_and (pe_callB call_isi (by rfl) T.b_isinstance (by decide +kernel) (pa_cons (pv 6) (pa_cons (pe_bltn (v := .ty "tuple") (by rfl) T.b_tuple (by decide +kernel) rfl) pa_nil))) (pe_and (pe_cmpR (op_eqZ hu64) (pe_ix (ix_any hu) (pv 6) pe_int (fun _ _ => rfl)) pe_str (nomark _)) (pe_one (pe_callH H__law_holds hr rfl pass0 (pa_cons (pv 2) (pa_cons (pv 6) pa_nil)))))))) pss_nil)
   (pss_one
    (ps_ret (pe_cmpR op_isN (pv 6) pe_non (nomark _))))))))))))))

theorem facts {P : Program} {w : World} {K : PySem.W.Frag} {h : Heap} {mg : Str → Option Value} {f : Addr} (X : K.In h) (G : h.Ns mainGlobals mg) (hfa : mg ("law" : Str) = some (.ref f)) (c : He.SaysD fa fn K) :
    ∃ fd : FuncData, (∀ (s : Shared) (v : Value), BindsTo s fd ⟨[v], []⟩ [("_law_script", v)]) ∧ ∀ base : Heap, K.In base → base.Ns mainGlobals mg → FnOk P w K mg base CX0 10 f fd ["_law_script"] (spLaw K) := by
  obtain ⟨fd, F⟩ := c.def_ 45 (d := hlaw) rfl
  have e := hfa.symm.trans (He.glo_ok X G (c.fact 60 (f := .glo "law") rfl))
  cases e
  have b := FunD.bindsA (ps := ["_law_script"]) F fun _ _ _ _ _ _ us hl => match us, hl with | [_], _ => rfl
  exact ⟨fd, fun s v => b s [v] rfl, fun base _ _ => fn_law F (txt X G c) ((hs__law_accepted X G c).up (by decide)) ((hs__law_draw X G c).up (by decide)) ((hs__law_explored X G c).up (by decide)) ((hs__law_faulty X G c).up (by decide)) ((hs__law_holds X G c).up (by decide)) ((hs__law_names X G c).up (by decide)) ((hs__law_state X G c).up (by decide)) ((hs__law_table X G c).up (by decide)) ((hs__law_told X G c).up (by decide)) spLaw_len rd_law⟩
end N
open PySem PySem.W PySem.Calls PyProof.Rows
set_option maxRecDepth 100000
set_option maxHeartbeats 0
theorem PySem.Challenge.cw_pactloom_k22_whole_ready_is_exact_holds : PySem.Challenge.rw_pactloom_k22_whole_ready_is_exact.Holds := by
  w_on; o_law
  refine HandSHeadRun.head_any (r := OpenLaw.row PySem.Challenge.rw_pactloom_k22_whole_ready_is_exact) (q := view (OpenLaw.row PySem.Challenge.rw_pactloom_k22_whole_ready_is_exact).prog [55]) (H := N.hk) (ob := N.ob) (M := 6000) (loose := N.loose1 ++ N.loose2) (d := HandSHeadRun.topDef (OpenLaw.row PySem.Challenge.rw_pactloom_k22_whole_ready_is_exact).prog 55) (kwd := []) N.ob_eq
    (by kernel_rfl) (fun s => by kernel_rfl) N.run (by kernel_rfl) (by kernel_rfl) (by kernel_rfl) (by rfl) (by first | assumption | decide +kernel) (by decide +kernel) ⟨rfl, rfl, rfl, rfl, rfl, by decide +kernel⟩ ?hw ?hc
  case hw => w_witness2
  case hc =>
    refine L2.walk_ofE (l := PySem.Challenge.rw_pactloom_k22_whole_ready_is_exact) (n := 63) (k := 10) (x := "_law_script") (CX := L2.CX0) rfl (by decide) (by kernel_rfl) ⟨rfl, by decide, by decide⟩ ?F (fun _ _ _ _ z => z)
    intro w mg fa h Y G hmg0
    obtain ⟨K, KX, c⟩ := Y
    have hmg : mg ("law" : PySem.Str) = some (.ref fa) := by
      have e : (HandSHeadRun.topDef (OpenLaw.row PySem.Challenge.rw_pactloom_k22_whole_ready_is_exact).prog 55).name = ("law" : PySem.Str) := by kernel_rfl
      rw [← e]
      exact hmg0
    obtain ⟨fd, hb, hF⟩ := N.facts (P := (PySem.Challenge.rw_pactloom_k22_whole_ready_is_exact).prog) (w := w) KX G hmg c
    exact ⟨K, fd, N.spLaw K, KX, hb, fun H a ns hl _ hS => ⟨a, ns, rfl, hS, fun _ => rfl⟩, hF⟩
