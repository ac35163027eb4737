import PyProof.Rows.All
import Wide.All
import OpenK.AllK
import Wide.FinOn
import HandS.ForMost
import HandS.Exc
import HandS.TryOnly
import HandS.ExcOwn
import HandS.WordsExc
import HandS.TupAny
import HandS.Deep
import HandS.Dict
import KE.KDictKeyed
import KE.KDictCopyH
import HandS.IsInst
import HandS.Wide
import PyProof.ReprRoads
import HandS.Walk
import HandS.Rev
import KE.GoesMore
import HandS.Style
import HandS.Conv
import HandS.TupLen
import HandS.DictTup
import HandS.ExcIs
import KE.KDictDisplayH
import HandS.SortRule
import KE.SortCalls
import KE.DataCmp
import HandS.TupLe
import KE.KDictSum
import KE.KDictWalk
import HandS.ExcValue
import HandS.TupMul
import HandS.RaiseMore
import PyProof.CallStr
import HandS.More
import HandS.SetFor
import HandS.SetKeys
import KE.GoesEnum
import HandS.TupSets
import HandS.Text
import HandS.ReplaceLit
import HandS.ReplaceDef
import HandS.ReplaceList
import PyProof.ReprLen
import PySem.Challenge.RW_clicktrain_k71_trains_and_stands_as_text
set_option Elab.async false
set_option linter.all false
set_option maxRecDepth 100000
set_option maxHeartbeats 4000000

namespace CT
open PySem PySem.Spec PyProof.Rows L2
theorem nr {α : Sort _} {a b : α} (h : a = b) : a = b := h
def KxO (cls : Value) (a : Addr) : HO := .ext fun h => ∃ (oe : Obj) (vs : Array Value), h.get? a = some oe ∧ Zc cls none oe ∧ oe.data = .fields vs
def toN (k : List (List Int)) : NestedKey := .tup (k.map fun l => .tup (l.map .num))
abbrev Kas := List (List (List Int) × Addr × V)
def DnP (a : Addr) (kas : Kas) (h : Heap) : Prop := kas.length ≤ sizeLine ∧ (a == sysModules) = false ∧ ∃ (w : World) (xs : List (NestedKey × Addr × Value)), Paired (fun (p : List (List Int) × Addr × V) (q : NestedKey × Addr × Value) => toN p.1 = q.1 ∧ p.2.1 = q.2.1 ∧ RelV p.2.2 q.2.2) kas xs ∧
  ∃ (o : Obj) (es : Array DictEntry) (ep : Nat), h.get? a = some o ∧ o.ExactDict ∧ o.data = .dict es ep ∧ es.toList = xs.map (fun x => (⟨x.1.hash w, .ref x.2.1, x.2.2⟩ : DictEntry)) ∧ (xs.map (·.1)).Nodup
def DnO (a : Addr) (kas : Kas) : HO := .ext (DnP a kas)
abbrev Kls := List (Option Int × V)
def lfOf : Option Int → Leaf
  | none => .none
  | some i => .num i
def lfK : Option Int → List Key
  | none => []
  | some i => [Sum.inl i]
def LfP (a : Addr) (kls : Kls) (h : Heap) : Prop := kls.length ≤ sizeLine ∧ (a == sysModules) = false ∧ ∃ (P : Program) (w : World) (xs : List (Leaf × Value)), Paired (fun (p : Option Int × V) (q : Leaf × Value) => lfOf p.1 = q.1 ∧ RelV p.2 q.2) kls xs ∧ h.DictOf (leafKind P w) a xs
def LfO (a : Addr) (kls : Kls) : HO := .ext (LfP a kls)
def NoL : HO → Prop
  | .lst _ => False
  | .dT _ => False
  | .dK _ => False
  | .ext φ => ∃ c a, HO.ext φ = KxO c a
  | _ => True
def NK (H : Hp) (k : List (List Int)) (b : Addr) : Prop := ∃ as : List Addr, H b = some (.tup (as.map V.ref)) ∧ Paired (fun (l : List Int) (a : Addr) => H a = some (.tup (l.map V.int))) k as
theorem NK.keep {H H' : Hp} (t : ∀ b xs, H b = some (.tup xs) → H' b = some (.tup xs)) {k : List (List Int)} {b : Addr} (h : NK H k b) : NK H' k b := by
  obtain ⟨as, h1, h2⟩ := h
  exact ⟨as, t _ _ h1, Paired.mapP h2 fun _ _ z => t _ _ z⟩
def encN (k : List (List Int)) : List Int := k.flatMap fun l => (l.length : Int) :: l
inductive R (α : Type) where
  | ok (a : α) | exc (c : String) | stuck
def R.bind {α β : Type} (r : R α) (k : α → R β) : R β := match r with
  | .ok a => k a
  | .exc c => .exc c
  | .stuck => .stuck
def R.map {α β : Type} (g : α → β) (r : R α) : R β := r.bind fun a => .ok (g a)
@[simp] theorem R.bind_ok {α β : Type} (a : α) (k : α → R β) : (R.ok a).bind k = k a := nr rfl
@[simp] theorem R.bind_exc {α β : Type} (c : String) (k : α → R β) : (R.exc c).bind k = .exc c := nr rfl
@[simp] theorem R.bind_stuck {α β : Type} (k : α → R β) : R.stuck.bind k = .stuck := nr rfl
@[simp] theorem R.map_ok {α β : Type} (g : α → β) (a : α) : R.map g (R.ok a) = .ok (g a) := nr rfl
structure DT where
  o : Option Nat
  l : Bool
  n : Bool
inductive D where
  | non | bl (b : Bool) | int (i : Int) | str (x : Str)
  | tup (xs : List D) | lst (t : Bool) (xs : List D) | fr (xs : List D)
  | unk | ex (c : String) | fn (x : String) | dic (ks : List (List Int)) (ds : List D) | dct (q : DT) (ks : List (List Int)) (vs : List D)
instance : Inhabited D := ⟨.non⟩
mutual
def hasT : D → Bool
  | .tup xs => hasTL xs
  | .lst t xs => t || hasTL xs
  | .fr xs => hasTL xs
  | .dic _ xs => hasTL xs
  | .non => false
  | .bl _ => false
  | .int _ => false
  | .str _ => false
  | .unk => false
  | .ex _ => false
  | .fn _ => false
  | .dct _ _ _ => true
def hasTL : List D → Bool
  | [] => false
  | x :: xs => hasT x || hasTL xs
end
mutual
def still : D → D
  | .tup xs => .tup (stillL xs)
  | .lst _ xs => .lst false (stillL xs)
  | .fr xs => .fr (stillL xs)
  | .dic ks xs => .dic ks (stillL xs)
  | .non => .non
  | .bl b => .bl b
  | .int i => .int i
  | .str x => .str x
  | .unk => .unk
  | .ex c => .ex c
  | .fn x => .fn x
  | .dct _ _ _ => .unk
def stillL : List D → List D
  | [] => []
  | x :: xs => still x :: stillL xs
end
mutual
def isFlat : D → Bool
  | .tup xs => isFlatL xs
  | .lst _ _ => false
  | .fr _ => false
  | .dic _ _ => false
  | .non => true
  | .bl _ => true
  | .int _ => true
  | .str _ => true
  | .unk => false
  | .ex _ => true
  | .fn _ => true
  | .dct _ _ _ => false
def isFlatL : List D → Bool
  | [] => true
  | x :: xs => isFlat x && isFlatL xs
end
def farPy : PyData := (List.replicate 70 ()).foldr (fun _ d => .list [d]) .none
mutual
def py : D → PyData
  | .tup xs => .tuple (pyL xs)
  | .lst _ xs => .list (pyL xs)
  | .fr xs => .list (pyL xs)
  | .dic _ _ => farPy
  | .non => .none
  | .bl b => .bool b
  | .int i => .int i
  | .str x => .str x
  | .unk => farPy
  | .ex _ => farPy
  | .fn _ => farPy
  | .dct _ _ _ => farPy
def pyL : List D → List PyData
  | [] => []
  | x :: xs => py x :: pyL xs
end
mutual
theorem hasT_still : ∀ d, hasT (still d) = false
  | .tup xs => by simp only [still, hasT]; exact hasTL_still xs
  | .lst _ xs => by simp only [still, hasT, Bool.false_or]; exact hasTL_still xs
  | .fr xs => by simp only [still, hasT]; exact hasTL_still xs
  | .dic _ xs => by simp only [still, hasT]; exact hasTL_still xs
  | .non => rfl
  | .bl _ => rfl
  | .int _ => rfl
  | .str _ => rfl
  | .unk => rfl
  | .ex _ => rfl
  | .fn _ => rfl
  | .dct _ _ _ => rfl
theorem hasTL_still : ∀ ds, hasTL (stillL ds) = false
  | [] => rfl
  | x :: xs => by simp only [stillL, hasTL, hasT_still x, hasTL_still xs, Bool.or_self]
end
mutual
theorem still_of : ∀ d, hasT d = false → still d = d
  | .tup xs, h => by simp only [hasT] at h; simp only [still, stillL_of xs h]
  | .fr xs, h => by simp only [hasT] at h; simp only [still, stillL_of xs h]
  | .dic _ xs, h => by simp only [hasT] at h; simp only [still, stillL_of xs h]
  | .lst t xs, h => by
    simp only [hasT, Bool.or_eq_false_iff] at h
    simp only [still, stillL_of xs h.2, h.1]
  | .non, _ => rfl
  | .bl _, _ => rfl
  | .int _, _ => rfl
  | .str _, _ => rfl
  | .unk, _ => rfl
  | .ex _, _ => rfl
  | .fn _, _ => rfl
  | .dct _ _ _, h => by simp [hasT] at h
theorem stillL_of : ∀ ds, hasTL ds = false → stillL ds = ds
  | [], _ => rfl
  | x :: xs, h => by
    simp only [hasTL, Bool.or_eq_false_iff] at h
    simp only [stillL, still_of x h.1, stillL_of xs h.2]
end
mutual
theorem flat_noT : ∀ d, isFlat d = true → hasT d = false
  | .tup xs, h => by simp only [isFlat] at h; simp only [hasT]; exact flatL_noT xs h
  | .lst _ _, h => by simp [isFlat] at h
  | .fr _, h => by simp [isFlat] at h
  | .dic _ _, h => by simp [isFlat] at h
  | .non, _ => rfl
  | .bl _, _ => rfl
  | .int _, _ => rfl
  | .str _, _ => rfl
  | .unk, h => by simp [isFlat] at h
  | .ex _, _ => rfl
  | .fn _, _ => rfl
  | .dct _ _ _, h => by simp [isFlat] at h
theorem flatL_noT : ∀ ds, isFlatL ds = true → hasTL ds = false
  | [], _ => rfl
  | x :: xs, h => by
    simp only [isFlatL, Bool.and_eq_true] at h
    simp only [hasTL, flat_noT x h.1, flatL_noT xs h.2, Bool.or_self]
end
theorem hasTL_append : ∀ xs ys : List D, hasTL (xs ++ ys) = (hasTL xs || hasTL ys)
  | [], ys => by simp [hasTL]
  | x :: xs, ys => by simp [hasTL, hasTL_append xs ys, Bool.or_assoc]
theorem hasTL_get : ∀ {xs : List D} {i : Nat} {d : D}, hasTL xs = false → xs[i]? = some d → hasT d = false
  | [], _, _, _, e => by simp at e
  | x :: xs, 0, d, h, e => by
    simp only [hasTL, Bool.or_eq_false_iff] at h
    simp at e; subst e; exact h.1
  | x :: xs, i + 1, d, h, e => by
    simp only [hasTL, Bool.or_eq_false_iff] at h
    exact hasTL_get (i := i) h.2 (by simpa using e)
theorem hasTL_set {d : D} (hd : hasT d = false) : ∀ {xs : List D} (i : Nat), hasTL xs = false → hasTL (xs.set i d) = false
  | [], _, _ => rfl
  | x :: xs, 0, h => by
    simp only [hasTL, Bool.or_eq_false_iff] at h
    simp only [List.set, hasTL, hd, h.2, Bool.or_self]
  | x :: xs, i + 1, h => by
    simp only [hasTL, Bool.or_eq_false_iff] at h
    simp only [List.set, hasTL, h.1, hasTL_set hd i h.2, Bool.or_self]
theorem stillL_length : ∀ ds, (stillL ds).length = ds.length
  | [] => rfl
  | x :: xs => by simp only [stillL, List.length_cons, stillL_length xs]
structure Grow (F H F' H' : Hp) : Prop where
  same : Same H H'
  sub : Same F F'
  subH : Same F' H'
  new : ∀ a o, F' a = some o → F a = some o ∨ H a = none
theorem Grow.refl {F H : Hp} (s : Same F H) : Grow F H F H := ⟨Same.refl _, Same.refl _, s, fun _ _ e => .inl e⟩
theorem Grow.trans {F H F1 H1 F2 H2 : Hp} (g : Grow F H F1 H1) (k : Grow F1 H1 F2 H2) : Grow F H F2 H2 :=
  ⟨g.same.trans k.same, g.sub.trans k.sub, k.subH, fun a o e => by
    rcases k.new a o e with z | z
    · exact g.new a o z
    · exact .inr (g.same.free z)⟩
theorem same_upd {H : Hp} {p : Addr} {o : HO} (h : H p = none) : Same H (upd H p o) := fun b x e => by
  rw [upd_ne (ne_of_none e h)]
  exact e
theorem Grow.still {F H : Hp} {p : Addr} {o : HO} (s : Same F H) (h : H p = none) : Grow F H (upd F p o) (upd H p o) :=
  ⟨same_upd h, same_upd (s.free h), fun b x e => by
    by_cases hb : b = p
    · subst hb; rw [upd_same] at e ⊢; exact e
    · rw [upd_ne hb] at e ⊢; exact s _ _ e, fun b x e => by
    by_cases hb : b = p
    · subst hb; exact .inr h
    · rw [upd_ne hb] at e; exact .inl e⟩
theorem Grow.loose {F H : Hp} {p : Addr} {o : HO} (s : Same F H) (h : H p = none) : Grow F H F (upd H p o) :=
  ⟨same_upd h, Same.refl _, s.trans (same_upd h), fun b x e => .inl e⟩
def exK (K : PySem.W.Frag) (c : String) : Value := match PySem.W.nsIn K mainGlobals (Str.ofString c) with
  | some (some v) => v
  | _ => .none
mutual
inductive Rp (K : PySem.W.Frag) (F H0 H : Hp) : D → V → Prop
  | non : Rp K F H0 H .non .non
  | bl (b : Bool) : Rp K F H0 H (.bl b) (.bl b)
  | int (i : Int) : Rp K F H0 H (.int i) (.int i)
  | str (x : Str) : Rp K F H0 H (.str x) (.str x)
  | tup {a : Addr} {xs : List V} {ds : List D} : H a = some (.tup xs) → RpL K F H0 H ds xs → Rp K F H0 H (.tup ds) (.ref a)
  | fr {a : Addr} {xs : List V} {ds : List D} : SqL K F a xs → RpL K F H0 H ds xs → Rp K F H0 H (.fr ds) (.ref a)
  | dic {a : Addr} {kvs : List (List Key × V)} {ks : List (List Int)} {ds : List D} : F a = some (.dT kvs) → kvs.map (·.1) = ks.map (·.map Sum.inl) → RpL K F H0 H ds (kvs.map (·.2)) → Rp K F H0 H (.dic ks ds) (.ref a)
  | lst {a : Addr} {xs : List V} {ds : List D} : F a = some (.lst xs) → RpL K F H0 H ds xs → Rp K F H0 H (.lst false ds) (.ref a)
  | tmF {a : Addr} {xs : List V} {ds : List D} : F a = some (.lst xs) → RpL K F H0 H ds xs → Rp K F H0 H (.lst true ds) (.ref a)
  | tmN {a : Addr} {xs : List V} {ds : List D} : H0 a = none → H a = some (.lst xs) → RpL K F H0 H ds xs → Rp K F H0 H (.lst true ds) (.ref a)
  | unk {a : Addr} : Rp K F H0 H .unk (.ref a)
  | ex {a : Addr} {c : String} : H a = some (KxO (exK K c) a) → Rp K F H0 H (.ex c) (.ref a)
  | fn {a : Addr} {x : String} : exK K x = .ref a → Rp K F H0 H (.fn x) (.ref a)
  | dct {a : Addr} {q : DT} {ks : List (List Int)} {vs : List D} : Rp K F H0 H (.dct q ks vs) (.ref a)
inductive RpL (K : PySem.W.Frag) (F H0 H : Hp) : List D → List V → Prop
  | nil : RpL K F H0 H [] []
  | cons {d : D} {ds : List D} {v : V} {vs : List V} : Rp K F H0 H d v → RpL K F H0 H ds vs → RpL K F H0 H (d :: ds) (v :: vs)
end
section
variable {K : PySem.W.Frag} {F F' H0 H H' : Hp}
mutual
theorem Rp.mono (s : Same F F') (t : Same H H') : ∀ (d : D) (v : V), Rp K F H0 H d v → Rp K F' H0 H' d v
  | .non, _, h => by cases h; exact .non
  | .bl _, _, h => by cases h; exact .bl _
  | .int _, _, h => by cases h; exact .int _
  | .str _, _, h => by cases h; exact .str _
  | .unk, _, h => by cases h; exact .unk
  | .ex _, _, h => by
    cases h with
    | ex a => exact .ex (t _ _ a)
  | .fn _, _, h => by
    cases h with
    | fn a => exact .fn a
  | .dct _ _ _, _, h => by cases h; exact .dct
  | .tup ds, _, h => by
    cases h with
    | tup a b => exact .tup (t _ _ a) (RpL.mono s t ds _ b)
  | .fr ds, _, h => by
    cases h with
    | fr a b => exact .fr (s.seq a) (RpL.mono s t ds _ b)
  | .dic ks ds, _, h => by
    cases h with
    | dic a b c => exact .dic (s _ _ a) b (RpL.mono s t ds _ c)
  | .lst true ds, _, h => by
    cases h with
    | tmF a b => exact .tmF (s _ _ a) (RpL.mono s t ds _ b)
    | tmN a b c => exact .tmN a (t _ _ b) (RpL.mono s t ds _ c)
  | .lst false ds, _, h => by
    cases h with
    | lst a b => exact .lst (s _ _ a) (RpL.mono s t ds _ b)
theorem RpL.mono (s : Same F F') (t : Same H H') : ∀ (ds : List D) (vs : List V), RpL K F H0 H ds vs → RpL K F' H0 H' ds vs
  | [], _, h => by cases h; exact .nil
  | d :: ds, _, h => by
    cases h with
    | cons a b => exact .cons (Rp.mono s t d _ a) (RpL.mono s t ds _ b)
end
theorem Rp.grow {F1 H1 : Hp} {d : D} {v : V} (g : Grow F H F1 H1) (r : Rp K F H0 H d v) : Rp K F1 H0 H1 d v := r.mono g.sub g.same
theorem RpL.grow {F1 H1 : Hp} {ds : List D} {vs : List V} (g : Grow F H F1 H1) (r : RpL K F H0 H ds vs) : RpL K F1 H0 H1 ds vs := r.mono g.sub g.same
theorem RpL.length : ∀ {ds : List D} {vs : List V}, RpL K F H0 H ds vs → ds.length = vs.length
  | _, _, .nil => rfl
  | _, _, .cons _ t => by simp [RpL.length t]
theorem RpL.get : ∀ {ds : List D} {vs : List V} {i : Nat} {d : D}, RpL K F H0 H ds vs → ds[i]? = some d → ∃ v, vs[i]? = some v ∧ Rp K F H0 H d v
  | _, _, _, _, .nil, e => by simp at e
  | _, _, 0, _, .cons r _, e => by simp at e; subst e; exact ⟨_, rfl, r⟩
  | _, _, i + 1, d, .cons _ t, e => by
    obtain ⟨u, h1, h2⟩ := RpL.get (i := i) (d := d) t (by simpa using e)
    exact ⟨u, by simpa using h1, h2⟩
theorem RpL.app : ∀ {ds es : List D} {vs us : List V}, RpL K F H0 H ds vs → RpL K F H0 H es us → RpL K F H0 H (ds ++ es) (vs ++ us)
  | _, _, _, _, .nil, s => s
  | _, _, _, _, .cons r t, s => .cons r (RpL.app t s)
theorem RpL.take : ∀ {ds : List D} {vs : List V} (n : Nat), RpL K F H0 H ds vs → RpL K F H0 H (ds.take n) (vs.take n)
  | _, _, 0, _ => .nil
  | _, _, _ + 1, .nil => .nil
  | _, _, n + 1, .cons r t => .cons r (RpL.take n t)
theorem RpL.drop : ∀ {ds : List D} {vs : List V} (n : Nat), RpL K F H0 H ds vs → RpL K F H0 H (ds.drop n) (vs.drop n)
  | _, _, 0, r => r
  | _, _, _ + 1, .nil => .nil
  | _, _, n + 1, .cons _ t => RpL.drop n t
theorem RpL.set {d : D} {v : V} (r : Rp K F H0 H d v) : ∀ {ds : List D} {vs : List V} (i : Nat), RpL K F H0 H ds vs → RpL K F H0 H (ds.set i d) (vs.set i v)
  | _, _, _, .nil => .nil
  | _, _, 0, .cons _ t => .cons r t
  | _, _, i + 1, .cons q t => .cons q (RpL.set r i t)
mutual
theorem Rp.keep (t : ∀ b o, H b = some o → NoL o → H' b = some o) : ∀ (d : D) (v : V), hasT d = false → Rp K F H0 H d v → Rp K F H0 H' d v
  | .non, _, _, h => by cases h; exact .non
  | .bl _, _, _, h => by cases h; exact .bl _
  | .int _, _, _, h => by cases h; exact .int _
  | .str _, _, _, h => by cases h; exact .str _
  | .unk, _, _, h => by cases h; exact .unk
  | .ex _, _, _, h => by
    cases h with
    | ex a => exact .ex (t _ _ a ⟨_, _, rfl⟩)
  | .fn _, _, _, h => by
    cases h with
    | fn a => exact .fn a
  | .dct _ _ _, _, _, h => by cases h; exact .dct
  | .tup ds, _, n, h => by
    cases h with
    | tup a b => exact .tup (t _ _ a trivial) (RpL.keep t ds _ n b)
  | .lst true ds, _, n, _ => by simp [hasT] at n
  | .lst false ds, _, n, h => by
    simp only [hasT, Bool.false_or] at n
    cases h with
    | lst a b => exact .lst a (RpL.keep t ds _ n b)
  | .fr ds, _, n, h => by
    simp only [hasT] at n
    cases h with
    | fr a b => exact .fr a (RpL.keep t ds _ n b)
  | .dic ks ds, _, n, h => by
    simp only [hasT] at n
    cases h with
    | dic a b c => exact .dic a b (RpL.keep t ds _ n c)
theorem RpL.keep (t : ∀ b o, H b = some o → NoL o → H' b = some o) : ∀ (ds : List D) (vs : List V), hasTL ds = false → RpL K F H0 H ds vs → RpL K F H0 H' ds vs
  | [], _, _, h => by cases h; exact .nil
  | d :: ds, _, n, h => by
    simp only [hasTL, Bool.or_eq_false_iff] at n
    cases h with
    | cons a b => exact .cons (Rp.keep t d _ n.1 a) (RpL.keep t ds _ n.2 b)
end
mutual
theorem Rp.base {H1 : Hp} : ∀ (d : D) (v : V), hasT d = false → Rp K F H0 H d v → Rp K F H1 H d v
  | .non, _, _, h => by cases h; exact .non
  | .bl _, _, _, h => by cases h; exact .bl _
  | .int _, _, _, h => by cases h; exact .int _
  | .str _, _, _, h => by cases h; exact .str _
  | .unk, _, _, h => by cases h; exact .unk
  | .ex _, _, _, h => by
    cases h with
    | ex a => exact .ex a
  | .fn _, _, _, h => by
    cases h with
    | fn a => exact .fn a
  | .dct _ _ _, _, _, h => by cases h; exact .dct
  | .tup ds, _, n, h => by
    cases h with
    | tup a b => exact .tup a (RpL.base ds _ n b)
  | .lst true ds, _, n, _ => by simp [hasT] at n
  | .lst false ds, _, n, h => by
    simp only [hasT, Bool.false_or] at n
    cases h with
    | lst a b => exact .lst a (RpL.base ds _ n b)
  | .fr ds, _, n, h => by
    simp only [hasT] at n
    cases h with
    | fr a b => exact .fr a (RpL.base ds _ n b)
  | .dic ks ds, _, n, h => by
    simp only [hasT] at n
    cases h with
    | dic a b c => exact .dic a b (RpL.base ds _ n c)
theorem RpL.base {H1 : Hp} : ∀ (ds : List D) (vs : List V), hasTL ds = false → RpL K F H0 H ds vs → RpL K F H1 H ds vs
  | [], _, _, h => by cases h; exact .nil
  | d :: ds, _, n, h => by
    simp only [hasTL, Bool.or_eq_false_iff] at n
    cases h with
    | cons a b => exact .cons (Rp.base d _ n.1 a) (RpL.base ds _ n.2 b)
end
def vis (F H0 H : Hp) : Hp := fun a => if (H0 a).isNone then H a else F a
theorem vis_old {a : Addr} {o : HO} (h : H0 a = some o) : vis F H0 H a = F a := by unfold vis; rw [h]; rfl
theorem vis_new {a : Addr} (h : H0 a = none) : vis F H0 H a = H a := by unfold vis; rw [h]; rfl
theorem vis_sub (s : Same F H) : Same F (vis F H0 H) := fun a o e => by
  cases h : H0 a with
  | none => rw [vis_new h]; exact s _ _ e
  | some z => rw [vis_old h]; exact e
theorem vis_subH (s : Same F H) : Same (vis F H0 H) H := fun a o e => by
  cases h : H0 a with
  | none => rw [vis_new h] at e; exact e
  | some z => rw [vis_old h] at e; exact s _ _ e
mutual
theorem Rp.vis (s : Same F H) {H1 : Hp} : ∀ (d : D) (v : V), Rp K F H0 H d v → Rp K (vis F H0 H) H1 H (CT.still d) v
  | .non, _, h => by cases h; exact .non
  | .bl _, _, h => by cases h; exact .bl _
  | .int _, _, h => by cases h; exact .int _
  | .str _, _, h => by cases h; exact .str _
  | .unk, _, h => by cases h; exact .unk
  | .ex _, _, h => by
    cases h with
    | ex a => exact .ex a
  | .fn _, _, h => by
    cases h with
    | fn a => exact .fn a
  | .dct _ _ _, _, h => by cases h; exact .unk
  | .tup ds, _, h => by
    cases h with
    | tup a b => exact .tup a (RpL.vis s ds _ b)
  | .lst true ds, _, h => by
    cases h with
    | tmF a b => exact .lst (vis_sub s _ _ a) (RpL.vis s ds _ b)
    | tmN a b c => exact .lst (by rw [vis_new a]; exact b) (RpL.vis s ds _ c)
  | .lst false ds, _, h => by
    cases h with
    | lst a b => exact .lst (vis_sub s _ _ a) (RpL.vis s ds _ b)
  | .fr ds, _, h => by
    cases h with
    | fr a b => exact .fr ((vis_sub s).seq a) (RpL.vis s ds _ b)
  | .dic ks ds, _, h => by
    cases h with
    | dic a b c => exact .dic (vis_sub s _ _ a) b (RpL.vis s ds _ c)
theorem RpL.vis (s : Same F H) {H1 : Hp} : ∀ (ds : List D) (vs : List V), RpL K F H0 H ds vs → RpL K (vis F H0 H) H1 H (stillL ds) vs
  | [], _, h => by cases h; exact .nil
  | d :: ds, _, h => by
    cases h with
    | cons a b => exact .cons (Rp.vis s d _ a) (RpL.vis s ds _ b)
end
mutual
theorem Rp.flat {F1 H1 H' : Hp} (t : ∀ a xs, H a = some (.tup xs) → H' a = some (.tup xs)) (tx : ∀ a cls, H a = some (KxO cls a) → H' a = some (KxO cls a)) : ∀ (d : D) (v : V), isFlat d = true → Rp K F H0 H d v → Rp K F1 H1 H' d v
  | .non, _, _, h => by cases h; exact .non
  | .bl _, _, _, h => by cases h; exact .bl _
  | .int _, _, _, h => by cases h; exact .int _
  | .str _, _, _, h => by cases h; exact .str _
  | .unk, _, n, _ => by simp [isFlat] at n
  | .ex _, _, _, h => by
    cases h with
    | ex a => exact .ex (tx _ _ a)
  | .fn _, _, _, h => by
    cases h with
    | fn a => exact .fn a
  | .dct _ _ _, _, n, _ => by simp [isFlat] at n
  | .tup ds, _, n, h => by
    cases h with
    | tup a b => exact .tup (t _ _ a) (RpL.flat t tx ds _ n b)
  | .lst _ ds, _, n, _ => by simp [isFlat] at n
  | .fr ds, _, n, _ => by simp [isFlat] at n
  | .dic _ _, _, n, _ => by simp [isFlat] at n
theorem RpL.flat {F1 H1 H' : Hp} (t : ∀ a xs, H a = some (.tup xs) → H' a = some (.tup xs)) (tx : ∀ a cls, H a = some (KxO cls a) → H' a = some (KxO cls a)) : ∀ (ds : List D) (vs : List V), isFlatL ds = true → RpL K F H0 H ds vs → RpL K F1 H1 H' ds vs
  | [], _, _, h => by cases h; exact .nil
  | d :: ds, _, n, h => by
    simp only [isFlatL, Bool.and_eq_true] at n
    cases h with
    | cons a b => exact .cons (Rp.flat t tx d _ n.1 a) (RpL.flat t tx ds _ n.2 b)
end
mutual
def okP : D → Bool
  | .tup xs => okPL xs
  | .lst _ xs => okPL xs
  | .fr xs => okPL xs
  | .dic _ _ => false
  | .non => true
  | .bl _ => true
  | .int _ => true
  | .str _ => true
  | .unk => false
  | .ex _ => false
  | .fn _ => false
  | .dct _ _ _ => false
def okPL : List D → Bool
  | [] => true
  | x :: xs => okP x && okPL xs
end
theorem far_depth : ¬ PyData.depth farPy ≤ 69 := by decide +kernel
mutual
theorem okP_of : ∀ d, PyData.depth (py d) ≤ 69 → okP d = true
  | .tup xs, h => by simp only [py, PyData.depth] at h; exact okPL_of xs (by omega)
  | .lst _ xs, h => by simp only [py, PyData.depth] at h; exact okPL_of xs (by omega)
  | .fr xs, h => by simp only [py, PyData.depth] at h; exact okPL_of xs (by omega)
  | .dic _ _, h => absurd h far_depth
  | .non, _ => rfl
  | .bl _, _ => rfl
  | .int _, _ => rfl
  | .str _, _ => rfl
  | .unk, h => absurd h far_depth
  | .ex _, h => absurd h far_depth
  | .fn _, h => absurd h far_depth
  | .dct _ _ _, h => absurd h far_depth
theorem okPL_of : ∀ ds, PyData.depthAll (pyL ds) ≤ 69 → okPL ds = true
  | [], _ => rfl
  | x :: xs, h => by
    simp only [pyL, PyData.depthAll] at h
    simp only [okPL, Bool.and_eq_true]
    exact ⟨okP_of x (by omega), okPL_of xs (by omega)⟩
end
theorem okP_sh {d : D} (h : SeqAt.shaped (py d) = true) : okP d = true := okP_of d (Nat.le_trans (SeqAt.depth_of_shaped h) (by decide))
theorem okPL_sh {ds : List D} (h : SeqAt.shaped (.list (pyL ds)) = true) : okPL ds = true := okP_sh (d := .fr ds) h
mutual
theorem Rp.dp (s : Same F H) : ∀ (d : D) (v : V), okP d = true → Rp K F H0 H d v → Dp K H v (py d)
  | .non, _, n, h => by cases h; exact .non
  | .bl _, _, n, h => by cases h; exact .bl _
  | .int _, _, n, h => by cases h; exact .int _
  | .str _, _, n, h => by cases h; exact .str _
  | .unk, _, n, _ => by simp [okP] at n
  | .ex _, _, n, _ => by simp [okP] at n
  | .fn _, _, n, _ => by simp [okP] at n
  | .dic _ _, _, n, _ => by simp [okP] at n
  | .dct _ _ _, _, n, _ => by simp [okP] at n
  | .tup ds, _, n, h => by
    cases h with
    | tup a b => exact .tup (.inl (.inl a)) (RpL.dp s ds _ (by simpa only [okP] using n) b)
  | .lst true ds, _, n, h => by
    cases h with
    | tmF a b => exact .lst (.inl (.inl (s _ _ a))) (RpL.dp s ds _ (by simpa only [okP] using n) b)
    | tmN a b c => exact .lst (.inl (.inl b)) (RpL.dp s ds _ (by simpa only [okP] using n) c)
  | .lst false ds, _, n, h => by
    cases h with
    | lst a b => exact .lst (.inl (.inl (s _ _ a))) (RpL.dp s ds _ (by simpa only [okP] using n) b)
  | .fr ds, _, n, h => by
    cases h with
    | fr a b => exact .lst (s.seq a) (RpL.dp s ds _ (by simpa only [okP] using n) b)
theorem RpL.dp (s : Same F H) : ∀ (ds : List D) (vs : List V), okPL ds = true → RpL K F H0 H ds vs → DpAll K H vs (pyL ds)
  | [], _, _, h => by cases h; exact .nil
  | d :: ds, _, n, h => by
    cases h with
    | cons a b =>
      simp only [okPL, Bool.and_eq_true] at n
      exact .cons (Rp.dp s d _ n.1 a) (RpL.dp s ds _ n.2 b)
end
theorem Rp.list {t : Bool} {ds : List D} {v : V} (s : Same F H) (h : Rp K F H0 H (.lst t ds) v) : ∃ a xs, v = .ref a ∧ H a = some (.lst xs) ∧ RpL K F H0 H ds xs := by
  cases h with
  | lst a b => exact ⟨_, _, rfl, s _ _ a, b⟩
  | tmF a b => exact ⟨_, _, rfl, s _ _ a, b⟩
  | tmN a b c => exact ⟨_, _, rfl, b, c⟩
theorem Rp.frl {ds : List D} {v : V} (s : Same F H) (h : Rp K F H0 H (.fr ds) v) : ∃ a xs, v = .ref a ∧ SqL K H a xs ∧ RpL K F H0 H ds xs := by
  cases h with
  | fr a b => exact ⟨_, _, rfl, s.seq a, b⟩
theorem Rp.tuple {ds : List D} {v : V} (h : Rp K F H0 H (.tup ds) v) : ∃ a xs, v = .ref a ∧ SqT K H a xs ∧ RpL K F H0 H ds xs := by
  cases h with
  | tup a b => exact ⟨_, _, rfl, .inl (.inl a), b⟩
theorem Rp.tuple' {ds : List D} {v : V} (h : Rp K F H0 H (.tup ds) v) : ∃ a xs, v = .ref a ∧ H a = some (.tup xs) ∧ RpL K F H0 H ds xs := by
  cases h with
  | tup a b => exact ⟨_, _, rfl, a, b⟩
end
end CT

namespace CT
open PySem PySem.Spec PyProof.Rows L2
abbrev Sl := List (Option D)
structure Bs where
  ex : String → Value
  F0 : Hp
  H0 : Hp
inductive Own (H : Hp) : D → V → Addr → Prop
  | lst {ds : List D} {a : Addr} : Own H (.lst true ds) (.ref a) a
  | inL {ds : List D} {a : Addr} {xs : List V} {k : Nat} {d : D} {v : V} {c : Addr} : H a = some (.lst xs) → ds[k]? = some d → xs[k]? = some v → Own H d v c → Own H (.lst true ds) (.ref a) c
  | inF {ds : List D} {a : Addr} {xs : List V} {k : Nat} {d : D} {v : V} {c : Addr} : H a = some (.lst xs) → ds[k]? = some d → xs[k]? = some v → Own H d v c → Own H (.lst false ds) (.ref a) c
  | inT {ds : List D} {a : Addr} {xs : List V} {k : Nat} {d : D} {v : V} {c : Addr} : H a = some (.tup xs) → ds[k]? = some d → xs[k]? = some v → Own H d v c → Own H (.tup ds) (.ref a) c
def Owns (H : Hp) (d : D) (v : V) (a : Addr) : Prop := (∃ ds, d = .lst true ds ∧ v = .ref a) ∨ (∃ q ks ds, d = .dct q ks ds ∧ v = .ref a) ∨ Own H d v a
def nest : D → Bool
  | .lst _ ds => hasTL ds
  | .tup ds => hasTL ds
  | _ => false
theorem one_nodup (a : Addr) : [a].Nodup := by simp
mutual
inductive Ow (K : PySem.W.Frag) (F H0 H : Hp) : D → V → List Addr → Prop
  | st {d : D} {v : V} : hasT d = false → Rp K F H0 H d v → Ow K F H0 H d v []
  | lst {a : Addr} {xs : List V} {ds : List D} {as : List Addr} : H a = some (.lst xs) → F a = none → H0 a = none → OwL K F H0 H ds xs as → Ow K F H0 H (.lst true ds) (.ref a) (a :: as)
  | fl {a : Addr} {xs : List V} {ds : List D} {as : List Addr} : F a = some (.lst xs) → H a = some (.lst xs) → OwL K F H0 H ds xs as → Ow K F H0 H (.lst false ds) (.ref a) as
  | tup {a : Addr} {xs : List V} {ds : List D} {as : List Addr} : H a = some (.tup xs) → OwL K F H0 H ds xs as → Ow K F H0 H (.tup ds) (.ref a) as
inductive OwL (K : PySem.W.Frag) (F H0 H : Hp) : List D → List V → List Addr → Prop
  | nil : OwL K F H0 H [] [] []
  | cons {d : D} {ds : List D} {v : V} {vs : List V} {as bs : List Addr} : Ow K F H0 H d v as → OwL K F H0 H ds vs bs → OwL K F H0 H (d :: ds) (v :: vs) (as ++ bs)
end
section
variable {K : PySem.W.Frag} {F H F1 H1 H0 H0' : Hp}
theorem Own.of {d : D} {v : V} {a : Addr} (o : Own H d v a) : hasT d = true := by
  induction o with
  | lst => simp [hasT]
  | inL => simp [hasT]
  | inF _ e _ _ ih =>
    cases q : hasTL _ with
    | true => simp only [hasT, Bool.false_or]; exact q
    | false => rw [hasTL_get q e] at ih; cases ih
  | inT _ e _ _ ih =>
    cases q : hasTL _ with
    | true => simp only [hasT]; exact q
    | false => rw [hasTL_get q e] at ih; cases ih
theorem OwL.st : ∀ {ds : List D} {vs : List V}, hasTL ds = false → RpL K F H0 H ds vs → OwL K F H0 H ds vs []
  | _, _, _, .nil => .nil
  | _, _, n, .cons a b => by
    simp only [hasTL, Bool.or_eq_false_iff] at n
    exact .cons (.st n.1 a) (OwL.st n.2 b)
mutual
theorem Ow.rp : ∀ (d : D) (v : V) (as : List Addr), Ow K F H0 H d v as → Rp K F H0 H d v
  | .lst t ds, _, _, h => by
    cases h with
    | st _ r => exact r
    | lst a _ c w => exact .tmN c a (OwL.rp ds _ _ w)
    | fl a _ w => exact .lst a (OwL.rp ds _ _ w)
  | .tup ds, _, _, h => by
    cases h with
    | st _ r => exact r
    | tup a w => exact .tup a (OwL.rp ds _ _ w)
  | .non, _, _, h => by cases h with | st _ r => exact r
  | .bl _, _, _, h => by cases h with | st _ r => exact r
  | .int _, _, _, h => by cases h with | st _ r => exact r
  | .str _, _, _, h => by cases h with | st _ r => exact r
  | .fr _, _, _, h => by cases h with | st _ r => exact r
  | .unk, _, _, h => by cases h with | st _ r => exact r
  | .ex _, _, _, h => by cases h with | st _ r => exact r
  | .fn _, _, _, h => by cases h with | st _ r => exact r
  | .dic _ _, _, _, h => by cases h with | st _ r => exact r
  | .dct _ _ _, _, _, h => by cases h with | st _ r => exact r
theorem OwL.rp : ∀ (ds : List D) (vs : List V) (as : List Addr), OwL K F H0 H ds vs as → RpL K F H0 H ds vs
  | [], _, _, h => by cases h; exact .nil
  | d :: ds, _, _, h => by
    cases h with
    | cons a b => exact .cons (Ow.rp d _ _ a) (OwL.rp ds _ _ b)
end
section
variable (hs : ∀ (d : D) (v : V), hasT d = false → Rp K F H0 H d v → Rp K F1 H0 H1 d v) (ht : ∀ a xs, H a = some (.tup xs) → H1 a = some (.tup xs)) (hfl : ∀ a xs, F a = some (.lst xs) → F1 a = some (.lst xs) ∧ H1 a = some (.lst xs))
include hs ht hfl
mutual
theorem Ow.keepG : ∀ (d : D) (v : V) (as : List Addr), Ow K F H0 H d v as → (∀ a ∈ as, ∀ xs, H a = some (.lst xs) → H1 a = some (.lst xs)) → (∀ a ∈ as, ∀ xs, H a = some (.lst xs) → F a = none → F1 a = none) → Ow K F1 H0 H1 d v as
  | .lst t' ds, _, _, h, k, f => by
    cases h with
    | st n r => exact .st n (hs _ _ n r)
    | lst a b c w => exact .lst (k _ List.mem_cons_self _ a) (f _ List.mem_cons_self _ a b) c (OwL.keepG ds _ _ w (fun x hx => k x (List.mem_cons_of_mem _ hx)) fun x hx => f x (List.mem_cons_of_mem _ hx))
    | fl a b w => exact .fl (hfl _ _ a).1 (hfl _ _ a).2 (OwL.keepG ds _ _ w k f)
  | .tup ds, _, _, h, k, f => by
    cases h with
    | st n r => exact .st n (hs _ _ n r)
    | tup a w => exact .tup (ht _ _ a) (OwL.keepG ds _ _ w k f)
  | .non, _, _, h, _, _ => by cases h with | st n r => exact .st n (hs _ _ n r)
  | .bl _, _, _, h, _, _ => by cases h with | st n r => exact .st n (hs _ _ n r)
  | .int _, _, _, h, _, _ => by cases h with | st n r => exact .st n (hs _ _ n r)
  | .str _, _, _, h, _, _ => by cases h with | st n r => exact .st n (hs _ _ n r)
  | .fr _, _, _, h, _, _ => by cases h with | st n r => exact .st n (hs _ _ n r)
  | .unk, _, _, h, _, _ => by cases h with | st n r => exact .st n (hs _ _ n r)
  | .ex _, _, _, h, _, _ => by cases h with | st n r => exact .st n (hs _ _ n r)
  | .fn _, _, _, h, _, _ => by cases h with | st n r => exact .st n (hs _ _ n r)
  | .dic _ _, _, _, h, _, _ => by cases h with | st n r => exact .st n (hs _ _ n r)
  | .dct _ _ _, _, _, h, _, _ => by cases h with | st n r => exact .st n (hs _ _ n r)
theorem OwL.keepG : ∀ (ds : List D) (vs : List V) (as : List Addr), OwL K F H0 H ds vs as → (∀ a ∈ as, ∀ xs, H a = some (.lst xs) → H1 a = some (.lst xs)) → (∀ a ∈ as, ∀ xs, H a = some (.lst xs) → F a = none → F1 a = none) → OwL K F1 H0 H1 ds vs as
  | [], _, _, h, _, _ => by cases h; exact .nil
  | d :: ds, _, _, h, k, f => by
    cases h with
    | cons a b => exact .cons (Ow.keepG d _ _ a (fun x hx => k x (List.mem_append_left _ hx)) fun x hx => f x (List.mem_append_left _ hx)) (OwL.keepG ds _ _ b (fun x hx => k x (List.mem_append_right _ hx)) fun x hx => f x (List.mem_append_right _ hx))
end
end
theorem Ow.keep (t : ∀ b o, H b = some o → NoL o → H1 b = some o) (s : Same F F1) (sH : Same F1 H1) (d : D) (v : V) (as : List Addr) (w : Ow K F H0 H d v as) (k : ∀ a ∈ as, ∀ xs, H a = some (.lst xs) → H1 a = some (.lst xs)) (f : ∀ a ∈ as, F1 a = none) : Ow K F1 H0 H1 d v as :=
  Ow.keepG (fun d v n r => (Rp.keep t _ _ n r).mono s (Same.refl _)) (fun a xs e => t _ _ e trivial) (fun a xs e => ⟨s _ _ e, sH _ _ (s _ _ e)⟩) d v as w k fun a ha _ _ _ => f a ha
theorem OwL.keep (t : ∀ b o, H b = some o → NoL o → H1 b = some o) (s : Same F F1) (sH : Same F1 H1) (d : List D) (v : List V) (as : List Addr) (w : OwL K F H0 H d v as) (k : ∀ a ∈ as, ∀ xs, H a = some (.lst xs) → H1 a = some (.lst xs)) (f : ∀ a ∈ as, F1 a = none) : OwL K F1 H0 H1 d v as :=
  OwL.keepG (fun d v n r => (Rp.keep t _ _ n r).mono s (Same.refl _)) (fun a xs e => t _ _ e trivial) (fun a xs e => ⟨s _ _ e, sH _ _ (s _ _ e)⟩) d v as w k fun a ha _ _ _ => f a ha
mutual
theorem Ow.base (z : ∀ a, H0 a = none → H0' a = none) : ∀ (d : D) (v : V) (as : List Addr), Ow K F H0 H d v as → Ow K F H0' H d v as
  | .lst t' ds, _, _, h => by
    cases h with
    | st n r => exact .st n (Rp.base _ _ n r)
    | lst a b c w => exact .lst a b (z _ c) (OwL.base z ds _ _ w)
    | fl a b w => exact .fl a b (OwL.base z ds _ _ w)
  | .tup ds, _, _, h => by
    cases h with
    | st n r => exact .st n (Rp.base _ _ n r)
    | tup a w => exact .tup a (OwL.base z ds _ _ w)
  | .non, _, _, h => by cases h with | st n r => exact .st n (Rp.base _ _ n r)
  | .bl _, _, _, h => by cases h with | st n r => exact .st n (Rp.base _ _ n r)
  | .int _, _, _, h => by cases h with | st n r => exact .st n (Rp.base _ _ n r)
  | .str _, _, _, h => by cases h with | st n r => exact .st n (Rp.base _ _ n r)
  | .fr _, _, _, h => by cases h with | st n r => exact .st n (Rp.base _ _ n r)
  | .unk, _, _, h => by cases h with | st n r => exact .st n (Rp.base _ _ n r)
  | .ex _, _, _, h => by cases h with | st n r => exact .st n (Rp.base _ _ n r)
  | .fn _, _, _, h => by cases h with | st n r => exact .st n (Rp.base _ _ n r)
  | .dic _ _, _, _, h => by cases h with | st n r => exact .st n (Rp.base _ _ n r)
  | .dct _ _ _, _, _, h => by cases h with | st n r => exact .st n (Rp.base _ _ n r)
theorem OwL.base (z : ∀ a, H0 a = none → H0' a = none) : ∀ (ds : List D) (vs : List V) (as : List Addr), OwL K F H0 H ds vs as → OwL K F H0' H ds vs as
  | [], _, _, h => by cases h; exact .nil
  | d :: ds, _, _, h => by
    cases h with
    | cons a b => exact .cons (Ow.base z d _ _ a) (OwL.base z ds _ _ b)
end
mutual
theorem Ow.mem {c : Addr} : ∀ (d : D) (v : V) (as : List Addr), Ow K F H0 H d v as → c ∈ as → Own H d v c ∧ (∃ xs, H c = some (.lst xs)) ∧ F c = none ∧ H0 c = none
  | .lst t' ds, _, _, h, m => by
    cases h with
    | st n r => cases m
    | lst a b e w =>
      rcases List.mem_cons.mp m with rfl | m
      · exact ⟨.lst, ⟨_, a⟩, b, e⟩
      · obtain ⟨k, d, v, h1, h2, h3, h4⟩ := OwL.mem ds _ _ w m
        exact ⟨.inL a h1 h2 h3, h4⟩
    | fl a b w =>
      obtain ⟨k, d, v, h1, h2, h3, h4⟩ := OwL.mem ds _ _ w m
      exact ⟨.inF b h1 h2 h3, h4⟩
  | .tup ds, _, _, h, m => by
    cases h with
    | st n r => cases m
    | tup a w =>
      obtain ⟨k, d, v, h1, h2, h3, h4⟩ := OwL.mem ds _ _ w m
      exact ⟨.inT a h1 h2 h3, h4⟩
  | .non, _, _, h, m => by cases h with | st n r => cases m
  | .bl _, _, _, h, m => by cases h with | st n r => cases m
  | .int _, _, _, h, m => by cases h with | st n r => cases m
  | .str _, _, _, h, m => by cases h with | st n r => cases m
  | .fr _, _, _, h, m => by cases h with | st n r => cases m
  | .unk, _, _, h, m => by cases h with | st n r => cases m
  | .ex _, _, _, h, m => by cases h with | st n r => cases m
  | .fn _, _, _, h, m => by cases h with | st n r => cases m
  | .dic _ _, _, _, h, m => by cases h with | st n r => cases m
  | .dct _ _ _, _, _, h, m => by cases h with | st n r => cases m
theorem OwL.mem {c : Addr} : ∀ (ds : List D) (vs : List V) (as : List Addr), OwL K F H0 H ds vs as → c ∈ as → ∃ (k : Nat) (d : D) (v : V), ds[k]? = some d ∧ vs[k]? = some v ∧ Own H d v c ∧ (∃ xs, H c = some (.lst xs)) ∧ F c = none ∧ H0 c = none
  | [], _, _, h, m => by cases h; cases m
  | d :: ds, _, _, h, m => by
    cases h with
    | cons a b =>
      rcases List.mem_append.mp m with m | m
      · exact ⟨0, d, _, rfl, rfl, Ow.mem d _ _ a m⟩
      · obtain ⟨k, d, v, h1, h2, h3⟩ := OwL.mem ds _ _ b m
        exact ⟨k + 1, d, v, by simpa using h1, by simpa using h2, h3⟩
end
theorem OwL.at : ∀ {ds : List D} {vs : List V} {as : List Addr} {k : Nat} {d : D} {v : V}, OwL K F H0 H ds vs as → ds[k]? = some d → vs[k]? = some v → ∃ ak, Ow K F H0 H d v ak ∧ ∀ c ∈ ak, c ∈ as
  | _, _, _, _, _, _, .nil, e, _ => by simp at e
  | _, _, _, 0, _, _, .cons a b, e, e2 => by simp at e e2; subst e e2; exact ⟨_, a, fun c h => List.mem_append_left _ h⟩
  | _, _, _, k + 1, d, v, .cons a b, e, e2 => by
    obtain ⟨ak, h1, h2⟩ := OwL.at (k := k) (d := d) (v := v) b (by simpa using e) (by simpa using e2)
    exact ⟨ak, h1, fun c h => List.mem_append_right _ (h2 c h)⟩
theorem Ow.of {d : D} {v : V} {c : Addr} (o : Own H d v c) : ∀ {as : List Addr}, Ow K F H0 H d v as → c ∈ as := by
  induction o with
  | lst =>
    intro as w
    cases w with
    | st n _ => simp [hasT] at n
    | lst => exact List.mem_cons_self
  | inL e1 e2 e3 _ ih =>
    intro as w
    cases w with
    | st n _ => simp [hasT] at n
    | lst a _ _ w =>
      rw [a] at e1; cases e1
      obtain ⟨ak, h1, h2⟩ := w.at e2 e3
      exact List.mem_cons_of_mem _ (h2 _ (ih h1))
  | inF e1 e2 e3 o ih =>
    intro as w
    cases w with
    | st n _ =>
      have := hasTL_get (by simpa only [hasT, Bool.false_or] using n) e2
      rw [o.of] at this; cases this
    | fl _ a w =>
      rw [a] at e1; cases e1
      obtain ⟨ak, h1, h2⟩ := w.at e2 e3
      exact h2 _ (ih h1)
  | inT e1 e2 e3 o ih =>
    intro as w
    cases w with
    | st n _ =>
      have := hasTL_get (by simpa only [hasT] using n) e2
      rw [o.of] at this; cases this
    | tup a w =>
      rw [a] at e1; cases e1
      obtain ⟨ak, h1, h2⟩ := w.at e2 e3
      exact h2 _ (ih h1)
theorem Ow.iff {d : D} {v : V} {c : Addr} {as : List Addr} (w : Ow K F H0 H d v as) : Own H d v c ↔ c ∈ as := ⟨fun o => Ow.of o w, fun m => (Ow.mem d v as w m).1⟩
theorem OwL.app : ∀ {ds es : List D} {vs us : List V} {as bs : List Addr}, OwL K F H0 H ds vs as → OwL K F H0 H es us bs → OwL K F H0 H (ds ++ es) (vs ++ us) (as ++ bs)
  | _, _, _, _, _, _, .nil, s => s
  | _, _, _, _, _, _, .cons r t, s => by rw [List.append_assoc]; exact .cons r (OwL.app t s)
end
def NU (H : Hp) (a : Addr) (kvs : List (List Key × V)) (u : HO) : Prop := ∃ kas : Kas, u = DnO a kas ∧ kas.map (fun x => ((encN x.1).map (Sum.inl : Int → Key), x.2.2)) = kvs ∧ ∀ x ∈ kas, NK H x.1 x.2.1
theorem NU.keep {H H' : Hp} {a : Addr} {kvs : List (List Key × V)} {u : HO} (t : ∀ b xs, H b = some (.tup xs) → H' b = some (.tup xs)) (h : NU H a kvs u) : NU H' a kvs u := by
  obtain ⟨kas, h1, h2, h3⟩ := h
  exact ⟨kas, h1, h2, fun x hx => (h3 x hx).keep t⟩
def IU (kvs : List (List Key × V)) (u : HO) : Prop := ∃ kis : List (Key × V), kvs = kis.map (fun x => ([x.1], x.2)) ∧ u = .dK kis
def LU (a : Addr) (kvs : List (List Key × V)) (u : HO) : Prop := ∃ kls : Kls, u = LfO a kls ∧ kls.map (fun x => (lfK x.1, x.2)) = kvs
def DU (q : DT) (H : Hp) (a : Addr) (kvs : List (List Key × V)) (u : HO) : Prop := if q.n = true then (if q.l = true then (if q.o.isSome = true then u = .lst (kvs.map (·.2)) else IU kvs u) else if q.o.isSome = true then LU a kvs u else NU H a kvs u) else if q.l = true then ∃ od, u = .frz od (.dT kvs) else u = .dT kvs
theorem DU.keep {q : DT} {H H' : Hp} {a : Addr} {kvs : List (List Key × V)} {u : HO} (t : ∀ b xs, H b = some (.tup xs) → H' b = some (.tup xs)) (h : DU q H a kvs u) : DU q H' a kvs u := by
  unfold DU at h ⊢
  split
  · rename_i hn
    rw [if_pos hn] at h
    split
    · rename_i hl; rw [if_pos hl] at h; exact h
    · rename_i hl
      rw [if_neg hl] at h
      split
      · rename_i ho; rw [if_pos ho] at h; exact h
      · rename_i ho; rw [if_neg ho] at h; exact h.keep t
  · rename_i hn; rw [if_neg hn] at h; exact h
structure DctOk (K : PySem.W.Frag) (F H0 H : Hp) (q : DT) (ks : List (List Int)) (ds : List D) (v : V) (a : Addr) (kvs : List (List Key × V)) : Prop where
  v : v = .ref a
  o : ∀ b, q.o = some b → (q.n && !q.l) = true ∨ a = b
  al : ∃ u, H a = some u ∧ DU q H a kvs u
  fa : F a = none
  ha : H0 a = none
  k : kvs.map (·.1) = ks.map (·.map Sum.inl)
  x : RpL K F H0 H ds (kvs.map (·.2))
  nx : hasTL ds = false
def SlotOk (K : PySem.W.Frag) (F H0 H : Hp) (d : D) (v : V) : Prop :=
  (∃ ds a xs, d = .lst true ds ∧ v = .ref a ∧ H a = some (.lst xs) ∧ F a = none ∧ H0 a = none ∧ RpL K F H0 H ds xs ∧ hasTL ds = false) ∨ (hasT d = false ∧ Rp K F H0 H d v)
    ∨ (∃ as, nest d = true ∧ Ow K F H0 H d v as ∧ as.Nodup) ∨ ∃ q ks ds a kvs, d = .dct q ks ds ∧ DctOk K F H0 H q ks ds v a kvs
structure Rel (K : PySem.W.Frag) (b : Bs) (F : Hp) (m : Sl) (σ : L2.St) (H : Hp) : Prop where
  len : m.length = σ.length
  grow : Grow b.F0 b.H0 F H
  slot : ∀ (i : Nat) (d : D), m[i]? = some (some d) → ∃ v, σ[i]? = some (some v) ∧ SlotOk K F b.H0 H d v
  apart : ∀ (i j : Nat) (d e : D) (v w : V) (a : Addr), m[i]? = some (some d) → m[j]? = some (some e) → σ[i]? = some (some v) → σ[j]? = some (some w) → Owns H d v a → Owns H e w a → i = j
section
variable {K : PySem.W.Frag} {b : Bs} {F H F1 H1 H0 : Hp} {m : Sl} {σ : L2.St}
theorem set_self_eq {α : Type} {l : List α} {i : Nat} {x y : α} (h : l[i]? = some x) : (l.set i y).set i x = l := by
  rw [List.set_set]
  apply List.ext_getElem?
  intro j
  by_cases hj : j = i
  · subst hj
    rw [List.getElem?_set_self ((List.getElem?_eq_some_iff.1 h).1), h]
  · rw [List.getElem?_set_ne (Ne.symm hj)]
theorem Rel.sub (r : Rel K b F m σ H) : Same F H := r.grow.subH
theorem SlotOk.rp {d : D} {v : V} (s : SlotOk K F H0 H d v) : Rp K F H0 H d v := by
  rcases s with ⟨ds, a, xs, rfl, rfl, h1, h2, h3, h4, _⟩ | ⟨_, h⟩ | ⟨as, _, p, _⟩ | ⟨qq, ks, ds, a, kvs, rfl, p⟩
  · exact .tmN h3 h1 h4
  · exact h
  · exact Ow.rp _ _ _ p
  · rw [p.v]; exact .dct
theorem SlotOk.ow {d : D} {v : V} (s : SlotOk K F H0 H d v) : (∃ as, Ow K F H0 H d v as ∧ as.Nodup) ∨ ∃ q ks ds a kvs, d = .dct q ks ds ∧ DctOk K F H0 H q ks ds v a kvs := by
  rcases s with ⟨ds, a, xs, rfl, rfl, h1, h2, h3, h4, h5⟩ | ⟨h, h'⟩ | ⟨as, _, p⟩ | p
  · exact .inl ⟨_, .lst h1 h2 h3 (OwL.st h5 h4), one_nodup a⟩
  · exact .inl ⟨_, .st h h', List.nodup_nil⟩
  · exact .inl ⟨as, p⟩
  · exact .inr p
theorem SlotOk.of {d : D} {v : V} {as : List Addr} (w : Ow K F H0 H d v as) (n : as.Nodup) : SlotOk K F H0 H d v := by
  cases w with
  | st h r => exact .inr (.inl ⟨h, r⟩)
  | lst a b c w =>
    rename_i a' xs ds as'
    cases q : hasTL ds with
    | false => exact .inl ⟨_, _, _, rfl, rfl, a, b, c, OwL.rp _ _ _ w, q⟩
    | true => exact .inr (.inr (.inl ⟨_, q, .lst a b c w, n⟩))
  | fl a b w =>
    rename_i a' xs ds
    cases q : hasTL ds with
    | false => exact .inr (.inl ⟨by simpa only [hasT, Bool.false_or] using q, .lst a (OwL.rp _ _ _ w)⟩)
    | true => exact .inr (.inr (.inl ⟨_, q, .fl a b w, n⟩))
  | tup a w =>
    rename_i a' xs ds
    cases q : hasTL ds with
    | false => exact .inr (.inl ⟨by simpa only [hasT] using q, .tup a (OwL.rp _ _ _ w)⟩)
    | true => exact .inr (.inr (.inl ⟨_, q, .tup a w, n⟩))
theorem SlotOk.mutW {ds : List D} {v : V} (s : SlotOk K F H0 H (.lst true ds) v) : ∃ a xs as, v = .ref a ∧ H a = some (.lst xs) ∧ F a = none ∧ H0 a = none ∧ OwL K F H0 H ds xs as ∧ (a :: as).Nodup := by
  rcases s.ow with ⟨as, w, n⟩ | ⟨_, _, _, _, _, e, _⟩
  · cases w with
    | st h _ => simp [hasT] at h
    | lst a b c w => exact ⟨_, _, _, rfl, a, b, c, w, n⟩
  · cases e
theorem grow_free {a : Addr} {o1 : HO} (g : Grow F H F1 H1) (h1 : H a = some o1) (h2 : F a = none) : F1 a = none := by
  cases q : F1 a with
  | none => rfl
  | some o =>
    rcases g.new a o q with z | z
    · rw [h2] at z; cases z
    · rw [h1] at z; cases z
theorem SlotOk.grow {d : D} {v : V} (g : Grow F H F1 H1) (s : SlotOk K F H0 H d v) : SlotOk K F1 H0 H1 d v := by
  rcases s.ow with ⟨as, w, n⟩ | ⟨qq, ks, ds, a, kvs, rfl, p⟩
  · refine .of (Ow.keep (fun b o e _ => g.same b o e) g.sub g.subH d v as w (fun a _ xs e => g.same _ _ e) fun a ha => ?_) n
    obtain ⟨_, ⟨xs, h1⟩, h2, _⟩ := Ow.mem d v as w ha
    exact grow_free g h1 h2
  · exact .inr (.inr (.inr ⟨qq, ks, ds, a, kvs, rfl, p.v, p.o, p.al.imp fun u h => ⟨g.same _ _ h.1, h.2.keep fun _ _ z => g.same _ _ z⟩, p.al.elim fun u h => grow_free g h.1 p.fa, p.ha, p.k, p.x.grow g, p.nx⟩))
theorem Owns.iff {d : D} {v : V} {c : Addr} {as : List Addr} (w : Ow K F H0 H d v as) : Owns H d v c ↔ c ∈ as := by
  refine ⟨fun o => ?_, fun m => .inr (.inr (w.iff.mpr m))⟩
  rcases o with ⟨ds, rfl, rfl⟩ | ⟨q, ks, ds, rfl, rfl⟩ | o
  · exact w.iff.mp .lst
  · cases w with
    | st n _ => simp [hasT] at n
  · exact w.iff.mp o
theorem Owns.dct {q : DT} {ks : List (List Int)} {ds : List D} {v : V} {a : Addr} (o : Owns H (.dct q ks ds) v a) : v = .ref a := by
  rcases o with ⟨_, e, _⟩ | ⟨_, _, _, _, e⟩ | o
  · cases e
  · exact e
  · cases o
mutual
theorem Own.backO (t : ∀ b xs, H b = some (.tup xs) → H1 b = some (.tup xs)) (sH : ∀ b xs, F b = some (.lst xs) → H1 b = some (.lst xs)) {c : Addr} : ∀ (d : D) (v : V) (as : List Addr), Ow K F H0 H d v as → (∀ a ∈ as, ∀ xs, H a = some (.lst xs) → H1 a = some (.lst xs)) → Own H1 d v c → c ∈ as
  | .lst t' ds, _, _, h, k, o => by
    cases h with
    | st n _ => rw [o.of] at n; cases n
    | lst a _ _ w =>
      cases o with
      | lst => exact List.mem_cons_self
      | inL e e1 e2 o =>
        rw [k _ List.mem_cons_self _ a] at e; cases e
        exact List.mem_cons_of_mem _ (OwL.backO t sH ds _ _ w (fun x hx => k x (List.mem_cons_of_mem _ hx)) e1 e2 o)
    | fl a b w =>
      cases o with
      | inF e e1 e2 o =>
        rw [sH _ _ a] at e; cases e
        exact OwL.backO t sH ds _ _ w k e1 e2 o
  | .tup ds, _, _, h, k, o => by
    cases h with
    | st n _ => rw [o.of] at n; cases n
    | tup a w =>
      cases o with
      | inT e e1 e2 o =>
        rw [t _ _ a] at e; cases e
        exact OwL.backO t sH ds _ _ w k e1 e2 o
  | .non, _, _, _, _, o => nomatch o
  | .bl _, _, _, _, _, o => nomatch o
  | .int _, _, _, _, _, o => nomatch o
  | .str _, _, _, _, _, o => nomatch o
  | .fr _, _, _, _, _, o => nomatch o
  | .unk, _, _, _, _, o => nomatch o
  | .ex _, _, _, _, _, o => nomatch o
  | .fn _, _, _, _, _, o => nomatch o
  | .dic _ _, _, _, _, _, o => nomatch o
  | .dct _ _ _, _, _, _, _, o => nomatch o
theorem OwL.backO (t : ∀ b xs, H b = some (.tup xs) → H1 b = some (.tup xs)) (sH : ∀ b xs, F b = some (.lst xs) → H1 b = some (.lst xs)) {c : Addr} : ∀ (ds : List D) (vs : List V) (as : List Addr), OwL K F H0 H ds vs as → (∀ a ∈ as, ∀ xs, H a = some (.lst xs) → H1 a = some (.lst xs)) → ∀ {k : Nat} {d : D} {v : V}, ds[k]? = some d → vs[k]? = some v → Own H1 d v c → c ∈ as
  | [], _, _, _, _, _, _, _, e, _, _ => by simp at e
  | d :: ds, _, _, h, k, 0, _, _, e, e2, o => by
    cases h with
    | cons a b =>
      simp at e e2; subst e e2
      exact List.mem_append_left _ (Own.backO t sH d _ _ a (fun x hx => k x (List.mem_append_left _ hx)) o)
  | d :: ds, _, _, h, k, j + 1, _, _, e, e2, o => by
    cases h with
    | cons a b => exact List.mem_append_right _ (OwL.backO t sH ds _ _ b (fun x hx => k x (List.mem_append_right _ hx)) (k := j) (by simpa using e) (by simpa using e2) o)
end
theorem Owns.back {d : D} {v : V} {a : Addr} (tt : ∀ b xs, H b = some (.tup xs) → H1 b = some (.tup xs)) (sH : ∀ b xs, F b = some (.lst xs) → H1 b = some (.lst xs)) (kk : ∀ c xs, Owns H d v c → H c = some (.lst xs) → H1 c = some (.lst xs)) (s : SlotOk K F H0 H d v) (o : Owns H1 d v a) : Owns H d v a := by
  rcases s.ow with ⟨as, w, n⟩ | ⟨qq, ks, ds, c, kvs, rfl, p⟩
  · refine (Owns.iff w).mpr ?_
    rcases o with ⟨ds, rfl, rfl⟩ | ⟨q, ks, ds, rfl, rfl⟩ | o
    · exact w.iff.mp .lst
    · cases w with
      | st n' _ => simp [hasT] at n'
    · exact Own.backO tt sH d v as w (fun a ha xs e => kk a xs ((Owns.iff w).mpr ha) e) o
  · have := o.dct
    exact .inr (.inl ⟨_, _, _, rfl, this⟩)
theorem Owns.backS {d : D} {v : V} {a : Addr} (sF : Same F H) (e : Same H H1) (s : SlotOk K F H0 H d v) (o : Owns H1 d v a) : Owns H d v a := o.back (fun b o z => e _ _ z) (fun b xs z => e _ _ (sF _ _ z)) (fun c xs _ z => e _ _ z) s
theorem Owns.here {d : D} {v : V} {a : Addr} (s : SlotOk K F H0 H d v) (o : Owns H d v a) : ∃ u, H a = some u ∧ H0 a = none := by
  rcases s.ow with ⟨as, w, n⟩ | ⟨qq, ks, ds, c, kvs, rfl, p⟩
  · obtain ⟨_, ⟨xs, h1⟩, _, h2⟩ := Ow.mem d v as w ((Owns.iff w).mp o)
    exact ⟨_, h1, h2⟩
  · have e := o.dct
    rw [p.v] at e; cases e
    obtain ⟨u, h1, _⟩ := p.al
    exact ⟨u, h1, p.ha⟩
theorem Owns.free {d : D} {v : V} {a : Addr} (s : SlotOk K F H0 H d v) (o : Owns H d v a) : F a = none := by
  rcases s.ow with ⟨as, w, n⟩ | ⟨qq, ks, ds, c, kvs, rfl, p⟩
  · exact (Ow.mem d v as w ((Owns.iff w).mp o)).2.2.1
  · have e := o.dct
    rw [p.v] at e; cases e
    exact p.fa
theorem Owns.of {d : D} {v : V} {a : Addr} (o : Owns H d v a) (n : hasT d = false) : False := by
  rcases o with ⟨es, rfl, rfl⟩ | ⟨_, _, _, rfl, rfl⟩ | o
  · simp [hasT] at n
  · simp [hasT] at n
  · rw [o.of] at n; cases n
theorem Rel.step (r : Rel K b F m σ H) (g : Grow F H F1 H1) : Rel K b F1 m σ H1 :=
  ⟨r.len, r.grow.trans g, fun i d e => by
    obtain ⟨v, h1, h2⟩ := r.slot i d e
    exact ⟨v, h1, h2.grow g⟩, fun i j d e v w a h1 h2 h3 h4 o1 o2 => by
    obtain ⟨v', k1, k2⟩ := r.slot i d h1
    obtain ⟨w', k3, k4⟩ := r.slot j e h2
    rw [h3] at k1; cases k1
    rw [h4] at k3; cases k3
    exact r.apart i j d e v w a h1 h2 h3 h4 (o1.backS r.sub g.same k2) (o2.backS r.sub g.same k4)⟩
theorem SlotOk.dct {q : DT} {ks : List (List Int)} {ds : List D} {v : V} (s : SlotOk K F H0 H (.dct q ks ds) v) : ∃ a kvs, DctOk K F H0 H q ks ds v a kvs := by
  rcases s with ⟨_, _, _, e, _⟩ | ⟨h, _⟩ | ⟨_, e, _⟩ | ⟨_, _, _, a, kvs, e, p⟩
  · cases e
  · simp [hasT] at h
  · cases e
  · cases e; exact ⟨a, kvs, p⟩
theorem set_some {α : Type} {l : List (Option α)} {i j : Nat} {d e : α} (h : (l.set i (some d))[j]? = some (some e)) : (j = i ∧ i < l.length ∧ e = d) ∨ (j ≠ i ∧ l[j]? = some (some e)) := by
  by_cases hj : j = i
  · subst hj
    by_cases hl : j < l.length
    · rw [List.getElem?_set_self hl] at h; cases h; exact .inl ⟨rfl, hl, rfl⟩
    · rw [List.getElem?_eq_none (by simpa using hl)] at h; cases h
  · rw [List.getElem?_set_ne (Ne.symm hj)] at h; exact .inr ⟨hj, h⟩
theorem Rel.putW {i : Nat} {d : D} {v : V} (r : Rel K b F m σ H) (h : SlotOk K F b.H0 H d v) (far : ∀ (j : Nat) (e : D) (w : V) (a : Addr), j ≠ i → m[j]? = some (some e) → σ[j]? = some (some w) → Owns H d v a → Owns H e w a → False) :
    Rel K b F (m.set i (some d)) (σ.set i (some v)) H :=
  ⟨by rw [List.length_set, List.length_set]; exact r.len, r.grow, fun j e q => by
    rcases set_some q with ⟨rfl, hl, rfl⟩ | ⟨hj, q⟩
    · exact ⟨v, by rw [List.getElem?_set_self (by rw [← r.len]; exact hl)], h⟩
    · obtain ⟨w, h1, h2⟩ := r.slot j e q
      exact ⟨w, by rw [List.getElem?_set_ne (Ne.symm hj)]; exact h1, h2⟩, fun p q d' e v' w' a e1 e2 e3 e4 o1 o2 => by
    rcases set_some e1 with ⟨hp, hl, rfl⟩ | ⟨hp, k1⟩
    · rcases set_some e2 with ⟨hq, _, _⟩ | ⟨hq, k2⟩
      · rw [hp, hq]
      · rw [hp, List.getElem?_set_self (by rw [← r.len]; exact hl)] at e3
        cases e3
        rw [List.getElem?_set_ne (Ne.symm hq)] at e4
        exact (far q _ _ a hq k2 e4 o1 o2).elim
    · rw [List.getElem?_set_ne (Ne.symm hp)] at e3
      rcases set_some e2 with ⟨hq, hl, rfl⟩ | ⟨hq, k2⟩
      · rw [hq, List.getElem?_set_self (by rw [← r.len]; exact hl)] at e4
        cases e4
        exact (far p _ _ a hp k1 e3 o2 o1).elim
      · rw [List.getElem?_set_ne (Ne.symm hq)] at e4
        exact r.apart p q _ _ _ _ a k1 k2 e3 e4 o1 o2⟩
theorem Rel.put {i : Nat} {d : D} {v : V} (r : Rel K b F m σ H) (n : hasT d = false) (h : Rp K F b.H0 H d v) : Rel K b F (m.set i (some d)) (σ.set i (some v)) H :=
  r.putW (.inr (.inl ⟨n, h⟩)) fun _ _ _ _ _ _ _ o _ => o.of n
theorem SlotOk.base {H0' : Hp} {d : D} {v : V} (s : Same H0 H0') (h : SlotOk K F H0' H d v) : SlotOk K F H0 H d v := by
  rcases h.ow with ⟨as, w, n⟩ | ⟨qq, ks, ds, a, kvs, rfl, p⟩
  · exact .of (Ow.base (fun _ z => s.free z) d v as w) n
  · exact .inr (.inr (.inr ⟨qq, ks, ds, a, kvs, rfl, p.v, p.o, p.al, p.fa, s.free p.ha, p.k, RpL.base _ _ p.nx p.x, p.nx⟩))
theorem Rel.putN {i : Nat} {d : D} {v : V} (r : Rel K b F m σ H) (g : Grow F H F1 H1) (h : SlotOk K F1 H H1 d v) : Rel K b F1 (m.set i (some d)) (σ.set i (some v)) H1 := by
  have r1 := r.step g
  refine r1.putW (h.base r.grow.same) fun j e w a _ h1 h2 o1 o2 => ?_
  obtain ⟨w', k1, k2⟩ := r.slot j e h1
  rw [h2] at k1; cases k1
  obtain ⟨ys, hy, _⟩ := Owns.here k2 (o2.backS r.sub g.same k2)
  obtain ⟨_, _, hn⟩ := Owns.here h o1
  rw [hn] at hy; cases hy
theorem Rel.own {i : Nat} {ds : List D} {a : Addr} {xs : List V} (r : Rel K b F m σ H) (g : Grow F H F1 H1) (hn : H a = none) (h1 : H1 a = some (.lst xs)) (h2 : F1 a = none) (h : RpL K F1 b.H0 H1 ds xs) (n : hasTL ds = false) :
    Rel K b F1 (m.set i (some (.lst true ds))) (σ.set i (some (.ref a))) H1 :=
  r.putN g (.inl ⟨ds, a, xs, rfl, rfl, h1, h2, hn, RpL.base ds xs n h, n⟩)
theorem Rel.chgW {i : Nat} {d e : D} {v : V} {a : Addr} {o1 o2 : HO} (r : Rel K b F m σ H) (q : m[i]? = some (some d)) (hs : σ[i]? = some (some v)) (o : Owns H d v a) (h1 : H a = some o1) (hn : ¬ NoL o1) (h2 : F a = none) (h3 : b.H0 a = none)
    (h : SlotOk K F b.H0 (upd H a o2) e v) (ow : ∀ c, Owns (upd H a o2) e v c → Owns H d v c) : Rel K b F (m.set i (some e)) σ (upd H a o2) := by
  have t : ∀ c o, H c = some o → NoL o → (upd H a o2) c = some o := fun c o hc ho => by
    rw [upd_ne (fun z => by subst z; rw [h1] at hc; cases hc; exact hn ho)]; exact hc
  have na : ∀ c o, F c = some o → c ≠ a := fun c o hc z => by subst z; rw [h2] at hc; cases hc
  have sH1 : Same F (upd H a o2) := fun c o hc => by rw [upd_ne (na _ _ hc)]; exact r.sub _ _ hc
  have far : ∀ (j : Nat) (d' : D) (w : V) (c : Addr), j ≠ i → m[j]? = some (some d') → σ[j]? = some (some w) → Owns H d' w c → c ≠ a := fun j d' w c hj q' k1 o' z => by
    subst z; exact hj (r.apart j i _ _ _ _ c q' q k1 hs o' o)
  refine ⟨by rw [List.length_set]; exact r.len, ⟨fun c o hc => ?_, r.grow.sub, fun c o hc => ?_, r.grow.new⟩, fun j d' q' => ?_, fun p p' x y v1 v2 c e1 e2 e3 e4 w1 w2 => ?_⟩
  · rw [upd_ne (fun z => by subst z; rw [h3] at hc; cases hc)]; exact r.grow.same _ _ hc
  · rw [upd_ne (na _ _ hc)]; exact r.sub _ _ hc
  · rcases set_some q' with ⟨rfl, hl, rfl⟩ | ⟨hj, q'⟩
    · exact ⟨v, hs, h⟩
    · obtain ⟨w, k1, k2⟩ := r.slot j d' q'
      refine ⟨w, k1, ?_⟩
      rcases k2.ow with ⟨as, z, n⟩ | ⟨qq, ks, ds', c, kvs, rfl, pp⟩
      · exact .of (Ow.keep t (Same.refl F) sH1 _ _ _ z (fun c hc ys e => by rw [upd_ne (far j _ _ c hj q' k1 ((Owns.iff z).mpr hc))]; exact e) fun c hc => (Ow.mem _ _ _ z hc).2.2.1) n
      · have hc : c ≠ a := far j _ _ c hj q' k1 (.inr (.inl ⟨_, _, _, rfl, pp.v⟩))
        exact .inr (.inr (.inr ⟨qq, ks, ds', c, kvs, rfl, pp.v, pp.o, pp.al.imp fun u h => ⟨by rw [upd_ne hc]; exact h.1, h.2.keep fun _ _ z => t _ _ z trivial⟩, pp.fa, pp.ha, pp.k, RpL.keep t ds' _ pp.nx pp.x, pp.nx⟩))
  · have old : ∀ (k : Nat) (z : D) (u : V), (m.set i (some e))[k]? = some (some z) → σ[k]? = some (some u) → Owns (upd H a o2) z u c → ∃ z' : D, m[k]? = some (some z') ∧ Owns H z' u c := fun k z u ek es oz => by
      rcases set_some ek with ⟨rfl, _, rfl⟩ | ⟨hk, ek⟩
      · rw [hs] at es; cases es
        exact ⟨d, q, ow c oz⟩
      · obtain ⟨u', k1, k2⟩ := r.slot k z ek
        rw [es] at k1; cases k1
        exact ⟨z, ek, oz.back (fun b xs e => t _ _ e trivial) (fun b xs e => sH1 _ _ e) (fun c xs o' z' => by rw [upd_ne (far k _ _ c hk ek es o')]; exact z') k2⟩
    obtain ⟨x', e1', o1'⟩ := old p x v1 e1 e3 w1
    obtain ⟨y', e2', o2'⟩ := old p' y v2 e2 e4 w2
    exact r.apart p p' x' y' v1 v2 c e1' e2' e3 e4 o1' o2'
theorem Rel.chgO {i : Nat} {ds es : List D} {a : Addr} {xs ys : List V} {as bs : List Addr} (r : Rel K b F m σ H) (e : m[i]? = some (some (.lst true ds))) (hs : σ[i]? = some (some (.ref a))) (h1 : H a = some (.lst xs)) (h2 : F a = none) (h3 : b.H0 a = none) (w : OwL K F b.H0 H ds xs as) (n : (a :: as).Nodup)
    (h : OwL K F b.H0 H es ys bs) (sub : ∀ c ∈ bs, c ∈ as) (nb : bs.Nodup) :
    Rel K b F (m.set i (some (.lst true es))) σ (upd H a (.lst ys)) := by
  have t : ∀ c o, H c = some o → NoL o → (upd H a (.lst ys)) c = some o := fun c o hc ho => by
    rw [upd_ne (fun z => by subst z; rw [h1] at hc; cases hc; exact False.elim ho)]; exact hc
  have na : a ∉ bs := fun z => (List.nodup_cons.mp n).1 (sub _ z)
  have w1 : OwL K F b.H0 (upd H a (.lst ys)) es ys bs := OwL.keep t (Same.refl F) (fun c o hc => by rw [upd_ne (fun z => by subst z; rw [h2] at hc; cases hc)]; exact r.sub _ _ hc) _ _ _ h (fun c hc xs e => by rw [upd_ne (fun z => by subst z; exact na hc)]; exact e) fun c hc => by
    obtain ⟨_, _, _, _, _, _, _, z, _⟩ := OwL.mem _ _ _ h hc
    exact z
  have W : Ow K F b.H0 (upd H a (.lst ys)) (.lst true es) (.ref a) (a :: bs) := .lst upd_same h2 h3 w1
  refine r.chgW e hs (.inl ⟨_, rfl, rfl⟩) h1 (fun z => z) h2 h3 (.of W (List.nodup_cons.mpr ⟨na, nb⟩)) fun c o => ?_
  rcases List.mem_cons.mp ((Owns.iff W).mp o) with rfl | z
  · exact .inl ⟨_, rfl, rfl⟩
  · exact (Owns.iff (.lst h1 h2 h3 w)).mpr (List.mem_cons_of_mem _ (sub _ z))
theorem Rel.drop {i : Nat} (r : Rel K b F m σ H) : Rel K b F (m.set i none) (σ.set i none) H := by
  have old : ∀ {j : Nat} {d : D}, (m.set i none)[j]? = some (some d) → j ≠ i ∧ m[j]? = some (some d) := fun {j d} h => by
    by_cases hj : j = i
    · subst hj
      by_cases hl : j < m.length
      · rw [List.getElem?_set_self hl] at h; cases h
      · rw [List.getElem?_eq_none (by simpa using hl)] at h; cases h
    · rw [List.getElem?_set_ne (Ne.symm hj)] at h; exact ⟨hj, h⟩
  refine ⟨by rw [List.length_set, List.length_set]; exact r.len, r.grow, fun j d q => ?_, fun p q x y v w c e1 e2 e3 e4 => ?_⟩
  · obtain ⟨hj, q⟩ := old q
    obtain ⟨v, k1, k2⟩ := r.slot j d q
    exact ⟨v, by rw [List.getElem?_set_ne (Ne.symm hj)]; exact k1, k2⟩
  · obtain ⟨h1, e1⟩ := old e1
    obtain ⟨h2, e2⟩ := old e2
    rw [List.getElem?_set_ne (Ne.symm h1)] at e3
    rw [List.getElem?_set_ne (Ne.symm h2)] at e4
    exact r.apart p q x y v w c e1 e2 e3 e4
theorem Rel.mineW {i : Nat} {ds : List D} (r : Rel K b F m σ H) (e : m[i]? = some (some (.lst true ds))) : ∃ a xs as, σ[i]? = some (some (.ref a)) ∧ H a = some (.lst xs) ∧ F a = none ∧ b.H0 a = none ∧ OwL K F b.H0 H ds xs as ∧ (a :: as).Nodup := by
  obtain ⟨v, q1, q2⟩ := r.slot i _ e
  obtain ⟨a, xs, as, rfl, h⟩ := q2.mutW
  exact ⟨a, xs, as, q1, h⟩
theorem Rel.chgL {i : Nat} {ds es : List D} {a : Addr} {xs ys : List V} (r : Rel K b F m σ H) (e : m[i]? = some (some (.lst true ds))) (hs : σ[i]? = some (some (.ref a))) (h1 : H a = some (.lst xs))
    (h : ∀ as, OwL K F b.H0 H ds xs as → ∃ bs, List.Sublist bs as ∧ OwL K F b.H0 H es ys bs) : Rel K b F (m.set i (some (.lst true es))) σ (upd H a (.lst ys)) := by
  obtain ⟨a', xs', as, q1, h1', h2, h3, h4, h5⟩ := r.mineW e
  rw [hs] at q1; cases q1
  rw [h1] at h1'; cases h1'
  obtain ⟨bs, sb, w⟩ := h as h4
  exact r.chgO e hs h1 h2 h3 h4 h5 w (fun c hc => sb.subset hc) ((List.nodup_cons.mp h5).2.sublist sb)
theorem Rel.chgApp {i : Nat} {ds es : List D} {a : Addr} {xs us : List V} (r : Rel K b F m σ H) (e : m[i]? = some (some (.lst true ds))) (hs : σ[i]? = some (some (.ref a))) (h1 : H a = some (.lst xs)) (h : RpL K F b.H0 H es us) (n : hasTL es = false) :
    Rel K b F (m.set i (some (.lst true (ds ++ es)))) σ (upd H a (.lst (xs ++ us))) := r.chgL e hs h1 fun as w => ⟨as ++ [], by rw [List.append_nil]; exact List.Sublist.refl _, w.app (OwL.st n h)⟩
end
def Pst {α : Type} (b : Bs) (W : WX) (σ : L2.St) (F H : Hp) (C : α → Hp → Hp → Prop) : R α → Prop
  | .ok a => ∀ F' H', Grow F H F' H' → C a F' H'
  | .exc c => ∀ F' H', Grow F H F' H' → W (b.ex c) none σ H'
  | .stuck => False
section
variable {α β : Type} {b : Bs} {W : WX} {σ : L2.St} {F H F1 H1 : Hp}
theorem Pst.grow {C : α → Hp → Hp → Prop} {r : R α} (g : Grow F H F1 H1) (p : Pst b W σ F H C r) : Pst b W σ F1 H1 C r := by
  cases r with
  | ok a => exact fun F' H' k => p F' H' (g.trans k)
  | exc c => exact fun F' H' k => p F' H' (g.trans k)
  | stuck => exact p
theorem Pst.bind {C : β → Hp → Hp → Prop} {r : R α} {k : α → R β} (p : Pst b W σ F H C (r.bind k)) : Pst b W σ F H (fun a F' H' => Pst b W σ F' H' C (k a)) r := by
  cases r with
  | ok a => exact fun F' H' g => Pst.grow g p
  | exc c => exact p
  | stuck => exact p
theorem Pst.imp {C C' : α → Hp → Hp → Prop} {r : R α} (p : Pst b W σ F H C r) (h : ∀ a F' H', r = .ok a → Grow F H F' H' → C a F' H' → C' a F' H') : Pst b W σ F H C' r := by
  cases r with
  | ok a => exact fun F' H' g => h a F' H' rfl g (p F' H' g)
  | exc c => exact p
  | stuck => exact p
theorem Pst.here {C : α → Hp → Hp → Prop} {a : α} (p : Pst b W σ F H C (.ok a)) (s : Same F H) : C a F H := p F H (Grow.refl s)
end
abbrev SemE := Sl → R D
abbrev SemT := Sl → R Bool
abbrev SemA := Sl → R (List D)
section
variable (K : PySem.W.Frag) (b : Bs) (W : WX)
def CV (Q : VK) : D → Hp → Hp → Prop := fun d F' H' => ∀ v, Rp K F' b.H0 H' d v → Q v H'
def CVs (Q : List V → Hp → Prop) : List D → Hp → Hp → Prop := fun d F' H' => ∀ v, RpL K F' b.H0 H' d v → Q v H'
def tSE (f : SemE) : TE := fun σ H Q => ∃ F m, Rel K b F m σ H ∧ Pst b W σ F H (CV K b Q) (f m)
def tST (f : SemT) : TT := fun σ H Q => ∃ F m, Rel K b F m σ H ∧ Pst b W σ F H (fun c _ H' => Q c H') (f m)
def tSA (f : SemA) : TA := fun σ H Q => ∃ F m, Rel K b F m σ H ∧ Pst b W σ F H (CVs K b Q) (f m)
def CO (H : Hp) (Q : VK) : List D → Hp → Hp → Prop := fun ds F' H' => ∀ a xs, H a = none → F' a = none → H' a = some (.lst xs) → RpL K F' b.H0 H' ds xs → Q (.ref a) H'
def tSO (f : SemA) : TE := fun σ H Q => ∃ F m, Rel K b F m σ H ∧ Pst b W σ F H (CO K b H Q) (f m)
end
abbrev SE (X : Cx) (b : Bs) (W : WX) (e : Expr) (f : SemE) : Prop := PE X e (tSE X.K b W f)
abbrev ST (X : Cx) (b : Bs) (W : WX) (e : Expr) (f : SemT) : Prop := PT X e (tST X.K b W f)
abbrev SW (X : Cx) (b : Bs) (W : WX) (e : Expr) (f : SemT) : Prop := PW X e (tST X.K b W f)
abbrev SA (X : Cx) (b : Bs) (W : WX) (es : List Expr) (f : SemA) : Prop := PA X es (tSA X.K b W f)
abbrev SO (X : Cx) (b : Bs) (W : WX) (e : Expr) (f : SemA) : Prop := PE X e (tSO X.K b W f)
theorem PE.weak {X : Cx} {e : Expr} {t t' : TE} (h : PE X e t) (w : ∀ σ H Q, t' σ H Q → t σ H Q) : PE X e t' := ⟨fun pins s σ H Q I q => h.run pins s σ H Q I (w _ _ _ q)⟩
theorem PT.weak {X : Cx} {e : Expr} {t t' : TT} (h : PT X e t) (w : ∀ σ H Q, t' σ H Q → t σ H Q) : PT X e t' := ⟨fun pins s σ H Q I q => h.run pins s σ H Q I (w _ _ _ q)⟩
theorem PW.weak {X : Cx} {e : Expr} {t t' : TT} (h : PW X e t) (w : ∀ σ H Q, t' σ H Q → t σ H Q) : PW X e t' := ⟨fun wh pins s σ H Q I q => h.run wh pins s σ H Q I (w _ _ _ q)⟩
theorem PA.weak {X : Cx} {e : List Expr} {t t' : TA} (h : PA X e t) (w : ∀ σ H Q, t' σ H Q → t σ H Q) : PA X e t' := ⟨fun pos pins s σ H Q I q => h.run pos pins s σ H Q I (w _ _ _ q)⟩
theorem PS.weak {X : Cx} {e : Stmt} {t t' : TS} (h : PS X e t) (w : ∀ D σ H, t' D σ H → t D σ H) : PS X e t' := ⟨fun pins s σ H D I q => h.run pins s σ H D I (w _ _ _ q)⟩
theorem PSs.weak {X : Cx} {e : List Stmt} {t t' : TS} (h : PSs X e t) (w : ∀ D σ H, t' D σ H → t D σ H) : PSs X e t' := ⟨fun pins s σ H D I q => h.run pins s σ H D I (w _ _ _ q)⟩
theorem PO.weak {X : Cx} {e : Option Expr} {t t' : TO} (h : PO X e t) (w : ∀ σ H Q, t' σ H Q → t σ H Q) : PO X e t' := ⟨fun pins s σ H Q I q => h.run pins s σ H Q I (w _ _ _ q)⟩
def eVar (i : Nat) : SemE := fun m => match m[i]? with
  | some (some d) => .ok d
  | _ => .stuck
def eC (d : D) : SemE := fun _ => .ok d
def e2 (op : D → D → R D) (f g : SemE) : SemE := fun m => (f m).bind fun x => (g m).bind fun y => op x y
def e1 (op : D → R D) (f : SemE) : SemE := fun m => (f m).bind op
def eA (op : List D → R D) (f : SemA) : SemE := fun m => (f m).bind op
def aNil : SemA := fun _ => .ok []
def aCons (f : SemE) (g : SemA) : SemA := fun m => (f m).bind fun x => (g m).bind fun xs => .ok (x :: xs)
def asB : D → R Bool
  | .bl c => .ok c
  | _ => .stuck
def tOf (f : SemE) : SemT := fun m => (f m).bind asB
def tNot (f : SemT) : SemT := fun m => (f m).bind fun c => .ok (!c)
def tAnd (f g : SemT) : SemT := fun m => (f m).bind fun c => if c = true then g m else .ok false
def tOr (f g : SemT) : SemT := fun m => (f m).bind fun c => if c = true then .ok true else g m
def eAnd (f g : SemE) : SemE := fun m => (f m).bind fun x => (asB x).bind fun c => if c = true then g m else .ok (.bl false)
def eOr (f g : SemE) : SemE := fun m => (f m).bind fun x => (asB x).bind fun c => if c = true then .ok (.bl true) else g m
def eNot (f : SemE) : SemE := fun m => (f m).bind fun x => (asB x).bind fun c => .ok (.bl (!c))
section
variable {X : Cx} {b : Bs} {W : WX} {e a c : Expr} {f g : SemE} {t u : SemT} {pos : Pos}
theorem se_var {i : Nat} (h : PE X e (tVar i)) : SE X b W e (eVar i) := PE.weak h fun σ H Q ⟨F, m, r, p⟩ => by
  unfold eVar at p
  split at p
  · rename_i d hd
    obtain ⟨v, h1, h2⟩ := r.slot i d hd
    exact ⟨v, h1, p.here r.sub v h2.rp⟩
  · exact p.elim
theorem se_c {v : V} {d : D} (h : PE X e (tC v)) (hr : ∀ K F H0 H, Rp K F H0 H d v) : SE X b W e (eC d) := PE.weak h fun σ H Q ⟨F, m, r, p⟩ => p.here r.sub v (hr _ _ _ _)
theorem se_int {i : Int} {j : Nat} : SE X b W (.Constant (.int i) j pos) (eC (.int i)) := se_c pe_int fun _ _ _ _ => .int _
theorem se_str {x : Str} {j : Nat} : SE X b W (.Constant (.str x) j pos) (eC (.str x)) := se_c pe_str fun _ _ _ _ => .str _
theorem se_bl {x : Bool} {j : Nat} : SE X b W (.Constant (.bool x) j pos) (eC (.bl x)) := se_c pe_bl fun _ _ _ _ => .bl _
theorem se_non {j : Nat} : SE X b W (.Constant .none j pos) (eC .non) := se_c pe_non fun _ _ _ _ => .non
theorem seq {R' : V → Hp → Prop} {σ : L2.St} {H : Hp} {α : Type} {k : D → R α} {C : α → Hp → Hp → Prop} {F : Hp} {m : Sl} (r : Rel X.K b F m σ H) (p : Pst b W σ F H C ((f m).bind k))
    (h : ∀ x F1 H1 v, Rel X.K b F1 m σ H1 → Grow F H F1 H1 → Rp X.K F1 b.H0 H1 x v → Pst b W σ F1 H1 C (k x) → R' v H1) : tSE X.K b W f σ H R' :=
  ⟨F, m, r, p.bind.imp fun x F1 H1 _ G q v hv => h x F1 H1 v (r.step G) G hv q⟩
def Op2 (X : Cx) (b : Bs) (W : WX) (fn : Value → Value → Sem Value) (op : D → D → R D) : Prop := ∃ r : R2, OpR X fn r ∧ ∀ (σ : L2.St) (F H : Hp) (Q : VK) (x y : D) (v u : V), Same F H → Rp X.K F b.H0 H x v → Rp X.K F b.H0 H y u →
  Pst b W σ F H (CV X.K b Q) (op x y) → r v u H Q
theorem se_bin {o : Operator} {op : D → D → R D} (ho : Op2 X b W (binaryOp o) op) (hf : SE X b W a f) (hg : SE X b W c g) : SE X b W (.BinOp a o c pos) (e2 op f g) := by
  obtain ⟨r, h1, h2⟩ := ho
  refine PE.weak (pe_op h1 hf hg) fun σ H Q ⟨F, m, R, p⟩ => ?_
  exact seq R p fun x F1 H1 v R1 G1 hv p1 => seq R1 p1 fun y F2 H2 u R2 G2 hu p2 => h2 σ F2 H2 Q x y v u R2.sub (hv.grow G2) hu p2
theorem se_cmp {o : CmpOp} {op : D → D → R D} (ho : Op2 X b W (compareOp o) op) (hf : SE X b W a f) (hg : SE X b W c g) (hm : behindInMarks o c = false) : SE X b W (.Compare a [o] [c] pos) (e2 op f g) := by
  obtain ⟨r, h1, h2⟩ := ho
  refine PE.weak (pe_cmpR h1 hf hg hm) fun σ H Q ⟨F, m, R, p⟩ => ?_
  exact seq R p fun x F1 H1 v R1 G1 hv p1 => seq R1 p1 fun y F2 H2 u R2 G2 hu p2 => h2 σ F2 H2 Q x y v u R2.sub (hv.grow G2) hu p2
theorem asB_pst {σ : L2.St} {F H : Hp} {α : Type} {k : Bool → R α} {C : α → Hp → Hp → Prop} {x : D} {v : V} {K : PySem.W.Frag} {H0 : Hp} (hv : Rp K F H0 H x v) (p : Pst b W σ F H C ((asB x).bind k)) : ∃ c, v = .bl c ∧ x = .bl c ∧ Pst b W σ F H C (k c) := by
  cases x <;> first | exact p.elim | skip
  rename_i c
  cases hv
  exact ⟨c, rfl, rfl, p⟩
theorem st_cmp {o : CmpOp} {op : D → D → R D} (ho : Op2 X b W (compareOp o) op) (hf : SE X b W a f) (hg : SE X b W c g) (hm : behindInMarks o c = false) : ST X b W (.Compare a [o] [c] pos) (tOf (e2 op f g)) := by
  obtain ⟨r, h1, h2⟩ := ho
  refine PT.weak (pt_cmpR h1 hf hg hm) fun σ H Q ⟨F, m, R, p⟩ => ?_
  have p' : Pst b W σ F H (fun c _ H' => Q c H') ((f m).bind fun x => (g m).bind fun y => (op x y).bind asB) := by
    unfold tOf e2 at p
    cases hf : f m <;> rw [hf] at p
    · cases hg : g m <;> rw [hg] at p <;> exact p
    · exact p
    · exact p
  refine seq R p' fun x F1 H1 v R1 G1 hv p1 => seq R1 p1 fun y F2 H2 u R2 G2 hu p2 => h2 σ F2 H2 _ x y v u R2.sub (hv.grow G2) hu ?_
  refine p2.bind.imp fun d F3 H3 _ G3 q w hw => ?_
  have q' : Pst b W σ F3 H3 (fun c _ H' => Q c H') ((asB d).bind fun c => .ok c) := by
    cases h : asB d <;> rw [h] at q <;> exact q
  obtain ⟨c, rfl, rfl, z⟩ := asB_pst hw q'
  exact ⟨c, rfl, z.here (R2.step G3).sub⟩
theorem st_val (hf : SE X b W e f) (he : ∀ whole, isTrue e X.env whole = (do let v ← whole; standAt e.pos; holding [v] (truthy v)) := by intro _; rfl) : ST X b W e (tOf f) := by
  refine PT.weak (L2.pt_val hf he) fun σ H Q ⟨F, m, R, p⟩ => ?_
  refine ⟨F, m, R, p.bind.imp fun x F1 H1 _ G q v hv => ?_⟩
  have q' : Pst b W σ F1 H1 (fun c _ H' => Q c H') ((asB x).bind fun c => .ok c) := by
    cases h : asB x <;> rw [h] at q <;> exact q
  obtain ⟨c, rfl, rfl, z⟩ := asB_pst hv q'
  exact ⟨c, rfl, z.here (R.step G).sub⟩
theorem st_not (h : ST X b W a t) : ST X b W (.UnaryOp .Not a pos) (tNot t) := by
  refine PT.weak (L2.pt_not h) fun σ H Q ⟨F, m, R, p⟩ => ?_
  exact ⟨F, m, R, p.bind.imp fun x F1 H1 _ G q => q.here (R.step G).sub⟩
theorem sw_and1 (h : ST X b W a t) : SW X b W (.BoolOp .And [a] pos) t := L2.pw_and1 h
theorem sw_or1 (h : ST X b W a t) : SW X b W (.BoolOp .Or [a] pos) t := L2.pw_or1 h
theorem sw_and {rest : List Expr} (h : ST X b W a t) (k : SW X b W (.BoolOp .And (c :: rest) pos) u) : SW X b W (.BoolOp .And (a :: c :: rest) pos) (tAnd t u) := by
  refine PW.weak (L2.pw_and h k) fun σ H Q ⟨F, m, R, p⟩ => ?_
  refine ⟨F, m, R, p.bind.imp fun x F1 H1 _ G q => ?_⟩
  cases x with
  | true => exact ⟨F1, m, R.step G, q⟩
  | false => exact q.here (R.step G).sub
theorem sw_or {rest : List Expr} (h : ST X b W a t) (k : SW X b W (.BoolOp .Or (c :: rest) pos) u) : SW X b W (.BoolOp .Or (a :: c :: rest) pos) (tOr t u) := by
  refine PW.weak (L2.pw_or h k) fun σ H Q ⟨F, m, R, p⟩ => ?_
  refine ⟨F, m, R, p.bind.imp fun x F1 H1 _ G q => ?_⟩
  cases x with
  | true => exact q.here (R.step G).sub
  | false => exact ⟨F1, m, R.step G, q⟩
theorem st_w (h : SW X b W e t) : ST X b W e t := PW.pt h
theorem se_one {op : BoolOp} (h : SE X b W a f) : SE X b W (.BoolOp op [a] pos) f := L2.pe_one h
theorem se_and {rest : List Expr} (h : SE X b W a f) (k : SE X b W (.BoolOp .And (c :: rest) pos) g) : SE X b W (.BoolOp .And (a :: c :: rest) pos) (eAnd f g) := by
  refine PE.weak (L2.pe_and h k) fun σ H Q ⟨F, m, R, p⟩ => ?_
  refine ⟨F, m, R, p.bind.imp fun x F1 H1 _ G q v hv => ?_⟩
  obtain ⟨c, rfl, rfl, z⟩ := asB_pst hv q
  refine ⟨c, rfl, ?_⟩
  cases c with
  | true => exact ⟨F1, m, R.step G, z⟩
  | false => exact z.here (R.step G).sub _ (.bl _)
theorem se_or {rest : List Expr} (h : SE X b W a f) (k : SE X b W (.BoolOp .Or (c :: rest) pos) g) : SE X b W (.BoolOp .Or (a :: c :: rest) pos) (eOr f g) := by
  refine PE.weak (L2.pe_or h k) fun σ H Q ⟨F, m, R, p⟩ => ?_
  refine ⟨F, m, R, p.bind.imp fun x F1 H1 _ G q v hv => ?_⟩
  obtain ⟨c, rfl, rfl, z⟩ := asB_pst hv q
  refine ⟨c, rfl, ?_⟩
  cases c with
  | true => exact z.here (R.step G).sub _ (.bl _)
  | false => exact ⟨F1, m, R.step G, z⟩
theorem se_not (h : SE X b W a f) : SE X b W (.UnaryOp .Not a pos) (eNot f) := by
  refine PE.weak (L2.pe_not h) fun σ H Q ⟨F, m, R, p⟩ => ?_
  refine ⟨F, m, R, p.bind.imp fun x F1 H1 _ G q v hv => ?_⟩
  obtain ⟨c, rfl, rfl, z⟩ := asB_pst hv q
  exact ⟨c, rfl, z.here (R.step G).sub _ (.bl _)⟩
theorem sa_nil : SA X b W [] aNil := PA.weak pa_nil fun σ H Q ⟨F, m, R, p⟩ => p.here R.sub [] .nil
theorem sa_cons {es : List Expr} {h : SemA} (he : SE X b W e f) (hr : SA X b W es h) (hs : starEach (e :: es) X.env = (false, eval e X.env) :: starEach es X.env := by rfl) : SA X b W (e :: es) (aCons f h) := by
  refine PA.weak (pa_cons he hr hs) fun σ H Q ⟨F, m, R, p⟩ => ?_
  refine seq R p fun x F1 H1 v R1 G1 hv p1 => ⟨F1, m, R1, p1.bind.imp fun xs F2 H2 _ G2 q vs hvs => ?_⟩
  exact q.here (R1.step G2).sub _ (.cons (hv.grow G2) hvs)
theorem seqA {R' : List V → Hp → Prop} {σ : L2.St} {H : Hp} {α : Type} {h : SemA} {k : List D → R α} {C : α → Hp → Hp → Prop} {F : Hp} {m : Sl} (r : Rel X.K b F m σ H) (p : Pst b W σ F H C ((h m).bind k))
    (q : ∀ x F1 H1 v, Rel X.K b F1 m σ H1 → Grow F H F1 H1 → RpL X.K F1 b.H0 H1 x v → Pst b W σ F1 H1 C (k x) → R' v H1) : tSA X.K b W h σ H R' :=
  ⟨F, m, r, p.bind.imp fun x F1 H1 _ G z v hv => q x F1 H1 v (r.step G) G hv z⟩
def mkTup (xs : List D) : R D := if xs.length ≤ sizeLine then .ok (.tup xs) else .stuck
theorem se_tup {es : List Expr} {h : SemA} {k : Nat} (ha : SA X b W es h) : SE X b W (.Tuple es k pos) (eA mkTup h) := by
  refine PE.weak (pe_tup ha) fun σ H Q ⟨F, m, R, p⟩ => ?_
  refine seqA R p fun xs F1 H1 vs R1 G1 hv p1 => ?_
  unfold mkTup at p1
  split at p1
  · rename_i hl
    refine ⟨by rw [← hv.length]; exact hl, fun q hq => ?_⟩
    have G := Grow.still (o := .tup vs) R1.sub hq
    exact (p1 _ _ G) _ (.tup upd_same (hv.grow G))
  · exact p1.elim
def mkLst (xs : List D) : R (List D) := if xs.length ≤ sizeLine then .ok xs else .stuck
def aThen (h : SemA) (k : List D → R (List D)) : SemA := fun m => (h m).bind k
theorem so_lst {es : List Expr} {h : SemA} (ha : SA X b W es h) : SO X b W (.List es pos) (aThen h mkLst) := by
  refine PE.weak (pe_lst ha) fun σ H Q ⟨F, m, R, p⟩ => ?_
  refine seqA R p fun xs F1 H1 vs R1 G1 hv p1 => ?_
  unfold mkLst at p1
  split at p1
  · rename_i hl
    refine ⟨by rw [← hv.length]; exact hl, fun q hq => ?_⟩
    have G := Grow.loose (o := .lst vs) R1.sub hq
    exact (p1 _ _ G) q vs (G1.same.free hq) (R1.sub.free hq) upd_same (hv.grow G)
  · exact p1.elim
def eOwn (h : SemA) : SemE := fun m => (h m).bind fun xs => .ok (.lst false xs)
theorem se_own {h : SemA} (ho : SO X b W e h) : SE X b W e (eOwn h) := by
  refine PE.weak ho fun σ H Q ⟨F, m, R, p⟩ => ?_
  refine ⟨F, m, R, ?_⟩
  unfold eOwn at p
  cases hm : h m with
  | exc c => rw [hm] at p; exact p
  | stuck => rw [hm] at p; exact p.elim
  | ok xs =>
    rw [hm] at p
    refine fun F1 H1 G1 a vs h0 h1 h2 hv => ?_
    have s1 := (R.step G1).sub
    have sF : Same F1 (upd F1 a (.lst vs)) := same_upd h1
    have sH : Same (upd F1 a (.lst vs)) H1 := fun c o hc => by
      by_cases hb : c = a
      · subst hb; rw [upd_same] at hc; rw [h2]; exact hc
      · rw [upd_ne hb] at hc; exact s1 _ _ hc
    refine p (upd F1 a (.lst vs)) H1 ⟨G1.same, G1.sub.trans sF, sH, fun c o hc => ?_⟩ _ (.lst upd_same (hv.mono sF (Same.refl _)))
    by_cases hb : c = a
    · subst hb; exact .inr h0
    · rw [upd_ne hb] at hc; exact G1.new _ _ hc
end
end CT

namespace CT
open PySem PySem.Spec PyProof.Rows L2
def addD : D → D → R D
  | .int i, .int j => .ok (.int (i + j))
  | .str x, .str y => if x.length + y.length ≤ sizeLine then .ok (.str (x ++ y)) else .stuck
  | .tup xs, .tup ys => if xs.length + ys.length ≤ sizeLine then .ok (.tup (xs ++ ys)) else .stuck
  | .lst _ xs, .lst _ ys => if xs.length + ys.length ≤ sizeLine then .ok (.lst false (xs ++ ys)) else .stuck
  | _, _ => .stuck
def subD : D → D → R D
  | .int i, .int j => .ok (.int (i - j))
  | _, _ => .stuck
def mulOk (i j : Int) : Prop := (-(2 ^ 64) < i ∧ i < 2 ^ 64) ∨ (-(2 ^ 64) < j ∧ j < 2 ^ 64) ∨ i.natAbs.log2 + j.natAbs.log2 < 1000000
instance (i j : Int) : Decidable (mulOk i j) := by unfold mulOk; infer_instance
def mulD : D → D → R D
  | .int i, .int j => if mulOk i j then .ok (.int (i * j)) else .stuck
  | _, _ => .stuck
def modD : D → D → R D
  | .int i, .int j => if j ≠ 0 then .ok (.int (i.fmod j)) else .stuck
  | _, _ => .stuck
def divOk (j : Int) : Prop := (j ≠ 0 ∧ j.natAbs < 1073741824) ∨ (0 < j ∧ j.natAbs.log2 < 9000)
instance (j : Int) : Decidable (divOk j) := by unfold divOk; infer_instance
def divD : D → D → R D
  | .int i, .int j => if divOk j then .ok (.int (i.fdiv j)) else .stuck
  | _, _ => .stuck
def powD : D → D → R D
  | .int i, .int j => if 0 ≤ j ∧ (Builtin.Int.intBits i : Int) * j ≤ 2 ^ 27 then .ok (.int (i ^ j.toNat)) else .stuck
  | _, _ => .stuck
section
variable {X : Cx} {b : Bs} {W : WX}
theorem o_add : Op2 X b W (binaryOp .Add) addD := by
  refine ⟨_, (op_add (X := X)).or ((op_add_str (X := X)).or ((op_catA (X := X)).or (op_cat (X := X)))), fun σ F H Q x y v u s hx hy p => ?_⟩
  cases x with
  | int i =>
    cases y <;> first | exact p.elim | skip
    rename_i j
    cases hx; cases hy
    exact .inl ⟨i, j, rfl, rfl, p.here s _ (.int _)⟩
  | str i =>
    cases y <;> first | exact p.elim | skip
    rename_i j
    cases hx; cases hy
    simp only [addD] at p
    split at p
    · rename_i hl
      exact .inr (.inl ⟨i, j, rfl, rfl, hl, p.here s _ (.str _)⟩)
    · exact p.elim
  | tup ds =>
    cases y <;> first | exact p.elim | skip
    rename_i es
    obtain ⟨a, xs, rfl, h1', h2⟩ := hx.tuple'
    obtain ⟨c, ys, rfl, k1', k2⟩ := hy.tuple'
    have h1 : SqT X.K H a xs := .inl (.inl h1')
    have k1 : SqT X.K H c ys := .inl (.inl k1')
    simp only [addD] at p
    split at p
    · rename_i hl
      refine .inr (.inr (.inl ⟨a, c, xs, ys, rfl, rfl, h1, k1, by rw [← h2.length, ← k2.length]; exact hl, fun e => ?_, fun e1 e2 => ?_, fun e1 e2 q hq => ?_⟩))
      · subst e
        cases h2
        exact p.here s _ (.tup k1' k2)
      · subst e2
        cases k2
        rw [List.append_nil] at p
        exact p.here s _ (.tup h1' h2)
      · have G := Grow.still (o := .tup (xs ++ ys)) s hq
        exact (p _ _ G) _ (.tup upd_same ((h2.grow G).app (k2.grow G)))
    · exact p.elim
  | lst t ds =>
    cases y <;> first | exact p.elim | skip
    rename_i t' es
    obtain ⟨a, xs, rfl, h1, h2⟩ := hx.list s
    obtain ⟨c, ys, rfl, k1, k2⟩ := hy.list s
    simp only [addD] at p
    split at p
    · rename_i hl
      refine .inr (.inr (.inr ⟨a, c, xs, ys, rfl, rfl, h1, k1, by rw [← h2.length, ← k2.length]; exact hl, fun q hq => ?_⟩))
      have G := Grow.still (o := .lst (xs ++ ys)) s hq
      exact (p _ _ G) _ (.lst upd_same ((h2.grow G).app (k2.grow G)))
    · exact p.elim
  | unk => exact p.elim
  | ex _ => exact p.elim
  | fn _ => exact p.elim
  | dic _ _ => exact p.elim
  | dct _ _ _ => exact p.elim
  | non => exact p.elim
  | bl _ => exact p.elim
  | fr _ => exact p.elim
def a2 (op : D → D → R (List D)) (f g : SemE) : SemA := fun m => (f m).bind fun x => (g m).bind fun y => op x y
theorem o_int2 {fn : Value → Value → Sem Value} {op : D → D → R D} {r : R2} (h : OpR X fn r) (hs : ∀ x y, (∃ i j, x = .int i ∧ y = .int j) ∨ op x y = .stuck)
    (hr : ∀ (i j : Int) (H : Hp) (Q : VK), (∃ d, op (.int i) (.int j) = .ok d) → (∀ d v, op (.int i) (.int j) = .ok d → (∀ K F H0, Rp K F H0 H d v) → Q v H) → r (.int i) (.int j) H Q)
    (hx : ∀ (i j : Int) c, op (.int i) (.int j) ≠ .exc c) : Op2 X b W fn op := by
  refine ⟨r, h, fun σ F H Q x y v u s vx vy p => ?_⟩
  rcases hs x y with ⟨i, j, rfl, rfl⟩ | e
  · cases vx; cases vy
    refine hr i j H Q ?_ fun d v e hv => ?_
    · cases e : op (.int i) (.int j) with
      | ok d => exact ⟨d, rfl⟩
      | exc c => exact absurd e (hx i j c)
      | stuck => rw [e] at p; exact p.elim
    · rw [e] at p
      exact p.here s v (hv _ _ _)
  · rw [e] at p; exact p.elim
theorem o_sub : Op2 X b W (binaryOp .Sub) subD := o_int2 op_sub (fun x y => by cases x <;> cases y <;> first | exact .inr rfl | exact .inl ⟨_, _, rfl, rfl⟩)
  (fun i j H Q _ q => ⟨i, j, rfl, rfl, q _ _ rfl fun _ _ _ => .int _⟩) (fun _ _ _ e => nomatch e)
theorem o_mul : Op2 X b W (binaryOp .Mult) mulD := o_int2 ((op_mul (X := X)).or (op_mulW (X := X))) (fun x y => by cases x <;> cases y <;> first | exact .inr rfl | exact .inl ⟨_, _, rfl, rfl⟩)
  (fun i j H Q ⟨d, e⟩ q => by
    have e' := e
    simp only [mulD] at e
    split at e
    · rename_i hc
      have e2 : mulD (.int i) (.int j) = .ok (.int (i * j)) := by simp only [mulD]; rw [if_pos hc]
      rcases hc with hc | hc | hc
      · exact .inl ⟨i, j, rfl, rfl, .inl hc, q _ _ e2 fun _ _ _ => .int _⟩
      · exact .inl ⟨i, j, rfl, rfl, .inr hc, q _ _ e2 fun _ _ _ => .int _⟩
      · exact .inr ⟨i, j, rfl, rfl, hc, q _ _ e2 fun _ _ _ => .int _⟩
    · cases e) (fun i j c e => by simp only [mulD] at e; split at e <;> cases e)
theorem o_mod : Op2 X b W (binaryOp .Mod) modD := o_int2 op_modN (fun x y => by cases x <;> cases y <;> first | exact .inr rfl | exact .inl ⟨_, _, rfl, rfl⟩)
  (fun i j H Q ⟨d, e⟩ q => by
    simp only [modD] at e
    split at e
    · rename_i hc
      exact ⟨i, j, rfl, rfl, hc, q _ _ (by simp only [modD]; rw [if_pos hc]) fun _ _ _ => .int _⟩
    · cases e) (fun i j c e => by simp only [modD] at e; split at e <;> cases e)
theorem o_div : Op2 X b W (binaryOp .FloorDiv) divD := o_int2 ((op_fdivN (X := X)).or (op_fdivW (X := X))) (fun x y => by cases x <;> cases y <;> first | exact .inr rfl | exact .inl ⟨_, _, rfl, rfl⟩)
  (fun i j H Q ⟨d, e⟩ q => by
    simp only [divD] at e
    split at e
    · rename_i hc
      have e2 : divD (.int i) (.int j) = .ok (.int (i.fdiv j)) := by simp only [divD]; rw [if_pos hc]
      rcases hc with hc | hc
      · exact .inl ⟨i, j, rfl, rfl, hc, q _ _ e2 fun _ _ _ => .int _⟩
      · refine .inr ⟨i, j, rfl, rfl, hc, q _ _ e2 fun _ _ _ => ?_⟩
        rw [Int.fdiv_eq_ediv_of_nonneg i (by have := hc.1; omega)]
        exact .int _
    · cases e) (fun i j c e => by simp only [divD] at e; split at e <;> cases e)
theorem op_powB : OpR X (binaryOp .Pow) (rI (fun i j => 0 ≤ j ∧ (Builtin.Int.intBits i : Int) * j ≤ 2 ^ 27) fun i j => .int (i ^ j.toNat)) := opI fun _ _ _ _ _ _ _ hc q => pow_int hc.1 hc.2 q
theorem o_pow : Op2 X b W (binaryOp .Pow) powD := o_int2 op_powB (fun x y => by cases x <;> cases y <;> first | exact .inr rfl | exact .inl ⟨_, _, rfl, rfl⟩)
  (fun i j H Q ⟨d, e⟩ q => by
    simp only [powD] at e
    split at e
    · rename_i hc
      exact ⟨i, j, rfl, rfl, hc, q _ _ (by simp only [powD]; rw [if_pos hc]) fun _ _ _ => .int _⟩
    · cases e) (fun i j c e => by simp only [powD] at e; split at e <;> cases e)
def eqvD (x y : D) : Bool := PyData.eqv (py x) (py y)
def strs2 : D → D → Bool
  | .str _, .str _ => true
  | _, _ => false
def eqD (x y : D) : R D := if (SeqAt.shaped (py x) && SeqAt.shaped (py y) || strs2 x y) = true then .ok (.bl (eqvD x y)) else .stuck
def neD (x y : D) : R D := if (SeqAt.shaped (py x) && SeqAt.shaped (py y) || strs2 x y) = true then .ok (.bl (!eqvD x y)) else .stuck
theorem o_eq (hu : X.A.units + 64 < cLine) : Op2 X b W (compareOp .Eq) eqD := ⟨_, (op_eqD hu).or op_eq, fun σ F H Q x y v u s hx hy p => by
  unfold eqD at p
  split at p
  · rename_i h
    rw [Bool.or_eq_true, Bool.and_eq_true] at h
    rcases h with h | h
    · exact .inl ⟨_, _, Rp.dp s _ _ (okP_sh h.1) hx, Rp.dp s _ _ (okP_sh h.2) hy, h.1, h.2, p.here s _ (.bl _)⟩
    · refine .inr ?_
      cases x <;> first | (cases h; done) | skip
      cases y <;> first | (cases h; done) | skip
      cases hx
      cases hy
      rename_i a c
      refine ⟨rfl, ?_⟩
      have e : decide (V.str a = V.str c) = eqvD (.str a) (.str c) := by rw [dec_str]; simp [eqvD, py, PyData.eqv]
      rw [e]
      exact p.here s _ (.bl _)
  · exact p.elim⟩
theorem o_ne (hu : X.A.units + 64 < cLine) : Op2 X b W (compareOp .NotEq) neD := ⟨_, (op_neD hu).or op_ne, fun σ F H Q x y v u s hx hy p => by
  unfold neD at p
  split at p
  · rename_i h
    rw [Bool.or_eq_true, Bool.and_eq_true] at h
    rcases h with h | h
    · exact .inl ⟨_, _, Rp.dp s _ _ (okP_sh h.1) hx, Rp.dp s _ _ (okP_sh h.2) hy, h.1, h.2, p.here s _ (.bl _)⟩
    · refine .inr ?_
      cases x <;> first | (cases h; done) | skip
      cases y <;> first | (cases h; done) | skip
      cases hx
      cases hy
      rename_i a c
      refine ⟨rfl, ?_⟩
      have e : decide (V.str a = V.str c) = eqvD (.str a) (.str c) := by rw [dec_str]; simp [eqvD, py, PyData.eqv]
      rw [e]
      exact p.here s _ (.bl _)
  · exact p.elim⟩
def ltD : D → D → R D
  | .int i, .int j => .ok (.bl (decide (i < j)))
  | _, _ => .stuck
def leD : D → D → R D
  | .int i, .int j => .ok (.bl (decide (i ≤ j)))
  | _, _ => .stuck
def geD : D → D → R D
  | .int i, .int j => .ok (.bl (decide (j ≤ i)))
  | _, _ => .stuck
theorem o_lt : Op2 X b W (compareOp .Lt) ltD := o_int2 op_lt (fun x y => by cases x <;> cases y <;> first | exact .inr rfl | exact .inl ⟨_, _, rfl, rfl⟩)
  (fun i j H Q _ q => ⟨i, j, rfl, rfl, q _ _ rfl fun _ _ _ => .bl _⟩) (fun _ _ _ e => nomatch e)
theorem o_le : Op2 X b W (compareOp .LtE) leD := o_int2 op_le (fun x y => by cases x <;> cases y <;> first | exact .inr rfl | exact .inl ⟨_, _, rfl, rfl⟩)
  (fun i j H Q _ q => ⟨i, j, rfl, rfl, q _ _ rfl fun _ _ _ => .bl _⟩) (fun _ _ _ e => nomatch e)
theorem o_ge : Op2 X b W (compareOp .GtE) geD := o_int2 op_ge (fun x y => by cases x <;> cases y <;> first | exact .inr rfl | exact .inl ⟨_, _, rfl, rfl⟩)
  (fun i j H Q _ q => ⟨i, j, rfl, rfl, q _ _ rfl fun _ _ _ => .bl _⟩) (fun _ _ _ e => nomatch e)
def eChain (p q : D → D → R D) (f g h : SemE) : SemE := fun m => (f m).bind fun x => (g m).bind fun y => (p x y).bind fun z => (asB z).bind fun c => if c = true then (h m).bind fun w => q y w else .ok (.bl false)
theorem se_chain {a c e : Expr} {f g h : SemE} {o o' : CmpOp} {p q : D → D → R D} {pos : Pos} (ho : Op2 X b W (compareOp o) p) (ho' : Op2 X b W (compareOp o') q) (hf : SE X b W a f) (hg : SE X b W c g) (hh : SE X b W e h)
    (hm : lastMarks [o, o'] [c, e] = false := by rfl) : SE X b W (.Compare a [o, o'] [c, e] pos) (eChain p q f g h) := by
  obtain ⟨r, h1, h2⟩ := ho
  obtain ⟨r', k1, k2⟩ := ho'
  refine PE.weak (pe_chain h1 k1 hf hg hh hm) fun σ H Q ⟨F, m, R, P⟩ => ?_
  refine seq R P fun x F1 H1 v R1 G1 hv p1 => seq R1 p1 fun y F2 H2 u R2 G2 hu p2 => h2 σ F2 H2 _ x y v u R2.sub (hv.grow G2) hu ?_
  refine p2.bind.imp fun z F3 H3 _ G3 p3 w hw => ?_
  obtain ⟨c, rfl, rfl, p4⟩ := asB_pst hw p3
  refine ⟨c, rfl, ?_⟩
  cases c with
  | false => exact p4.here (R2.step G3).sub _ (.bl _)
  | true => exact seq (R2.step G3) p4 fun t F4 H4 w' R4 G4 hw' p5 => k2 σ F4 H4 Q y t u w' R4.sub ((hu.grow G3).grow G4) hw' p5
theorem st_of {e : Expr} {f : SemE} (hf : SE X b W e f) (he : ∀ whole, isTrue e X.env whole = (do let v ← whole; standAt e.pos; holding [v] (truthy v)) := by intro _; rfl) : ST X b W e (tOf f) := st_val hf he
def isSc : D → Bool
  | .non => true
  | .bl _ => true
  | .int _ => true
  | .str _ => true
  | _ => false
def memD (x : D) (ys : List D) : Bool := ys.any fun z => eqvD z x
def inD (x : D) : D → R D
  | .lst _ ys => if (SeqAt.shaped (py x) && SeqAt.shaped (.list (pyL ys))) = true then .ok (.bl (memD x ys)) else .stuck
  | .fr ys => if (SeqAt.shaped (py x) && SeqAt.shaped (.list (pyL ys))) = true then .ok (.bl (memD x ys)) else .stuck
  | .tup ys => if (isSc x && ys.all isSc) = true then .ok (.bl (memD x ys)) else .stuck
  | .str y => match x with
    | .str z => .ok (.bl (!(Builtin.Str.occurrences y z 0 y.length 1).isEmpty))
    | _ => .stuck
  | _ => .stuck
theorem pyL_map : ∀ ys : List D, pyL ys = ys.map py
  | [] => rfl
  | y :: ys => by rw [pyL, pyL_map ys]; rfl
theorem memD_py (x : D) (ys : List D) : (pyL ys).any (fun z => PyData.eqv z (py x)) = memD x ys := by
  rw [pyL_map, List.any_map]; rfl
theorem sc_flat {K : PySem.W.Frag} {F H0 H : Hp} {x : D} {v : V} (h : isSc x = true) (r : Rp K F H0 H x v) : flatV v = true := by
  cases x <;> first | (simp [isSc] at h; done) | (cases r; rfl)
theorem sc_eq {K : PySem.W.Frag} {F H0 H : Hp} {x y : D} {v u : V} (h : isSc x = true) (h' : isSc y = true) (r : Rp K F H0 H x v) (r' : Rp K F H0 H y u) : eqV v u = eqvD x y := by
  cases x <;> first | (simp [isSc] at h; done) | (cases r; cases y <;> first | (simp [isSc] at h'; done) | (cases r'; simp [eqV, eqvD, py, PyData.eqv]))
theorem sc_all {K : PySem.W.Frag} {F H0 H : Hp} : ∀ {ys : List D} {us : List V}, ys.all isSc = true → RpL K F H0 H ys us → us.all flatV = true
  | _, _, _, .nil => rfl
  | _, _, h, .cons r t => by
    rw [List.all_cons, Bool.and_eq_true] at h ⊢
    exact ⟨sc_flat h.1 r, sc_all h.2 t⟩
theorem sc_mem {K : PySem.W.Frag} {F H0 H : Hp} {x : D} {v : V} (hx : isSc x = true) (rx : Rp K F H0 H x v) : ∀ {ys : List D} {us : List V}, ys.all isSc = true → RpL K F H0 H ys us → inV v us = memD x ys
  | _, _, _, .nil => rfl
  | _, _, h, .cons r t => by
    rw [List.all_cons, Bool.and_eq_true] at h
    unfold inV memD
    rw [List.any_cons, List.any_cons, sc_eq h.1 hx r rx]
    have := sc_mem hx rx h.2 t
    unfold inV memD at this
    rw [this]
theorem o_in (hu : X.A.units + 65 < cLine) : Op2 X b W (compareOp .In) inD := by
  refine ⟨_, (op_inD hu).or ((op_in_seq (X := X)).or (op_in_str (X := X))), fun σ F H Q x y v u s hx hy p => ?_⟩
  cases y with
  | lst t ys =>
    simp only [inD] at p
    split at p
    · rename_i h
      rw [Bool.and_eq_true] at h
      have hy' := Rp.dp s _ _ (by rw [okP]; exact okPL_sh h.2) hy
      rw [py] at hy'
      exact .inl ⟨_, _, Rp.dp s _ _ (okP_sh h.1) hx, hy', h.1, h.2, by rw [memD_py]; exact p.here s _ (.bl _)⟩
    · exact p.elim
  | fr ys =>
    simp only [inD] at p
    split at p
    · rename_i h
      rw [Bool.and_eq_true] at h
      have hy' := Rp.dp s _ _ (by rw [okP]; exact okPL_sh h.2) hy
      rw [py] at hy'
      exact .inl ⟨_, _, Rp.dp s _ _ (okP_sh h.1) hx, hy', h.1, h.2, by rw [memD_py]; exact p.here s _ (.bl _)⟩
    · exact p.elim
  | tup ys =>
    simp only [inD] at p
    split at p
    · rename_i h
      rw [Bool.and_eq_true] at h
      obtain ⟨a, us, rfl, h1, h2⟩ := hy.tuple
      refine .inr (.inl ⟨a, us, rfl, .inr h1, sc_flat h.1 hx, sc_all h.2 h2, ?_⟩)
      rw [sc_mem h.1 hx h.2 h2]
      exact p.here s _ (.bl _)
    · exact p.elim
  | str y =>
    cases x <;> first | exact p.elim | skip
    cases hx; cases hy
    exact .inr (.inr ⟨_, _, rfl, rfl, p.here s _ (.bl _)⟩)
  | non => exact p.elim
  | bl _ => exact p.elim
  | int _ => exact p.elim
  | unk => exact p.elim
  | ex _ => exact p.elim
  | fn _ => exact p.elim
  | dic _ _ => exact p.elim
  | dct _ _ _ => exact p.elim
def ixD : D → D → R D
  | .lst _ xs, .int i => match atI xs i with
    | some d => .ok d
    | none => .stuck
  | .fr xs, .int i => match atI xs i with
    | some d => .ok d
    | none => .stuck
  | .tup xs, .int i => match atI xs i with
    | some d => .ok d
    | none => .stuck
  | .str z, .int i => if z.length ≤ sizeLine then (match atI z.cps.toList i with
    | some c => .ok (.str ⟨#[c]⟩)
    | none => .stuck) else .stuck
  | _, _ => .stuck
theorem atI_rp {K : PySem.W.Frag} {F H0 H : Hp} {ds : List D} {vs : List V} {i : Int} {d : D} (r : RpL K F H0 H ds vs) (e : atI ds i = some d) : ∃ v, atI vs i = some v ∧ Rp K F H0 H d v := by
  unfold atI at e ⊢
  rw [← r.length]
  cases h : ixN ds.length i with
  | none => rw [h] at e; cases e
  | some j => rw [h] at e; exact r.get e
theorem se_ix {a c : Expr} {f g : SemE} {pos : Pos} (hf : SE X b W a f) (hg : SE X b W c g) (hs : PlainIx c := by exact fun _ _ => rfl) : SE X b W (.Subscript a c pos) (e2 ixD f g) := by
  refine PE.weak (pe_ix ix_seq hf hg hs) fun σ H Q ⟨F, m, R, p⟩ => ?_
  refine seq R p fun x F1 H1 v R1 G1 hv p1 => seq R1 p1 fun y F2 H2 u R2 G2 hu p2 => ?_
  have hv := hv.grow G2
  cases x <;> first | exact p2.elim | skip
  · -- a text
    cases y <;> first | exact p2.elim | skip
    cases hv; cases hu
    simp only [ixD] at p2
    split at p2
    · rename_i hz
      split at p2
      · rename_i c hc
        exact .inr (.inr ⟨_, _, c, rfl, rfl, hz, hc, p2.here R2.sub _ (.str _)⟩)
      · exact p2.elim
    · exact p2.elim
  · cases y <;> first | exact p2.elim | skip
    obtain ⟨a, xs, rfl, h1, h2⟩ := hv.tuple
    cases hu
    simp only [ixD] at p2
    split at p2
    · rename_i d hd
      obtain ⟨w, k1, k2⟩ := atI_rp h2 hd
      exact .inr (.inl ⟨a, xs, _, w, rfl, rfl, h1, k1, p2.here R2.sub _ k2⟩)
    · exact p2.elim
  · cases y <;> first | exact p2.elim | skip
    obtain ⟨a, xs, rfl, h1, h2⟩ := hv.list R2.sub
    cases hu
    simp only [ixD] at p2
    split at p2
    · rename_i d hd
      obtain ⟨w, k1, k2⟩ := atI_rp h2 hd
      exact .inl ⟨a, xs, _, w, rfl, rfl, .inl (.inl h1), k1, p2.here R2.sub _ k2⟩
    · exact p2.elim
  · cases y <;> first | exact p2.elim | skip
    obtain ⟨a, xs, rfl, h1, h2⟩ := hv.frl R2.sub
    cases hu
    simp only [ixD] at p2
    split at p2
    · rename_i d hd
      obtain ⟨w, k1, k2⟩ := atI_rp h2 hd
      exact .inl ⟨a, xs, _, w, rfl, rfl, h1, k1, p2.here R2.sub _ k2⟩
    · exact p2.elim
end
end CT

namespace CT
open PySem PySem.Spec PyProof.Rows L2
abbrev SemP := Sl → R (Option Int)
def tSP (K : PySem.W.Frag) (b : Bs) (W : WX) (f : SemP) : TO := fun σ H Q => ∃ F m, Rel K b F m σ H ∧ Pst b W σ F H (fun o _ H' => Q o H') (f m)
abbrev SP (X : Cx) (b : Bs) (W : WX) (e : Option Expr) (f : SemP) : Prop := PO X e (tSP X.K b W f)
def pNo : SemP := fun _ => .ok none
def asI : D → R Int
  | .int i => .ok i
  | _ => .stuck
def pSo (f : SemE) : SemP := fun m => (f m).bind fun d => (asI d).bind fun i => .ok (some i)
def cutA {α : Type} (xs : List α) (lo hi : Option Int) : List α := (xs.drop (HT.sIx xs.length 0 lo)).take (HT.sIx xs.length xs.length hi - HT.sIx xs.length 0 lo)
def cutD (x : D) (lo hi : Option Int) : R D := match x with
  | .lst _ xs => .ok (.lst false (cutA xs lo hi))
  | .fr xs => .ok (.lst false (cutA xs lo hi))
  | .tup xs => .ok (.tup (cutA xs lo hi))
  | .str z => if z.length ≤ sizeLine then .ok (.str (cutS z lo hi)) else .stuck
  | _ => .stuck
def eCut (f : SemE) (p q : SemP) : SemE := fun m => (f m).bind fun x => (p m).bind fun lo => (q m).bind fun hi => cutD x lo hi
section
variable {X : Cx} {b : Bs} {W : WX} {e : Expr} {f g : SemE} {pos p2 : Pos} {lo hi : Option Expr} {p q : SemP}
theorem sp_no : SP X b W none pNo := PO.weak po_none fun σ H Q ⟨F, m, R, z⟩ => z.here R.sub
theorem sp_so (h : SE X b W e f) : SP X b W (some e) (pSo f) := PO.weak (po_some h) fun σ H Q ⟨F, m, R, z⟩ => by
  refine ⟨F, m, R, z.bind.imp fun x F1 H1 _ G z1 v hv => ?_⟩
  cases x <;> first | exact z1.elim | skip
  cases hv
  exact ⟨_, rfl, z1.here (R.step G).sub⟩
theorem cutA_rp {K : PySem.W.Frag} {F H0 H : Hp} {ds : List D} {vs : List V} (r : RpL K F H0 H ds vs) (lo hi : Option Int) : RpL K F H0 H (cutA ds lo hi) (cutV vs lo hi) := by
  unfold cutA cutV
  rw [r.length]
  exact (r.drop _).take _
theorem cutA_all {α : Type} {xs : List α} {lo hi : Option Int} (h1 : HT.sIx xs.length 0 lo = 0) (h2 : HT.sIx xs.length xs.length hi = xs.length) : cutA xs lo hi = xs := by
  unfold cutA
  rw [h1, h2, List.drop_zero, Nat.sub_zero, List.take_length]
theorem seqP {R' : Option Int → Hp → Prop} {σ : L2.St} {H : Hp} {α : Type} {h : SemP} {k : Option Int → R α} {C : α → Hp → Hp → Prop} {F : Hp} {m : Sl} (r : Rel X.K b F m σ H) (p : Pst b W σ F H C ((h m).bind k))
    (q : ∀ x F1 H1, Rel X.K b F1 m σ H1 → Grow F H F1 H1 → Pst b W σ F1 H1 C (k x) → R' x H1) : tSP X.K b W h σ H R' :=
  ⟨F, m, r, p.bind.imp fun x F1 H1 _ G z => q x F1 H1 (r.step G) G z⟩
theorem se_cut (hf : SE X b W e f) (hp : SP X b W lo p) (hq : SP X b W hi q) : SE X b W (.Subscript e (.Slice lo hi none p2) pos) (eCut f p q) := by
  refine PE.weak (pe_slice ((sl_list (X := X)).or ((sl_tupA (X := X)).or (sl_str (X := X)))) hf hp hq) fun σ H Q ⟨F, m, R, z⟩ => ?_
  refine seq R z fun x F1 H1 v R1 G1 hv z1 => seqP R1 z1 fun lo F2 H2 R2 G2 z2 => seqP R2 z2 fun hi F3 H3 R3 G3 z3 => ?_
  have hv := (hv.grow G2).grow G3
  have s := R3.sub
  cases x <;> first | exact z3.elim | skip
  · -- a text
    cases hv
    simp only [cutD] at z3
    split at z3
    · rename_i hl
      exact .inr (.inr ⟨_, rfl, hl, z3.here s _ (.str _)⟩)
    · exact z3.elim
  · obtain ⟨a, xs, rfl, h1', h2⟩ := hv.tuple'
    have h1 : SqT X.K H3 a xs := .inl (.inl h1')
    refine .inr (.inl ⟨a, xs, rfl, h1, fun hw => ?_, fun hw q hq => ?_⟩)
    · rw [← h2.length] at hw
      have z4 := z3.here s
      simp only [CV] at z4
      rw [cutA_all hw.1 hw.2] at z4
      exact z4 _ (.tup h1' h2)
    · have G := Grow.still (o := .tup (cutV xs lo hi)) s hq
      exact (z3 _ _ G) _ (.tup upd_same (cutA_rp (h2.grow G) lo hi))
  · obtain ⟨a, xs, rfl, h1, h2⟩ := hv.list s
    refine .inl ⟨a, xs, rfl, .inl (.inl h1), fun q hq => ?_⟩
    have G := Grow.still (o := .lst (cutV xs lo hi)) s hq
    exact (z3 _ _ G) _ (.lst upd_same (cutA_rp (h2.grow G) lo hi))
  · obtain ⟨a, xs, rfl, h1, h2⟩ := hv.frl s
    refine .inl ⟨a, xs, rfl, h1, fun q hq => ?_⟩
    have G := Grow.still (o := .lst (cutV xs lo hi)) s hq
    exact (z3 _ _ G) _ (.lst upd_same (cutA_rp (h2.grow G) lo hi))
end
def CallD (X : Cx) (b : Bs) (W : WX) (fn : Value) (op : List D → R D) : Prop := ∃ r : List V → Hp → VK → Prop, CallR X fn r ∧ ∀ (σ : L2.St) (F H : Hp) (Q : VK) (xs : List D) (vs : List V), Same F H → RpL X.K F b.H0 H xs vs →
  Pst b W σ F H (CV X.K b Q) (op xs) → r vs H Q
def lenD : List D → R D
  | [.lst _ xs] => .ok (.int xs.length)
  | [.fr xs] => .ok (.int xs.length)
  | [.tup xs] => .ok (.int xs.length)
  | [.str z] => if z.length ≤ sizeLine then .ok (.int z.length) else .stuck
  | _ => .stuck
def tyD : D → String
  | .non => "NoneType"
  | .bl _ => "bool"
  | .int _ => "int"
  | .str _ => "str"
  | .tup _ => "tuple"
  | .lst _ _ => "list"
  | .fr _ => "list"
  | .unk => "?"
  | .ex _ => "?"
  | .fn _ => "?"
  | .dic _ _ => "?"
  | .dct _ _ _ => "?"
def isiD (T : String) : D → R D := fun d => match kitB (tyD d) T with
  | some c => .ok (.bl c)
  | none => .stuck
def bools : List D → Option (List Bool)
  | [] => some []
  | .bl c :: ds => (bools ds).map (c :: ·)
  | _ => none
def allD : List D → R D
  | [.lst _ ds] => match bools ds with
    | some bs => .ok (.bl (bs.all id))
    | none => .stuck
  | _ => .stuck
def intD : List D → R D
  | [.int i] => .ok (.int i)
  | [.bl c] => .ok (.int (if c then 1 else 0))
  | _ => .stuck
def tupleD : List D → R D
  | [.lst _ xs] => .ok (.tup xs)
  | [.tup xs] => .ok (.tup xs)
  | _ => .stuck
def listO : List D → R (List D)
  | [.lst _ xs] => .ok xs
  | [.tup xs] => .ok xs
  | [.fr xs] => .ok xs
  | _ => .stuck
def shR (d : PyData) : R D := if (d.showable && decide (d.depth ≤ 60) && decide (d.shown.length ≤ sizeLine)) = true then .ok (.str d.shown) else .stuck
def strD : List D → R D
  | [.int i] => if i.natAbs.log2 < 1920 then .ok (.str (toString i)) else .stuck
  | [.lst _ xs] => shR (.list (pyL xs))
  | [.fr xs] => shR (.list (pyL xs))
  | [.tup xs] => shR (.tuple (pyL xs))
  | _ => .stuck
section
variable {X : Cx} {b : Bs} {W : WX} {K : PySem.W.Frag} {F H0 H : Hp}
theorem RpL.one {d : D} {vs : List V} (h : RpL K F H0 H [d] vs) : ∃ v, vs = [v] ∧ Rp K F H0 H d v := by
  cases h with
  | cons a t => cases t; exact ⟨_, rfl, a⟩
theorem RpL.two {d e : D} {vs : List V} (h : RpL K F H0 H [d, e] vs) : ∃ v u, vs = [v, u] ∧ Rp K F H0 H d v ∧ Rp K F H0 H e u := by
  cases h with
  | cons a t => 
    obtain ⟨u, rfl, c⟩ := t.one
    exact ⟨_, _, rfl, a, c⟩
theorem bools_rp : ∀ {ds : List D} {bs : List Bool} {vs : List V}, bools ds = some bs → RpL K F H0 H ds vs → vs = bs.map V.bl
  | [], bs, vs, e, r => by cases r; simp only [bools, Option.some.injEq] at e; subst e; rfl
  | d :: ds, bs, vs, e, r => by
    cases d <;> first | (simp [bools] at e; done) | skip
    rename_i c
    simp only [bools, Option.map_eq_some_iff] at e
    obtain ⟨cs, h1, rfl⟩ := e
    cases r with
    | cons a t => cases a; rw [bools_rp h1 t]; rfl
theorem c_len : CallD X b W (.builtin "len") lenD := by
  refine ⟨_, call_len, fun σ F H Q xs vs s r p => ?_⟩
  unfold lenD at p
  split at p
  · obtain ⟨v, rfl, h⟩ := r.one
    obtain ⟨a, us, rfl, h1, h2⟩ := h.list s
    exact ⟨_, _, rfl, .inl ⟨us, .inl (.inl h1), h2.length⟩, p.here s _ (.int _)⟩
  · obtain ⟨v, rfl, h⟩ := r.one
    obtain ⟨a, us, rfl, h1, h2⟩ := h.frl s
    exact ⟨_, _, rfl, .inl ⟨us, h1, h2.length⟩, p.here s _ (.int _)⟩
  · obtain ⟨v, rfl, h⟩ := r.one
    obtain ⟨a, us, rfl, h1, h2⟩ := h.tuple
    exact ⟨_, _, rfl, .inr ⟨us, h1, h2.length⟩, p.here s _ (.int _)⟩
  · obtain ⟨v, rfl, h⟩ := r.one
    cases h
    split at p
    · rename_i hl
      exact ⟨_, _, rfl, ⟨hl, rfl⟩, p.here s _ (.int _)⟩
    · exact p.elim
  · exact p.elim
theorem kitB_no {T : String} (h : T ≠ "?") : kitB "?" T = none := by
  unfold kitB
  rw [if_neg (by intro z; rw [beq_iff_eq] at z; injection z with z; exact h z.symm)]
  split
  · rw [show PySem.fastBuiltinMro "?" = none from by decide +kernel]; rfl
  · rfl
theorem ty_rp {d : D} {v : V} (s : Same F H) (r : Rp K F H0 H d v) (hd : tyD d ≠ "?") : TyX K H v (.type (tyD d)) := by
  cases d with
  | non => cases r; exact .base .non
  | bl _ => cases r; exact .base (.bl _)
  | int _ => cases r; exact .base (.int _)
  | str _ => cases r; exact .base (.str _)
  | tup _ =>
    obtain ⟨a, xs, rfl, h, _⟩ := r.tuple
    rcases h with (h | ⟨o, h⟩) | ⟨o, its, n, h1, h2, _⟩
    · exact .base (.tup h)
    · exact .fTuple h
    · exact .kTuple h1 h2
  | lst _ _ =>
    obtain ⟨a, xs, rfl, h, _⟩ := r.list s
    exact .base (.lst h)
  | fr _ =>
    obtain ⟨a, xs, rfl, h, _⟩ := r.frl s
    rcases h with (h | ⟨o, h⟩) | ⟨o, its, n, h1, h2, _⟩
    · exact .base (.lst h)
    · exact .base (.frz h)
    · exact .kList h1 h2
  | unk => exact absurd rfl hd
  | ex _ => exact absurd rfl hd
  | fn _ => exact absurd rfl hd
  | dic _ _ => exact absurd rfl hd
  | dct _ _ _ => exact absurd rfl hd
theorem se_isi {T : String} {x : Str} {a : Expr} {f : SemE} {p q pos : Pos} (hg : Gl X "isinstance") (hm : X.mg "isinstance" = none) (hg' : Gl X x) (hm' : X.mg x = none) (hv : bootBuiltins x = some (.type T)) (hf : SE X b W a f) (hn : x ≠ "__name__" := by decide) (hd : (x == ("__debug__" : Str)) = false := by decide)
    (he : starEach [a, .Name x q] X.env = (false, eval a X.env) :: starEach [.Name x q] X.env := by rfl) (hpl : (backTo pos (starEach [.Name x q] X.env)).any (·.1) = false := by rfl)
    (hs : starEach [.Name x q] X.env = (false, eval (.Name x q) X.env) :: starEach [] X.env := by rfl) (hT : T ≠ "?" := by decide) :
    SE X b W (.Call (.Name "isinstance" p) [a, .Name x q] [] pos) (e1 (isiD T) f) := by
  refine PE.weak (pe_callB call_isi hg hm boot_isinstance (pa_cons hf (pa_cons (pe_bltn hg' hm' hv (v := .ty T) rfl hn hd) pa_nil hs) he) (by decide) (by decide) he hpl) fun σ H Q ⟨F, m, R, p⟩ => ?_
  refine ⟨F, m, R, p.bind.imp fun x F1 H1 _ G z v hv => ?_⟩
  have s := (R.step G).sub
  unfold isiD at z
  split at z
  · rename_i c hc
    exact ⟨v, .ty T, .type (tyD x), .type T, c, rfl, .ty T, ty_rp s hv (fun z => by rw [z, kitB_no hT] at hc; cases hc), kit_ty hc, z.here s _ (.bl _)⟩
  · exact z.elim
theorem c_all (hc : X.calm = true) : CallD X b W (.builtin "all") allD := by
  refine ⟨_, cr_all hc, fun σ F H Q xs vs s r p => ?_⟩
  unfold allD at p
  split at p
  · obtain ⟨v, rfl, h⟩ := r.one
    obtain ⟨a, us, rfl, h1, h2⟩ := h.list s
    split at p
    · rename_i bs hb
      exact ⟨a, bs, rfl, .inl (.inl (by rw [← bools_rp hb h2]; exact h1)), p.here s _ (.bl _)⟩
    · exact p.elim
  · exact p.elim
theorem c_int : CallD X b W (.type "int") intD := by
  refine ⟨_, call_int1, fun σ F H Q xs vs s r p => ?_⟩
  unfold intD at p
  split at p
  · obtain ⟨v, rfl, h⟩ := r.one
    cases h
    exact .inl ⟨_, rfl, p.here s _ (.int _)⟩
  · obtain ⟨v, rfl, h⟩ := r.one
    cases h
    exact .inr ⟨_, rfl, p.here s _ (.int _)⟩
  · exact p.elim
mutual
theorem dp_noDict {K : PySem.W.Frag} {H : Hp} : ∀ (d : PyData) (v : V), Dp K H v d → d.hasDict = false
  | .none, _, _ => by simp only [PyData.hasDict]
  | .bool _, _, _ => by simp only [PyData.hasDict]
  | .int _, _, _ => by simp only [PyData.hasDict]
  | .str _, _, _ => by simp only [PyData.hasDict]
  | .list xs, _, h => by
    cases h with
    | lst _ b => simp only [PyData.hasDict]; exact dp_noDictA xs _ b
  | .tuple xs, _, h => by
    cases h with
    | tup _ b => simp only [PyData.hasDict]; exact dp_noDictA xs _ b
  | .dict _, _, h => by cases h
theorem dp_noDictA {K : PySem.W.Frag} {H : Hp} : ∀ (ds : List PyData) (vs : List V), DpAll K H vs ds → PyData.hasDictAll ds = false
  | [], _, _ => by simp only [PyData.hasDictAll]
  | d :: ds, _, h => by
    cases h with
    | cons a b => simp only [PyData.hasDictAll, dp_noDict d _ a, dp_noDictA ds _ b, Bool.or_self]
end
def rStrC (K : PySem.W.Frag) : List V → Hp → VK → Prop := fun xs H Q => ∃ a d, xs = [.ref a] ∧ Dp K H (.ref a) d ∧ d.showable = true ∧ d.depth ≤ 60 ∧ d.shown.length ≤ sizeLine ∧ Q (.str d.shown) H
theorem call_strC (hu : X.A.units + 65 < cLine) (hgd : X.A.guards = some []) : CallR X (.type "str") (rStrC X.K) := by
  intro pins s σ H xs us Q I r h
  obtain ⟨a, d, rfl, hd, h1, h2, h3, q⟩ := h
  cases r with
  | cons ry rt =>
    cases rt
    cases ry
    obtain ⟨as, rd⟩ := Dp.reads I d (.ref a) (.ref a) hd rfl
    exact str_of_reads rd h1 (fun z => by rw [dp_noDict d _ hd] at z; cases z) hgd (by omega) (fun _ _ z => z) (fun h' u tk g => ⟨.str d.shown, H, I.kept (t' := tk) g, ⟨u, rfl⟩, q⟩) h3
theorem c_str (hu : X.A.units + 65 < cLine) (hgd : X.A.guards = some []) : CallD X b W (.type "str") strD := by
  have shp : ∀ {d : PyData} {σ : L2.St} {F H : Hp} {Q : VK} {a : Addr} {s : Same F H}, Dp X.K H (.ref a) d → Pst b W σ F H (CV X.K b Q) (shR d) → rStrC X.K [.ref a] H Q := fun {d σ F H Q a s} hd p => by
    unfold shR at p
    split at p
    · rename_i c
      simp only [Bool.and_eq_true, decide_eq_true_eq] at c
      exact ⟨a, d, rfl, hd, c.1.1, c.1.2, c.2, p.here s _ (.str _)⟩
    · exact p.elim
  refine ⟨_, call_str_int.or (call_strC hu hgd), fun σ F H Q xs vs s r p => ?_⟩
  unfold strD at p
  split at p
  · obtain ⟨v, rfl, h⟩ := r.one
    cases h
    split at p
    · rename_i hl
      exact .inl ⟨_, rfl, hl, p.here s _ (.str _)⟩
    · exact p.elim
  · obtain ⟨v, rfl, h⟩ := r.one
    have ok : okPL _ = true := okPL_sh' p
    have := Rp.dp s _ _ (by rw [okP]; exact ok) h
    obtain ⟨a, us, rfl, _, _⟩ := h.list s
    exact .inr (shp (s := s) this p)
  · obtain ⟨v, rfl, h⟩ := r.one
    have ok : okPL _ = true := okPL_sh' p
    have := Rp.dp s _ _ (by rw [okP]; exact ok) h
    obtain ⟨a, us, rfl, _, _⟩ := h.frl s
    exact .inr (shp (s := s) this p)
  · obtain ⟨v, rfl, h⟩ := r.one
    have ok : okPL _ = true := okPT_sh' p
    have := Rp.dp s _ _ (by rw [okP]; exact ok) h
    obtain ⟨a, us, rfl, _, _⟩ := h.tuple
    exact .inr (shp (s := s) this p)
  · exact p.elim
where
  okPL_sh' {b : Bs} {W : WX} {σ : L2.St} {F H : Hp} {C : D → Hp → Hp → Prop} {ds : List D} (p : Pst b W σ F H C (shR (.list (pyL ds)))) : okPL ds = true := by
    unfold shR at p
    split at p
    · rename_i c
      simp only [Bool.and_eq_true, decide_eq_true_eq] at c
      have := okP_of (.fr ds) (Nat.le_trans c.1.2 (by decide))
      simpa only [okP] using this
    · exact p.elim
  okPT_sh' {b : Bs} {W : WX} {σ : L2.St} {F H : Hp} {C : D → Hp → Hp → Prop} {ds : List D} (p : Pst b W σ F H C (shR (.tuple (pyL ds)))) : okPL ds = true := by
    unfold shR at p
    split at p
    · rename_i c
      simp only [Bool.and_eq_true, decide_eq_true_eq] at c
      have := okP_of (.tup ds) (Nat.le_trans c.1.2 (by decide))
      simpa only [okP] using this
    · exact p.elim
theorem c_tuple : CallD X b W (.type "tuple") tupleD := by
  refine ⟨_, call_tuple_of, fun σ F H Q xs vs s r p => ?_⟩
  unfold tupleD at p
  split at p
  · obtain ⟨v, rfl, h⟩ := r.one
    obtain ⟨a, us, rfl, h1, h2⟩ := h.list s
    refine ⟨a, us, rfl, .inl ⟨.inl (.inl h1), fun q hq => ?_⟩⟩
    have G := Grow.still (o := .tup us) s hq
    exact (p _ _ G) _ (.tup upd_same (h2.grow G))
  · obtain ⟨v, rfl, h⟩ := r.one
    obtain ⟨a, us, rfl, h1, h2⟩ := h.tuple'
    exact ⟨a, us, rfl, .inr ⟨.inl (.inl h1), p.here s _ (.tup h1 h2)⟩⟩
  · exact p.elim
variable {x : Str} {id T : String} {e : Expr} {es : List Expr} {h : SemA} {op : List D → R D} {p pos : Pos}
theorem se_callB (hc : CallD X b W (.builtin id) op) (hg : Gl X x) (hm : X.mg x = none) (hv : bootBuiltins x = some (.builtin id)) (ha : SA X b W (e :: es) h) (hn : x ≠ "__name__" := by decide) (hdb : (x == ("__debug__" : Str)) = false := by decide)
    (he : starEach (e :: es) X.env = (false, eval e X.env) :: starEach es X.env := by rfl) (hpl : (backTo pos (starEach es X.env)).any (·.1) = false := by rfl) : SE X b W (.Call (.Name x p) (e :: es) [] pos) (eA op h) := by
  obtain ⟨r, h1, h2⟩ := hc
  refine PE.weak (pe_callB h1 hg hm hv ha hn hdb he hpl) fun σ H Q ⟨F, m, R, p⟩ => ?_
  exact seqA R p fun xs F1 H1 vs R1 G1 hv p1 => h2 σ F1 H1 Q xs vs R1.sub hv p1
theorem se_callTy (hc : CallD X b W (.type T) op) (hg : Gl X x) (hm : X.mg x = none) (hv : bootBuiltins x = some (.type T)) (ha : SA X b W (e :: es) h) (hn : x ≠ "__name__" := by decide) (hdb : (x == ("__debug__" : Str)) = false := by decide)
    (he : starEach (e :: es) X.env = (false, eval e X.env) :: starEach es X.env := by rfl) (hpl : (backTo pos (starEach es X.env)).any (·.1) = false := by rfl) : SE X b W (.Call (.Name x p) (e :: es) [] pos) (eA op h) := by
  obtain ⟨r, h1, h2⟩ := hc
  refine PE.weak (pe_callTy h1 hg hm hv ha hn hdb he hpl) fun σ H Q ⟨F, m, R, p⟩ => ?_
  exact seqA R p fun xs F1 H1 vs R1 G1 hv p1 => h2 σ F1 H1 Q xs vs R1.sub hv p1
theorem so_list (hg : Gl X "list") (hm : X.mg "list" = none) (ha : SA X b W (e :: es) h)
    (he : starEach (e :: es) X.env = (false, eval e X.env) :: starEach es X.env := by rfl) (hpl : (backTo pos (starEach es X.env)).any (·.1) = false := by rfl) : SO X b W (.Call (.Name "list" p) (e :: es) [] pos) (aThen h listO) := by
  refine PE.weak (pe_callTy call_list_of hg hm PyProof.Rows.boot_list ha (by decide) (by decide) he hpl) fun σ H Q ⟨F, m, R, p⟩ => ?_
  refine seqA R p fun xs F1 H1 vs R1 G1 hv p1 => ?_
  have s := R1.sub
  unfold listO at p1
  split at p1
  · obtain ⟨v, rfl, h⟩ := hv.one
    obtain ⟨a, us, rfl, k1, k2⟩ := h.list s
    refine ⟨a, us, rfl, .inl (.inl (.inl k1)), fun q hq => ?_⟩
    have G := Grow.loose (o := .lst us) s hq
    exact (p1 _ _ G) q us (G1.same.free hq) (s.free hq) upd_same (k2.grow G)
  · obtain ⟨v, rfl, h⟩ := hv.one
    obtain ⟨a, us, rfl, k1, k2⟩ := h.tuple
    refine ⟨a, us, rfl, .inr k1, fun q hq => ?_⟩
    have G := Grow.loose (o := .lst us) s hq
    exact (p1 _ _ G) q us (G1.same.free hq) (s.free hq) upd_same (k2.grow G)
  · obtain ⟨v, rfl, h⟩ := hv.one
    obtain ⟨a, us, rfl, k1, k2⟩ := h.frl s
    refine ⟨a, us, rfl, .inl k1, fun q hq => ?_⟩
    have G := Grow.loose (o := .lst us) s hq
    exact (p1 _ _ G) q us (G1.same.free hq) (s.free hq) upd_same (k2.grow G)
  · exact p1.elim
end
end CT

namespace CT
open PySem PySem.Spec PyProof.Rows L2
structure FnG (P : Program) (w : World) (K : PySem.W.Frag) (mg : Str → Option Value) (base : Heap) (k : Nat) (f : Addr) (fd : FuncData) (ps : List Str) (sp : Sp) : Prop where
  len : ∀ vs H Q E, sp vs H Q E → vs.length = ps.length
  run : ∀ (A : Around) (outer : List Env) (s : Shared) (H : Hp) (args : Args) (us : List Value) (vs : List V) (Q : VK) (E : XK), Room k A → A.guards = some [] → Env0 P w K mg base A outer s H → BindsTo s fd args (ps.zip us) → Vals vs us → sp vs H Q E →
    codeAny (model P w) A (.call (.ref f) args) (CR (L2.CX P w) outer P w H s Q E) s
theorem FnG.imp {P : Program} {w : World} {K : PySem.W.Frag} {mg : Str → Option Value} {base : Heap} {k : Nat} {f : Addr} {fd : FuncData} {ps : List Str} {sp sp' : Sp} (F : FnG P w K mg base k f fd ps sp) (h : ∀ vs H Q E, sp' vs H Q E → sp vs H Q E) : FnG P w K mg base k f fd ps sp' :=
  ⟨fun vs H Q E q => F.len vs H Q E (h _ _ _ _ q), fun A outer s H args us vs Q E hr hg he hb hv hs => F.run A outer s H args us vs Q E hr hg he hb hv (h _ _ _ _ hs)⟩
section
variable {P : Program} {w : World} {K : PySem.W.Frag} {mg : Str → Option Value} {base : Heap}
theorem Fun.okG {x qual : Str} {st : Stmt} {f : Addr} {fd : FuncData} {N ps : List Str} {k : Nat} {sp : Sp} (F : Fun K x qual st f fd) (S : FnScope N ps (defScope st)) (len : ∀ vs H Q E, sp vs H Q E → vs.length = ps.length)
    (hbody : ∀ (cdv : Value) (A : Around) (outer : List Env) (s : Shared) (H : Hp) (vs : List V) (Q : VK) (E : XK), Room k (A.deeper (envOfC qual (defScope st) s.heap.objs.size f cdv)) → (A.deeper (envOfC qual (defScope st) s.heap.objs.size f cdv)).guards = some [] → sp vs H Q E →
      ∃ t, PSs (cxOf (L2.CX P w) P w K mg base N qual (defScope st) f cdv A outer s H E) (defBody st) t ∧ t { nx := fun _ H' => Q .non H', rt := Q } (start N vs) H) : FnG P w K mg base (k + 1) f fd ps sp := by
  obtain ⟨oc, od, kV, doc, pm, an, cdv, ct, osl, rfl, lk, hcd⟩ := F.ex
  refine ⟨len, fun A outer s H args us vs Q E hr hgd e0 hb r hsp => ?_⟩
  have hl := len _ _ _ _ hsp
  have kept : ∀ b o, base.get? b = some o → s.heap.get? b = some o := fun b o e => (e0.bs b o e).1
  have KX : K.In s.heap := e0.mod.kin.keeps kept
  refine codeAny_call_function hr.depth (KX _ _ lk) rfl S.co S.gen rfl (PySem.W.codeRec_of KX hcd) (hb _ _ _ _ ?_)
  refine wpAny_newFunctionEnv_cells S.kind (fun ⟨n, v⟩ hy => (S.par n (List.of_mem_zip hy).1).imp id fun q => ⟨q, PySem.W.cellsFrom_some _ _ _ (.inl q)⟩) fun env he s1 x => ?_
  subst he
  refine ⟨(e0.mod.nolimit.keeps kept).keeps x.toInCall.keep, codeAny_func ?_⟩
  obtain ⟨t, ht, hq⟩ := hbody cdv A outer s H vs Q E (hr.deeper _) hgd hsp
  have I := inv_start (CX := L2.CX P w) (E := E) S hr.hd e0 hl r x
  refine wpAny_mono (ht.run [] s1 (start N vs) H _ I hq) (fun fl s' hs => ?_) fun e s' hs => hs
  rcases fl with _ | u | _ | _
  all_goals first
    | (obtain ⟨_, _, _, z⟩ := hs; exact z.elim)
    | (obtain ⟨v, σ', H', J, rv, z⟩ := hs; exact ⟨v, H', J.os, J.bare, J.base, J.hok, rv, z⟩)
    | (obtain ⟨σ', H', J, z⟩ := hs; exact ⟨V.non, H', J.os, J.bare, J.base, J.hok, rfl, z⟩)
end
section
variable {X : Cx} {k : Nat} {f : Addr} {fd : FuncData} {ps : List Str} {sp : Sp} {E : L2.St → XK} {x : Str} {p pos : Pos} {e : Expr} {es : List Expr} {t : TA}
theorem pe_callG (F : FnG X.prog X.w X.K X.mg X.base k f fd ps sp) (hr : Room k X.A) (hgd : X.A.guards = some []) (hg : Gl X x) (hm : X.mg x = some (.ref f)) (hk : PySem.W.keepIn X.K (.ref f) = true) (hb : L2.Binds X.K fd ps []) (hx : ∀ σ, PassesAt (L2.CX X.prog X.w) X σ (E σ))
    (ha : PA X (e :: es) t) (hdb : (x == ("__debug__" : Str)) = false := by decide) (he : starEach (e :: es) X.env = (false, eval e X.env) :: starEach es X.env := by rfl) (hpl : (backTo pos (starEach es X.env)).any (·.1) = false := by rfl) :
    PE X (.Call (.Name x p) (e :: es) [] pos) (tCallS sp E t) := by
  refine ⟨fun pins s σ H Q I h => wpAny_Call_Name_kw (ld_glob I hg hm ?_ hdb)⟩
  refine PySem.W.callWith_K (h₀ := X.base) I.ok.mod.kin hk (thn (ha.run pos pins s σ H _ I h) fun us s1 ⟨vs, H1, I1, r, q⟩ => ⟨I1.kIn, ?_⟩) he hpl
  have b := hb s1 us I1.kIn (by rw [List.append_nil, ← r.length]; exact F.len _ _ _ _ q)
  rw [List.append_nil] at b
  refine wpAny_call (codeAny_mono (F.run X.A X.stack s1 H1 ⟨us, []⟩ us vs Q (E σ) hr hgd I1.env0 b r q) fun r s' hq => ?_)
  rcases r with er | fl
  · exact hx σ pins H1 s1 er s' I1 hq
  · rcases fl with _ | _ | _ | u
    all_goals first | exact I1.after hq | exact False.elim hq
end
theorem law_callG {P : Program} {w : World} {K : PySem.W.Frag} {mg mb : Str → Option Value} {k : Nat} {fa a : Addr} {fd : FuncData} {x : Str} {sp : Sp} {s₁ : Shared} {vs : List Value} {ns : List Int}
    (KX : K.In s₁.heap) (hns : s₁.heap.Ns mainGlobals mg) (hb : s₁.heap.Ns builtinsNs mb) (hbb : ∀ x : Str, x ≠ "__name__" → mb x = bootBuiltins x) (hlim : s₁.heap.NoLimit) (hg : s₁.gens = #[])
    (ha : s₁.heap.get? a = some { cls := .type "list", data := .seq vs.toArray }) (hi : IntsAre vs ns) (hl : ns.length ≤ sizeLine) (hr : Room k callerA)
    (F : ∀ base : Heap, K.In base → base.Ns mainGlobals mg → FnG P w K mg base k fa fd [x] sp) (hbind : ∀ (s : Shared) (u : Value), BindsTo s fd ⟨[u], []⟩ [(x, u)])
    (hsp : ∀ H : Hp, Only H → SqL K H a (ns.map V.int) → sp [.ref a] H (fun v _ => v = .bl true) fun _ _ _ => False)
    (hCX : ∀ H e s', L2.CX P w [] H s₁ (fun _ _ _ => False) e s' → False) :
    codeAny (model P w) callerA (.call (.ref fa) ⟨[.ref a], []⟩) (fun r s' => r = .ok (.ret (.bool true)) ∧ OldK s₁.heap s'.heap ∧ s'.os = s₁.os ∧ AllBare s'.gens) s₁ := by
  have rv := vals_ints hi
  -- a heap in which at most the script is tracked does
  have core : ∀ H : Hp, Only H → SqL K H a (ns.map V.int) → HOk P w H s₁.heap → (∀ b, H b ≠ none → b = a ∧ K.lookup b = none) →
      codeAny (model P w) callerA (.call (.ref fa) ⟨[.ref a], []⟩) (fun r s' => r = .ok (.ret (.bool true)) ∧ OldK s₁.heap s'.heap ∧ s'.os = s₁.os ∧ AllBare s'.gens) s₁ := by
    intro H hO hS hok hA
    have noDict : ∀ {b : Addr} {o : Obj} {es : Array DictEntry} {ep : Nat}, s₁.heap.get? b = some o → o.data = .dict es ep → H b = none := fun {b o es ep} e d => by
      by_cases q : H b = none
      · exact q
      · obtain ⟨rfl, _⟩ := hA b q
        rw [ha] at e; cases e
        exact nomatch (show Data.seq vs.toArray _ = Data.dict es ep from d)
    have nsK : ∀ {b : Addr} {m : Str → Option Value}, s₁.heap.Ns b m → (hidT s₁.heap H).Ns b m := fun {b m} ⟨o, es, ep, e, d, r⟩ => ⟨o, es, ep, hidT_get e (noDict e d), d, r⟩
    have hKb : K.In (hidT s₁.heap H) := fun b o e => hidT_get (KX b o e) (by
      by_cases q : H b = none
      · exact q
      · have := (hA b q).2; rw [e] at this; cases this)
    have hM : Mod K mg (hidT s₁.heap H) := ⟨hKb, nsK hns, ⟨mb, nsK hb, hbb⟩, let ⟨mc, h1, h2⟩ := hlim; ⟨mc, nsK h1, h2⟩⟩
    have e0 : Env0 P w K mg (hidT s₁.heap H) callerA [] s₁ H := ⟨rfl, hM, fun b o e => of_hidT e, Nat.le_of_eq (hidT_size _ _), trivial, fun b hb => (nomatch (show b ∈ ([] : List Addr) from hb)), hok, .of_eq hg⟩
    refine codeAny_mono ((F _ hKb (nsK hns)).run callerA [] s₁ H ⟨[.ref a], []⟩ [.ref a] [.ref a] _ _ hr rfl e0 (hbind s₁ (.ref a)) (.cons rfl .nil) (hsp H hO hS)) fun r s' h => ?_
    rcases r with er | fl
    · exact (hCX H er s' h).elim
    · rcases fl with _ | _ | _ | u
      all_goals first
        | exact False.elim h
        | skip
      obtain ⟨v, H', os, bare, un, hok', r', q⟩ := h
      obtain rfl : v = V.bl true := q
      obtain rfl : u = Value.bool true := r'
      refine ⟨rfl, OldK.of_keep fun b o e => ?_, os, bare⟩
      rcases hO b with z | ⟨ob, xs, z⟩
      · exact un.keep b o e z (fun z => nomatch (show b ∈ ([] : List Addr) from z)) (fun z => nomatch (show b ∈ ([] : List Addr) from z))
      · obtain ⟨e1, _⟩ := hok b _ z
        obtain ⟨e2, _⟩ := hok' b _ (un.frzs b ob _ z)
        rw [e] at e1; cases e1
        exact e2
  cases hk : K.lookup a with
  | some o =>
    have e := KX a o hk
    rw [ha] at e
    cases e
    exact core (fun _ => none) (fun _ => .inl rfl) (.inr ⟨_, vs.toArray, _, hk, rfl, rfl, rfl, by rw [List.size_toArray, hi.length]; exact hl, by simpa using rv⟩) (fun b u z => nomatch (show (none : Option HO) = some u from z)) fun b z => absurd rfl z
  | none =>
    obtain ⟨S, hS⟩ : ∃ S : HO, S = .frz { cls := .type "list", data := .seq vs.toArray } (.lst (ns.map V.int)) := ⟨_, rfl⟩
    refine core (fun b => if b = a then some S else none) (fun b => ?_) (.inl (.inr ⟨{ cls := .type "list", data := .seq vs.toArray }, by show (if a = a then some S else none) = _; rw [if_pos rfl, hS]⟩)) (fun b u z => ?_) (fun b z => ?_)
    · by_cases hb : b = a
      · exact .inr ⟨_, _, by show (if b = a then some S else none) = _; rw [if_pos hb, hS]⟩
      · exact .inl (if_neg hb)
    · by_cases hb : b = a
      · simp only [if_pos hb] at z
        cases z
        rw [hb, hS]
        exact ⟨ha, by rw [List.length_map]; exact hl, vs, _, rv, ha⟩
      · simp only [if_neg hb] at z
        cases z
    · by_cases hb : b = a
      · exact ⟨hb, by rw [hb]; exact hk⟩
      · exact absurd (if_neg hb) z
theorem walk_ofG {l : PySem.W.OpenLaw} {n k : Nat} {q : Program} {loose : List Str} {XP : (Str → Option Value) → Heap → Prop} {YP : World → Heap → Prop} {d : DefRec} {K : Params → PySem.W.Frag} {sp : World → Sp} {x : Str}
    (hn : l.most = some n) (hn2 : n ≤ sizeLine) (hdf : d.params.defaults = []) (hr : Room k callerA)
    (hY : ∀ (w : World) (h : Heap), YP w h → (K w.params).In h)
    (F : ∀ (w : World) (mg : Str → Option Value) (fa : Addr) (h : Heap), (K w.params).In h → h.Ns mainGlobals mg → mg d.name = some (.ref fa) →
      ∃ fd : FuncData, (∀ (s : Shared) (u : Value), BindsTo s fd ⟨[u], []⟩ [(x, u)]) ∧
        ∀ base : Heap, (K w.params).In base → base.Ns mainGlobals mg → FnG l.prog w (K w.params) mg base k fa fd [x] (sp w))
    (hsp : ∀ (w : World) (H : Hp) (a : Addr) (ns : List Int), ns.length ≤ n → Only H → SqL (K w.params) H a (ns.map V.int) → sp w [.ref a] H (fun v _ => v = .bl true) fun _ _ _ => False)
    (hCX : ∀ (w : World) (H : Hp) (s : Shared) (e : Value) (s' : Shared), L2.CX l.prog w [] H s (fun _ _ _ => False) e s' → False) :
    PySem.W.WalkO q loose XP YP l.row.toRowW d [] (fun f vs => PySem.call f vs) := by
  refine Att.attach_call hn hdf fun w s₀ s₁ mg mb fa o pm cd doc a vs ns G Y ho hd hcd hmg hobj hints hlen hg => ?_
  obtain ⟨fd, hb, hF⟩ := F w mg fa _ (hY w _ Y) G.T.g hmg
  exact law_callG (hY w _ Y) G.T.g G.T.b G.T.builtins G.T.nolimit hg hobj hints (Nat.le_trans hlen hn2) hr hF hb (fun H hO hS => hsp w H a ns hlen hO hS) fun H e s' => hCX w H s₁ e s'
end CT

namespace CT
open PySem PySem.Spec PyProof.Rows L2
def spF (K : PySem.W.Frag) (ex : String → Value) (n : Nat) (f : List D → R D) : Sp := fun vs H Q E => ∃ F0 ds, Same F0 H ∧ RpL K F0 H H ds vs ∧ hasTL ds = false ∧ ds.length = n ∧
  match f ds with
  | .ok d => ∀ F' H' v, Grow F0 H F' H' → SlotOk K F' H H' d v → Q v H'
  | .exc c => ∀ F' H', Grow F0 H F' H' → E (ex c) none H'
  | .stuck => False
mutual
theorem flat_of_still : ∀ d, isFlat (still d) = true → isFlat d = true
  | .tup xs, h => by simp only [still, isFlat] at h ⊢; exact flatL_of_still xs h
  | .lst _ _, h => by simp [still, isFlat] at h
  | .fr _, h => by simp [still, isFlat] at h
  | .non, _ => rfl
  | .bl _, _ => rfl
  | .int _, _ => rfl
  | .str _, _ => rfl
  | .unk, h => by simp [still, isFlat] at h
  | .ex _, _ => rfl
  | .fn _, _ => rfl
  | .dic _ _, h => by simp [still, isFlat] at h
  | .dct _ _ _, h => by simp [still, isFlat] at h
theorem flatL_of_still : ∀ ds, isFlatL (stillL ds) = true → isFlatL ds = true
  | [], _ => rfl
  | x :: xs, h => by
    simp only [stillL, isFlatL, Bool.and_eq_true] at h ⊢
    exact ⟨flat_of_still x h.1, flatL_of_still xs h.2⟩
end
theorem flat_still (d : D) (h : isFlat (still d) = true) : isFlat d = true ∧ still d = d := ⟨flat_of_still d h, still_of _ (flat_noT _ (flat_of_still d h))⟩
def callF (f : List D → R D) : List D → R D := fun ds => (f (stillL ds)).bind fun d => if hasTL ds = true then (if isFlat (still d) = true then .ok (still d) else .stuck) else .ok (still d)
def callO (f : List D → R D) : List D → R (List D) := fun ds => if hasTL ds = true then .stuck else (f ds).bind fun d => match d with
  | .lst true es => .ok es
  | _ => .stuck
structure Callee (P : Program) (w : World) (K : PySem.W.Frag) (mg : Str → Option Value) (base : Heap) (ex : String → Value) (x : Str) (n : Nat) (f : List D → R D) (k : Nat) : Prop where
  ok : ∃ fa fd ps, FnG P w K mg base k fa fd ps (spF K ex n f) ∧ mg x = some (.ref fa) ∧ PySem.W.keepIn K (.ref fa) = true ∧ Binds K fd ps []
section
variable {X : Cx} {b : Bs} {W : WX} {x : Str} {e : Expr} {es : List Expr} {h : SemA} {n k : Nat} {f : List D → R D} {p pos : Pos}
theorem spF_call {σ : L2.St} {F H : Hp} {Q : VK} {xs : List D} {vs : List V} (s : Same F H) (r : RpL X.K F b.H0 H xs vs) (sz : Same b.H0 H) (hl : xs.length = n) (p : Pst b W σ F H (CV X.K b Q) (callF f xs)) : spF X.K b.ex n f vs H Q (WE W σ) := by
  unfold callF at p
  cases ht : hasTL xs with
  | false =>
    rw [stillL_of xs ht] at p
    refine ⟨F, xs, s, RpL.base xs vs ht r, ht, hl, ?_⟩
    cases hf : f xs with
    | stuck => rw [hf] at p; exact p.elim
    | exc c =>
      rw [hf] at p
      exact fun F' H' G => p F' H' G
    | ok d =>
      rw [hf] at p
      simp only [CT.R.bind_ok, ht, Bool.false_eq_true, if_false] at p
      refine fun F' H' v G so => ?_
      refine p (vis F' H H') H' ⟨G.same, G.sub.trans (vis_sub G.subH), vis_subH G.subH, fun c o hc => ?_⟩ v (Rp.vis G.subH d v so.rp)
      cases hc' : H c with
      | none => exact .inr rfl
      | some z =>
        rw [vis_old hc'] at hc
        rcases G.new c o hc with q | q
        · exact .inl q
        · rw [hc'] at q; cases q
  | true =>
    refine ⟨vis F b.H0 H, stillL xs, vis_subH s, RpL.vis s xs vs r, hasTL_still xs, by rw [stillL_length]; exact hl, ?_⟩
    cases hf : f (stillL xs) with
    | stuck => rw [hf] at p; exact p.elim
    | exc c =>
      rw [hf] at p
      exact fun F' H' G => p F H' ⟨G.same, Same.refl _, s.trans G.same, fun _ _ z => .inl z⟩
    | ok d =>
      rw [hf] at p
      simp only [CT.R.bind_ok, ht, if_true] at p
      split at p
      · rename_i hfl
        refine fun F' H' v G so => ?_
        obtain ⟨h1, h2⟩ := flat_still d hfl
        refine p F H' ⟨G.same, Same.refl _, s.trans G.same, fun _ _ z => .inl z⟩ v ?_
        rw [h2]
        exact Rp.flat (fun _ _ z => z) (fun _ _ z => z) d v h1 so.rp
      · exact p.elim
theorem se_call (C : Callee X.prog X.w X.K X.mg X.base b.ex x n f k) (tk : Takes X W) (hr : Room k X.A) (hgd : X.A.guards = some []) (hg : Gl X x) (ha : SA X b W (e :: es) h) (hl : (e :: es).length = n) (hlen : ∀ m xs, h m = .ok xs → xs.length = (e :: es).length) (hdb : (x == ("__debug__" : Str)) = false := by decide)
    (he : starEach (e :: es) X.env = (false, eval e X.env) :: starEach es X.env := by rfl) (hpl : (backTo pos (starEach es X.env)).any (·.1) = false := by rfl) : SE X b W (.Call (.Name x p) (e :: es) [] pos) (eA (callF f) h) := by
  obtain ⟨fa, fd, ps, F1, hm, hk, hb⟩ := C.ok
  refine PE.weak (pe_callG F1 hr hgd hg hm hk hb (fun σ => passAt tk σ) ha hdb he hpl) fun σ H Q ⟨F, m, R, p⟩ => ?_
  refine ⟨F, m, R, ?_⟩
  unfold eA at p
  cases hm : h m with
  | stuck => rw [hm] at p; exact p.elim
  | exc c => rw [hm] at p; exact p
  | ok xs =>
    rw [hm] at p
    refine fun F1 H1 G vs hv => ?_
    exact spF_call (R.step G).sub hv (R.step G).grow.same (by rw [← hl]; exact hlen m xs hm) (Pst.grow G p)
theorem so_call (C : Callee X.prog X.w X.K X.mg X.base b.ex x n f k) (tk : Takes X W) (hr : Room k X.A) (hgd : X.A.guards = some []) (hg : Gl X x) (ha : SA X b W (e :: es) h) (hl : (e :: es).length = n) (hlen : ∀ m xs, h m = .ok xs → xs.length = (e :: es).length) (hdb : (x == ("__debug__" : Str)) = false := by decide)
    (he : starEach (e :: es) X.env = (false, eval e X.env) :: starEach es X.env := by rfl) (hpl : (backTo pos (starEach es X.env)).any (·.1) = false := by rfl) : SO X b W (.Call (.Name x p) (e :: es) [] pos) (aThen h (callO f)) := by
  obtain ⟨fa, fd, ps, F1, hm, hk, hb⟩ := C.ok
  refine PE.weak (pe_callG F1 hr hgd hg hm hk hb (fun σ => passAt tk σ) ha hdb he hpl) fun σ H Q ⟨F, m, R, p⟩ => ?_
  refine ⟨F, m, R, ?_⟩
  unfold aThen at p
  cases hm : h m with
  | stuck => rw [hm] at p; exact p.elim
  | exc c => rw [hm] at p; exact p
  | ok xs =>
    rw [hm] at p
    refine fun F1 H1 G vs hv => ?_
    have p := Pst.grow G p
    simp only [CT.R.bind_ok, callO] at p
    split at p
    · exact p.elim
    · rename_i ht
      have ht : hasTL xs = false := by simpa using ht
      refine ⟨F1, xs, (R.step G).sub, RpL.base xs vs ht hv, ht, by rw [← hl]; exact hlen m xs hm, ?_⟩
      cases hf : f xs with
      | stuck => rw [hf] at p; exact p.elim
      | exc c => rw [hf] at p; exact fun F' H' G' => p F' H' G'
      | ok d =>
        rw [hf] at p
        simp only [CT.R.bind_ok] at p
        split at p
        · rename_i es
          refine fun F' H' v G' so => ?_
          obtain ⟨a, us, as, rfl, h1, h2, h3, h4, h5⟩ := so.mutW
          exact p F' H' G' a us (G.same.free h3) h2 h1 (OwL.rp _ _ _ (OwL.base (fun _ z => (R.step G).grow.same.free z) _ _ _ h4))
        · exact p.elim
theorem aNil_len : ∀ (m : Sl) xs, aNil m = .ok xs → xs.length = 0 := fun m xs h => by cases h; rfl
theorem aCons_len {f : SemE} {g : SemA} {n : Nat} (hg : ∀ m xs, g m = .ok xs → xs.length = n) : ∀ m xs, aCons f g m = .ok xs → xs.length = n + 1 := fun m xs h => by
  unfold aCons at h
  cases hf : f m with
  | stuck => rw [hf] at h; cases h
  | exc c => rw [hf] at h; cases h
  | ok d =>
    rw [hf] at h
    simp only [CT.R.bind_ok] at h
    cases hgm : g m with
    | stuck => rw [hgm] at h; cases h
    | exc c => rw [hgm] at h; cases h
    | ok ds =>
      rw [hgm] at h
      cases h
      rw [List.length_cons, hg m ds hgm]
end
inductive RS where
  | nx (m : Sl) | rt (d : D) | bk (m : Sl) | ct (m : Sl) | exc (c : String) (m : Sl) | stuck
abbrev SemS := Sl → RS
structure Prog (F H F' H' : Hp) : Prop where
  sub : Same F F'
  tups : ∀ c o, H c = some o → NoL o → H' c = some o
theorem Prog.refl (F H : Hp) : Prog F H F H := ⟨Same.refl _, fun _ _ h _ => h⟩
theorem Prog.trans {F H F1 H1 F2 H2 : Hp} (p : Prog F H F1 H1) (q : Prog F1 H1 F2 H2) : Prog F H F2 H2 := ⟨p.sub.trans q.sub, fun c o h n => q.tups c o (p.tups c o h n) n⟩
theorem Grow.prog {F H F1 H1 : Hp} (g : Grow F H F1 H1) : Prog F H F1 H1 := ⟨g.sub, fun c o h _ => g.same c o h⟩
def Sst (K : PySem.W.Frag) (b : Bs) (W : WX) (F H : Hp) (D' : Ends) : RS → Prop
  | .nx m' => ∀ σ' F' H', Rel K b F' m' σ' H' → Prog F H F' H' → D'.nx σ' H'
  | .bk m' => ∀ σ' F' H', Rel K b F' m' σ' H' → Prog F H F' H' → D'.bk σ' H'
  | .ct m' => ∀ σ' F' H', Rel K b F' m' σ' H' → Prog F H F' H' → D'.ct σ' H'
  | .rt d => ∀ F' H' v, Grow b.F0 b.H0 F' H' → SlotOk K F' b.H0 H' d v → D'.rt v H'
  | .exc c m' => ∀ σ' F' H', Rel K b F' m' σ' H' → Prog F H F' H' → W (b.ex c) none σ' H'
  | .stuck => False
theorem Sst.prog {K : PySem.W.Frag} {b : Bs} {W : WX} {F H F1 H1 : Hp} {D' : Ends} {r : RS} (g : Prog F H F1 H1) (p : Sst K b W F H D' r) : Sst K b W F1 H1 D' r := by
  cases r with
  | nx m => exact fun σ' F' H' R q => p σ' F' H' R (g.trans q)
  | bk m => exact fun σ' F' H' R q => p σ' F' H' R (g.trans q)
  | ct m => exact fun σ' F' H' R q => p σ' F' H' R (g.trans q)
  | rt d => exact p
  | exc c m => exact fun σ' F' H' R q => p σ' F' H' R (g.trans q)
  | stuck => exact p
def tSS (K : PySem.W.Frag) (b : Bs) (W : WX) (g : SemS) : TS := fun D' σ H => ∃ F m, Rel K b F m σ H ∧ Sst K b W F H D' (g m)
abbrev SS (X : Cx) (b : Bs) (W : WX) (st : Stmt) (g : SemS) : Prop := PS X st (tSS X.K b W g)
abbrev SSs (X : Cx) (b : Bs) (W : WX) (st : List Stmt) (g : SemS) : Prop := PSs X st (tSS X.K b W g)
def ofR {α : Type} (m : Sl) (r : R α) (k : α → RS) : RS := match r with
  | .ok a => k a
  | .exc c => .exc c m
  | .stuck => .stuck
@[simp] theorem ofR_ok {α : Type} (m : Sl) (a : α) (k : α → RS) : ofR m (.ok a) k = k a := nr rfl
def sThen (r : RS) (k : Sl → RS) : RS := match r with
  | .nx m => k m
  | r => r
@[simp] theorem sThen_nx (m : Sl) (k : Sl → RS) : sThen (.nx m) k = k m := nr rfl
@[simp] theorem sThen_rt (d : D) (k : Sl → RS) : sThen (.rt d) k = .rt d := nr rfl
@[simp] theorem sThen_exc (c : String) (m : Sl) (k : Sl → RS) : sThen (.exc c m) k = .exc c m := nr rfl
def sNop : SemS := fun m => .nx m
def sSeq (g h : SemS) : SemS := fun m => sThen (g m) h
def sExp (f : SemE) : SemS := fun m => ofR m (f m) fun _ => .nx m
def sRet (f : SemE) : SemS := fun m => ofR m (f m) fun d => .rt (still d)
def sRetO (h : SemA) : SemS := fun m => ofR m (h m) fun ds => if hasTL ds = true then .stuck else .rt (.lst true ds)
def sRetV (i : Nat) : SemS := fun m => match m[i]? with
  | some (some (.lst true ds)) => .rt (.lst true ds)
  | _ => .stuck
def sIf (t : SemT) (g h : SemS) : SemS := fun m => ofR m (t m) fun c => if c = true then g m else h m
def putR (i : Nat) (d : D) (m : Sl) : R Sl := if hasT d = true then .stuck else .ok (m.set i (some d))
def sSet (i : Nat) (f : SemE) : SemS := fun m => ofR m (f m) fun d => ofR m (putR i d m) fun m' => .nx m'
def sSetO (i : Nat) (h : SemA) : SemS := fun m => ofR m (h m) fun ds => if hasTL ds = true then .stuck else .nx (m.set i (some (.lst true ds)))
section
variable {X : Cx} {b : Bs} {W : WX} {st : Stmt} {rest : List Stmt} {g h : SemS} {e : Expr} {f : SemE} {t : SemT} {pos : Pos}
theorem seqS {R' : V → Hp → Prop} {σ : L2.St} {H F : Hp} {k : D → RS} {D' : Ends} {m : Sl} (r : Rel X.K b F m σ H) (p : Sst X.K b W F H D' (ofR m (f m) k))
    (q : ∀ d F1 H1 v, Rel X.K b F1 m σ H1 → Grow F H F1 H1 → Rp X.K F1 b.H0 H1 d v → Sst X.K b W F1 H1 D' (k d) → R' v H1) : tSE X.K b W f σ H R' := by
  refine ⟨F, m, r, ?_⟩
  cases hf : f m with
  | stuck => rw [hf] at p; exact p.elim
  | exc c => rw [hf] at p; exact fun F1 H1 G => p σ F1 H1 (r.step G) G.prog
  | ok d => rw [hf] at p; exact fun F1 H1 G v hv => q d F1 H1 v (r.step G) G hv (Sst.prog G.prog p)
theorem seqO {R' : V → Hp → Prop} {σ : L2.St} {H F : Hp} {k : List D → RS} {D' : Ends} {m : Sl} {f : SemA} (r : Rel X.K b F m σ H) (p : Sst X.K b W F H D' (ofR m (f m) k))
    (q : ∀ ds F1 H1 a xs, Rel X.K b F1 m σ H1 → Grow F H F1 H1 → H a = none → F1 a = none → H1 a = some (.lst xs) → RpL X.K F1 b.H0 H1 ds xs → Sst X.K b W F1 H1 D' (k ds) → R' (.ref a) H1) : tSO X.K b W f σ H R' := by
  refine ⟨F, m, r, ?_⟩
  cases hf : f m with
  | stuck => rw [hf] at p; exact p.elim
  | exc c => rw [hf] at p; exact fun F1 H1 G => p σ F1 H1 (r.step G) G.prog
  | ok d => rw [hf] at p; exact fun F1 H1 G a xs h0 h1 h2 hv => q d F1 H1 a xs (r.step G) G h0 h1 h2 hv (Sst.prog G.prog p)
theorem sss_nil : SSs X b W [] sNop := PSs.weak pss_nil fun D' σ H ⟨F, m, R, p⟩ => p σ F H R (Prog.refl _ _)
theorem sss_cons (h1 : SS X b W st g) (h2 : SSs X b W rest h) : SSs X b W (st :: rest) (sSeq g h) := by
  refine PSs.weak (pss_cons h1 h2) fun D' σ H ⟨F, m, R, p⟩ => ⟨F, m, R, ?_⟩
  unfold sSeq at p
  cases hg : g m with
  | nx m' => rw [hg] at p; exact fun σ' F' H' R' q => ⟨F', m', R', Sst.prog q p⟩
  | bk m' => rw [hg] at p; exact p
  | ct m' => rw [hg] at p; exact p
  | rt d => rw [hg] at p; exact p
  | exc c m' => rw [hg] at p; exact p
  | stuck => rw [hg] at p; exact p
theorem sss_one (h1 : SS X b W st g) : SSs X b W [st] g := PSs.weak (pss_one h1) fun _ _ _ z => z
theorem ss_exp (hf : SE X b W e f) (hs : swapsWith e none pos.line X.env = pure false := by rfl) : SS X b W (.Expr e pos) (sExp f) :=
  PS.weak (ps_expr hf hs) fun D' σ H ⟨F, m, R, p⟩ => seqS R p fun d F1 H1 v R1 G _ q => q σ F1 H1 R1 (Prog.refl _ _)
theorem Rel.tell {K : PySem.W.Frag} {F H : Hp} {m : Sl} {σ : L2.St} {d : D} {v : V} (R : Rel K b F m σ H) (hv : Rp K F b.H0 H d v) : ∃ F', Grow b.F0 b.H0 F' H ∧ SlotOk K F' b.H0 H (still d) v := by
  refine ⟨vis F b.H0 H, ⟨R.grow.same, R.grow.sub.trans (vis_sub R.sub), vis_subH R.sub, fun a o e => ?_⟩, .inr (.inl ⟨hasT_still d, Rp.vis R.sub d v hv⟩)⟩
  cases h : b.H0 a with
  | none => exact .inr rfl
  | some z =>
    rw [vis_old h] at e
    rcases R.grow.new a o e with q | q
    · exact .inl q
    · rw [h] at q; cases q
theorem ss_ret (hf : SE X b W e f) : SS X b W (.Return (some e) pos) (sRet f) :=
  PS.weak (ps_ret hf) fun D' σ H ⟨F, m, R, p⟩ => seqS R p fun d F1 H1 v R1 G hv q => by
    obtain ⟨F', h1, h2⟩ := R1.tell hv
    exact q F' H1 v h1 h2
theorem ss_retO {k : SemA} (hf : SO X b W e k) : SS X b W (.Return (some e) pos) (sRetO k) :=
  PS.weak (ps_ret hf) fun D' σ H ⟨F, m, R, p⟩ => seqO R p fun ds F1 H1 a xs R1 G h0 h1 h2 hv q => by
    split at q
    · exact q.elim
    · rename_i ht
      exact q F1 H1 _ R1.grow (.inl ⟨ds, a, xs, rfl, rfl, h2, h1, R.grow.same.free h0, hv, by simpa using ht⟩)
theorem ss_retV {i : Nat} (hf : PE X e (tVar i)) : SS X b W (.Return (some e) pos) (sRetV i) :=
  PS.weak (ps_ret hf) fun D' σ H ⟨F, m, R, p⟩ => by
    unfold sRetV at p
    split at p
    · rename_i ds hd
      obtain ⟨v, h1, h2⟩ := R.slot i _ hd
      exact ⟨v, h1, p F H v R.grow h2⟩
    · exact p.elim
theorem ss_if {c : Expr} {a d : List Stmt} (hc : ST X b W c t) (ha : SSs X b W a g) (hb : SSs X b W d h) : SS X b W (.If c a d pos) (sIf t g h) :=
  PS.weak (ps_if hc ha hb) fun D' σ H ⟨F, m, R, p⟩ => by
    refine ⟨F, m, R, ?_⟩
    unfold sIf at p
    cases ht : t m with
    | stuck => rw [ht] at p; exact p.elim
    | exc c => rw [ht] at p; exact fun F1 H1 G => p σ F1 H1 (R.step G) G.prog
    | ok c =>
      rw [ht] at p
      refine fun F1 H1 G => ?_
      cases c with
      | true => exact ⟨F1, m, R.step G, Sst.prog G.prog p⟩
      | false => exact ⟨F1, m, R.step G, Sst.prog G.prog p⟩
variable {i : Nat} {x : Str} {px : Pos}
theorem ss_set (hN : X.N.Nodup) (hi : X.N[i]? = some x) (hx : Loc X.env.scope x) (hf : SE X b W e f) (hfn : X.fn x = true ∨ X.env.scope.names.lookup x = some .local := by first | exact .inl rfl | exact .inr rfl)
    (hs : swapsWithSole [.Name x px] e pos.line X.env = pure false := by rfl) (hw : swappedStores [.Name x px] e X.env = pure none := by rfl) : SS X b W (.Assign [.Name x px] e pos) (sSet i f) :=
  PS.weak (ps_asg hf (pg_name hN hi hx hfn) hs hw) fun D' σ H ⟨F, m, R, p⟩ => seqS R p fun d F1 H1 v R1 G hv q => by
    unfold putR at q
    split at q
    · exact q.elim
    · rename_i ht
      exact q _ F1 H1 (R1.put (by simpa using ht) hv) (Prog.refl _ _)
theorem ss_setO {k : SemA} (hN : X.N.Nodup) (hi : X.N[i]? = some x) (hx : Loc X.env.scope x) (hf : SO X b W e k) (hfn : X.fn x = true ∨ X.env.scope.names.lookup x = some .local := by first | exact .inl rfl | exact .inr rfl)
    (hs : swapsWithSole [.Name x px] e pos.line X.env = pure false := by rfl) (hw : swappedStores [.Name x px] e X.env = pure none := by rfl) : SS X b W (.Assign [.Name x px] e pos) (sSetO i k) :=
  PS.weak (ps_asg hf (pg_name hN hi hx hfn) hs hw) fun D' σ H ⟨F, m, R, p⟩ => by
    refine ⟨F, m, R, ?_⟩
    unfold sSetO at p
    cases hk : k m with
    | stuck => rw [hk] at p; exact p.elim
    | exc c => rw [hk] at p; exact fun F1 H1 G => p σ F1 H1 (R.step G) G.prog
    | ok ds =>
      rw [hk] at p
      simp only [ofR_ok] at p
      split at p
      · exact p.elim
      · rename_i ht
        exact fun F1 H1 G a xs h0 h1 h2 hv => p _ F1 H1 (R.own G h0 h2 h1 hv (by simpa using ht)) G.prog
end
end CT

namespace CT
open PySem PySem.Spec PyProof.Rows L2
abbrev SemG := D → Sl → R Sl
def NGok (K : PySem.W.Frag) (t : TG) (g : SemG) (vs : List Nat) : Prop := ∀ (b : Bs) (F : Hp) (m : Sl) (σ : L2.St) (H : Hp) (d : D) (v : V) (m' : Sl) (Q : L2.St → Hp → Prop), Rel K b F m σ H → Rp K F b.H0 H d v → g d m = .ok m' →
  (∀ σ', Rel K b F m' σ' H → wipe σ' vs = wipe σ vs → Q σ' H) → t v σ H Q
abbrev SemGs := List D → Sl → R Sl
def NGsOk (K : PySem.W.Frag) (t : TGs) (g : SemGs) (vs : List Nat) : Prop := ∀ (b : Bs) (F : Hp) (m : Sl) (σ : L2.St) (H : Hp) (ds : List D) (us : List V) (m' : Sl) (Q : L2.St → Hp → Prop), Rel K b F m σ H → RpL K F b.H0 H ds us → g ds m = .ok m' →
  (∀ σ', Rel K b F m' σ' H → wipe σ' vs = wipe σ vs → Q σ' H) → t us σ H Q
theorem wipe_set {i : Nat} {v : V} : ∀ {vs : List Nat} {σ : L2.St}, i ∈ vs → wipe (σ.set i (some v)) vs = wipe σ vs
  | [], _, h => nomatch h
  | j :: vs, σ, h => by
    show (wipe (σ.set i (some v)) vs).set j none = (wipe σ vs).set j none
    by_cases hj : i ∈ vs
    · rw [wipe_set hj]
    · have e : i = j := (List.mem_cons.mp h).resolve_right hj
      subst e
      have : ∀ (vs : List Nat) (σ : L2.St), i ∉ vs → wipe (σ.set i (some v)) vs = (wipe σ vs).set i (some v) := fun vs => by
        induction vs with
        | nil => intro σ _; rfl
        | cons k r ih =>
          intro σ hn
          have h1 : i ≠ k := fun e => hn (by rw [e]; exact List.mem_cons_self)
          have h2 : i ∉ r := fun e => hn (List.mem_cons_of_mem _ e)
          show (wipe (σ.set i (some v)) r).set k none = ((wipe σ r).set k none).set i (some v)
          rw [ih σ h2, List.set_comm _ _ h1]
      rw [this vs σ hj, List.set_set]
theorem ng_name {K : PySem.W.Frag} {i : Nat} {vs : List Nat} (hi : i ∈ vs) : NGok K (gName i) (putR i) vs := fun b F m σ H d v m' Q R hv e q => by
  unfold putR at e
  split at e
  · cases e
  · rename_i ht
    cases e
    exact q _ (R.put (by simpa using ht) hv) (wipe_set hi)
def gsNil : SemGs := fun ds m => match ds with
  | [] => .ok m
  | _ => .stuck
def gsCons (g : SemG) (h : SemGs) : SemGs := fun ds m => match ds with
  | d :: r => (g d m).bind fun m1 => h r m1
  | [] => .stuck
def gTupR (n : Nat) (g : SemGs) : SemG := fun d m => match d with
  | .tup ds => if ds.length = n then g ds m else .stuck
  | _ => .stuck
theorem ngs_nil {K : PySem.W.Frag} {vs : List Nat} : NGsOk K gNil gsNil vs := fun b F m σ H ds us m' Q R hv e q => by
  cases ds with
  | nil => cases hv; cases e; exact ⟨rfl, q σ R rfl⟩
  | cons _ _ => cases e
theorem ngs_cons {K : PySem.W.Frag} {vs : List Nat} {t : TG} {ts : TGs} {g : SemG} {h : SemGs} (h1 : NGok K t g vs) (h2 : NGsOk K ts h vs) : NGsOk K (gCons t ts) (gsCons g h) vs := fun b F m σ H ds us m' Q R hv e q => by
  cases ds with
  | nil => cases e
  | cons d r =>
    cases hv with
    | cons a c =>
      simp only [gsCons] at e
      cases hg : g d m with
      | stuck => rw [hg] at e; cases e
      | exc c => rw [hg] at e; cases e
      | ok m1 =>
        rw [hg] at e
        simp only [CT.R.bind_ok] at e
        exact ⟨_, _, rfl, h1 b F m σ H d _ m1 _ R a hg fun σ1 R1 w1 => h2 b F m1 σ1 H r _ m' _ R1 c e fun σ2 R2 w2 => q σ2 R2 (w2.trans w1)⟩
theorem ng_tup {K : PySem.W.Frag} {vs : List Nat} {ts : TGs} {h : SemGs} {n : Nat} (h2 : NGsOk K ts h vs) : NGok K (gTup K n ts) (gTupR n h) vs := fun b F m σ H d v m' Q R hv e q => by
  cases d <;> first | (cases e; done) | skip
  rename_i ds
  simp only [gTupR] at e
  split at e
  · rename_i hl
    obtain ⟨a, xs, rfl, k1, k2⟩ := hv.tuple
    exact ⟨a, xs, rfl, k1, by rw [← k2.length]; exact hl, h2 b F m σ H ds xs m' Q R k2 e q⟩
  · cases e
def Ltr (strict : Bool) (F H F' H' : Hp) : Prop := Same F F' ∧ Same F' H' ∧ (∀ c o, H c = some o → NoL o → H' c = some o) ∧ (strict = false → Same H H')
structure Wk (K : PySem.W.Frag) (H0 : Hp) (strict : Bool) (J : It) (F H : Hp) (ds : List D) : Prop where
  go : ∀ i F' H', Ltr strict F H F' H' → i < ds.length → J.go i H'
  yld : ∀ (i : Nat) F' H' x H'', Ltr strict F H F' H' → i < ds.length → J.yld i H' x H'' → ∃ F'' d, Grow F' H' F'' H'' ∧ ds[i]? = some d ∧ Rp K F'' H0 H'' d x
  stop : ∀ F' H', Ltr strict F H F' H' → J.stop ds.length H'
def tSI (K : PySem.W.Frag) (b : Bs) (W : WX) (strict : Bool) (f : SemA) : TI := fun σ H Rw => ∃ F m, Rel K b F m σ H ∧ Pst b W σ F H (fun ds F' H' => ∀ J, Wk K b.H0 strict J F' H' ds → Rw J H') (f m)
abbrev SI (X : Cx) (b : Bs) (W : WX) (strict : Bool) (tg e : Expr) (f : SemA) : Prop := PI X tg e (tSI X.K b W strict f)
theorem PI.weak {X : Cx} {tg e : Expr} {t t' : TI} (h : PI X tg e t) (w : ∀ σ H Rw, t' σ H Rw → t σ H Rw) : PI X tg e t' := ⟨fun pins s σ H Q I q => h.run pins s σ H Q I (w _ _ _ q)⟩
theorem PI.or {X : Cx} {tg e : Expr} {t t' : TI} (h : PI X tg e t) (h' : PI X tg e t') : PI X tg e (fun σ H Rw => t σ H Rw ∨ t' σ H Rw) := ⟨fun pins s σ H Q I q => by
  rcases q with q | q
  · exact h.run pins s σ H Q I q
  · exact h'.run pins s σ H Q I q⟩
def items (strict : Bool) : D → R (List D)
  | .lst t xs => if (strict && t) = true then .stuck else .ok xs
  | .fr xs => .ok xs
  | .tup xs => .ok xs
  | .str z => .ok (z.cps.toList.map fun c => .str ⟨#[c]⟩)
  | _ => .stuck
section
variable {K : PySem.W.Frag} {F H H0 : Hp} {a : Addr} {xs : List V} {ds : List D} {strict : Bool}
theorem Ltr.tup {F' H' : Hp} (l : Ltr strict F H F' H') (h : SqT K H a xs) : SqT K H' a xs := by
  rcases h with (h | ⟨o, h⟩) | h
  · exact .inl (.inl (l.2.2.1 _ _ h trivial))
  · exact .inl (.inr ⟨o, l.2.2.1 _ _ h trivial⟩)
  · exact .inr h
theorem RpL.ltr {F' H' : Hp} (n : hasTL ds = false ∨ strict = false) (l : Ltr strict F H F' H') (r : RpL K F H0 H ds xs) : RpL K F' H0 H' ds xs := by
  rcases n with n | n
  · exact (RpL.keep l.2.2.1 ds xs n r).mono l.1 (Same.refl _)
  · exact r.mono l.1 (l.2.2.2 n)
theorem Wk.of {J : It} (n : hasTL ds = false ∨ strict = false) (r : RpL K F H0 H ds xs) (P : Hp → Prop) (hP : ∀ F' H', Ltr strict F H F' H' → P H') (h1 : ∀ (i : Nat) x H', P H' → xs[i]? = some x → J.go i H')
    (h2 : ∀ (i : Nat) H' x H'', P H' → J.yld i H' x H'' → H'' = H' ∧ ∀ y, xs[i]? = some y → y = x) (h3 : ∀ H', P H' → J.stop xs.length H') : Wk K H0 strict J F H ds where
  go := fun i F' H' l hi => h1 i (xs[i]'(by rw [← r.length]; exact hi)) H' (hP F' H' l) (by simp)
  yld := fun i F' H' x H'' l hi y => by
    obtain ⟨e, q⟩ := h2 i H' x H'' (hP F' H' l) y
    subst e
    obtain ⟨v, k1, k2⟩ := (RpL.ltr n l r).get (i := i) (d := ds[i]) (by simp [hi])
    rw [q v k1] at k2
    exact ⟨F', ds[i], Grow.refl l.2.1, by simp [hi], k2⟩
  stop := fun F' H' l => by rw [r.length]; exact h3 H' (hP F' H' l)
theorem wk_list (n : hasTL ds = false ∨ strict = false) (r : RpL K F H0 H ds xs) (hP : ∀ F' H', Ltr strict F H F' H' → SqL K H' a xs) : Wk K H0 strict (Itl K a) F H ds :=
  Wk.of n r (fun H' => SqL K H' a xs) hP (fun i x H' p e => ⟨xs, x, p, e⟩) (fun i H' x H'' p y => ⟨y.1, fun z e => Option.some.inj (e.symm.trans (y.2 xs p))⟩) (fun H' p => ⟨xs, p, Nat.le_refl _⟩)
theorem wk_tup (n : hasTL ds = false ∨ strict = false) (r : RpL K F H0 H ds xs) (hP : ∀ F' H', Ltr strict F H F' H' → SqT K H' a xs) : Wk K H0 strict (Itt K a) F H ds :=
  Wk.of n r (fun H' => SqT K H' a xs) hP (fun i x H' p e => ⟨xs, x, p, e⟩) (fun i H' x H'' p y => ⟨y.1, fun z e => Option.some.inj (e.symm.trans (y.2 xs p))⟩) (fun H' p => ⟨xs, p, Nat.le_refl _⟩)
theorem Rp.lasts {t : Bool} {v : V} (s : Same F H) (h : Rp K F H0 H (.lst t ds) v) (c : (strict && t) = false) : ∃ a xs, v = .ref a ∧ RpL K F H0 H ds xs ∧ ∀ F' H', Ltr strict F H F' H' → SqL K H' a xs := by
  cases h with
  | lst p q => exact ⟨_, _, rfl, q, fun F' H' l => .inl (.inl (l.2.1 _ _ (l.1 _ _ p)))⟩
  | tmF p q => exact ⟨_, _, rfl, q, fun F' H' l => .inl (.inl (l.2.1 _ _ (l.1 _ _ p)))⟩
  | tmN p q z =>
    rw [Bool.and_true] at c
    exact ⟨_, _, rfl, z, fun F' H' l => .inl (.inl (l.2.2.2 c _ _ q))⟩
end
theorem chars_rp {K : PySem.W.Frag} {F H H0 : Hp} : ∀ cs : List Nat, RpL K F H0 H (cs.map fun c => .str ⟨#[c]⟩) (cs.map fun c => .str ⟨#[c]⟩)
  | [] => .nil
  | c :: cs => .cons (.str _) (chars_rp cs)
theorem chars_noT : ∀ cs : List Nat, hasTL (cs.map fun c => D.str ⟨#[c]⟩) = false
  | [] => rfl
  | c :: cs => by rw [List.map_cons, hasTL, chars_noT cs]; rfl
section
variable {X : Cx} {b : Bs} {W : WX} {strict : Bool} {e tg : Expr} {f : SemE} {h : SemA} {p pos : Pos}
def itemsN (strict : Bool) (x : D) : R (List D) := (items strict x).bind fun ds => if (strict && hasTL ds) = true then .stuck else .ok ds
def aItN (strict : Bool) (f : SemE) : SemA := fun m => (f m).bind (itemsN strict)
theorem noT_of {ds : List D} (h : ¬ (strict && hasTL ds) = true) : hasTL ds = false ∨ strict = false := by
  cases strict <;> simp_all
theorem si_seq (hf : SE X b W e f) : SI X b W strict tg e (aItN strict f) := by
  refine PI.weak (PI.or (pi_list hf) (PI.or (pi_tup hf) (pi_str hf))) fun σ H Rw ⟨F, m, R, p⟩ => ?_
  unfold aItN itemsN at p
  cases hm : f m with
  | stuck => rw [hm] at p; exact p.elim
  | exc c =>
    rw [hm] at p
    exact .inl ⟨F, m, R, by rw [hm]; exact p⟩
  | ok x =>
    rw [hm] at p
    simp only [CT.R.bind_ok] at p
    cases x with
    | non => exact p.elim
    | bl _ => exact p.elim
    | int _ => exact p.elim
    | unk => exact p.elim
    | ex _ => exact p.elim
    | fn _ => exact p.elim
    | dic _ _ => exact p.elim
    | dct _ _ _ => exact p.elim
    | lst t ds =>
      refine .inl ⟨F, m, R, ?_⟩
      rw [hm]
      refine fun F1 H1 G v hv => ?_
      have s := (R.step G).sub
      simp only [items] at p
      split at p
      · exact p.elim
      · rename_i c
        simp only [CT.R.bind_ok] at p
        split at p
        · exact p.elim
        · rename_i c2
          obtain ⟨a, xs, rfl, k1, k2⟩ := hv.lasts (strict := strict) s (by simpa using c)
          exact ⟨a, rfl, ⟨xs, k2 F1 H1 ⟨Same.refl _, s, fun _ _ z _ => z, fun _ => Same.refl _⟩⟩, p F1 H1 G _ (wk_list (noT_of c2) k1 k2)⟩
    | fr ds =>
      refine .inl ⟨F, m, R, ?_⟩
      rw [hm]
      refine fun F1 H1 G v hv => ?_
      have s := (R.step G).sub
      simp only [items, CT.R.bind_ok] at p
      split at p
      · exact p.elim
      · rename_i c2
        cases hv with
        | fr k1 k2 =>
          exact ⟨_, rfl, ⟨_, s.seq k1⟩, p F1 H1 G _ (wk_list (noT_of c2) k2 fun F' H' l => l.2.1.seq (l.1.seq k1))⟩
    | tup ds =>
      refine .inr (.inl ⟨F, m, R, ?_⟩)
      rw [hm]
      refine fun F1 H1 G v hv => ?_
      have s := (R.step G).sub
      simp only [items, CT.R.bind_ok] at p
      split at p
      · exact p.elim
      · rename_i c2
        obtain ⟨a, xs, rfl, k1, k2⟩ := hv.tuple
        exact ⟨a, rfl, ⟨xs, k1⟩, p F1 H1 G _ (wk_tup (noT_of c2) k2 fun F' H' l => l.tup k1)⟩
    | str z =>
      refine .inr (.inr ⟨F, m, R, ?_⟩)
      rw [hm]
      refine fun F1 H1 G v hv => ?_
      cases hv
      simp only [items, CT.R.bind_ok, chars_noT, Bool.and_false, Bool.false_eq_true, if_false] at p
      refine ⟨z, rfl, p F1 H1 G _ ?_⟩
      refine Wk.of (xs := z.cps.toList.map fun c => .str ⟨#[c]⟩) (.inl (chars_noT _)) (chars_rp _) (fun _ => True) (fun _ _ _ => trivial) (fun i x H' _ e => ?_) (fun i H' x H'' _ y => ?_) (fun H' _ => ?_)
      · obtain ⟨h1, _⟩ := List.getElem?_eq_some_iff.mp e
        show i < z.cps.size
        simpa using h1
      · obtain ⟨e1, c, hc, rfl⟩ := y
        refine ⟨e1, fun y hy => ?_⟩
        rw [List.getElem?_map] at hy
        rw [← Array.getElem?_toList] at hc
        rw [hc] at hy
        exact (Option.some.inj hy).symm
      · show z.cps.size ≤ _
        simp
def rng (lo : Int) (n : Nat) : List D := (List.range n).map fun i => D.int (lo + (i : Nat))
def rng1 : List D → R (List D)
  | [.int j] => if -(2 ^ 62) ≤ j ∧ j < 2 ^ 62 then .ok (rng 0 j.toNat) else .stuck
  | _ => .stuck
theorem rng_length (lo : Int) (n : Nat) : (rng lo n).length = n := by simp [rng]
theorem rng_get (lo : Int) (n i : Nat) (h : i < n) : (rng lo n)[i]? = some (.int (lo + (i : Nat))) := by simp [rng, h]
theorem wk_rng {K : PySem.W.Frag} {F H H0 : Hp} {lo : Int} {n : Nat} : Wk K H0 strict (Itr lo n) F H (rng lo n) where
  go := fun i F' H' l hi => by rw [rng_length] at hi; exact hi
  yld := fun i F' H' x H'' l hi y => by
    rw [rng_length] at hi
    obtain ⟨e, rfl⟩ := y
    subst e
    exact ⟨F', _, Grow.refl l.2.1, rng_get lo n i hi, .int _⟩
  stop := fun F' H' l => by rw [rng_length]; exact Nat.le_refl _
theorem si_rng1 {a : Expr} (hg : Gl X "range") (hm : X.mg "range" = none) (ha : SA X b W [a] h) (hs : starEach [a] X.env = [(false, eval a X.env)] := by rfl) : SI X b W strict tg (.Call (.Name "range" p) [a] [] pos) (aThen h rng1) := by
  refine PI.weak (pi_range1 hg hm ha hs) fun σ H Rw ⟨F, m, R, p⟩ => ?_
  refine seqA R p fun xs F1 H1 vs R1 G1 hv p1 => ?_
  unfold rng1 at p1
  split at p1
  · obtain ⟨v, rfl, h⟩ := hv.one
    cases h
    split at p1
    · rename_i c
      exact ⟨_, rfl, c.1, c.2, p1.here R1.sub _ wk_rng⟩
    · exact p1.elim
  · exact p1.elim
theorem Wk.pairs {K : PySem.W.Frag} {F H H0 : Hp} {J : It} {ds es : List D} {xs ys : List V} (n1 : hasTL ds = false ∨ strict = false) (n2 : hasTL es = false ∨ strict = false) (r : RpL K F H0 H ds xs) (q : RpL K F H0 H es ys) (P : Hp → Prop) (hP : ∀ F' H', Ltr strict F H F' H' → P H')
    (h1 : ∀ (i : Nat) x y H', P H' → xs[i]? = some x → ys[i]? = some y → J.go i H')
    (h2 : ∀ (i : Nat) H' v H'', P H' → J.yld i H' v H'' → ∃ T x y, v = .ref T ∧ H' T = none ∧ H'' = upd H' T (.tup [x, y]) ∧ (∀ z, xs[i]? = some z → z = x) ∧ ∀ z, ys[i]? = some z → z = y)
    (h3 : ∀ H', P H' → J.stop (min xs.length ys.length) H') : Wk K H0 strict J F H ((ds.zip es).map fun p => .tup [p.1, p.2]) where
  go := fun i F' H' l hi => by
    have hi : i < min xs.length ys.length := by simpa [r.length, q.length] using hi
    exact h1 i (xs[i]'(by omega)) (ys[i]'(by omega)) H' (hP F' H' l) (by simp) (by simp)
  yld := fun i F' H' x H'' l hi y => by
    have hi : i < min ds.length es.length := by simpa using hi
    obtain ⟨T, a, c, rfl, k1, rfl, k2, k3⟩ := h2 i H' x H'' (hP F' H' l) y
    obtain ⟨v, k4, k5⟩ := (RpL.ltr n1 l r).get (i := i) (d := ds[i]'(by omega)) (by simp)
    obtain ⟨u, k6, k7⟩ := (RpL.ltr n2 l q).get (i := i) (d := es[i]'(by omega)) (by simp)
    have e1 := k2 v k4
    have e2 := k3 u k6
    subst e1 e2
    have G := Grow.still (o := .tup [v, u]) l.2.1 k1
    refine ⟨_, .tup [ds[i]'(by omega), es[i]'(by omega)], G, ?_, .tup upd_same (.cons (k5.grow G) (.cons (k7.grow G) .nil))⟩
    have e1 : ds[i]? = some (ds[i]'(by omega)) := List.getElem?_eq_getElem _
    have e2 : es[i]? = some (es[i]'(by omega)) := List.getElem?_eq_getElem _
    have e3 : (ds.zip es)[i]? = some (ds[i]'(by omega), es[i]'(by omega)) := List.getElem?_zip_eq_some.mpr ⟨e1, e2⟩
    rw [List.getElem?_map, e3]
    rfl
  stop := fun F' H' l => by
    have := h3 H' (hP F' H' l)
    rw [← r.length, ← q.length] at this
    simpa using this
end
def forGo (g : SemG) (body : SemS) : List D → Sl → RS
  | [], m => .nx m
  | d :: ds, m => match g d m with
    | .ok m1 => match body m1 with
      | .nx m2 => forGo g body ds m2
      | .ct m2 => forGo g body ds m2
      | .bk m2 => .nx m2
      | .rt d => .rt d
      | .exc c m2 => .exc c m2
      | .stuck => .stuck
    | _ => .stuck
def sFor (h : SemA) (g : SemG) (body : SemS) : SemS := fun m => ofR m (h m) fun ds => forGo g body ds m
section
variable {X : Cx} {b : Bs} {W : WX} {e tg : Expr} {body : List Stmt} {h : SemA} {g : SemG} {k : SemS} {t : TG} {vs : List Nat} {pos : Pos} {tst : SemT}
theorem ss_for (hp : PassesOwn (model X.prog X.w) X.A X.env X.xe) (hc : X.calm = true) (hi : SI X b W true tg e h) (hg : PG X tg t) (hn : NGok X.K t g vs) (hb : SSs X b W body k) (hs : ∀ x, foldedSetIterable e X.env x = pure x := by intro _; rfl) :
    SS X b W (.For tg e body [] pos) (sFor h g k) := by
  refine PS.weak (ps_for hp hc hi hg hb hs) fun D' σ H ⟨F, m, R, p⟩ => ?_
  refine ⟨F, m, R, ?_⟩
  unfold sFor at p
  cases hh : h m with
  | stuck => rw [hh] at p; exact p.elim
  | exc c => rw [hh] at p; exact fun F1 H1 G => p σ F1 H1 (R.step G) G.prog
  | ok ds =>
    rw [hh] at p
    simp only [ofR_ok] at p
    refine fun F1 H1 G J wk => ?_
    refine ⟨fun i n σ' H' => n = ds.length - i ∧ i ≤ ds.length ∧ ∃ F' m', Rel X.K b F' m' σ' H' ∧ Prog F1 H1 F' H' ∧ Sst X.K b W F' H' D' (forGo g k (ds.drop i) m'), ⟨_, rfl, Nat.zero_le _, F1, m, R.step G, Prog.refl _ _, by rw [List.drop_zero]; exact Sst.prog G.prog p⟩, ?_⟩
    rintro i n σ' H' ⟨rfl, hi, F', m', R', P', p'⟩
    have l : Ltr true F1 H1 F' H' := ⟨P'.sub, R'.sub, P'.tups, fun z => by cases z⟩
    by_cases hlt : i < ds.length
    · refine .inr ⟨wk.go i F' H' l hlt, fun σ2 H2 => (ds.length - (i + 1) = ds.length - (i + 1) ∧ i + 1 ≤ ds.length ∧ ∃ F2 m2, Rel X.K b F2 m2 σ2 H2 ∧ Prog F1 H1 F2 H2 ∧ Sst X.K b W F2 H2 D' (forGo g k (ds.drop (i + 1)) m2)), fun σ2 H2 z => ⟨_, by omega, z⟩, fun x H2 y => ?_⟩
      obtain ⟨F2, d, G2, e2, r2⟩ := wk.yld i F' H' x H2 l hlt y
      have hd : ds.drop i = d :: ds.drop (i + 1) := by
        obtain ⟨h1, h2⟩ := List.getElem?_eq_some_iff.mp e2
        rw [← h2]
        exact List.drop_eq_getElem_cons h1
      rw [hd] at p'
      simp only [forGo] at p'
      cases hgd : g d m' with
      | stuck => rw [hgd] at p'; exact p'.elim
      | exc c => rw [hgd] at p'; exact p'.elim
      | ok m1 =>
        rw [hgd] at p'
        simp only at p'
        have R2 := R'.step G2
        refine hn b F2 m' σ' H2 d x m1 _ R2 r2 hgd fun σ3 R3 _ => ⟨F2, m1, R3, ?_⟩
        have P2 : Prog F1 H1 F2 H2 := P'.trans G2.prog
        have p2 := Sst.prog G2.prog p'
        cases hk : k m1 with
        | nx m2 => rw [hk] at p2; exact fun σ4 F4 H4 R4 q => ⟨rfl, hlt, F4, m2, R4, P2.trans q, Sst.prog q p2⟩
        | ct m2 => rw [hk] at p2; exact fun σ4 F4 H4 R4 q => ⟨rfl, hlt, F4, m2, R4, P2.trans q, Sst.prog q p2⟩
        | bk m2 => rw [hk] at p2; exact p2
        | rt d => rw [hk] at p2; exact p2
        | exc c m2 => rw [hk] at p2; exact p2
        | stuck => rw [hk] at p2; exact p2.elim
    · have e : i = ds.length := by omega
      subst e
      rw [List.drop_length] at p'
      exact .inl ⟨wk.stop F' H' l, p' σ' F' H' R' (Prog.refl _ _)⟩
end
end CT

namespace CT
open PySem PySem.Spec PyProof.Rows L2
def nox {α : Type} : R α → R α
  | .ok a => .ok a
  | _ => .stuck
def lcGo (g : SemG) (t : SemT) (f : SemE) (m : Sl) : List D → R (List D)
  | [] => .ok []
  | d :: ds => (nox (g d m)).bind fun m1 => (nox (t m1)).bind fun c => if c = true then
      (nox (f m1)).bind fun x => if hasT x = true then .stuck else (lcGo g t f m ds).bind fun r => .ok (x :: r)
    else lcGo g t f m ds
def wipeM : Sl → List Nat → Sl
  | m, [] => m
  | m, v :: vs => (wipeM m vs).set v none
def aLc (h : SemA) (g : SemG) (t : SemT) (f : SemE) (vs : List Nat) : SemA := fun m => (h m).bind fun ds => (lcGo g t f (wipeM m vs) ds).bind fun r => if r.length ≤ sizeLine then .ok r else .stuck
def tYesM : SemT := fun _ => .ok true
abbrev WF : WX := fun _ _ _ _ => False
abbrev STs (X : Cx) (b : Bs) (W : WX) (es : List Expr) (f : SemT) : Prop := PTs X es (tST X.K b W f)
theorem PTs.weak {X : Cx} {e : List Expr} {t t' : TT} (h : PTs X e t) (w : ∀ σ H Q, t' σ H Q → t σ H Q) : PTs X e t' := ⟨fun pins s σ H Q I q => h.run pins s σ H Q I (w _ _ _ q)⟩
theorem sts_nil {X : Cx} {b : Bs} {W : WX} : STs X b W [] tYesM := PTs.weak pts_nil fun σ H Q ⟨F, m, R, p⟩ => p.here R.sub
theorem nox_noexc {α : Type} (r : R α) (c : String) : nox r ≠ .exc c := by cases r <;> intro h <;> cases h
theorem bind_noexc {α β : Type} {r : R α} {k : α → R β} {c : String} (h : ∀ c, r ≠ .exc c) (hk : ∀ a, k a ≠ .exc c) : r.bind k ≠ .exc c := by
  cases r with
  | ok a => exact hk a
  | exc d => exact absurd rfl (h d)
  | stuck => intro z; cases z
theorem lcGo_noexc {g : SemG} {t : SemT} {f : SemE} {m : Sl} : ∀ (ds : List D) (c : String), lcGo g t f m ds ≠ .exc c
  | [], _ => fun h => by cases h
  | d :: ds, c => by
    unfold lcGo
    refine bind_noexc (nox_noexc _) fun m1 => bind_noexc (nox_noexc _) fun q => ?_
    split
    · refine bind_noexc (nox_noexc _) fun x => ?_
      split
      · intro z; cases z
      · exact bind_noexc (lcGo_noexc ds) fun r => fun z => by cases z
    · exact lcGo_noexc ds c
theorem wipe_none {i : Nat} : ∀ {vs : List Nat} {σ : L2.St}, wipe (σ.set i none) vs = (wipe σ vs).set i none
  | [], _ => rfl
  | v :: vs, σ => by
    show (wipe (σ.set i none) vs).set v none = ((wipe σ vs).set v none).set i none
    rw [wipe_none]
    by_cases h : i = v
    · subst h; rfl
    · rw [List.set_comm _ _ h]
theorem wipe_wipe : ∀ (vs : List Nat) (σ : L2.St), wipe (wipe σ vs) vs = wipe σ vs
  | [], _ => rfl
  | v :: vs, σ => by
    show (wipe ((wipe σ vs).set v none) vs).set v none = (wipe σ vs).set v none
    rw [wipe_none, wipe_wipe vs σ, List.set_set]
section
variable {K : PySem.W.Frag} {b : Bs} {F H : Hp} {m : Sl} {σ : L2.St}
theorem Rel.wipe (r : Rel K b F m σ H) : ∀ vs : List Nat, Rel K b F (wipeM m vs) (wipe σ vs) H
  | [] => r
  | v :: vs => (Rel.wipe r vs).drop
theorem lc_ok {wi : TI} {t : TG} {tt : TT} {te : TE} {g : SemG} {tq : SemT} {f : SemE} {h : SemA} {vs : List Nat} {W : WX} {Q : VK} {k : List D → Prop}
    (hn : NGok K t g vs) (hi : ∀ σ H Rw, tSI K b W false h σ H Rw → wi σ H Rw) (ht : ∀ σ H Q, tST K b WF tq σ H Q → tt σ H Q) (he : ∀ σ H Q, tSE K b WF f σ H Q → te σ H Q)
    (r : Rel K b F m σ H) (p : Pst b W σ F H (CO K b H Q) (aLc h g tq f vs m)) : tLc wi t tt te vs σ H Q := by
  refine hi _ _ _ ⟨F, m, r, ?_⟩
  unfold aLc at p
  cases hh : h m with
  | stuck => rw [hh] at p; exact p.elim
  | exc c => rw [hh] at p; exact p
  | ok ds =>
    rw [hh] at p
    simp only [CT.R.bind_ok] at p
    refine fun F1 H1 G J wk D hD => ?_
    cases hl : lcGo g tq f (wipeM m vs) ds with
    | stuck => rw [hl] at p; exact p.elim
    | exc c => exact absurd hl (lcGo_noexc ds c)
    | ok res =>
      rw [hl] at p
      simp only [CT.R.bind_ok] at p
      split at p
      rotate_left
      · exact p.elim
      rename_i hsz
      have r1 := r.step G
      have r1w := r1.wipe vs
      have d0 : b.H0 D = none := r1.grow.same.free hD
      have f1 : F1 D = none := r1.sub.free hD
      refine ⟨fun i n H' => n = ds.length - i ∧ i ≤ ds.length ∧ ∃ F' acc vacc rest, Grow F1 H1 F' H' ∧ F' D = none ∧ H' D = some (.lst vacc) ∧ RpL K F' b.H0 H' acc vacc ∧ hasTL acc = false ∧ lcGo g tq f (wipeM m vs) (ds.drop i) = .ok rest ∧ acc ++ rest = res,
        ⟨_, rfl, Nat.zero_le _, F1, [], [], res, Grow.loose r1.sub hD, f1, upd_same, .nil, rfl, by rw [List.drop_zero]; exact hl, rfl⟩, ?_⟩
      rintro i n H' ⟨rfl, hi', F', acc, vacc, rest, G', e1, e2, e3, e4, e5, e6⟩
      have l : Ltr false F1 H1 F' H' := ⟨G'.sub, G'.subH, fun c o z _ => G'.same c o z, fun _ => G'.same⟩
      by_cases hlt : i < ds.length
      · refine .inr ⟨wk.go i F' H' l hlt, fun H2 => (i + 1 ≤ ds.length ∧ ∃ F' acc vacc rest, Grow F1 H1 F' H2 ∧ F' D = none ∧ H2 D = some (.lst vacc) ∧ RpL K F' b.H0 H2 acc vacc ∧ hasTL acc = false ∧ lcGo g tq f (wipeM m vs) (ds.drop (i + 1)) = .ok rest ∧ acc ++ rest = res),
          fun H2 z => ⟨ds.length - (i + 1), by omega, rfl, z⟩, fun x H2 y => ?_⟩
        obtain ⟨F2, d, G2, k2, r2⟩ := wk.yld i F' H' x H2 l hlt y
        have hd : ds.drop i = d :: ds.drop (i + 1) := by
          obtain ⟨h1, h2⟩ := List.getElem?_eq_some_iff.mp k2
          rw [← h2]
          exact List.drop_eq_getElem_cons h1
        rw [hd] at e5
        simp only [lcGo] at e5
        cases h1 : nox (g d (wipeM m vs)) with
        | stuck => rw [h1] at e5; cases e5
        | exc c' => cases hg : g d (wipeM m vs) <;> rw [hg] at h1 <;> cases h1
        | ok m1 =>
          rw [h1] at e5
          simp only [CT.R.bind_ok] at e5
          have hg : g d (wipeM m vs) = .ok m1 := by cases hg : g d (wipeM m vs) <;> rw [hg] at h1 <;> first | exact h1 | cases h1
          have G12 := G'.trans G2
          have R2 := r1w.step G12
          refine hn b F2 _ _ H2 d x m1 _ R2 r2 hg fun σ3 R3 w3 => ⟨w3.trans (wipe_wipe vs σ), ?_⟩
          refine ht _ _ _ ⟨F2, m1, R3, ?_⟩
          cases h2 : nox (tq m1) with
          | stuck => rw [h2] at e5; cases e5
          | exc c' => cases hg : tq m1 <;> rw [hg] at h2 <;> cases h2
          | ok c' =>
            have ht' : tq m1 = .ok c' := by cases hg : tq m1 <;> rw [hg] at h2 <;> first | exact h2 | cases h2
            rw [ht']
            rw [h2] at e5
            simp only [CT.R.bind_ok] at e5
            refine fun F3 H3 G3 => ?_
            have G13 := G12.trans G3
            have fD3 : F3 D = none := by
              cases q : F3 D with
              | none => rfl
              | some o =>
                rcases G2.trans G3 |>.new D o q with z | z
                · rw [e1] at z; cases z
                · rw [e2] at z; cases z
            have hD3 : H3 D = some (.lst vacc) := (G2.trans G3).same _ _ e2
            cases c' with
            | false =>
              simp only [Bool.false_eq_true, if_false] at e5 ⊢
              exact ⟨hlt, F3, acc, vacc, rest, G13, fD3, hD3, (e3.grow G2).grow G3, e4, e5, e6⟩
            | true =>
              simp only [if_true] at e5 ⊢
              refine he _ _ _ ⟨F3, m1, R3.step G3, ?_⟩
              cases h3 : nox (f m1) with
              | stuck => rw [h3] at e5; cases e5
              | exc c' => cases hg : f m1 <;> rw [hg] at h3 <;> cases h3
              | ok z =>
                have hf' : f m1 = .ok z := by cases hg : f m1 <;> rw [hg] at h3 <;> first | exact h3 | cases h3
                rw [hf']
                rw [h3] at e5
                simp only [CT.R.bind_ok] at e5
                split at e5
                · cases e5
                rename_i hz
                have hz : hasT z = false := by simpa using hz
                refine fun F4 H4 G4 v4 r4 => ?_
                have G14 := G13.trans G4
                have hD4 : H4 D = some (.lst vacc) := G4.same _ _ hD3
                have fD4 : F4 D = none := by
                  cases q : F4 D with
                  | none => rfl
                  | some o =>
                    rcases G4.new D o q with z | z
                    · rw [fD3] at z; cases z
                    · rw [hD3] at z; cases z
                cases h4 : lcGo g tq f (wipeM m vs) (ds.drop (i + 1)) with
                | stuck => rw [h4] at e5; cases e5
                | exc c' => rw [h4] at e5; cases e5
                | ok rest' =>
                  rw [h4] at e5
                  simp only [CT.R.bind_ok] at e5
                  cases e5
                  have keep : ∀ c o, H4 c = some o → NoL o → (upd H4 D (.lst (vacc ++ [v4]))) c = some o := fun c o hc ho => by
                    rw [upd_ne (fun q => by subst q; rw [hD4] at hc; cases hc; exact False.elim ho)]; exact hc
                  have hlen := e3.length
                  have hres : acc.length < sizeLine := by
                    rw [← e6, List.length_append, List.length_cons] at hsz
                    omega
                  refine ⟨vacc, hD4, by rw [← hlen]; exact hres, hlt, F4, acc ++ [z], vacc ++ [v4], rest', ⟨fun c o hc => ?_, G14.sub, fun c o hc => ?_, G14.new⟩, fD4, upd_same, ?_, ?_, rfl, ?_⟩
                  · rw [upd_ne (fun q => by subst q; rw [hD] at hc; cases hc)]; exact G14.same _ _ hc
                  · rw [upd_ne (fun q => by subst q; rw [fD4] at hc; cases hc)]; exact G14.subH _ _ hc
                  · exact (RpL.keep keep acc vacc e4 (((e3.grow G2).grow G3).grow G4)).app (.cons (Rp.keep keep z v4 hz r4) .nil)
                  · rw [hasTL_append, e4, hasTL, hz]; rfl
                  · rw [← e6, List.append_assoc]; rfl
      · have e : i = ds.length := by omega
        subst e
        rw [List.drop_length] at e5
        cases e5
        rw [List.append_nil] at e6
        subst e6
        exact .inl ⟨wk.stop F' H' l, p F' H' (G.trans G') D vacc (G.same.free hD) e1 e2 e3⟩
end
section
variable {X : Cx} {b : Bs} {W : WX} {elt tg iter : Expr} {ifs : List Expr} {scope : Scope} {own : List (Str × Nat)} {pos spos : Pos} {t : TG} {g : SemG} {tq : SemT} {f : SemE} {h : SemA} {vs : List Nat}
theorem so_lc (hc : X.calm = true) (hN : X.N.Nodup) (hi : SI X b W false tg iter h) (ok : BlkOk X.N X.env.scope scope own) (hn : NGok X.K t g vs)
    (hg : ∀ (s : Shared) (H : Hp) (C : Addr) (cl : List (Str × Addr)) (fp : List Addr), PG (X.blk s H scope (compEnvC scope cl C X.env) fp) tg t) (ht : ∀ (s : Shared) (H : Hp) (C : Addr) (cl : List (Str × Addr)) (fp : List Addr), STs (X.blk s H scope (compEnvC scope cl C X.env) fp) b WF ifs tq)
    (he : ∀ (s : Shared) (H : Hp) (C : Addr) (cl : List (Str × Addr)) (fp : List Addr), SE (X.blk s H scope (compEnvC scope cl C X.env) fp) b WF elt f) (hs : ∀ x, foldedSetIterable iter X.env x = pure x := by intro _; rfl) (hv : own.map (·.2) = vs := by rfl) :
    SO X b W (.ListComp elt [⟨tg, iter, ifs, 0⟩] scope pos) (aLc h g tq f vs) :=
  by subst hv; exact PE.weak (pe_lc hc hN hi ok hg ht he hs) fun σ H Q ⟨F, m, R, p⟩ => lc_ok hn (fun _ _ _ z => z) (fun _ _ _ z => z) (fun _ _ _ z => z) (k := fun _ => True) R p
variable {i : Nat} {y : Str} {py : Pos}
theorem ss_setLcO (hc : X.calm = true) (hN : X.N.Nodup) (hy : X.N[i]? = some y) (hyl : X.env.scope.names.lookup y = some .local) (hsw : swapsWith (.ListComp elt [⟨tg, iter, ifs, 0⟩] scope pos) (some (.Name y py)) spos.line X.env = pure true)
    (hi : SI X b W false tg iter h) (ok : BlkOk X.N X.env.scope scope own) (hn : NGok X.K t g vs)
    (hg : ∀ (s : Shared) (H : Hp) (C : Addr) (cl : List (Str × Addr)) (fp : List Addr), PG (X.blk s H scope (compEnvC scope cl C X.env) fp) tg t) (ht : ∀ (s : Shared) (H : Hp) (C : Addr) (cl : List (Str × Addr)) (fp : List Addr), STs (X.blk s H scope (compEnvC scope cl C X.env) fp) b WF ifs tq)
    (he : ∀ (s : Shared) (H : Hp) (C : Addr) (cl : List (Str × Addr)) (fp : List Addr), SE (X.blk s H scope (compEnvC scope cl C X.env) fp) b WF elt f) (hs : ∀ x, foldedSetIterable iter X.env x = pure x := by intro _; rfl) (hv : own.map (·.2) = vs := by rfl) :
    SS X b W (.Assign [.Name y py] (.ListComp elt [⟨tg, iter, ifs, 0⟩] scope pos) spos) (sSetO i (aLc h g tq f vs)) :=
  by
  subst hv
  refine PS.weak (ps_setLc (tt := tST X.K b WF tq) (te := tSE X.K b WF f) hc hN hy hyl hsw hi ok hg ht he hs) fun D' σ H ⟨F, m, R, p⟩ => ?_
  · 
    refine lc_ok (Q := fun x H1 => gName i x σ H1 D'.nx) (h := h) (g := g) (tq := tq) (f := f) hn (fun _ _ _ z => z) (fun _ _ _ z => z) (fun _ _ _ z => z) (k := fun _ => True) R ?_
    unfold sSetO at p
    cases hk : aLc h g tq f (own.map (·.2)) m with
    | stuck => rw [hk] at p; exact p.elim
    | exc c => rw [hk] at p; exact fun F1 H1 G => p σ F1 H1 (R.step G) G.prog
    | ok ds =>
      rw [hk] at p
      simp only [ofR_ok] at p
      split at p
      · exact p.elim
      · rename_i ht
        exact fun F1 H1 G a xs h0 h1 h2 hv => p _ F1 H1 (R.own G h0 h2 h1 hv (by simpa using ht)) G.prog
end
end CT

namespace CT
open PySem PySem.Spec PyProof.Rows L2
def mine (i : Nat) (m : Sl) (k : List D → RS) : RS := match m[i]? with
  | some (some (.lst true xs)) => k xs
  | _ => .stuck
def sApp (i : Nat) (f : SemE) : SemS := fun m => mine i m fun xs => ofR m (f m) fun d => if hasT d = true then .stuck else if xs.length < sizeLine then .nx (m.set i (some (.lst true (xs ++ [d])))) else .stuck
theorem mine_sst {K : PySem.W.Frag} {b : Bs} {W : WX} {F H : Hp} {D' : Ends} {i : Nat} {m : Sl} {σ : L2.St} {k : List D → RS} (R : Rel K b F m σ H) (p : Sst K b W F H D' (mine i m k)) :
    ∃ xs a vs, m[i]? = some (some (.lst true xs)) ∧ σ[i]? = some (some (.ref a)) ∧ H a = some (.lst vs) ∧ RpL K F b.H0 H xs vs ∧ Sst K b W F H D' (k xs) := by
  unfold mine at p
  split at p
  · rename_i xs h
    obtain ⟨a, vs, as, h1, k1, _, _, k4, _⟩ := R.mineW h
    exact ⟨xs, a, vs, h, h1, k1, OwL.rp _ _ _ k4, p⟩
  · exact p.elim
theorem chg_prog {F H : Hp} {a : Addr} {xs ys : List V} (h : H a = some (.lst xs)) : Prog F H F (upd H a (.lst ys)) :=
  ⟨Same.refl _, fun c o hc ho => by rw [upd_ne (fun z => by subst z; rw [h] at hc; cases hc; exact False.elim ho)]; exact hc⟩
section
variable {X : Cx} {b : Bs} {W : WX} {e : Expr} {f : SemE} {i : Nat} {x : Str} {px apos cpos pos : Pos} {o : Expr}
theorem ss_app (ho : PE X o (tVar i)) (hf : SE X b W e f)
    (hbase : attributeBase o "append" X.env (eval o X.env) = eval o X.env := by rfl)
    (hfew : ((backTo cpos (starEach [e] X.env)).all (fun x => !x.1) && (backToKw cpos (keywordEach [] X.env)).all (fun x => x.1.isSome)
      && decide ([e].length + ([] : List Keyword).length + (if ([] : List Keyword).isEmpty then 0 else 1) < 30)) = true := by rfl)
    (hline : (apos.endLine == cpos.line) = true := by rfl) (hs : starEach [e] X.env = (false, eval e X.env) :: starEach [] X.env := by rfl) (hplain : (backTo cpos (starEach [] X.env)).any (·.1) = false := by rfl)
    (hsw : swapsWith (.Call (.Attribute o "append" apos) [e] [] cpos) none pos.line X.env = pure false := by rfl) : SS X b W (.Expr (.Call (.Attribute o "append" apos) [e] [] cpos) pos) (sApp i f) := by
  refine PS.weak (ps_expr (pe_bm PySem.F.plainAttrs_list PySem.F.slot_list_append PySem.F.type_list_append mt_append ho (pa_cons hf pa_nil hs) hbase hfew hline hs hplain) hsw) fun D' σ H ⟨F, m, R, p⟩ => ?_
  obtain ⟨xs, a, vs, h1, h2, h3, h4, p⟩ := mine_sst R p
  refine ⟨.ref a, h2, .inl ⟨rfl, vs, .inl (.inl h3)⟩, seqS R p fun d F1 H1 v R1 G hv q => ?_⟩
  split at q
  · exact q.elim
  rename_i hd
  split at q
  · rename_i hz
    have h3 := G.same _ _ h3
    have h4 := h4.grow G
    refine ⟨a, vs, v, rfl, rfl, h3, by rw [← h4.length]; exact hz, q σ F1 _ (R1.chgApp h1 h2 h3 (.cons hv .nil) ?_) (chg_prog h3)⟩
    simp only [Bool.not_eq_true] at hd
    rw [hasTL, hd]; rfl
  · exact q.elim
def TGok (X : Cx) (b : Bs) (t : TG) (g : SemG) : Prop := ∀ (F : Hp) (m : Sl) (σ : L2.St) (H : Hp) (d : D) (v : V) (m' : Sl) (Q : L2.St → Hp → Prop), Rel X.K b F m σ H → hasT d = false → Rp X.K F b.H0 H d v → g d m = .ok m' →
  (∀ σ' F' H', Rel X.K b F' m' σ' H' → Prog F H F' H' → Q σ' H') → t v σ H Q
def TGsOk (X : Cx) (b : Bs) (t : TGs) (g : SemGs) : Prop := ∀ (F : Hp) (m : Sl) (σ : L2.St) (H : Hp) (ds : List D) (us : List V) (m' : Sl) (Q : L2.St → Hp → Prop), Rel X.K b F m σ H → hasTL ds = false → RpL X.K F b.H0 H ds us → g ds m = .ok m' →
  (∀ σ' F' H', Rel X.K b F' m' σ' H' → Prog F H F' H' → Q σ' H') → t us σ H Q
theorem tg_name : TGok X b (gName i) (putR i) := fun F m σ H d v m' Q R n hv e q => by
  unfold putR at e
  split at e
  · cases e
  · cases e
    exact q _ F H (R.put n hv) (Prog.refl _ _)
theorem tgs_nil : TGsOk X b gNil gsNil := fun F m σ H ds us m' Q R n hv e q => by
  cases ds with
  | nil => cases hv; cases e; exact ⟨rfl, q σ F H R (Prog.refl _ _)⟩
  | cons _ _ => cases e
theorem tgs_cons {t : TG} {ts : TGs} {g : SemG} {h : SemGs} (h1 : TGok X b t g) (h2 : TGsOk X b ts h) : TGsOk X b (gCons t ts) (gsCons g h) := fun F m σ H ds us m' Q R n hv e q => by
  cases ds with
  | nil => cases e
  | cons d r =>
    simp only [hasTL, Bool.or_eq_false_iff] at n
    cases hv with
    | cons a c =>
      simp only [gsCons] at e
      cases hg : g d m with
      | stuck => rw [hg] at e; cases e
      | exc c => rw [hg] at e; cases e
      | ok m1 =>
        rw [hg] at e
        simp only [CT.R.bind_ok] at e
        exact ⟨_, _, rfl, h1 F m σ H d _ m1 _ R n.1 a hg fun σ1 F1 H1 R1 P1 => h2 F1 m1 σ1 H1 r _ m' _ R1 n.2 ((RpL.keep P1.tups r _ n.2 c).mono P1.sub (Same.refl _)) e fun σ2 F2 H2 R2 P2 => q σ2 F2 H2 R2 (P1.trans P2)⟩
theorem tg_tup {ts : TGs} {h : SemGs} {n : Nat} (h2 : TGsOk X b ts h) : TGok X b (gTup X.K n ts) (gTupR n h) := fun F m σ H d v m' Q R nt hv e q => by
  cases d <;> first | (cases e; done) | skip
  rename_i ds
  simp only [gTupR] at e
  split at e
  · rename_i hl
    obtain ⟨a, xs, rfl, k1, k2⟩ := hv.tuple
    exact ⟨a, xs, rfl, k1, by rw [← k2.length]; exact hl, h2 F m σ H ds xs m' Q R nt k2 e q⟩
  · cases e
def sAsg (f : SemE) (g : SemG) : SemS := fun m => ofR m (f m) fun d => if hasT d = true then .stuck else match g d m with
  | .ok m' => .nx m'
  | _ => .stuck
theorem ss_asg {tg : Expr} {t : TG} {g : SemG} (hf : SE X b W e f) (hg : PG X tg t) (hn : TGok X b t g) (hs : swapsWithSole [tg] e pos.line X.env = pure false := by rfl) (hw : swappedStores [tg] e X.env = pure none := by rfl)
    (h1 : (assignEach [tg] X.env).map (·.2) = [assign tg X.env] := by rfl) : SS X b W (.Assign [tg] e pos) (sAsg f g) :=
  PS.weak (ps_asg hf hg hs hw h1) fun D' σ H ⟨F, m, R, p⟩ => seqS R p fun d F1 H1 v R1 G hv q => by
    split at q
    · exact q.elim
    · rename_i hd
      split at q
      · rename_i m' hg
        exact hn F1 m σ H1 d v m' _ R1 (by simpa using hd) hv hg fun σ' F' H' R' P' => q σ' F' H' R' P'
      · exact q.elim
end
def bodyF (n : Nat) (g : SemS) : List D → R D := fun ds => if ds.length = n then (match g (ds.map some) with
  | .nx _ => .ok .non
  | .rt d => .ok d
  | .exc c _ => .exc c
  | _ => .stuck) else .stuck
def startM (n : Nat) (g : SemS) : SemS := fun m => g (m ++ List.replicate (n - m.length) none)
def defF (n k : Nat) (g : SemS) : List D → R D := bodyF n (startM k g)
section
variable {P : Program} {w : World} {K : PySem.W.Frag} {mg : Str → Option Value} {base : Heap}
theorem def_fn {x : Str} {st : Stmt} {f : Addr} {fd : FuncData} {N ps : List Str} {k : Nat} {ex : String → Value} {g : SemS} (F : Fun K x x st f fd) (S : FnScope N ps (defScope st))
    (hbody : ∀ (cdv : Value) (A : Around) (outer : List Env) (s : Shared) (H : Hp) (E : XK) (F0 : Hp), Room k (A.deeper (envOfC x (defScope st) s.heap.objs.size f cdv)) → (A.deeper (envOfC x (defScope st) s.heap.objs.size f cdv)).guards = some [] →
      SSs (cxOf (L2.CX P w) P w K mg base N x (defScope st) f cdv A outer s H E) ⟨ex, F0, H⟩ (fun c d _ H' => E c d H') (defBody st) g) :
    FnG P w K mg base (k + 1) f fd ps (spF K ex ps.length (defF ps.length N.length g)) := by
  refine Fun.okG F S (fun vs H Q E h => ?_) (fun cdv A outer s H vs Q E hr hgd h => ?_)
  · obtain ⟨F0, ds, _, r, _, hl, _⟩ := h
    rw [← r.length, hl]
  · obtain ⟨F0, ds, s0, r, ht, hn, q⟩ := h
    refine ⟨_, hbody cdv A outer s H E F0 hr hgd, ?_⟩
    have hlv := r.length
    refine ⟨F0, ds.map some ++ List.replicate (N.length - (ds.map some).length) none, ⟨?_, Grow.refl s0, fun i d e => ?_, fun i j x y v w a e1 e2 e3 e4 o1 o2 => ?_⟩, ?_⟩
    · unfold L2.start
      simp [hlv]
    · have e' : ds[i]? = some d := by
        by_cases hi : i < ds.length
        · rw [List.getElem?_append_left (by simpa using hi)] at e
          simpa using e
        · rw [List.getElem?_append_right (by simpa using hi)] at e
          rw [List.getElem?_replicate] at e
          split at e <;> cases e
      obtain ⟨v, h1, h2⟩ := r.get e'
      refine ⟨v, ?_, .inr (.inl ⟨hasTL_get ht e', h2⟩)⟩
      unfold L2.start
      obtain ⟨h3, _⟩ := List.getElem?_eq_some_iff.mp h1
      rw [List.getElem?_append_left (by simpa using h3), List.getElem?_map, h1]
      rfl
    · exfalso
      have e' : ds[i]? = some x := by
        by_cases hi : i < ds.length
        · rw [List.getElem?_append_left (by simpa using hi)] at e1
          simpa using e1
        · rw [List.getElem?_append_right (by simpa using hi)] at e1
          rw [List.getElem?_replicate] at e1
          split at e1 <;> cases e1
      exact o1.of (hasTL_get ht e')
    · have hn' : (ds.map some).length = ds.length := by simp
      unfold defF bodyF startM at q
      rw [if_pos hn] at q
      cases hg : g (ds.map some ++ List.replicate (N.length - (ds.map some).length) none) with
      | nx m => 
        rw [hg] at q
        exact fun σ' F' H' R' _ => q F' H' .non R'.grow (.inr (.inl ⟨rfl, .non⟩))
      | rt d =>
        rw [hg] at q
        exact fun F' H' v G so => q F' H' v G so
      | exc c m =>
        rw [hg] at q
        exact fun σ' F' H' R' _ => q F' H' R'.grow
      | bk m => rw [hg] at q; exact q.elim
      | ct m => rw [hg] at q; exact q.elim
      | stuck => rw [hg] at q; exact q.elim
end
end CT
namespace CT
open PySem PySem.Spec PyProof.Rows L2
def exOf (mg : Str → Option Value) : String → Value := fun c => (mg (Str.ofString c)).getD .none
def spLaw (K : PySem.W.Frag) : Sp := fun vs H Q _ => ∃ (a : Addr) (ns : List Int), vs = [.ref a] ∧ SqL K H a (ns.map V.int) ∧ ns.length ≤ 63 ∧ ∀ H', Q (.bl true) H'
theorem ints_rp {K : PySem.W.Frag} {F H0 H : Hp} : ∀ ns : List Int, RpL K F H0 H (ns.map D.int) (ns.map V.int)
  | [] => .nil
  | n :: ns => .cons (.int n) (ints_rp ns)
theorem ints_noT : ∀ ns : List Int, hasTL (ns.map D.int) = false
  | [] => rfl
  | n :: ns => by rw [List.map_cons, hasTL, ints_noT ns]; rfl
theorem law_sp {K : PySem.W.Frag} {ex : String → Value} {f : List D → R D} (h : ∀ ns : List Int, ns.length ≤ 63 → f [.fr (ns.map D.int)] = .ok (.bl true)) (vs : List V) (H : Hp) (Q : VK) (E : XK) (q : spLaw K vs H Q E) : spF K ex 1 f vs H Q E := by
  obtain ⟨a, ns, rfl, hS, hl, q⟩ := q
  refine ⟨H, [.fr (ns.map D.int)], Same.refl _, .cons (.fr hS (ints_rp ns)) .nil, by simp [hasTL, hasT, ints_noT], rfl, ?_⟩
  rw [h ns hl]
  intro F' H' v _ so
  cases so.rp
  exact q H'
theorem cx_no {P : Program} {w : World} {H : Hp} {s : Shared} {e : Value} {s' : Shared} (h : L2.CX P w [] H s (fun _ _ _ => False) e s') : False := by
  obtain ⟨_, _, _, _, _, _, _, _, _, _, _, _, z⟩ := h
  exact z
end CT

namespace CT
open PySem PySem.Spec PyProof.Rows L2
inductive Zk where
  | L (a : Addr) | T (a : Addr) | S (z : Str) (t : Tok)
def Zk.at (K : PySem.W.Frag) (H : Hp) (xs : List V) : Zk → Prop
  | .L a => SqL K H a xs
  | .T a => SqT K H a xs
  | .S z _ => xs = z.cps.toList.map fun c => V.str ⟨#[c]⟩
def Zk.addr : Zk → List Addr
  | .L a => [a]
  | .T a => [a]
  | .S _ _ => []
def Zk.it (it : Addr) (i : Nat) (h : Heap) : Zk → Prop
  | .L a => h.IsListIter it a i
  | .T a => h.IsTupleIter it a i
  | .S z t => h.IsStrIter it (strIterType z) z t i
def Zk.val : Zk → Value
  | .L a => .ref a
  | .T a => .ref a
  | .S z t => .str z t
def Zk.obj : Zk → Obj
  | .L a => { cls := .type "list_iterator", data := .fields #[.ref a, .int 0 0] }
  | .T a => { cls := .type "tuple_iterator", data := .fields #[.ref a, .int 0 0] }
  | .S z t => { cls := .type (strIterType z), data := .fields #[.str z t, .int 0 0] }
theorem Zk.it_at {k : Zk} {it : Addr} {i : Nat} {h h' : Heap} (x : k.it it i h) (e : ∀ o, h.get? it = some o → h'.get? it = some o) : k.it it i h' := by
  cases k with
  | L a => exact Heap.IsListIter.at x e
  | T a => exact Heap.IsTupleIter.at x e
  | S z t => obtain ⟨o, h1, h2⟩ := x; exact ⟨o, e o h1, h2⟩
theorem Zk.it_live {k : Zk} {it : Addr} {i : Nat} {h : Heap} (x : k.it it i h) : ∃ o, h.get? it = some o ∧ ∀ v, o.data ≠ .cell v := by
  cases k with
  | L a => obtain ⟨o, h1, _, h3⟩ := x; exact ⟨o, h1, fun v q => by rw [h3] at q; cases q⟩
  | T a => obtain ⟨o, h1, _, h3⟩ := x; exact ⟨o, h1, fun v q => by rw [h3] at q; cases q⟩
  | S z t => obtain ⟨o, h1, _, h3⟩ := x; exact ⟨o, h1, fun v q => by rw [h3] at q; cases q⟩
section
variable {X : Cx} {pins : List (Addr × Obj)} {σ : L2.St} {H : Hp} {s : Shared} {k : Zk} {xs : List V}
theorem Zk.draw {prog : Program} {w : World} {A : Around} (I : Inv X pins σ H s) (hk : k.at X.K H xs) (hh : A.handled = none) {it : Addr} (ha : ∀ a ∈ k.addr, a ≠ it) :
    ∃ P St, Draws prog w A it (it :: k.addr) xs.length P St ∧ (∀ i, k.it it i s.heap → St i s.heap) ∧ (∀ i h, St i h → k.it it i h) ∧ ∀ i v, P i v → ∃ y, xs[i]? = some y ∧ RelV y v := by
  cases k with
  | L a =>
    obtain ⟨its, rv, p, _⟩ := I.list hk
    refine ⟨fun i v => its.toArray[i]? = some v, fun i h => h.IsListIter it a i ∧ h.IsList a its.toArray, (by have := Draws.list (prog := prog) (w := w) hh it a (ha a (by simp [Zk.addr])) its.toArray; rwa [show its.toArray.size = xs.length by simp [rv.length]] at this), fun i q => ⟨q, p.isList⟩, fun i h q => q.1, fun i v q => ?_⟩
    have q : its[i]? = some v := by simpa using q
    have hl := rv.length
    obtain ⟨hi, _⟩ := List.getElem?_eq_some_iff.mp q
    obtain ⟨u, hu, ru⟩ := rv.get (i := i) (x := xs[i]'(by omega)) (by simp)
    rw [q] at hu; cases hu
    exact ⟨xs[i]'(by omega), by simp, ru⟩
  | T a =>
    obtain ⟨its, rv, p, _⟩ := I.tuple hk
    refine ⟨fun i v => its.toArray[i]? = some v, fun i h => h.IsTupleIter it a i ∧ h.IsTuple a its.toArray, (by have := Draws.tuple (prog := prog) (w := w) hh it a (ha a (by simp [Zk.addr])) its.toArray; rwa [show its.toArray.size = xs.length by simp [rv.length]] at this), fun i q => ⟨q, show s.heap.IsTuple a its.toArray from p⟩, fun i h q => q.1, fun i v q => ?_⟩
    have q : its[i]? = some v := by simpa using q
    have hl := rv.length
    obtain ⟨hi, _⟩ := List.getElem?_eq_some_iff.mp q
    obtain ⟨u, hu, ru⟩ := rv.get (i := i) (x := xs[i]'(by omega)) (by simp)
    rw [q] at hu; cases hu
    exact ⟨xs[i]'(by omega), by simp, ru⟩
  | S z t =>
    have hk : xs = z.cps.toList.map fun c => V.str ⟨#[c]⟩ := hk
    subst hk
    refine ⟨_, _, (by have := Draws.text (prog := prog) (w := w) hh it z t; rwa [show z.cps.size = (z.cps.toList.map fun c => V.str ⟨#[c]⟩).length by simp] at this), fun i q => q, fun i h q => q, fun i v q => ?_⟩
    obtain ⟨c, u, h1, rfl⟩ := q
    exact ⟨V.str ⟨#[c]⟩, by rw [← Array.getElem?_toList] at h1; rw [List.getElem?_map, h1]; rfl, ⟨u, rfl⟩⟩
theorem Zk.begins (I : Inv X pins σ H s) (hk : k.at X.K H xs) : ∃ G, Begins k.val k.obj G ∧ G s.heap := by
  cases k with
  | L a => obtain ⟨its, rv, p, _⟩ := I.list hk; exact ⟨_, begins_list a its.toArray, p.isList⟩
  | T a => obtain ⟨its, rv, p, _⟩ := I.tuple hk; exact ⟨_, begins_tuple a its.toArray, p⟩
  | S z t => exact ⟨_, begins_text z t, trivial⟩
theorem Zk.lt (I : Inv X pins σ H s) (hk : k.at X.K H xs) : ∀ a ∈ k.addr, a < s.heap.objs.size := fun b hb => by
  cases k with
  | L a =>
    obtain ⟨its, rv, p, _⟩ := I.list hk
    obtain rfl : b = a := by simpa [Zk.addr] using hb
    exact p.lt
  | T a =>
    obtain ⟨its, rv, p, _⟩ := I.tuple hk
    obtain rfl : b = a := by simpa [Zk.addr] using hb
    obtain ⟨o, ho, _⟩ := id p
    exact Heap.lt_size ho
  | S z t => simp [Zk.addr] at hb
theorem Zk.inj {ys : List V} (I : Inv X pins σ H s) (hk : k.at X.K H xs) (hk' : k.at X.K H ys) : xs = ys := by
  cases k with
  | L a => exact I.list_inj hk hk'
  | T a => exact I.tuple_inj hk hk'
  | S z t => exact (show xs = _ from hk).trans (show ys = _ from hk').symm
theorem Zk.new {n : Nat} {h' : Heap} (e : h'.get? n = some k.obj) : k.it n 0 h' := by
  cases k with
  | L a => exact ⟨_, e, rfl, rfl⟩
  | T a => exact ⟨_, e, rfl, rfl⟩
  | S z t => exact ⟨_, e, rfl, rfl⟩
end
def ItZ (K : PySem.W.Frag) (k l : Zk) : It :=
  ⟨fun i H => ∃ xs ys : List V, k.at K H xs ∧ l.at K H ys ∧ i < xs.length ∧ i < ys.length,
    fun i H v H' => ∃ T x y, v = .ref T ∧ H T = none ∧ H' = upd H T (.tup [x, y]) ∧ (∀ xs, k.at K H xs → xs[i]? = some x) ∧ ∀ ys, l.at K H ys → ys[i]? = some y,
    fun i H => ∃ xs ys : List V, k.at K H xs ∧ l.at K H ys ∧ i ≤ xs.length ∧ i ≤ ys.length ∧ (i = xs.length ∨ i = ys.length)⟩
theorem ad_ne {a b : Nat} (h : a ≠ b) : @Ne Addr a b := h
theorem ad_in {a n : Nat} {l : List Addr} (h : ∀ c ∈ l, @LT.lt Nat _ c n) (g : n ≤ a) (q : a ∈ l) : False := by have := h a q; omega
theorem ad_cons {a b n : Nat} {l : List Addr} (h : ∀ c ∈ l, @LT.lt Nat _ c n) (g : n ≤ a) (e : a ≠ b) : (a : Addr) ∉ ((b : Addr) :: l) := fun q => by
  rcases List.mem_cons.mp q with q | q
  · exact e q
  · exact ad_in h g q
theorem zsep {n : Nat} {k l : Zk} (h1 : ∀ a ∈ k.addr, @LT.lt Nat _ a n) (h2 : ∀ a ∈ l.addr, @LT.lt Nat _ a n) : ZipSep2 (n + 4) (n + 2) (n + 3) n (n + 1) (n :: k.addr) ((n + 1) :: l.addr) :=
  have g : ∀ j : Nat, n ≤ n + j := fun j => by omega
  ⟨ad_ne (by omega), ad_ne (by omega), ad_ne (by omega), ad_ne (by omega), by simp, ad_cons h1 (g 4) (by omega), ad_cons h1 (g 3) (by omega), ad_ne (by omega), by simp, ad_cons h2 (g 4) (by omega), ad_cons h2 (g 3) (by omega), ad_cons h2 (g 0) (by omega), ad_cons h1 (g 1) (by omega)⟩
abbrev zfp (n : Nat) : List Addr := [n + 4, n + 2, n + 3, n, n + 1]
theorem turn_z {P : Program} {w : World} {K : PySem.W.Frag} {elts : List Expr} {kk : Nat} {tpos : Pos} {n : Nat} {k l : Zk} (h1 : ∀ a ∈ k.addr, @LT.lt Nat _ a n) (h2 : ∀ a ∈ l.addr, @LT.lt Nat _ a n) :
    Turn P w K (.Tuple elts kk tpos) (ItZ K k l) (zfp n) (n + 4) (fun i h => IsZip h (n + 4) (n + 2) (n + 3) .none ∧ IsTupOf2 h (n + 2) (.ref n) (.ref (n + 1)) ∧ (∃ x y, IsTupOf2 h (n + 3) x y) ∧ k.it n i h ∧ l.it (n + 1) i h) where
  mem := by simp
  obj := fun i h st c hc => by
    obtain ⟨q1, q2, ⟨x, y, q3⟩, q4, q5⟩ := st
    simp only [List.mem_cons, List.not_mem_nil, or_false] at hc
    rcases hc with e | e | e | e | e <;> subst e
    · exact ⟨_, q1, fun v z => by cases z⟩
    · exact ⟨_, q2, fun v z => by cases z⟩
    · exact ⟨_, q3, fun v z => by cases z⟩
    · exact Zk.it_live q4
    · exact Zk.it_live q5
  keep := fun i h h' st e => by
    obtain ⟨q1, q2, ⟨x, y, q3⟩, q4, q5⟩ := st
    exact ⟨e _ (by simp) _ q1, e _ (by simp) _ q2, ⟨x, y, e _ (by simp) _ q3⟩, Zk.it_at q4 fun o => e n (by simp) o, Zk.it_at q5 fun o => e (n + 1) (by simp) o⟩
  item := by
    intro X hP hw hK hc i pins s σ H E I hf st hg
    subst hP hw hK
    obtain ⟨q1, q2, ⟨x0, y0, q3⟩, q4, q5⟩ := st
    obtain ⟨xs, ys, hx, hy, hi, hj⟩ := hg
    obtain ⟨P1, S1, D1, a1, b1, c1⟩ := Zk.draw (prog := X.prog) (w := X.w) (A := X.A.in1) I hx (I.ok.hd hc) (it := n) (fun a ha => ad_ne (by have := h1 a ha; omega))
    obtain ⟨P2, S2, D2, a2, b2, c2⟩ := Zk.draw (prog := X.prog) (w := X.w) (A := X.A.in1) I hy (I.ok.hd hc) (it := n + 1) (fun a ha => ad_ne (by have := h2 a ha; omega))
    have zl : @LT.lt Nat _ (n + 4) s.heap.objs.size := Heap.lt_size q1
    refine wpAny_pyNext_zipD2_item (zsep h1 h2) D1 D2 q1 q2 q3 (a1 i q4) (a2 i q5) hi hj fun u1 u2 g tk p1 p2 z1 z2 s1 s2 z3 z4 z5 => ?_
    refine ⟨_, rfl, wpAny_letOwnedTupleGo_zip (s := { s with heap := g, toks := tk }) z1 fun g' z6 sb => ?_⟩
    obtain ⟨x, ex, rx⟩ := c1 i u1 p1
    obtain ⟨y, ey, ry⟩ := c2 i u2 p2
    have gT : g'.get? s.heap.objs.size = some { cls := .type "tuple", data := .seq #[u1, u2] } := (sb.2 _ (ad_ne (by omega))).trans z3
    have ob : ObjOk X.prog X.w (upd H s.heap.objs.size (.tup [x, y])) g' s.heap.objs.size (.tup [x, y]) := ⟨by show 2 ≤ sizeLine; decide, [u1, u2], .cons rx (.cons ry .nil), ⟨_, gT, rfl, _, rfl⟩⟩
    have up : ∀ c o, c ∉ zfp n → s.heap.get? c = some o → g'.get? c = some o := fun c o hc e => by
      simp only [List.mem_cons, List.not_mem_nil, or_false, not_or] at hc
      exact (sb.2 c hc.1).trans (z5 c o hc.1 hc.2.2.1 hc.2.2.2.1 hc.2.2.2.2 e)
    have J := I.turnedNew (t' := tk) (ch := zfp n) up hf (Nat.le_refl _) ob
    refine ⟨.ref s.heap.objs.size, _, J, rfl, ⟨_, x, y, rfl, I.hok.fresh (Nat.le_refl _), rfl, fun l hl => by rw [Zk.inj I hl hx]; exact ex, fun l hl => by rw [Zk.inj I hl hy]; exact ey⟩, ⟨z6, ?_, ⟨u1, u2, ?_⟩, ?_, ?_⟩, fun c hcm => ?_⟩
    · exact (sb.2 _ (ad_ne (by omega))).trans (z5 _ _ (ad_ne (by omega)) (ad_ne (by omega)) (ad_ne (by omega)) (ad_ne (by omega)) q2)
    · exact (sb.2 _ (ad_ne (by omega))).trans z2
    · exact Zk.it_at (b1 _ _ s1) fun o q => (sb.2 _ (ad_ne (by omega))).trans q
    · exact Zk.it_at (b2 _ _ s2) fun o q => (sb.2 _ (ad_ne (by omega))).trans q
    · have : @LT.lt Nat _ c s.heap.objs.size := by
        simp only [List.mem_cons, List.not_mem_nil, or_false] at hcm
        rcases hcm with e | e | e | e | e <;> (rw [e]; omega)
      rw [upd_ne (ad_ne (by omega))]
      exact (hf c hcm).1
  done := by
    intro X hP hw hK hc i pins s σ H E I hf st hg
    subst hP hw hK
    obtain ⟨q1, q2, ⟨x0, y0, q3⟩, q4, q5⟩ := st
    obtain ⟨xs, ys, hx, hy, hi, hj, he⟩ := hg
    obtain ⟨P1, S1, D1, a1, b1, c1⟩ := Zk.draw (prog := X.prog) (w := X.w) (A := X.A.in1) I hx (I.ok.hd hc) (it := n) (fun a ha => ad_ne (by have := h1 a ha; omega))
    obtain ⟨P2, S2, D2, a2, b2, c2⟩ := Zk.draw (prog := X.prog) (w := X.w) (A := X.A.in1) I hy (I.ok.hd hc) (it := n + 1) (fun a ha => ad_ne (by have := h2 a ha; omega))
    refine wpAny_pyNext_zipD2_end (zsep h1 h2) D1 D2 q1 q2 q3 (a1 i q4) (a2 i q5) hi hj he fun g tk e => ⟨rfl, I.turnedL (t' := tk) (ch := zfp n) (fun c o hc' q => ?_) hf⟩
    simp only [List.mem_cons, List.not_mem_nil, or_false, not_or] at hc'
    exact e c o hc'.1 hc'.2.2.1 hc'.2.2.2.1 hc'.2.2.2.2 q
  self := fun A i s Q E st h => wpAny_pyIter_zip st.1 h
theorem fresh_fp {X : Cx} {pins : List (Addr × Obj)} {σ : L2.St} {H : Hp} {s : Shared} (I : Inv X pins σ H s) : ∀ c, s.heap.objs.size ≤ c → FpOk X pins H c := fun c h => I.fpOk h (I.hok.fresh h)
def KV (K : PySem.W.Frag) (H : Hp) (v : V) (k : Zk → Prop) : Prop := (∃ a xs, v = .ref a ∧ SqL K H a xs ∧ k (.L a)) ∨ (∃ a xs, v = .ref a ∧ SqT K H a xs ∧ k (.T a)) ∨ ∃ z, v = .str z ∧ ∀ t, k (.S z t)
theorem kv_of {X : Cx} {H : Hp} {v : V} {u : Value} {k : Zk → Prop} (r : RelV v u) (h : KV X.K H v k) : ∃ z xs, z.at X.K H xs ∧ z.val = u ∧ k z := by
  rcases h with ⟨a, xs, rfl, h1, h2⟩ | ⟨a, xs, rfl, h1, h2⟩ | ⟨z, rfl, h2⟩
  · cases r; exact ⟨.L a, xs, h1, rfl, h2⟩
  · cases r; exact ⟨.T a, xs, h1, rfl, h2⟩
  · obtain ⟨t, rfl⟩ := r
    exact ⟨.S z t, _, rfl, rfl, h2 t⟩
def iZ2 (K : PySem.W.Frag) (ta : TA) : TI := fun σ H R => ta σ H fun vs H1 => ∃ v u, vs = [v, u] ∧ KV K H1 v fun k => KV K H1 u fun l => R (ItZ K k l) H1
theorem pi_z2 {X : Cx} {e e2 : Expr} {ta : TA} {p pos tpos : Pos} {elts : List Expr} {kk : Nat} (hg : Gl X "zip") (hm : X.mg "zip" = none) (ha : PA X [e, e2] ta)
    (hs : starEach [e, e2] X.env = (false, eval e X.env) :: starEach [e2] X.env := by rfl) (hpl : (backTo pos (starEach [e2] X.env)).any (·.1) = false := by rfl) :
    PI X (.Tuple elts kk tpos) (.Call (.Name "zip" p) [e, e2] [] pos) (iZ2 X.K ta) := ⟨fun pins s σ H R I h => by
  refine Call_ (ld_blt I hg hm PyProof.Rows.boot_zip (PyProof.Rows.callWith_type1 (thn (ha.run pos pins s σ H _ I h) fun us s1 hh => ?_) hs hpl))
  obtain ⟨vs, H1, I1, r1, v, u, rfl, q⟩ := hh
  cases r1 with
  | cons r rr =>
    cases rr with
    | cons r' rr =>
      cases rr
      obtain ⟨k, xs, k1, rfl, q⟩ := kv_of r q
      obtain ⟨l, ys, l1, rfl, q⟩ := kv_of r' q
      obtain ⟨G1, B1, g1⟩ := Zk.begins I1 k1
      obtain ⟨G2, B2, g2⟩ := Zk.begins I1 l1
      refine zip_begins2 B1 B2 g1 g2 fun h' z1 z2 z3 z4 z5 hsz up => wpAny_pyIter_zip z1 ?_
      have I2 : Inv X pins σ H1 { s1 with heap := h' } := I1.kept (t' := s1.toks) up
      refine ⟨s1.heap.objs.size + 4, zfp s1.heap.objs.size, _, _, H1, rfl, I2, turn_z (Zk.lt I1 k1) (Zk.lt I1 l1), ⟨z1, z2, ⟨_, _, z3⟩, Zk.new z4, Zk.new z5⟩, fun c hc => ?_, q⟩
      refine fresh_fp I1 c ?_
      simp only [List.mem_cons, List.not_mem_nil, or_false] at hc
      rcases hc with e | e | e | e | e <;> (rw [e]; first | exact Nat.le_add_right _ _ | exact Nat.le_refl _)⟩
def zipL (ds es : List D) : List D := (ds.zip es).map fun p => .tup [p.1, p.2]
def zipOk (strict : Bool) : D → R (List D)
  | .lst t ds => if (strict && (t || hasTL ds)) = true then .stuck else .ok ds
  | .fr ds => if (strict && hasTL ds) = true then .stuck else .ok ds
  | .tup ds => if (strict && hasTL ds) = true then .stuck else .ok ds
  | .str z => .ok (z.cps.toList.map fun c => .str ⟨#[c]⟩)
  | _ => .stuck
def zipI (strict : Bool) : List D → R (List D)
  | [x, y] => (zipOk strict x).bind fun ds => (zipOk strict y).bind fun es => .ok (zipL ds es)
  | _ => .stuck
def aZip (strict : Bool) (h : SemA) : SemA := fun m => (h m).bind (zipI strict)
theorem kv_rp {K : PySem.W.Frag} {F H0 H : Hp} {strict : Bool} {x : D} {v : V} {ds : List D} (s : Same F H) (r : Rp K F H0 H x v) (e : zipOk strict x = .ok ds) (k : Zk → Prop)
    (q : ∀ z xs, (hasTL ds = false ∨ strict = false) → RpL K F H0 H ds xs → (∀ F' H', Ltr strict F H F' H' → z.at K H' xs) → k z) : KV K H v k := by
  cases x with
  | lst t es =>
    simp only [zipOk] at e
    split at e
    · cases e
    · rename_i c
      cases e
      obtain ⟨a, xs, rfl, k1, k2⟩ := r.lasts (strict := strict) s (by revert c; cases strict <;> cases t <;> simp)
      exact .inl ⟨a, xs, rfl, k2 F H ⟨Same.refl _, s, fun _ _ z _ => z, fun _ => Same.refl _⟩, q (.L a) xs (by revert c; cases strict <;> cases t <;> simp) k1 k2⟩
  | fr es =>
    simp only [zipOk] at e
    split at e
    · cases e
    · rename_i c
      cases e
      cases r with
      | fr k1 k2 => exact .inl ⟨_, _, rfl, s.seq k1, q (.L _) _ (by revert c; cases strict <;> simp) k2 fun F' H' l => l.2.1.seq (l.1.seq k1)⟩
  | tup es =>
    simp only [zipOk] at e
    split at e
    · cases e
    · rename_i c
      cases e
      obtain ⟨a, xs, rfl, k1, k2⟩ := r.tuple
      exact .inr (.inl ⟨a, xs, rfl, k1, q (.T a) xs (by revert c; cases strict <;> simp) k2 fun F' H' l => l.tup k1⟩)
  | str z =>
    cases e
    cases r
    exact .inr (.inr ⟨z, rfl, fun t => q (.S z t) (z.cps.toList.map fun c => .str ⟨#[c]⟩) (.inl (chars_noT _)) (chars_rp _) fun _ _ _ => rfl⟩)
  | non => cases e
  | bl _ => cases e
  | int _ => cases e
  | unk => cases e
  | ex _ => cases e
  | fn _ => cases e
  | dic _ _ => cases e
  | dct _ _ _ => cases e
section
variable {X : Cx} {b : Bs} {W : WX} {strict : Bool} {h : SemA} {p pos : Pos}
theorem si_zip {a c : Expr} {elts : List Expr} {kk : Nat} {tpos : Pos} (hg : Gl X "zip") (hm : X.mg "zip" = none) (ha : SA X b W [a, c] h)
    (hs : starEach [a, c] X.env = (false, eval a X.env) :: starEach [c] X.env := by rfl) (hpl : (backTo pos (starEach [c] X.env)).any (·.1) = false := by rfl) :
    SI X b W strict (.Tuple elts kk tpos) (.Call (.Name "zip" p) [a, c] [] pos) (aZip strict h) := by
  refine PI.weak (pi_z2 hg hm ha hs hpl) fun σ H Rw ⟨F, m, R, p⟩ => ?_
  refine seqA R p fun xs F1 H1 vs R1 G1 hv p1 => ?_
  unfold zipI at p1
  split at p1
  · rename_i x y
    obtain ⟨v, u, rfl, h1, h2⟩ := hv.two
    refine ⟨v, u, rfl, ?_⟩
    cases e1 : zipOk strict x with
    | stuck => rw [e1] at p1; exact p1.elim
    | exc c => cases x <;> simp only [zipOk] at e1 <;> (try split at e1) <;> cases e1
    | ok ds =>
      rw [e1] at p1
      cases e2 : zipOk strict y with
      | stuck => rw [e2] at p1; exact p1.elim
      | exc c => cases y <;> simp only [zipOk] at e2 <;> (try split at e2) <;> cases e2
      | ok es =>
        rw [e2] at p1
        refine kv_rp R1.sub h1 e1 _ fun k xs n1 r1 k1 => kv_rp R1.sub h2 e2 _ fun l ys n2 r2 k2 => ?_
        refine p1.here R1.sub _ ?_
        exact Wk.pairs n1 n2 r1 r2 (fun H' => k.at X.K H' xs ∧ l.at X.K H' ys) (fun F' H' q => ⟨k1 F' H' q, k2 F' H' q⟩) (fun i x y H' q e1 e2 => ⟨xs, ys, q.1, q.2, (List.getElem?_eq_some_iff.mp e1).1, (List.getElem?_eq_some_iff.mp e2).1⟩)
          (fun i H' v H'' q z => by
            obtain ⟨T, x, y, rfl, h1, h2, h3, h4⟩ := z
            exact ⟨T, x, y, rfl, h1, h2, fun w e => Option.some.inj (e.symm.trans (h3 xs q.1)), fun w e => Option.some.inj (e.symm.trans (h4 ys q.2))⟩)
          (fun H' q => ⟨xs, ys, q.1, q.2, by omega, by omega, by omega⟩)
  · exact p1.elim
end
end CT

namespace CT
open PySem PySem.Spec PyProof.Rows L2
def ExcOk (K : PySem.W.Frag) (mg : Str → Option Value) (x : Str) : Prop := ∃ C, mg x = some (.ref C) ∧ PySem.W.excIn K C [.type "ValueError", .type "Exception", .type "BaseException", .type "object"] "ValueError.__new__" = true ∧
  PySem.W.keepIn K (.ref C) = true ∧ PySem.W.subIn K (.ref C) (.type "BaseException") = some true ∧ PySem.W.typeIn K (.ref C) = some (.type "type")
def sRaise (c : String) : SemS := fun m => .exc c m
section
variable {X : Cx} {b : Bs} {W : WX}
theorem ss_raise {x m : Str} {c : String} {j : Nat} {p p2 pos pos' : Pos} (hc : X.calm = true) (tk : Takes X W) (h : ExcOk X.K X.mg x) (hg : Gl X x) (hx : x = Str.ofString c := by rfl) (hb : b.ex = exOf X.mg := by rfl)
    (hdb : (x == ("__debug__" : Str)) = false := by decide) : SS X b W (.Raise (some (.Call (.Name x p) [.Constant (.str m) j p2] [] pos)) none pos') (sRaise c) := by
  obtain ⟨C, h1, h2, h3, h4, h5⟩ := h
  refine PS.weak (ps_raise hc tk (pmk_own PySem.F.excBase_ValueError h2 h1 h3 (raises_own h4 h5) hg hdb)) fun D' σ H ⟨F, m, R, z⟩ => ?_
  have z := z σ F H R (Prog.refl _ _)
  rw [hb] at z
  unfold exOf at z
  rw [← hx, h1] at z
  exact z
theorem se_glob {x : Str} {v : V} {d : D} {pos : Pos} (hg : Gl X x) (h : ∃ u, X.mg x = some u ∧ RelV v u) (hr : ∀ K F H0 H, Rp K F H0 H d v) (hd : (x == ("__debug__" : Str)) = false := by decide) : SE X b W (.Name x pos) (eC d) := by
  obtain ⟨u, h1, h2⟩ := h
  exact se_c (pe_glob hg h1 h2 hd) hr
end
end CT

namespace CT
open PySem PySem.Spec PyProof.Rows L2
section
variable {X : Cx} {b : Bs} {W : WX}
def repD : D → D → R D
  | .lst _ xs, .int k => if k < 2 ^ 62 ∧ -(2 ^ 62) < k ∧ xs.length * k.toNat ≤ sizeLine then .ok (.lst false (List.replicate k.toNat xs).flatten) else .stuck
  | _, _ => .stuck
theorem RpL.rep {K : PySem.W.Frag} {F H0 H : Hp} {ds : List D} {vs : List V} (h : RpL K F H0 H ds vs) : ∀ n : Nat, RpL K F H0 H (List.replicate n ds).flatten (List.replicate n vs).flatten
  | 0 => .nil
  | n + 1 => by
    rw [List.replicate_succ, List.replicate_succ, List.flatten_cons, List.flatten_cons]
    exact h.app (RpL.rep h n)
theorem o_rep : Op2 X b W (binaryOp .Mult) repD := by
  refine ⟨_, op_rep (X := X), fun σ F H Q x y v u s hx hy p => ?_⟩
  cases x <;> first | exact p.elim | skip
  rename_i t ds
  cases y <;> first | exact p.elim | skip
  rename_i k
  obtain ⟨a, xs, rfl, h1, h2⟩ := hx.list s
  cases hy
  simp only [repD] at p
  split at p
  · rename_i hl
    refine ⟨a, k, xs, rfl, rfl, h1, by omega, by omega, by rw [← h2.length]; exact hl.2.2, fun q hq => ?_⟩
    have G := Grow.still (o := .lst (List.replicate k.toNat xs).flatten) s hq
    exact (p _ _ G) _ (.lst upd_same ((h2.grow G).rep _))
  · exact p.elim
theorem Rel.forget {K : PySem.W.Frag} {b : Bs} {F H : Hp} {m : Sl} {σ : L2.St} (j : Nat) (r : Rel K b F m σ H) : Rel K b F (m.set j none) σ H := by
  have old : ∀ {k : Nat} {d : D}, (m.set j none)[k]? = some (some d) → k ≠ j ∧ m[k]? = some (some d) := fun {k d} h => by
    by_cases c : k = j
    · subst c
      rw [List.getElem?_set_self'] at h
      cases q : m[k]? <;> rw [q] at h <;> simp at h
    · rw [List.getElem?_set_ne (fun z => c z.symm)] at h
      exact ⟨c, h⟩
  exact ⟨by simp [r.len], r.grow, fun k d q => r.slot k d (old q).2, fun p q x y v w c e1 e2 e3 e4 => r.apart p q x y v w c (old e1).2 (old e2).2 e3 e4⟩
theorem Rel.tmp {K : PySem.W.Frag} {b : Bs} {F H : Hp} {m : Sl} {σ : L2.St} {a : Addr} {xs ys : List V} (r : Rel K b F m σ H) (h1 : H a = some (.lst xs)) (h2 : F a = none) (h3 : b.H0 a = none)
    (far : ∀ (j : Nat) (d : D) (v : V), m[j]? = some (some d) → σ[j]? = some (some v) → Owns H d v a → False) : Rel K b F m σ (upd H a (.lst ys)) := by
  have t : ∀ c o, H c = some o → NoL o → (upd H a (.lst ys)) c = some o := fun c o hc ho => by
    rw [upd_ne (fun z => by subst z; rw [h1] at hc; cases hc; exact False.elim ho)]; exact hc
  have na : ∀ c o, F c = some o → c ≠ a := fun c o hc z => by subst z; rw [h2] at hc; cases hc
  have sH : Same F (upd H a (.lst ys)) := fun c o hc => by rw [upd_ne (na _ _ hc)]; exact r.sub _ _ hc
  have bk : ∀ {j : Nat} {d : D} {v : V} {c : Addr}, m[j]? = some (some d) → σ[j]? = some (some v) → SlotOk K F b.H0 H d v → Owns (upd H a (.lst ys)) d v c → Owns H d v c := fun {j d v c} e1 e3 k o => o.back (fun b xs e => t _ _ e trivial) (fun b xs e => sH _ _ e) (fun c xs o' z => by rw [upd_ne (fun y => by subst y; exact far j _ _ e1 e3 o')]; exact z) k
  refine ⟨r.len, ⟨fun c o hc => ?_, r.grow.sub, fun c o hc => ?_, r.grow.new⟩, fun j d q => ?_, fun p q x y v w c e1 e2 e3 e4 o1 o2 => ?_⟩
  · rw [upd_ne (fun z => by subst z; rw [h3] at hc; cases hc)]; exact r.grow.same _ _ hc
  · rw [upd_ne (na _ _ hc)]; exact r.sub _ _ hc
  · obtain ⟨w, k1, k2⟩ := r.slot j d q
    refine ⟨w, k1, ?_⟩
    rcases k2.ow with ⟨as, z, n⟩ | ⟨qq, ks, ds', c, kvs, rfl, pp⟩
    · exact .of (Ow.keep t (Same.refl F) sH _ _ _ z (fun c hc xs e => by rw [upd_ne (fun y => by subst y; exact far j _ _ q k1 ((Owns.iff z).mpr hc))]; exact e) fun c hc => (Ow.mem _ _ _ z hc).2.2.1) n
    · have hc : c ≠ a := fun z => by subst z; exact far j _ _ q k1 (.inr (.inl ⟨_, _, _, rfl, pp.v⟩))
      exact .inr (.inr (.inr ⟨qq, ks, ds', c, kvs, rfl, pp.v, pp.o, pp.al.imp fun u h => ⟨by rw [upd_ne hc]; exact h.1, h.2.keep fun _ _ z => t _ _ z trivial⟩, pp.fa, pp.ha, pp.k, RpL.keep t ds' _ pp.nx pp.x, pp.nx⟩))
  · obtain ⟨v', k1, k2⟩ := r.slot p x e1
    obtain ⟨w', k3, k4⟩ := r.slot q y e2
    rw [e3] at k1; cases k1
    rw [e4] at k3; cases k3
    exact r.apart p q x y v w c e1 e2 e3 e4 (bk e1 e3 k2 o1) (bk e2 e4 k4 o2)
end
end CT

namespace CT
open PySem PySem.Spec PyProof.Rows L2
def intsOf : List D → Option (List Int)
  | [] => some []
  | .int i :: ds => (intsOf ds).map (i :: ·)
  | _ => none
theorem intsOf_map : ∀ l : List Int, intsOf (l.map .int) = some l
  | [] => rfl
  | i :: l => by simp [intsOf, intsOf_map l]
theorem intsOf_rp {K : PySem.W.Frag} {F H0 H : Hp} : ∀ {ds : List D} {l : List Int} {vs : List V}, intsOf ds = some l → RpL K F H0 H ds vs → vs = l.map V.int
  | [], l, _, h, .nil => by cases h; rfl
  | d :: ds, l, _, h, .cons r t => by
    cases d <;> first | (simp [intsOf] at h; done) | skip
    rename_i i
    simp only [intsOf] at h
    cases q : intsOf ds with
    | none => rw [q] at h; cases h
    | some l' =>
      rw [q] at h; cases h
      cases r
      rw [intsOf_rp q t]; rfl
def dAt (ks : List (List Int)) (ds : List D) (k : List Int) : Option D := match ks, ds with
  | q :: ks, d :: ds => if q = k then some d else dAt ks ds k
  | _, _ => none
section
variable {X : Cx} {b : Bs} {W : WX} {o e : Expr} {f g : SemE} {i : Nat} {x : Str} {px pos pos' : Pos}
theorem dct_slot {F H : Hp} {m : Sl} {σ : L2.St} {qt : DT} {ks : List (List Int)} {ds : List D} (R : Rel X.K b F m σ H) (h : m[i]? = some (some (.dct qt ks ds))) : ∃ a kvs, σ[i]? = some (some (.ref a)) ∧ DctOk X.K F b.H0 H qt ks ds (.ref a) a kvs := by
  obtain ⟨v, h1, h2⟩ := R.slot i _ h
  obtain ⟨a, kvs, p⟩ := h2.dct
  have := p.v
  subst this
  exact ⟨a, kvs, h1, p⟩
theorem DctOk.len {F H0 H : Hp} {qt : DT} {ks : List (List Int)} {ds : List D} {v : V} {a : Addr} {kvs : List (List Key × V)} (p : DctOk X.K F H0 H qt ks ds v a kvs) : kvs.length = ks.length := by
  have := congrArg List.length p.k
  simpa using this
end
end CT

namespace CT
open PySem PySem.Spec PyProof.Rows L2
end CT

namespace CT
open PySem PySem.Spec PyProof.Rows L2
section
variable {K : PySem.W.Frag} {b : Bs} {F F2 H : Hp} {m : Sl} {σ : L2.St} {d : Addr} {o1 o2 : HO}
theorem Owns.fa {H0 : Hp} {e : D} {v : V} {a : Addr} (s : SlotOk K F H0 H e v) (o : Owns H e v a) : F a = none := o.free s
end
section
variable {X : Cx} {b : Bs} {W : WX} {e tg : Expr} {body : List Stmt} {h : SemA} {g : SemG} {k : SemS} {t : TG} {vs : List Nat} {pos apos cpos tpos : Pos} {tst : SemT} {i : Nat} {elts : List Expr} {kk : Nat}
theorem for_core {F F1 H1 : Hp} {m : Sl} {σ : L2.St} {D' : Ends} {ds : List D} {J : It} (hn : NGok X.K t g vs) (R : Rel X.K b F1 m σ H1) (p : Sst X.K b W F1 H1 D' (forGo g k ds m)) (wk : Wk X.K b.H0 true J F1 H1 ds) :
    ∃ W' : Nat → Nat → L2.St → Hp → Prop, (∃ m, W' 0 m σ H1) ∧ ∀ i m σ H, W' i m σ H →
      (J.stop i H ∧ D'.nx σ H) ∨ (J.go i H ∧ ∃ N : L2.St → Hp → Prop, (∀ σ' H', N σ' H' → ∃ m', m' < m ∧ W' (i + 1) m' σ' H') ∧ ∀ x H', J.yld i H x H' → t x σ H' fun σ2 H2 => tSS X.K b W k { D' with nx := N, ct := N, bk := D'.nx } σ2 H2) := by
  refine ⟨fun i n σ' H' => n = ds.length - i ∧ i ≤ ds.length ∧ ∃ F' m', Rel X.K b F' m' σ' H' ∧ Prog F1 H1 F' H' ∧ Sst X.K b W F' H' D' (forGo g k (ds.drop i) m'), ⟨_, rfl, Nat.zero_le _, F1, m, R, Prog.refl _ _, by rw [List.drop_zero]; exact p⟩, ?_⟩
  rintro i n σ' H' ⟨rfl, hi, F', m', R', P', p'⟩
  have l : Ltr true F1 H1 F' H' := ⟨P'.sub, R'.sub, P'.tups, fun z => by cases z⟩
  by_cases hlt : i < ds.length
  · refine .inr ⟨wk.go i F' H' l hlt, fun σ2 H2 => (ds.length - (i + 1) = ds.length - (i + 1) ∧ i + 1 ≤ ds.length ∧ ∃ F2 m2, Rel X.K b F2 m2 σ2 H2 ∧ Prog F1 H1 F2 H2 ∧ Sst X.K b W F2 H2 D' (forGo g k (ds.drop (i + 1)) m2)), fun σ2 H2 z => ⟨_, by omega, z⟩, fun x H2 y => ?_⟩
    obtain ⟨F2, d, G2, e2, r2⟩ := wk.yld i F' H' x H2 l hlt y
    have hd : ds.drop i = d :: ds.drop (i + 1) := by
      obtain ⟨h1, h2⟩ := List.getElem?_eq_some_iff.mp e2
      rw [← h2]
      exact List.drop_eq_getElem_cons h1
    rw [hd] at p'
    simp only [forGo] at p'
    cases hgd : g d m' with
    | stuck => rw [hgd] at p'; exact p'.elim
    | exc c => rw [hgd] at p'; exact p'.elim
    | ok m1 =>
      rw [hgd] at p'
      simp only at p'
      have R2 := R'.step G2
      refine hn b F2 m' σ' H2 d x m1 _ R2 r2 hgd fun σ3 R3 _ => ⟨F2, m1, R3, ?_⟩
      have P2 : Prog F1 H1 F2 H2 := P'.trans G2.prog
      have p2 := Sst.prog G2.prog p'
      cases hk : k m1 with
      | nx m2 => rw [hk] at p2; exact fun σ4 F4 H4 R4 q => ⟨rfl, hlt, F4, m2, R4, P2.trans q, Sst.prog q p2⟩
      | ct m2 => rw [hk] at p2; exact fun σ4 F4 H4 R4 q => ⟨rfl, hlt, F4, m2, R4, P2.trans q, Sst.prog q p2⟩
      | bk m2 => rw [hk] at p2; exact p2
      | rt d => rw [hk] at p2; exact p2
      | exc c m2 => rw [hk] at p2; exact p2
      | stuck => rw [hk] at p2; exact p2.elim
  · have e : i = ds.length := by omega
    subst e
    rw [List.drop_length] at p'
    exact .inl ⟨wk.stop F' H' l, p' σ' F' H' R' (Prog.refl _ _)⟩
def indexR (ys : List D) (x : D) : R D := if (SeqAt.shaped (.list (pyL ys)) && SeqAt.shaped (py x)) = true then (match ys.findIdx? fun z => eqvD z x with
    | some j => .ok (.int (j : Nat))
    | none => .stuck) else .stuck
def indexE (f g : SemE) : SemE := fun m => (f m).bind fun x => match x with
  | .lst _ ys => (g m).bind (indexR ys)
  | _ => .stuck
theorem se_index {o a : Expr} {f f' : SemE} (hu : X.A.units + 65 < cLine) (ho : SE X b W o f) (hf : SE X b W a f')
    (hbase : attributeBase o "index" X.env (eval o X.env) = eval o X.env := by rfl)
    (hfew : ((backTo cpos (starEach [a] X.env)).all (fun x => !x.1) && (backToKw cpos (keywordEach [] X.env)).all (fun x => x.1.isSome)
      && decide ([a].length + ([] : List Keyword).length + (if ([] : List Keyword).isEmpty then 0 else 1) < 30)) = true := by rfl)
    (hline : (apos.endLine == cpos.line) = true := by rfl) (hs : starEach [a] X.env = (false, eval a X.env) :: starEach [] X.env := by rfl) (hplain : (backTo cpos (starEach [] X.env)).any (·.1) = false := by rfl) :
    SE X b W (.Call (.Attribute o "index" apos) [a] [] cpos) (indexE f f') := by
  refine PE.weak (pe_bm PySem.F.plainAttrs_list PySem.F.slot_list_index PySem.F.type_list_index (mt_indexD hu) ho (pa_cons hf pa_nil hs) hbase hfew hline hs hplain) fun σ H Q ⟨F, m, R, p⟩ => ?_
  refine seq R p fun x F1 H1 v R1 G1 hv p1 => ?_
  cases x <;> first | exact p1.elim | skip
  · rename_i t ys
    obtain ⟨a', xs, rfl, k1, k2⟩ := hv.list R1.sub
    refine ⟨.inl ⟨rfl, xs, .inl (.inl k1)⟩, seq R1 p1 fun y F2 H2 u R2 G2 hu2 p2 => ?_⟩
    have hv2 := hv.grow G2
    simp only [indexR] at p2
    split at p2
    · rename_i c
      rw [Bool.and_eq_true] at c
      split at p2
      · rename_i j hj
        have d1 := Rp.dp R2.sub _ _ (by rw [okP]; exact okPL_sh c.1) hv2
        rw [py] at d1
        have hjl : j < ys.length := by
          have := List.findIdx?_eq_some_iff_getElem.mp hj
          exact this.1
        obtain ⟨_, h1, h2⟩ := List.findIdx?_eq_some_iff_getElem.mp hj
        refine ⟨a', u, _, _, j, py ys[j], rfl, rfl, d1, Rp.dp R2.sub _ _ (okP_sh c.2) hu2, c.1, c.2, by rw [pyL_map, List.getElem?_map, List.getElem?_eq_getElem hjl]; rfl, h1, fun n z hn hz => ?_, p2.here R2.sub _ (.int _)⟩
        rw [pyL_map, List.getElem?_map, List.getElem?_eq_getElem (by omega)] at hz
        cases hz
        have := h2 n hn
        simpa [eqvD] using this
      · exact p2.elim
    · exact p2.elim
end
end CT

namespace CT
open PySem PySem.Spec PyProof.Rows L2
section
variable {X : Cx} {pins : List (Addr × Obj)} {σ : L2.St} {H : Hp} {s : Shared}
theorem inv_track {a : Addr} {o : HO} {oe : Obj} (I : Inv X ((a, oe) :: pins) σ H s) (h0 : X.s_0.heap.get? a = none) (hp : ∀ p ∈ X.pn ++ pins, p.1 ≠ a) (new : s.heap.get? a = some oe → ObjOk X.prog X.w (upd H a o) s.heap a o) :
    Inv X pins σ (upd H a o) s := by
  obtain ⟨he, hn, hL, hF, hc⟩ := I.pin (a, oe) (List.mem_append_right _ List.mem_cons_self)
  have n0 : ∀ b u, X.s_0.heap.get? b = some u → b ≠ a := fun b u e z => by rw [z, h0] at e; cases e
  have nH : ∀ b u, H b = some u → b ≠ a := fun b u e z => by rw [z] at e; rw [show H a = none from hn] at e; cases e
  refine ⟨I.ok, I.os, I.bare, ⟨I.base.keep, I.base.slot, fun b u e n hx => ?_, I.base.there, fun b xs e => ?_, fun b ob u e => ?_, fun b ps e => ?_⟩, I.loc, I.cell, ?_, fun x c e => ?_, fun p hp' => ?_, fun b u e => ?_, I.len⟩
  · rw [upd_ne (n0 b u e)]; exact I.base.free b u e n hx
  · have q := I.base.tups b xs e; rw [upd_ne (nH b _ q)]; exact q
  · have q := I.base.frzs b ob u e; rw [upd_ne (nH b _ q)]; exact q
  · obtain ⟨m, q⟩ := I.base.tbls b ps e; exact ⟨m, by rw [upd_ne (nH b _ q)]; exact q⟩
  · rw [upd_ne (fun z => hL z.symm)]; exact I.free
  · obtain ⟨v, oc, ho, hd⟩ := I.cell x c e
    rw [upd_ne (fun z => by subst z; rw [show s.heap.get? c = some oe from he] at ho; cases ho; exact hc v hd)]
    exact I.freeC x c e
  · obtain ⟨e1, e2, e3, e4, e5⟩ := I.pin p (by
      rcases List.mem_append.mp hp' with z | z
      · exact List.mem_append_left _ z
      · exact List.mem_append_right _ (List.mem_cons_of_mem _ z))
    exact ⟨e1, by rw [upd_ne (hp p hp')]; exact e2, e3, e4, e5⟩
  · by_cases hb : b = a
    · subst hb
      rw [upd_same] at e; cases e
      exact new he
    · rw [upd_ne hb] at e
      exact (I.hok b u e).stay (fun c v _ q => q) (fun c q => by rw [upd_ne (nH c _ q)]; exact q) fun c xs q => by rw [upd_ne (nH c _ q)]; exact q
theorem inv_suite_pin {a : Addr} {q : Addr × Obj} {pn' : List (Addr × Obj)} (I : Inv (X.suite a (q :: (X.pn ++ pins))) pn' σ H s) (ok : X.Ok) : Inv X (q :: pins) σ H s :=
  ⟨ok, I.os, I.bare, I.base, I.loc, I.cell, I.free, I.freeC, fun p hp => I.pin p (List.mem_append_left _ (by
    rcases List.mem_append.mp hp with z | z
    · exact List.mem_cons_of_mem _ (List.mem_append_left _ z)
    · rcases List.mem_cons.mp z with e | z
      · rw [e]; exact List.mem_cons_self
      · exact List.mem_cons_of_mem _ (List.mem_append_right _ z))), I.hok, I.len⟩
end
def wKeep (K : PySem.W.Frag) (c : Value) (i : Nat) (ts : TS) (Wout : WX) (D : Ends) : WX := fun cls d σ H =>
  ∃ b, PySem.W.exmOne K cls c = some b ∧ (b = true → d = none ∧ ∀ a, H a = none → ts { nx := fun σ' H' => D.nx (σ'.set i none) (upd H' a (KxO cls a)), rt := fun _ _ => False, bk := fun _ _ => False, ct := fun _ _ => False } (σ.set i (some (.ref a))) H) ∧
    (b = false → Wout cls d σ H)
section
variable {X : Cx} {x n : Str} {c : Value} {i : Nat} {body suite : List Stmt} {b₀ : Stmt} {np pos pos' : Pos} {tb : WX → TS} {ts : TS} {Wout : WX}
theorem ps_try_keep (hs : X.stack = X.env :: X.outer) (hf : X.env.frame = some X.env.locals) (hex : X.ex = []) (hN : X.N.Nodup) (hi : X.N[i]? = some n) (hln : X.env.kindOf n = some .local) (hc : Names X x c) (tk : Takes X Wout)
    (hb : ∀ (W : WX) (pn : List (Addr × Obj)) (xe : Value → Shared → Prop), Takes (X.tr pn xe) W → PassesOwn (model X.prog X.w) X.A X.env xe → PSs (X.tr pn xe) body (tb W))
    (hsu : ∀ (a : Addr) (pn : List (Addr × Obj)), PSs (X.suite a pn) (b₀ :: suite) ts) :
    PS X (.Try body [.ExceptHandler (some (.Name x np)) (some n) (b₀ :: suite) pos'] [] [] pos) (fun D σ H => tb (wKeep X.K c i ts Wout D) D σ H) := by
  refine ⟨fun pins s σ H D I h => ?_⟩
  have ok := I.ok
  have hfr : X.A.frames = some (X.env :: X.outer) := by rw [ok.frames, hs]
  refine wpAny_Try_except ?_
  refine wpAny_mono ((hb (wKeep X.K c i ts Wout D) (X.pn ++ pins) (fun e s₁ => wpAny (model X.prog X.w) X.A (noteFrame e X.env) (fun _ s₂ => wpAny (model X.prog X.w) X.A (setFlight e none) (fun _ s₃ =>
    wpAny (model X.prog X.w) X.A (handleBy e X.env [.ExceptHandler (some (.Name x np)) (some n) (b₀ :: suite) pos']) (L2.SP X pins D) X.xe s₃) X.xe s₂) X.xe s₁) (fun u s' xx => ?_) PassesOwn.looking).run [] s σ H D (I.toTry _) h) (fun f s1 hsp => ?_) (fun e s1 he => he)
  · -- caught
    obtain ⟨a, B, sI, pins', σ', H', cls, d, rfl, J', nb, up, sky, na, os, ag, b, hb1, hyes, hno⟩ := xx
    have J : Inv X pins σ' H' sI := J'.ofTry ok
    rw [hs] at sky
    show wpAny (model X.prog X.w) X.A (noteFrame (.ref a) X.env) _ _ _
    refine Sky.land Zc.steady hfr hf sky fun h3 fl3 up3 => ?_
    have J3 : Inv X pins σ' H' { s' with heap := h3 } := J.landed nb fl3.1 (up.trans up3) os ag
    obtain ⟨oe3, vs3, he3, hz3, hd3⟩ := fl3.there
    have nfr : a ∉ frs (X.env :: X.outer) := fun hm => by
      obtain ⟨_, o', e', hnf⟩ := fl3.2.2.1.mem hm
      rw [he3] at e'; cases e'
      exact hnf _ hd3
    have nL : a ≠ X.env.locals := fun z => nfr (List.mem_filterMap.mpr ⟨X.env, List.mem_cons_self, by rw [hf, z]⟩)
    have nF : a ∉ X.fs := fun hm => by
      obtain ⟨e, he, q⟩ := List.mem_filterMap.mp hm
      exact nfr (List.mem_filterMap.mpr ⟨e, List.mem_cons_of_mem _ he, q⟩)
    -- it wasn't there ahead
    have nI : sI.heap.get? a = none := by
      cases q : sI.heap.get? a with
      | none => rfl
      | some o =>
        have := nb a o q (by rw [hs]; exact nfr)
        rw [fl3.2.1] at this; cases this
    have n0 : X.s_0.heap.get? a = none := by
      cases q : X.s_0.heap.get? a with
      | none => rfl
      | some o =>
        obtain ⟨o', e⟩ := J.base.there a o q (by rw [hex]; exact fun z => nomatch z)
        rw [nI] at e; cases e
    have nP : ∀ p ∈ X.pn ++ pins, p.1 ≠ a := fun p hp z => by
      have := (J.pin p hp).1
      rw [z, nI] at this; cases this
    have S3 := J3.suite he3 hd3 na nL nF
    refine wpAny_handleBy_cons (codeAny_handlers_test ?_) (by intro q; cases q)
    have LT : PySem.W.Looks (model X.prog X.w) h3 (typeOf (.ref a)) cls := fun A Q E s k q => wpAny_typeOf_ref (k _ _ he3) (by rw [hz3.1]; exact q)
    have LM := PySem.W.exm_one (M := model X.prog X.w) (J3.kIn) LT hb1
    have test : ∀ {Q : Value → Shared → Prop} {E : Value → Shared → Prop}, Q c { s' with heap := h3 } → wpAny (model X.prog X.w) (X.A.mark (some (.ref a))) (eval (.Name x np) X.env) Q E { s' with heap := h3 } := fun {Q E} q => by
      obtain ⟨hg, hdbg, hm | ⟨hm, hv, hnn⟩⟩ := hc
      · exact ld_glob (X := X.suite a ((a, oe3) :: (X.pn ++ pins))) S3 hg hm q hdbg
      · exact ld_blt (X := X.suite a ((a, oe3) :: (X.pn ++ pins))) S3 hg hm hv q hnn hdbg
    refine test (LM.here ?_)
    cases b with
    | true =>
      obtain ⟨hdn, hyes⟩ := hyes rfl
      refine codeAny_handlers_suite_as ?_
      refine HandSPX.lands_againZ fl3 fun h4 fl4 up4 => ?_
      have J4 : Inv X pins σ' H' { s' with heap := h4 } := J.landed nb fl4.1 ((up.trans up3).trans up4) os ag
      obtain ⟨oe4, vs4, he4, hz4, hd4⟩ := fl4.there
      have S4 := J4.suite he4 hd4 na nL nF
      refine store_ok (X := X.suite a ((a, oe4) :: (X.pn ++ pins))) (v := .ref a) S4 hN hi (.inl hln) rfl (fun s5 S5 => ?_) (.inr hln)
      refine wpAny_mono ((hsu a _).run [] s5 _ H' _ S5 (hyes a na)) (fun f s6 hsp => ?_) (fun _ _ z => False.elim z)
      rcases f with _ | _ | _ | u
      · obtain ⟨σ6, H6, S6, q6⟩ := hsp
        show wpAny (model X.prog X.w) X.A (do bindName X.env n .none; unbindBehindTheSuite X.env n pos') _ X.xe s6
        refine gone_ok (inv_suite_pin S6 ok) hN hi hln fun s7 J7 => ⟨_, _, inv_track J7 n0 nP fun he7 => ?_, q6⟩
        exact ⟨⟨oe4, vs4, he7, by rw [← hdn]; exact hz4, hd4⟩, ⟨oe4, he7⟩, fun h1 h2 ⟨o, v, q, r⟩ k => ⟨o, v, k o q, r⟩⟩
      · obtain ⟨_, _, _, q6⟩ := hsp; exact q6.elim
      · obtain ⟨_, _, _, q6⟩ := hsp; exact q6.elim
      · obtain ⟨_, _, _, _, _, q6⟩ := hsp; exact q6.elim
    | false =>
      show wpAny _ X.A (handleBy (.ref a) X.env []) _ _ _
      refine wpAny_handleBy_nil ?_
      obtain ⟨k1, k2, k3, oe, vs, T, oT, ts', he, hz, hd, h1, hr⟩ := id fl3
      unfold PySem.passOn
      refine wpAny_bind (wpAny_field he hd h1 ?_)
      rw [if_neg (show ¬ ((Value.ref T == Value.none) = true) from by simp)]
      have fin : wpAny (model X.prog X.w) X.A (setFlight (.ref a) X.env.frame) (fun _ s4 => wpAny (model X.prog X.w) X.A (throw (.ref a) : Sem Flow) (L2.SP X pins D) X.xe s4) X.xe { s' with heap := h3 } := by
        rw [hf]
        refine HandSPX.setFlight_upZ fl3 fun h4 hh4 up4 => wpAny_throw (tk _ _ ?_)
        exact ⟨a, B, sI, pins, σ', H', cls, d, rfl, J, nb, (up.trans up3).trans up4, .inr (.inr (by rw [hs]; exact hh4)), na, os, ag, hno rfl⟩
      first
        | exact wpAny_bind (wpAny_pure (wpAny_bind fin))
        | exact wpAny_bind fin
  · rcases f with _ | _ | _ | u
    · obtain ⟨σ', H', J', q⟩ := hsp; exact wpAny_execs_nil ⟨σ', H', J'.ofTry ok, q⟩
    · obtain ⟨σ', H', J', q⟩ := hsp; exact ⟨σ', H', J'.ofTry ok, q⟩
    · obtain ⟨σ', H', J', q⟩ := hsp; exact ⟨σ', H', J'.ofTry ok, q⟩
    · obtain ⟨v, σ', H', J', r, q⟩ := hsp; exact ⟨v, σ', H', J'.ofTry ok, r, q⟩
end
end CT

namespace CT
open PySem PySem.Spec PyProof.Rows L2
def keepC (known : List String) (i j : Nat) (c : String) (m : Sl) : RS := if (known.contains c && decide (i < m.length)) = true then .nx ((m.set i none).set j (some (.ex c))) else .stuck
def sTryK (known : List String) (i j : Nat) (g : SemS) : SemS := fun m => match g m with
  | .exc c m1 => keepC known i j c m1
  | r => r
section
variable {X : Cx} {b : Bs} {W : WX} {body : List Stmt} {g : SemS} {T n y : Str} {np py pn pa pos pos' : Pos} {i j : Nat} {C : Addr} {known : List String}
theorem ss_tryK (hN : X.N.Nodup) (hi : X.N[i]? = some n) (hj : X.N[j]? = some y) (hij : i ≠ j) (hT : Names X T (.ref C)) (tk : Takes X W) (hk : ∀ c ∈ known, PySem.W.exmOne X.K (b.ex c) (.ref C) = some true ∧ b.ex c = exK X.K c)
    (hb : ∀ (W' : WX) (pn : List (Addr × Obj)) (xe : Value → Shared → Prop), Takes (X.tr pn xe) W' → PassesOwn (model X.prog X.w) X.A X.env xe → SSs (X.tr pn xe) b W' body g)
    (hy : Loc X.env.scope y) (hv : Vis X.env.scope n) (hs : X.stack = X.env :: X.outer := by rfl) (hf : X.env.frame = some X.env.locals := by rfl) (hex : X.ex = [] := by rfl) (hln : X.env.kindOf n = some .local := by rfl)
    (hfn : X.fn y = true ∨ X.env.scope.names.lookup y = some .local := by first | exact .inl rfl | exact .inr rfl) (hdb : (n == ("__debug__" : Str)) = false := by decide)
    (hsw : swapsWithSole [.Name y py] (.Name n pn) pa.line X.env = pure false := by rfl) (hw : swappedStores [.Name y py] (.Name n pn) X.env = pure none := by rfl) (hcd : (n == ("__classdict__" : Str)) = false := by decide) :
    SS X b W (.Try body [.ExceptHandler (some (.Name T np)) (some n) [.Assign [.Name y py] (.Name n pn) pa] pos'] [] [] pos) (sTryK known i j g) := by
  refine PS.weak (ps_try_keep hs hf hex hN hi hln hT tk (tb := fun W' => tSS X.K b W' g) hb (fun a pl => pss_one (ps_asg (X := X.suite a pl) (pe_var (X := X.suite a pl) hi hv hdb hcd) (pg_name (X := X.suite a pl) hN hj hy hfn) hsw hw))) fun D' σ H ⟨F, m, R, p⟩ => ?_
  refine ⟨F, m, R, ?_⟩
  unfold sTryK at p
  cases hg : g m with
  | nx m1 => rw [hg] at p; exact p
  | rt d => rw [hg] at p; exact p
  | bk m1 => rw [hg] at p; exact p
  | ct m1 => rw [hg] at p; exact p
  | stuck => rw [hg] at p; exact p
  | exc c m1 =>
    rw [hg] at p
    simp only [keepC] at p
    split at p
    · rename_i hc
      rw [Bool.and_eq_true, decide_eq_true_eq] at hc
      obtain ⟨k1, k2⟩ := hk c (by simpa using hc.1)
      intro σ' F' H' R' q
      refine ⟨true, k1, fun _ => ⟨rfl, fun a ha => ⟨.ref a, by rw [List.getElem?_set_self (by rw [← R'.len]; exact hc.2)], ?_⟩⟩, fun z => (nomatch z)⟩
      have G := Grow.loose (o := KxO (b.ex c) a) R'.sub ha
      have R1 := ((R'.step G).drop (i := i)).put (i := j) (d := .ex c) (v := .ref a) rfl (.ex (by rw [upd_same, k2]))
      have e : (((σ'.set i (some (.ref a))).set j (some (.ref a))).set i none) = (σ'.set i none).set j (some (.ref a)) := by
        rw [List.set_comm _ _ (Ne.symm hij), List.set_set]
      show D'.nx (((σ'.set i (some (.ref a))).set j (some (.ref a))).set i none) _
      rw [e]
      exact p _ F' _ R1 (q.trans G.prog)
    · exact p.elim
end
section
variable {X : Cx}
theorem kx_at {K : PySem.W.Frag} {D : Addr} (C : ExcC K D) {a : Addr} {o : Obj} : PySem.W.KitX K (.ref a) (.ref D) (fun h => PySem.W.InstAt h a o D none) := PySem.W.handS_kitx_exc C.hg C.hk C.hs C.hd C.ha C.hn C.ht C.hm
theorem kx_inst {H : Hp} {s : Shared} {pins : List (Addr × Obj)} {σ : L2.St} {a D : Addr} (I : Inv X pins σ H s) (h : H a = some (KxO (.ref D) a)) : ∃ o, PySem.W.InstAt s.heap a o D none := by
  obtain ⟨⟨oe, vs, h1, h2, h3⟩, _⟩ := I.hok a _ h
  obtain ⟨oc, od, oda, osl⟩ := oe
  obtain ⟨h4, h5⟩ := h2
  dsimp only at h3 h4 h5
  subst h3 h4 h5
  exact ⟨_, h1, rfl, rfl, trivial⟩
def rIsX (K : PySem.W.Frag) : List V → Hp → VK → Prop := fun xs H Q => ∃ (a D : Addr) (c : V) (u : Value) (b : Bool), xs = [.ref a, c] ∧ H a = some (KxO (.ref D) a) ∧ ExcC K D ∧ ClsV c u ∧ PySem.W.kitOne K (.ref D) u = some b ∧ Q (.bl b) H
theorem call_isX : CallR X (.builtin "isinstance") (rIsX X.K) := by
  intro pins s σ H xs us Q I r h
  obtain ⟨a, D, c, u, b, rfl, ha, C, k, e, q⟩ := h
  cases r with
  | cons r1 rt =>
    cases rt with
    | cons r2 rt =>
      cases rt
      cases r1
      have e2 := k.eq r2
      subst e2
      obtain ⟨o, J⟩ := kx_inst I ha
      exact PySem.W.kia_one (kx_at C) I.kIn J e (fun z => nomatch z) fun tk => ⟨.bl b, H, I.tok tk, rfl, q⟩
def rIsXT (K : PySem.W.Frag) : List V → Hp → VK → Prop := fun xs H Q => ∃ (a D tp : Addr) (cs : List V) (us : List Value) (b : Bool), xs = [.ref a, .ref tp] ∧ H a = some (KxO (.ref D) a) ∧ ExcC K D ∧ H tp = some (.tup cs) ∧ Paired ClsV cs us ∧ PySem.W.kitAny K (.ref D) us = some b ∧ Q (.bl b) H
theorem call_isXT : CallR X (.builtin "isinstance") (rIsXT X.K) := by
  intro pins s σ H xs us Q I r h
  obtain ⟨a, D, tp, cs, ws, b, rfl, ha, C, hT, k, e, q⟩ := h
  cases r with
  | cons r1 rt =>
    cases rt with
    | cons r2 rt =>
      cases rt
      cases r1
      cases r2
      obtain ⟨o, J⟩ := kx_inst I ha
      obtain ⟨_, its, rv, ot, h1, h2, n, h3⟩ := (show ObjOk X.prog X.w H s.heap tp (.tup cs) from I.hok tp _ hT)
      have e3 := ClsV.all k rv
      subst e3
      obtain ⟨oc, od, dt, sl⟩ := ot
      simp only at h2 h3
      subst h2 h3
      exact PySem.W.kia_tup (kx_at C) I.kIn J h1 e (fun z => nomatch z) fun tk => ⟨.bl b, H, I.tok tk, rfl, q⟩
end
def KxT (K : PySem.W.Frag) (tbl : List (String × Bool)) (u : Value) : Prop := ∀ p ∈ tbl, ∃ D, exK K p.1 = .ref D ∧ ExcC K D ∧ PySem.W.kitOne K (.ref D) u = some p.2
def KxA (K : PySem.W.Frag) (tbl : List (String × Bool)) (us : List Value) : Prop := ∀ p ∈ tbl, ∃ D, exK K p.1 = .ref D ∧ ExcC K D ∧ PySem.W.kitAny K (.ref D) us = some p.2
theorem kx_nil {K : PySem.W.Frag} {u : Value} : KxT K [] u := fun _ h => nomatch h
theorem kx_cons {K : PySem.W.Frag} {u : Value} {c : String} {b : Bool} {r : List (String × Bool)} {D : Addr} (h : exK K c = .ref D ∧ ExcC K D) (k : PySem.W.kitOne K (.ref D) u = some b) (t : KxT K r u) : KxT K ((c, b) :: r) u := fun p hp => by
  rcases List.mem_cons.mp hp with e | e
  · subst e; exact ⟨D, h.1, h.2, k⟩
  · exact t p e
theorem ka_nil {K : PySem.W.Frag} {u : List Value} : KxA K [] u := fun _ h => nomatch h
theorem ka_cons {K : PySem.W.Frag} {u : List Value} {c : String} {b : Bool} {r : List (String × Bool)} {D : Addr} (h : exK K c = .ref D ∧ ExcC K D) (k : PySem.W.kitAny K (.ref D) u = some b) (t : KxA K r u) : KxA K ((c, b) :: r) u := fun p hp => by
  rcases List.mem_cons.mp hp with e | e
  · subst e; exact ⟨D, h.1, h.2, k⟩
  · exact t p e
def isxR (tbl : List (String × Bool)) : D → R D
  | .ex c => match tbl.lookup c with
    | some b => .ok (.bl b)
    | none => .stuck
  | _ => .stuck
theorem lookup_mem {tbl : List (String × Bool)} {c : String} {b : Bool} (h : tbl.lookup c = some b) : (c, b) ∈ tbl := by
  induction tbl with
  | nil => simp at h
  | cons p r ih =>
    obtain ⟨x, y⟩ := p
    rw [List.lookup_cons] at h
    split at h
    · rename_i e
      cases h
      rw [eq_of_beq e]; exact List.mem_cons_self
    · exact List.mem_cons_of_mem _ (ih h)
section
variable {X : Cx} {b : Bs} {W : WX} {a : Expr} {f : SemE} {x : Str} {p q pos tpos : Pos} {tbl : List (String × Bool)} {v : V} {u : Value} {es : List Expr} {ta : TA} {vs : List V} {us : List Value} {kk : Nat}
theorem se_isXT (hg : Gl X "isinstance") (hm : X.mg "isinstance" = none) (hA : PA X es ta) (hta : ∀ σ H Q, Q vs H → ta σ H Q) (hcl : Paired ClsV vs us) (hl : vs.length ≤ sizeLine) (ht : KxA X.K tbl us) (hf : SE X b W a f)
    (he : starEach [a, .Tuple es kk tpos] X.env = (false, eval a X.env) :: starEach [.Tuple es kk tpos] X.env := by rfl) (hpl : (backTo pos (starEach [.Tuple es kk tpos] X.env)).any (·.1) = false := by rfl)
    (hs : starEach [.Tuple es kk tpos] X.env = (false, eval (.Tuple es kk tpos) X.env) :: starEach [] X.env := by rfl) : SE X b W (.Call (.Name "isinstance" p) [a, .Tuple es kk tpos] [] pos) (e1 (isxR tbl) f) := by
  refine PE.weak (pe_callB call_isXT hg hm boot_isinstance (pa_cons hf (pa_cons (pe_tup hA) pa_nil hs) he) (by decide) (by decide) he hpl) fun σ H Q ⟨F, m, R, p⟩ => ?_
  refine ⟨F, m, R, p.bind.imp fun y F1 H1 _ G z w hw => ?_⟩
  have R1 := R.step G
  cases y <;> first | exact z.elim | skip
  rename_i c
  simp only [isxR] at z
  split at z
  · rename_i bb hb
    obtain ⟨D, h1, h2, h3⟩ := ht _ (lookup_mem hb)
    cases hw with
    | ex hx =>
      rw [h1] at hx
      refine hta _ _ _ ⟨hl, fun t ht' => ?_⟩
      have G2 := Grow.loose (o := .tup vs) R1.sub ht'
      exact ⟨_, D, t, vs, us, bb, rfl, G2.same _ _ hx, h2, upd_same, hcl, h3, z _ _ G2 _ (.bl _)⟩
  · exact z.elim
def joinD : D → D → R D
  | .str z, .lst _ ys => match strsOf ys with
    | some xs => if (xs.map (·.length)).sum + xs.length * z.length ≤ 16777216 then .ok (.str (Txt.join z xs)) else .stuck
    | none => .stuck
  | _, _ => .stuck
where strsOf : List D → Option (List Str)
    | [] => some []
    | .str x :: r => (strsOf r).map (x :: ·)
    | _ => none
def joinE (f g : SemE) : SemE := fun m => (f m).bind fun x => match x with
  | .str z => (g m).bind (joinD (.str z))
  | _ => .stuck
theorem strs_rp {K : PySem.W.Frag} {F H0 H : Hp} : ∀ {ds : List D} {l : List Str} {vs : List V}, joinD.strsOf ds = some l → RpL K F H0 H ds vs → vs = l.map V.str
  | [], l, _, h, .nil => by cases h; rfl
  | d :: ds, l, _, h, .cons r t => by
    cases d <;> first | (simp [joinD.strsOf] at h; done) | skip
    simp only [joinD.strsOf] at h
    cases q : joinD.strsOf ds with
    | none => rw [q] at h; cases h
    | some l' =>
      rw [q] at h; cases h
      cases r
      rw [strs_rp q t]; rfl
theorem se_join {o e : Expr} {g : SemE} {apos : Pos} (ho : SE X b W o f) (he : SE X b W e g) (hs : starEach [e] X.env = [(false, eval e X.env)] := by rfl) (hbase : attributeBase o "join" X.env (eval o X.env) = eval o X.env := by rfl) (hline : (apos.endLine == pos.line) = true := by rfl) :
    SE X b W (.Call (.Attribute o "join" apos) [e] [] pos) (joinE f g) := by
  refine PE.weak (pe_join ho he hs hbase hline) fun σ H Q ⟨F, m, R, p⟩ => ?_
  refine seq R p fun x F1 H1 v R1 G1 hv p1 => ?_
  cases x <;> first | exact p1.elim | skip
  rename_i z
  cases hv
  refine ⟨⟨z, rfl⟩, seq R1 p1 fun y F2 H2 u R2 G2 hu p2 => ?_⟩
  cases y <;> first | exact p2.elim | skip
  rename_i t ys
  simp only [joinD] at p2
  split at p2
  · rename_i xs hx
    split at p2
    · rename_i hl
      obtain ⟨a', us, rfl, k1, k2⟩ := hu.list R2.sub
      rw [strs_rp hx k2] at k1
      exact ⟨z, a', xs, rfl, rfl, .inl (.inl (.inl k1)), hl, p2.here R2.sub _ (.str _)⟩
    · exact p2.elim
  · exact p2.elim
end
theorem pe_cls {X : Cx} {x : Str} {C : Addr} {pos : Pos} (hg : Gl X x) (hm : X.mg x = some (.ref C)) (hd : (x == ("__debug__" : Str)) = false := by decide) : PE X (.Name x pos) (tC (.ref C)) := pe_glob hg hm rfl hd
theorem exK_of {K : PySem.W.Frag} {c : String} {v : Value} (h : PySem.W.nsIn K mainGlobals (Str.ofString c) = some (some v)) : exK K c = v := by unfold exK; rw [h]
theorem kit_ref {K : PySem.W.Frag} {D C : Addr} {b : Bool} (hd : PySem.W.hasDictIn K C = true) (ht : PySem.W.typeIn K (.ref C) = some (.type "type")) (hr : PySem.W.subIn K (.ref C) (.ref C) = some true) (h : PySem.W.subIn K (.ref D) (.ref C) = some b) : PySem.W.kitOne K (.ref D) (.ref C) = some b := by
  unfold PySem.W.kitOne
  by_cases e : D = C
  · subst e
    rw [hr] at h; cases h
    rw [if_pos (by simp)]
  · rw [if_neg (fun z => e (Value.ref.inj (eq_of_beq z)))]
    obtain ⟨cd, hc, _⟩ := PySem.W.any_some hd
    show (if ((PySem.W.clsIn K C).isSome && PySem.W.typeIn K (.ref C) == some (.type "type")) = true then PySem.W.subIn K (.ref D) (.ref C) else none) = some b
    rw [if_pos (by rw [hc, ht]; rfl)]
    exact h
theorem kit_bt {K : PySem.W.Frag} {D : Addr} {T : String} {b : Bool} (hm : PySem.W.kitMeta T = true) (h : PySem.W.subIn K (.ref D) (.type T) = some b) : PySem.W.kitOne K (.ref D) (.type T) = some b := by
  unfold PySem.W.kitOne
  rw [if_neg (by intro z; cases eq_of_beq z)]
  show (if PySem.W.kitMeta T = true then PySem.W.subIn K (.ref D) (.type T) else none) = some b
  rw [if_pos hm]; exact h
theorem w_mk {K : PySem.W.Frag} {mg : Str → Option Value} {c : String} {a : Addr} {u : Value} (hm : mg (Str.ofString c) = some (.ref a)) (hx : exK K c = .ref a) (h : PySem.W.exmOne K (.ref a) u = some true) : PySem.W.exmOne K (exOf mg c) u = some true ∧ exOf mg c = exK K c := by
  have e : exOf mg c = .ref a := by unfold exOf; rw [hm]; rfl
  rw [e, hx]; exact ⟨h, rfl⟩
theorem kn_nil {P : String → Prop} : ∀ c ∈ ([] : List String), P c := fun _ h => nomatch h
theorem kn_cons {P : String → Prop} {a : String} {r : List String} (h : P a) (t : ∀ c ∈ r, P c) : ∀ c ∈ a :: r, P c := fun c hc => by
  rcases List.mem_cons.mp hc with e | e
  · rw [e]; exact h
  · exact t c e
end CT

namespace CT
open PySem PySem.Spec PyProof.Rows L2
theorem set_self_eq' {α : Type} {l : List α} {i : Nat} {x : α} (h : l[i]? = some x) : l.set i x = l := by
  have := set_self_eq (y := x) h
  rwa [List.set_set] at this
section
variable {K : PySem.W.Frag} {b : Bs} {F F' H H' : Hp} {m : Sl} {σ : L2.St} {a c : Addr} {u1 u2 : HO}
theorem dct_owns {q : DT} {ks : List (List Int)} {ds : List D} {a d : Addr} (o : Owns H (.dct q ks ds) (.ref a) d) : d = a := by
  have := o.dct
  cases this; rfl
end
end CT

namespace CT
open PySem PySem.Spec PyProof.Rows L2
inductive RB where
  | rt (d : D) (m : Sl) | stuck
abbrev SemB := Sl → RB
def SstB (K : PySem.W.Frag) (b : Bs) (F H : Hp) (D' : Ends) : RB → Prop
  | .rt d m' => ∀ σ' F' H' v, Rel K b F' m' σ' H' → Prog F H F' H' → Rp K F' b.H0 H' d v → hasT d = false → D'.rt v H'
  | .stuck => False
theorem SstB.prog {K : PySem.W.Frag} {b : Bs} {F H F1 H1 : Hp} {D' : Ends} {r : RB} (g : Prog F H F1 H1) (p : SstB K b F H D' r) : SstB K b F1 H1 D' r := by
  cases r with
  | rt d m => exact fun σ' F' H' v R q => p σ' F' H' v R (g.trans q)
  | stuck => exact p
def tSB (K : PySem.W.Frag) (b : Bs) (g : SemB) : TS := fun D' σ H => ∃ F m, Rel K b F m σ H ∧ SstB K b F H D' (g m)
abbrev SB (X : Cx) (b : Bs) (st : List Stmt) (g : SemB) : Prop := PSs X st (tSB X.K b g)
def bRet (f : SemE) : SemB := fun m => match f m with
  | .ok d => if hasT d = true then .stuck else .rt d m
  | _ => .stuck
def bSeq (g : SemS) (h : SemB) : SemB := fun m => match g m with
  | .nx m' => h m'
  | _ => .stuck
section
variable {X : Cx} {b : Bs} {W : WX} {st : Stmt} {rest : List Stmt} {g : SemS} {h : SemB} {e : Expr} {f : SemE} {pos : Pos}
theorem sb_ret (hf : SE X b W e f) : SB X b [.Return (some e) pos] (bRet f) := by
  refine PSs.weak (pss_one (ps_ret hf)) fun D' σ H ⟨F, m, R, p⟩ => ⟨F, m, R, ?_⟩
  unfold bRet at p
  cases hm : f m with
  | stuck => rw [hm] at p; exact p.elim
  | exc c => rw [hm] at p; exact p.elim
  | ok d =>
    rw [hm] at p
    simp only at p
    split at p
    · exact p.elim
    · rename_i hd
      exact fun F1 H1 G v hv => p σ F1 H1 v (R.step G) G.prog hv (by simpa using hd)
theorem sb_cons (h1 : SS X b W st g) (h2 : SB X b rest h) : SB X b (st :: rest) (bSeq g h) := by
  refine PSs.weak (pss_cons h1 h2) fun D' σ H ⟨F, m, R, p⟩ => ⟨F, m, R, ?_⟩
  unfold bSeq at p
  cases hg : g m with
  | nx m' => rw [hg] at p; exact fun σ' F' H' R' q => ⟨F', m', R', SstB.prog q p⟩
  | bk m' => rw [hg] at p; exact p.elim
  | ct m' => rw [hg] at p; exact p.elim
  | rt d => rw [hg] at p; exact p.elim
  | exc c m' => rw [hg] at p; exact p.elim
  | stuck => rw [hg] at p; exact p.elim
end
theorem join_some {α : Type} {o : Option (Option α)} {x : α} (h : o.join = some x) : o = some (some x) := by
  cases o with
  | none => cases h
  | some y => cases y with
    | none => cases h
    | some z => cases h; rfl
end CT

namespace CT
open PySem PySem.Spec PyProof.Rows L2
abbrev PA (kas : Kas) (xs : List (NestedKey × Addr × Value)) : Prop := Paired (fun (p : List (List Int) × Addr × V) (q : NestedKey × Addr × Value) => toN p.1 = q.1 ∧ p.2.1 = q.2.1 ∧ RelV p.2.2 q.2.2) kas xs
end CT

namespace CT
open PySem PySem.Spec PyProof.Rows L2
end CT

namespace CT
open PySem PySem.Spec PyProof.Rows L2
end CT

namespace CT
open PySem PySem.Spec PyProof.Rows L2
end CT

namespace CT
open PySem PySem.Spec PyProof.Rows L2
end CT

namespace CT
open PySem PySem.Spec PyProof.Rows L2
theorem tuple_mul1 (l : Addr) (items : Array Value) (n : Nat) (dd : Option Addr) (sl : Array (Option Value)) (u : Tok) (c0 : items.isEmpty = false) :
    Meets (Builtin.«tuple.__mul__» ⟨[.ref l, .int 1 u], []⟩) (fun _ R s => s.heap.get? l = some { cls := .type "tuple", dict := dd, data := .seq items n, slots := sl } ∧ R (.ok (.ret (Value.ref l))) s) :=
  .of_wp fun prog w A R s h => by
    obtain ⟨hp, g, d, tk, os⟩ := s
    obtain ⟨hl, h⟩ := h
    have f1 := AutoSeq1.idx_int
    wp_walk using wpAny_loadPart' hl
    exact ⟨_, rfl, h⟩
def rRep1 (K : PySem.W.Frag) : R2 := fun x y H Q => ∃ l xs, x = .ref l ∧ y = .int 1 ∧ SqT K H l xs ∧ xs ≠ [] ∧ Q (.ref l) H
section
variable {X : Cx} {b : Bs} {W : WX}
theorem op_rep1 : OpR X (binaryOp .Mult) (rRep1 X.K) := by
  intro pins s σ H x y v u Q I rx ry h
  obtain ⟨l, xs, rfl, rfl, hT, hne, q⟩ := h
  cases rx
  obtain ⟨t, rfl⟩ := ry
  obtain ⟨its, r, ⟨⟨cls, dd, data, sl⟩, ho, hc, n, hd⟩, hs⟩ := I.tuple hT
  simp only at hc hd
  subst hc hd
  have hle : its.length = xs.length := r.length.symm
  have hi : its.toArray.isEmpty = false := by
    cases its with
    | nil =>
      cases xs with
      | nil => exact absurd rfl hne
      | cons _ _ => simp at hle
    | cons a b => rfl
  exact wpAny_binaryOp_repeat_ref (T := "tuple") (U := "int") (by decide) ⟨_, ho, rfl⟩ (fun s' => typeIs_int s' 1 t) noFill_tuple_mul F.fills_int_mul F.slot_int_rmul repeat_tuple F.slot_int_index.lookup
    (call_meets F.slot_int_rmul (typeIs_int s 1 t) F.entry_int_rmul (F.args_int_rmul_2 _ _) (int_rmul_tuple 1 t l its.toArray n dd sl)
      ⟨ho, rfl, ⟨_, ho, rfl⟩, call_meets F.slot_tuple_mul ⟨_, ho, rfl⟩ F.entry_tuple_mul (F.args_tuple_mul_2 _ _) (tuple_mul1 l its.toArray n dd sl t hi) ⟨ho, .ref l, H, I, rfl, q⟩⟩)
def repT : D → D → R D
  | .tup xs, .int k => if xs ≠ [] ∧ xs.length ≤ 1000 ∧ 1 ≤ k ∧ k ≤ 1000 then .ok (.tup (List.replicate k.toNat xs).flatten) else .stuck
  | _, _ => .stuck
theorem o_repT : Op2 X b W (binaryOp .Mult) repT := by
  refine ⟨_, (op_repT (X := X)).or op_rep1, fun σ F H Q x y v u s hx hy p => ?_⟩
  unfold repT at p
  split at p
  · rename_i ds k
    split at p
    · rename_i hk
      obtain ⟨a, xs, rfl, h1, h2⟩ := hx.tuple
      cases hy
      have hne : xs ≠ [] := fun e => by
        subst e; cases h2; exact hk.1 rfl
      by_cases c : k = 1
      · subst c
        refine .inr ⟨a, xs, rfl, rfl, h1, hne, ?_⟩
        have e : (List.replicate (1 : Int).toNat ds).flatten = ds := by simp
        rw [e] at p
        exact p.here s _ hx
      · refine .inl ⟨a, k, xs, rfl, rfl, h1, hne, by omega, hk.2.2.2, by rw [← h2.length]; exact hk.2.1, fun q hq => ?_⟩
        have G := Grow.still (o := .tup (List.replicate k.toNat xs).flatten) s hq
        exact (p _ _ G) _ (.tup upd_same ((h2.grow G).rep _))
    · exact p.elim
  · exact p.elim
end
end CT

namespace CT
open PySem PySem.Spec PyProof.Rows L2
end CT

namespace CT
open PySem PySem.Spec PyProof.Rows L2
section
variable {X : Cx} {b : Bs} {W : WX}
def rStrN : List V → Hp → VK → Prop := fun xs H Q => (xs = [.non] ∧ Q (.str "None") H) ∨ ∃ c, xs = [.bl c] ∧ Q (.str (if c then "True" else "False")) H
theorem call_strN : CallR X (.type "str") rStrN := by
  intro pins s σ H xs us Q I r h
  rcases h with ⟨rfl, q⟩ | ⟨c, rfl, q⟩
  · cases r with
    | cons ry rt =>
      cases rt
      cases ry
      exact P.str_of_none ⟨.str _, H, I.tok _, ⟨_, rfl⟩, q⟩
  · cases r with
    | cons ry rt =>
      cases rt
      cases ry
      exact P.str_of_bool ⟨.str _, H, I.tok _, ⟨_, rfl⟩, q⟩
def strA : List D → R D
  | [.non] => .ok (.str "None")
  | [.bl c] => .ok (.str (if c then "True" else "False"))
  | [.str x] => .ok (.str x)
  | xs => strD xs
theorem c_strA (hu : X.A.units + 65 < cLine) (hgd : X.A.guards = some []) : CallD X b W (.type "str") strA := by
  obtain ⟨r, hr, hk⟩ := c_str (X := X) (b := b) (W := W) hu hgd
  refine ⟨_, (call_strN.or SkE.call_str_str).or hr, fun σ F H Q xs vs s rr p => ?_⟩
  unfold strA at p
  split at p
  · obtain ⟨v, rfl, h⟩ := rr.one
    cases h
    exact .inl (.inl (.inl ⟨rfl, p.here s _ (.str _)⟩))
  · obtain ⟨v, rfl, h⟩ := rr.one
    cases h
    exact .inl (.inl (.inr ⟨_, rfl, p.here s _ (.str _)⟩))
  · obtain ⟨v, rfl, h⟩ := rr.one
    cases h
    exact .inl (.inr ⟨_, rfl, p.here s _ (.str _)⟩)
  · exact .inr (hk σ F H Q xs vs s rr p)
end
end CT

namespace CT
open PySem PySem.Spec PyProof.Rows L2
def Owned (σ : L2.St) (m : Sl) (H : Hp) (c : Addr) : Prop := ∃ (i : Nat) (d : D) (v : V), m[i]? = some (some d) ∧ σ[i]? = some (some v) ∧ Owns H d v c
structure Step (σ : L2.St) (F H : Hp) (m : Sl) (F1 H1 : Hp) (m1 : Sl) : Prop where
  p : Prog F H F1 H1
  fr : ∀ c o, H c = some o → ¬ Owned σ m H c → H1 c = some o
  ow : ∀ c, Owned σ m1 H1 c → Owned σ m H c ∨ H c = none
  nw : ∀ c o, F1 c = some o → F c = some o ∨ H c = none ∨ Owned σ m H c
  ex : ∀ c, H1 c = none → H c = none ∨ Owned σ m H c
section
variable {K : PySem.W.Frag} {b : Bs} {σ : L2.St} {F H F1 H1 F2 H2 : Hp} {m m1 m2 : Sl}
theorem Step.refl (F H : Hp) (m : Sl) : Step σ F H m F H m := ⟨Prog.refl _ _, fun _ _ h _ => h, fun _ h => .inl h, fun _ _ h => .inl h, fun _ h => .inl h⟩
theorem Step.trans (s : Step σ F H m F1 H1 m1) (t : Step σ F1 H1 m1 F2 H2 m2) : Step σ F H m F2 H2 m2 := by
  refine ⟨s.p.trans t.p, fun c o h n => t.fr c o (s.fr c o h n) fun z => ?_, fun c z => ?_, fun c o z => ?_, fun c z => (t.ex c z).elim (s.ex c) fun y => (s.ow c y).symm⟩
  · rcases s.ow c z with z | z
    · exact n z
    · rw [z] at h; cases h
  · by_cases n : Owned σ m H c
    · exact .inl n
    · cases h : H c with
      | none => exact .inr rfl
      | some o =>
        have h1 := s.fr c o h n
        rcases t.ow c z with z | z
        · rcases s.ow c z with z | z
          · exact absurd z n
          · rw [z] at h; cases h
        · rw [z] at h1; cases h1
  · by_cases n : Owned σ m H c
    · exact .inr (.inr n)
    rcases t.nw c o z with z | z | z
    · exact s.nw c o z
    · cases h : H c with
      | none => exact .inr (.inl rfl)
      | some o' => rw [s.fr c o' h n] at z; cases z
    · rcases s.ow c z with z | z
      · exact absurd z n
      · exact .inr (.inl z)
theorem Rel.stepG (R : Rel K b F m σ H) (G : Grow F H F1 H1) : Step σ F H m F1 H1 m := ⟨G.prog, fun c o h _ => G.same c o h, fun c ⟨i, d, v, h1, h2, h3⟩ => by
  obtain ⟨w, k1, k2⟩ := R.slot i d h1
  rw [h2] at k1; cases k1
  exact .inl ⟨i, d, v, h1, h2, h3.backS R.sub G.same k2⟩, fun c o h => (G.new c o h).imp id .inl, fun c z => .inl (G.same.free z)⟩
theorem Rel.fresh (R : Rel K b F m σ H) {c : Addr} (h : H c = none ∨ Owned σ m H c) : b.H0 c = none := by
  rcases h with h | ⟨i, d, v, h1, h2, h3⟩
  · exact R.grow.same.free h
  · obtain ⟨w, k1, k2⟩ := R.slot i d h1
    rw [h2] at k1; cases k1
    obtain ⟨_, _, q⟩ := Owns.here k2 h3
    exact q
end
def Yst {α : Type} (K : PySem.W.Frag) (b : Bs) (σ : L2.St) (F H : Hp) (m : Sl) (C : α → Hp → Hp → Sl → Prop) : R (α × Sl) → Prop
  | .ok (a, m') => ∀ F' H', Rel K b F' m' σ H' → Step σ F H m F' H' m' → C a F' H' m'
  | _ => False
abbrev SemX := Sl → R (D × Sl)
abbrev SemXT := Sl → R (Bool × Sl)
abbrev SemXA := Sl → R (List D × Sl)
section
variable {α β : Type} {K : PySem.W.Frag} {b : Bs} {σ : L2.St} {F H F1 H1 : Hp} {m m1 : Sl}
theorem Yst.step {C : α → Hp → Hp → Sl → Prop} {r : R (α × Sl)} (g : Step σ F H m F1 H1 m1) (p : Yst K b σ F H m C r) : Yst K b σ F1 H1 m1 C r := by
  cases r with
  | ok a => exact fun F' H' R q => p F' H' R (g.trans q)
  | exc c => exact p
  | stuck => exact p
theorem Rp.prog {H0 : Hp} {d : D} {v : V} (g : Prog F H F1 H1) (n : hasT d = false) (h : Rp K F H0 H d v) : Rp K F1 H0 H1 d v := (Rp.keep g.tups d v n h).mono g.sub (Same.refl _)
theorem RpL.prog {H0 : Hp} {d : List D} {v : List V} (g : Prog F H F1 H1) (n : hasTL d = false) (h : RpL K F H0 H d v) : RpL K F1 H0 H1 d v := (RpL.keep g.tups d v n h).mono g.sub (Same.refl _)
end
def bindX {α β : Type} (r : R (α × Sl)) (k : α → Sl → R (β × Sl)) : R (β × Sl) := match r with
  | .ok (a, m) => k a m
  | .exc _ => .stuck
  | .stuck => .stuck
def okX (r : R D) (m : Sl) : R (D × Sl) := match r with
  | .ok d => if hasT d = true then .stuck else .ok (d, m)
  | _ => .stuck
section
variable (K : PySem.W.Frag) (b : Bs)
def CX (Q : VK) : D → Hp → Hp → Sl → Prop := fun d F' H' _ => ∀ v, Rp K F' b.H0 H' d v → hasT d = false → Q v H'
def CXs (Q : List V → Hp → Prop) : List D → Hp → Hp → Sl → Prop := fun d F' H' _ => ∀ v, RpL K F' b.H0 H' d v → hasTL d = false → Q v H'
def tSX (f : SemX) : TE := fun σ H Q => ∃ F m, Rel K b F m σ H ∧ Yst K b σ F H m (CX K b Q) (f m)
def tSXT (f : SemXT) : TT := fun σ H Q => ∃ F m, Rel K b F m σ H ∧ Yst K b σ F H m (fun c _ H' _ => Q c H') (f m)
def tSXA (f : SemXA) : TA := fun σ H Q => ∃ F m, Rel K b F m σ H ∧ Yst K b σ F H m (CXs K b Q) (f m)
end
abbrev SX (X : Cx) (b : Bs) (e : Expr) (f : SemX) : Prop := PE X e (tSX X.K b f)
abbrev SXT (X : Cx) (b : Bs) (e : Expr) (f : SemXT) : Prop := PT X e (tSXT X.K b f)
abbrev SXA (X : Cx) (b : Bs) (es : List Expr) (f : SemXA) : Prop := L2.PA X es (tSXA X.K b f)
def xOf (f : SemE) : SemX := fun m => okX (f m) m
def x2 (op : D → D → R D) (f g : SemX) : SemX := fun m => bindX (f m) fun x m1 => bindX (g m1) fun y m2 => okX (op x y) m2
def xA (op : List D → R D) (f : SemXA) : SemX := fun m => bindX (f m) fun xs m1 => okX (op xs) m1
def xaNil : SemXA := fun m => .ok ([], m)
def xaCons (f : SemX) (g : SemXA) : SemXA := fun m => bindX (f m) fun x m1 => bindX (g m1) fun xs m2 => .ok (x :: xs, m2)
def xtOf (f : SemX) : SemXT := fun m => bindX (f m) fun x m1 => match x with
  | .bl c => .ok (c, m1)
  | _ => .stuck
section
variable {X : Cx} {b : Bs} {W : WX} {e a c : Expr} {f g : SemX} {pos : Pos}
theorem seqX {R' : V → Hp → Prop} {σ : L2.St} {H : Hp} {α : Type} {k : D → Sl → R (α × Sl)} {C : α → Hp → Hp → Sl → Prop} {F : Hp} {m : Sl} (r : Rel X.K b F m σ H) (p : Yst X.K b σ F H m C (bindX (f m) k))
    (h : ∀ x m1 F1 H1 v, Rel X.K b F1 m1 σ H1 → Step σ F H m F1 H1 m1 → Rp X.K F1 b.H0 H1 x v → hasT x = false → Yst X.K b σ F1 H1 m1 C (k x m1) → R' v H1) : tSX X.K b f σ H R' := by
  refine ⟨F, m, r, ?_⟩
  cases hf : f m with
  | stuck => rw [hf] at p; exact p.elim
  | exc c => rw [hf] at p; exact p.elim
  | ok d =>
    rw [hf] at p
    exact fun F1 H1 R1 G v hv hn => h d.1 d.2 F1 H1 v R1 G hv hn (Yst.step G p)
theorem seqXA {h : SemXA} {R' : List V → Hp → Prop} {σ : L2.St} {H : Hp} {α : Type} {k : List D → Sl → R (α × Sl)} {C : α → Hp → Hp → Sl → Prop} {F : Hp} {m : Sl} (r : Rel X.K b F m σ H) (p : Yst X.K b σ F H m C (bindX (h m) k))
    (q : ∀ x m1 F1 H1 v, Rel X.K b F1 m1 σ H1 → Step σ F H m F1 H1 m1 → RpL X.K F1 b.H0 H1 x v → hasTL x = false → Yst X.K b σ F1 H1 m1 C (k x m1) → R' v H1) : tSXA X.K b h σ H R' := by
  refine ⟨F, m, r, ?_⟩
  cases hf : h m with
  | stuck => rw [hf] at p; exact p.elim
  | exc c => rw [hf] at p; exact p.elim
  | ok d =>
    rw [hf] at p
    exact fun F1 H1 R1 G v hv hn => q d.1 d.2 F1 H1 v R1 G hv hn (Yst.step G p)
theorem Yst.here {σ : L2.St} {F H : Hp} {Q : VK} {r : R D} {m : Sl} (R : Rel X.K b F m σ H) (p : Yst X.K b σ F H m (CX X.K b Q) (okX r m)) : Pst b W σ F H (CV X.K b Q) r := by
  cases r with
  | stuck => exact p.elim
  | exc c => exact p.elim
  | ok d =>
    simp only [okX] at p
    split at p
    · exact p.elim
    · rename_i hd
      exact fun F' H' G v hv => p F' H' (R.step G) (R.stepG G) v hv (by simpa using hd)
theorem sx_of {f : SemE} (h : SE X b W e f) : SX X b e (xOf f) := PE.weak h fun σ H Q ⟨F, m, R, p⟩ => ⟨F, m, R, Yst.here R p⟩
theorem sx_bin {o : Operator} {op : D → D → R D} (ho : Op2 X b W (binaryOp o) op) (hf : SX X b a f) (hg : SX X b c g) : SX X b (.BinOp a o c pos) (x2 op f g) := by
  obtain ⟨r, h1, h2⟩ := ho
  refine PE.weak (pe_op h1 hf hg) fun σ H Q ⟨F, m, R, p⟩ => ?_
  exact seqX R p fun x m1 F1 H1 v R1 G1 hv n1 p1 => seqX R1 p1 fun y m2 F2 H2 u R2 G2 hu n2 p2 => h2 σ F2 H2 Q x y v u R2.sub (hv.prog G2.p n1) hu (Yst.here R2 p2)
theorem sxt_val (hf : SX X b e f) (he : ∀ whole, isTrue e X.env whole = (do let v ← whole; standAt e.pos; holding [v] (truthy v)) := by intro _; rfl) : SXT X b e (xtOf f) := by
  refine PT.weak (L2.pt_val hf he) fun σ H Q ⟨F, m, R, p⟩ => ?_
  refine seqX R p fun x m1 F1 H1 v R1 G1 hv n1 p1 => ?_
  cases x <;> first | exact p1.elim | skip
  cases hv
  exact ⟨_, rfl, p1 F1 H1 R1 (Step.refl _ _ _)⟩
theorem sxa_nil : SXA X b [] xaNil := PA.weak pa_nil fun σ H Q ⟨F, m, R, p⟩ => p F H R (Step.refl _ _ _) [] .nil rfl
theorem sxa_cons {es : List Expr} {h : SemXA} (he : SX X b e f) (hr : SXA X b es h) (hs : starEach (e :: es) X.env = (false, eval e X.env) :: starEach es X.env := by rfl) : SXA X b (e :: es) (xaCons f h) := by
  refine PA.weak (pa_cons he hr hs) fun σ H Q ⟨F, m, R, p⟩ => ?_
  refine seqX R p fun x m1 F1 H1 v R1 G1 hv n1 p1 => seqXA R1 p1 fun xs m2 F2 H2 vs R2 G2 hvs n2 p2 => ?_
  exact p2 F2 H2 R2 (Step.refl _ _ _) _ (.cons (hv.prog G2.p n1) hvs) (by simp [hasTL, n1, n2])
theorem sx_tup {es : List Expr} {h : SemXA} {k : Nat} (ha : SXA X b es h) : SX X b (.Tuple es k pos) (xA mkTup h) := by
  refine PE.weak (pe_tup ha) fun σ H Q ⟨F, m, R, p⟩ => ?_
  refine seqXA R p fun xs m1 F1 H1 vs R1 G1 hv n1 p1 => ?_
  have p1 := Yst.here (W := fun _ _ _ _ => True) R1 p1
  unfold mkTup at p1
  split at p1
  · rename_i hl
    refine ⟨by rw [← hv.length]; exact hl, fun q hq => ?_⟩
    have G := Grow.still (o := .tup vs) R1.sub hq
    exact (p1 _ _ G) _ (.tup upd_same (hv.grow G))
  · exact p1.elim
def mkLstF (xs : List D) : R D := if xs.length ≤ sizeLine then .ok (.lst false xs) else .stuck
theorem sx_lst {es : List Expr} {h : SemXA} (ha : SXA X b es h) : SX X b (.List es pos) (xA mkLstF h) := by
  refine PE.weak (pe_lst ha) fun σ H Q ⟨F, m, R, p⟩ => ?_
  refine seqXA R p fun xs m1 F1 H1 vs R1 G1 hv n1 p1 => ?_
  have p1 := Yst.here (W := fun _ _ _ _ => True) R1 p1
  unfold mkLstF at p1
  split at p1
  · rename_i hl
    refine ⟨by rw [← hv.length]; exact hl, fun q hq => ?_⟩
    have G := Grow.still (o := .lst vs) R1.sub hq
    exact (p1 _ _ G) _ (.lst upd_same (hv.grow G))
  · exact p1.elim
theorem sx_ix (hf : SX X b a f) (hg : SX X b c g) (hs : PlainIx c := by exact fun _ _ => rfl) : SX X b (.Subscript a c pos) (x2 ixD f g) := by
  refine PE.weak (pe_ix ix_seq hf hg hs) fun σ H Q ⟨F, m, R, p⟩ => ?_
  refine seqX R p fun x m1 F1 H1 v R1 G1 hv n1 p1 => seqX R1 p1 fun y m2 F2 H2 u R2 G2 hu n2 p2 => ?_
  have hv := hv.prog G2.p n1
  have p2 := Yst.here (W := fun _ _ _ _ => True) R2 p2
  cases x <;> first | exact p2.elim | skip
  · cases y <;> first | exact p2.elim | skip
    cases hv; cases hu
    simp only [ixD] at p2
    split at p2
    · rename_i hz
      split at p2
      · rename_i c hc
        exact .inr (.inr ⟨_, _, c, rfl, rfl, hz, hc, p2.here R2.sub _ (.str _)⟩)
      · exact p2.elim
    · exact p2.elim
  · cases y <;> first | exact p2.elim | skip
    obtain ⟨a, xs, rfl, h1, h2⟩ := hv.tuple
    cases hu
    simp only [ixD] at p2
    split at p2
    · rename_i d hd
      obtain ⟨w, k1, k2⟩ := atI_rp h2 hd
      exact .inr (.inl ⟨a, xs, _, w, rfl, rfl, h1, k1, p2.here R2.sub _ k2⟩)
    · exact p2.elim
  · cases y <;> first | exact p2.elim | skip
    obtain ⟨a, xs, rfl, h1, h2⟩ := hv.list R2.sub
    cases hu
    simp only [ixD] at p2
    split at p2
    · rename_i d hd
      obtain ⟨w, k1, k2⟩ := atI_rp h2 hd
      exact .inl ⟨a, xs, _, w, rfl, rfl, .inl (.inl h1), k1, p2.here R2.sub _ k2⟩
    · exact p2.elim
  · cases y <;> first | exact p2.elim | skip
    obtain ⟨a, xs, rfl, h1, h2⟩ := hv.frl R2.sub
    cases hu
    simp only [ixD] at p2
    split at p2
    · rename_i d hd
      obtain ⟨w, k1, k2⟩ := atI_rp h2 hd
      exact .inl ⟨a, xs, _, w, rfl, rfl, h1, k1, p2.here R2.sub _ k2⟩
    · exact p2.elim
variable {x : Str} {id T : String} {es : List Expr} {h : SemXA} {op : List D → R D} {p : Pos}
theorem sx_callTy (hc : CallD X b W (.type T) op) (hg : Gl X x) (hm : X.mg x = none) (hv : bootBuiltins x = some (.type T)) (ha : SXA X b (e :: es) h) (hn : x ≠ "__name__" := by decide) (hdb : (x == ("__debug__" : Str)) = false := by decide)
    (he : starEach (e :: es) X.env = (false, eval e X.env) :: starEach es X.env := by rfl) (hpl : (backTo pos (starEach es X.env)).any (·.1) = false := by rfl) : SX X b (.Call (.Name x p) (e :: es) [] pos) (xA op h) := by
  obtain ⟨r, h1, h2⟩ := hc
  refine PE.weak (pe_callTy h1 hg hm hv ha hn hdb he hpl) fun σ H Q ⟨F, m, R, p⟩ => ?_
  exact seqXA R p fun xs m1 F1 H1 vs R1 G1 hv n1 p1 => h2 σ F1 H1 Q xs vs R1.sub hv (Yst.here R1 p1)
theorem sx_call {n k : Nat} {fn : List D → R D} (C : Callee X.prog X.w X.K X.mg X.base b.ex x n fn k) (tk : Takes X W) (hr : Room k X.A) (hgd : X.A.guards = some []) (hg : Gl X x) (ha : SXA X b (e :: es) h) (hl : (e :: es).length = n) (hlen : ∀ m xs m1, h m = .ok (xs, m1) → xs.length = (e :: es).length) (hdb : (x == ("__debug__" : Str)) = false := by decide)
    (he : starEach (e :: es) X.env = (false, eval e X.env) :: starEach es X.env := by rfl) (hpl : (backTo pos (starEach es X.env)).any (·.1) = false := by rfl) : SX X b (.Call (.Name x p) (e :: es) [] pos) (xA (callF fn) h) := by
  obtain ⟨fa, fd, ps, F1, hm, hk, hb⟩ := C.ok
  refine PE.weak (pe_callG F1 hr hgd hg hm hk hb (fun σ => passAt tk σ) ha hdb he hpl) fun σ H Q ⟨F, m, R, p⟩ => ?_
  refine ⟨F, m, R, ?_⟩
  unfold xA at p
  cases hm : h m with
  | stuck => rw [hm] at p; exact p.elim
  | exc c => rw [hm] at p; exact p.elim
  | ok xs =>
    rw [hm] at p
    refine fun F1 H1 R1 G vs hv hn => ?_
    exact spF_call R1.sub hv R1.grow.same (by rw [← hl]; exact hlen m xs.1 xs.2 hm) (Yst.here R1 (Yst.step G p))
end
end CT

namespace CT
open PySem PySem.Spec PyProof.Rows L2
def noK (ds : List D) : List (List Int) := ds.map fun _ => []
def lentD (o : Option Addr) (ds : List D) : D := .dct ⟨o, true, true⟩ (noK ds) ds
def less1 (H : Hp) (a : Addr) : Hp := fun x => if x = a then none else H x
theorem less1_ne {H : Hp} {a x : Addr} (h1 : x ≠ a) : less1 H a x = H x := by unfold less1; rw [if_neg h1]
theorem less1_a {H : Hp} {a : Addr} : less1 H a a = none := by unfold less1; rw [if_pos rfl]
theorem less1_same {H : Hp} {a : Addr} : Same (less1 H a) H := fun x o e => by
  unfold less1 at e
  split at e
  · cases e
  · exact e
section
variable {K : PySem.W.Frag} {b : Bs} {F F' H H' H0 : Hp} {m : Sl} {σ : L2.St} {a : Addr}
theorem DctOk.lst {q : DT} {ks : List (List Int)} {ds : List D} {v : V} {kvs : List (List Key × V)} (p : DctOk K F H0 H q ks ds v a kvs) (hl : q.l = true) (hn : q.n = true) (ho : q.o.isSome = true) : H a = some (.lst (kvs.map (·.2))) := by
  obtain ⟨u, h1, h2⟩ := p.al
  unfold DU at h2
  rw [if_pos hn, if_pos hl, if_pos ho] at h2
  rw [h1, h2]
def mkKv (vs : List V) : List (List Key × V) := vs.map fun v => ([], v)
theorem mkKv_v (vs : List V) : (mkKv vs).map (·.2) = vs := by simp [mkKv, Function.comp_def]
theorem mkKv_k {ds : List D} {vs : List V} (h : ds.length = vs.length) : (mkKv vs).map (·.1) = (noK ds).map (·.map Sum.inl) := by
  simp only [mkKv, noK, List.map_map, Function.comp_def, List.map_nil]
  rw [List.map_const', List.map_const', h]
theorem lent_ok {o : Option Addr} {ds : List D} {vs : List V} (hs : o.isSome = true) (ho : ∀ c, o = some c → a = c) (h1 : H a = some (.lst vs)) (fa : F a = none) (ha : H0 a = none) (x : RpL K F H0 H ds vs) (n : hasTL ds = false) : DctOk K F H0 H ⟨o, true, true⟩ (noK ds) ds (.ref a) a (mkKv vs) :=
  ⟨rfl, fun c z => .inr (ho c z), ⟨_, h1, by unfold DU; rw [if_pos rfl, if_pos rfl, if_pos hs, mkKv_v]⟩, fa, ha, mkKv_k x.length, by rw [mkKv_v]; exact x, n⟩
theorem Rel.lendL {vs : List V} (r : Rel K b F m σ H) (ha : H a = some (.lst vs)) (h0a : b.H0 a = none) (fa' : F' a = none)
    (g : Grow F (less1 H a) F' H') (far : ∀ (j : Nat) (e : D) (v : V) (d : Addr), m[j]? = some (some e) → σ[j]? = some (some v) → Owns H e v d → d ≠ a) : Rel K b F' m σ H' := by
  have st : ∀ x o, H x = some o → x ≠ a → H' x = some o := fun x o e h1 => g.same _ _ (by rw [less1_ne h1]; exact e)
  have tt : ∀ x o, H x = some o → NoL o → H' x = some o := fun x o e ho => st x o e fun z => by subst z; rw [ha] at e; cases e; exact False.elim ho
  have gf : ∀ x o, H x = some o → x ≠ a → F x = none → F' x = none := fun x o e h1 hf => grow_free g (by rw [less1_ne h1]; exact e) hf
  have kp : ∀ {ds : List D} {us : List V}, hasTL ds = false → RpL K F b.H0 H ds us → RpL K F' b.H0 H' ds us := fun n h => (RpL.keep tt _ _ n h).mono g.sub (Same.refl _)
  have back : ∀ (j : Nat) (e : D) (v : V) (x : Addr), m[j]? = some (some e) → σ[j]? = some (some v) → Owns H' e v x → Owns H e v x := fun j e v x q1 q2 o => by
    obtain ⟨w, k1, k2⟩ := r.slot j e q1
    rw [q2] at k1; cases k1
    exact o.back (fun b xs e => tt _ _ e trivial) (fun b xs e => g.subH _ _ (g.sub _ _ e)) (fun c xs o' e => st _ _ e (far j _ _ c q1 q2 o')) k2
  refine ⟨r.len, ⟨fun x o e => ?_, r.grow.sub.trans g.sub, g.subH, fun x o e => ?_⟩, fun j e q => ?_, fun p q x y v w z e1 e2 e3 e4 o1 o2 => r.apart p q x y v w z e1 e2 e3 e4 (back _ _ _ _ e1 e3 o1) (back _ _ _ _ e2 e4 o2)⟩
  · exact st _ _ (r.grow.same _ _ e) (fun z => by subst z; rw [h0a] at e; cases e)
  · rcases g.new x o e with z | z
    · exact r.grow.new _ _ z
    · by_cases h1 : x = a
      · subst h1; rw [fa'] at e; cases e
      rw [less1_ne h1] at z
      exact .inr (r.grow.same.free z)
  · obtain ⟨v, k1, k2⟩ := r.slot j e q
    refine ⟨v, k1, ?_⟩
    rcases k2.ow with ⟨as, z, n⟩ | ⟨qq, ks, ds, x, kvs, rfl, p⟩
    · exact .of (Ow.keepG (fun d v n h => (Rp.keep tt d v n h).mono g.sub (Same.refl _)) (fun x xs e => tt _ _ e trivial) (fun x xs e => ⟨g.sub _ _ e, g.subH _ _ (g.sub _ _ e)⟩) _ _ _ z (fun x hx xs e => st _ _ e (far j _ _ x q k1 ((Owns.iff z).mpr hx))) fun x hx xs e hf => gf _ _ e (far j _ _ x q k1 ((Owns.iff z).mpr hx)) hf) n
    · have h1 := far j _ _ x q k1 (.inr (.inl ⟨qq, ks, ds, rfl, p.v⟩))
      obtain ⟨u, h3, h4⟩ := p.al
      exact .inr (.inr (.inr ⟨qq, ks, ds, x, kvs, rfl, p.v, p.o, ⟨u, st _ _ h3 h1, h4.keep fun b xs z => tt _ _ z trivial⟩, gf _ _ h3 h1 p.fa, p.ha, p.k, kp p.nx p.x, p.nx⟩))
end
def spL (K : PySem.W.Frag) (n : Nat) (f : List D → R (D × Option D)) : Sp := fun vs H Q E => ∃ (F0 : Hp) (a : Addr) (xs : List D) (kv : List (List Key × V)) (ds : List D) (us : List V),
  vs = .ref a :: us ∧ Same F0 H ∧ DctOk K F0 (less1 H a) H ⟨some a, true, true⟩ (noK xs) xs (.ref a) a kv ∧ RpL K F0 H H ds us ∧ hasTL ds = false ∧ ds.length = n ∧
  ∃ (d : D) (ys : List D), f (lentD (some a) xs :: ds) = .ok (d, some (lentD (some a) ys)) ∧ hasT d = false ∧
    ∀ F' H' v kw, Grow F0 (less1 H a) F' H' → Prog F0 H F' H' → Rp K F' (less1 H a) H' d v → DctOk K F' (less1 H a) H' ⟨some a, true, true⟩ (noK ys) ys (.ref a) a kw → Q v H'
structure CalleeL (P : Program) (w : World) (K : PySem.W.Frag) (mg : Str → Option Value) (base : Heap) (x : Str) (n : Nat) (f : List D → R (D × Option D)) (k : Nat) : Prop where
  ok : ∃ fa fd ps, FnG P w K mg base k fa fd ps (spL K n f) ∧ mg x = some (.ref fa) ∧ PySem.W.keepIn K (.ref fa) = true ∧ Binds K fd ps []
def xCallL (i : Nat) (f : List D → R (D × Option D)) (h : SemXA) : SemX := fun m => match m[i]? with
  | some (some (.dct _ _ _)) => bindX (h m) fun ds m1 => (match m1[i]? with
    | some (some (.dct ⟨some a, true, true⟩ _ xs)) => (match f (lentD (some a) xs :: ds) with
      | .ok (d, some (.dct ⟨some c, true, true⟩ ks ys)) => if hasT d = false ∧ c = a ∧ ks = noK ys then .ok (d, m1.set i (some (lentD (some a) ys))) else .stuck
      | _ => .stuck)
    | _ => .stuck)
  | _ => .stuck
section
variable {X : Cx} {b : Bs} {W : WX} {x : Str} {e1 : Expr} {es : List Expr} {h : SemXA} {n k i : Nat} {f : List D → R (D × Option D)} {p pos : Pos}
theorem sx_callL (C : CalleeL X.prog X.w X.K X.mg X.base x n f k) (tk : Takes X W) (hr : Room k X.A) (hgd : X.A.guards = some []) (hg : Gl X x) (h1 : PE X e1 (tVar i)) (ha : SXA X b es h) (hl : ∀ m xs m1, h m = .ok (xs, m1) → xs.length = n) (hdb : (x == ("__debug__" : Str)) = false := by decide)
    (he : starEach (e1 :: es) X.env = (false, eval e1 X.env) :: starEach es X.env := by rfl) (hpl : (backTo pos (starEach es X.env)).any (·.1) = false := by rfl) : SX X b (.Call (.Name x p) (e1 :: es) [] pos) (xCallL i f h) := by
  obtain ⟨fa, fd, ps, F1, hm, hk, hb⟩ := C.ok
  refine PE.weak (pe_callG F1 hr hgd hg hm hk hb (fun σ => passAt tk σ) (pa_cons h1 ha he) hdb he hpl) fun σ H Q ⟨F, m, R, q⟩ => ?_
  unfold xCallL at q
  split at q
  rotate_left
  · exact q.elim
  rename_i q0 k0 x0 hq0
  obtain ⟨a, kv0, s1, _⟩ := dct_slot R hq0
  refine ⟨.ref a, s1, F, m, R, ?_⟩
  cases hh : h m with
  | stuck => rw [hh] at q; exact q.elim
  | exc c => rw [hh] at q; exact q.elim
  | ok ds =>
    obtain ⟨ds, m1⟩ := ds
    simp only [hh, bindX] at q
    split at q
    rotate_left
    · exact q.elim
    rename_i a0 ks xs hq
    split at q
    rotate_left
    · exact q.elim
    rename_i d c ks' ys hf
    split at q
    rotate_left
    · exact q.elim
    rename_i hcc
    obtain ⟨hd, hca, hks⟩ := hcc
    subst hca hks
    intro F1 H1 R1 G us hus hds
    obtain ⟨a', kv, s2, P⟩ := dct_slot R1 hq
    rw [s1] at s2; cases s2
    have ea := (P.o _ rfl).resolve_left (by simp)
    subst ea
    have al := P.lst rfl rfl rfl
    refine ⟨F1, a, xs, _, ds, us, rfl, R1.sub, lent_ok rfl (fun _ z => Option.some.inj z) al P.fa less1_a (RpL.base _ _ P.nx P.x) P.nx, RpL.base _ _ hds hus, hds, hl m ds m1 hh, d, ys, hf, hd, ?_⟩
    intro F2 H2 v kw G2 PG2 hv D1
    have al2 := D1.lst rfl rfl rfl
    have nob : ∀ (jj : Nat) (e : D) (w : V) (dd : Addr), (m1.set i none)[jj]? = some (some e) → σ[jj]? = some (some w) → Owns H1 e w dd → jj ≠ i ∧ m1[jj]? = some (some e) ∧ dd ≠ a := fun jj e w dd w1 w2 w3 => by
      have hi : jj ≠ i := fun z => by
        subst z
        rw [List.getElem?_set_self'] at w1
        cases z : m1[jj]? <;> rw [z] at w1 <;> simp at w1
      rw [List.getElem?_set_ne (Ne.symm hi)] at w1
      exact ⟨hi, w1, fun z => by subst z; exact hi (R1.apart jj i _ _ _ _ _ w1 hq w2 s1 w3 (.inr (.inl ⟨_, _, _, rfl, rfl⟩)))⟩
    have tt : ∀ x o, H1 x = some o → NoL o → H2 x = some o := PG2.tups
    have RR : Rel X.K b F2 (m1.set i none) σ H2 := (R1.forget i).lendL al P.ha D1.fa G2 fun jj e w dd w1 w2 w3 => (nob jj e w dd w1 w2 w3).2.2
    have back : ∀ (jj : Nat) (e : D) (w : V) (dd : Addr), (m1.set i none)[jj]? = some (some e) → σ[jj]? = some (some w) → Owns H2 e w dd → Owns H1 e w dd := fun jj e w dd w1 w2 w3 => by
      obtain ⟨w', z1, z2⟩ := (R1.forget i).slot jj e w1
      rw [w2] at z1; cases z1
      exact w3.back (fun b xs e => tt _ _ e trivial) (fun b xs e => G2.subH _ _ (G2.sub _ _ e)) (fun c xs o' e => G2.same _ _ (by rw [less1_ne (nob jj _ w c w1 w2 o').2.2]; exact e)) z2
    have E1 : DctOk X.K F2 b.H0 H2 ⟨some a, true, true⟩ (noK ys) ys (.ref a) a kw := ⟨rfl, fun _ z => .inr (Option.some.inj z), ⟨_, al2, by unfold DU; rw [if_pos rfl, if_pos rfl, if_pos (show (some a).isSome = true from rfl)]⟩, D1.fa, P.ha, D1.k, RpL.base _ _ D1.nx D1.x, D1.nx⟩
    have RA := RR.putW (i := i) (d := lentD (some a) ys) (v := .ref a) (.inr (.inr (.inr ⟨_, _, _, a, kw, rfl, E1⟩))) fun jj e w dd hne w1 w2 w3 w4 => by
      have := dct_owns w3
      subst this
      exact (nob jj e w _ w1 w2 (back jj e w _ w1 w2 w4)).2.2 rfl
    rw [set_self_eq' s1, List.set_set] at RA
    refine q F2 H2 RA (G.trans ⟨PG2, fun c o hc hno => ?_, fun c hc => ?_, fun c o hc => ?_, fun c hc => ?_⟩) v (Rp.base d v hd hv) hd
    · exact G2.same _ _ (by rw [less1_ne (fun z => by subst z; exact hno ⟨i, _, _, hq, s1, .inr (.inl ⟨_, _, _, rfl, rfl⟩)⟩)]; exact hc)
    · obtain ⟨j, e, w, c1, c2, c3⟩ := hc
      by_cases hj : j = i
      · subst hj
        rw [s1] at c2; cases c2
        rw [List.getElem?_set_self ((List.getElem?_eq_some_iff.mp hq).1)] at c1
        cases c1
        have := dct_owns c3
        subst this
        exact .inl ⟨j, _, _, hq, s1, .inr (.inl ⟨_, _, _, rfl, rfl⟩)⟩
      · rw [List.getElem?_set_ne (Ne.symm hj)] at c1
        have c1' : (m1.set i none)[j]? = some (some e) := by rw [List.getElem?_set_ne (Ne.symm hj)]; exact c1
        exact .inl ⟨j, e, w, c1, c2, back j e w c c1' c2 c3⟩
    · rcases G2.new c o hc with z | z
      · exact .inl z
      · by_cases hca : c = a
        · subst hca; exact .inr (.inr ⟨i, _, _, hq, s1, .inr (.inl ⟨_, _, _, rfl, rfl⟩)⟩)
        · rw [less1_ne hca] at z; exact .inr (.inl z)
    · by_cases hca : c = a
      · subst hca; rw [al2] at hc; cases hc
      · have := G2.same.free hc
        rw [less1_ne hca] at this
        exact .inl this
end
end CT

namespace CT
open PySem PySem.Spec PyProof.Rows L2
def bRetX (f : SemX) : SemB := fun m => match f m with
  | .ok (d, m1) => .rt d m1
  | _ => .stuck
def bIf (t : SemT) (g h : SemB) : SemB := fun m => match t m with
  | .ok true => g m
  | .ok false => h m
  | _ => .stuck
section
variable {X : Cx} {b : Bs} {W : WX} {st : Stmt} {rest A : List Stmt} {g : SemS} {h k : SemB} {e c : Expr} {f : SemX} {t : SemT} {tx : SemXT} {pos : Pos} {i : Nat}
theorem sb_retX (hf : SX X b e f) : SB X b [.Return (some e) pos] (bRetX f) := by
  refine PSs.weak (pss_one (ps_ret hf)) fun D' σ H ⟨F, m, R, p⟩ => ⟨F, m, R, ?_⟩
  unfold bRetX at p
  cases hm : f m with
  | stuck => rw [hm] at p; exact p.elim
  | exc c => rw [hm] at p; exact p.elim
  | ok d =>
    obtain ⟨d, m1⟩ := d
    rw [hm] at p
    exact fun F1 H1 R1 G v hv hd => p σ F1 H1 v R1 G.p hv hd
theorem sb_if (hc : ST X b W c t) (ha : SB X b A h) (hr : SB X b rest k) : SB X b (.If c A [] pos :: rest) (bIf t h k) := by
  refine PSs.weak (pss_cons (ps_if hc ha pss_nil) hr) fun D' σ H ⟨F, m, R, p⟩ => ⟨F, m, R, ?_⟩
  unfold bIf at p
  cases ht : t m with
  | stuck => rw [ht] at p; exact p.elim
  | exc c => rw [ht] at p; exact p.elim
  | ok c =>
    rw [ht] at p
    refine fun F1 H1 G => ?_
    cases c with
    | true => exact ⟨F1, m, R.step G, SstB.prog G.prog p⟩
    | false => exact ⟨F1, m, R.step G, SstB.prog G.prog p⟩
end
def defL (n k : Nat) (g : SemB) : List D → R (D × Option D) := fun ds => if ds.length = n then (match g (ds.map some ++ List.replicate (k - n) none) with
  | .rt d m => .ok (d, (m[0]?).join)
  | .stuck => .stuck) else .stuck
section
variable {P : Program} {w : World} {K : PySem.W.Frag} {mg : Str → Option Value} {base : Heap}
theorem def_fnL {x : Str} {st : Stmt} {f : Addr} {fd : FuncData} {N ps : List Str} {k n : Nat} {ex : String → Value} {g : SemB} (F : Fun K x x st f fd) (S : FnScope N ps (defScope st)) (hps : ps.length = n + 1)
    (hbody : ∀ (cdv : Value) (A : Around) (outer : List Env) (s : Shared) (H : Hp) (E : XK) (F0 H0 : Hp), Room k (A.deeper (envOfC x (defScope st) s.heap.objs.size f cdv)) → (A.deeper (envOfC x (defScope st) s.heap.objs.size f cdv)).guards = some [] →
      SB (cxOf (L2.CX P w) P w K mg base N x (defScope st) f cdv A outer s H E) ⟨ex, F0, H0⟩ (defBody st) g) :
    FnG P w K mg base (k + 1) f fd ps (spL K n (defL (n + 1) N.length g)) := by
  refine Fun.okG F S (fun vs H Q E h => ?_) (fun cdv A outer s H vs Q E hr hgd h => ?_)
  · obtain ⟨F0, a, xs, kv, ds, us, rfl, _, _, r, _, hl, _⟩ := h
    rw [hps, List.length_cons, ← r.length, hl]
  · obtain ⟨F0, a, xs, kv, ds, us, rfl, s0, P1, r, ht, hn, d, ys, hf, hd, q⟩ := h
    refine ⟨_, hbody cdv A outer s H E F0 (less1 H a) hr hgd, ?_⟩
    have hlv := r.length
    have all : ∀ (i : Nat) (x : D), ((lentD (some a) xs :: ds).map some ++ List.replicate (N.length - (n + 1)) none)[i]? = some (some x) → (lentD (some a) xs :: ds)[i]? = some x := fun i x e => by
      by_cases hi : i < (lentD (some a) xs :: ds).length
      · rw [List.getElem?_append_left (by simpa using hi)] at e
        rw [List.getElem?_map] at e
        cases z : (lentD (some a) xs :: ds)[i]? with
        | none => rw [z] at e; cases e
        | some y => rw [z] at e; cases e; rfl
      · rw [List.getElem?_append_right (by simpa using hi)] at e
        rw [List.getElem?_replicate] at e
        split at e <;> cases e
    have vat : ∀ (i : Nat) (v : V), (V.ref a :: us)[i]? = some v → (L2.start N (V.ref a :: us))[i]? = some (some v) := fun i v h1 => by
      unfold L2.start
      obtain ⟨h3, _⟩ := List.getElem?_eq_some_iff.mp h1
      rw [List.getElem?_append_left (by simpa using h3), List.getElem?_map, h1]
      rfl
    have own : ∀ (i : Nat) (x : D) (v : V) (z : Addr), (lentD (some a) xs :: ds)[i]? = some x → (L2.start N (V.ref a :: us))[i]? = some (some v) → Owns H x v z → i = 0 := fun i x v z e1 e2 o => by
      match i, e1 with
      | 0, e1 => rfl
      | i + 1, e1 => exact (o.of (hasTL_get ht e1)).elim
    refine ⟨F0, (lentD (some a) xs :: ds).map some ++ List.replicate (N.length - (n + 1)) none, ⟨?_, ⟨less1_same, Same.refl _, s0, fun _ _ e => .inl e⟩, fun i x e => ?_, fun i j x y v w z e1 e2 e3 e4 o1 o2 => ?_⟩, ?_⟩
    · unfold L2.start
      simp [hlv]
      omega
    · have e' := all i x e
      match i, e' with
      | 0, e' => cases e'; exact ⟨_, vat 0 _ rfl, .inr (.inr (.inr ⟨_, _, _, a, kv, rfl, P1⟩))⟩
      | i + 1, e' =>
        obtain ⟨v, h1, h2⟩ := r.get (i := i) e'
        exact ⟨v, vat (i + 1) v h1, .inr (.inl ⟨hasTL_get (i := i) ht e', Rp.base _ _ (hasTL_get (i := i) ht e') h2⟩)⟩
    · rw [own i x v z (all i x e1) e3 o1, own j y w z (all j y e2) e4 o2]
    · unfold defL at hf
      rw [if_pos (by simp [hn])] at hf
      cases hg : g ((lentD (some a) xs :: ds).map some ++ List.replicate (N.length - (n + 1)) none) with
      | stuck => rw [hg] at hf; cases hf
      | rt d' m' =>
        rw [hg] at hf
        simp only [CT.R.ok.injEq, Prod.mk.injEq] at hf
        obtain ⟨rfl, f1⟩ := hf
        have f1 := join_some f1
        intro σ' F' H' v R' PG hv _
        obtain ⟨v1, _, k1⟩ := R'.slot 0 _ f1
        obtain ⟨a', kw1, D1⟩ := k1.dct
        have ea := (D1.o a rfl).resolve_left (by first | decide | simp)
        subst ea
        have ev := D1.v
        subst ev
        exact q F' H' v kw1 R'.grow PG hv D1
end
end CT

namespace CT
open PySem PySem.Spec PyProof.Rows L2
def ofX {α : Type} (r : R (α × Sl)) (k : α → Sl → RS) : RS := match r with
  | .ok (a, m) => k a m
  | _ => .stuck
def sSetX (i : Nat) (f : SemX) : SemS := fun m => ofX (f m) fun d m1 => .nx (m1.set i (some d))
def sIfX (t : SemXT) (g h : SemS) : SemS := fun m => ofX (t m) fun c m1 => if c = true then g m1 else h m1
def sForX (h : SemXA) (g : SemG) (body : SemS) : SemS := fun m => ofX (h m) fun ds m1 => forGo g body ds m1
section
variable {X : Cx} {b : Bs} {W : WX} {st : Stmt} {rest A : List Stmt} {g h : SemS} {e c : Expr} {f : SemX} {tx : SemXT} {pos : Pos} {i : Nat} {x : Str} {px : Pos}
theorem seqSX {R' : V → Hp → Prop} {σ : L2.St} {H F : Hp} {k : D → Sl → RS} {D' : Ends} {m : Sl} (r : Rel X.K b F m σ H) (p : Sst X.K b W F H D' (ofX (f m) k))
    (q : ∀ d m1 F1 H1 v, Rel X.K b F1 m1 σ H1 → Prog F H F1 H1 → Rp X.K F1 b.H0 H1 d v → hasT d = false → Sst X.K b W F1 H1 D' (k d m1) → R' v H1) : tSX X.K b f σ H R' := by
  refine ⟨F, m, r, ?_⟩
  cases hf : f m with
  | stuck => rw [hf] at p; exact p.elim
  | exc c => rw [hf] at p; exact p.elim
  | ok d => rw [hf] at p; exact fun F1 H1 R1 G v hv hd => q d.1 d.2 F1 H1 v R1 G.p hv hd (Sst.prog G.p p)
theorem ss_setX (hN : X.N.Nodup) (hi : X.N[i]? = some x) (hx : Loc X.env.scope x) (hf : SX X b e f) (hfn : X.fn x = true ∨ X.env.scope.names.lookup x = some .local := by first | exact .inl rfl | exact .inr rfl)
    (hs : swapsWithSole [.Name x px] e pos.line X.env = pure false := by rfl) (hw : swappedStores [.Name x px] e X.env = pure none := by rfl) : SS X b W (.Assign [.Name x px] e pos) (sSetX i f) :=
  PS.weak (ps_asg hf (pg_name hN hi hx hfn) hs hw) fun D' σ H ⟨F, m, R, p⟩ => seqSX R p fun d m1 F1 H1 v R1 G hv hd q => q _ F1 H1 (R1.put hd hv) (Prog.refl _ _)
theorem ss_ifX {a d : List Stmt} (hc : SXT X b c tx) (ha : SSs X b W a g) (hb : SSs X b W d h) : SS X b W (.If c a d pos) (sIfX tx g h) :=
  PS.weak (ps_if hc ha hb) fun D' σ H ⟨F, m, R, p⟩ => by
    refine ⟨F, m, R, ?_⟩
    unfold sIfX at p
    cases ht : tx m with
    | stuck => rw [ht] at p; exact p.elim
    | exc c => rw [ht] at p; exact p.elim
    | ok c =>
      obtain ⟨c, m1⟩ := c
      rw [ht] at p
      refine fun F1 H1 R1 G => ?_
      cases c with
      | true => exact ⟨F1, m1, R1, Sst.prog G.p p⟩
      | false => exact ⟨F1, m1, R1, Sst.prog G.p p⟩
def tSIX (K : PySem.W.Frag) (b : Bs) (strict : Bool) (f : SemXA) : TI := fun σ H Rw => ∃ F m, Rel K b F m σ H ∧ Yst K b σ F H m (fun ds F' H' _ => ∀ J, Wk K b.H0 strict J F' H' ds → Rw J H') (f m)
abbrev SIX (X : Cx) (b : Bs) (strict : Bool) (tg e : Expr) (f : SemXA) : Prop := PI X tg e (tSIX X.K b strict f)
def xThen (h : SemXA) (k : List D → R (List D)) : SemXA := fun m => bindX (h m) fun xs m1 => match k xs with
  | .ok ys => .ok (ys, m1)
  | _ => .stuck
theorem six_rng1 {a tg : Expr} {h : SemXA} {strict : Bool} {p : Pos} (hg : Gl X "range") (hm : X.mg "range" = none) (ha : SXA X b [a] h) (hs : starEach [a] X.env = [(false, eval a X.env)] := by rfl) : SIX X b strict tg (.Call (.Name "range" p) [a] [] pos) (xThen h rng1) := by
  refine PI.weak (pi_range1 hg hm ha hs) fun σ H Rw ⟨F, m, R, p⟩ => ?_
  refine seqXA R p fun xs m1 F1 H1 vs R1 G1 hv n1 p1 => ?_
  unfold rng1 at p1
  split at p1
  · rename_i ys hy
    split at hy
    · obtain ⟨v, rfl, h⟩ := hv.one
      cases h
      split at hy
      · rename_i c
        cases hy
        exact ⟨_, rfl, c.1, c.2, p1 F1 H1 R1 (Step.refl _ _ _) _ wk_rng⟩
      · cases hy
    · cases hy
  · exact p1.elim
theorem ss_forX {tg : Expr} {h : SemXA} {t : TG} {gg : SemG} {vs : List Nat} {body : List Stmt} {k : SemS} (hp : PassesOwn (model X.prog X.w) X.A X.env X.xe) (hc : X.calm = true) (hi : SIX X b true tg e h) (hg : PG X tg t) (hn : NGok X.K t gg vs) (hb : SSs X b W body k) (hs : ∀ x, foldedSetIterable e X.env x = pure x := by intro _; rfl) :
    SS X b W (.For tg e body [] pos) (sForX h gg k) := by
  refine PS.weak (ps_for hp hc hi hg hb hs) fun D' σ H ⟨F, m, R, p⟩ => ?_
  refine ⟨F, m, R, ?_⟩
  unfold sForX at p
  cases hh : h m with
  | stuck => rw [hh] at p; exact p.elim
  | exc c => rw [hh] at p; exact p.elim
  | ok dm =>
    obtain ⟨ds, m0⟩ := dm
    rw [hh] at p
    simp only [ofX] at p
    refine fun F1 H1 R1 G J wk => ?_
    exact for_core (F := F1) hn R1 (Sst.prog G.p p) wk
end
end CT

namespace CT
open PySem PySem.Spec PyProof.Rows L2
def eLk (i k : Nat) : SemE := fun m => match m[i]? with
  | some (some (.dct q _ xs)) => if (q.l && q.n && q.o.isSome) = true then (match xs[k]? with
    | some d => .ok d
    | none => .stuck) else .stuck
  | _ => .stuck
def subLR (i k : Nat) : SemG := fun d m => if hasT d = true then .stuck else match m[i]? with
  | some (some (.dct q _ xs)) => if (q.l && q.n && q.o.isSome) = true then (if k < xs.length then .ok (m.set i (some (.dct q (noK (xs.set k d)) (xs.set k d)))) else .stuck) else .stuck
  | _ => .stuck
section
variable {X : Cx} {b : Bs} {W : WX} {e o : Expr} {pos : Pos} {i k j : Nat} {x : Str} {px npos spos : Pos}
theorem se_lk (ho : PE X o (tVar i)) : SE X b W (.Subscript o (.Constant (.int k) j npos) spos) (eLk i k) := by
  have hix : PE X (.Subscript o (.Constant (.int k) j npos) spos) _ := pe_ix ix_seq ho pe_int (fun _ _ => rfl)
  refine PE.weak hix fun σ H Q ⟨F, m, R, p⟩ => ?_
  unfold eLk at p
  split at p
  rotate_left
  · exact p.elim
  rename_i q ks xs hq
  split at p
  rotate_left
  · exact p.elim
  rename_i hln
  have hl1 : q.l = true := by cases a : q.l <;> simp_all
  have hn1 : q.n = true := by cases a : q.n <;> simp_all
  have ho1 : q.o.isSome = true := by cases a : q.o <;> simp_all
  split at p
  rotate_left
  · exact p.elim
  rename_i d hd
  obtain ⟨a, kv, s1, P⟩ := dct_slot R hq
  have al := P.lst hl1 hn1 ho1
  obtain ⟨v, k1, k2⟩ := P.x.get hd
  exact ⟨.ref a, s1, .inl ⟨a, _, (k : Int), v, rfl, rfl, .inl (.inl al), atI_nat k1, p.here R.sub v k2⟩⟩
theorem tg_subL {f : SemE} (hf : ∀ m, f m = .ok (.int (k : Int))) : TGok X b (gSub (tVar i) (tSE X.K b W f) rSetL) (subLR i k) := fun F m σ H d v m' Q R n hv e q => by
  unfold subLR at e
  split at e
  · cases e
  split at e
  rotate_left
  · cases e
  rename_i qt ks xs hq
  split at e
  rotate_left
  · cases e
  rename_i hln
  have hl1 : qt.l = true := by cases a : qt.l <;> simp_all
  have hn1 : qt.n = true := by cases a : qt.n <;> simp_all
  have ho1 : qt.o.isSome = true := by cases a : qt.o <;> simp_all
  split at e
  rotate_left
  · cases e
  rename_i hkl
  cases e
  obtain ⟨a, kv, s1, P⟩ := dct_slot R hq
  have al := P.lst hl1 hn1 ho1
  refine ⟨.ref a, s1, F, m, R, ?_⟩
  rw [hf]
  refine fun F1 H1 G u hu => ?_
  cases hu
  have R1 := R.step G
  have al1 := G.same _ _ al
  have x1 := P.x.grow G
  have fa1 := grow_free G al P.fa
  have x2 := RpL.set (hv.grow G) k x1
  have hT : hasTL (xs.set k d) = false := hasTL_set n k P.nx
  have keep : ∀ c o, H1 c = some o → NoL o → (upd H1 a (.lst ((kv.map (·.2)).set k v))) c = some o := fun c o hc ho => by
    rw [upd_ne (fun z => by subst z; rw [al1] at hc; cases hc; exact False.elim ho)]; exact hc
  have hidx : ixN (kv.map (·.2)).length (k : Int) = some k := by
    have hl := x1.length
    unfold ixN
    rw [if_pos (by omega), if_pos (by omega)]
    simp
  refine ⟨a, _, (k : Int), k, rfl, rfl, al1, hidx, q σ F1 _ (R1.chgW hq s1 (.inr (.inl ⟨_, _, _, rfl, rfl⟩)) al1 (fun z => z) fa1 P.ha ?_ fun c o => ?_) (G.prog.trans (chg_prog al1))⟩
  · exact .inr (.inr (.inr ⟨qt, _, _, a, mkKv ((kv.map (·.2)).set k v), rfl, rfl, P.o, ⟨_, upd_same, by unfold DU; rw [if_pos hn1, if_pos hl1, if_pos ho1, mkKv_v]⟩, fa1, P.ha, mkKv_k x2.length, by rw [mkKv_v]; exact RpL.keep keep _ _ hT x2, hT⟩))
  · exact .inr (.inl ⟨_, _, _, rfl, o.dct⟩)
end
end CT

namespace CT
open PySem PySem.Spec PyProof.Rows L2
def lcX (i : Nat) (t : SemXT) (f : SemX) : List D → SemXA
  | [], m => .ok ([], m)
  | d :: ds, m => if hasT d = true then .stuck else bindX (t (m.set i (some d))) fun c m2 => if c = true then bindX (f m2) fun x m3 => bindX (lcX i t f ds (m3.set i none)) fun r m4 => .ok (x :: r, m4) else lcX i t f ds (m2.set i none)
def aLcX (h : SemXA) (i : Nat) (t : SemXT) (f : SemX) : SemXA := fun m => bindX (h m) fun ds m1 => bindX (lcX i t f ds (m1.set i none)) fun r m2 => if r.length ≤ sizeLine then .ok (r, m2) else .stuck
def xtYes : SemXT := fun m => .ok (true, m)
def tSOX (K : PySem.W.Frag) (b : Bs) (f : SemXA) : TE := fun σ H Q => ∃ F m, Rel K b F m σ H ∧ match f m with
  | .ok (ds, m') => ∀ F' H' a xs, Rel K b F' m' σ H' → Step σ F H m F' H' m' → (H a = none ∨ Owned σ m H a) → ¬ Owned σ m' H' a → F' a = none → H' a = some (.lst xs) → RpL K F' b.H0 H' ds xs → hasTL ds = false → Q (.ref a) H'
  | _ => False
abbrev SOX (X : Cx) (b : Bs) (e : Expr) (f : SemXA) : Prop := PE X e (tSOX X.K b f)
def xOwn (f : SemXA) : SemX := fun m => match f m with
  | .ok (ds, m') => .ok (.lst false ds, m')
  | _ => .stuck
section
variable {K : PySem.W.Frag} {b : Bs} {F F1 H H1 : Hp} {m m1 : Sl} {σ : L2.St} {i : Nat} {a : Addr}
theorem Rel.addF {xs : List V} (r : Rel K b F m σ H) (h1 : H a = some (.lst xs)) (h2 : F a = none) (h3 : b.H0 a = none) (no : ¬ Owned σ m H a) : Same F (upd F a (.lst xs)) ∧ Rel K b (upd F a (.lst xs)) m σ H := by
  have sF : Same F (upd F a (.lst xs)) := same_upd h2
  have sH : Same (upd F a (.lst xs)) H := fun c o hc => by
    by_cases hb : c = a
    · subst hb; rw [upd_same] at hc; rw [h1]; exact hc
    · rw [upd_ne hb] at hc; exact r.sub _ _ hc
  refine ⟨sF, r.len, ⟨r.grow.same, r.grow.sub.trans sF, sH, fun c o hc => ?_⟩, fun j d q => ?_, r.apart⟩
  · by_cases hb : c = a
    · subst hb; exact .inr h3
    · rw [upd_ne hb] at hc; exact r.grow.new _ _ hc
  · obtain ⟨v, k1, k2⟩ := r.slot j d q
    refine ⟨v, k1, ?_⟩
    have hn : ∀ c, Owns H d v c → c ≠ a := fun c o z => by subst z; exact no ⟨j, d, v, q, k1, o⟩
    rcases k2.ow with ⟨as, z, n⟩ | ⟨qq, ks, ds', c, kvs, rfl, pp⟩
    · exact .of (Ow.keep (fun _ _ z _ => z) sF sH _ _ _ z (fun _ _ _ z => z) fun c hc => by rw [upd_ne (hn c ((Owns.iff z).mpr hc))]; exact (Ow.mem _ _ _ z hc).2.2.1) n
    · have hc := hn c (.inr (.inl ⟨_, _, _, rfl, pp.v⟩))
      exact .inr (.inr (.inr ⟨qq, ks, ds', c, kvs, rfl, pp.v, pp.o, pp.al, by rw [upd_ne hc]; exact pp.fa, pp.ha, pp.k, pp.x.mono sF (Same.refl _), pp.nx⟩))
theorem Rel.unset (r : Rel K b F (m.set i none) (σ.set i none) H) : Rel K b F (m.set i none) σ H := by
  have ne : ∀ {j : Nat} {d : D}, (m.set i none)[j]? = some (some d) → j ≠ i := fun {j d} h z => by
    subst z
    by_cases hl : j < m.length
    · rw [List.getElem?_set_self hl] at h; cases h
    · rw [List.getElem?_eq_none (by simpa using hl)] at h; cases h
  refine ⟨by have := r.len; simpa using this, r.grow, fun j d q => ?_, fun p q x y v w c e1 e2 e3 e4 => ?_⟩
  · obtain ⟨v, k1, k2⟩ := r.slot j d q
    exact ⟨v, by rw [List.getElem?_set_ne (Ne.symm (ne q))] at k1; exact k1, k2⟩
  · exact r.apart p q x y v w c e1 e2 (by rw [List.getElem?_set_ne (Ne.symm (ne e1))]; exact e3) (by rw [List.getElem?_set_ne (Ne.symm (ne e2))]; exact e4)
theorem Owned.off {x : Option V} {d : D} (n : hasT d = false) {c : Addr} (o : Owned (σ.set i x) (m.set i (some d)) H c) : Owned σ (m.set i none) H c := by
  obtain ⟨j, e, v, h1, h2, h3⟩ := o
  by_cases hj : j = i
  · subst hj
    rcases set_some h1 with ⟨_, _, rfl⟩ | ⟨z, _⟩
    · exact (h3.of n).elim
    · exact absurd rfl z
  · rw [List.getElem?_set_ne (Ne.symm hj)] at h1 h2
    exact ⟨j, e, v, by rw [List.getElem?_set_ne (Ne.symm hj)]; exact h1, h2, h3⟩
theorem Owned.on {x : Option V} {c : Addr} (o : Owned σ (m.set i none) H c) : Owned (σ.set i x) m H c := by
  obtain ⟨j, e, v, h1, h2, h3⟩ := o
  have hj : j ≠ i := fun z => by
    subst z
    by_cases hl : j < m.length
    · rw [List.getElem?_set_self hl] at h1; cases h1
    · rw [List.getElem?_eq_none (by simpa using hl)] at h1; cases h1
  rw [List.getElem?_set_ne (Ne.symm hj)] at h1
  exact ⟨j, e, v, h1, by rw [List.getElem?_set_ne (Ne.symm hj)]; exact h2, h3⟩
theorem Step.off {x : Option V} {d : D} (n : hasT d = false) (s : Step (σ.set i x) F H (m.set i (some d)) F1 H1 m1) : Step σ F H (m.set i none) F1 H1 (m1.set i none) :=
  ⟨s.p, fun c o h no => s.fr c o h fun z => no (z.off n), fun c o => (s.ow c o.on).imp (fun z => z.off n) id, fun c o h => (s.nw c o h).imp id fun z => z.imp id fun z => z.off n, fun c z => (s.ex c z).imp id fun y => y.off n⟩
theorem Step.drop0 (R : Rel K b F m σ H) : Step σ F H m F H (m.set i none) := ⟨Prog.refl _ _, fun _ _ h _ => h, fun c ⟨j, e, v, h1, h2, h3⟩ => by
  have hj : j ≠ i := fun z => by
    subst z
    by_cases hl : j < m.length
    · rw [List.getElem?_set_self hl] at h1; cases h1
    · rw [List.getElem?_eq_none (by simpa using hl)] at h1; cases h1
  rw [List.getElem?_set_ne (Ne.symm hj)] at h1
  exact .inl ⟨j, e, v, h1, h2, h3⟩, fun _ _ h => .inl h, fun _ h => .inl h⟩
end
section
variable {X : Cx} {b : Bs} {W : WX} {e : Expr} {f : SemXA}
theorem sx_own (h : SOX X b e f) : SX X b e (xOwn f) := PE.weak h fun σ H Q ⟨F, m, R, p⟩ => by
  refine ⟨F, m, R, ?_⟩
  unfold xOwn at p
  cases hm : f m with
  | stuck => rw [hm] at p; exact p.elim
  | exc c => rw [hm] at p; exact p.elim
  | ok d =>
    obtain ⟨ds, m'⟩ := d
    rw [hm] at p
    intro F' H' a xs R' S h0 no h1 h2 hv hn
    obtain ⟨sF, R2⟩ := R'.addF h2 h1 (R.fresh h0) no
    have S2 : Step σ F H m (upd F' a (.lst xs)) H' m' := ⟨⟨S.p.sub.trans sF, S.p.tups⟩, S.fr, S.ow, fun c o z => by
      by_cases hc : c = a
      · subst hc; exact .inr h0
      · rw [upd_ne hc] at z; exact S.nw c o z, S.ex⟩
    exact p _ H' R2 S2 _ (.lst upd_same (hv.mono sF (Same.refl _))) (by simp [hasT, hn])
end
end CT

namespace CT
open PySem PySem.Spec PyProof.Rows L2
section
variable {K : PySem.W.Frag} {b : Bs} {F H : Hp} {m : Sl} {σ : L2.St}
theorem bindX_ok {α β : Type} {r : R (α × Sl)} {k : α → Sl → R (β × Sl)} {z : β × Sl} (h : bindX r k = .ok z) : ∃ a m1, r = .ok (a, m1) ∧ k a m1 = .ok z := by
  cases r with
  | ok a => exact ⟨a.1, a.2, rfl, h⟩
  | exc c => cases h
  | stuck => cases h
theorem lcX_ok {i : Nat} {wi : TI} {tt : TT} {te : TE} {t : SemXT} {f : SemX} {h : SemXA} {Q : VK} {res : List D} {m' : Sl}
    (hi : ∀ σ H Rw, tSIX K b true h σ H Rw → wi σ H Rw) (ht : ∀ σ H Q, tSXT K b t σ H Q → tt σ H Q) (he : ∀ σ H Q, tSX K b f σ H Q → te σ H Q)
    (r : Rel K b F m σ H) (hm : aLcX h i t f m = .ok (res, m'))
    (p : ∀ F' H' a xs, Rel K b F' m' σ H' → Step σ F H m F' H' m' → (H a = none ∨ Owned σ m H a) → ¬ Owned σ m' H' a → F' a = none → H' a = some (.lst xs) → RpL K F' b.H0 H' res xs → hasTL res = false → Q (.ref a) H') : tLc wi (gName i) tt te [i] σ H Q := by
  unfold aLcX at hm
  obtain ⟨ds, m0, hh, hm⟩ := bindX_ok hm
  obtain ⟨res', m2, hl, hm⟩ := bindX_ok hm
  split at hm
  rotate_left
  · cases hm
  rename_i hsz
  cases hm
  refine hi _ _ _ ⟨F, m, r, ?_⟩
  rw [hh]
  intro F1 H1 R1 S1 J wk D hD
  have f1 : F1 D = none := R1.sub.free hD
  have d0 : b.H0 D = none := R1.grow.same.free hD
  have GA : Grow F1 H1 F1 (upd H1 D (.lst [])) := Grow.loose R1.sub hD
  have RA := R1.step GA
  have R0 : Rel K b F1 (m0.set i none) σ (upd H1 D (.lst [])) := by
    have := RA.drop (i := i)
    exact this.unset
  have SA : Step σ F1 H1 m0 F1 (upd H1 D (.lst [])) (m0.set i none) := (R1.stepG GA).trans (Step.drop0 RA)
  have no0 : ¬ Owned σ (m0.set i none) (upd H1 D (.lst [])) D := fun z => by
    obtain ⟨j, e, v, q1, q2, q3⟩ := z
    have hj : j ≠ i := fun z => by
      subst z
      by_cases hl : j < m0.length
      · rw [List.getElem?_set_self hl] at q1; cases q1
      · rw [List.getElem?_eq_none (by simpa using hl)] at q1; cases q1
    rw [List.getElem?_set_ne (Ne.symm hj)] at q1
    obtain ⟨w', z1, z2⟩ := R1.slot j e q1
    rw [q2] at z1; cases z1
    obtain ⟨u, hu, _⟩ := Owns.here z2 (q3.backS R1.sub GA.same z2)
    rw [hD] at hu; cases hu
  refine ⟨fun j n H' => n = ds.length - j ∧ j ≤ ds.length ∧ ∃ F' mj acc vacc rest, Rel K b F' mj σ H' ∧ mj.set i none = mj ∧ Step σ F1 H1 m0 F' H' mj ∧ F' D = none ∧ H' D = some (.lst vacc) ∧ ¬ Owned σ mj H' D ∧ RpL K F' b.H0 H' acc vacc ∧ hasTL acc = false ∧ lcX i t f (ds.drop j) mj = .ok (rest, m') ∧ acc ++ rest = res,
    ⟨_, rfl, Nat.zero_le _, F1, _, [], [], res, R0, by rw [List.set_set], SA, f1, upd_same, no0, .nil, rfl, by rw [List.drop_zero]; exact hl, rfl⟩, ?_⟩
  rintro j n H' ⟨rfl, hj', F', mj, acc, vacc, rest, R', hmj, S', e1, e2, no', e3, e4, e5, e6⟩
  have PP : Prog F1 H1 F' H' := S'.p
  have l : Ltr true F1 H1 F' H' := ⟨PP.sub, R'.sub, PP.tups, fun z => by cases z⟩
  by_cases hlt : j < ds.length
  · refine .inr ⟨wk.go j F' H' l hlt, fun H2 => (j + 1 ≤ ds.length ∧ ∃ F' mj acc vacc rest, Rel K b F' mj σ H2 ∧ mj.set i none = mj ∧ Step σ F1 H1 m0 F' H2 mj ∧ F' D = none ∧ H2 D = some (.lst vacc) ∧ ¬ Owned σ mj H2 D ∧ RpL K F' b.H0 H2 acc vacc ∧ hasTL acc = false ∧ lcX i t f (ds.drop (j + 1)) mj = .ok (rest, m') ∧ acc ++ rest = res),
      fun H2 z => ⟨ds.length - (j + 1), by omega, rfl, z⟩, fun x H2 y => ?_⟩
    obtain ⟨F2, d, G2, k2, r2⟩ := wk.yld j F' H' x H2 l hlt y
    have hd : ds.drop j = d :: ds.drop (j + 1) := by
      obtain ⟨h1, h2⟩ := List.getElem?_eq_some_iff.mp k2
      rw [← h2]
      exact List.drop_eq_getElem_cons h1
    rw [hd] at e5
    simp only [lcX] at e5
    split at e5
    · cases e5
    rename_i hdT
    have hdT : hasT d = false := by simpa using hdT
    obtain ⟨c', m2, ht', e5⟩ := bindX_ok e5
    have R2 := R'.step G2
    have S2 : Step σ F1 H1 m0 F2 H2 mj := S'.trans (R'.stepG G2)
    have hD2 : H2 D = some (.lst vacc) := G2.same _ _ e2
    have fD2 : F2 D = none := grow_free G2 e2 e1
    have no2 : ¬ Owned σ mj H2 D := fun z => by
      rcases (R'.stepG G2).ow D z with z | z
      · exact no' z
      · rw [e2] at z; cases z
    have R2w : Rel K b F2 (mj.set i (some d)) ((σ.set i none).set i (some x)) H2 := by
      have := (R2.drop (i := i)).put (i := i) hdT r2
      rw [List.set_set] at this
      exact this
    refine ⟨by show ((σ.set i none).set i (some x)).set i none = σ.set i none; rw [List.set_set, List.set_set], ht _ _ _ ⟨F2, _, R2w, ?_⟩⟩
    rw [ht']
    intro F3 H3 R3 S3
    have R3 : Rel K b F3 m2 ((σ.set i none).set i (some x)) H3 := R3
    have S3 : Step ((σ.set i none).set i (some x)) F2 H2 (mj.set i (some d)) F3 H3 m2 := S3
    have S3' : Step σ F2 H2 mj F3 H3 (m2.set i none) := by
      have := S3
      rw [List.set_set] at this
      have := this.off hdT
      rw [hmj] at this
      exact this
    have hD3 : H3 D = some (.lst vacc) := S3'.fr _ _ hD2 no2
    have fD3 : F3 D = none := by
      cases q : F3 D with
      | none => rfl
      | some o =>
        rcases S3'.nw D o q with z | z | z
        · rw [fD2] at z; cases z
        · rw [hD2] at z; cases z
        · exact absurd z no2
    have no3 : ¬ Owned σ (m2.set i none) H3 D := fun z => by
      rcases S3'.ow D z with z | z
      · exact no2 z
      · rw [hD2] at z; cases z
    have R3' : Rel K b F3 (m2.set i none) σ H3 := by
      have := R3.drop (i := i)
      rw [List.set_set, List.set_set] at this
      exact this.unset
    have acc3 : RpL K F3 b.H0 H3 acc vacc := (e3.grow G2).prog S3'.p e4
    cases c' with
    | false =>
      simp only [Bool.false_eq_true, if_false] at e5 ⊢
      exact ⟨hlt, F3, _, acc, vacc, rest, R3', by rw [List.set_set], S2.trans S3', fD3, hD3, no3, acc3, e4, e5, e6⟩
    | true =>
      simp only [if_true] at e5 ⊢
      obtain ⟨z, m3, hf', e5⟩ := bindX_ok e5
      obtain ⟨rest', m4, hr', e5⟩ := bindX_ok e5
      cases e5
      refine he _ _ _ ⟨F3, m2, R3, ?_⟩
      rw [hf']
      intro F4 H4 R4 S4 v4 r4 hz
      have R4 : Rel K b F4 m3 ((σ.set i none).set i (some x)) H4 := R4
      have S4 : Step ((σ.set i none).set i (some x)) F3 H3 m2 F4 H4 m3 := S4
      have S34' : Step σ F2 H2 mj F4 H4 (m3.set i none) := by
        have := S3.trans S4
        rw [List.set_set] at this
        have := this.off hdT
        rw [hmj] at this
        exact this
      have hD4 : H4 D = some (.lst vacc) := S34'.fr _ _ hD2 no2
      have fD4 : F4 D = none := by
        cases q : F4 D with
        | none => rfl
        | some o =>
          rcases S34'.nw D o q with z | z | z
          · rw [fD2] at z; cases z
          · rw [hD2] at z; cases z
          · exact absurd z no2
      have no4 : ¬ Owned σ (m3.set i none) H4 D := fun z => by
        rcases S34'.ow D z with z | z
        · exact no2 z
        · rw [hD2] at z; cases z
      have R4' : Rel K b F4 (m3.set i none) σ H4 := by
        have := R4.drop (i := i)
        rw [List.set_set, List.set_set] at this
        exact this.unset
      have acc4 : RpL K F4 b.H0 H4 acc vacc := (e3.grow G2).prog S34'.p e4
      have hlen := e3.length
      have hres : acc.length < sizeLine := by
        rw [← e6, List.length_append, List.length_cons] at hsz
        omega
      have keep : ∀ c o, H4 c = some o → NoL o → (upd H4 D (.lst (vacc ++ [v4]))) c = some o := fun c o hc ho => by
        rw [upd_ne (fun q => by subst q; rw [hD4] at hc; cases hc; exact False.elim ho)]; exact hc
      have d0' : b.H0 D = none := d0
      -- the list under way grows
      have R5 : Rel K b F4 (m3.set i none) σ (upd H4 D (.lst (vacc ++ [v4]))) := R4'.tmp hD4 fD4 d0' fun j e v q1 q2 o => no4 ⟨j, e, v, q1, q2, o⟩
      have back5 : ∀ c, Owned σ (m3.set i none) (upd H4 D (.lst (vacc ++ [v4]))) c → Owned σ (m3.set i none) H4 c := fun c ⟨j, e, v, q1, q2, q3⟩ => by
        obtain ⟨w, k1, k2⟩ := R4'.slot j e q1
        rw [q2] at k1; cases k1
        exact ⟨j, e, v, q1, q2, q3.back (fun b xs e => keep _ _ e trivial) (fun b xs e => by rw [upd_ne (fun y => by subst y; rw [fD4] at e; cases e)]; exact R4'.sub _ _ e) (fun c xs o' z => by rw [upd_ne (fun y => by subst y; exact no4 ⟨j, _, v, q1, q2, o'⟩)]; exact z) k2⟩
      have S24 := S2.trans S34'
      refine ⟨vacc, hD4, by rw [← hlen]; exact hres, hlt, F4, _, acc ++ [z], vacc ++ [v4], rest', R5, by rw [List.set_set], ?_, fD4, upd_same, fun z => no4 (back5 D z), ?_, ?_, hr', ?_⟩
      · exact ⟨⟨S24.p.sub, fun c o hc ho => keep c o (S24.p.tups c o hc ho) ho⟩, fun c o hc hno => by
          rw [upd_ne (fun z => by subst z; rw [hD] at hc; cases hc)]; exact S24.fr c o hc hno, fun c hc => S24.ow c (back5 c hc), S24.nw, fun c hc => by
          by_cases q : c = D
          · subst q; exact .inl hD
          · rw [upd_ne q] at hc; exact S24.ex c hc⟩
      · exact (RpL.keep keep acc vacc e4 acc4).app (.cons (Rp.keep keep z v4 hz r4) .nil)
      · rw [hasTL_append, e4, hasTL, hz]; rfl
      · rw [← e6, List.append_assoc]; rfl
  · have e : j = ds.length := by omega
    subst e
    rw [List.drop_length] at e5
    cases e5
    rw [List.append_nil] at e6
    subst e6
    refine .inl ⟨wk.stop F' H' l, p F' H' D vacc R' (S1.trans S') ?_ no' e1 e2 e3 e4⟩
    exact S1.ex D hD
end
end CT

namespace CT
open PySem PySem.Spec PyProof.Rows L2
abbrev STXs (X : Cx) (b : Bs) (es : List Expr) (f : SemXT) : Prop := PTs X es (tSXT X.K b f)
def xiOf (h : SemA) : SemXA := fun m => match h m with
  | .ok ds => .ok (ds, m)
  | _ => .stuck
section
variable {X : Cx} {b : Bs} {W : WX} {elt tg iter e : Expr} {es ifs : List Expr} {scope : Scope} {own : List (Str × Nat)} {pos spos : Pos} {t : SemXT} {f : SemX} {h : SemXA} {i : Nat}
theorem stxs_nil : STXs X b [] xtYes := PTs.weak pts_nil fun σ H Q ⟨F, m, R, p⟩ => p F H R (Step.refl _ _ _)
theorem six_of {h : SemA} {strict : Bool} (hi : SI X b W strict tg iter h) : SIX X b strict tg iter (xiOf h) := PI.weak hi fun σ H Rw ⟨F, m, R, p⟩ => by
  refine ⟨F, m, R, ?_⟩
  unfold xiOf at p
  cases hm : h m with
  | stuck => rw [hm] at p; exact p.elim
  | exc c => rw [hm] at p; exact p.elim
  | ok ds => rw [hm] at p; exact fun F' H' G J wk => p F' H' (R.step G) (R.stepG G) J wk
theorem sox_lc (hc : X.calm = true) (hN : X.N.Nodup) (hi : SIX X b true tg iter h) (ok : BlkOk X.N X.env.scope scope own)
    (hg : ∀ (s : Shared) (H : Hp) (C : Addr) (cl : List (Str × Addr)) (fp : List Addr), PG (X.blk s H scope (compEnvC scope cl C X.env) fp) tg (gName i)) (ht : ∀ (s : Shared) (H : Hp) (C : Addr) (cl : List (Str × Addr)) (fp : List Addr), STXs (X.blk s H scope (compEnvC scope cl C X.env) fp) b ifs t)
    (he : ∀ (s : Shared) (H : Hp) (C : Addr) (cl : List (Str × Addr)) (fp : List Addr), SX (X.blk s H scope (compEnvC scope cl C X.env) fp) b elt f) (hs : ∀ x, foldedSetIterable iter X.env x = pure x := by intro _; rfl) (hv : own.map (·.2) = [i] := by rfl) :
    SOX X b (.ListComp elt [⟨tg, iter, ifs, 0⟩] scope pos) (aLcX h i t f) := by
  have z := pe_lc (pos := pos) (tt := tSXT X.K b t) (te := tSX X.K b f) (wi := tSIX X.K b true h) hc hN hi ok hg ht he hs
  rw [hv] at z
  refine PE.weak z fun σ H Q ⟨F, m, R, p⟩ => ?_
  cases hm : aLcX h i t f m with
  | stuck => rw [hm] at p; exact p.elim
  | exc c => rw [hm] at p; exact p.elim
  | ok r =>
    obtain ⟨ds, m'⟩ := r
    rw [hm] at p
    exact lcX_ok (fun _ _ _ z => z) (fun _ _ _ z => z) (fun _ _ _ z => z) R hm p
variable {j : Nat} {y : Str} {py : Pos}
theorem ss_setLcX (hc : X.calm = true) (hN : X.N.Nodup) (hy : X.N[j]? = some y) (hyl : X.env.scope.names.lookup y = some .local) (hsw : swapsWith (.ListComp elt [⟨tg, iter, ifs, 0⟩] scope pos) (some (.Name y py)) spos.line X.env = pure true)
    (hi : SIX X b true tg iter h) (ok : BlkOk X.N X.env.scope scope own)
    (hg : ∀ (s : Shared) (H : Hp) (C : Addr) (cl : List (Str × Addr)) (fp : List Addr), PG (X.blk s H scope (compEnvC scope cl C X.env) fp) tg (gName i)) (ht : ∀ (s : Shared) (H : Hp) (C : Addr) (cl : List (Str × Addr)) (fp : List Addr), STXs (X.blk s H scope (compEnvC scope cl C X.env) fp) b ifs t)
    (he : ∀ (s : Shared) (H : Hp) (C : Addr) (cl : List (Str × Addr)) (fp : List Addr), SX (X.blk s H scope (compEnvC scope cl C X.env) fp) b elt f) (hs : ∀ x, foldedSetIterable iter X.env x = pure x := by intro _; rfl) (hv : own.map (·.2) = [i] := by rfl) :
    SS X b W (.Assign [.Name y py] (.ListComp elt [⟨tg, iter, ifs, 0⟩] scope pos) spos) (sSetX j (xOwn (aLcX h i t f))) := by
  have z := ps_setLc (pos := pos) (spos := spos) (py := py) (tt := tSXT X.K b t) (te := tSX X.K b f) (wi := tSIX X.K b true h) hc hN hy hyl hsw hi ok hg ht he hs
  rw [hv] at z
  refine PS.weak z fun D' σ H ⟨F, m, R, p⟩ => ?_
  unfold sSetX xOwn at p
  cases hm : aLcX h i t f m with
  | stuck => rw [hm] at p; exact p.elim
  | exc c => rw [hm] at p; exact p.elim
  | ok r =>
    obtain ⟨ds, m'⟩ := r
    rw [hm] at p
    refine lcX_ok (Q := fun x H1 => gName j x σ H1 D'.nx) (fun _ _ _ z => z) (fun _ _ _ z => z) (fun _ _ _ z => z) R hm fun F' H' a xs R' S h0 no h1 h2 hv hn => ?_
    obtain ⟨sF, R2⟩ := R'.addF h2 h1 (R.fresh h0) no
    exact p _ _ H' (R2.put (by simp [hasT, hn]) (.lst upd_same (hv.mono sF (Same.refl _)))) ⟨S.p.sub.trans sF, S.p.tups⟩
end
end CT

namespace CT
open PySem PySem.Spec PyProof.Rows L2
section
variable {X : Cx} {b : Bs} {W : WX} {a c : Expr} {f g : SemX} {pos : Pos}
theorem sxt_cmp {o : CmpOp} {op : D → D → R D} (ho : Op2 X b WF (compareOp o) op) (hf : SX X b a f) (hg : SX X b c g) (hm : behindInMarks o c = false) : SXT X b (.Compare a [o] [c] pos) (xtOf (x2 op f g)) := by
  obtain ⟨r, h1, h2⟩ := ho
  refine PT.weak (pt_cmpR h1 hf hg hm) fun σ H Q ⟨F, m, R, p⟩ => ?_
  have p' : Yst X.K b σ F H m (fun c _ H' _ => Q c H') (bindX (f m) fun x m1 => bindX (g m1) fun y m2 => match op x y with
      | .ok (.bl c) => .ok (c, m2)
      | _ => .stuck) := by
    unfold xtOf x2 at p
    cases hf : f m with
    | stuck => rw [hf] at p; exact p
    | exc c => rw [hf] at p; exact p
    | ok x =>
      obtain ⟨x, m1⟩ := x
      rw [hf] at p
      simp only [bindX] at p ⊢
      cases hg : g m1 with
      | stuck => rw [hg] at p; exact p
      | exc c => rw [hg] at p; exact p
      | ok y =>
        obtain ⟨y, m2⟩ := y
        rw [hg] at p
        simp only at p ⊢
        cases ho : op x y with
        | stuck => rw [ho] at p; exact p
        | exc c => rw [ho] at p; exact p
        | ok d =>
          rw [ho] at p
          simp only [okX] at p
          cases hd : hasT d with
          | true => rw [hd] at p; exact False.elim p
          | false =>
            rw [hd] at p
            cases d <;> first | exact p | exact False.elim p
  refine seqX R p' fun x m1 F1 H1 v R1 G1 hv n1 p1 => seqX R1 p1 fun y m2 F2 H2 u R2 G2 hu n2 p2 => h2 σ F2 H2 _ x y v u R2.sub (hv.prog G2.p n1) hu ?_
  cases ho : op x y with
  | stuck => rw [ho] at p2; exact p2.elim
  | exc c => rw [ho] at p2; exact p2.elim
  | ok d =>
    rw [ho] at p2
    cases d <;> first | exact p2.elim | skip
    rename_i c
    intro F3 H3 G3 w hw
    cases hw
    exact ⟨c, rfl, p2 F3 H3 (R2.step G3) (R2.stepG G3)⟩
end
def xtNot (t : SemXT) : SemXT := fun m => bindX (t m) fun c m1 => .ok (!c, m1)
section
variable {X : Cx} {b : Bs} {W : WX} {e a c : Expr} {f g : SemX} {t u : SemXT} {pos : Pos}
theorem seqXT {R' : Bool → Hp → Prop} {σ : L2.St} {H : Hp} {α : Type} {k : Bool → Sl → R (α × Sl)} {C : α → Hp → Hp → Sl → Prop} {F : Hp} {m : Sl} (r : Rel X.K b F m σ H) (p : Yst X.K b σ F H m C (bindX (t m) k))
    (q : ∀ x m1 F1 H1, Rel X.K b F1 m1 σ H1 → Step σ F H m F1 H1 m1 → Yst X.K b σ F1 H1 m1 C (k x m1) → R' x H1) : tSXT X.K b t σ H R' := by
  refine ⟨F, m, r, ?_⟩
  cases hf : t m with
  | stuck => rw [hf] at p; exact p.elim
  | exc c => rw [hf] at p; exact p.elim
  | ok d =>
    rw [hf] at p
    exact fun F1 H1 R1 G => q d.1 d.2 F1 H1 R1 G (Yst.step G p)
theorem sxt_not (h : SXT X b a t) : SXT X b (.UnaryOp .Not a pos) (xtNot t) := by
  refine PT.weak (L2.pt_not h) fun σ H Q ⟨F, m, R, p⟩ => ?_
  exact seqXT R p fun x m1 F1 H1 R1 G q => q F1 H1 R1 (Step.refl _ _ _)
end
theorem xaNil_len : ∀ (m : Sl) xs m1, xaNil m = .ok (xs, m1) → xs.length = 0 := fun m xs m1 h => by cases h; rfl
theorem xaCons_len {f : SemX} {g : SemXA} {n : Nat} (hg : ∀ m xs m1, g m = .ok (xs, m1) → xs.length = n) : ∀ m xs m1, xaCons f g m = .ok (xs, m1) → xs.length = n + 1 := fun m xs m1 h => by
  unfold xaCons at h
  obtain ⟨x, m2, _, h⟩ := bindX_ok h
  obtain ⟨ys, m3, h2, h⟩ := bindX_ok h
  cases h
  rw [List.length_cons, hg m2 ys m1 h2]
end CT

namespace CT
open PySem PySem.Spec PyProof.Rows L2
end CT

namespace CT
open PySem PySem.Spec PyProof.Rows L2
open Classical in
noncomputable def sNewL (i : Nat) (h : SemA) (g : SemS) : SemS := fun m => ofR m (h m) fun ds => if hasTL ds = true then .stuck else
  if ∀ a : Addr, ∃ m', g (m.set i (some (lentD (some a) ds))) = .nx m' ∧ m'.length = m.length then .nx (List.replicate m.length none) else .stuck
theorem Rel.forgetAll {K : PySem.W.Frag} {b : Bs} {F H : Hp} {m : Sl} {σ : L2.St} (r : Rel K b F m σ H) {n : Nat} (hn : m.length = n) : Rel K b F (List.replicate n none) σ H := by
  have no : ∀ {j : Nat} {d : D}, (List.replicate n (none : Option D))[j]? = some (some d) → False := fun {j d} h => by
    rw [List.getElem?_replicate] at h
    split at h <;> cases h
  exact ⟨by rw [List.length_replicate, ← hn]; exact r.len, r.grow, fun j d q => (no q).elim, fun p q x y v w c e1 e2 e3 e4 o1 o2 => (no e1).elim⟩
section
variable {X : Cx} {b : Bs} {W : WX} {e : Expr} {rest : List Stmt} {pos : Pos} {i : Nat} {x : Str} {px : Pos}
theorem sss_newL {h : SemA} {g : SemS} (hN : X.N.Nodup) (hi : X.N[i]? = some x) (hx : Loc X.env.scope x) (hf : SO X b W e h) (hr : SSs X b W rest g) (hfn : X.fn x = true ∨ X.env.scope.names.lookup x = some .local := by first | exact .inl rfl | exact .inr rfl)
    (hs : swapsWithSole [.Name x px] e pos.line X.env = pure false := by rfl) (hw : swappedStores [.Name x px] e X.env = pure none := by rfl) : SSs X b W (.Assign [.Name x px] e pos :: rest) (sNewL i h g) :=
  PSs.weak (pss_cons (ps_asg hf (pg_name hN hi hx hfn) hs hw) hr) fun D' σ H ⟨F, m, R, p⟩ => by
    refine ⟨F, m, R, ?_⟩
    unfold sNewL at p
    cases hk : h m with
    | stuck => rw [hk] at p; exact p.elim
    | exc c => rw [hk] at p; exact fun F1 H1 G => p σ F1 H1 (R.step G) G.prog
    | ok ds =>
      rw [hk] at p
      simp only [ofR_ok] at p
      split at p
      · exact p.elim
      rename_i ht
      have ht : hasTL ds = false := by simpa using ht
      split at p
      rotate_left
      · exact p.elim
      rename_i hall
      intro F1 H1 G a xs h0 h1 h2 hv
      obtain ⟨m', hg, hl⟩ := hall a
      have R1 : Rel X.K b F1 (m.set i (some (lentD (some a) ds))) (σ.set i (some (.ref a))) H1 :=
        R.putN G (.inr (.inr (.inr ⟨_, _, _, a, mkKv xs, rfl, lent_ok rfl (fun c z => Option.some.inj z) h2 h1 h0 (RpL.base ds xs ht hv) ht⟩)))
      refine ⟨F1, _, R1, ?_⟩
      rw [hg]
      exact fun σ' F' H' R' P' => p σ' F' H' (R'.forgetAll hl) (G.prog.trans P')
end
end CT

namespace CT
open PySem PySem.Spec PyProof.Rows L2
end CT

namespace CT
open PySem PySem.Spec PyProof.Rows L2
end CT

namespace CT
open PySem PySem.Spec PyProof.Rows L2
end CT

namespace CT
open PySem PySem.Spec PyProof.Rows L2
end CT

namespace CT
open PySem PySem.Spec PyProof.Rows L2
end CT

namespace CT
open PySem PySem.Spec PyProof.Rows L2
end CT

namespace CT
open PySem PySem.Spec PyProof.Rows L2
end CT

namespace CT
open PySem PySem.Spec PyProof.Rows L2
end CT

namespace CT
open PySem PySem.Spec PyProof.Rows L2
theorem hasTL_mem {ds : List D} {ks : List (List Int)} {k : List Int} {d : D} (n : hasTL ds = false) (h : dAt ks ds k = some d) : hasT d = false := by
  induction ks generalizing ds with
  | nil => simp [dAt] at h
  | cons q ks ih =>
    cases ds with
    | nil => simp [dAt] at h
    | cons e ds =>
      simp only [hasTL, Bool.or_eq_false_iff] at n
      simp only [dAt] at h
      split at h
      · cases h; exact n.1
      · exact ih n.2 h
end CT

namespace CT
open PySem PySem.Spec PyProof.Rows L2
end CT

namespace CT
open PySem PySem.Spec PyProof.Rows L2
end CT

namespace CT
open PySem PySem.Spec PyProof.Rows L2
end CT

namespace CT
open PySem PySem.Spec PyProof.Rows L2
end CT

namespace CT
open PySem PySem.Spec PyProof.Rows L2
end CT

namespace CT
open PySem PySem.Spec PyProof.Rows L2
def isxN (tbl : List (String × Bool)) : D → R D
  | .non => .ok (.bl false)
  | d => isxR tbl d
def rIsXN (K : PySem.W.Frag) : List V → Hp → VK → Prop := fun xs H Q => rIsX K xs H Q ∨ rIsi K xs H Q
section
variable {X : Cx} {b : Bs} {W : WX} {a : Expr} {f : SemE} {x : Str} {p q pos : Pos} {tbl : List (String × Bool)} {v : V} {u : Value}
theorem call_isXN : CallR X (.builtin "isinstance") (rIsXN X.K) := by
  intro pins s σ H xs us Q I r h
  rcases h with h | h
  · exact call_isX pins s σ H xs us Q I r h
  · exact call_isi pins s σ H xs us Q I r h
theorem se_isXN (hN : PySem.W.kitOne X.K (.type "NoneType") u = some false) (hg : Gl X "isinstance") (hm : X.mg "isinstance" = none) (hT : PE X (.Name x q) (tC v)) (hv : ClsV v u) (ht : KxT X.K tbl u) (hf : SE X b W a f)
    (he : starEach [a, .Name x q] X.env = (false, eval a X.env) :: starEach [.Name x q] X.env := by rfl) (hpl : (backTo pos (starEach [.Name x q] X.env)).any (·.1) = false := by rfl)
    (hs : starEach [.Name x q] X.env = (false, eval (.Name x q) X.env) :: starEach [] X.env := by rfl) : SE X b W (.Call (.Name "isinstance" p) [a, .Name x q] [] pos) (e1 (isxN tbl) f) := by
  refine PE.weak (pe_callB call_isXN hg hm boot_isinstance (pa_cons hf (pa_cons hT pa_nil hs) he) (by decide) (by decide) he hpl) fun σ H Q ⟨F, m, R, p⟩ => ?_
  refine ⟨F, m, R, p.bind.imp fun y F1 H1 _ G z w hw => ?_⟩
  have s := (R.step G).sub
  cases y <;> first | exact z.elim | skip
  · cases hw
    exact .inr ⟨_, v, .type "NoneType", u, false, rfl, hv, .base .non, hN, z.here s _ (.bl _)⟩
  · rename_i c
    simp only [isxN, isxR] at z
    split at z
    · rename_i bb hb
      obtain ⟨D, h1, h2, h3⟩ := ht _ (lookup_mem hb)
      cases hw with
      | ex hx =>
        rw [h1] at hx
        exact .inl ⟨_, D, v, u, bb, rfl, hx, h2, hv, h3, z.here s _ (.bl _)⟩
    · exact z.elim
end
theorem kit_ntr {K : PySem.W.Frag} {C : Addr} (hd : PySem.W.hasDictIn K C = true) (ht : PySem.W.typeIn K (.ref C) = some (.type "type")) : PySem.W.kitOne K (.type "NoneType") (.ref C) = some false := by
  unfold PySem.W.kitOne
  rw [if_neg (by intro z; cases eq_of_beq z)]
  obtain ⟨cd, hc, _⟩ := PySem.W.any_some hd
  show (if ((PySem.W.clsIn K C).isSome && PySem.W.typeIn K (.ref C) == some (.type "type")) = true then PySem.W.subIn K (.type "NoneType") (.ref C) else none) = some false
  rw [if_pos (by rw [hc, ht]; rfl)]
  show (PySem.fastBuiltinMro "NoneType").map (·.contains (.ref C)) = some false
  kernel_rfl
theorem kit_ntt {K : PySem.W.Frag} {T : String} (hm : PySem.W.kitMeta T = true) (h : (PySem.fastBuiltinMro "NoneType").map (·.contains (.type T)) = some false) : PySem.W.kitOne K (.type "NoneType") (.type T) = some false := by
  unfold PySem.W.kitOne
  split
  · rename_i e
    cases eq_of_beq e
    exact absurd h (by decide +kernel)
  · show (if PySem.W.kitMeta T = true then PySem.W.subIn K (.type "NoneType") (.type T) else none) = some false
    rw [if_pos hm]
    exact h
end CT

namespace CT
open PySem PySem.Spec PyProof.Rows L2
end CT

namespace CT
open PySem PySem.Spec PyProof.Rows L2
end CT

namespace CT
open PySem PySem.Spec PyProof.Rows L2
def LentTo (f : List D → R (D × Option D)) (xs ds : List D) (a : Addr) (d : D) : Prop := hasT d = false ∧ ∃ ys, f (lentD (some a) xs :: ds) = .ok (d, some (lentD (some a) ys))
def tCN (K : PySem.W.Frag) (b : Bs) (hc : SemA) (f : List D → R (D × Option D)) (h : SemA) : TE := fun σ H Q => ∃ F m xs ds, Rel K b F m σ H ∧ hc m = .ok xs ∧ h m = .ok ds ∧ hasTL xs = false ∧ hasTL ds = false ∧
  ∀ a, ∃ d, LentTo f xs ds a d ∧ ∀ F' H' v, Grow F H F' H' → Rp K F' b.H0 H' d v → Q v H'
section
variable {X : Cx} {b : Bs} {W : WX} {x : Str} {e1 : Expr} {es : List Expr} {hc h : SemA} {n k : Nat} {f : List D → R (D × Option D)} {p pos : Pos}
theorem se_callN (C : CalleeL X.prog X.w X.K X.mg X.base x n f k) (tk : Takes X W) (hr : Room k X.A) (hgd : X.A.guards = some []) (hg : Gl X x) (h1 : SO X b W e1 hc) (ha : SA X b W es h) (hl : ∀ m xs, h m = .ok xs → xs.length = n) (hdb : (x == ("__debug__" : Str)) = false := by decide)
    (he : starEach (e1 :: es) X.env = (false, eval e1 X.env) :: starEach es X.env := by rfl) (hpl : (backTo pos (starEach es X.env)).any (·.1) = false := by rfl) : PE X (.Call (.Name x p) (e1 :: es) [] pos) (tCN X.K b hc f h) := by
  obtain ⟨fa, fd, ps, F1, hm, hk, hb⟩ := C.ok
  refine PE.weak (pe_callG F1 hr hgd hg hm hk hb (fun σ => passAt tk σ) (pa_cons h1 ha he) hdb he hpl) fun σ H Q ⟨F, m, xs, ds, R, hxs, hds, n1, n2, q⟩ => ?_
  refine ⟨F, m, R, ?_⟩
  rw [hxs]
  intro F1 H1 G1 a us h0 fa1 ha1 hus
  refine ⟨F1, m, R.step G1, ?_⟩
  rw [hds]
  intro F2 H2 G2 vs hvs
  obtain ⟨d, ⟨L1, ys, hf⟩, q⟩ := q a
  have ha2 := G2.same _ _ ha1
  have fa2 : F2 a = none := grow_free G2 ha1 fa1
  have hus2 := (RpL.base (H1 := H2) xs us n1 hus).mono G2.sub G2.same
  have sub2 : Same F2 H2 := ((R.step G1).step G2).sub
  refine ⟨F2, a, xs, mkKv us, ds, vs, rfl, sub2, lent_ok rfl (fun _ z => Option.some.inj z) ha2 fa2 less1_a (RpL.base xs us n1 hus2) n1, RpL.base ds vs n2 hvs, n2, hl m ds hds, d, ys, hf, L1, ?_⟩
  intro F3 H3 v kw G3 P3 hv D3
  have GG := G1.trans G2
  refine q F3 H3 v ⟨fun c o hc => ?_, GG.sub.trans G3.sub, G3.subH, fun c o hc => ?_⟩ (Rp.base d v L1 hv)
  · exact G3.same _ _ (by rw [less1_ne (fun z => by subst z; rw [h0] at hc; cases hc)]; exact GG.same _ _ hc)
  · rcases G3.new c o hc with z | z
    · exact GG.new _ _ z
    · by_cases hca : c = a
      · subst hca; exact .inr h0
      · rw [less1_ne hca] at z
        exact .inr (GG.same.free z)
end
end CT

namespace CT
open PySem PySem.Spec PyProof.Rows L2
end CT

namespace CT
open PySem PySem.Spec PyProof.Rows L2
end CT

namespace CT
open PySem PySem.Spec PyProof.Rows L2
end CT

namespace CT
open PySem PySem.Spec PyProof.Rows L2
end CT

namespace CT
open PySem PySem.Spec PyProof.Rows L2
abbrev PL (kls : Kls) (xs : List (Leaf × Value)) : Prop := Paired (fun (p : Option Int × V) (q : Leaf × Value) => lfOf p.1 = q.1 ∧ RelV p.2 q.2) kls xs
theorem PL.len {kls : Kls} {xs : List (Leaf × Value)} (r : PL kls xs) : kls.length = xs.length := by
  unfold PL at r
  induction r with
  | nil => rfl
  | cons _ _ ih => simp [ih]
end CT

namespace CT
open PySem PySem.Spec PyProof.Rows L2
section
variable {X : Cx} {b : Bs} {W : WX} {o e e2 : Expr} {f g : SemE} {i : Nat} {pos pos' apos cpos p p2 q : Pos}
theorem sss_stuck {st : List Stmt} : SSs X b W st (fun _ => .stuck) := PSs.weak (t := fun _ _ _ => False) ⟨fun pins s σ H D I h => False.elim h⟩ fun D' σ H ⟨F, m, R, p⟩ => p.elim
end
end CT

namespace CT
open PySem PySem.Spec PyProof.Rows L2
end CT

namespace CT
open PySem PySem.Spec PyProof.Rows L2
def SstF (K : PySem.W.Frag) (b : Bs) (i : Nat) (t : Addr) (vs : List V) (F H : Hp) (D' : Ends) : RS → Prop
  | .nx m' => ∀ σ' F' H', Rel K b F' m' σ' H' → Prog F H F' H' → σ'[i]? = some (some (.ref t)) → H' t = some (.lst vs) → D'.nx σ' H'
  | _ => False
theorem SstF.prog {K : PySem.W.Frag} {b : Bs} {i : Nat} {t : Addr} {vs : List V} {F H F1 H1 : Hp} {D' : Ends} {r : RS} (g : Prog F H F1 H1) (p : SstF K b i t vs F H D' r) : SstF K b i t vs F1 H1 D' r := by
  cases r <;> first | exact p | exact fun σ' F' H' R q => p σ' F' H' R (g.trans q)
end CT

namespace CT
open PySem PySem.Spec PyProof.Rows L2
end CT

namespace CT
open PySem PySem.Spec PyProof.Rows L2
end CT

namespace CT
open PySem PySem.Spec PyProof.Rows L2
def strM {α : Type} (op : Str → D → R α) (f g : SemE) : Sl → R α := fun m => (f m).bind fun x => match x with
  | .str z => (g m).bind (op z)
  | _ => .stuck
def splitD (a : Str) : D → R (List D)
  | .str b => if (b.length == 0) = false ∧ a.length + 2 ≤ sizeLine then .ok ((Txt.split a b).map D.str) else .stuck
  | _ => .stuck
def partD (a : Str) : D → R D
  | .str b => if (b.length == 0) = false ∧ a.length ≤ sizeLine then .ok (.tup [.str (Txt.partition a b).1, .str (Txt.partition a b).2.1, .str (Txt.partition a b).2.2]) else .stuck
  | _ => .stuck
def intA : List D → R D
  | [.str a] => match PySem.intText? a with
    | some n => if a.length ≤ 640 then .ok (.int n) else .stuck
    | none => .stuck
  | xs => intD xs
theorem strs_rp2 {K : PySem.W.Frag} {F H0 H : Hp} : ∀ ys : List Str, RpL K F H0 H (ys.map D.str) (ys.map V.str)
  | [] => .nil
  | y :: ys => .cons (.str y) (strs_rp2 ys)
section
variable {X : Cx} {b : Bs} {W : WX} {o e : Expr} {f g : SemE} {apos pos : Pos}
theorem so_split (ho : SE X b W o f) (he : SE X b W e g) (hs : starEach [e] X.env = [(false, eval e X.env)] := by rfl) (hbase : attributeBase o "split" X.env (eval o X.env) = eval o X.env := by rfl) (hline : (apos.endLine == pos.line) = true := by rfl) :
    SO X b W (.Call (.Attribute o "split" apos) [e] [] pos) (strM splitD f g) := by
  refine PE.weak (pe_split ho he hs hbase hline) fun σ H Q ⟨F, m, R, p⟩ => ?_
  refine seq R p fun x F1 H1 v R1 G1 hv p1 => ?_
  cases x <;> first | exact p1.elim | skip
  rename_i z
  cases hv
  refine ⟨⟨z, rfl⟩, seq R1 p1 fun y F2 H2 u R2 G2 hu p2 => ?_⟩
  cases y <;> first | exact p2.elim | skip
  rename_i y
  cases hu
  simp only [splitD] at p2
  split at p2
  · rename_i hl
    refine ⟨z, y, rfl, rfl, hl.1, hl.2, fun q hq => ?_⟩
    have G := Grow.loose (o := .lst ((Txt.split z y).map V.str)) R2.sub hq
    exact (p2 _ _ G) q _ ((G1.trans G2).same.free hq) (R2.sub.free hq) upd_same (strs_rp2 _)
  · exact p2.elim
theorem se_partition (ho : SE X b W o f) (he : SE X b W e g) (hs : starEach [e] X.env = [(false, eval e X.env)] := by rfl) (hbase : attributeBase o "partition" X.env (eval o X.env) = eval o X.env := by rfl) (hline : (apos.endLine == pos.line) = true := by rfl) :
    SE X b W (.Call (.Attribute o "partition" apos) [e] [] pos) (strM partD f g) := by
  refine PE.weak (pe_partition ho he hs hbase hline) fun σ H Q ⟨F, m, R, p⟩ => ?_
  refine seq R p fun x F1 H1 v R1 G1 hv p1 => ?_
  cases x <;> first | exact p1.elim | skip
  rename_i z
  cases hv
  refine ⟨⟨z, rfl⟩, seq R1 p1 fun y F2 H2 u R2 G2 hu p2 => ?_⟩
  cases y <;> first | exact p2.elim | skip
  rename_i y
  cases hu
  simp only [partD] at p2
  split at p2
  · rename_i hl
    refine ⟨z, y, rfl, rfl, hl.1, hl.2, fun q hq => ?_⟩
    have G := Grow.still (o := .tup [.str (Txt.partition z y).1, .str (Txt.partition z y).2.1, .str (Txt.partition z y).2.2]) R2.sub hq
    exact (p2 _ _ G) _ (.tup upd_same (.cons (.str _) (.cons (.str _) (.cons (.str _) .nil))))
  · exact p2.elim
theorem c_intA : CallD X b W (.type "int") intA := by
  obtain ⟨r, hr, hk⟩ := c_int (X := X) (b := b) (W := W)
  refine ⟨_, call_int_str.or hr, fun σ F H Q xs vs s rr p => ?_⟩
  unfold intA at p
  split at p
  · obtain ⟨v, rfl, h⟩ := rr.one
    cases h
    split at p
    · rename_i n hn
      split at p
      · rename_i hl
        exact .inl ⟨_, n, rfl, hn, hl, p.here s _ (.int _)⟩
      · exact p.elim
    · exact p.elim
  · exact .inr (hk σ F H Q xs vs s rr p)
end
end CT

namespace CT
open PySem PySem.Spec PyProof.Rows L2
end CT

namespace CT
open PySem PySem.Spec PyProof.Rows L2
theorem op_catF {X : Cx} : OpR X (binaryOp .Add) (fun x y H Q => ∃ l b xs zs, x = .ref l ∧ y = .ref b ∧ SqL X.K H l xs ∧ H b = some (.lst zs) ∧ xs.length + zs.length ≤ sizeLine ∧ ∀ p, H p = none → Q (.ref p) (upd H p (.lst (xs ++ zs)))) := by
  intro pins s σ H x y v u Q I rx ry h
  obtain ⟨l, b, xs, zs, rfl, rfl, hH, hB, hz, q⟩ := h
  cases rx
  cases ry
  obtain ⟨its, r, ⟨⟨cls, dd, data, sl⟩, n, e, c1, _, c2⟩, _⟩ := I.list hH
  obtain ⟨_, its2, n2, r2, hl2, e2⟩ := I.lstM hB
  simp only at c1 c2
  subst c1 c2
  have hl : xs.length = its.length := r.length
  refine PySem.concat_meets ⟨_, e, rfl⟩ ⟨_, e2, rfl⟩ PySem.noFill_list_add PySem.seq_list_add PySem.F.slot_list_add PySem.F.entry_list_add (PySem.F.args_list_add_2 _ _) (list_addW l b its.toArray its2.toArray n n2 dd none sl #[] (by simp; omega)) ⟨e, e2, ?_⟩
  rw [show its.toArray ++ its2.toArray = (its ++ its2).toArray from by simp]
  exact ⟨.ref _, _, I.lnew (t' := s.toks) (r.append r2) (by rw [List.length_append]; omega), rfl, q _ I.fresh⟩
def addF : D → D → R D
  | .fr xs, .lst _ ys => if xs.length + ys.length ≤ sizeLine then .ok (.lst false (xs ++ ys)) else .stuck
  | x, y => addD x y
theorem o_addF {X : Cx} {b : Bs} {W : WX} : Op2 X b W (binaryOp .Add) addF := by
  obtain ⟨r, h1, h2⟩ := o_add (X := X) (b := b) (W := W)
  refine ⟨_, h1.or op_catF, fun σ F H Q x y v u s hx hy p => ?_⟩
  unfold addF at p
  split at p
  · split at p
    · rename_i xs t ys hl
      obtain ⟨a, us, rfl, k1, k2⟩ := hx.frl s
      obtain ⟨c, ws, rfl, k3, k4⟩ := hy.list s
      refine .inr ⟨a, c, us, ws, rfl, rfl, k1, k3, by rw [← k2.length, ← k4.length]; exact hl, fun q hq => ?_⟩
      have sF : Same F (upd F q (.lst (us ++ ws))) := same_upd (s.free hq)
      have G := Grow.still (o := .lst (us ++ ws)) s hq
      exact (p _ _ G) _ (.lst upd_same ((k2.grow G).app (k4.grow G)))
    · exact p.elim
  · exact .inl (h2 σ F H Q x y v u s hx hy p)
end CT

namespace CT
open PySem PySem.Spec PyProof.Rows L2
section
variable {prog : Program} {w : World} {A : Around} {E : Value → Shared → Prop} {s : Shared} {l : Addr}
theorem max_intTup {xs : Array (Int × Tok)} {Q : Value → Shared → Prop} (hh : A.handled = none) (hl : s.heap.IsTuple l (intItems xs)) (hne : 0 < xs.size)
    (h : ∀ v h' tk, (intItems xs)[argBest (fun i j => decide (numAt xs i > numAt xs j)) (xs.size - 1)]? = some v → (∀ b o, s.heap.get? b = some o → h'.get? b = some o) → Q v { s with heap := h', toks := tk }) :
    wpAny (model prog w) A (call (.builtin "max") [.ref l]) Q E s := by
  have hlt : l < s.heap.objs.size := by obtain ⟨_, e, _⟩ := hl; exact Heap.lt_size e
  refine call_max_walk ?_
  refine wpAny_pyIter_tuple hl ?_
  refine ⟨_, _, _, _, _, _, _, rfl, Walks.tuple (A := A.in1) hh _ l (Nat.ne_of_lt hlt) (intItems xs), ⟨⟨_, Heap.get?_push_size _ rfl, rfl, rfl⟩, hl.push _⟩, fun b hb => ?_, by simpa [intItems] using hne, CmpOf.ints_gt (numAt xs) (fun _ _ => intItems_at), fun v h' tk hP hk => ?_⟩
  · show b < (s.heap.push _).objs.size
    rw [Heap.size_push]
    rcases List.mem_cons.mp hb with rfl | hb
    · exact Nat.lt_succ_self _
    · rcases List.mem_cons.mp hb with rfl | hb
      · exact Nat.lt_succ_of_lt hlt
      · cases hb
  · refine h v h' tk (by simpa [intItems] using hP) fun b o e => hk b o (fun hm => ?_) (Heap.get?_push_of_some _ e)
    rcases List.mem_cons.mp hm with e1 | hm
    · exact absurd (e1 ▸ Heap.lt_size e) (Nat.lt_irrefl _)
    · cases hm
theorem maxT_raw {its : List Value} {ns : List Int} {Q : Value → Shared → Prop} (hh : A.handled = none) (hl : s.heap.IsTuple l its.toArray) (hi : IntsAre its ns) (hne : 0 < ns.length)
    (h : ∀ h' tk M t', (∀ b o, s.heap.get? b = some o → h'.get? b = some o) → M ∈ ns → (∀ a, a ∈ ns → a ≤ M) → Q (.int M t') { s with heap := h', toks := tk }) : wpAny (model prog w) A (call (.builtin "max") [.ref l]) Q E s := by
  obtain ⟨xs, e⟩ := hi.allInts.items
  have hn : numsOf (intItems xs).toList = ns := by rw [← e]; exact hi.numsOf
  rw [nums_intItems] at hn
  subst hn
  rw [e] at hl
  have hsz : 0 < xs.size := by simpa using hne
  refine max_intTup hh hl hsz fun v h' tk hv hk => ?_
  obtain ⟨t, rfl⟩ := intItems_at hv
  obtain ⟨h1, h2⟩ := argBest_gt (numAt xs) (xs.size - 1)
  refine h h' tk _ t hk ?_ fun a ha => ?_
  · rw [numAt_eq]; exact PySem.getD_mem (by rw [List.length_map, Array.length_toList]; omega)
  · obtain ⟨j, hj, rfl⟩ := mem_getD ha
    rw [List.length_map, Array.length_toList] at hj
    rw [← numAt_eq]; exact h2 j (by omega)
end
def rMaxT (K : PySem.W.Frag) : List V → Hp → VK → Prop := fun vs H Q => ∃ (a : Addr) (ns : List Int), vs = [V.ref a] ∧ SqT K H a (ns.map V.int) ∧ 0 < ns.length ∧ ∀ M, M ∈ ns → (∀ y, y ∈ ns → y ≤ M) → Q (.int M) H
def maxTR (ns : List Int) : R D := match ns with
  | [] => .stuck
  | n :: r => .ok (.int (r.foldl max n))
def maxTD : List D → R D
  | [.tup xs] => (match intsOf xs with
    | some ns => maxTR ns
    | none => .stuck)
  | _ => .stuck
theorem foldl_max_mem : ∀ (r : List Int) (n : Int), r.foldl max n ∈ n :: r
  | [], n => by simp
  | m :: r, n => by
    have := foldl_max_mem r (max n m)
    simp only [List.foldl_cons]
    rcases List.mem_cons.mp this with e | e
    · rw [e]
      by_cases h : n ≤ m
      · rw [Int.max_eq_right h]; simp
      · rw [Int.max_eq_left (by omega)]; simp
    · simp [e]
theorem foldl_max_le : ∀ (r : List Int) (n : Int), ∀ y ∈ n :: r, y ≤ r.foldl max n
  | [], n, y, h => by simp at h; simp [h]
  | m :: r, n, y, h => by
    simp only [List.foldl_cons]
    have ih := foldl_max_le r (max n m)
    have h0 := ih (max n m) (by simp)
    rcases List.mem_cons.mp h with e | h
    · subst e; have := Int.le_max_left y m; omega
    · rcases List.mem_cons.mp h with e | h
      · subst e; have := Int.le_max_right n y; omega
      · exact ih y (by simp [h])
def anyTy (t : String) : List String → Option Bool
  | [] => some false
  | c :: r => match kitB t c with
    | some true => some true
    | some false => anyTy t r
    | none => none
def isiTD (Ts : List String) (d : D) : R D := if tyD d = "?" then .stuck else match anyTy (tyD d) Ts with
  | some c => .ok (.bl c)
  | none => .stuck
theorem kit_any {K : PySem.W.Frag} {t : String} : ∀ {Ts : List String} {r : Bool}, anyTy t Ts = some r → PySem.W.kitAny K (.type t) (Ts.map .type) = some r
  | [], r, h => by cases h; rfl
  | c :: Ts, r, h => by
    unfold anyTy at h
    split at h
    · rename_i e
      cases h
      exact kitAny_cons (kit_ty e) (fun z => by cases z) fun _ => rfl
    · rename_i e
      exact kitAny_cons (kit_ty e) (fun _ => kit_any h) fun z => by cases z
    · cases h
open Classical in
noncomputable def eCallN (hc : SemA) (f : List D → R (D × Option D)) (h : SemA) : SemE := fun m => match hc m, h m with
  | .ok xs, .ok ds => if z : hasTL xs = false ∧ hasTL ds = false ∧ ∃ d, ∀ a : Addr, LentTo f xs ds a d then .ok (choose z.2.2) else .stuck
  | _, _ => .stuck
theorem eCallN_ok {hc h : SemA} {f : List D → R (D × Option D)} {m : Sl} {xs ds : List D} {d : D} (h1 : hc m = .ok xs) (h2 : h m = .ok ds) (n1 : hasTL xs = false) (n2 : hasTL ds = false) (L : ∀ a : Addr, LentTo f xs ds a d) : eCallN hc f h m = .ok d := by
  unfold eCallN
  simp only [h1, h2]
  have z : hasTL xs = false ∧ hasTL ds = false ∧ ∃ d, ∀ a : Addr, LentTo f xs ds a d := ⟨n1, n2, d, L⟩
  rw [dif_pos z]
  have q := Classical.choose_spec z.2.2 0
  obtain ⟨_, ys, e1⟩ := L 0
  obtain ⟨_, zs, e2⟩ := q
  rw [e1] at e2
  have e3 := (Prod.mk.inj (R.ok.inj e2)).1
  rw [← e3]
section
variable {X : Cx} {b : Bs} {W : WX} {a : Expr} {f : SemE} {p q pos tpos : Pos} {es : List Expr} {ta : TA} {vs : List V} {Ts : List String} {kk : Nat}
theorem cr_maxT (hc : X.calm = true) : CallR X (.builtin "max") (rMaxT X.K) := by
  intro pins s σ H vs us Q I r h
  obtain ⟨a, ns, rfl, hs, hne, q⟩ := h
  obtain ⟨its, rv, hl, _⟩ := I.tuple hs
  rw [Vals.ref1 r]
  exact maxT_raw (I.ok.hd hc) (show s.heap.IsTuple a its.toArray from hl) rv.ints hne fun h' tk m t' hk h1 h2 => ⟨.int _, H, I.kept hk, ⟨_, rfl⟩, q m h1 h2⟩
theorem c_maxT (hc : X.calm = true) : CallD X b W (.builtin "max") maxTD := by
  refine ⟨_, cr_maxT hc, fun σ F H Q xs vs s r p => ?_⟩
  unfold maxTD at p
  split at p
  rotate_left
  · exact p.elim
  split at p
  rotate_left
  · exact p.elim
  rename_i ns hn
  obtain ⟨v, rfl, h⟩ := r.one
  obtain ⟨a, us, rfl, h1, h2⟩ := h.tuple
  rw [intsOf_rp hn h2] at h1
  cases ns with
  | nil => exact p.elim
  | cons n r =>
    refine ⟨a, n :: r, rfl, h1, by simp, fun m hm hle => ?_⟩
    have e : m = r.foldl max n := by
      have q1 := hle _ (foldl_max_mem r n)
      have q2 := foldl_max_le r n m hm
      omega
    rw [e]
    exact p.here s _ (.int _)
theorem se_isiT (hg : Gl X "isinstance") (hm : X.mg "isinstance" = none) (hA : L2.PA X es ta) (hta : ∀ σ H Q, Q vs H → ta σ H Q) (hcl : Paired ClsV vs (Ts.map .type)) (hl : vs.length ≤ sizeLine) (hf : SE X b W a f)
    (he : starEach [a, .Tuple es kk tpos] X.env = (false, eval a X.env) :: starEach [.Tuple es kk tpos] X.env := by rfl) (hpl : (backTo pos (starEach [.Tuple es kk tpos] X.env)).any (·.1) = false := by rfl)
    (hs : starEach [.Tuple es kk tpos] X.env = (false, eval (.Tuple es kk tpos) X.env) :: starEach [] X.env := by rfl) : SE X b W (.Call (.Name "isinstance" p) [a, .Tuple es kk tpos] [] pos) (e1 (isiTD Ts) f) := by
  refine PE.weak (pe_callB call_isiT hg hm boot_isinstance (pa_cons hf (pa_cons (pe_tup hA) pa_nil hs) he) (by decide) (by decide) he hpl) fun σ H Q ⟨F, m, R, p⟩ => ?_
  refine ⟨F, m, R, p.bind.imp fun y F1 H1 _ G z w hw => ?_⟩
  have R1 := R.step G
  unfold isiTD at z
  split at z
  · exact z.elim
  rename_i hq
  split at z
  rotate_left
  · exact z.elim
  rename_i c hc
  refine hta _ _ _ ⟨hl, fun t ht' => ?_⟩
  have G2 := Grow.loose (o := .tup vs) R1.sub ht'
  exact ⟨w, t, vs, _, _, c, rfl, upd_same, hcl, ty_rp ((R1.step G2).sub) (hw.grow G2) hq, kit_any hc, z _ _ G2 _ (.bl _)⟩
end
section
variable {X : Cx} {b : Bs} {W : WX} {x : Str} {e1 : Expr} {es : List Expr} {hc h : SemA} {n k : Nat} {f : List D → R (D × Option D)} {p pos : Pos}
theorem se_callNE (C : CalleeL X.prog X.w X.K X.mg X.base x n f k) (tk : Takes X W) (hr : Room k X.A) (hgd : X.A.guards = some []) (hg : Gl X x) (h1 : SO X b W e1 hc) (ha : SA X b W es h) (hl : ∀ m xs, h m = .ok xs → xs.length = n) (hdb : (x == ("__debug__" : Str)) = false := by decide)
    (he : starEach (e1 :: es) X.env = (false, eval e1 X.env) :: starEach es X.env := by rfl) (hpl : (backTo pos (starEach es X.env)).any (·.1) = false := by rfl) : SE X b W (.Call (.Name x p) (e1 :: es) [] pos) (eCallN hc f h) :=
  PE.weak (se_callN C tk hr hgd hg h1 ha hl hdb he hpl) fun σ H Q ⟨F, m, R, p⟩ => by
    unfold eCallN at p
    split at p
    rotate_left
    · exact p.elim
    rename_i xs ds hxs hds
    split at p
    rotate_left
    · exact p.elim
    rename_i z
    exact ⟨F, m, xs, ds, R, hxs, hds, z.1, z.2.1, fun a => ⟨_, Classical.choose_spec z.2.2 a, fun F' H' v G hv => p F' H' G v hv⟩⟩
end
end CT

namespace CK
open PySem PySem.Spec PyProof.Rows L2 CT
noncomputable section
def s_is_whole : List D → R D := defF 1 1 (
  (sRet (eAnd (e1 (isiD "int") (eVar 0)) (eNot (e1 (isiD "bool") (eVar 0))))))
def s_is_marks : List D → R D := defF 2 5 (
  (sSeq (sIf (CT.tOr (CT.tNot (tOf (e1 (isiD "tuple") (eVar 1)))) (CT.tNot (tOf (eA allD (aCons (eOwn (aLc (aItN false (eVar 1)) (putR 2) tYesM (eAnd (eA (callF s_is_whole) (aCons (eVar 2) aNil)) (eChain leD ltD (eC (.int 0)) (eVar 2) (eVar 0))) [2])) aNil))))) (sRet (eC (.bl false))) sNop)
  (sRet (eA allD (aCons (eOwn (aLc (aZip false (aCons (eVar 1) (aCons (eCut (eVar 1) (pSo (eC (.int 1))) pNo) aNil))) (gTupR 2 (gsCons (putR 3) (gsCons (putR 4) gsNil))) tYesM (e2 ltD (eVar 3) (eVar 4)) [3, 4])) aNil)))))
def s_is_part : List D → R D := defF 1 1 (
  (sSeq (sIf (CT.tOr (CT.tNot (tOf (e1 (isiD "tuple") (eVar 0)))) (CT.tOr (tOf (e2 eqD (eVar 0) (eA mkTup aNil))) (CT.tNot (tOf (e1 (isiD "str") (e2 ixD (eVar 0) (eC (.int 0)))))))) (sRet (eC (.bl false))) sNop)
  (sSeq (sIf (tOf (e2 inD (e2 ixD (eVar 0) (eC (.int 0))) (eOwn (aThen (aCons (eC (.str "click")) (aCons (eC (.str "rocker")) aNil)) mkLst)))) (sRet (e2 eqD (eA lenD (aCons (eVar 0) aNil)) (eC (.int 1)))) sNop)
  (sSeq (sIf (tOf (e2 eqD (e2 ixD (eVar 0) (eC (.int 0))) (eC (.str "spring")))) (sRet (eAnd (e2 eqD (eA lenD (aCons (eVar 0) aNil)) (eC (.int 2))) (eAnd (eA (callF s_is_whole) (aCons (e2 ixD (eVar 0) (eC (.int 1))) aNil)) (e2 geD (e2 ixD (eVar 0) (eC (.int 1))) (eC (.int 1)))))) sNop)
  (sSeq (sIf (CT.tOr (tOf (e2 neD (e2 ixD (eVar 0) (eC (.int 0))) (eC (.str "wheel")))) (tOf (e2 neD (eA lenD (aCons (eVar 0) aNil)) (eC (.int 3))))) (sRet (eC (.bl false))) sNop)
  (sRet (eAnd (eA (callF s_is_whole) (aCons (e2 ixD (eVar 0) (eC (.int 1))) aNil)) (eAnd (e2 geD (e2 ixD (eVar 0) (eC (.int 1))) (eC (.int 1))) (eA (callF s_is_marks) (aCons (e2 ixD (eVar 0) (eC (.int 1))) (aCons (e2 ixD (eVar 0) (eC (.int 2))) aNil)))))))))))
def s_check_train : List D → R D := defF 1 2 (
  (sIf (CT.tOr (CT.tNot (tOf (e1 (isiD "list") (eVar 0)))) (CT.tOr (tOf (e2 eqD (eVar 0) (eOwn (aThen aNil mkLst)))) (CT.tNot (tOf (eA allD (aCons (eOwn (aLc (aItN false (eVar 0)) (putR 1) tYesM (eA (callF s_is_part) (aCons (eVar 1) aNil)) [1])) aNil)))))) (sRaise "NoTrain") sNop))
def s_law_whole : List D → R D := defF 1 1 (
  (sRet (eAnd (e1 (isiD "int") (eVar 0)) (eNot (e1 (isiD "bool") (eVar 0))))))
def s_law_draws : List D → R D := defF 1 1 (
  (sSeq (sIf (tOf (e2 ltD (eVar 0) (e2 powD (eC (.int 10)) (eC (.int 18))))) (sRetO (aThen (aCons (eVar 0) (aCons (eC (.int 0)) (aCons (eC (.bl false)) aNil))) mkLst)) sNop)
  (sRetO (aThen (aCons (e2 modD (eVar 0) (e2 powD (e2 powD (e2 powD (eC (.int 10)) (eC (.int 60))) (eC (.int 50))) (eC (.int 3)))) (aCons (eC (.int 0)) (aCons (eC (.bl true)) aNil))) mkLst))))
def s_law_next : List D → R (D × Option D) := defL 1 3 (
  (bSeq (sAsg (e2 addD (eLk 0 1) (eC (.int 1))) (subLR 0 1))
  (bSeq (sSet 1 (eLk 0 1))
  (bIf (tOf (eLk 0 2)) (bSeq (sSet 2 (e2 modD (eLk 0 0) (e2 powD (eC (.int 10)) (eC (.int 6)))))
  (bSeq (sAsg (e2 divD (eLk 0 0) (e2 powD (eC (.int 10)) (eC (.int 6)))) (subLR 0 0))
  (bRet (eVar 2))))
  (bSeq (sSet 2 (e2 modD (e2 mulD (e2 addD (e2 addD (e2 modD (eLk 0 0) (eC (.int 1000003))) (e2 mulD (e2 mulD (eVar 1) (eVar 1)) (eC (.int 7919)))) (eVar 1)) (eC (.int 48271))) (eC (.int 2147483629))))
  (bSeq (sSet 2 (e2 modD (e2 mulD (eVar 2) (eVar 2)) (eC (.int 2147483587))))
  (bRet (e2 divD (e2 modD (e2 mulD (eVar 2) (e2 addD (eVar 2) (eC (.int 2)))) (eC (.int 2147483579))) (eC (.int 7))))))))))
def s_sure : List D → R D := defF 1 1 (
  (sIf (CT.tNot (tOf (eVar 0))) (sRaise "NoText") sNop))
def s_count_in : List D → R D := defF 1 2 (
  (sSeq (sExp (eA (callF s_sure) (aCons (eAnd (eChain leD leD (eC (.int 1)) (eA lenD (aCons (eVar 0) aNil)) (eC (.int 40))) (eA allD (aCons (eOwn (aLc (aItN false (eVar 0)) (putR 1) tYesM (e2 inD (eVar 1) (eC (.str "0123456789"))) [1])) aNil))) aNil)))
  (sSeq (sExp (eA (callF s_sure) (aCons (eOr (e2 neD (e2 ixD (eVar 0) (eC (.int 0))) (eC (.str "0"))) (e2 eqD (eVar 0) (eC (.str "0")))) aNil)))
  (sRet (eA intA (aCons (eVar 0) aNil))))))
def s_part_in : List D → R D := defF 1 6 (
  (sSeq (sIf (CT.tOr (tOf (e2 eqD (eVar 0) (eC (.str "c")))) (tOf (e2 eqD (eVar 0) (eC (.str "r"))))) (sRet (e2 ixD (eOwn (aThen (aCons (eA mkTup (aCons (eC (.str "click")) aNil)) (aCons (eA mkTup (aCons (eC (.str "rocker")) aNil)) aNil)) mkLst)) (eA intD (aCons (e2 eqD (eVar 0) (eC (.str "r"))) aNil)))) sNop)
  (sSeq (sIf (tOf (e2 eqD (eCut (eVar 0) pNo (pSo (eC (.int 1)))) (eC (.str "s")))) (sRet (eA mkTup (aCons (eC (.str "spring")) (aCons (eA (callF s_count_in) (aCons (eCut (eVar 0) (pSo (eC (.int 1))) pNo) aNil)) aNil)))) sNop)
  (sSeq (sAsg (strM partD (eCut (eVar 0) (pSo (eC (.int 1))) pNo) (eC (.str ":"))) (gTupR 3 (gsCons (putR 1) (gsCons (putR 2) (gsCons (putR 3) gsNil)))))
  (sSeq (sExp (eA (callF s_sure) (aCons (eAnd (e2 eqD (eCut (eVar 0) pNo (pSo (eC (.int 1)))) (eC (.str "w"))) (e2 eqD (eVar 2) (eC (.str ":")))) aNil)))
  (sSeq (sSet 4 (eA mkTup aNil))
  (sSeq (sIf (tOf (e2 neD (eVar 3) (eC (.str "")))) (sSet 4 (eA tupleD (aCons (eOwn (aLc (aItN false (eOwn (strM splitD (eVar 3) (eC (.str ","))))) (putR 5) tYesM (eA (callF s_count_in) (aCons (eVar 5) aNil)) [5])) aNil))) sNop)
  (sRet (eA mkTup (aCons (eC (.str "wheel")) (aCons (eA (callF s_count_in) (aCons (eVar 1) aNil)) (aCons (eVar 4) aNil))))))))))))
def s_read_train : List D → R D := defF 1 3 (
  (sSeq (sSetO 1 (aLc (aItN false (eOwn (strM splitD (eVar 0) (eC (.str " "))))) (putR 2) tYesM (eA (callF s_part_in) (aCons (eVar 2) aNil)) [2]))
  (sSeq (sExp (eA (callF s_check_train) (aCons (eVar 1) aNil)))
  (sRetV 1))))
def s_law_number : List D → R (D × Option D) := defL 1 4 (
  (bSeq (sSetX 1 (x2 modD (xCallL 0 s_law_next xaNil) (xOf (eC (.int 4)))))
  (bSeq (sSetX 2 (x2 modD (xCallL 0 s_law_next xaNil) (xOf (e2 ixD (eOwn (aThen (aCons (eC (.int 3)) (aCons (eC (.int 30)) (aCons (eC (.int 1000)) (aCons (e2 powD (eC (.int 10)) (eC (.int 6))) aNil)))) mkLst)) (eVar 1)))))
  (bSeq (sIfX (xtOf (x2 eqD (x2 modD (xCallL 0 s_law_next xaNil) (xOf (eC (.int 8)))) (xOf (eC (.int 5))))) (sSeq (sFor (aThen (aCons (eC (.int 6)) aNil) rng1) (putR 3) (sSetX 2 (x2 addD (xOf (e2 mulD (eVar 2) (e2 powD (eC (.int 10)) (eC (.int 6))))) (x2 modD (xCallL 0 s_law_next xaNil) (xOf (e2 powD (eC (.int 10)) (eC (.int 6))))))))
  (sSet 2 (e2 modD (eVar 2) (e2 powD (eC (.int 10)) (eC (.int 40)))))) sNop)
  (bRet (eVar 2))))))
def s_law_rising : List D → R (D × Option D) := defL 2 5 (
  (bSeq (sSetO 2 (aThen aNil mkLst))
  (bSeq (sSet 3 (e2 subD (eC (.int 0)) (eC (.int 1))))
  (bSeq (sForX (xThen (xaCons (x2 modD (xCallL 0 s_law_next xaNil) (xOf (eVar 1))) xaNil) rng1) (putR 4) (sSeq (sSetX 3 (x2 addD (xOf (e2 addD (eVar 3) (eC (.int 1)))) (x2 modD (xCallL 0 s_law_number xaNil) (xOf (e2 powD (eC (.int 10)) (eC (.int 38)))))))
  (sApp 2 (eVar 3))))
  (bRet (eA tupleD (aCons (eVar 2) aNil)))))))
def s_law_part_5 : List D → R (D × Option D) := defL 2 4 (
  (bSeq (sSetX 2 (x2 modD (xCallL 0 s_law_next xaNil) (xOf (eC (.int 6)))))
  (bIf (tOf (e2 ltD (eVar 2) (eC (.int 3)))) (bSeq (sSetX 3 (xCallL 0 s_law_rising (xaCons (xOf (eVar 1)) xaNil)))
  (bRetX (xA mkTup (xaCons (xOf (eC (.str "wheel"))) (xaCons (x2 addD (xOf (e2 addD (eA maxTD (aCons (e2 addD (eA mkTup (aCons (eC (.int 0)) aNil)) (eVar 3)) aNil)) (eC (.int 1)))) (x2 modD (xCallL 0 s_law_next xaNil) (xOf (eC (.int 3))))) (xaCons (xOf (eVar 3)) xaNil))))))
  (bRetX (x2 ixD (xA mkLstF (xaCons (xOf (eA mkTup (aCons (eC (.str "click")) aNil))) (xaCons (xOf (eA mkTup (aCons (eC (.str "rocker")) aNil))) (xaCons (xA mkTup (xaCons (xOf (eC (.str "spring"))) (xaCons (x2 addD (xOf (eC (.int 1))) (x2 modD (xCallL 0 s_law_number xaNil) (xOf (e2 subD (e2 powD (eC (.int 10)) (eC (.int 40))) (eC (.int 1)))))) xaNil))) xaNil)))) (xOf (e2 subD (eVar 2) (eC (.int 3)))))))))
def s_law_train_7 : List D → R (D × Option D) := defL 1 4 (
  (bSeq (sSetX 1 (x2 addD (xOf (eC (.int 1))) (x2 modD (xCallL 0 s_law_next xaNil) (xOf (eC (.int 8))))))
  (bSeq (sSetX 2 (x2 ixD (xOf (eOwn (aThen (aCons (eC (.int 6)) (aCons (eC (.int 6)) (aCons (eC (.int 6)) (aCons (eC (.int 31)) aNil)))) mkLst))) (x2 modD (xCallL 0 s_law_next xaNil) (xOf (eC (.int 4))))))
  (bRetX (xOwn (aLcX (xiOf (aThen (aCons (eVar 1) aNil) rng1)) 3 xtYes (xCallL 0 s_law_part_5 (xaCons (xOf (e2 ixD (eOwn (aThen (aCons (eC (.int 6)) (aCons (eVar 2) aNil)) mkLst)) (eA intD (aCons (e2 eqD (eVar 3) (eC (.int 0))) aNil)))) xaNil))))))))
def s_law_stand_4 : List D → R (D × Option D) := defL 1 2 (
  (bRetX (xA tupleD (xaCons (xOwn (aLcX (xThen (xaCons (x2 addD (xOf (eC (.int 1))) (x2 modD (xCallL 0 s_law_next xaNil) (xOf (eC (.int 6))))) xaNil) rng1) 1 xtYes (xCallL 0 s_law_number xaNil))) xaNil))))
def s_law_part_text : List D → R D := defF 1 3 (
  (sSeq (sIf (tOf (e2 eqD (e2 ixD (eVar 0) (eC (.int 0))) (eC (.str "wheel")))) (sRet (e2 addD (e2 addD (e2 addD (eC (.str "w")) (eA strD (aCons (e2 ixD (eVar 0) (eC (.int 1))) aNil))) (eC (.str ":"))) (joinE (eC (.str ",")) (eOwn (aLc (aItN false (e2 ixD (eVar 0) (eC (.int 2)))) (putR 1) tYesM (eA strD (aCons (eVar 1) aNil)) [1]))))) sNop)
  (sRet (e2 addD (e2 ixD (eOwn (aThen (aCons (eC (.str "c")) (aCons (eC (.str "r")) (aCons (eC (.str "s")) aNil))) mkLst)) (indexE (eOwn (aThen (aCons (eC (.str "click")) (aCons (eC (.str "rocker")) (aCons (eC (.str "spring")) aNil))) mkLst)) (e2 ixD (eVar 0) (eC (.int 0))))) (joinE (eC (.str "")) (eOwn (aLc (aItN false (eCut (eVar 0) (pSo (eC (.int 1))) pNo)) (putR 2) tYesM (eA strD (aCons (eVar 2) aNil)) [2])))))))
def s_law_train_text : List D → R D := defF 1 2 (
  (sRet (joinE (eC (.str " ")) (eOwn (aLc (aItN false (eVar 0)) (putR 1) tYesM (eA (callF s_law_part_text) (aCons (eVar 1) aNil)) [1])))))
def s_part_shown : List D → R D := defF 1 2 (
  (sSeq (sIf (tOf (e2 eqD (e2 ixD (eVar 0) (eC (.int 0))) (eC (.str "wheel")))) (sRet (e2 addD (e2 addD (e2 addD (eC (.str "w")) (eA strD (aCons (e2 ixD (eVar 0) (eC (.int 1))) aNil))) (eC (.str ":"))) (joinE (eC (.str ",")) (eOwn (aLc (aItN false (e2 ixD (eVar 0) (eC (.int 2)))) (putR 1) tYesM (eA strD (aCons (eVar 1) aNil)) [1]))))) sNop)
  (sSeq (sIf (tOf (e2 eqD (e2 ixD (eVar 0) (eC (.int 0))) (eC (.str "spring")))) (sRet (e2 addD (eC (.str "s")) (eA strD (aCons (e2 ixD (eVar 0) (eC (.int 1))) aNil)))) sNop)
  (sRet (eCut (e2 ixD (eVar 0) (eC (.int 0))) pNo (pSo (eC (.int 1))))))))
def s_show_train : List D → R D := defF 1 2 (
  (sSeq (sExp (eA (callF s_check_train) (aCons (eVar 0) aNil)))
  (sRet (joinE (eC (.str " ")) (eOwn (aLc (aItN false (eVar 0)) (putR 1) tYesM (eA (callF s_part_shown) (aCons (eVar 1) aNil)) [1]))))))
def s_show_stand : List D → R D := defF 1 2 (
  (sRet (joinE (eC (.str "/")) (eOwn (aLc (aItN false (eVar 0)) (putR 1) tYesM (eA strD (aCons (eVar 1) aNil)) [1])))))
def s_read_stand : List D → R D := defF 1 2 (
  (sRet (eA tupleD (aCons (eOwn (aLc (aItN false (eOwn (strM splitD (eVar 0) (eC (.str "/"))))) (putR 1) tYesM (eA (callF s_count_in) (aCons (eVar 1) aNil)) [1])) aNil))))
def s_law_stand_text : List D → R D := defF 1 2 (
  (sRet (joinE (eC (.str "/")) (eOwn (aLc (aItN false (eVar 0)) (putR 1) tYesM (eA strD (aCons (eVar 1) aNil)) [1])))))
def s_law_plain_2_F (rec : List D → R D) : List D → R D := defF 1 2 (
  (sSeq (sIf (tOf (e1 (isiTD ["list", "tuple"]) (eVar 0))) (sRet (eA allD (aCons (eOwn (aLc (aItN false (eVar 0)) (putR 1) tYesM (eA (callF rec) (aCons (eVar 1) aNil)) [1])) aNil))) sNop)
  (sRet (eOr (e1 (isiD "str") (eVar 0)) (eA (callF s_law_whole) (aCons (eVar 0) aNil))))))
def s_law_plain_2_n : Nat → List D → R D
  | 0 => defF 1 2 fun _ => .stuck
  | t + 1 => s_law_plain_2_F (s_law_plain_2_n t)
def s_law_plain_2 : List D → R D := s_law_plain_2_n 10
def s_law_well : List D → R D := defF 2 8 (
  (sSeq (sSet 2 (eOwn (aThen (aCons (eVar 0) aNil) listO)))
  (sSeq (sSet 3 (eOwn (aThen (aCons (eA (callF s_law_train_text) (aCons (eVar 0) aNil)) (aCons (eA (callF s_law_stand_text) (aCons (eVar 1) aNil)) aNil)) mkLst)))
  (sSeq (sSet 4 (eOwn (aThen (aCons (eA (callF s_show_train) (aCons (eVar 2) aNil)) (aCons (eA (callF s_show_stand) (aCons (eVar 1) aNil)) aNil)) mkLst)))
  (sSeq (sIf (CT.tOr (tOf (e2 neD (eVar 4) (eVar 3))) (CT.tOr (CT.tNot (tOf (eA allD (aCons (eOwn (aLc (aItN false (eVar 4)) (putR 7) tYesM (e1 (isiD "str") (eVar 7)) [7])) aNil)))) (tOf (e2 neD (eVar 2) (eVar 0))))) (sRet (eC (.bl false))) sNop)
  (sSeq (sSetO 5 (aThen (aCons (e2 ixD (eVar 3) (eC (.int 0))) aNil) (callO s_read_train)))
  (sSeq (sIf (CT.tOr (CT.tNot (tOf (e1 (isiD "list") (eVar 5)))) (CT.tOr (tOf (e2 neD (eVar 5) (eVar 0))) (CT.tNot (tOf (eA (callF s_law_plain_2) (aCons (eVar 5) aNil)))))) (sRet (eC (.bl false))) sNop)
  (sSeq (sApp 5 (eC .non))
  (sSeq (sSet 6 (eA (callF s_read_stand) (aCons (e2 ixD (eVar 3) (eC (.int 1))) aNil)))
  (sRet (eAnd (e1 (isiD "tuple") (eVar 6)) (eAnd (e2 eqD (eVar 6) (eVar 1)) (eAnd (eA (callF s_law_plain_2) (aCons (eVar 6) aNil)) (e2 eqD (eA (callF s_read_train) (aCons (e2 ixD (eVar 3) (eC (.int 0))) aNil)) (eVar 0)))))))))))))))
def s_law_odd_train_2 : List D → R (D × Option D) := defL 2 4 (
  (bSeq (sSet 2 (eOwn (aThen (aCons (eC .non) (aCons (eA mkTup aNil) (aCons (eOwn (aThen aNil mkLst)) (aCons (eA tupleD (aCons (eVar 1) aNil)) (aCons (eC (.str "click")) (aCons (eOwn (aThen (aCons (eC .non) aNil) mkLst)) (aCons (eOwn (aThen (aCons (eA mkTup aNil) aNil) mkLst)) (aCons (eOwn (aThen (aCons (eOwn (aThen (aCons (eC (.str "click")) aNil) mkLst)) aNil) mkLst)) (aCons (eOwn (aThen (aCons (eA mkTup (aCons (eC (.str "click")) (aCons (eC (.int 0)) aNil))) aNil) mkLst)) (aCons (eOwn (aThen (aCons (eA mkTup (aCons (eC (.str "Click")) aNil)) aNil) mkLst)) aNil)))))))))) mkLst)))
  (bSeq (sSet 2 (e2 addD (eVar 2) (eOwn (aThen (aCons (eOwn (aThen (aCons (eA mkTup (aCons (eC (.str "wheel")) (aCons (eC (.int 3)) aNil))) aNil) mkLst)) (aCons (eOwn (aThen (aCons (eA mkTup (aCons (eC (.str "wheel")) (aCons (eC (.int 0)) (aCons (eA mkTup aNil) aNil)))) aNil) mkLst)) (aCons (eOwn (aThen (aCons (eA mkTup (aCons (eC (.str "wheel")) (aCons (eC (.int 3)) (aCons (eOwn (aThen (aCons (eC (.int 0)) aNil) mkLst)) aNil)))) aNil) mkLst)) (aCons (eOwn (aThen (aCons (eA mkTup (aCons (eC (.str "wheel")) (aCons (eC (.int 3)) (aCons (eA mkTup (aCons (eC (.int 1)) (aCons (eC (.int 1)) aNil))) aNil)))) aNil) mkLst)) aNil)))) mkLst))))
  (bSeq (sSet 2 (e2 addD (eVar 2) (eOwn (aThen (aCons (eOwn (aThen (aCons (eA mkTup (aCons (eC (.str "wheel")) (aCons (eC (.int 3)) (aCons (eA mkTup (aCons (eC (.int 2)) (aCons (eC (.int 1)) aNil))) aNil)))) aNil) mkLst)) aNil) mkLst))))
  (bSeq (sSet 2 (e2 addD (eVar 2) (eOwn (aThen (aCons (eOwn (aThen (aCons (eA mkTup (aCons (eC (.str "wheel")) (aCons (eC (.int 3)) (aCons (eA mkTup (aCons (eC (.int 3)) aNil)) aNil)))) aNil) mkLst)) (aCons (eOwn (aThen (aCons (eA mkTup (aCons (eC (.str "wheel")) (aCons (eC (.int 3)) (aCons (eA mkTup (aCons (e2 subD (eC (.int 0)) (eC (.int 1))) aNil)) aNil)))) aNil) mkLst)) (aCons (eOwn (aThen (aCons (eA mkTup (aCons (eC (.str "wheel")) (aCons (eC (.bl true)) (aCons (eA mkTup aNil) aNil)))) aNil) mkLst)) (aCons (eOwn (aThen (aCons (eA mkTup (aCons (eC (.str "wheel")) (aCons (eC (.int 3)) (aCons (eA mkTup (aCons (eC .non) aNil)) aNil)))) aNil) mkLst)) aNil)))) mkLst))))
  (bSeq (sSet 2 (e2 addD (eVar 2) (eOwn (aThen (aCons (eOwn (aThen (aCons (eA mkTup (aCons (eC (.str "spring")) aNil)) aNil) mkLst)) (aCons (eOwn (aThen (aCons (eA mkTup (aCons (eC (.str "spring")) (aCons (eC (.int 0)) aNil))) aNil) mkLst)) (aCons (eOwn (aThen (aCons (eA mkTup (aCons (eC (.str "spring")) (aCons (e2 subD (eC (.int 0)) (eC (.int 1))) aNil))) aNil) mkLst)) (aCons (eOwn (aThen (aCons (eA mkTup (aCons (eC (.str "spring")) (aCons (eC (.str "2")) aNil))) aNil) mkLst)) (aCons (eOwn (aThen (aCons (eA mkTup (aCons (eC (.str "spring")) (aCons (eC (.int 1)) (aCons (eC (.int 1)) aNil)))) aNil) mkLst)) aNil))))) mkLst))))
  (bSeq (sSet 2 (e2 addD (eVar 2) (eOwn (aThen (aCons (e2 addD (eVar 1) (eOwn (aThen (aCons (eC (.int 7)) aNil) mkLst))) (aCons (eOwn (aThen (aCons (eA mkTup (aCons (eC (.str "rocker")) (aCons (eC (.int 1)) aNil))) aNil) mkLst)) (aCons (eOwn (aThen (aCons (eA mkTup (aCons (eC (.str "rocker")) aNil)) (aCons (eC (.str "rocker")) aNil)) mkLst)) (aCons (eOwn (aThen (aCons (eA mkTup (aCons (eC (.str "wheel")) (aCons (eC (.int 2)) (aCons (eA mkTup (aCons (eC (.int 0)) aNil)) (aCons (eA mkTup aNil) aNil))))) aNil) mkLst)) (aCons (eOwn (aThen (aCons (eA mkTup (aCons (eC (.int 1)) aNil)) aNil) mkLst)) (aCons (eOwn (aThen (aCons (eOwn (aThen aNil mkLst)) aNil) mkLst)) aNil)))))) mkLst))))
  (bSeq (sSet 2 (e2 addD (eVar 2) (eOwn (aThen (aCons (e2 powD (eC (.int 10)) (eC (.int 30))) (aCons (eC (.bl true)) aNil)) mkLst))))
  (bSeq (sSetX 3 (x2 ixD (xOf (eVar 2)) (x2 modD (xCallL 0 s_law_next xaNil) (xOf (eC (.int 32))))))
  (bSeq (sIf (CT.tAnd (tOf (e1 (isiD "list") (eVar 3))) (tOf (e2 neD (eVar 3) (eOwn (aThen aNil mkLst))))) (sSetX 3 (x2 ixD (xOf (eOwn (aThen (aCons (eVar 3) (aCons (e2 addD (eVar 1) (eVar 3)) (aCons (e2 addD (eVar 3) (eVar 1)) aNil))) mkLst))) (x2 modD (xCallL 0 s_law_next xaNil) (xOf (eC (.int 3)))))) sNop)
  (bRet (eVar 3))))))))))))
def s_law_refused_2_xTra : List D → R D := defF 1 4 (
  (sSeq (sSet 1 (eC .non))
  (sSeq (sSet 2 (eA strA (aCons (eVar 0) aNil)))
  (sSeq (sTryK ["NoTrain"] 3 1 (sExp (eA (callF s_show_train) (aCons (eVar 0) aNil))))
  (sSeq (sIf (CT.tOr (CT.tNot (tOf (e1 (isxN [("NoTrain", true)]) (eVar 1)))) (CT.tOr (CT.tNot (tOf (e1 (isxN [("NoTrain", true)]) (eVar 1)))) (tOf (e2 neD (eA strA (aCons (eVar 0) aNil)) (eVar 2))))) (sRet (eC (.bl false))) sNop)
  (sRet (eNot (e1 (isxR [("NoTrain", false)]) (eVar 1)))))))))
def s_law_41_xTra : List D → R D := defF 1 8 (
  (sSeq (sSet 1 (e2 addD (e2 powD (eC (.int 10)) (eC (.int 39))) (eCallN (aThen (aCons (e2 ixD (e2 addF (eVar 0) (eOwn (aThen (aCons (eC (.int 0)) aNil) mkLst))) (eC (.int 0))) aNil) (callO s_law_draws)) s_law_next aNil)))
  (sSeq (sSet 2 (e2 repD (eOwn (aThen (aCons (eA mkTup (aCons (eC (.str "wheel")) (aCons (e2 subD (e2 powD (eC (.int 10)) (eC (.int 40))) (eC (.int 1))) (aCons (eA tupleD (aCons (eOwn (aLc (aThen (aCons (eC (.int 30)) aNil) rng1) (putR 6) tYesM (e2 addD (eVar 1) (eVar 6)) [6])) aNil)) aNil)))) aNil) mkLst)) (eC (.int 8))))
  (sSeq (sIf (CT.tNot (tOf (eA (callF s_law_well) (aCons (eVar 2) (aCons (e2 repT (eA mkTup (aCons (eC (.int 0)) aNil)) (eC (.int 8))) aNil))))) (sRet (eC (.bl false))) sNop)
  (sSeq (sFor (aItN true (e2 addD (eCut (eVar 0) pNo (pSo (eC (.int 6)))) (eOwn (aThen (aCons (eC (.int 0)) aNil) mkLst)))) (putR 3) (sNewL 4 (aThen (aCons (eVar 3) aNil) (callO s_law_draws))
  (sSeq (sSetX 5 (xOwn (aLcX (xiOf (aThen (aCons (eC (.int 2)) aNil) rng1)) 6 xtYes (xA mkTup (xaCons (xCallL 4 s_law_train_7 xaNil) (xaCons (xCallL 4 s_law_stand_4 xaNil) xaNil))))))
  (sSeq (sFor (aThen (aCons (eC (.int 3)) aNil) rng1) (putR 6) (sIfX (xtNot (xtOf (xA (callF s_law_refused_2_xTra) (xaCons (xCallL 4 s_law_odd_train_2 (xaCons (xOf (e2 ixD (e2 ixD (eVar 5) (eC (.int 0))) (eC (.int 0)))) xaNil)) xaNil)))) (sRet (eC (.bl false))) sNop))
  (sSeq (sSet 1 (eA (callF s_read_train) (aCons (eA (callF s_law_train_text) (aCons (e2 ixD (e2 ixD (eVar 5) (eC (.int 0))) (eC (.int 0))) aNil)) aNil)))
  (sFor (aItN true (eOwn (aThen (aCons (e2 ixD (eVar 5) (eC (.int 1))) (aCons (e2 ixD (eVar 5) (eC (.int 0))) aNil)) mkLst))) (gTupR 2 (gsCons (putR 2) (gsCons (putR 7) gsNil))) (sIf (CT.tOr (CT.tNot (tOf (eA (callF s_law_well) (aCons (eVar 2) (aCons (eVar 7) aNil))))) (tOf (e2 neD (eVar 1) (e2 ixD (e2 ixD (eVar 5) (eC (.int 0))) (eC (.int 0)))))) (sRet (eC (.bl false))) sNop)))))))
  (sRet (eC (.bl true))))))))
end
end CK

namespace CT
open PySem PySem.Spec PyProof.Rows L2
section
variable (m : Sl) (f g h : SemE) (op : D → D → R D) (a : SemA)
@[simp] theorem eVar_0 {x : D} {r : Sl} : eVar 0 (some x :: r) = .ok x := nr rfl
@[simp] theorem eVar_s {x : Option D} {r : Sl} {i : Nat} : eVar (i + 1) (x :: r) = eVar i r := nr rfl
@[simp] theorem eVar_1 {x y : Option D} {z : D} {r : Sl} : eVar 1 (x :: some z :: r) = .ok z := nr rfl
@[simp] theorem eC_eq (d : D) : eC d m = .ok d := nr rfl
@[simp] theorem e2_eq : e2 op f g m = (f m).bind fun x => (g m).bind fun y => op x y := nr rfl
@[simp] theorem e1_eq (o : D → R D) : e1 o f m = (f m).bind o := nr rfl
@[simp] theorem eA_eq (o : List D → R D) : eA o a m = (a m).bind o := nr rfl
@[simp] theorem aNil_eq : aNil m = .ok [] := nr rfl
@[simp] theorem aCons_eq : aCons f a m = (f m).bind fun x => (a m).bind fun xs => .ok (x :: xs) := nr rfl
@[simp] theorem tOf_eq : tOf f m = (f m).bind asB := nr rfl
@[simp] theorem tNot_eq (t : SemT) : CT.tNot t m = (t m).bind fun c => .ok (!c) := nr rfl
@[simp] theorem tAnd_eq (t u : SemT) : CT.tAnd t u m = (t m).bind fun c => if c = true then u m else .ok false := nr rfl
@[simp] theorem tOr_eq (t u : SemT) : CT.tOr t u m = (t m).bind fun c => if c = true then .ok true else u m := nr rfl
@[simp] theorem eAnd_eq : eAnd f g m = (f m).bind fun x => (asB x).bind fun c => if c = true then g m else .ok (.bl false) := nr rfl
@[simp] theorem eOr_eq : eOr f g m = (f m).bind fun x => (asB x).bind fun c => if c = true then .ok (.bl true) else g m := nr rfl
@[simp] theorem eNot_eq : eNot f m = (f m).bind fun x => (asB x).bind fun c => .ok (.bl (!c)) := nr rfl
@[simp] theorem eOwn_eq : eOwn a m = (a m).bind fun xs => .ok (.lst false xs) := nr rfl
@[simp] theorem aThen_eq (k : List D → R (List D)) : aThen a k m = (a m).bind k := nr rfl
@[simp] theorem a2_eq (o : D → D → R (List D)) : a2 o f g m = (f m).bind fun x => (g m).bind fun y => o x y := nr rfl
@[simp] theorem aItN_eq (s : Bool) : aItN s f m = (f m).bind (itemsN s) := nr rfl
@[simp] theorem eChain_eq (p q : D → D → R D) : eChain p q f g h m = (f m).bind fun x => (g m).bind fun y => (p x y).bind fun z => (asB z).bind fun c => if c = true then (h m).bind fun w => q y w else .ok (.bl false) := nr rfl
@[simp] theorem pNo_eq : pNo m = .ok none := nr rfl
@[simp] theorem pSo_eq : pSo f m = (f m).bind fun d => (asI d).bind fun i => .ok (some i) := nr rfl
@[simp] theorem eCut_eq (p q : SemP) : eCut f p q m = (f m).bind fun x => (p m).bind fun lo => (q m).bind fun hi => cutD x lo hi := nr rfl
@[simp] theorem aLc_eq (gg : SemG) (t : SemT) (vs : List Nat) : aLc a gg t f vs m = (a m).bind fun ds => (lcGo gg t f (wipeM m vs) ds).bind fun r => if r.length ≤ sizeLine then .ok r else .stuck := nr rfl
@[simp] theorem tYesM_eq : tYesM m = .ok true := nr rfl
@[simp] theorem asB_bl (c : Bool) : asB (.bl c) = .ok c := nr rfl
@[simp] theorem asI_int (i : Int) : asI (.int i) = .ok i := nr rfl
@[simp] theorem wipeM_nil : wipeM m [] = m := nr rfl
@[simp] theorem wipeM_cons (v : Nat) (vs : List Nat) : wipeM m (v :: vs) = (wipeM m vs).set v none := nr rfl
variable (s t : SemS)
@[simp] theorem sNop_eq : sNop m = .nx m := nr rfl
@[simp] theorem sSeq_eq : sSeq s t m = sThen (s m) t := nr rfl
@[simp] theorem sExp_eq : sExp f m = ofR m (f m) fun _ => .nx m := nr rfl
def kRet (d : D) : RS := .rt (still d)
@[simp] theorem kRet_eq (d : D) : kRet d = .rt (still d) := nr rfl
@[simp] theorem sRet_eq : sRet f m = ofR m (f m) kRet := nr rfl
@[simp] theorem sRetO_eq : sRetO a m = ofR m (a m) fun ds => if hasTL ds = true then .stuck else .rt (.lst true ds) := nr rfl
def kIf (s t : SemS) (m : Sl) (c : Bool) : RS := if c = true then s m else t m
@[simp] theorem kIf_t : kIf s t m true = s m := nr rfl
@[simp] theorem kIf_f : kIf s t m false = t m := nr rfl
@[simp] theorem sIf_eq (c : SemT) : sIf c s t m = ofR m (c m) (kIf s t m) := nr rfl
def kSet (i : Nat) (m : Sl) (d : D) : RS := ofR m (putR i d m) fun m' => .nx m'
@[simp] theorem kSet_eq (i : Nat) (d : D) : kSet i m d = if hasT d = true then .stuck else .nx (m.set i (some d)) := by unfold kSet putR; split <;> rfl
@[simp] theorem sSet_eq (i : Nat) : sSet i f m = ofR m (f m) (kSet i m) := nr rfl
@[simp] theorem sSetO_eq (i : Nat) : sSetO i a m = ofR m (a m) fun ds => if hasTL ds = true then .stuck else .nx (m.set i (some (.lst true ds))) := nr rfl
@[simp] theorem putR_eq (i : Nat) (d : D) : putR i d m = if hasT d = true then .stuck else .ok (m.set i (some d)) := nr rfl
@[simp] theorem sApp_eq (i : Nat) : sApp i f m = mine i m fun xs => ofR m (f m) fun d => if hasT d = true then .stuck else if xs.length < sizeLine then .nx (m.set i (some (.lst true (xs ++ [d])))) else .stuck := nr rfl
@[simp] theorem sAsg_eq (gg : SemG) : sAsg f gg m = ofR m (f m) fun d => if hasT d = true then .stuck else match gg d m with
  | .ok m' => .nx m'
  | _ => .stuck := nr rfl
@[simp] theorem sFor_eq (gg : SemG) : sFor a gg s m = ofR m (a m) fun ds => forGo gg s ds m := nr rfl
@[simp] theorem gsNil_nil : gsNil [] m = .ok m := nr rfl
@[simp] theorem gsCons_cons (gg : SemG) (hh : SemGs) (d : D) (r : List D) : gsCons gg hh (d :: r) m = (gg d m).bind fun m1 => hh r m1 := nr rfl
@[simp] theorem gTupR_tup (n : Nat) (hh : SemGs) (ds : List D) : gTupR n hh (.tup ds) m = if ds.length = n then hh ds m else .stuck := nr rfl
end
@[simp] theorem hasT_int (i : Int) : hasT (.int i) = false := nr rfl
@[simp] theorem hasT_bl (b : Bool) : hasT (.bl b) = false := nr rfl
@[simp] theorem hasT_str (x : Str) : hasT (.str x) = false := nr rfl
@[simp] theorem hasT_non : hasT .non = false := nr rfl
@[simp] theorem hasT_tup (xs : List D) : hasT (.tup xs) = hasTL xs := nr rfl
@[simp] theorem hasT_lst (t : Bool) (xs : List D) : hasT (.lst t xs) = (t || hasTL xs) := nr rfl
@[simp] theorem hasT_fr (xs : List D) : hasT (.fr xs) = hasTL xs := nr rfl
@[simp] theorem hasTL_nil : hasTL [] = false := nr rfl
@[simp] theorem hasTL_cons (x : D) (xs : List D) : hasTL (x :: xs) = (hasT x || hasTL xs) := nr rfl
@[simp] theorem still_int (i : Int) : still (.int i) = .int i := nr rfl
@[simp] theorem still_bl (b : Bool) : still (.bl b) = .bl b := nr rfl
@[simp] theorem still_str (x : Str) : still (.str x) = .str x := nr rfl
@[simp] theorem still_non : still .non = .non := nr rfl
@[simp] theorem still_tup (xs : List D) : still (.tup xs) = .tup (stillL xs) := nr rfl
@[simp] theorem still_lst (t : Bool) (xs : List D) : still (.lst t xs) = .lst false (stillL xs) := nr rfl
@[simp] theorem still_fr (xs : List D) : still (.fr xs) = .fr (stillL xs) := nr rfl
@[simp] theorem stillL_nil : stillL [] = [] := nr rfl
@[simp] theorem stillL_cons (x : D) (xs : List D) : stillL (x :: xs) = still x :: stillL xs := nr rfl
@[simp] theorem isFlat_int (i : Int) : isFlat (.int i) = true := nr rfl
@[simp] theorem isFlat_bl (i : Bool) : isFlat (.bl i) = true := nr rfl
@[simp] theorem isFlat_str (i : Str) : isFlat (.str i) = true := nr rfl
@[simp] theorem isFlat_non : isFlat .non = true := nr rfl
@[simp] theorem isFlat_tup (xs : List D) : isFlat (.tup xs) = isFlatL xs := nr rfl
@[simp] theorem isFlatL_nil : isFlatL [] = true := nr rfl
@[simp] theorem isFlatL_cons (x : D) (xs : List D) : isFlatL (x :: xs) = (isFlat x && isFlatL xs) := nr rfl
theorem hasTL_all {xs : List D} (h : ∀ x ∈ xs, hasT x = false) : hasTL xs = false := by
  induction xs with
  | nil => rfl
  | cons x xs ih => rw [hasTL_cons, h x (by simp), ih fun y hy => h y (by simp [hy])]; rfl
theorem hasTL_map {α : Type} {f : α → D} (h : ∀ a, hasT (f a) = false) (l : List α) : hasTL (l.map f) = false := hasTL_all fun x hx => by
  obtain ⟨a, _, rfl⟩ := List.mem_map.mp hx
  exact h a
theorem stillL_map {α : Type} {f : α → D} (h : ∀ a, still (f a) = f a) (l : List α) : stillL (l.map f) = l.map f := by
  induction l with
  | nil => rfl
  | cons a l ih => rw [List.map_cons, stillL_cons, h, ih]
@[simp] theorem hasTL_ints (l : List Int) : hasTL (l.map D.int) = false := hasTL_map (fun _ => rfl) l
@[simp] theorem stillL_ints (l : List Int) : stillL (l.map D.int) = l.map D.int := stillL_map (fun _ => rfl) l
@[simp] theorem addD_int (i j : Int) : addD (.int i) (.int j) = .ok (.int (i + j)) := nr rfl
@[simp] theorem subD_int (i j : Int) : subD (.int i) (.int j) = .ok (.int (i - j)) := nr rfl
@[simp] theorem ltD_int (i j : Int) : ltD (.int i) (.int j) = .ok (.bl (decide (i < j))) := nr rfl
@[simp] theorem leD_int (i j : Int) : leD (.int i) (.int j) = .ok (.bl (decide (i ≤ j))) := nr rfl
@[simp] theorem geD_int (i j : Int) : geD (.int i) (.int j) = .ok (.bl (decide (j ≤ i))) := nr rfl
theorem mulD_ok {i j : Int} (h : mulOk i j) : mulD (.int i) (.int j) = .ok (.int (i * j)) := by simp only [mulD]; rw [if_pos h]
theorem mulD_l {i j : Int} (h : -(2 ^ 64) < i ∧ i < 2 ^ 64) : mulD (.int i) (.int j) = .ok (.int (i * j)) := mulD_ok (.inl h)
theorem mulD_r {i j : Int} (h : -(2 ^ 64) < j ∧ j < 2 ^ 64) : mulD (.int i) (.int j) = .ok (.int (i * j)) := mulD_ok (.inr (.inl h))
theorem modD_ok {i j : Int} (h : 0 < j) : modD (.int i) (.int j) = .ok (.int (i % j)) := by
  simp only [modD]; rw [if_pos (by omega), Int.fmod_eq_emod_of_nonneg i (by omega)]
theorem divD_ok {i j : Int} (h : 0 < j) (h2 : divOk j) : divD (.int i) (.int j) = .ok (.int (i / j)) := by
  simp only [divD]; rw [if_pos h2, Int.fdiv_eq_ediv_of_nonneg i (by omega)]
theorem divD_s {i j : Int} (h : 0 < j) (h2 : j < 1073741824) : divD (.int i) (.int j) = .ok (.int (i / j)) := divD_ok h (.inl ⟨by omega, by omega⟩)
@[simp] theorem intD_int (i : Int) : intD [.int i] = .ok (.int i) := nr rfl
@[simp] theorem intD_bl (c : Bool) : intD [.bl c] = .ok (.int (if c then 1 else 0)) := nr rfl
@[simp] theorem lenD_lst (t : Bool) (xs : List D) : lenD [.lst t xs] = .ok (.int xs.length) := nr rfl
@[simp] theorem lenD_fr (xs : List D) : lenD [.fr xs] = .ok (.int xs.length) := nr rfl
@[simp] theorem lenD_tup (xs : List D) : lenD [.tup xs] = .ok (.int xs.length) := nr rfl
@[simp] theorem tupleD_lst (t : Bool) (xs : List D) : tupleD [.lst t xs] = .ok (.tup xs) := nr rfl
@[simp] theorem tupleD_tup (xs : List D) : tupleD [.tup xs] = .ok (.tup xs) := nr rfl
@[simp] theorem listO_lst (t : Bool) (xs : List D) : listO [.lst t xs] = .ok xs := nr rfl
@[simp] theorem listO_tup (xs : List D) : listO [.tup xs] = .ok xs := nr rfl
@[simp] theorem listO_fr (xs : List D) : listO [.fr xs] = .ok xs := nr rfl
theorem sizeBig : (sizeLine : Nat) = 16777216 := sizeLine_eq
theorem small {n : Nat} (h : n ≤ 16777216) : n ≤ sizeLine := by rw [sizeBig]; exact h
@[simp] theorem mkTup_0 : mkTup [] = .ok (.tup []) := by unfold mkTup; rw [if_pos (small (by simp))]
@[simp] theorem mkTup_1 (a : D) : mkTup [a] = .ok (.tup [a]) := by unfold mkTup; rw [if_pos (small (by simp))]
@[simp] theorem mkTup_2 (a b : D) : mkTup [a, b] = .ok (.tup [a, b]) := by unfold mkTup; rw [if_pos (small (by simp))]
@[simp] theorem mkTup_3 (a b c : D) : mkTup [a, b, c] = .ok (.tup [a, b, c]) := by unfold mkTup; rw [if_pos (small (by simp))]
@[simp] theorem mkTup_4 (a b c d : D) : mkTup [a, b, c, d] = .ok (.tup [a, b, c, d]) := by unfold mkTup; rw [if_pos (small (by simp))]
theorem mkLst_s {xs : List D} (h : xs.length ≤ 16777216) : mkLst xs = .ok xs := by unfold mkLst; rw [if_pos (small h)]
@[simp] theorem mkLst_0 : mkLst [] = .ok [] := mkLst_s (by simp)
@[simp] theorem mkLst_1 (a : D) : mkLst [a] = .ok [a] := mkLst_s (by simp)
@[simp] theorem mkLst_2 (a b : D) : mkLst [a, b] = .ok [a, b] := mkLst_s (by simp)
@[simp] theorem mkLst_3 (a b c : D) : mkLst [a, b, c] = .ok [a, b, c] := mkLst_s (by simp)
@[simp] theorem mkLst_4 (a b c d : D) : mkLst [a, b, c, d] = .ok [a, b, c, d] := mkLst_s (by simp)
theorem defF_eq (n k : Nat) (g : SemS) (ds : List D) (h : ds.length = n) : defF n k g ds = match g (ds.map some ++ List.replicate (k - n) none) with
  | .nx _ => .ok .non
  | .rt d => .ok d
  | .exc c _ => .exc c
  | _ => .stuck := by
  unfold defF bodyF startM
  rw [if_pos h, List.length_map, h]
  all_goals (cases g (List.map some ds ++ List.replicate (k - n) none) <;> rfl)
@[simp] theorem callF_eq (f : List D → R D) (ds : List D) : callF f ds = (f (stillL ds)).bind fun d => if hasTL ds = true then (if isFlat (still d) = true then .ok (still d) else .stuck) else .ok (still d) := nr rfl
@[simp] theorem mine_0 {xs : List D} {r : Sl} {k : List D → RS} : mine 0 (some (.lst true xs) :: r) k = k xs := nr rfl
@[simp] theorem mine_s {x : Option D} {r : Sl} {i : Nat} {k : List D → RS} : mine (i + 1) (x :: r) k = mine i r k := nr rfl
mutual
def lay : D → Bool
  | .tup xs => layL xs
  | .lst _ xs => layL xs
  | .fr xs => layL xs
  | .str x => PyData.strOk x
  | .non => true
  | .bl _ => true
  | .int _ => true
  | .unk => true
  | .ex _ => true
  | .fn _ => true
  | .dic _ _ => true
  | .dct _ _ _ => true
def layL : List D → Bool
  | [] => true
  | x :: xs => lay x && layL xs
end
mutual
theorem lay_py : ∀ d, PyData.canLay0 (py d) = lay d
  | .tup xs => by simp only [py, PyData.canLay0, lay, layL_py xs]
  | .lst _ xs => by simp only [py, PyData.canLay0, lay, layL_py xs]
  | .fr xs => by simp only [py, PyData.canLay0, lay, layL_py xs]
  | .str _ => by simp only [py, PyData.canLay0, lay]
  | .non => by simp only [py, PyData.canLay0, lay]
  | .bl _ => by simp only [py, PyData.canLay0, lay]
  | .int _ => by simp only [py, PyData.canLay0, lay]
  | .unk => by simp only [py, lay]; decide +kernel
  | .ex _ => by simp only [py, lay]; decide +kernel
  | .fn _ => by simp only [py, lay]; decide +kernel
  | .dic _ _ => by simp only [py, lay]; decide +kernel
  | .dct _ _ _ => by simp only [py, lay]; decide +kernel
theorem layL_py : ∀ ds, PyData.canLayAll0 (pyL ds) = layL ds
  | [] => by simp only [pyL, PyData.canLayAll0, layL]
  | x :: xs => by simp only [pyL, PyData.canLayAll0, layL, lay_py x, layL_py xs]
end
def Sh (n : Nat) (d : D) : Prop := lay d = true ∧ PyData.depth (py d) ≤ n
theorem Sh.mono {n k : Nat} {d : D} (h : Sh n d) (l : n ≤ k) : Sh k d := ⟨h.1, Nat.le_trans h.2 l⟩
theorem sh_int (n : Nat) (i : Int) : Sh n (.int i) := ⟨rfl, by simp [py, PyData.depth]⟩
theorem sh_str {n : Nat} {x : Str} (h : PyData.strOk x = true) : Sh n (.str x) := ⟨h, by simp [py, PyData.depth]⟩
theorem shL {n : Nat} : ∀ {xs : List D}, (∀ x ∈ xs, Sh n x) → layL xs = true ∧ PyData.depthAll (pyL xs) ≤ n
  | [], _ => ⟨rfl, by simp [pyL, PyData.depthAll]⟩
  | x :: xs, h => by
    obtain ⟨h1, h2⟩ := shL (xs := xs) fun y hy => h y (by simp [hy])
    obtain ⟨k1, k2⟩ := h x (by simp)
    refine ⟨by simp [layL, k1, h1], ?_⟩
    simp only [pyL, PyData.depthAll]
    omega
theorem sh_tup {n : Nat} {xs : List D} (h : ∀ x ∈ xs, Sh n x) : Sh (n + 1) (.tup xs) := by
  obtain ⟨h1, h2⟩ := shL h
  exact ⟨h1, by simp only [py, PyData.depth]; omega⟩
theorem sh_lst {n : Nat} {t : Bool} {xs : List D} (h : ∀ x ∈ xs, Sh n x) : Sh (n + 1) (.lst t xs) := by
  obtain ⟨h1, h2⟩ := shL h
  exact ⟨h1, by simp only [py, PyData.depth]; omega⟩
theorem sh_fr {n : Nat} {xs : List D} (h : ∀ x ∈ xs, Sh n x) : Sh (n + 1) (.fr xs) := by
  obtain ⟨h1, h2⟩ := shL h
  exact ⟨h1, by simp only [py, PyData.depth]; omega⟩
theorem sh_shaped {n : Nat} {d : D} (h : Sh n d) (l : n ≤ 64) : SeqAt.shaped (py d) = true := by
  unfold SeqAt.shaped
  rw [lay_py, h.1]
  simp only [Bool.true_and, decide_eq_true_eq]
  exact Nat.le_trans h.2 l
theorem eqD_ok {x y : D} (hx : Sh 64 x) (hy : Sh 64 y) : eqD x y = .ok (.bl (eqvD x y)) := by
  unfold eqD
  rw [sh_shaped hx (by omega), sh_shaped hy (by omega)]
  rfl
theorem neD_ok {x y : D} (hx : Sh 64 x) (hy : Sh 64 y) : neD x y = .ok (.bl (!eqvD x y)) := by
  unfold neD
  rw [sh_shaped hx (by omega), sh_shaped hy (by omega)]
  rfl
theorem eqv_self {x : D} (h : lay x = true) : eqvD x x = true := SeqAt.eqv_refl _ (by rw [lay_py]; exact h)
theorem eqv_py {x y : D} (e : py x = py y) (h : lay x = true) : eqvD x y = true := by
  unfold eqvD
  rw [← e]
  exact eqv_self h
@[simp] theorem eqD_int (i j : Int) : eqD (.int i) (.int j) = .ok (.bl (decide (i = j))) := by
  rw [eqD_ok (sh_int _ _) (sh_int _ _)]
  simp only [eqvD, py, PyData.eqv]
  rw [Bool.beq_eq_decide_eq]
@[simp] theorem neD_int (i j : Int) : neD (.int i) (.int j) = .ok (.bl (!decide (i = j))) := by
  rw [neD_ok (sh_int _ _) (sh_int _ _)]
  simp only [eqvD, py, PyData.eqv]
  rw [Bool.beq_eq_decide_eq]
theorem eqD_str {x y : Str} (hx : PyData.strOk x = true) (hy : PyData.strOk y = true) : eqD (.str x) (.str y) = .ok (.bl (x == y)) := by
  rw [eqD_ok (sh_str hx) (sh_str hy)]
  simp [eqvD, py, PyData.eqv]
theorem neD_str {x y : Str} (hx : PyData.strOk x = true) (hy : PyData.strOk y = true) : neD (.str x) (.str y) = .ok (.bl (!(x == y))) := by
  rw [neD_ok (sh_str hx) (sh_str hy)]
  simp [eqvD, py, PyData.eqv]
theorem eqD_strs (x y : Str) : eqD (.str x) (.str y) = .ok (.bl (x == y)) := by
  unfold eqD
  rw [if_pos (by simp [strs2])]
  simp [eqvD, py, PyData.eqv]
theorem neD_strs (x y : Str) : neD (.str x) (.str y) = .ok (.bl (!(x == y))) := by
  unfold neD
  rw [if_pos (by simp [strs2])]
  simp [eqvD, py, PyData.eqv]
end CT

namespace CT
open PySem PySem.Spec PyProof.Rows L2
structure Po where
  nx : Sl → Prop
  ct : Sl → Prop := fun _ => False
  bk : Sl → Prop := fun _ => False
  rt : D → Prop := fun _ => False
  ex : String → Prop := fun _ => False
def wp (r : RS) (Q : Po) : Prop := match r with
  | .nx m => Q.nx m
  | .ct m => Q.ct m
  | .bk m => Q.bk m
  | .rt d => Q.rt d
  | .exc c _ => Q.ex c
  | .stuck => False
def wpR {α : Type} (r : R α) (Q : α → Prop) (E : String → Prop := fun _ => False) : Prop := match r with
  | .ok a => Q a
  | .exc c => E c
  | .stuck => False
@[simp] theorem wpR_ok {α : Type} (a : α) (Q : α → Prop) (E) : wpR (.ok a) Q E = Q a := nr rfl
@[simp] theorem wpR_exc {α : Type} (c : String) (Q : α → Prop) (E) : wpR (.exc c) Q E = E c := nr rfl
@[simp] theorem wpR_stuck {α : Type} (Q : α → Prop) (E) : wpR .stuck Q E = False := nr rfl
@[simp] theorem wpR_bind {α β : Type} (r : R α) (k : α → R β) (Q : β → Prop) (E) : wpR (r.bind k) Q E = wpR r (fun a => wpR (k a) Q E) E := by cases r <;> rfl
theorem wpR_eq {α : Type} {r : R α} {a : α} (h : wpR r (fun x => x = a)) : r = .ok a := by
  cases r with
  | ok x => exact congrArg _ h
  | exc c => exact h.elim
  | stuck => exact h.elim
theorem wpR_ex {α : Type} {r : R α} {Q : α → Prop} (h : wpR r Q) : ∃ a, r = .ok a ∧ Q a := by
  cases r with
  | ok x => exact ⟨x, rfl, h⟩
  | exc c => exact h.elim
  | stuck => exact h.elim
section
variable {Q : Po}
@[simp] theorem wp_nx (m : Sl) : wp (.nx m) Q = Q.nx m := nr rfl
@[simp] theorem wp_ct (m : Sl) : wp (.ct m) Q = Q.ct m := nr rfl
@[simp] theorem wp_bk (m : Sl) : wp (.bk m) Q = Q.bk m := nr rfl
@[simp] theorem wp_rt (d : D) : wp (.rt d) Q = Q.rt d := nr rfl
@[simp] theorem wp_exc (c : String) (m : Sl) : wp (.exc c m) Q = Q.ex c := nr rfl
@[simp] theorem wp_stuck : wp .stuck Q = False := nr rfl
def thP (k : Sl → RS) (Q : Po) : Po := ⟨fun m => wp (k m) Q, Q.ct, Q.bk, Q.rt, Q.ex⟩
@[simp] theorem thP_nx (k : Sl → RS) (m : Sl) : (thP k Q).nx m = wp (k m) Q := nr rfl
@[simp] theorem thP_ct (k : Sl → RS) : (thP k Q).ct = Q.ct := nr rfl
@[simp] theorem thP_bk (k : Sl → RS) : (thP k Q).bk = Q.bk := nr rfl
@[simp] theorem thP_rt (k : Sl → RS) : (thP k Q).rt = Q.rt := nr rfl
@[simp] theorem thP_ex (k : Sl → RS) : (thP k Q).ex = Q.ex := nr rfl
@[simp] theorem wp_then (r : RS) (k : Sl → RS) : wp (sThen r k) Q = wp r (thP k Q) := by cases r <;> rfl
def kP {α : Type} (k : α → RS) (Q : Po) (a : α) : Prop := wp (k a) Q
@[simp] theorem kP_eq {α : Type} (k : α → RS) (a : α) : kP k Q a = wp (k a) Q := nr rfl
@[simp] theorem wp_ofR {α : Type} (m : Sl) (r : R α) (k : α → RS) : wp (ofR m r k) Q = wpR r (kP k Q) Q.ex := by cases r <;> rfl
theorem wp_imp {r : RS} {Q' : Po} (h : wp r Q) (h1 : ∀ m, Q.nx m → Q'.nx m) (h2 : ∀ m, Q.ct m → Q'.ct m) (h3 : ∀ m, Q.bk m → Q'.bk m) (h4 : ∀ d, Q.rt d → Q'.rt d) (h5 : ∀ c, Q.ex c → Q'.ex c) : wp r Q' := by
  cases r with
  | nx m => exact h1 _ h
  | ct m => exact h2 _ h
  | bk m => exact h3 _ h
  | rt m => exact h4 _ h
  | exc c m => exact h5 _ h
  | stuck => exact h
def wpG (r : R Sl) (Q : Sl → Prop) : Prop := match r with
  | .ok m => Q m
  | _ => False
@[simp] theorem wpG_ok (m : Sl) (Q : Sl → Prop) : wpG (.ok m) Q = Q m := nr rfl
@[simp] theorem wp_matchG (r : R Sl) : wp (match r with | .ok m' => RS.nx m' | _ => .stuck) Q = wpG r Q.nx := by cases r <;> rfl
@[simp] theorem wp_for_nil (g : SemG) (body : SemS) (m : Sl) : wp (forGo g body [] m) Q = Q.nx m := nr rfl
@[simp] theorem wp_for_cons (g : SemG) (body : SemS) (d : D) (ds : List D) (m : Sl) : wp (forGo g body (d :: ds) m) Q = wpG (g d m) fun m1 => wp (body m1) ⟨fun m2 => wp (forGo g body ds m2) Q, fun m2 => wp (forGo g body ds m2) Q, Q.nx, Q.rt, Q.ex⟩ := by
  simp only [forGo]
  cases g d m with
  | ok m1 => simp only [wpG_ok]; cases body m1 <;> rfl
  | exc c => rfl
  | stuck => rfl
theorem wp_for {g : SemG} {body : SemS} {ds : List D} {m : Sl} (I : Nat → Sl → Prop) (h0 : I 0 m)
    (hs : ∀ i d, ds[i]? = some d → ∀ m, I i m → wpG (g d m) fun m1 => wp (body m1) ⟨I (i + 1), I (i + 1), Q.nx, Q.rt, Q.ex⟩) (hk : ∀ m', I ds.length m' → Q.nx m') : wp (forGo g body ds m) Q := by
  have gen : ∀ (n i : Nat) (m : Sl), i + n = ds.length → I i m → wp (forGo g body (ds.drop i) m) Q := by
    intro n
    induction n with
    | zero => intro i m e h; rw [List.drop_eq_nil_of_le (by omega)]; rw [show i = ds.length by omega] at h; exact hk m h
    | succ n ih =>
      intro i m e h
      have hi : i < ds.length := by omega
      rw [List.drop_eq_getElem_cons hi, wp_for_cons]
      have := hs i ds[i] (by simp [hi]) m h
      cases hg : g ds[i] m with
      | ok m1 =>
        rw [hg] at this
        exact wp_imp this (fun m2 z => ih (i + 1) m2 (by omega) z) (fun m2 z => ih (i + 1) m2 (by omega) z) (fun _ z => z) (fun _ z => z) (fun _ z => z)
      | exc c => rw [hg] at this; exact this
      | stuck => rw [hg] at this; exact this
  exact gen ds.length 0 m (by omega) h0
theorem wp_rng {g : SemG} {body : SemS} {lo : Int} {n : Nat} {m : Sl} (I : Nat → Sl → Prop) (h0 : I 0 m)
    (hs : ∀ i, i < n → ∀ m, I i m → wpG (g (.int (lo + (i : Nat))) m) fun m1 => wp (body m1) ⟨I (i + 1), I (i + 1), Q.nx, Q.rt, Q.ex⟩) (hk : ∀ m', I n m' → Q.nx m') : wp (forGo g body (rng lo n) m) Q :=
  wp_for I h0 (fun i d e m h => by
    obtain ⟨h1, h2⟩ := List.getElem?_eq_some_iff.mp e
    rw [rng_length] at h1
    rw [rng_get lo n i h1] at e
    cases e
    exact hs i h1 m h) (fun m' h => hk m' (by rw [rng_length] at h; exact h))
theorem wp_map {α : Type} {enc : α → D} {xs : List α} {g : SemG} {body : SemS} {m : Sl} (I : Nat → Sl → Prop) (h0 : I 0 m)
    (hs : ∀ i a, xs[i]? = some a → ∀ m, I i m → wpG (g (enc a) m) fun m1 => wp (body m1) ⟨I (i + 1), I (i + 1), Q.nx, Q.rt, Q.ex⟩) (hk : ∀ m', I xs.length m' → Q.nx m') : wp (forGo g body (xs.map enc) m) Q :=
  wp_for I h0 (fun i d e m h => by
    rw [List.getElem?_map] at e
    cases hx : xs[i]? with
    | none => rw [hx] at e; cases e
    | some a => rw [hx] at e; cases e; exact hs i a hx m h) (fun m' h => hk m' (by rw [List.length_map] at h; exact h))
theorem wp_each {α : Type} {enc : α → D} {xs : List α} {g : SemG} {body : SemS} {m : Sl} (I : Sl → Prop) (h0 : I m)
    (hs : ∀ a ∈ xs, ∀ m, I m → wpG (g (enc a) m) fun m1 => wp (body m1) ⟨I, I, Q.nx, Q.rt, Q.ex⟩) (hk : ∀ m', I m' → Q.nx m') : wp (forGo g body (xs.map enc) m) Q :=
  wp_map (fun _ => I) h0 (fun i a e m h => hs a (List.mem_of_getElem? e) m h) hk
end
theorem def_run {n k : Nat} {g : SemS} {ds : List D} {Q : D → Prop} {E : String → Prop} (h : ds.length = n) (w : wp (g (ds.map some ++ List.replicate (k - n) none)) ⟨fun _ => Q .non, fun _ => False, fun _ => False, Q, E⟩) : wpR (defF n k g ds) Q E := by
  rw [defF_eq _ _ _ _ h]
  cases hg : g (List.map some ds ++ List.replicate (k - n) none) <;> rw [hg] at w <;> exact w
theorem def_ok1 {n k : Nat} {g : SemS} {ds : List D} {d : D} (h : ds.length = n) (w : wp (g (ds.map some ++ List.replicate (k - n) none)) ⟨fun _ => D.non = d, fun _ => False, fun _ => False, fun x => x = d, fun _ => False⟩) : defF n k g ds = .ok d :=
  wpR_eq (def_run h w)
theorem def_ex1 {n k : Nat} {g : SemS} {ds : List D} {c : String} (h : ds.length = n) (w : wp (g (ds.map some ++ List.replicate (k - n) none)) ⟨fun _ => False, fun _ => False, fun _ => False, fun _ => False, fun x => x = c⟩) : defF n k g ds = .exc c := by
  have := def_run (Q := fun _ => False) (E := fun x => x = c) h w
  cases hd : defF n k g ds with
  | ok x => rw [hd] at this; exact this.elim
  | exc e => rw [hd] at this; exact congrArg _ this
  | stuck => rw [hd] at this; exact this.elim
@[simp] theorem rng1_int {j : Int} (h : -(2 ^ 62) ≤ j ∧ j < 2 ^ 62) : rng1 [.int j] = .ok (rng 0 j.toNat) := by simp only [rng1]; rw [if_pos h]
@[simp] theorem itemsN_lst {xs : List D} {s : Bool} (h : hasTL xs = false) : itemsN s (.lst false xs) = .ok xs := by simp [itemsN, items, h]
@[simp] theorem itemsN_own {xs : List D} {t : Bool} : itemsN false (.lst t xs) = .ok xs := by simp [itemsN, items]
theorem powD_lit {i j : Int} (h : 0 ≤ j ∧ (Builtin.Int.intBits i : Int) * j ≤ 2 ^ 27) : powD (.int i) (.int j) = .ok (.int (i ^ j.toNat)) := by simp only [powD]; rw [if_pos h]
@[simp] theorem pow10_18 : powD (.int 10) (.int 18) = .ok (.int 1000000000000000000) := by rw [powD_lit (by decide +kernel)]; rfl
@[simp] theorem pow10_6 : powD (.int 10) (.int 6) = .ok (.int 1000000) := by rw [powD_lit (by decide +kernel)]; rfl
end CT

namespace CT
open PySem PySem.Spec PyProof.Rows L2
def wpX {α : Type} (r : R (α × Sl)) (P : α → Sl → Prop) : Prop := match r with
  | .ok (a, m) => P a m
  | _ => False
@[simp] theorem wpX_ok {α : Type} (a : α) (m : Sl) (P : α → Sl → Prop) : wpX (.ok (a, m)) P = P a m := nr rfl
@[simp] theorem wpX_stuck {α : Type} (P : α → Sl → Prop) : wpX (.stuck : R (α × Sl)) P = False := nr rfl
@[simp] theorem wpX_bind {α β : Type} (r : R (α × Sl)) (k : α → Sl → R (β × Sl)) (P : β → Sl → Prop) : wpX (bindX r k) P = wpX r fun a m => wpX (k a m) P := by
  cases r with
  | ok a => rfl
  | exc c => rfl
  | stuck => rfl
@[simp] theorem wpX_okX (r : R D) (m : Sl) (P : D → Sl → Prop) : wpX (okX r m) P = wpR r fun d => hasT d = false ∧ P d m := by
  cases r with
  | ok d => simp only [okX, wpR_ok]; cases h : hasT d <;> simp
  | exc c => rfl
  | stuck => rfl
theorem wpX_of {α : Type} {r : R (α × Sl)} {a : α} {m : Sl} {P : α → Sl → Prop} (e : r = .ok (a, m)) (h : P a m) : wpX r P := by subst e; exact h
section
variable {Q : Po} {f g : SemX} {h : SemXA} {t u : SemXT} {m : Sl} {i : Nat}
@[simp] theorem wp_ofX {α : Type} (r : R (α × Sl)) (k : α → Sl → RS) : wp (ofX r k) Q = wpX r fun a m => wp (k a m) Q := by
  cases r with
  | ok a => rfl
  | exc c => rfl
  | stuck => rfl
@[simp] theorem xOf_eq (f : SemE) (m : Sl) : xOf f m = okX (f m) m := nr rfl
@[simp] theorem x2_eq (op : D → D → R D) (f g : SemX) (m : Sl) : x2 op f g m = bindX (f m) fun x m1 => bindX (g m1) fun y m2 => okX (op x y) m2 := nr rfl
@[simp] theorem xA_eq (op : List D → R D) (h : SemXA) (m : Sl) : xA op h m = bindX (h m) fun xs m1 => okX (op xs) m1 := nr rfl
@[simp] theorem xaNil_eq (m : Sl) : xaNil m = .ok ([], m) := nr rfl
@[simp] theorem xaCons_eq (f : SemX) (g : SemXA) (m : Sl) : xaCons f g m = bindX (f m) fun x m1 => bindX (g m1) fun xs m2 => .ok (x :: xs, m2) := nr rfl
@[simp] theorem xtYes_eq (m : Sl) : xtYes m = .ok (true, m) := nr rfl
@[simp] theorem wpX_xtOf (P : Bool → Sl → Prop) : wpX (xtOf f m) P = wpX (f m) fun x m1 => match x with
    | .bl c => P c m1
    | _ => False := by
  unfold xtOf
  rw [wpX_bind]
  congr 1
  funext x m1
  cases x <;> rfl
@[simp] theorem xtNot_eq (m : Sl) : xtNot t m = bindX (t m) fun c m1 => .ok (!c, m1) := nr rfl
@[simp] theorem wpX_ite {α : Type} {c : Bool} (a b : R (α × Sl)) (P : α → Sl → Prop) : wpX (if c = true then a else b) P = if c = true then wpX a P else wpX b P := by cases c <;> rfl
@[simp] theorem wpX_xiOf (k : SemA) (P : List D → Sl → Prop) : wpX (xiOf k m) P = wpR (k m) fun ds => P ds m := by
  unfold xiOf
  cases k m <;> rfl
@[simp] theorem wpX_xThen (k : List D → R (List D)) (P : List D → Sl → Prop) : wpX (xThen h k m) P = wpX (h m) fun xs m1 => wpR (k xs) fun ys => P ys m1 := by
  unfold xThen
  rw [wpX_bind]
  congr 1
  funext xs m1
  cases k xs <;> rfl
@[simp] theorem sSetX_eq (m : Sl) : sSetX i f m = ofX (f m) fun d m1 => .nx (m1.set i (some d)) := nr rfl
@[simp] theorem sIfX_eq (a b : SemS) (m : Sl) : sIfX t a b m = ofX (t m) fun c m1 => if c = true then a m1 else b m1 := nr rfl
@[simp] theorem sForX_eq (k : SemG) (body : SemS) (m : Sl) : sForX h k body m = ofX (h m) fun ds m1 => forGo k body ds m1 := nr rfl
end
def wpB (r : RB) (P : D → Sl → Prop) : Prop := match r with
  | .rt d m => P d m
  | .stuck => False
section
variable {P : D → Sl → Prop} {m : Sl}
@[simp] theorem wpB_rt (d : D) (m : Sl) : wpB (.rt d m) P = P d m := nr rfl
@[simp] theorem wpB_stuck : wpB .stuck P = False := nr rfl
theorem wpB_seq (g : SemS) (h : SemB) : wpB (bSeq g h m) P = wp (g m) ⟨fun m1 => wpB (h m1) P, fun _ => False, fun _ => False, fun _ => False, fun _ => False⟩ := by
  unfold bSeq
  cases g m <;> rfl
@[simp] theorem wpB_retX (f : SemX) : wpB (bRetX f m) P = wpX (f m) P := by
  unfold bRetX
  cases f m with
  | ok a => rfl
  | exc c => rfl
  | stuck => rfl
@[simp] theorem wpB_ret (f : SemE) : wpB (bRet f m) P = wpR (f m) fun d => hasT d = false ∧ P d m := by
  unfold bRet
  cases f m with
  | ok d => simp only [wpR_ok]; cases hd : hasT d <;> simp
  | exc c => rfl
  | stuck => rfl
theorem wpB_if (t : SemT) (a b : SemB) : wpB (bIf t a b m) P = wpR (t m) fun c => if c = true then wpB (a m) P else wpB (b m) P := by
  unfold bIf
  cases t m with
  | ok c => cases c <;> rfl
  | exc c => rfl
  | stuck => rfl
theorem defL_run {n k : Nat} {g : SemB} {a : Addr} {xs ds : List D} {P : D → List D → Prop} (hn : (lentD (some a) xs :: ds).length = n)
    (h : wpB (g ((lentD (some a) xs :: ds).map some ++ List.replicate (k - n) none)) fun d m => ∃ ys, m[0]? = some (some (lentD (some a) ys)) ∧ P d ys) :
    ∃ d ys, defL n k g (lentD (some a) xs :: ds) = .ok (d, some (lentD (some a) ys)) ∧ P d ys := by
  unfold defL
  rw [if_pos hn]
  cases hg : g ((lentD (some a) xs :: ds).map some ++ List.replicate (k - n) none) with
  | stuck => rw [hg] at h; exact h.elim
  | rt d m =>
    rw [hg] at h
    obtain ⟨ys, h1, h2⟩ := h
    exact ⟨d, ys, by simp only; rw [h1]; rfl, h2⟩
end
end CT

namespace CK
open PySem PySem.Spec PyProof.Rows L2 CT
inductive Part where
  | wheel (z : Int) (ms : List Int) | click | rocker | spring (k : Int)
  deriving DecidableEq
def encP : Part → D
  | .wheel z ms => .tup [.str "wheel", .int z, .tup (ms.map .int)]
  | .click => .tup [.str "click"]
  | .rocker => .tup [.str "rocker"]
  | .spring k => .tup [.str "spring", .int k]
def PartOk : Part → Prop
  | .wheel z ms => 1 ≤ z ∧ z < 2 ^ 2000 ∧ ms.length ≤ 1000000 ∧ (∀ m ∈ ms, 0 ≤ m ∧ m < z) ∧ ms.Pairwise (· < ·)
  | .click => True
  | .rocker => True
  | .spring k => 1 ≤ k ∧ k < 2 ^ 2000
@[simp] theorem s_ww : eqD (.str "wheel") (.str "wheel") = .ok (.bl true) := by rw [eqD_str (by decide +kernel) (by decide +kernel)]; congr 2
@[simp] theorem s_cw : eqD (.str "click") (.str "wheel") = .ok (.bl false) := by rw [eqD_str (by decide +kernel) (by decide +kernel)]; congr 2
@[simp] theorem s_rw : eqD (.str "rocker") (.str "wheel") = .ok (.bl false) := by rw [eqD_str (by decide +kernel) (by decide +kernel)]; congr 2
@[simp] theorem s_sw : eqD (.str "spring") (.str "wheel") = .ok (.bl false) := by rw [eqD_str (by decide +kernel) (by decide +kernel)]; congr 2
@[simp] theorem s_ss : eqD (.str "spring") (.str "spring") = .ok (.bl true) := by rw [eqD_str (by decide +kernel) (by decide +kernel)]; congr 2
@[simp] theorem s_rs : eqD (.str "rocker") (.str "spring") = .ok (.bl false) := by rw [eqD_str (by decide +kernel) (by decide +kernel)]; congr 2
@[simp] theorem s_cs : eqD (.str "click") (.str "spring") = .ok (.bl false) := by rw [eqD_str (by decide +kernel) (by decide +kernel)]; congr 2
@[simp] theorem hasT_encP (q : Part) : hasT (encP q) = false := by cases q <;> simp [encP]
@[simp] theorem still_encP (q : Part) : still (encP q) = encP q := by cases q <;> simp [encP]
@[simp] theorem hasTL_encP (l : List Part) : hasTL (l.map encP) = false := hasTL_map hasT_encP l
@[simp] theorem stillL_encP (l : List Part) : stillL (l.map encP) = l.map encP := stillL_map still_encP l
theorem atI_of {α : Type} {xs : List α} {i : Nat} {x : α} (h : xs[i]? = some x) : atI xs (i : Int) = some x := by
  obtain ⟨h1, _⟩ := List.getElem?_eq_some_iff.mp h
  unfold atI ixN
  rw [if_pos (by omega), if_pos (by omega)]
  simpa using h
theorem ixD_tup {xs : List D} {i : Nat} {x : D} (h : xs[i]? = some x) : ixD (.tup xs) (.int (i : Int)) = .ok x := by
  simp only [ixD]; rw [atI_of h]
theorem ixD_lst {t : Bool} {xs : List D} {i : Nat} {x : D} (h : xs[i]? = some x) : ixD (.lst t xs) (.int (i : Int)) = .ok x := by
  simp only [ixD]; rw [atI_of h]
@[simp] theorem ixD_0 (x : D) (r : List D) : ixD (.tup (x :: r)) (.int 0) = .ok x := ixD_tup (i := 0) rfl
@[simp] theorem ixD_1 (x y : D) (r : List D) : ixD (.tup (x :: y :: r)) (.int 1) = .ok y := ixD_tup (i := 1) rfl
@[simp] theorem ixD_2 (x y z : D) (r : List D) : ixD (.tup (x :: y :: z :: r)) (.int 2) = .ok z := ixD_tup (i := 2) rfl
@[simp] theorem ixD_l0 (t : Bool) (x : D) (r : List D) : ixD (.lst t (x :: r)) (.int 0) = .ok x := ixD_lst (i := 0) rfl
@[simp] theorem ixD_l1 (t : Bool) (x y : D) (r : List D) : ixD (.lst t (x :: y :: r)) (.int 1) = .ok y := ixD_lst (i := 1) rfl
theorem lcGo_map {α : Type} (enc : α → D) {g : SemG} {t : SemT} {f : SemE} {m : Sl} (c : α → Bool) (x : α → D) : ∀ xs : List α,
    (∀ a ∈ xs, ∃ m1, g (enc a) m = .ok m1 ∧ t m1 = .ok (c a) ∧ (c a = true → f m1 = .ok (x a) ∧ hasT (x a) = false)) → lcGo g t f m (xs.map enc) = .ok ((xs.filter c).map x)
  | [], _ => rfl
  | a :: xs, h => by
    obtain ⟨m1, h1, h2, h3⟩ := h a (by simp)
    have ih := lcGo_map enc (g := g) (t := t) (f := f) (m := m) c x xs fun b hb => h b (by simp [hb])
    rw [List.map_cons, lcGo, h1]
    simp only [nox, CT.R.bind_ok, h2]
    cases hc : c a with
    | false => simp [hc, ih]
    | true =>
      obtain ⟨k1, k2⟩ := h3 hc
      simp [hc, k1, k2, ih, nox]
end CK

namespace CK
open PySem PySem.Spec PyProof.Rows L2 CT
@[simp] theorem pow_60 : powD (.int 10) (.int 60) = .ok (.int 1000000000000000000000000000000000000000000000000000000000000) := by rw [powD_lit (by decide +kernel)]; rfl
theorem filt_true {α : Type} (l : List α) : l.filter (fun _ => true) = l := List.filter_eq_self.mpr (fun _ _ => rfl)
theorem lcGo_map1 {α : Type} (enc : α → D) {g : SemG} {f : SemE} {m : Sl} (x : α → D) (xs : List α)
    (h : ∀ a ∈ xs, ∃ m1, g (enc a) m = .ok m1 ∧ f m1 = .ok (x a) ∧ hasT (x a) = false) : lcGo g tYesM f m (xs.map enc) = .ok (xs.map x) := by
  rw [lcGo_map enc (fun _ => true) x xs fun a ha => ?_, filt_true]
  obtain ⟨m1, h1, h2, h3⟩ := h a ha
  exact ⟨m1, h1, rfl, fun _ => ⟨h2, h3⟩⟩
end CK

namespace CK
open PySem PySem.Spec PyProof.Rows L2 CT
def Dr (n : Nat) (xs : List D) : Prop := ∃ (a k : Int) (c : Bool), xs = [.int a, .int k, .bl c] ∧ 0 ≤ k ∧ k ≤ n
theorem eLk0 (o : Nat) (xs : List D) (m : Sl) (k : Nat) : eLk 0 k (some (lentD (some o) xs) :: m) = match xs[k]? with
  | some d => .ok d
  | none => .stuck := rfl
theorem subLR0 (o : Nat) (xs : List D) (m : Sl) (k : Nat) (d : D) : subLR 0 k d (some (lentD (some o) xs) :: m) = if hasT d = true then .stuck else if k < xs.length then .ok (some (lentD (some o) (xs.set k d)) :: m) else .stuck := rfl
theorem r_next {n : Nat} {xs : List D} (h : Dr n xs) (hn : n ≤ 1000000) (a : Nat) :
    ∃ v ys, s_law_next [lentD (some a) xs] = .ok (v, some (lentD (some a) ys)) ∧ (∃ i : Int, v = .int i ∧ 0 ≤ i) ∧ Dr (n + 1) ys := by
  obtain ⟨x, k, c, rfl, hk, hk2⟩ := h
  have p6 : powD (.int 10) (.int 6) = .ok (.int 1000000) := by rw [powD_lit (by decide +kernel)]; rfl
  unfold s_law_next
  refine defL_run rfl ?_
  have e : (List.map some [lentD (some a) [.int x, .int k, .bl c]] ++ List.replicate (3 - 1) none : Sl) = [some (lentD (some a) [.int x, .int k, .bl c]), none, none] := rfl
  rw [e]
  cases c
  · simp (disch := first | omega | (simp; done) | fail) [wpB_seq, wpB_if, eLk0, subLR0, p6, modD_ok, divD_s, mulD_l, mulD_r]
    refine ⟨_, rfl, ?_, ⟨x, k + 1, false, rfl, by omega, by omega⟩⟩
    have := Int.emod_nonneg ((((x % 1000003 + (k + 1) * (k + 1) * 7919 + (k + 1)) * 48271 % 2147483629) * ((x % 1000003 + (k + 1) * (k + 1) * 7919 + (k + 1)) * 48271 % 2147483629) % 2147483587) * ((((x % 1000003 + (k + 1) * (k + 1) * 7919 + (k + 1)) * 48271 % 2147483629) * ((x % 1000003 + (k + 1) * (k + 1) * 7919 + (k + 1)) * 48271 % 2147483629) % 2147483587) + 2)) (show (2147483579 : Int) ≠ 0 by omega)
    omega
  · simp (disch := first | omega | (simp; done) | fail) [wpB_seq, wpB_if, eLk0, subLR0, p6, modD_ok, divD_s]
    exact ⟨_, rfl, by omega, ⟨x / 1000000, k + 1, true, rfl, by omega, by omega⟩⟩
def callX (i : Nat) (f : List D → R (D × Option D)) (ds : List D) (m1 : Sl) : R (D × Sl) := match m1[i]? with
    | some (some (.dct ⟨some a, true, true⟩ _ xs)) => (match f (lentD (some a) xs :: ds) with
      | .ok (d, some (.dct ⟨some c, true, true⟩ ks ys)) => if hasT d = false ∧ c = a ∧ ks = noK ys then .ok (d, m1.set i (some (lentD (some a) ys))) else .stuck
      | _ => .stuck)
    | _ => .stuck
@[simp] theorem xCallL_0 (f : List D → R (D × Option D)) (h : SemXA) (o : Option Nat) (xs : List D) (m : Sl) : xCallL 0 f h (some (lentD o xs) :: m) = bindX (h (some (lentD o xs) :: m)) fun ds m1 => callX 0 f ds m1 := nr rfl
theorem callX_eq {f : List D → R (D × Option D)} {ds xs ys : List D} {m : Sl} {a : Nat} {d : D} (e : f (lentD (some a) xs :: ds) = .ok (d, some (lentD (some a) ys))) (n : hasT d = false) :
    callX 0 f ds (some (lentD (some a) xs) :: m) = .ok (d, some (lentD (some a) ys) :: m) := by
  show (match f (lentD (some a) xs :: ds) with
      | .ok (d, some (.dct ⟨some c, true, true⟩ ks ys)) => if hasT d = false ∧ c = a ∧ ks = noK ys then R.ok (d, (some (lentD (some a) xs) :: m).set 0 (some (lentD (some a) ys))) else .stuck
      | _ => .stuck) = _
  rw [e]
  exact if_pos ⟨n, rfl, rfl⟩
theorem wpX_callX {f : List D → R (D × Option D)} {ds xs : List D} {m : Sl} {a : Nat} {P : D → Sl → Prop} {S : D → List D → Prop} (h : ∃ d ys, f (lentD (some a) xs :: ds) = .ok (d, some (lentD (some a) ys)) ∧ S d ys)
    (k : ∀ d ys, S d ys → hasT d = false ∧ P d (some (lentD (some a) ys) :: m)) : wpX (callX 0 f ds (some (lentD (some a) xs) :: m)) P := by
  obtain ⟨d, ys, e, s⟩ := h
  obtain ⟨k1, k2⟩ := k d ys s
  exact wpX_of (callX_eq e k1) k2
theorem wpX_next {n : Nat} {xs : List D} {m : Sl} {a : Nat} {P : D → Sl → Prop} (h : Dr n xs) (hn : n ≤ 1000000) (k : ∀ (i : Int) ys, 0 ≤ i → Dr (n + 1) ys → P (.int i) (some (lentD (some a) ys) :: m)) : wpX (callX 0 s_law_next [] (some (lentD (some a) xs) :: m)) P :=
  wpX_callX (r_next h hn a) fun d ys ⟨⟨i, e, hi⟩, hd⟩ => by subst e; exact ⟨rfl, k i ys hi hd⟩
end CK

namespace CK
open PySem PySem.Spec PyProof.Rows L2 CT
theorem wpX_imp {α : Type} {r : R (α × Sl)} {P Q : α → Sl → Prop} (h : wpX r P) (k : ∀ a m, P a m → Q a m) : wpX r Q := by
  cases r with
  | ok a => exact k _ _ h
  | exc c => exact h.elim
  | stuck => exact h.elim
theorem wpX_lc {α : Type} {enc : α → D} {i : Nat} {t : SemXT} {f : SemX} (I : Nat → List D → Sl → Prop) :
    ∀ (xs : List α) (j : Nat) (acc : List D) (m : Sl) (P : List D → Sl → Prop), I j acc m →
      (∀ k a, xs[k]? = some a → ∀ acc m, I (j + k) acc m → hasT (enc a) = false ∧ wpX (t (m.set i (some (enc a)))) fun c m2 => if c = true then wpX (f m2) fun x m3 => I (j + k + 1) (acc ++ [x]) (m3.set i none) else I (j + k + 1) acc (m2.set i none)) →
      (∀ acc2 m2, I (j + xs.length) acc2 m2 → ∀ r, acc2 = acc ++ r → P r m2) → wpX (lcX i t f (xs.map enc) m) P
  | [], j, acc, m, P, h0, _, hk => by
    simp only [List.map_nil, lcX, wpX_ok]
    exact hk acc m h0 [] (by simp)
  | a :: xs, j, acc, m, P, h0, hs, hk => by
    obtain ⟨n, h1⟩ := hs 0 a rfl acc m h0
    simp only [List.map_cons, lcX]
    rw [if_neg (by rw [n]; decide), wpX_bind]
    refine wpX_imp h1 fun c m2 h2 => ?_
    have next : ∀ acc m, I (j + 0 + 1) acc m → ∀ (P' : List D → Sl → Prop), (∀ acc2 m2, I (j + (a :: xs).length) acc2 m2 → ∀ r, acc2 = acc ++ r → P' r m2) → wpX (lcX i t f (xs.map enc) m) P' := fun acc m h P' hk' =>
      wpX_lc I xs (j + 0 + 1) acc m P' h (fun k b hb acc m h => by
        have := hs (k + 1) b (by simpa using hb) acc m (by rw [show j + (k + 1) = j + 0 + 1 + k by omega]; exact h)
        rw [show j + (k + 1) + 1 = j + 0 + 1 + k + 1 by omega] at this
        exact this) fun acc2 m2 h r e => hk' acc2 m2 (by rw [List.length_cons, show j + (xs.length + 1) = j + 0 + 1 + xs.length by omega]; exact h) r e
    cases c with
    | true =>
      simp only [if_true] at h2 ⊢
      rw [wpX_bind]
      refine wpX_imp h2 fun x m3 h3 => ?_
      rw [wpX_bind]
      refine next _ _ h3 _ fun acc2 m2 h r e => ?_
      exact hk acc2 m2 h (x :: r) (by rw [e]; simp)
    | false =>
      simp only [Bool.false_eq_true, if_false] at h2 ⊢
      exact next _ _ h2 _ fun acc2 m2 h r e => hk acc2 m2 h r e
end CK

namespace CK
open PySem PySem.Spec PyProof.Rows L2 CT
theorem rng_map (n : Nat) : rng 0 n = (List.range n).map fun i : Nat => D.int (i : Int) := by
  unfold rng; congr 1; funext i; rw [Int.zero_add]
end CK

namespace CK
open PySem PySem.Spec PyProof.Rows L2 CT
theorem Dr.mono {n k : Nat} {xs : List D} (h : Dr n xs) (hk : n ≤ k := by omega) : Dr k xs := by
  obtain ⟨a, b, c, e, h1, h2⟩ := h
  exact ⟨a, b, c, e, h1, by omega⟩
theorem wpX_aLcX {h : SemXA} {i : Nat} {t : SemXT} {f : SemX} {m : Sl} {P : List D → Sl → Prop} : wpX (aLcX h i t f m) P = wpX (h m) fun ds m1 => wpX (lcX i t f ds (m1.set i none)) fun r m2 => r.length ≤ sizeLine ∧ P r m2 := by
  unfold aLcX
  rw [wpX_bind]
  congr 1
  funext ds m1
  rw [wpX_bind]
  congr 1
  funext r m2
  by_cases c : r.length ≤ sizeLine
  · rw [if_pos c]; simp [c]
  · rw [if_neg c]; simp [c]
theorem wpX_xOwn {f : SemXA} {m : Sl} {P : D → Sl → Prop} : wpX (xOwn f m) P = wpX (f m) fun ds m' => P (.lst false ds) m' := by
  unfold xOwn
  cases f m with
  | ok a => rfl
  | exc c => rfl
  | stuck => rfl
end CK

namespace CK
open PySem PySem.Spec PyProof.Rows L2 CT
def TrainOk (l : List Part) : Prop := (∀ q ∈ l, PartOk q) ∧ l.length ≤ 1000
end CK

namespace CK
open PySem PySem.Spec PyProof.Rows L2 CT
end CK

namespace CK
open PySem PySem.Spec PyProof.Rows L2 CT
theorem neD_self {x : D} (h : Sh 64 x) : neD x x = .ok (.bl false) := by rw [neD_ok h h, eqv_self h.1]; rfl
theorem eqD_self {x : D} (h : Sh 64 x) : eqD x x = .ok (.bl true) := by rw [eqD_ok h h, eqv_self h.1]
theorem neD_py {x y : D} (e : py x = py y) (h : Sh 64 x) (h' : Sh 64 y) : neD x y = .ok (.bl false) := by rw [neD_ok h h', eqv_py e h.1]; rfl
theorem eqD_py {x y : D} (e : py x = py y) (h : Sh 64 x) (h' : Sh 64 y) : eqD x y = .ok (.bl true) := by rw [eqD_ok h h', eqv_py e h.1]
theorem shl_map {α : Type} {f : α → D} {n : Nat} (h : ∀ a, Sh n (f a)) (l : List α) : ∀ x ∈ l.map f, Sh n x := fun x hx => by
  obtain ⟨a, _, rfl⟩ := List.mem_map.mp hx; exact h a
theorem sh_ints (l : List Int) (n : Nat) : Sh (n + 1) (.tup (l.map .int)) := sh_tup (shl_map (fun a => sh_int _ a) l)
theorem sh_encP (q : Part) : Sh 3 (encP q) := by
  have hs : ∀ s : Str, PyData.strOk s = true → Sh 2 (.str s) := fun s h => sh_str h
  cases q with
  | wheel z ms => exact sh_tup (by
      intro x hx
      simp only [List.mem_cons, List.not_mem_nil, or_false] at hx
      rcases hx with rfl | rfl | rfl
      · exact hs _ (by decide +kernel)
      · exact sh_int _ _
      · exact sh_ints ms 1)
  | click => exact sh_tup (by
      intro x hx
      simp only [List.mem_cons, List.not_mem_nil, or_false] at hx
      rcases hx with rfl
      exact hs _ (by decide +kernel))
  | rocker => exact sh_tup (by
      intro x hx
      simp only [List.mem_cons, List.not_mem_nil, or_false] at hx
      rcases hx with rfl
      exact hs _ (by decide +kernel))
  | spring k => exact sh_tup (by
      intro x hx
      simp only [List.mem_cons, List.not_mem_nil, or_false] at hx
      rcases hx with rfl | rfl
      · exact hs _ (by decide +kernel)
      · exact sh_int _ _)
theorem sh_train (t : Bool) (l : List Part) : Sh 64 (.lst t (l.map encP)) := (sh_lst (shl_map sh_encP l)).mono (by omega)
theorem isiD_of {T : String} {x : D} {c : Bool} (h : kitB (tyD x) T = some c) : isiD T x = .ok (.bl c) := by unfold isiD; rw [h]
@[simp] theorem isiD_tup (xs : List D) : isiD "tuple" (.tup xs) = .ok (.bl true) := isiD_of (show kitB "tuple" "tuple" = _ by decide +kernel)
@[simp] theorem isiD_ii (i : Int) : isiD "int" (.int i) = .ok (.bl true) := isiD_of (show kitB "int" "int" = _ by decide +kernel)
@[simp] theorem isiD_ib (i : Int) : isiD "bool" (.int i) = .ok (.bl false) := isiD_of (show kitB "int" "bool" = _ by decide +kernel)
theorem addD_tup {xs ys : List D} (h : xs.length + ys.length ≤ 16777216) : addD (.tup xs) (.tup ys) = .ok (.tup (xs ++ ys)) := by
  simp only [addD]; rw [if_pos (small h)]
end CK

namespace CK
open PySem PySem.Spec PyProof.Rows L2 CT
theorem cut_head {α : Type} (xs : List α) (n : Nat) : cutA xs none (some (n : Int)) = xs.take n := by
  unfold cutA
  rw [HT.sIx_none, HT.sIx_nat, List.drop_zero, Nat.sub_zero]
  rcases Nat.le_total n xs.length with h | h
  · rw [Nat.min_eq_left h]
  · rw [Nat.min_eq_right h, List.take_length, List.take_of_length_le h]
theorem cut_tail {α : Type} (xs : List α) (n : Nat) : cutA xs (some (n : Int)) none = xs.drop n := by
  unfold cutA
  rw [HT.sIx_none, HT.sIx_nat]
  rcases Nat.le_total n xs.length with h | h
  · rw [Nat.min_eq_left h, List.take_of_length_le (by simp)]
  · rw [Nat.min_eq_right h, List.drop_length, List.drop_of_length_le h]; simp
@[simp] theorem cutD_lst (t : Bool) (xs : List D) (lo hi : Option Int) : cutD (.lst t xs) lo hi = .ok (.lst false (cutA xs lo hi)) := nr rfl
@[simp] theorem cutD_fr (xs : List D) (lo hi : Option Int) : cutD (.fr xs) lo hi = .ok (.lst false (cutA xs lo hi)) := nr rfl
@[simp] theorem cutD_tup (xs : List D) (lo hi : Option Int) : cutD (.tup xs) lo hi = .ok (.tup (cutA xs lo hi)) := nr rfl
theorem addD_lst {t t' : Bool} {xs ys : List D} (h : xs.length + ys.length ≤ 16777216) : addD (.lst t xs) (.lst t' ys) = .ok (.lst false (xs ++ ys)) := by
  simp only [addD]; rw [if_pos (small h)]
end CK

namespace CK
open PySem PySem.Spec PyProof.Rows L2 CT
end CK

namespace CK
open PySem PySem.Spec PyProof.Rows L2 CT
@[simp] theorem isi_tuple_non : isiD "tuple" .non = .ok (.bl false) := isiD_of (show kitB "NoneType" "tuple" = _ by decide +kernel)
@[simp] theorem isi_tuple_bl (b : Bool) : isiD "tuple" (.bl b) = .ok (.bl false) := isiD_of (show kitB "bool" "tuple" = _ by decide +kernel)
@[simp] theorem isi_tuple_int (i : Int) : isiD "tuple" (.int i) = .ok (.bl false) := isiD_of (show kitB "int" "tuple" = _ by decide +kernel)
@[simp] theorem isi_tuple_str (x : Str) : isiD "tuple" (.str x) = .ok (.bl false) := isiD_of (show kitB "str" "tuple" = _ by decide +kernel)
@[simp] theorem isi_tuple_lst (t : Bool) (xs : List D) : isiD "tuple" (.lst t xs) = .ok (.bl false) := isiD_of (show kitB "list" "tuple" = _ by decide +kernel)
@[simp] theorem isi_tuple_fr (xs : List D) : isiD "tuple" (.fr xs) = .ok (.bl false) := isiD_of (show kitB "list" "tuple" = _ by decide +kernel)
@[simp] theorem isi_list_non : isiD "list" .non = .ok (.bl false) := isiD_of (show kitB "NoneType" "list" = _ by decide +kernel)
@[simp] theorem isi_list_bl (b : Bool) : isiD "list" (.bl b) = .ok (.bl false) := isiD_of (show kitB "bool" "list" = _ by decide +kernel)
@[simp] theorem isi_list_int (i : Int) : isiD "list" (.int i) = .ok (.bl false) := isiD_of (show kitB "int" "list" = _ by decide +kernel)
@[simp] theorem isi_list_str (x : Str) : isiD "list" (.str x) = .ok (.bl false) := isiD_of (show kitB "str" "list" = _ by decide +kernel)
@[simp] theorem isi_list_tup (xs : List D) : isiD "list" (.tup xs) = .ok (.bl false) := isiD_of (show kitB "tuple" "list" = _ by decide +kernel)
@[simp] theorem isi_list_lst (t : Bool) (xs : List D) : isiD "list" (.lst t xs) = .ok (.bl true) := isiD_of (show kitB "list" "list" = _ by decide +kernel)
@[simp] theorem isi_list_fr (xs : List D) : isiD "list" (.fr xs) = .ok (.bl true) := isiD_of (show kitB "list" "list" = _ by decide +kernel)
@[simp] theorem isi_int_non : isiD "int" .non = .ok (.bl false) := isiD_of (show kitB "NoneType" "int" = _ by decide +kernel)
@[simp] theorem isi_int_bl (b : Bool) : isiD "int" (.bl b) = .ok (.bl true) := isiD_of (show kitB "bool" "int" = _ by decide +kernel)
@[simp] theorem isi_int_str (x : Str) : isiD "int" (.str x) = .ok (.bl false) := isiD_of (show kitB "str" "int" = _ by decide +kernel)
@[simp] theorem isi_int_tup (xs : List D) : isiD "int" (.tup xs) = .ok (.bl false) := isiD_of (show kitB "tuple" "int" = _ by decide +kernel)
@[simp] theorem isi_int_lst (t : Bool) (xs : List D) : isiD "int" (.lst t xs) = .ok (.bl false) := isiD_of (show kitB "list" "int" = _ by decide +kernel)
@[simp] theorem isi_int_fr (xs : List D) : isiD "int" (.fr xs) = .ok (.bl false) := isiD_of (show kitB "list" "int" = _ by decide +kernel)
@[simp] theorem isi_bool_non : isiD "bool" .non = .ok (.bl false) := isiD_of (show kitB "NoneType" "bool" = _ by decide +kernel)
@[simp] theorem isi_bool_bl (b : Bool) : isiD "bool" (.bl b) = .ok (.bl true) := isiD_of (show kitB "bool" "bool" = _ by decide +kernel)
@[simp] theorem isi_bool_str (x : Str) : isiD "bool" (.str x) = .ok (.bl false) := isiD_of (show kitB "str" "bool" = _ by decide +kernel)
@[simp] theorem isi_bool_tup (xs : List D) : isiD "bool" (.tup xs) = .ok (.bl false) := isiD_of (show kitB "tuple" "bool" = _ by decide +kernel)
@[simp] theorem isi_bool_lst (t : Bool) (xs : List D) : isiD "bool" (.lst t xs) = .ok (.bl false) := isiD_of (show kitB "list" "bool" = _ by decide +kernel)
@[simp] theorem isi_bool_fr (xs : List D) : isiD "bool" (.fr xs) = .ok (.bl false) := isiD_of (show kitB "list" "bool" = _ by decide +kernel)
@[simp] theorem isi_str_non : isiD "str" .non = .ok (.bl false) := isiD_of (show kitB "NoneType" "str" = _ by decide +kernel)
@[simp] theorem isi_str_bl (b : Bool) : isiD "str" (.bl b) = .ok (.bl false) := isiD_of (show kitB "bool" "str" = _ by decide +kernel)
@[simp] theorem isi_str_int (i : Int) : isiD "str" (.int i) = .ok (.bl false) := isiD_of (show kitB "int" "str" = _ by decide +kernel)
@[simp] theorem isi_str_str (x : Str) : isiD "str" (.str x) = .ok (.bl true) := isiD_of (show kitB "str" "str" = _ by decide +kernel)
@[simp] theorem isi_str_tup (xs : List D) : isiD "str" (.tup xs) = .ok (.bl false) := isiD_of (show kitB "tuple" "str" = _ by decide +kernel)
@[simp] theorem isi_str_lst (t : Bool) (xs : List D) : isiD "str" (.lst t xs) = .ok (.bl false) := isiD_of (show kitB "list" "str" = _ by decide +kernel)
@[simp] theorem isi_str_fr (xs : List D) : isiD "str" (.fr xs) = .ok (.bl false) := isiD_of (show kitB "list" "str" = _ by decide +kernel)
mutual
def bd : D → Bool
  | .tup xs => decide (xs.length ≤ 1000000) && bdL xs
  | .lst _ xs => decide (xs.length ≤ 1000000) && bdL xs
  | .fr xs => decide (xs.length ≤ 1000000) && bdL xs
  | .str _ => true
  | .non => true
  | .bl _ => true
  | .int _ => true
  | .unk => false
  | .ex _ => false
  | .fn _ => false
  | .dic _ _ => false
  | .dct _ _ _ => false
def bdL : List D → Bool
  | [] => true
  | x :: xs => bd x && bdL xs
end
structure Good (d : D) : Prop where
  t : hasT d = false
  s : Sh 64 d
  b : bd d = true
theorem layL_mem {x : D} : ∀ {xs : List D}, layL xs = true → x ∈ xs → lay x = true
  | y :: xs, h, hm => by
    simp only [layL, Bool.and_eq_true] at h
    rcases List.mem_cons.mp hm with e | e
    · rw [e]; exact h.1
    · exact layL_mem h.2 e
theorem depth_mem {x : D} : ∀ {xs : List D}, x ∈ xs → PyData.depth (py x) ≤ PyData.depthAll (pyL xs)
  | y :: xs, hm => by
    simp only [pyL, PyData.depthAll]
    rcases List.mem_cons.mp hm with e | e
    · rw [e]; omega
    · have := depth_mem (xs := xs) e; omega
theorem bdL_mem {x : D} : ∀ {xs : List D}, bdL xs = true → x ∈ xs → bd x = true
  | y :: xs, h, hm => by
    simp only [bdL, Bool.and_eq_true] at h
    rcases List.mem_cons.mp hm with e | e
    · rw [e]; exact h.1
    · exact bdL_mem h.2 e
theorem hasTL_mem {x : D} : ∀ {xs : List D}, hasTL xs = false → x ∈ xs → hasT x = false
  | y :: xs, h, hm => by
    simp only [hasTL, Bool.or_eq_false_iff] at h
    rcases List.mem_cons.mp hm with e | e
    · rw [e]; exact h.1
    · exact hasTL_mem h.2 e
theorem Good.mem {xs : List D} {x : D} (h : Good (.tup xs)) (hm : x ∈ xs) : Good x :=
  ⟨hasTL_mem h.t hm, ⟨layL_mem h.s.1 hm, by have := h.s.2; have := depth_mem hm; simp only [py, PyData.depth] at *; omega⟩, bdL_mem (by have := h.b; simp only [bd, Bool.and_eq_true] at this; exact this.2) hm⟩
theorem Good.memL {t : Bool} {xs : List D} {x : D} (h : Good (.lst t xs)) (hm : x ∈ xs) : Good x :=
  ⟨hasTL_mem (by have := h.t; simp only [hasT, Bool.or_eq_false_iff] at this; exact this.2) hm, ⟨layL_mem h.s.1 hm, by have := h.s.2; have := depth_mem hm; simp only [py, PyData.depth] at *; omega⟩, bdL_mem (by have := h.b; simp only [bd, Bool.and_eq_true] at this; exact this.2) hm⟩
theorem Good.memF {xs : List D} {x : D} (h : Good (.fr xs)) (hm : x ∈ xs) : Good x :=
  ⟨hasTL_mem h.t hm, ⟨layL_mem h.s.1 hm, by have := h.s.2; have := depth_mem hm; simp only [py, PyData.depth] at *; omega⟩, bdL_mem (by have := h.b; simp only [bd, Bool.and_eq_true] at this; exact this.2) hm⟩
theorem Good.len {xs : List D} (h : Good (.tup xs)) : xs.length ≤ 1000000 := by have := h.b; simp only [bd, Bool.and_eq_true, decide_eq_true_eq] at this; exact this.1
theorem Good.lenL {t : Bool} {xs : List D} (h : Good (.lst t xs)) : xs.length ≤ 1000000 := by have := h.b; simp only [bd, Bool.and_eq_true, decide_eq_true_eq] at this; exact this.1
theorem Good.lenF {xs : List D} (h : Good (.fr xs)) : xs.length ≤ 1000000 := by have := h.b; simp only [bd, Bool.and_eq_true, decide_eq_true_eq] at this; exact this.1
theorem bools_map : ∀ bs : List Bool, bools (bs.map D.bl) = some bs
  | [] => rfl
  | b :: bs => by rw [List.map_cons, bools, bools_map bs]; rfl
@[simp] theorem allD_bls (t : Bool) (bs : List Bool) : allD [.lst t (bs.map D.bl)] = .ok (.bl (bs.all id)) := by simp only [allD, bools_map]
@[simp] theorem allD_f {α : Type} (t : Bool) (c : α → Bool) (xs : List α) : allD [.lst t (xs.map fun a => D.bl (c a))] = .ok (.bl (xs.all c)) := by
  rw [show (xs.map fun a => D.bl (c a)) = (xs.map c).map D.bl by rw [List.map_map]; rfl, allD_bls, List.all_map]; rfl
@[simp] theorem allD_o {α : Type} (t : Bool) (c : α → Bool) (xs : List α) : allD [.lst t (xs.map (D.bl ∘ c))] = .ok (.bl (xs.all c)) := allD_f t c xs
@[simp] theorem aZip_eq (s : Bool) (h : SemA) (m : Sl) : aZip s h m = (h m).bind (zipI s) := nr rfl
@[simp] theorem sRaise_eq (c : String) (m : Sl) : sRaise c m = .exc c m := nr rfl
theorem zip_tt {xs ys : List D} : zipI false [.tup xs, .tup ys] = .ok (zipL xs ys) := by simp [zipI, zipOk]
theorem lcGo_bl {g : SemG} {f : SemE} {m : Sl} (c : D → Bool) (xs : List D) (h : ∀ a ∈ xs, ∃ m1, g a m = .ok m1 ∧ f m1 = .ok (.bl (c a))) : lcGo g tYesM f m xs = .ok ((xs.map c).map D.bl) := by
  have := lcGo_map1 id (g := g) (f := f) (m := m) (fun a => D.bl (c a)) xs (fun a ha => by obtain ⟨m1, h1, h2⟩ := h a ha; exact ⟨m1, h1, h2, rfl⟩)
  rw [List.map_id] at this
  rw [this, List.map_map]; rfl
def isWholeB : D → Bool
  | .int _ => true
  | _ => false
def isX : D → Bool
  | .unk => true
  | .ex _ => true
  | .fn _ => true
  | .dic _ _ => true
  | .dct _ _ _ => true
  | .non => false
  | .bl _ => false
  | .int _ => false
  | .str _ => false
  | .tup _ => false
  | .lst _ _ => false
  | .fr _ => false
theorem isX_unk : isX .unk = true := rfl
theorem isX_ex (c : String) : isX (.ex c) = true := rfl
theorem isX_fn (c : String) : isX (.fn c) = true := rfl
theorem isX_dic (k : List (List Int)) (v : List D) : isX (.dic k v) = true := rfl
theorem isX_dct (q : DT) (k : List (List Int)) (v : List D) : isX (.dct q k v) = true := rfl
@[simp] theorem isX_non : isX .non = false := nr rfl
@[simp] theorem isX_bl (b : Bool) : isX (.bl b) = false := nr rfl
@[simp] theorem isX_int (b : Int) : isX (.int b) = false := nr rfl
@[simp] theorem isX_str (b : Str) : isX (.str b) = false := nr rfl
@[simp] theorem isX_tup (b : List D) : isX (.tup b) = false := nr rfl
@[simp] theorem isX_lst (t : Bool) (b : List D) : isX (.lst t b) = false := nr rfl
@[simp] theorem isX_fr (b : List D) : isX (.fr b) = false := nr rfl
theorem isX_of {d : D} (h : Sh 64 d) : isX d = false := by
  cases d <;> first | rfl | (exfalso; exact far_depth (Nat.le_trans h.2 (by decide)))
theorem Good.nx {d : D} (h : Good d) : isX d = false := isX_of h.s
theorem r_is_whole (d : D) (h : isX d = false) : s_is_whole [d] = .ok (.bl (isWholeB d)) := by
  unfold s_is_whole
  refine def_ok1 rfl ?_
  cases d <;> first | (cases h; done) | simp [isWholeB]
theorem isX_still (d : D) (h : isX d = false) : isX (still d) = false := by cases d <;> first | rfl | (cases h; done)
theorem cf_is_whole (d : D) (h : isX d = false) : callF s_is_whole [d] = .ok (.bl (isWholeB d)) := by
  have : isWholeB (still d) = isWholeB d := by cases d <;> rfl
  simp [r_is_whole _ (isX_still d h), this]
def inB (z : Int) : D → Bool
  | .int m => decide (0 ≤ m) && decide (m < z)
  | _ => false
def ltB : D → D → Bool
  | .int i, .int j => decide (i < j)
  | _, _ => false
def risB : List D → Bool
  | x :: y :: r => ltB x y && risB (y :: r)
  | _ => true
def isMarksB (z : Int) : D → Bool
  | .tup xs => xs.all (inB z) && risB xs
  | _ => false
theorem ris_zip : ∀ xs : List D, ((xs.zip (xs.drop 1)).map fun p => ltB p.1 p.2).all id = risB xs
  | [] => rfl
  | [x] => rfl
  | x :: y :: r => by
    have := ris_zip (y :: r)
    simp only [List.drop_succ_cons, List.drop_zero, List.zip_cons_cons, List.map_cons, List.all_cons, id] at this ⊢
    rw [risB, ← this]
theorem inB_int {z : Int} {d : D} (h : inB z d = true) : ∃ m, d = .int m ∧ 0 ≤ m ∧ m < z := by
  cases d <;> simp [inB] at h
  exact ⟨_, rfl, h.1, h.2⟩
theorem zip_mem_drop {α : Type} {xs : List α} {p : α × α} (h : p ∈ xs.zip (xs.drop 1)) : p.1 ∈ xs ∧ p.2 ∈ xs := by
  obtain ⟨a, b⟩ := p
  have := List.of_mem_zip h
  exact ⟨this.1, List.mem_of_mem_drop this.2⟩
theorem r_is_marks (z : Int) (d : D) (h : Good d) : s_is_marks [.int z, d] = .ok (.bl (isMarksB z d)) := by
  unfold s_is_marks
  refine def_ok1 rfl ?_
  cases d with
  | unk => exact absurd h.nx (by simp [isX_unk])
  | ex _ => exact absurd h.nx (by simp [isX_ex])
  | fn _ => exact absurd h.nx (by simp [isX_fn])
  | dic _ _ => exact absurd h.nx (by simp [isX_dic])
  | dct _ _ _ => exact absurd h.nx (by simp [isX_dct])
  | tup xs =>
    have ht : hasTL xs = false := h.t
    have hl := h.len
    have e := lcGo_bl (g := putR 2) (f := eAnd (eA (callF s_is_whole) (aCons (eVar 2) aNil)) (eChain leD ltD (eC (.int 0)) (eVar 2) (eVar 0))) (m := [some (.int z), some (.tup xs), none, none, none]) (inB z) xs (fun a ha => by
      have h1 := hasTL_mem ht ha
      refine ⟨[some (.int z), some (.tup xs), some a, none, none], by simp [h1], ?_⟩
      have hx := (h.mem ha).nx
      have h2 := cf_is_whole a hx
      cases a <;> first | (cases hx; done) | (simp [r_is_whole, isWholeB, inB, h1] at h2 ⊢; done) | skip
      simp [r_is_whole, isWholeB, inB, h1] at h2 ⊢
      rename_i m
      by_cases c : 0 ≤ m <;> simp [c])
    simp [itemsN, items, ht]
    rw [e]
    simp [-List.all_eq_true, -List.all_eq_false, small (show xs.length ≤ 16777216 by omega)]
    by_cases c : xs.all (inB z) = true
    · have hi : ∀ x ∈ xs, ∃ m, x = .int m := fun x hx => by
        obtain ⟨m, e, _⟩ := inB_int (List.all_eq_true.mp c x hx)
        exact ⟨m, e⟩
      have e2 := lcGo_map1 (fun p : D × D => D.tup [p.1, p.2]) (g := gTupR 2 (gsCons (putR 3) (gsCons (putR 4) gsNil))) (f := e2 ltD (eVar 3) (eVar 4)) (m := [some (.int z), some (.tup xs), none, none, none]) (fun p => D.bl (ltB p.1 p.2)) (xs.zip (xs.drop 1)) (fun p hp => by
        obtain ⟨k1, k2⟩ := zip_mem_drop hp
        obtain ⟨i, h1⟩ := hi _ k1
        obtain ⟨j, h2⟩ := hi _ k2
        refine ⟨[some (.int z), some (.tup xs), none, some p.1, some p.2], by simp [h1, h2], ?_, rfl⟩
        simp [h1, h2, ltB])
      have hz : (xs.zip (xs.drop 1)).length ≤ 16777216 := by simp; omega
      have hr := ris_zip xs
      rw [List.all_map] at hr
      have ec : cutA xs (some 1) none = xs.drop 1 := cut_tail xs 1
      simp [-List.all_eq_true, -List.all_eq_false, c, zip_tt, ec, zipL]
      simp at e2
      rw [e2]
      simp [-List.all_eq_true, -List.all_eq_false, show xs.length ≤ sizeLine + 1 by rw [sizeBig]; omega, isMarksB, c]
      rw [← hr]
      simp [-List.all_eq_true, -List.all_eq_false, Function.comp_def]
    · rw [Bool.not_eq_true] at c
      simp [-List.all_eq_true, -List.all_eq_false, c, isMarksB]
  | non => simp [isMarksB]
  | bl _ => simp [isMarksB]
  | int _ => simp [isMarksB]
  | str _ => simp [isMarksB]
  | lst _ _ => simp [isMarksB]
  | fr _ => simp [isMarksB]
theorem str_mem (s a b : Str) (hs : PyData.strOk s = true) (ha : PyData.strOk a = true) (hb : PyData.strOk b = true) : inD (.str s) (.lst false [.str a, .str b]) = .ok (.bl (a == s || b == s)) := by
  simp only [inD]
  have h1 : Sh 64 (.str s) := sh_str hs
  have h2 : Sh 64 (.lst false [.str a, .str b]) := (sh_lst (n := 1) (by
    intro x hx
    simp only [List.mem_cons, List.not_mem_nil, or_false] at hx
    rcases hx with rfl | rfl
    · exact sh_str ha
    · exact sh_str hb)).mono (by omega)
  have h3 := sh_shaped h2 (by omega)
  simp only [py] at h3
  rw [if_pos (by rw [sh_shaped h1 (by omega), h3]; rfl)]
  simp [memD, eqvD, py, PyData.eqv]
def isPartB : D → Bool
  | .tup [.str s] => s == "click" || s == "rocker"
  | .tup [.str s, .int k] => s == "spring" && decide (1 ≤ k)
  | .tup [.str s, .int z, m] => s == "wheel" && decide (1 ≤ z) && isMarksB z m
  | _ => false
theorem str_ne1 {a b : Str} (h : (a == b) = false) : (b == a) = false := by
  cases e : b == a with
  | false => rfl
  | true => rw [eq_of_beq e] at h; simp at h
theorem good_str {x : Str} (h : Good (.str x)) : PyData.strOk x = true := h.s.1
theorem eq_nil {xs : List D} (h : Good (.tup xs)) : eqD (.tup xs) (.tup []) = .ok (.bl xs.isEmpty) := by
  rw [eqD_ok h.s (sh_tup (n := 63) (by simp))]
  cases xs with
  | nil => rfl
  | cons x xs => simp [eqvD, py, pyL, PyData.eqv, PyData.eqvAll]
theorem eqs {s a : Str} (hs : PyData.strOk s = true) (ha : PyData.strOk a = true) : eqD (.str s) (.str a) = .ok (.bl (s == a)) := eqD_str hs ha
theorem nes {s a : Str} (hs : PyData.strOk s = true) (ha : PyData.strOk a = true) : neD (.str s) (.str a) = .ok (.bl (!(s == a))) := neD_str hs ha
theorem r_is_part (d : D) (h : Good d) : s_is_part [d] = .ok (.bl (isPartB d)) := by
  unfold s_is_part
  refine def_ok1 rfl ?_
  cases d with
  | unk => exact absurd h.nx (by simp [isX_unk])
  | ex _ => exact absurd h.nx (by simp [isX_ex])
  | fn _ => exact absurd h.nx (by simp [isX_fn])
  | dic _ _ => exact absurd h.nx (by simp [isX_dic])
  | dct _ _ _ => exact absurd h.nx (by simp [isX_dct])
  | tup xs =>
    have hn := eq_nil h
    cases xs with
    | nil => simp [hn, isPartB]
    | cons x r =>
      have hx := h.mem (x := x) (by simp)
      have hl := h.len
      cases x with
      | unk => exact absurd hx.nx (by simp [isX_unk])
      | ex _ => exact absurd hx.nx (by simp [isX_ex])
      | fn _ => exact absurd hx.nx (by simp [isX_fn])
      | dic _ _ => exact absurd hx.nx (by simp [isX_dic])
      | dct _ _ _ => exact absurd hx.nx (by simp [isX_dct])
      | str s =>
        have hs := good_str hx
        have e1 := str_mem s "click" "rocker" hs (by decide +kernel) (by decide +kernel)
        have e2 := eqs (a := "spring") hs (by decide +kernel)
        have e3 := nes (a := "wheel") hs (by decide +kernel)
        by_cases c1 : ("click" == s || "rocker" == s) = true
        · rw [c1] at e1
          have c1' : (s == "click" || s == "rocker") = true := by
            rw [Bool.or_eq_true] at c1 ⊢
            exact c1.imp (fun e => by rw [eq_of_beq e]; simp) (fun e => by rw [eq_of_beq e]; simp)
          have c2 : (s == "spring") = false := by
            rw [Bool.or_eq_true] at c1'
            rcases c1' with e | e <;> (rw [eq_of_beq e]; decide +kernel)
          have c3 : (s == "wheel") = false := by
            rw [Bool.or_eq_true] at c1'
            rcases c1' with e | e <;> (rw [eq_of_beq e]; decide +kernel)
          simp [hn, e1]
          match r with
          | [] => simp [isPartB, c1']
          | [y] => cases y <;> simp [isPartB, c2]
          | [y, z] => cases y <;> simp [isPartB, c3]
          | y :: z :: u :: v => simp [isPartB]; omega
        · rw [Bool.not_eq_true] at c1
          rw [c1] at e1
          have c1' : (s == "click" || s == "rocker") = false := by
            rw [Bool.or_eq_false_iff] at c1 ⊢
            exact ⟨str_ne1 c1.1, str_ne1 c1.2⟩
          by_cases c2 : (s == "spring") = true
          · rw [c2] at e2
            have c3 : (s == "wheel") = false := by rw [eq_of_beq c2]; decide +kernel
            simp [hn, e1, e2]
            match r with
            | [] => simp [isPartB, c1']
            | [y] =>
              have hy := (h.mem (x := y) (by simp)).nx
              cases y <;> first | (cases hy; done) | simp [isPartB, c2, cf_is_whole, r_is_whole, isWholeB]
            | [y, z] => cases y <;> simp [isPartB, c3]
            | y :: z :: u :: v =>
              have : ¬ (v.length : Int) + 1 + 1 + 1 + 1 = 2 := by omega
              simp [isPartB, this]
          · rw [Bool.not_eq_true] at c2
            rw [c2] at e2
            by_cases c3 : (s == "wheel") = true
            · rw [c3] at e3
              simp [hn, e1, e2, e3]
              match r with
              | [] => simp [isPartB, c1']
              | [y] => cases y <;> simp [isPartB, c2]
              | [y, z] =>
                have hz := h.mem (x := z) (by simp)
                have hy := (h.mem (x := y) (by simp)).nx
                cases y with
                | unk => cases hy
                | ex _ => cases hy
                | fn _ => cases hy
                | dic _ _ => cases hy
                | dct _ _ _ => cases hy
                | int i =>
                  have e4 := r_is_marks i z hz
                  have e5 : still z = z := still_of z hz.t
                  by_cases c4 : 1 ≤ i <;> simp [isPartB, c3, cf_is_whole, r_is_whole, isWholeB, c4, e4, e5, hz.t]
                | _ => simp [isPartB, c3, cf_is_whole, r_is_whole, isWholeB]
              | y :: z :: u :: v =>
                have : ¬ (v.length : Int) + 1 + 1 + 1 + 1 = 3 := by omega
                simp [isPartB, this]
            · rw [Bool.not_eq_true] at c3
              rw [c3] at e3
              simp [hn, e1, e2, e3]
              match r with
              | [] => simp [isPartB, c1']
              | [y] => cases y <;> simp [isPartB, c2]
              | [y, z] => cases y <;> simp [isPartB, c3]
              | y :: z :: u :: v => simp [isPartB]
      | _ => simp [hn, isPartB]
  | _ => simp [isPartB]
end CK

namespace CK
open PySem PySem.Spec PyProof.Rows L2 CT
theorem cf_is_part (d : D) (h : Good d) : callF s_is_part [d] = .ok (.bl (isPartB d)) := by
  simp [still_of d h.t, r_is_part d h, h.t]
theorem eq_nilL {t : Bool} {xs : List D} (h : Good (.lst t xs)) : eqD (.lst t xs) (.lst false []) = .ok (.bl xs.isEmpty) := by
  rw [eqD_ok h.s (sh_lst (n := 63) (by simp))]
  cases xs with
  | nil => rfl
  | cons x xs => simp [eqvD, py, pyL, PyData.eqv, PyData.eqvAll]
theorem eq_nilF {xs : List D} (h : Good (.fr xs)) : eqD (.fr xs) (.lst false []) = .ok (.bl xs.isEmpty) := by
  rw [eqD_ok h.s (sh_lst (n := 63) (by simp))]
  cases xs with
  | nil => rfl
  | cons x xs => simp [eqvD, py, pyL, PyData.eqv, PyData.eqvAll]
def partsB (xs : List D) : Bool := !xs.isEmpty && xs.all isPartB
def isTrainB : D → Bool
  | .lst _ xs => partsB xs
  | .fr xs => partsB xs
  | _ => false
theorem r_check_train (d : D) (h : Good d) : s_check_train [d] = if isTrainB d = true then .ok .non else .exc "NoTrain" := by
  have main : ∀ xs, (d = .lst false xs ∨ d = .fr xs) → (∀ x ∈ xs, Good x) → xs.length ≤ 1000000 → eqD d (.lst false []) = .ok (.bl xs.isEmpty) → s_check_train [d] = if isTrainB d = true then .ok .non else .exc "NoTrain" := fun xs hd hg hl he => by
    have e := lcGo_bl (g := putR 1) (f := eA (callF s_is_part) (aCons (eVar 1) aNil)) (m := [some d, none]) isPartB xs (fun a ha => by
      have h1 := hg a ha
      exact ⟨[some d, some a], by simp [h1.t], by simp [-callF_eq, cf_is_part a h1]⟩)
    have hT : isTrainB d = partsB xs := by rcases hd with rfl | rfl <;> rfl
    have hi : isiD "list" d = .ok (.bl true) := by rcases hd with rfl | rfl <;> simp
    have hit : itemsN false d = .ok xs := by rcases hd with rfl | rfl <;> simp [itemsN, items]
    rw [hT]
    unfold s_check_train
    by_cases c1 : xs.isEmpty = true
    · rw [if_neg (by simp [partsB, c1])]
      refine def_ex1 rfl ?_
      rw [c1] at he
      simp [hi, he]
    · rw [Bool.not_eq_true] at c1
      rw [c1] at he
      by_cases c2 : xs.all isPartB = true
      · rw [if_pos (by simp only [partsB, c1, c2]; rfl)]
        refine def_ok1 rfl ?_
        simp [hi, he, hit]
        rw [e]
        simp [-List.all_eq_true, -List.all_eq_false, small (show xs.length ≤ 16777216 by omega), c2]
      · rw [Bool.not_eq_true] at c2
        rw [if_neg (by simp only [partsB, c1, c2]; simp)]
        refine def_ex1 rfl ?_
        simp [hi, he, hit]
        rw [e]
        simp [-List.all_eq_true, -List.all_eq_false, small (show xs.length ≤ 16777216 by omega), c2]
  cases d with
  | unk => exact absurd h.nx (by simp [isX_unk])
  | ex _ => exact absurd h.nx (by simp [isX_ex])
  | fn _ => exact absurd h.nx (by simp [isX_fn])
  | dic _ _ => exact absurd h.nx (by simp [isX_dic])
  | dct _ _ _ => exact absurd h.nx (by simp [isX_dct])
  | lst t xs =>
    have ht : t = false := by have := h.t; simp only [hasT, Bool.or_eq_false_iff] at this; exact this.1
    subst ht
    exact main xs (.inl rfl) (fun x hx => h.memL hx) h.lenL (eq_nilL h)
  | fr xs => exact main xs (.inr rfl) (fun x hx => h.memF hx) h.lenF (eq_nilF h)
  | non => rw [if_neg (by simp [isTrainB])]; unfold s_check_train; exact def_ex1 rfl (by simp)
  | bl _ => rw [if_neg (by simp [isTrainB])]; unfold s_check_train; exact def_ex1 rfl (by simp)
  | int _ => rw [if_neg (by simp [isTrainB])]; unfold s_check_train; exact def_ex1 rfl (by simp)
  | str _ => rw [if_neg (by simp [isTrainB])]; unfold s_check_train; exact def_ex1 rfl (by simp)
  | tup _ => rw [if_neg (by simp [isTrainB])]; unfold s_check_train; exact def_ex1 rfl (by simp)
theorem bdL_all {xs : List D} (h : ∀ x ∈ xs, bd x = true) : bdL xs = true := by
  induction xs with
  | nil => rfl
  | cons x xs ih => simp only [bdL, h x (by simp), ih fun y hy => h y (by simp [hy]), Bool.and_self]
theorem bd_ints (l : List Int) : bdL (l.map D.int) = true := bdL_all fun x hx => by obtain ⟨a, _, rfl⟩ := List.mem_map.mp hx; rfl
theorem good_encP {q : Part} (h : PartOk q) (hm : ∀ z ms, q = .wheel z ms → ms.length ≤ 1000000) : Good (encP q) := ⟨hasT_encP q, (sh_encP q).mono (by omega), by
  cases q with
  | wheel z ms => simp [encP, bd, bdL, bd_ints]; exact hm z ms rfl
  | _ => simp [encP, bd, bdL]⟩
def MarksS (l : List Part) : Prop := ∀ z ms, Part.wheel z ms ∈ l → ms.length ≤ 1000000
theorem good_train {l : List Part} (h : TrainOk l) (hm : MarksS l) (t : D) (ht : t = .lst false (l.map encP) ∨ t = .fr (l.map encP)) : Good t := by
  have hg : ∀ x ∈ l.map encP, Good x := fun x hx => by
    obtain ⟨q, hq, rfl⟩ := List.mem_map.mp hx
    exact good_encP (h.1 q hq) fun z ms e => hm z ms (e ▸ hq)
  have hl := h.2
  rcases ht with rfl | rfl
  · exact ⟨by simp, sh_train _ _, by simp only [bd, bdL_all fun x hx => (hg x hx).b]; simp; omega⟩
  · exact ⟨by simp, (sh_fr (shl_map sh_encP l)).mono (by omega), by simp only [bd, bdL_all fun x hx => (hg x hx).b]; simp; omega⟩
theorem ris_ints : ∀ {ms : List Int}, ms.Pairwise (· < ·) → risB (ms.map D.int) = true
  | [], _ => rfl
  | [_], _ => rfl
  | a :: b :: r, h => by
    rw [List.pairwise_cons] at h
    have := ris_ints h.2
    simp only [List.map_cons] at this ⊢
    rw [risB, this]
    simp [ltB, h.1 b (by simp)]
theorem isPart_encP {q : Part} (h : PartOk q) : isPartB (encP q) = true := by
  cases q with
  | wheel z ms =>
    obtain ⟨h1, h2, h3, h4, h5⟩ := h
    simp only [encP, isPartB, isMarksB, ris_ints h5, Bool.and_true, Bool.and_eq_true]
    refine ⟨⟨by decide +kernel, by simpa using h1⟩, ?_⟩
    rw [List.all_map, List.all_eq_true]
    intro m hm
    simp [inB, h4 m hm]
  | click => decide +kernel
  | rocker => decide +kernel
  | spring k => simp only [encP, isPartB, Bool.and_eq_true]; exact ⟨by decide +kernel, by simpa using h.1⟩
theorem parts_encP {l : List Part} (h : ∀ q ∈ l, PartOk q) (hn : l ≠ []) : partsB (l.map encP) = true := by
  unfold partsB
  rw [Bool.and_eq_true, List.all_map, List.all_eq_true]
  refine ⟨by cases l <;> simp at hn ⊢, fun q hq => isPart_encP (h q hq)⟩
structure Trn (l : List Part) : Prop where
  ok : TrainOk l
  m : MarksS l
  ne : l ≠ []
theorem marks_of {l : List Part} (h : TrainOk l) : MarksS l := fun z ms hz => (h.1 _ hz).2.2.1
theorem trn_of {l : List Part} (h : TrainOk l) (hl : 1 ≤ l.length) : Trn l := ⟨h, marks_of h, by intro e; subst e; simp at hl⟩
theorem r_check_trn {l : List Part} (h : Trn l) : s_check_train [.lst false (l.map encP)] = .ok .non := by
  rw [r_check_train _ (good_train h.ok h.m _ (.inl rfl))]
  exact if_pos (parts_encP h.ok.1 h.ne)
theorem still_good {d : D} (h : Good d) : still d = d := still_of d h.t
end CK

namespace CK
open PySem PySem.Spec PyProof.Rows L2 CT
end CK

namespace CK
open PySem PySem.Spec PyProof.Rows L2 CT
end CK

namespace CK
open PySem PySem.Spec PyProof.Rows L2 CT
end CK

namespace CK
open PySem PySem.Spec PyProof.Rows L2 CT
theorem wp_cut {r : RS} {Q : Po} (P : Sl → Prop) (h : wp r ⟨P, fun _ => False, fun _ => False, fun _ => False, fun _ => False⟩) (k : ∀ m, P m → Q.nx m) : wp r Q :=
  wp_imp h k (fun _ z => z.elim) (fun _ z => z.elim) (fun _ z => z.elim) (fun _ z => z.elim)
end CK

namespace CK
open PySem PySem.Spec PyProof.Rows L2 CT
def encS (st : List Int) : D := .tup (st.map .int)
@[simp] theorem hasT_encS (s : List Int) : hasT (encS s) = false := by simp [encS]
end CK

namespace CK
open PySem PySem.Spec PyProof.Rows L2 CT
end CK

namespace CK
open PySem PySem.Spec PyProof.Rows L2 CT
end CK

namespace CK
open PySem PySem.Spec PyProof.Rows L2 CT
@[simp] theorem ixD_l2 (t : Bool) (x y z : D) (r : List D) : ixD (.lst t (x :: y :: z :: r)) (.int 2) = .ok z := ixD_lst (i := 2) rfl
@[simp] theorem ixD_l3 (t : Bool) (x y z u : D) (r : List D) : ixD (.lst t (x :: y :: z :: u :: r)) (.int 3) = .ok u := ixD_lst (i := 3) rfl
@[simp] theorem ixD_l4 (t : Bool) (x y z u v : D) (r : List D) : ixD (.lst t (x :: y :: z :: u :: v :: r)) (.int 4) = .ok v := ixD_lst (i := 4) rfl
@[simp] theorem ixD_l5 (t : Bool) (x y z u v a : D) (r : List D) : ixD (.lst t (x :: y :: z :: u :: v :: a :: r)) (.int 5) = .ok a := ixD_lst (i := 5) rfl
@[simp] theorem ixD_l6 (t : Bool) (x y z u v a b : D) (r : List D) : ixD (.lst t (x :: y :: z :: u :: v :: a :: b :: r)) (.int 6) = .ok b := ixD_lst (i := 6) rfl
@[simp] theorem ixD_l7 (t : Bool) (x y z u v a b c : D) (r : List D) : ixD (.lst t (x :: y :: z :: u :: v :: a :: b :: c :: r)) (.int 7) = .ok c := ixD_lst (i := 7) rfl
@[simp] theorem ixD_t3 (x y z u : D) (r : List D) : ixD (.tup (x :: y :: z :: u :: r)) (.int 3) = .ok u := ixD_tup (i := 3) rfl
@[simp] theorem ixD_t4 (x y z u v : D) (r : List D) : ixD (.tup (x :: y :: z :: u :: v :: r)) (.int 4) = .ok v := ixD_tup (i := 4) rfl
end CK

namespace CK
open PySem PySem.Spec PyProof.Rows L2 CT
@[simp] theorem sRetO_eq' (a : SemA) (m : Sl) : sRetO a m = ofR m (a m) fun ds => if hasTL ds = true then .stuck else .rt (.lst true ds) := nr rfl
end CK

namespace CK
open PySem PySem.Spec PyProof.Rows L2 CT
end CK

namespace CK
open PySem PySem.Spec PyProof.Rows L2 CT
end CK

namespace CK
open PySem PySem.Spec PyProof.Rows L2 CT
end CK

namespace CK
open PySem PySem.Spec PyProof.Rows L2 CT
end CK

namespace CK
open PySem PySem.Spec PyProof.Rows L2 CT
end CK

namespace CK
open PySem PySem.Spec PyProof.Rows L2 CT
end CK

namespace CK
open PySem PySem.Spec PyProof.Rows L2 CT
end CK

namespace CK
open PySem PySem.Spec PyProof.Rows L2 CT
end CK

namespace CK
open PySem PySem.Spec PyProof.Rows L2 CT
theorem sh_intsL (t : Bool) (s : List Int) : Sh 64 (.lst t (s.map .int)) := (sh_lst (n := 1) (shl_map (fun a => sh_int _ a) s)).mono (by omega)
end CK

namespace CK
open PySem PySem.Spec PyProof.Rows L2 CT
end CK

namespace CK
open PySem PySem.Spec PyProof.Rows L2 CT
end CK

namespace CK
open PySem PySem.Spec PyProof.Rows L2 CT
end CK

namespace CK
open PySem PySem.Spec PyProof.Rows L2 CT
end CK

namespace CK
open PySem PySem.Spec PyProof.Rows L2 CT
end CK

namespace CK
open PySem PySem.Spec PyProof.Rows L2 CT
def numL (k : Nat) : List D := (List.range k).map fun i : Nat => D.int (i : Int)
end CK

namespace CK
open PySem PySem.Spec PyProof.Rows L2 CT
end CK

namespace CK
open PySem PySem.Spec PyProof.Rows L2 CT
end CK

namespace CK
open PySem PySem.Spec PyProof.Rows L2 CT
end CK

namespace CK
open PySem PySem.Spec PyProof.Rows L2 CT
end CK

namespace CK
open PySem PySem.Spec PyProof.Rows L2 CT
end CK

namespace CK
open PySem PySem.Spec PyProof.Rows L2 CT
end CK

namespace CK
open PySem PySem.Spec PyProof.Rows L2 CT
end CK

namespace CK
open PySem PySem.Spec PyProof.Rows L2 CT
end CK

namespace CK
open PySem PySem.Spec PyProof.Rows L2 CT
end CK

namespace CK
open PySem PySem.Spec PyProof.Rows L2 CT
end CK

namespace CK
open PySem PySem.Spec PyProof.Rows L2 CT
end CK

namespace CK
open PySem PySem.Spec PyProof.Rows L2 CT
end CK

namespace CK
open PySem PySem.Spec PyProof.Rows L2 CT
end CK

namespace CK
open PySem PySem.Spec PyProof.Rows L2 CT
end CK

namespace CK
open PySem PySem.Spec PyProof.Rows L2 CT
end CK

namespace CK
open PySem PySem.Spec PyProof.Rows L2 CT
end CK

namespace CK
open PySem PySem.Spec PyProof.Rows L2 CT
end CK

namespace CK
open PySem PySem.Spec PyProof.Rows L2 CT
def chkL {α : Type} (x : Option (Option D)) (r : R α) : R α := match x with
  | some (some (.dct _ _ _)) => r
  | _ => .stuck
@[simp] theorem chkL_lent {α : Type} (o : Option Nat) (xs : List D) (r : R α) : chkL (some (some (lentD o xs))) r = r := nr rfl
theorem xCallL_eq (i : Nat) (f : List D → R (D × Option D)) (h : SemXA) (m : Sl) : xCallL i f h m = chkL m[i]? (bindX (h m) fun ds m1 => callX i f ds m1) := by
  unfold xCallL callX chkL
  rfl
theorem wpX_callAt {i : Nat} {f : List D → R (D × Option D)} {ds xs : List D} {m : Sl} {a : Nat} {P : D → Sl → Prop} {S : D → List D → Prop} (hm : m[i]? = some (some (lentD (some a) xs)))
    (h : ∃ d ys, f (lentD (some a) xs :: ds) = .ok (d, some (lentD (some a) ys)) ∧ S d ys) (k : ∀ d ys, S d ys → hasT d = false ∧ P d (m.set i (some (lentD (some a) ys)))) : wpX (callX i f ds m) P := by
  obtain ⟨d, ys, e, s⟩ := h
  obtain ⟨k1, k2⟩ := k d ys s
  refine wpX_of (a := d) (m := m.set i (some (lentD (some a) ys))) ?_ k2
  unfold callX
  rw [hm]
  show (match f (lentD (some a) xs :: ds) with
      | .ok (d, some (.dct ⟨some c, true, true⟩ ks ys)) => if hasT d = false ∧ c = a ∧ ks = noK ys then R.ok (d, m.set i (some (lentD (some a) ys))) else .stuck
      | _ => .stuck) = _
  rw [e]
  exact if_pos ⟨k1, rfl, rfl⟩
theorem wp_newL {i : Nat} {h : SemA} {g : SemS} {m : Sl} {Q : Po} {ds : List D} (e : h m = .ok ds) (t : hasTL ds = false) (k : ∀ a : Nat, wp (g (m.set i (some (lentD (some a) ds)))) ⟨fun m' => m'.length = m.length, fun _ => False, fun _ => False, fun _ => False, fun _ => False⟩)
    (q : Q.nx (List.replicate m.length none)) : wp (sNewL i h g m) Q := by
  unfold sNewL
  rw [e]
  simp only [ofR_ok]
  rw [if_neg (by rw [t]; decide), if_pos]
  · exact q
  · intro a
    have := k a
    cases hg : g (m.set i (some (lentD (some a) ds))) with
    | nx m' => rw [hg] at this; exact ⟨m', rfl, this⟩
    | ct m' => rw [hg] at this; exact this.elim
    | bk m' => rw [hg] at this; exact this.elim
    | rt d => rw [hg] at this; exact this.elim
    | exc c m' => rw [hg] at this; exact this.elim
    | stuck => rw [hg] at this; exact this.elim
def big2 : Int := (10 ^ 60) ^ 50
def big3 : Int := big2 ^ 3
theorem big3_pos : 0 < big3 := by decide +kernel
theorem pow_big2 : powD (.int 1000000000000000000000000000000000000000000000000000000000000) (.int 50) = .ok (.int big2) := by rw [powD_lit (by decide +kernel)]; rfl
theorem pow_big3 : powD (.int big2) (.int 3) = .ok (.int big3) := by rw [powD_lit (by decide +kernel)]; rfl
theorem r_draws (c : Int) : ∃ xs, s_law_draws [.int c] = .ok (.lst true xs) ∧ Dr 0 xs ∧ hasTL xs = false := by
  unfold s_law_draws
  have main : wpR (defF 1 1 (sSeq (sIf (tOf (CT.e2 ltD (eVar 0) (CT.e2 powD (eC (.int 10)) (eC (.int 18))))) (sRetO (aThen (aCons (eVar 0) (aCons (eC (.int 0)) (aCons (eC (.bl false)) aNil))) mkLst)) sNop)
    (sRetO (aThen (aCons (CT.e2 modD (eVar 0) (CT.e2 powD (CT.e2 powD (CT.e2 powD (eC (.int 10)) (eC (.int 60))) (eC (.int 50))) (eC (.int 3)))) (aCons (eC (.int 0)) (aCons (eC (.bl true)) aNil))) mkLst))) [.int c]) (fun d => ∃ xs, d = .lst true xs ∧ Dr 0 xs ∧ hasTL xs = false) := by
    refine def_run rfl ?_
    by_cases h : c < 1000000000000000000
    · simp [h, sRetO]
      exact ⟨c, 0, false, rfl, by omega, by omega⟩
    · simp [h, sRetO, pow_big2, pow_big3, modD_ok big3_pos]
      exact ⟨c % big3, 0, true, rfl, by omega, by omega⟩
  obtain ⟨d, e, xs, rfl, h⟩ := wpR_ex main
  exact ⟨xs, e, h⟩
theorem set_none {m : Sl} {v : Nat} {x : Option D} (h : m[v]? = some none) : (m.set v x).set v none = m := by
  rw [List.set_set]
  exact List.ext_getElem? fun j => by
    rw [List.getElem?_set]
    split
    · next e => subst e; split <;> simp_all
    · rfl
end CK

namespace CK
open PySem PySem.Spec PyProof.Rows L2 CT
theorem sl_set_same {m : Sl} {i : Nat} {x : Option D} (h : m[i]? = some x) : m.set i x = m := List.ext_getElem? fun j => by
  rw [List.getElem?_set]
  split
  · next e => subst e; rw [if_pos (List.getElem?_eq_some_iff.mp h).1, h]
  · rfl
theorem lc_calls {α β : Type} {i v n c : Nat} {g : SemX} {m : Sl} {a : Nat} {xs : List D} {enc : α → D} {src : List β} {encB : β → D} {S : β → α → Prop} {P : List D → Sl → Prop}
    (hm : m[i]? = some (some (lentD (some a) xs))) (hv : m[v]? = some none) (h : Dr n xs) (hB : ∀ b, hasT (encB b) = false)
    (hg : ∀ b ∈ src, ∀ (n' : Nat) zs, Dr n' zs → n' ≤ n + c * src.length → wpX (g ((m.set i (some (lentD (some a) zs))).set v (some (encB b)))) fun d m3 => ∃ x ys, d = enc x ∧ S b x ∧ Dr (n' + c) ys ∧ m3 = (m.set i (some (lentD (some a) ys))).set v (some (encB b)))
    (k : ∀ (rs : List α) ys, rs.length = src.length → (∀ (k : Nat) x b, rs[k]? = some x → src[k]? = some b → S b x) → Dr (n + c * src.length) ys → P (rs.map enc) (m.set i (some (lentD (some a) ys)))) :
    wpX (lcX v xtYes g (src.map encB) m) P := by
  have hiv : i ≠ v := fun e => by subst e; rw [hm] at hv; cases hv
  obtain ⟨I, hI⟩ : ∃ I : Nat → List D → Sl → Prop, I = fun (j : Nat) acc m1 => ∃ (rs : List α) (zs : List D), acc = rs.map enc ∧ rs.length = j ∧ (∀ (k : Nat) x b, rs[k]? = some x → src[k]? = some b → S b x) ∧ Dr (n + c * j) zs ∧ m1 = m.set i (some (lentD (some a) zs)) := ⟨_, rfl⟩
  refine wpX_lc (enc := encB) I src 0 [] m P ?_ (fun j q hq acc m1 h1 => ?_) (fun acc2 m2 h2 r e => ?_)
  · rw [hI]
    exact ⟨[], xs, rfl, rfl, fun k x b h => by simp at h, h.mono, (sl_set_same hm).symm⟩
  · rw [hI] at h1
    obtain ⟨rs, zs, rfl, s0, s1, hz, rfl⟩ := h1
    rw [Nat.zero_add] at s0 hz
    have hjl := (List.getElem?_eq_some_iff.mp hq).1
    refine ⟨hB q, ?_⟩
    rw [xtYes_eq, wpX_ok, if_pos rfl]
    have hle : c * j ≤ c * src.length := Nat.mul_le_mul_left _ (by omega)
    refine wpX_imp (hg q (List.mem_of_getElem? hq) _ zs hz (by omega)) fun d m3 ⟨x, ys, e1, e2, e3, e4⟩ => ?_
    subst e1; subst e4
    rw [hI]
    refine ⟨rs ++ [x], ys, by simp, by simp; omega, fun k y b hy hb => ?_, by rw [Nat.zero_add, Nat.mul_succ]; exact e3.mono, ?_⟩
    · rw [List.getElem?_append] at hy
      split at hy
      · exact s1 k y b hy hb
      · have hk : k = j := by
          have := (List.getElem?_eq_some_iff.mp hy).1
          simp at this; omega
        subst hk
        rw [s0, Nat.sub_self] at hy
        simp at hy
        subst hy
        rw [hq] at hb; cases hb
        exact e2
    · exact set_none (by rw [List.getElem?_set_ne hiv]; exact hv)
  · rw [hI] at h2
    obtain ⟨rs, zs, rfl, s0, s1, hz, rfl⟩ := h2
    simp only [Nat.zero_add, List.nil_append] at s0 hz e
    subst e
    exact k rs zs s0 s1 hz
theorem pow10_40 : powD (.int 10) (.int 40) = .ok (.int 10000000000000000000000000000000000000000) := by rw [powD_lit (by decide +kernel)]; rfl
theorem pow10_39 : powD (.int 10) (.int 39) = .ok (.int 1000000000000000000000000000000000000000) := by rw [powD_lit (by decide +kernel)]; rfl
theorem pow10_30 : powD (.int 10) (.int 30) = .ok (.int 1000000000000000000000000000000) := by rw [powD_lit (by decide +kernel)]; rfl
theorem lt_2000 {z : Int} (h : z ≤ 10000000000000000000000000000000000000000) : z < 2 ^ 2000 :=
  Int.lt_of_le_of_lt (b := 2 ^ 200) (Int.le_trans h (by decide +kernel)) (by decide +kernel)
end CK

namespace CK
open PySem PySem.Spec PyProof.Rows L2 CT
end CK

namespace CK
open PySem PySem.Spec PyProof.Rows L2 CT
open TL (tl mk_tl len_tl ext_tl tl_append tl_ofString spl par joinL tl_join join_eq split_spl kind_ok partition_par)
def mkS (l : List Nat) : Str := ⟨l.toArray⟩
theorem tl_mkS (l : List Nat) : tl (mkS l) = l := rfl
theorem mkS_tl (x : Str) : mkS (tl x) = x := mk_tl x
theorem mkS_len (l : List Nat) : (mkS l).length = l.length := by rw [len_tl, tl_mkS]
theorem mkS_inj {a b : List Nat} (h : mkS a = mkS b) : a = b := by rw [← tl_mkS a, h, tl_mkS]
theorem mkS_app (a b : List Nat) : mkS a ++ mkS b = mkS (a ++ b) := ext_tl (by rw [tl_append, tl_mkS, tl_mkS, tl_mkS])
theorem mkS_of (s : String) : Str.ofString s = mkS (s.toList.map Char.toNat) := ext_tl (by rw [tl_ofString, tl_mkS])
theorem mkS_num (n : Nat) : Str.ofString (toString ((n : Nat) : Int)) = mkS (TL.numL n) := ext_tl (by rw [TL.tl_num, tl_mkS])
abbrev tx (l : List Nat) : D := .str (mkS l)
theorem tx_len (l : List Nat) (h : l.length ≤ 16777216) : lenD [tx l] = .ok (.int l.length) := by
  show (if (mkS l).length ≤ sizeLine then R.ok (D.int (mkS l).length) else .stuck) = _
  rw [if_pos (by rw [mkS_len]; exact small h), mkS_len]
theorem tx_add (a b : List Nat) (h : a.length + b.length ≤ 16777216) : addD (tx a) (tx b) = .ok (tx (a ++ b)) := by
  show (if (mkS a).length + (mkS b).length ≤ sizeLine then R.ok (D.str (mkS a ++ mkS b)) else .stuck) = _
  rw [if_pos (by rw [mkS_len, mkS_len]; exact small h), mkS_app]
theorem tx_eq (a b : List Nat) : eqD (tx a) (tx b) = .ok (.bl (decide (a = b))) := by
  rw [eqD_strs]
  congr 2
  by_cases h : a = b
  · subst h; simp
  · rw [decide_eq_false h, beq_eq_false_iff_ne]; exact fun z => h (mkS_inj z)
theorem tx_ne (a b : List Nat) : neD (tx a) (tx b) = .ok (.bl (!decide (a = b))) := by
  rw [neD_strs]
  congr 3
  by_cases h : a = b
  · subst h; simp
  · rw [decide_eq_false h, beq_eq_false_iff_ne]; exact fun z => h (mkS_inj z)
theorem tx_items (s : Bool) (l : List Nat) : itemsN s (tx l) = .ok (l.map fun c => tx [c]) := by
  have h : hasTL (l.map fun c => tx [c]) = false := hasTL_map (fun _ => rfl) l
  show (if (s && hasTL (l.map fun c => tx [c])) = true then R.stuck else R.ok (l.map fun c => tx [c])) = _
  rw [h, Bool.and_false]; rfl
theorem tx_cut (l : List Nat) (lo hi : Option Int) (h : l.length ≤ 16777216) : cutD (tx l) lo hi = .ok (tx (cutA l lo hi)) := by
  have e : cutS (mkS l) lo hi = mkS (cutA l lo hi) := rfl
  show (if (mkS l).length ≤ sizeLine then R.ok (D.str (cutS (mkS l) lo hi)) else .stuck) = _
  rw [if_pos (by rw [mkS_len]; exact small h), e]
theorem tx_ix (l : List Nat) (i : Int) {c : Nat} (h : l.length ≤ 16777216) (hc : atI l i = some c) : ixD (tx l) (.int i) = .ok (tx [c]) := by
  show (if (mkS l).length ≤ sizeLine then (match atI (mkS l).cps.toList i with | some c => R.ok (D.str ⟨#[c]⟩) | none => .stuck) else .stuck) = _
  rw [if_pos (by rw [mkS_len]; exact small h), show (mkS l).cps.toList = l from rfl, hc]; rfl
theorem tx_in (c : Nat) (l : List Nat) : inD (tx [c]) (tx l) = .ok (.bl (decide (c ∈ l))) := by
  show R.ok (D.bl (!(Builtin.Str.occurrences (mkS l) (mkS [c]) 0 (mkS l).length 1).isEmpty)) = _
  congr 2
  exact PySem.StrLaws.found_one (mkS l) c
def Asc (l : List Nat) : Prop := ∀ c ∈ l, c < 128
theorem Asc.app {a b : List Nat} (h : Asc a) (k : Asc b) : Asc (a ++ b) := fun c hc => (List.mem_append.mp hc).elim (h c) (k c)
theorem Asc.ok {l : List Nat} (h : Asc l) : PyData.strOk (mkS l) = true := by
  unfold PyData.strOk
  rw [Array.all_eq_true']
  intro c hc
  have : c ∈ l := by simpa [mkS] using hc
  have := h c this
  simp; omega
theorem asc_num (n : Nat) : Asc (TL.numL n) := fun c hc => by have := TL.numL_digits n c hc; omega
theorem numL_len40 {n : Nat} (h : n < 10 ^ 40) : (TL.numL n).length ≤ 40 := TL.numL_len (by decide) h
theorem tx_num (n : Nat) (h : n < 10 ^ 300) : strD [.int (n : Int)] = .ok (tx (TL.numL n)) := by
  show (if ((n : Int)).natAbs.log2 < 1920 then R.ok (D.str (Str.ofString (toString ((n : Nat) : Int)))) else .stuck) = _
  have : ((n : Int)).natAbs.log2 < 1920 := by
    rw [Int.natAbs_natCast]
    by_cases hz : n = 0
    · subst hz; decide
    rw [Nat.log2_lt hz]
    exact Nat.lt_of_lt_of_le h (by decide +kernel)
  rw [if_pos this, mkS_num]
theorem tx_split (l : List Nat) (c : Nat) (hc : c < 256) (h : l.length ≤ 16777214) : splitD (mkS l) (tx [c]) = .ok ((spl [c] 0 [] l).map tx) := by
  show (if ((mkS [c]).length == 0) = false ∧ (mkS l).length + 2 ≤ sizeLine then R.ok ((Txt.split (mkS l) (mkS [c])).map D.str) else .stuck) = _
  rw [if_pos ⟨rfl, by rw [mkS_len, sizeBig]; omega⟩]
  congr 1
  have := split_spl (mkS l) (mkS [c]) (by rw [tl_mkS]; simp) (kind_ok (by simp [mkS, hc]))
  rw [tl_mkS, tl_mkS] at this
  rw [← this, List.map_map]
  refine List.map_congr_left fun x _ => ?_
  show D.str x = D.str (mkS (tl x))
  rw [mkS_tl]
theorem tx_part (l : List Nat) (c : Nat) (h : l.length ≤ 16777216) : partD (mkS l) (tx [c]) = .ok (match par [c] [] l with
    | some (a, b) => .tup [tx a, tx [c], tx b]
    | none => .tup [tx l, tx [], tx []]) := by
  show (if ((mkS [c]).length == 0) = false ∧ (mkS l).length ≤ sizeLine then R.ok (D.tup [.str (Txt.partition (mkS l) (mkS [c])).1, .str (Txt.partition (mkS l) (mkS [c])).2.1, .str (Txt.partition (mkS l) (mkS [c])).2.2]) else .stuck) = _
  rw [if_pos ⟨rfl, by rw [mkS_len]; exact small h⟩, partition_par _ _ (by rw [tl_mkS]; simp), tl_mkS, tl_mkS]
  cases par [c] [] l with
  | none => rfl
  | some q => rfl
theorem tx_join (c : List Nat) (ws : List (List Nat)) (h : (ws.map (·.length)).sum + ws.length * c.length ≤ 16777216) (t : Bool) : joinD (tx c) (.lst t (ws.map tx)) = .ok (tx (joinL c ws)) := by
  have so : ∀ us : List (List Nat), joinD.strsOf (us.map tx) = some (us.map mkS) := fun us => by
    induction us with
    | nil => rfl
    | cons u us ih => rw [List.map_cons]; simp only [joinD.strsOf, ih]; rfl
  simp only [joinD, so]
  rw [if_pos (by rw [List.map_map, List.length_map, mkS_len]; rw [show (fun x : Str => x.length) ∘ mkS = fun x : List Nat => x.length from funext mkS_len]; exact h), join_eq]
  congr 2
  refine ext_tl ?_
  rw [tl_join, tl_mkS, tl_mkS, List.map_map]
  congr 1
  rw [show tl ∘ mkS = id from rfl, List.map_id]
theorem tx_int {l : List Nat} (h : NumText.AllDigits l) (hn : l ≠ []) (hl : l.length ≤ 640) : intA [tx l] = .ok (.int (NumText.digitsVal l : Nat)) := by
  have e : intText? (mkS l) = some ((NumText.digitsVal l : Nat) : Int) := by
    have := intText_digits (x := mkS l) (show NumText.AllDigits (tl (mkS l)) from h) (show tl (mkS l) ≠ [] from hn) (by rw [mkS_len]; omega)
    exact this
  show (match PySem.intText? (mkS l) with | some n => if (mkS l).length ≤ 640 then R.ok (D.int n) else .stuck | none => .stuck) = _
  rw [e]
  simp only
  rw [if_pos (by rw [mkS_len]; exact hl)]
end CK

namespace CK
open PySem PySem.Spec PyProof.Rows L2 CT
open TL (tl mk_tl len_tl ext_tl tl_append tl_ofString spl par joinL tl_join join_eq split_spl kind_ok partition_par)
@[simp] theorem R.map_exc {α β : Type} (g : α → β) (c : String) : R.map g (R.exc c) = .exc c := rfl
@[simp] theorem R.map_stuck {α β : Type} (g : α → β) : R.map g R.stuck = .stuck := rfl
theorem k_dig : (("0123456789" : Str)) = mkS [48, 49, 50, 51, 52, 53, 54, 55, 56, 57] := mkS_of _
theorem k_0 : (("0" : Str)) = mkS [48] := mkS_of _
theorem k_sp : ((" " : Str)) = mkS [32] := mkS_of _
theorem k_e : (("" : Str)) = mkS [] := mkS_of _
def isDig (c : Nat) : Bool := decide (48 ≤ c ∧ c ≤ 57)
theorem dig_in (c : Nat) : decide (c ∈ [48, 49, 50, 51, 52, 53, 54, 55, 56, 57]) = isDig c := by
  unfold isDig
  refine decide_eq_decide.mpr ⟨fun h => ?_, fun h => ?_⟩
  · simp at h; omega
  · simp; omega
def cntL (l : List Nat) : R Int := if 1 ≤ l.length ∧ l.length ≤ 40 ∧ l.all isDig = true ∧ (l.head? ≠ some 48 ∨ l = [48]) then .ok (NumText.digitsVal l : Nat) else .exc "NoText"
theorem r_sure (b : Bool) : s_sure [.bl b] = if b = true then .ok .non else .exc "NoText" := by
  cases b with
  | true =>
    rw [if_pos rfl]
    unfold s_sure
    refine def_ok1 rfl ?_
    simp
  | false =>
    rw [if_neg (by decide)]
    unfold s_sure
    refine def_ex1 rfl ?_
    simp
theorem def_rR {n k : Nat} {g : SemS} {ds : List D} {r : R D} (h : ds.length = n) (hs : r ≠ .stuck) (w : wp (g (ds.map some ++ List.replicate (k - n) none)) ⟨fun _ => r = .ok .non, fun _ => False, fun _ => False, fun x => r = .ok x, fun c => r = .exc c⟩) : defF n k g ds = r := by
  rw [defF_eq _ _ _ _ h]
  cases hg : g (List.map some ds ++ List.replicate (k - n) none) <;> rw [hg] at w <;> first | exact w.symm | exact w.elim
theorem cntL_ns (l : List Nat) : cntL l ≠ .stuck := by unfold cntL; split <;> intro h <;> cases h
theorem map_ns {α β : Type} {r : R α} {f : α → β} (h : r ≠ .stuck) : r.map f ≠ .stuck := by
  cases r with
  | ok a => intro z; cases z
  | exc c => intro z; cases z
  | stuck => exact absurd rfl h
theorem r_count_in (l : List Nat) (h : l.length ≤ 16777216) : s_count_in [tx l] = (cntL l).map D.int := by
  have lc : lcGo (putR 1) tYesM (CT.e2 inD (eVar 1) (eC (.str "0123456789"))) [some (tx l), none] (l.map fun c => tx [c]) = .ok (l.map fun c => D.bl (isDig c)) := by
    refine lcGo_map1 (fun c => tx [c]) _ l fun c _ => ⟨[some (tx l), some (tx [c])], by simp, ?_, rfl⟩
    show inD (tx [c]) (.str "0123456789") = _
    rw [k_dig, tx_in, dig_in]
  have al : allD [.lst false (l.map fun c => D.bl (isDig c))] = .ok (.bl (l.all isDig)) := allD_f false isDig l
  unfold s_count_in
  refine def_rR rfl (map_ns (cntL_ns l)) ?_
  have hl := tx_len l h
  by_cases c1 : 1 ≤ l.length
  rotate_left
  · have : ¬ (1 : Int) ≤ l.length := by omega
    simp [hl, this, r_sure, cntL, c1]
  by_cases c2 : l.length ≤ 40
  rotate_left
  · have a1 : (1 : Int) ≤ l.length := by omega
    have a2 : ¬ (l.length : Int) ≤ 40 := by omega
    simp [hl, a1, a2, r_sure, cntL, c1, c2]
  have a1 : (1 : Int) ≤ l.length := by omega
  have a2 : (l.length : Int) ≤ 40 := by omega
  by_cases c3 : l.all isDig = true
  rotate_left
  · simp [hl, a1, a2, tx_items, lc, al, small (show l.length ≤ 16777216 by omega), r_sure, cntL, c1, c2, c3]
  obtain ⟨c, hc⟩ : ∃ c, l.head? = some c := by
    cases l with
    | nil => simp at c1
    | cons c r => exact ⟨c, rfl⟩
  have at0 : atI l 0 = some c := by
    cases l with
    | nil => simp at c1
    | cons c' r => simpa [atI, ixN] using hc
  have hne : l ≠ [] := fun e => by subst e; simp at c1
  have ix := tx_ix l 0 (c := c) (by omega) at0
  have q1 : neD (tx [c]) (.str "0") = .ok (.bl (!decide (c = 48))) := by rw [k_0, tx_ne]; simp
  have q2 : eqD (tx l) (.str "0") = .ok (.bl (decide (l = [48]))) := by rw [k_0, tx_eq]
  have dg : NumText.AllDigits l := fun x hx => by
    have := List.all_eq_true.mp c3 x hx
    unfold isDig at this
    simpa using this
  have it := tx_int dg hne (by omega)
  have cn : cntL l = if c ≠ 48 ∨ l = [48] then .ok (NumText.digitsVal l : Nat) else .exc "NoText" := by
    unfold cntL
    simp [c1, c2, c3, hc]
  have sl : l.length ≤ sizeLine := small (by omega)
  by_cases c4 : c = 48
  · rw [decide_eq_true c4] at q1
    by_cases c5 : l = [48]
    · rw [decide_eq_true c5] at q2
      rw [if_pos (.inr c5)] at cn
      simp [hl, a1, a2, tx_items, lc, al, c3, sl, ix, q1, q2, it, r_sure, cn]
    · rw [decide_eq_false c5] at q2
      rw [if_neg (fun z => z.elim (fun z => z c4) c5)] at cn
      simp [hl, a1, a2, tx_items, lc, al, c3, sl, ix, q1, q2, it, r_sure, cn]
  · rw [decide_eq_false c4] at q1
    rw [if_pos (.inl c4)] at cn
    simp [hl, a1, a2, tx_items, lc, al, c3, sl, ix, q1, q2, it, r_sure, cn]
end CK

namespace CK
open PySem PySem.Spec PyProof.Rows L2 CT
open TL (tl mk_tl len_tl ext_tl tl_append tl_ofString spl par joinL tl_join join_eq split_spl kind_ok partition_par)
end CK

namespace CK
open PySem PySem.Spec PyProof.Rows L2 CT
open TL (tl mk_tl len_tl ext_tl tl_append tl_ofString spl par joinL tl_join join_eq split_spl kind_ok partition_par)
theorem num_head (n : Nat) : (TL.numL n).head? ≠ some 48 ∨ n = 0 := by
  induction n using Nat.strongRecOn with
  | _ n ih =>
    by_cases h : n < 10
    · rw [TL.numL_lt h]
      by_cases h0 : n = 0
      · exact .inr h0
      · exact .inl (by simp; exact h0)
    · rw [TL.numL_step (by omega)]
      refine .inl ?_
      rcases ih (n / 10) (by omega) with h1 | h1
      · have := TL.numL_ne (n / 10)
        cases hl : TL.numL (n / 10) with
        | nil => exact absurd hl this
        | cons c r => rw [hl] at h1; simpa using h1
      · omega
theorem cnt_num {n : Nat} (h : n < 10 ^ 40) : cntL (TL.numL n) = .ok (n : Int) := by
  unfold cntL
  have h1 := numL_len40 h
  have h2 := TL.numL_ne n
  have h3 : 1 ≤ (TL.numL n).length := by cases hl : TL.numL n with
    | nil => exact absurd hl h2
    | cons _ _ => simp
  have h4 : (TL.numL n).all isDig = true := by
    rw [List.all_eq_true]
    intro c hc
    have := TL.numL_digits n c hc
    unfold isDig
    simpa using this
  have h5 : (TL.numL n).head? ≠ some 48 ∨ TL.numL n = [48] := (num_head n).imp id fun e => by subst e; exact TL.numL_lt (by decide)
  rw [if_pos ⟨h3, h1, h4, h5⟩, TL.numL_val]
end CK

namespace CK
open PySem PySem.Spec PyProof.Rows L2 CT
open TL (tl mk_tl len_tl ext_tl tl_append tl_ofString spl par joinL tl_join join_eq split_spl kind_ok partition_par)
def N40 (i : Int) : Prop := 0 ≤ i ∧ i < 10 ^ 40
def nmL (i : Int) : List Nat := TL.numL i.toNat
theorem nmL_str {i : Int} (h : N40 i) : strD [.int i] = .ok (tx (nmL i)) := by
  obtain ⟨h0, h1⟩ := h
  have e : i = (i.toNat : Int) := by omega
  have hb : i.toNat < 10 ^ 300 := by
    have : i.toNat < 10 ^ 40 := by omega
    exact Nat.lt_trans this (by decide +kernel)
  unfold nmL
  rw [← tx_num i.toNat hb, ← e]
theorem nmL_asc (i : Int) : Asc (nmL i) := asc_num _
theorem nmL_len {i : Int} (h : N40 i) : (nmL i).length ≤ 40 := numL_len40 (by obtain ⟨_, _⟩ := h; omega)
theorem lc_txt {α : Type} {f : List D → R D} {T : α → List Nat} {enc : α → D} {k : Nat} {m : Sl} (hk : ∀ d, eVar k (m.set k (some d)) = .ok d) (he : ∀ a, hasT (enc a) = false) (hs : ∀ a, still (enc a) = enc a) {xs : List α} (hf : ∀ x ∈ xs, f [enc x] = .ok (tx (T x))) :
    lcGo (putR k) tYesM (eA (callF f) (aCons (eVar k) aNil)) m (xs.map enc) = .ok ((xs.map T).map tx) := by
  rw [List.map_map]
  exact lcGo_map1 enc (tx ∘ T) xs fun a ha => ⟨m.set k (some (enc a)), by simp [he], by simp [hk, he, hs, hf a ha], rfl⟩
end CK

namespace CK
open PySem PySem.Spec PyProof.Rows L2 CT
def far : Nat := 1000000000
mutual
def wt : D → Nat
  | .tup xs => 1 + wtL xs
  | .lst t xs => (if t then far else 1) + wtL xs
  | .fr _ => far
  | .non => 1
  | .bl _ => 1
  | .int i => if i.natAbs < 10 ^ 45 then i.natAbs.log2 + 1 else far
  | .str x => if PyData.strOk x = true then x.length + 1 else far
  | .unk => far
  | .ex _ => far
  | .fn _ => far
  | .dic _ _ => far
  | .dct _ _ _ => far
def wtL : List D → Nat
  | [] => 0
  | x :: xs => wt x + 1 + wtL xs
end
theorem wtL_mem {x : D} : ∀ {xs : List D}, x ∈ xs → wt x + 1 ≤ wtL xs
  | y :: ys, h => by
    simp only [wtL]
    rcases List.mem_cons.mp h with e | e
    · rw [e]; omega
    · have := wtL_mem (xs := ys) e; omega
theorem wtL_len : ∀ xs : List D, xs.length ≤ wtL xs
  | [] => Nat.le_refl _
  | x :: xs => by have := wtL_len xs; simp only [wtL, List.length_cons]; omega
theorem wtL_app : ∀ xs ys : List D, wtL (xs ++ ys) = wtL xs + wtL ys
  | [], ys => by simp [wtL]
  | x :: xs, ys => by simp only [List.cons_append, wtL, wtL_app xs ys]; omega
structure WtOk (d : D) : Prop where
  lay : lay d = true
  t : hasT d = false
  b : bd d = true
  sh : PyData.showable (py d) = true
  w : PyData.weight (py d) ≤ wt d
  lf : PyData.leavesShort 50 (py d) = true
structure WtOkL (xs : List D) : Prop where
  lay : layL xs = true
  t : hasTL xs = false
  b : bdL xs = true
  sh : PyData.showableAll (pyL xs) = true
  w : PyData.weightAll (pyL xs) ≤ wtL xs
  lf : PyData.leavesShortAll 50 (pyL xs) = true
theorem wt_int_lt {i : Int} (h : wt (.int i) < far) : i.natAbs < 10 ^ 45 := by
  unfold wt at h
  split at h
  · assumption
  · exact absurd h (by simp [far])
mutual
theorem wt_ok : ∀ d, wt d ≤ 250000 → WtOk d
  | .tup xs, h => by
    have h' : 1 + wtL xs ≤ 250000 := h
    have k := wt_okL xs (by omega)
    have hl := wtL_len xs
    refine ⟨k.lay, k.t, ?_, k.sh, ?_, k.lf⟩
    · simp only [bd, k.b, Bool.and_true, decide_eq_true_eq]; omega
    · have := k.w; simp only [py, PyData.weight, wt]; omega
  | .lst t xs, h => by
    cases t with
    | true => exfalso; simp only [wt, if_true, far] at h; omega
    | false =>
      have h' : 1 + wtL xs ≤ 250000 := h
      have k := wt_okL xs (by omega)
      have hl := wtL_len xs
      refine ⟨k.lay, by simp only [hasT, k.t]; rfl, ?_, k.sh, ?_, k.lf⟩
      · simp only [bd, k.b, Bool.and_true, decide_eq_true_eq]; omega
      · have := k.w; simp only [py, PyData.weight, wt]; simp; omega
  | .fr _, h => by simp [wt, far] at h
  | .non, _ => ⟨rfl, rfl, rfl, rfl, by simp [py, PyData.weight], rfl⟩
  | .bl _, _ => ⟨rfl, rfl, rfl, rfl, by simp [py, PyData.weight], rfl⟩
  | .int i, h => by
    have hi := wt_int_lt (i := i) (by unfold far; omega)
    refine ⟨rfl, rfl, rfl, ?_, ?_, ?_⟩
    · simp only [py, PyData.showable, decide_eq_true_eq]
      by_cases h0 : i.natAbs = 0
      · rw [h0]; decide
      · exact (Nat.log2_lt h0).mpr (Nat.lt_of_lt_of_le hi (by decide +kernel))
    · simp only [py, PyData.weight, wt, if_pos hi]
      split <;> omega
    · simp only [py, PyData.leavesShort, PyData.shown]
      have := int_text_length_le10 (a := i) (k := 45) (by omega) hi
      have e : (Str.ofString (toString i)).length = (toString i).length := by
        unfold Str.length Str.ofString
        rw [cpsOfBytes_string]
        simp [String.length]
      have : (Str.ofString (toString i)).length ≤ 50 := by omega
      exact decide_eq_true this
  | .str x, h => by
    unfold wt at h
    split at h
    · rename_i hs
      refine ⟨hs, rfl, rfl, rfl, ?_, ?_⟩
      · simp only [py, PyData.weight, wt, if_pos hs]
        show x.cps.size ≤ x.cps.size + 1
        omega
      · simp only [py, PyData.leavesShort]
        rw [List.all_eq_true]
        intro c hc
        have h1 : x.cps.all (· < 0x110000) = true := hs
        rw [← Array.all_toList, List.all_eq_true] at h1
        have := h1 c hc
        simp only [decide_eq_true_eq] at this ⊢
        omega
    · simp [far] at h
  | .unk, h => by simp [wt, far] at h
  | .ex _, h => by simp [wt, far] at h
  | .fn _, h => by simp [wt, far] at h
  | .dic _ _, h => by simp [wt, far] at h
  | .dct _ _ _, h => by simp [wt, far] at h
theorem wt_okL : ∀ xs, wtL xs ≤ 250000 → WtOkL xs
  | [], _ => ⟨rfl, rfl, rfl, rfl, by simp [pyL, PyData.weightAll, wtL], rfl⟩
  | x :: xs, h => by
    have h' : wt x + 1 + wtL xs ≤ 250000 := h
    have k := wt_ok x (by omega)
    have k' := wt_okL xs (by omega)
    refine ⟨by simp only [layL, k.lay, k'.lay, Bool.and_self], by simp only [hasTL, k.t, k'.t, Bool.or_self], by simp only [bdL, k.b, k'.b, Bool.and_self],
      by simp only [pyL, PyData.showableAll, k.sh, k'.sh, Bool.and_self], ?_, by simp only [pyL, PyData.leavesShortAll, k.lf, k'.lf, Bool.and_self]⟩
    have := k.w; have := k'.w; simp only [pyL, PyData.weightAll, wtL]; omega
end
structure Fit (k n : Nat) (d : D) : Prop where
  dp : PyData.depth (py d) ≤ k
  w : wt d ≤ n
theorem Fit.mono {k n k' n' : Nat} {d : D} (h : Fit k n d) (h1 : k ≤ k' := by omega) (h2 : n ≤ n' := by omega) : Fit k' n' d := ⟨Nat.le_trans h.dp h1, Nat.le_trans h.w h2⟩
theorem Fit.good {k n : Nat} {d : D} (h : Fit k n d) (hk : k ≤ 64 := by omega) (hn : n ≤ 250000 := by omega) : Good d :=
  have w := wt_ok d (Nat.le_trans h.w hn)
  ⟨w.t, ⟨w.lay, Nat.le_trans h.dp hk⟩, w.b⟩
theorem Fit.t {k n : Nat} {d : D} (h : Fit k n d) (hn : n ≤ 250000 := by omega) : hasT d = false := (wt_ok d (Nat.le_trans h.w hn)).t
structure FitL (k n : Nat) (xs : List D) : Prop where
  dp : PyData.depthAll (pyL xs) ≤ k
  w : wtL xs ≤ n
theorem FitL.mono {k n k' n' : Nat} {d : List D} (h : FitL k n d) (h1 : k ≤ k' := by omega) (h2 : n ≤ n' := by omega) : FitL k' n' d := ⟨Nat.le_trans h.dp h1, Nat.le_trans h.w h2⟩
theorem FitL.nil {k n : Nat} : FitL k n [] := ⟨by simp [pyL, PyData.depthAll], by simp [wtL]⟩
theorem Fit.cons {k n m : Nat} {x : D} {xs : List D} (h : Fit k n x) (h' : FitL k m xs) : FitL k (n + 1 + m) (x :: xs) := ⟨by have := h.dp; have := h'.dp; simp only [pyL, PyData.depthAll]; omega, by have := h.w; have := h'.w; simp only [wtL]; omega⟩
theorem depthAll_app : ∀ xs ys : List D, PyData.depthAll (pyL (xs ++ ys)) = max (PyData.depthAll (pyL xs)) (PyData.depthAll (pyL ys))
  | [], ys => by simp [pyL, PyData.depthAll]
  | x :: xs, ys => by simp only [List.cons_append, pyL, PyData.depthAll, depthAll_app xs ys]; omega
theorem FitL.app {k n m : Nat} {xs ys : List D} (h : FitL k n xs) (h' : FitL k m ys) : FitL k (n + m) (xs ++ ys) := ⟨by have := h.dp; have := h'.dp; rw [depthAll_app]; omega, by have := h.w; have := h'.w; rw [wtL_app]; omega⟩
theorem FitL.tup {k n : Nat} {xs : List D} (h : FitL k n xs) : Fit (k + 1) (n + 1) (.tup xs) := ⟨by have := h.dp; simp only [py, PyData.depth]; omega, by have := h.w; simp only [wt]; omega⟩
theorem FitL.lst {k n : Nat} {xs : List D} (h : FitL k n xs) : Fit (k + 1) (n + 1) (.lst false xs) := ⟨by have := h.dp; simp only [py, PyData.depth]; omega, by have := h.w; simp only [wt]; simp; omega⟩
theorem FitL.t {k n : Nat} {xs : List D} (h : FitL k n xs) (hn : n ≤ 250000 := by omega) : hasTL xs = false := (wt_okL xs (Nat.le_trans h.w hn)).t
theorem FitL.mem {k n : Nat} {xs : List D} (h : FitL k n xs) {x : D} (hx : x ∈ xs) : Fit k n x := ⟨Nat.le_trans (depth_mem hx) h.dp, by have := wtL_mem hx; have := h.w; omega⟩
theorem fit_non {k : Nat} : Fit k 1 .non := ⟨by simp [py, PyData.depth], Nat.le_refl _⟩
theorem fit_bl {k : Nat} {b : Bool} : Fit k 1 (.bl b) := ⟨by simp [py, PyData.depth], Nat.le_refl _⟩
theorem fit_int {k : Nat} {i : Int} (h : i.natAbs < 10 ^ 45) : Fit k 151 (.int i) := ⟨by simp [py, PyData.depth], by
  simp only [wt, if_pos h]
  by_cases h0 : i.natAbs = 0
  · rw [h0]; decide
  · have := (Nat.log2_lt (k := 150) h0).mpr (Nat.lt_of_lt_of_le h (by decide +kernel)); omega⟩
theorem fit_str {k : Nat} {x : Str} (h : PyData.strOk x = true) : Fit k (x.length + 1) (.str x) := ⟨by simp [py, PyData.depth], by simp only [wt, if_pos h]; omega⟩
theorem FitL.all {k n m : Nat} : ∀ {xs : List D}, (∀ x ∈ xs, Fit k n x) → xs.length ≤ m → FitL k ((n + 1) * m) xs
  | [], _, _ => FitL.nil
  | x :: xs, h, hm => by
    cases m with
    | zero => simp at hm
    | succ m =>
      have := FitL.all (m := m) (xs := xs) (fun y hy => h y (by simp [hy])) (by simpa using hm)
      refine ((h x (by simp)).cons this).mono (by omega) ?_
      rw [Nat.mul_succ]; omega
def shown (d : D) : Str := PyData.shown (py d)
theorem strD_fit {k n : Nat} {d : D} (f : Fit k n d) (hd : (∃ xs, d = .lst false xs) ∨ ∃ xs, d = .tup xs) (hk : k ≤ 52 := by omega) (hn : n ≤ 240010 := by omega) : strD [d] = .ok (.str (shown d)) := by
  have w := wt_ok _ (Nat.le_trans f.w (by omega))
  have e : strD [d] = shR (py d) := by rcases hd with ⟨xs, rfl⟩ | ⟨xs, rfl⟩ <;> rfl
  rw [e]
  unfold shR
  rw [if_pos]
  · rfl
  · have e := PyData.shown_le 50 (by omega) _ w.lf
    have e2 := w.w
    have e3 := f.w
    have e4 := f.dp
    have e5 := w.sh
    rw [Bool.and_eq_true, Bool.and_eq_true, decide_eq_true_eq, decide_eq_true_eq, sizeLine_eq]
    refine ⟨⟨e5, by omega⟩, ?_⟩
    omega
theorem Fit.nfr {k n : Nat} {xs : List D} (f : Fit k n (.fr xs)) (hn : n ≤ 250000 := by omega) : False := by
  have := f.w
  simp only [wt, far] at this
  omega
theorem ixD_mod {t : Bool} {xs : List D} (n k : Int) (hk : (xs.length : Int) = k) (h0 : 0 < k) : ∃ x ∈ xs, ixD (.lst t xs) (.int (n % k)) = .ok x := by
  have h1 := Int.emod_nonneg n (show k ≠ 0 by omega)
  have h2 := Int.emod_lt_of_pos n h0
  obtain ⟨j, hj⟩ := Int.eq_ofNat_of_zero_le h1
  have hl : j < xs.length := by omega
  refine ⟨xs[j], List.getElem_mem hl, ?_⟩
  rw [hj]
  exact ixD_lst (by simp [hl])
end CK

namespace CK
open PySem PySem.Spec PyProof.Rows L2 CT
theorem r_law_whole (d : D) (h : isX d = false) : s_law_whole [d] = .ok (.bl (isWholeB d)) := by
  unfold s_law_whole
  refine def_ok1 rfl ?_
  cases d <;> first | (cases h; done) | simp [isWholeB]
end CK

namespace CK
open PySem PySem.Spec PyProof.Rows L2 CT
open TL (tl mk_tl len_tl ext_tl tl_append tl_ofString spl par joinL tl_join join_eq split_spl kind_ok partition_par)
theorem nmL_free {i : Int} {c : Nat} (h : c < 48 ∨ 57 < c) : c ∉ nmL i := TL.numL_free h
theorem N40.nat {i : Int} (h : N40 i) : i.toNat < 10 ^ 40 ∧ ((i.toNat : Nat) : Int) = i := by obtain ⟨_, _⟩ := h; omega
end CK

namespace CK
open PySem PySem.Spec PyProof.Rows L2 CT
theorem p10_6 : powD (.int 10) (.int 6) = .ok (.int 1000000) := by rw [powD_lit (by decide +kernel)]; rfl
theorem r_number {n : Nat} {xs : List D} (h : Dr n xs) (hn : n ≤ 900000) (a : Nat) :
    ∃ v ys, s_law_number [lentD (some a) xs] = .ok (v, some (lentD (some a) ys)) ∧ (∃ i : Int, v = .int i ∧ N40 i) ∧ Dr (n + 20) ys := by
  unfold s_law_number
  refine defL_run rfl ?_
  have e : (List.map some [lentD (some a) xs] ++ List.replicate (4 - 1) none : Sl) = [some (lentD (some a) xs), none, none, none] := rfl
  rw [e]
  simp (disch := first | omega | (simp; done) | fail) [wpB_seq]
  refine wpX_next h (by omega) fun i ys hi hd => ?_
  simp (disch := first | omega | (simp; done) | fail) [modD_ok]
  refine wpX_next hd (by omega) fun i2 ys2 hi2 hd2 => ?_
  obtain ⟨z, hz1, hz2, ix⟩ : ∃ z : Int, 1 ≤ z ∧ z ≤ 1000000 ∧ ixD (.lst false [.int 3, .int 30, .int 1000, .int 1000000]) (.int (i % 4)) = .ok (.int z) := by
    have : i % 4 = 0 ∨ i % 4 = 1 ∨ i % 4 = 2 ∨ i % 4 = 3 := by omega
    rcases this with e | e | e | e <;> rw [e]
    · exact ⟨3, by omega, by omega, ixD_lst (i := 0) rfl⟩
    · exact ⟨30, by omega, by omega, ixD_lst (i := 1) rfl⟩
    · exact ⟨1000, by omega, by omega, ixD_lst (i := 2) rfl⟩
    · exact ⟨1000000, by omega, by omega, ixD_lst (i := 3) rfl⟩
  simp (disch := first | omega | (simp; done) | fail) [modD_ok, p10_6, ix]
  have m0 : 0 ≤ i2 % z := Int.emod_nonneg _ (by omega)
  have m1 : i2 % z < z := Int.emod_lt_of_pos _ (by omega)
  generalize i2 % z = v0 at *
  refine wpX_next hd2 (by omega) fun i3 ys3 hi3 hd3 => ?_
  simp (disch := first | omega | (simp; done) | fail) [modD_ok, -wp_for_cons, -wp_for_nil]
  refine wp_cut (fun m => ∃ (ys : List D) (z v : Int) (x3 : Option D), m = [some (lentD (some a) ys), some (.int z), some (.int v), x3] ∧ N40 v ∧ Dr (n + 20) ys) ?_ (fun m hm => ?_)
  · by_cases c : i3 % 8 = 5
    · have er : rng1 [.int 6] = .ok (rng 0 6) := rfl
      simp [c, er, -rng1_int, -wp_for_cons, -wp_for_nil]
      obtain ⟨J, hJ⟩ : ∃ J : Nat → Sl → Prop, J = fun j m => ∃ (zs : List D) (t : Int) (x1 x3 : Option D), Dr (n + 3 + j) zs ∧ 0 ≤ t ∧ m = [some (lentD (some a) zs), some (.int (i % 4)), some (.int t), x3] := ⟨_, rfl⟩
      refine wp_rng J ?_ (fun j hj m hm => ?_) (fun m hm => ?_)
      · rw [hJ]; exact ⟨ys3, v0, none, none, hd3.mono, m0, rfl⟩
      · rw [hJ] at hm
        obtain ⟨zs, t, _, x3, hz, t0, rfl⟩ := hm
        have mt : mulD (.int t) (.int 1000000) = .ok (.int (t * 1000000)) := mulD_r (by decide)
        simp (disch := first | omega | (simp; done) | fail) [p10_6, mt]
        refine wpX_next hz (by omega) fun v zs2 hv hz2 => ?_
        simp (disch := first | omega | (simp; done) | fail) [p10_6, modD_ok]
        rw [hJ]
        exact ⟨zs2, _, none, _, hz2.mono, by omega, rfl⟩
      · rw [hJ] at hm
        obtain ⟨zs, t, _, x3, hz, t0, rfl⟩ := hm
        simp (disch := first | omega | (simp; done) | fail) [modD_ok, pow10_40]
        exact ⟨zs, _, _, ⟨rfl, rfl, rfl⟩, ⟨by omega, by omega⟩, hz.mono⟩
    · simp [c]
      exact ⟨ys3, _, _, ⟨rfl, rfl, rfl⟩, ⟨by omega, by omega⟩, hd3.mono⟩
  · obtain ⟨zs, z, v, x3, rfl, hv, hz⟩ := hm
    simp
    exact ⟨zs, rfl, hv, hz⟩
end CK

namespace CK
open PySem PySem.Spec PyProof.Rows L2 CT
open TL (tl mk_tl len_tl ext_tl tl_append tl_ofString spl par joinL tl_join join_eq split_spl kind_ok partition_par)
theorem k_w : (("w" : Str)) = mkS [119] := mkS_of _
theorem k_s : (("s" : Str)) = mkS [115] := mkS_of _
theorem k_c : (("c" : Str)) = mkS [99] := mkS_of _
theorem k_r : (("r" : Str)) = mkS [114] := mkS_of _
theorem k_co : ((":" : Str)) = mkS [58] := mkS_of _
theorem k_cm : (("," : Str)) = mkS [44] := mkS_of _
theorem k_sl : (("/" : Str)) = mkS [47] := mkS_of _
theorem k_click : (("click" : Str)) = mkS [99, 108, 105, 99, 107] := mkS_of _
theorem k_rocker : (("rocker" : Str)) = mkS [114, 111, 99, 107, 101, 114] := mkS_of _
def P71 (q : Part) : Prop := PartOk q ∧ match q with
  | .wheel z ms => z < 10 ^ 40 ∧ ms.length ≤ 30
  | .spring k => k < 10 ^ 40
  | .click => True
  | .rocker => True
def partT : Part → List Nat
  | .wheel z ms => [119] ++ nmL z ++ [58] ++ joinL [44] (ms.map nmL)
  | .click => [99]
  | .rocker => [114]
  | .spring k => [115] ++ nmL k
theorem join_len1 (c : Nat) (ws : List (List Nat)) : (joinL [c] ws).length ≤ (ws.map (·.length)).sum + ws.length := by
  induction ws with
  | nil => simp [joinL]
  | cons w ws ih =>
    cases ws with
    | nil => simp [joinL]
    | cons v vs => simp [joinL] at ih ⊢; omega
theorem sum_len {ws : List (List Nat)} {k : Nat} (h : ∀ w ∈ ws, w.length ≤ k) : (ws.map (·.length)).sum ≤ k * ws.length := by
  induction ws with
  | nil => simp
  | cons w ws ih =>
    have h1 := h w (by simp)
    have h2 := ih fun v hv => h v (by simp [hv])
    rw [List.map_cons, List.sum_cons, List.length_cons, Nat.mul_succ]; omega
theorem wheel_n40 {z : Int} {ms : List Int} (h : P71 (.wheel z ms)) : N40 z ∧ (∀ m ∈ ms, N40 m) ∧ ms.length ≤ 30 := by
  obtain ⟨⟨h1, _, _, h2, _⟩, h3, h4⟩ := h
  exact ⟨⟨by omega, h3⟩, fun m hm => ⟨(h2 m hm).1, Int.lt_trans (h2 m hm).2 h3⟩, h4⟩
theorem nms_len {ms : List Int} (h : ∀ m ∈ ms, N40 m) : ((ms.map nmL).map (·.length)).sum ≤ 40 * ms.length := by
  have := sum_len (ws := ms.map nmL) (k := 40) fun w hw => by
    obtain ⟨m, hm, rfl⟩ := List.mem_map.mp hw
    exact nmL_len (h m hm)
  rwa [List.length_map] at this
theorem r_strs {ms : List Int} (h : ∀ m ∈ ms, N40 m) {k : Nat} {m0 : Sl} (hk : ∀ d, eVar k (m0.set k (some d)) = .ok d) :
    lcGo (putR k) tYesM (eA strD (aCons (eVar k) aNil)) m0 (ms.map .int) = .ok ((ms.map nmL).map tx) := by
  rw [List.map_map]
  exact lcGo_map1 D.int (tx ∘ nmL) ms fun a ha => ⟨m0.set k (some (.int a)), by simp, by simp [hk, nmL_str (h a ha)], rfl⟩
theorem joins_len {ms : List Int} (h : ∀ m ∈ ms, N40 m) (hl : ms.length ≤ 30) (c : Nat) : (joinL [c] (ms.map nmL)).length ≤ 1230 := by
  have b := join_len1 c (ms.map nmL)
  have c := nms_len h
  rw [List.length_map] at b
  omega
theorem partT_len {q : Part} (h : P71 q) : (partT q).length ≤ 1300 := by
  cases q with
  | wheel z ms =>
    obtain ⟨h1, h2, h3⟩ := wheel_n40 h
    have a := nmL_len h1
    have b := joins_len h2 h3 44
    simp [partT]; omega
  | click => simp [partT]
  | rocker => simp [partT]
  | spring k =>
    have a := nmL_len (i := k) ⟨by have := h.1.1; omega, h.2⟩
    simp [partT]; omega
theorem r_part_shown {q : Part} (h : P71 q) : s_part_shown [encP q] = .ok (tx (partT q)) := by
  unfold s_part_shown
  refine def_ok1 rfl ?_
  cases q with
  | wheel z ms =>
    obtain ⟨h1, h2, h3⟩ := wheel_n40 h
    have a := nmL_len h1
    have b := joins_len h2 h3 44
    have c := nms_len h2
    have lc := r_strs h2 (k := 1) (m0 := [some (encP (.wheel z ms)), none]) fun _ => rfl
    have jn : joinD (.str ",") (.lst false ((ms.map nmL).map tx)) = .ok (tx (joinL [44] (ms.map nmL))) := by
      rw [k_cm]
      exact tx_join [44] (ms.map nmL) (by rw [List.length_map]; simp only [List.length_singleton]; omega) false
    have a1 := tx_add [119] (nmL z) (by simp; omega)
    have a2 := tx_add ([119] ++ nmL z) [58] (by simp; omega)
    have a3 := tx_add ([119] ++ nmL z ++ [58]) (joinL [44] (ms.map nmL)) (by simp only [List.length_append, List.length_singleton]; omega)
    have st : stillL ((ms.map nmL).map tx) = (ms.map nmL).map tx := stillL_map (fun _ => rfl) _
    have tt : hasTL ((ms.map nmL).map tx) = false := hasTL_map (fun _ => rfl) _
    have tm := hasTL_ints ms
    have i0 : ixD (encP (.wheel z ms)) (.int 0) = .ok (.str "wheel") := ixD_0 ..
    have i1 : ixD (encP (.wheel z ms)) (.int 1) = .ok (.int z) := ixD_1 ..
    have i2 : ixD (encP (.wheel z ms)) (.int 2) = .ok (.tup (ms.map .int)) := ixD_2 ..
    rw [k_w, k_co]
    have hl : (ms.map nmL).length ≤ 16777216 := by rw [List.length_map]; omega
    have pe : partT (.wheel z ms) = 119 :: (nmL z ++ 58 :: joinL [44] (ms.map nmL)) := by simp [partT]
    generalize ms.map nmL = ws at *
    simp only [List.append_assoc, List.cons_append, List.nil_append] at a1 a2 a3
    simp [i0, i1, i2, nmL_str h1, itemsN, items, tm, lc, jn, a1, a2, a3, joinE, st, tt, small hl, pe]
  | click =>
    have i0 : ixD (encP .click) (.int 0) = .ok (.str "click") := ixD_0 ..
    have cu : cutD (.str "click") none (some 1) = .ok (tx [99]) := by rw [k_click]; exact tx_cut _ none (some 1) (by decide)
    simp [i0, cu, partT]
  | rocker =>
    have i0 : ixD (encP .rocker) (.int 0) = .ok (.str "rocker") := ixD_0 ..
    have cu : cutD (.str "rocker") none (some 1) = .ok (tx [114]) := by rw [k_rocker]; exact tx_cut _ none (some 1) (by decide)
    simp [i0, cu, partT]
  | spring k =>
    have n1 : N40 k := ⟨by have := h.1.1; omega, h.2⟩
    have a := nmL_len n1
    have i0 : ixD (encP (.spring k)) (.int 0) = .ok (.str "spring") := ixD_0 ..
    have i1 : ixD (encP (.spring k)) (.int 1) = .ok (.int k) := ixD_1 ..
    have a1 := tx_add [115] (nmL k) (by simp; omega)
    simp only [List.cons_append, List.nil_append] at a1
    rw [k_s]
    simp [i0, i1, nmL_str n1, a1, partT]
theorem idx_click : indexR [.str "click", .str "rocker", .str "spring"] (.str "click") = .ok (.int 0) := by kernel_rfl
theorem idx_rocker : indexR [.str "click", .str "rocker", .str "spring"] (.str "rocker") = .ok (.int 1) := by kernel_rfl
theorem idx_spring : indexR [.str "click", .str "rocker", .str "spring"] (.str "spring") = .ok (.int 2) := by kernel_rfl
theorem r_law_part_text {q : Part} (h : P71 q) : s_law_part_text [encP q] = .ok (tx (partT q)) := by
  unfold s_law_part_text
  refine def_ok1 rfl ?_
  cases q with
  | wheel z ms =>
    obtain ⟨h1, h2, h3⟩ := wheel_n40 h
    have a := nmL_len h1
    have b := joins_len h2 h3 44
    have c := nms_len h2
    have lc := r_strs h2 (k := 1) (m0 := [some (encP (.wheel z ms)), none, none]) fun _ => rfl
    have jn : joinD (.str ",") (.lst false ((ms.map nmL).map tx)) = .ok (tx (joinL [44] (ms.map nmL))) := by
      rw [k_cm]
      exact tx_join [44] (ms.map nmL) (by rw [List.length_map]; simp only [List.length_singleton]; omega) false
    have a1 := tx_add [119] (nmL z) (by simp; omega)
    have a2 := tx_add ([119] ++ nmL z) [58] (by simp; omega)
    have a3 := tx_add ([119] ++ nmL z ++ [58]) (joinL [44] (ms.map nmL)) (by simp only [List.length_append, List.length_singleton]; omega)
    have st : stillL ((ms.map nmL).map tx) = (ms.map nmL).map tx := stillL_map (fun _ => rfl) _
    have tt : hasTL ((ms.map nmL).map tx) = false := hasTL_map (fun _ => rfl) _
    have tm := hasTL_ints ms
    have i0 : ixD (encP (.wheel z ms)) (.int 0) = .ok (.str "wheel") := ixD_0 ..
    have i1 : ixD (encP (.wheel z ms)) (.int 1) = .ok (.int z) := ixD_1 ..
    have i2 : ixD (encP (.wheel z ms)) (.int 2) = .ok (.tup (ms.map .int)) := ixD_2 ..
    rw [k_w, k_co]
    have hl : (ms.map nmL).length ≤ 16777216 := by rw [List.length_map]; omega
    have pe : partT (.wheel z ms) = 119 :: (nmL z ++ 58 :: joinL [44] (ms.map nmL)) := by simp [partT]
    generalize ms.map nmL = ws at *
    simp only [List.append_assoc, List.cons_append, List.nil_append] at a1 a2 a3
    simp [i0, i1, i2, nmL_str h1, itemsN, items, tm, lc, jn, a1, a2, a3, joinE, st, tt, small hl, pe]
  | click =>
    have i0 : ixD (encP .click) (.int 0) = .ok (.str "click") := ixD_0 ..
    have cu : cutD (encP .click) (some 1) none = .ok (.tup []) := rfl
    have jn : joinD (.str "") (.lst false []) = .ok (tx []) := by
      rw [k_e]
      exact tx_join [] [] (by simp) false
    have a1 := tx_add [99] [] (by simp)
    have ix : ixD (.lst false [.str "c", .str "r", .str "s"]) (.int 0) = .ok (tx [99]) := by rw [k_c]; exact ixD_lst (i := 0) rfl
    simp [i0, cu, jn, itemsN, items, lcGo, joinE, a1, ix, partT, indexE, idx_click]
  | rocker =>
    have i0 : ixD (encP .rocker) (.int 0) = .ok (.str "rocker") := ixD_0 ..
    have cu : cutD (encP .rocker) (some 1) none = .ok (.tup []) := rfl
    have jn : joinD (.str "") (.lst false []) = .ok (tx []) := by
      rw [k_e]
      exact tx_join [] [] (by simp) false
    have a1 := tx_add [114] [] (by simp)
    have ix : ixD (.lst false [.str "c", .str "r", .str "s"]) (.int 1) = .ok (tx [114]) := by rw [k_r]; exact ixD_lst (i := 1) rfl
    simp [i0, cu, jn, itemsN, items, lcGo, joinE, a1, ix, partT, indexE, idx_rocker]
  | spring k =>
    have n1 : N40 k := ⟨by have := h.1.1; omega, h.2⟩
    have a := nmL_len n1
    have i0 : ixD (encP (.spring k)) (.int 0) = .ok (.str "spring") := ixD_0 ..
    have cu : cutD (encP (.spring k)) (some 1) none = .ok (.tup [.int k]) := rfl
    have lc := r_strs (ms := [k]) (by simp; exact n1) (k := 2) (m0 := [some (encP (.spring k)), none, none]) fun _ => rfl
    have jn : joinD (.str "") (.lst false [tx (nmL k)]) = .ok (tx (nmL k)) := by
      rw [k_e]
      exact tx_join [] [nmL k] (by simp; omega) false
    have a1 := tx_add [115] (nmL k) (by simp; omega)
    simp only [List.cons_append, List.nil_append] at a1
    simp only [List.map_cons, List.map_nil] at lc
    have ix : ixD (.lst false [.str "c", .str "r", .str "s"]) (.int 2) = .ok (tx [115]) := by rw [k_s]; exact ixD_lst (i := 2) rfl
    simp [i0, cu, jn, itemsN, items, lc, joinE, a1, ix, partT, indexE, idx_spring, small (show 1 ≤ 16777216 by decide)]
end CK

namespace CK
open PySem PySem.Spec PyProof.Rows L2 CT
open TL (tl mk_tl len_tl ext_tl tl_append tl_ofString spl par joinL tl_join join_eq split_spl kind_ok partition_par)
theorem cut_one (c : Nat) (l : List Nat) : cutA (c :: l) none (some 1) = [c] := cut_head (c :: l) 1
theorem cut_rest (c : Nat) (l : List Nat) : cutA (c :: l) (some 1) none = l := cut_tail (c :: l) 1
theorem r_count_num {i : Int} (h : N40 i) : s_count_in [tx (nmL i)] = .ok (.int i) := by
  rw [r_count_in _ (by have := nmL_len h; omega)]
  have := cnt_num h.nat.1
  rw [show nmL i = TL.numL i.toNat from rfl, this, h.nat.2]; rfl
theorem lc_nums {ms : List Int} (h : ∀ m ∈ ms, N40 m) {k : Nat} {m0 : Sl} (hk : ∀ d, eVar k (m0.set k (some d)) = .ok d) :
    lcGo (putR k) tYesM (eA (callF s_count_in) (aCons (eVar k) aNil)) m0 ((ms.map nmL).map tx) = .ok (ms.map .int) := by
  rw [List.map_map]
  exact lcGo_map1 (tx ∘ nmL) D.int ms fun a ha => ⟨m0.set k (some (tx (nmL a))), by simp, by simp [hk, r_count_num (h a ha)], rfl⟩
theorem joins_nil {ms : List Int} : decide (joinL [44] (ms.map nmL) = []) = decide (ms = []) := by
  refine decide_eq_decide.mpr ⟨fun h => ?_, fun h => by subst h; rfl⟩
  cases ms with
  | nil => rfl
  | cons a r =>
    exfalso
    have : nmL a ≠ [] := TL.numL_ne _
    cases r with
    | nil => exact this h
    | cons b r => simp [joinL] at h
theorem r_part_in {q : Part} (h : P71 q) : s_part_in [tx (partT q)] = .ok (encP q) := by
  have hl := partT_len h
  have q1 : eqD (tx (partT q)) (.str "c") = .ok (.bl (decide (partT q = [99]))) := by rw [k_c, tx_eq]
  have q2 : eqD (tx (partT q)) (.str "r") = .ok (.bl (decide (partT q = [114]))) := by rw [k_r, tx_eq]
  have c1 := tx_cut (partT q) none (some 1) (by omega)
  have c2 := tx_cut (partT q) (some 1) none (by omega)
  unfold s_part_in
  refine def_ok1 rfl ?_
  cases q with
  | click =>
    have e1 : decide (partT .click = [99]) = true := rfl
    have e2 : decide (partT .click = [114]) = false := rfl
    rw [e1] at q1
    rw [e2] at q2
    simp [q1, q2, encP]
  | rocker =>
    have e1 : decide (partT .rocker = [99]) = false := rfl
    have e2 : decide (partT .rocker = [114]) = true := rfl
    rw [e1] at q1
    rw [e2] at q2
    simp [q1, q2, encP]
  | spring k =>
    have n1 : N40 k := ⟨by have := h.1.1; omega, h.2⟩
    have e1 : decide (partT (.spring k) = [99]) = false := by simp [partT]
    have e2 : decide (partT (.spring k) = [114]) = false := by simp [partT]
    rw [e1] at q1
    rw [e2] at q2
    have p : partT (.spring k) = 115 :: nmL k := rfl
    rw [p, cut_one] at c1
    rw [p, cut_rest] at c2
    have q3 : eqD (tx [115]) (.str "s") = .ok (.bl true) := by rw [k_s, tx_eq]; rfl
    have rc := r_count_num n1
    rw [p] at q1 q2 ⊢
    simp [q1, q2, c1, c2, q3, rc, encP]
  | wheel z ms =>
    obtain ⟨h1, h2, h3⟩ := wheel_n40 h
    have a := nmL_len h1
    have b := joins_len h2 h3 44
    have e1 : decide (partT (.wheel z ms) = [99]) = false := by simp [partT]
    have e2 : decide (partT (.wheel z ms) = [114]) = false := by simp [partT]
    rw [e1] at q1
    rw [e2] at q2
    have p : partT (.wheel z ms) = 119 :: (nmL z ++ [58] ++ joinL [44] (ms.map nmL)) := by simp [partT]
    rw [p, cut_one] at c1
    rw [p, cut_rest] at c2
    have q3 : eqD (tx [119]) (.str "s") = .ok (.bl false) := by rw [k_s, tx_eq]; rfl
    have q4 : eqD (tx [119]) (.str "w") = .ok (.bl true) := by rw [k_w, tx_eq]; rfl
    have q5 : eqD (tx [58]) (.str ":") = .ok (.bl true) := by rw [k_co, tx_eq]; rfl
    have pt : partD (mkS (nmL z ++ [58] ++ joinL [44] (ms.map nmL))) (.str ":") = .ok (.tup [tx (nmL z), tx [58], tx (joinL [44] (ms.map nmL))]) := by
      rw [k_co, tx_part _ 58 (by simp only [List.length_append, List.length_singleton]; omega), List.append_assoc, TL.par_part1 (nmL_free (by decide))]; rfl
    have q6 : neD (tx (joinL [44] (ms.map nmL))) (.str "") = .ok (.bl (!decide (ms = []))) := by rw [k_e, tx_ne, joins_nil]
    have rc := r_count_num h1
    rw [p] at q1 q2 ⊢
    have t0 : joinL [44] (ms.map nmL) = joinL [44] (ms.map nmL) := rfl
    have sp : ms ≠ [] → splitD (mkS (joinL [44] (ms.map nmL))) (.str ",") = .ok ((ms.map nmL).map tx) := fun c => by
      rw [k_cm, tx_split _ 44 (by decide) (by omega), TL.spl_join (by simpa using c) fun w hw => by
        obtain ⟨m, hm, rfl⟩ := List.mem_map.mp hw
        exact nmL_free (by decide)]
    generalize joinL [44] (ms.map nmL) = J at *
    generalize nmL z ++ [58] ++ J = R1 at *
    generalize 119 :: R1 = W at *
    by_cases c : ms = []
    · rw [decide_eq_true c] at q6
      simp [q1, q2, c1, c2, q3, q4, q5, q6, rc, pt, strM, r_sure, encP, c]
    · rw [decide_eq_false c] at q6
      have sp := sp c
      have lc : ∀ m0 : Sl, (∀ d, eVar 5 (m0.set 5 (some d)) = .ok d) → lcGo (putR 5) tYesM (eA (callF s_count_in) (aCons (eVar 5) aNil)) m0 ((ms.map nmL).map tx) = .ok (ms.map .int) := fun m0 hk => lc_nums h2 hk
      have tm := hasTL_ints ms
      have tt : hasTL ((ms.map nmL).map tx) = false := hasTL_map (fun _ => rfl) _
      have st : stillL ((ms.map nmL).map tx) = (ms.map nmL).map tx := stillL_map (fun _ => rfl) _
      have sm : stillL (ms.map D.int) = ms.map D.int := stillL_map (fun _ => rfl) _
      generalize (ms.map nmL).map tx = ws at *
      simp [q1, q2, c1, c2, q3, q4, q5, q6, rc, pt, strM, r_sure, encP, sp, st, tt, lc, itemsN, items, tm, small (show ms.length ≤ 16777216 by omega), sm]
end CK

namespace CK
open PySem PySem.Spec PyProof.Rows L2 CT
open TL (tl mk_tl len_tl ext_tl tl_append tl_ofString spl par joinL tl_join join_eq split_spl kind_ok partition_par)
structure T71 (l : List Part) : Prop where
  p : ∀ q ∈ l, P71 q
  n : 1 ≤ l.length
  m : l.length ≤ 8
def trainT (l : List Part) : List Nat := joinL [32] (l.map partT)
def standT (st : List Int) : List Nat := joinL [47] (st.map nmL)
structure S71 (st : List Int) : Prop where
  p : ∀ i ∈ st, N40 i
  n : 1 ≤ st.length
  m : st.length ≤ 8
theorem T71.trn {l : List Part} (h : T71 l) : Trn l := trn_of ⟨fun q hq => (h.p q hq).1, by have := h.m; omega⟩ h.n
theorem trainT_len {l : List Part} (h : T71 l) : (trainT l).length ≤ 10500 ∧ ((l.map partT).map (·.length)).sum ≤ 10400 := by
  have a := join_len1 32 (l.map partT)
  have b := sum_len (ws := l.map partT) (k := 1300) fun w hw => by
    obtain ⟨q, hq, rfl⟩ := List.mem_map.mp hw
    exact partT_len (h.p q hq)
  rw [List.length_map] at a b
  have := h.m
  unfold trainT
  omega
theorem r_join_train {l : List Part} (h : T71 l) : joinD (.str " ") (.lst false ((l.map partT).map tx)) = .ok (tx (trainT l)) := by
  rw [k_sp]
  exact tx_join [32] (l.map partT) (by have := (trainT_len h).2; have := h.m; rw [List.length_map]; simp only [List.length_singleton]; omega) false
theorem r_law_train_text {l : List Part} (h : T71 l) : s_law_train_text [.lst false (l.map encP)] = .ok (tx (trainT l)) := by
  have lc := lc_txt (f := s_law_part_text) (T := partT) (enc := encP) (k := 1) (m := [some (.lst false (l.map encP)), none]) (xs := l) (fun _ => rfl) hasT_encP still_encP fun q hq => r_law_part_text (h.p q hq)
  have jn := r_join_train h
  have tt : hasTL ((l.map partT).map tx) = false := hasTL_map (fun _ => rfl) _
  have st : stillL ((l.map partT).map tx) = (l.map partT).map tx := stillL_map (fun _ => rfl) _
  have hl : (l.map partT).length ≤ 16777216 := by rw [List.length_map]; have := h.m; omega
  unfold s_law_train_text
  refine def_ok1 rfl ?_
  generalize l.map partT = ws at *
  simp [itemsN, items, lc, jn, joinE, st, tt, small hl]
theorem r_show_train {l : List Part} (h : T71 l) : s_show_train [.lst false (l.map encP)] = .ok (tx (trainT l)) := by
  have lc := lc_txt (f := s_part_shown) (T := partT) (enc := encP) (k := 1) (m := [some (.lst false (l.map encP)), none]) (xs := l) (fun _ => rfl) hasT_encP still_encP fun q hq => r_part_shown (h.p q hq)
  have jn := r_join_train h
  have tt : hasTL ((l.map partT).map tx) = false := hasTL_map (fun _ => rfl) _
  have st : stillL ((l.map partT).map tx) = (l.map partT).map tx := stillL_map (fun _ => rfl) _
  have hl : (l.map partT).length ≤ 16777216 := by rw [List.length_map]; have := h.m; omega
  have ck := r_check_trn h.trn
  unfold s_show_train
  refine def_ok1 rfl ?_
  generalize l.map partT = ws at *
  simp [itemsN, items, lc, jn, joinE, st, tt, small hl, ck]
theorem joins_free {ms : List Int} {c d : Nat} (h : c < 48 ∨ 57 < c) (hd : c ≠ d) : c ∉ joinL [d] (ms.map nmL) := by
  induction ms with
  | nil => simp [joinL]
  | cons a r ih =>
    cases r with
    | nil => exact nmL_free h
    | cons b r =>
      intro z
      simp only [List.map_cons, joinL] at z ih
      rcases List.mem_append.mp z with z | z
      · exact nmL_free h z
      · rcases List.mem_append.mp z with z | z
        · exact hd (List.mem_singleton.mp z)
        · exact ih z
theorem partT_free {q : Part} : 32 ∉ partT q := by
  cases q with
  | wheel z ms =>
    intro h
    simp only [partT, List.mem_append, List.mem_singleton] at h
    rcases h with ((h | h) | h) | h
    · exact absurd h (by decide)
    · exact nmL_free (by decide) h
    · exact absurd h (by decide)
    · exact joins_free (by decide) (by decide) h
  | click => simp [partT]
  | rocker => simp [partT]
  | spring k =>
    intro h
    simp only [partT, List.mem_append, List.mem_singleton] at h
    rcases h with h | h
    · exact absurd h (by decide)
    · exact nmL_free (by decide) h
theorem r_read_train {l : List Part} (h : T71 l) : s_read_train [tx (trainT l)] = .ok (.lst true (l.map encP)) := by
  have sp : splitD (mkS (trainT l)) (.str " ") = .ok ((l.map partT).map tx) := by
    rw [k_sp, tx_split _ 32 (by decide) (by have := (trainT_len h).1; omega)]
    unfold trainT
    rw [TL.spl_join (by have := h.n; intro e; have := congrArg List.length e; simp at this; subst this; simp at *) fun w hw => by
      obtain ⟨q, hq, rfl⟩ := List.mem_map.mp hw
      exact partT_free]
  have lc : lcGo (putR 2) tYesM (eA (callF s_part_in) (aCons (eVar 2) aNil)) [some (tx (trainT l)), none, none] ((l.map partT).map tx) = .ok (l.map encP) := by
    rw [List.map_map]
    exact lcGo_map1 (tx ∘ partT) encP l fun q hq => ⟨[some (tx (trainT l)), none, some (tx (partT q))], by simp, by simp [r_part_in (h.p q hq)], by simp⟩
  have tt : hasTL ((l.map partT).map tx) = false := hasTL_map (fun _ => rfl) _
  have st : stillL ((l.map partT).map tx) = (l.map partT).map tx := stillL_map (fun _ => rfl) _
  have ck := r_check_trn h.trn
  have hl : l.length ≤ 16777216 := by have := h.m; omega
  unfold s_read_train
  refine def_ok1 rfl ?_
  generalize l.map partT = ws at *
  generalize trainT l = T at *
  simp [strM, sp, itemsN, items, lc, st, tt, small hl, ck, sRetV]
theorem r_join_stand {st : List Int} (h : S71 st) : joinD (.str "/") (.lst false ((st.map nmL).map tx)) = .ok (tx (standT st)) := by
  rw [k_sl]
  exact tx_join [47] (st.map nmL) (by have := nms_len h.p; have := h.m; rw [List.length_map]; simp only [List.length_singleton]; omega) false
theorem standT_len {st : List Int} (h : S71 st) : (standT st).length ≤ 1230 := joins_len h.p (by have := h.m; omega) 47
theorem r_show_stand {st : List Int} (h : S71 st) : s_show_stand [encS st] = .ok (tx (standT st)) := by
  have lc := r_strs h.p (k := 1) (m0 := [some (encS st), none]) fun _ => rfl
  have jn := r_join_stand h
  have tt : hasTL ((st.map nmL).map tx) = false := hasTL_map (fun _ => rfl) _
  have ss : stillL ((st.map nmL).map tx) = (st.map nmL).map tx := stillL_map (fun _ => rfl) _
  have hl : (st.map nmL).length ≤ 16777216 := by rw [List.length_map]; have := h.m; omega
  have it : itemsN false (encS st) = .ok (st.map .int) := by simp [encS, itemsN, items]
  unfold s_show_stand
  refine def_ok1 rfl ?_
  generalize st.map nmL = ws at *
  simp [it, lc, jn, joinE, ss, tt, small hl]
theorem r_law_stand_text {st : List Int} (h : S71 st) : s_law_stand_text [encS st] = .ok (tx (standT st)) := r_show_stand h
theorem r_read_stand {st : List Int} (h : S71 st) : s_read_stand [tx (standT st)] = .ok (encS st) := by
  have sp : splitD (mkS (standT st)) (.str "/") = .ok ((st.map nmL).map tx) := by
    rw [k_sl, tx_split _ 47 (by decide) (by have := standT_len h; omega)]
    unfold standT
    rw [TL.spl_join (by have := h.n; intro e; have := congrArg List.length e; simp at this; subst this; simp at *) fun w hw => by
      obtain ⟨q, hq, rfl⟩ := List.mem_map.mp hw
      exact nmL_free (by decide)]
  have lc := lc_nums h.p (k := 1) (m0 := [some (tx (standT st)), none]) fun _ => rfl
  have tt : hasTL ((st.map nmL).map tx) = false := hasTL_map (fun _ => rfl) _
  have ss : stillL ((st.map nmL).map tx) = (st.map nmL).map tx := stillL_map (fun _ => rfl) _
  have sm : stillL (st.map D.int) = st.map D.int := stillL_map (fun _ => rfl) _
  have tm := hasTL_ints st
  have hl : st.length ≤ 16777216 := by have := h.m; omega
  unfold s_read_stand
  refine def_ok1 rfl ?_
  generalize st.map nmL = ws at *
  generalize standT st = T at *
  simp [strM, sp, itemsN, items, lc, ss, tt, small hl, tm, sm, encS]
end CK

namespace CK
open PySem PySem.Spec PyProof.Rows L2 CT
theorem isiT_of {Ts : List String} {d : D} {b : Bool} (h : tyD d ≠ "?") (e : anyTy (tyD d) Ts = some b) : isiTD Ts d = .ok (.bl b) := by
  unfold isiTD
  rw [if_neg h, e]
theorem isiT_tup (xs : List D) : isiTD ["list", "tuple"] (.tup xs) = .ok (.bl true) := isiT_of (show ("tuple" : String) ≠ "?" by decide) (show anyTy "tuple" _ = _ by decide +kernel)
theorem isiT_lst (t : Bool) (xs : List D) : isiTD ["list", "tuple"] (.lst t xs) = .ok (.bl true) := isiT_of (show ("list" : String) ≠ "?" by decide) (show anyTy "list" _ = _ by decide +kernel)
theorem isiT_str (x : Str) : isiTD ["list", "tuple"] (.str x) = .ok (.bl false) := isiT_of (show ("str" : String) ≠ "?" by decide) (show anyTy "str" _ = _ by decide +kernel)
theorem isiT_int (x : Int) : isiTD ["list", "tuple"] (.int x) = .ok (.bl false) := isiT_of (show ("int" : String) ≠ "?" by decide) (show anyTy "int" _ = _ by decide +kernel)
theorem plain_str (t : Nat) (x : Str) : s_law_plain_2_n (t + 1) [.str x] = .ok (.bl true) := by
  show s_law_plain_2_F (s_law_plain_2_n t) [.str x] = _
  unfold s_law_plain_2_F
  refine def_ok1 rfl ?_
  simp [isiT_str]
theorem plain_int (t : Nat) (x : Int) : s_law_plain_2_n (t + 1) [.int x] = .ok (.bl true) := by
  have := r_law_whole (.int x) rfl
  show s_law_plain_2_F (s_law_plain_2_n t) [.int x] = _
  unfold s_law_plain_2_F
  refine def_ok1 rfl ?_
  simp [isiT_int, this, isWholeB]
theorem plain_lc {t : Nat} {xs : List D} {m0 : Sl} (hk : ∀ d, eVar 1 (m0.set 1 (some d)) = .ok d) (h : ∀ x ∈ xs, s_law_plain_2_n t [x] = .ok (.bl true)) (hT : hasTL xs = false) :
    lcGo (putR 1) tYesM (eA (callF (s_law_plain_2_n t)) (aCons (eVar 1) aNil)) m0 xs = .ok (xs.map fun _ => D.bl true) := by
  have := lcGo_map1 (id : D → D) (g := putR 1) (f := eA (callF (s_law_plain_2_n t)) (aCons (eVar 1) aNil)) (m := m0) (fun _ => D.bl true) xs fun x hx => ⟨m0.set 1 (some x), by simp [hasTL_mem hT hx], by simp [hk, hasTL_mem hT hx, still_of _ (hasTL_mem hT hx), h x hx], rfl⟩
  rwa [List.map_id] at this
theorem plain_tup {t : Nat} {xs : List D} (h : ∀ x ∈ xs, s_law_plain_2_n t [x] = .ok (.bl true)) (hT : hasTL xs = false) (hl : xs.length ≤ 16777216) : s_law_plain_2_n (t + 1) [.tup xs] = .ok (.bl true) := by
  have lc := plain_lc (m0 := [some (.tup xs), none]) (fun _ => rfl) h hT
  have al : allD [.lst false (xs.map fun _ => D.bl true)] = .ok (.bl true) := by rw [allD_f false (fun _ => true) xs]; simp
  show s_law_plain_2_F (s_law_plain_2_n t) [.tup xs] = _
  unfold s_law_plain_2_F
  refine def_ok1 rfl ?_
  have hl2 : (xs.map fun _ => D.bl true).length ≤ 16777216 := by rw [List.length_map]; exact hl
  have s2 : stillL (xs.map fun _ => D.bl true) = xs.map fun _ => D.bl true := stillL_map (fun _ => rfl) _
  have t2 : hasTL (xs.map fun _ => D.bl true) = false := hasTL_map (fun _ => rfl) _
  generalize (xs.map fun _ => D.bl true) = bs at *
  simp [isiT_tup, itemsN, items, hT, lc, al, small hl2, s2, t2]
theorem plain_lst {t : Nat} {xs : List D} (h : ∀ x ∈ xs, s_law_plain_2_n t [x] = .ok (.bl true)) (hT : hasTL xs = false) (hl : xs.length ≤ 16777216) : s_law_plain_2_n (t + 1) [.lst false xs] = .ok (.bl true) := by
  have lc := plain_lc (m0 := [some (.lst false xs), none]) (fun _ => rfl) h hT
  have al : allD [.lst false (xs.map fun _ => D.bl true)] = .ok (.bl true) := by rw [allD_f false (fun _ => true) xs]; simp
  show s_law_plain_2_F (s_law_plain_2_n t) [.lst false xs] = _
  unfold s_law_plain_2_F
  refine def_ok1 rfl ?_
  have hl2 : (xs.map fun _ => D.bl true).length ≤ 16777216 := by rw [List.length_map]; exact hl
  have s2 : stillL (xs.map fun _ => D.bl true) = xs.map fun _ => D.bl true := stillL_map (fun _ => rfl) _
  have t2 : hasTL (xs.map fun _ => D.bl true) = false := hasTL_map (fun _ => rfl) _
  generalize (xs.map fun _ => D.bl true) = bs at *
  simp [isiT_lst, itemsN, items, hT, lc, al, small hl2, s2, t2]
theorem plain_ints (t : Nat) (ms : List Int) (hl : ms.length ≤ 1000) : s_law_plain_2_n (t + 2) [.tup (ms.map .int)] = .ok (.bl true) := plain_tup (fun x hx => by
  obtain ⟨i, _, rfl⟩ := List.mem_map.mp hx
  exact plain_int t i) (hasTL_ints ms) (by rw [List.length_map]; omega)
theorem plain_part {q : Part} (h : P71 q) (t : Nat) : s_law_plain_2_n (t + 3) [encP q] = .ok (.bl true) := by
  cases q with
  | wheel z ms =>
    have hl := (wheel_n40 h).2.2
    refine plain_tup (fun x hx => ?_) (by simp [hasTL_ints]) (by simp)
    simp only [List.mem_cons, List.not_mem_nil, or_false] at hx
    rcases hx with rfl | rfl | rfl
    · exact plain_str _ _
    · exact plain_int _ _
    · exact plain_ints t ms (by omega)
  | click => exact plain_tup (fun x hx => by simp at hx; subst hx; exact plain_str _ _) (by simp) (by simp)
  | rocker => exact plain_tup (fun x hx => by simp at hx; subst hx; exact plain_str _ _) (by simp) (by simp)
  | spring k =>
    refine plain_tup (fun x hx => ?_) (by simp) (by simp)
    simp only [List.mem_cons, List.not_mem_nil, or_false] at hx
    rcases hx with rfl | rfl
    · exact plain_str _ _
    · exact plain_int _ _
theorem plain_train {l : List Part} (h : T71 l) : s_law_plain_2 [.lst false (l.map encP)] = .ok (.bl true) := plain_lst (t := 9) (fun x hx => by
  obtain ⟨q, hq, rfl⟩ := List.mem_map.mp hx
  exact plain_part (h.p q hq) 6) (by simp) (by rw [List.length_map]; have := h.m; omega)
theorem plain_stand {st : List Int} (h : S71 st) : s_law_plain_2 [encS st] = .ok (.bl true) := plain_ints 8 st (by have := h.m; omega)
theorem asc_join {c : Nat} (hc : c < 128) {ws : List (List Nat)} (h : ∀ w ∈ ws, Asc w) : Asc (TL.joinL [c] ws) := by
  induction ws with
  | nil => intro x hx; simp [TL.joinL] at hx
  | cons a r ih =>
    cases r with
    | nil => exact h a (by simp)
    | cons b r =>
      show Asc (a ++ ([c] ++ TL.joinL [c] (b :: r)))
      exact (h a (by simp)).app (Asc.app (fun x hx => by rw [List.mem_singleton.mp hx]; exact hc) (ih fun w hw => h w (List.mem_cons_of_mem _ hw)))
theorem asc_one {c : Nat} (h : c < 128) : Asc [c] := fun x hx => by rw [List.mem_singleton.mp hx]; exact h
theorem asc_part (q : Part) : Asc (partT q) := by
  cases q with
  | wheel z ms => exact (((asc_one (by decide)).app (nmL_asc z)).app (asc_one (by decide))).app (asc_join (by decide) fun w hw => by
      obtain ⟨m, _, rfl⟩ := List.mem_map.mp hw
      exact nmL_asc m)
  | click => exact asc_one (by decide)
  | rocker => exact asc_one (by decide)
  | spring k => exact (asc_one (by decide)).app (nmL_asc k)
theorem asc_train (l : List Part) : Asc (trainT l) := asc_join (by decide) fun w hw => by
  obtain ⟨m, _, rfl⟩ := List.mem_map.mp hw
  exact asc_part m
theorem asc_stand (l : List Int) : Asc (standT l) := asc_join (by decide) fun w hw => by
  obtain ⟨m, _, rfl⟩ := List.mem_map.mp hw
  exact nmL_asc m
theorem r_law_well_71 {l : List Part} {st : List Int} (h : T71 l) (hs : S71 st) : s_law_well [.lst false (l.map encP), encS st] = .ok (.bl true) := by
  have r1 := r_law_train_text h
  have r2 := r_law_stand_text hs
  have r3 := r_show_train h
  have r4 := r_show_stand hs
  have r5 := r_read_train h
  have r6 := r_read_stand hs
  have p1 := plain_train h
  have p2 := plain_stand hs
  have shT : Sh 64 (.lst false (l.map encP)) := (h.trn.ok |> fun o => (good_train o h.trn.m _ (.inl rfl)).s)
  have shS : Sh 64 (encS st) := sh_tup (n := 63) fun y hy => by
    obtain ⟨i, _, rfl⟩ := List.mem_map.mp hy
    exact sh_int _ _
  have n1 : neD (.lst false (l.map encP)) (.lst false (l.map encP)) = .ok (.bl false) := neD_self shT
  have shT' : Sh 64 (.lst true (l.map encP)) := shT
  have n2 : neD (.lst true (l.map encP)) (.lst false (l.map encP)) = .ok (.bl false) := neD_py rfl shT' shT
  have e2 : eqD (.lst true (l.map encP)) (.lst false (l.map encP)) = .ok (.bl true) := eqD_py rfl shT' shT
  have e1 : eqD (encS st) (encS st) = .ok (.bl true) := eqD_self shS
  have shX : Sh 64 (.lst false [tx (trainT l), tx (standT st)]) := (sh_lst (n := 1) fun x hx => by
    simp only [List.mem_cons, List.not_mem_nil, or_false] at hx
    rcases hx with rfl | rfl
    · exact sh_str (asc_train l).ok
    · exact sh_str (asc_stand st).ok).mono (by decide)
  have n3 : neD (.lst false [tx (trainT l), tx (standT st)]) (.lst false [tx (trainT l), tx (standT st)]) = .ok (.bl false) := neD_self shX
  have hl := h.m
  have tS : hasT (encS st) = false := by simp [encS]
  have sS : still (encS st) = encS st := still_of _ tS
  have ty : isiD "tuple" (encS st) = .ok (.bl true) := rfl
  have al : ∀ a b : List Nat, ∀ m0 : Sl, (∀ d, eVar 7 (m0.set 7 (some d)) = .ok d) → lcGo (putR 7) tYesM (CT.e1 (isiD "str") (eVar 7)) m0 [tx a, tx b] = .ok ([true, true].map D.bl) := fun a b m0 hk => by
    unfold lcGo
    simp [hk, nox]
    unfold lcGo
    simp [hk, nox, lcGo]
  have l2 : l.length < sizeLine := by rw [sizeBig]; omega
  have e3 : eqD (.lst false (l.map encP)) (.lst false (l.map encP)) = .ok (.bl true) := eqD_self shT
  have lO : listO [.lst false (l.map encP)] = .ok (l.map encP) := rfl
  unfold s_law_well
  refine def_ok1 rfl ?_
  generalize trainT l = T at *
  generalize standT st = S at *
  have ad : allD [.lst false ([true, true].map D.bl)] = .ok (.bl true) := by simp [-List.map_cons]
  have bl : ([true, true].map D.bl).length = 2 := rfl
  simp [r1, r2, r3, r4, lO, n3, sS, tS]
  rw [al T S _ (fun _ => rfl)]
  generalize [true, true].map D.bl = bs at *
  simp [ad, bl, small (show 2 ≤ 16777216 by decide), n1, n2, callO, r5, p1, sS, tS, r6, ty, e1, p2, e2, e3, l2]
end CK

namespace CK
open PySem PySem.Spec PyProof.Rows L2 CT
theorem pow10_38 : powD (.int 10) (.int 38) = .ok (.int 100000000000000000000000000000000000000) := by rw [powD_lit (by decide +kernel)]; rfl
theorem r_rising {n : Nat} {xs : List D} (h : Dr n xs) (hn : n ≤ 800000) (a many : Nat) (h0 : 0 < many) (hm : many ≤ 31) :
    ∃ v ys, s_law_rising [lentD (some a) xs, .int (many : Int)] = .ok (v, some (lentD (some a) ys)) ∧ (∃ ms : List Int, v = .tup (ms.map .int) ∧ (∀ m ∈ ms, 0 ≤ m ∧ m < 30 * 100000000000000000000000000000000000000) ∧ ms.Pairwise (· < ·) ∧ ms.length ≤ 30) ∧ Dr (n + 700) ys := by
  unfold s_law_rising
  refine defL_run rfl ?_
  have e : (List.map some [lentD (some a) xs, .int (many : Int)] ++ List.replicate (5 - 2) none : Sl) = [some (lentD (some a) xs), some (.int (many : Int)), none, none, none] := rfl
  rw [e]
  simp (disch := first | omega | (simp; done) | fail) [wpB_seq, -wp_for_cons, -wp_for_nil]
  refine wpX_next h (by omega) fun v ys hv hd => ?_
  have b1 := Int.emod_nonneg v (show (many : Int) ≠ 0 by omega)
  have b2 := Int.emod_lt_of_pos v (show (0 : Int) < (many : Int) by omega)
  obtain ⟨k, hk⟩ : ∃ k : Nat, v % (many : Int) = (k : Int) := Int.eq_ofNat_of_zero_le b1
  have k5 : k ≤ 30 := by omega
  have er : rng1 [.int (k : Int)] = .ok (rng 0 k) := by rw [rng1_int ⟨by omega, by omega⟩]; simp
  simp (disch := first | omega | (simp; done) | fail) [modD_ok, hk, er, -rng1_int, -wp_for_cons, -wp_for_nil]
  obtain ⟨J, hJ⟩ : ∃ J : Nat → Sl → Prop, J = fun j m => ∃ (zs : List D) (ms : List Int) (t : Int) (x4 : Option D), m = [some (lentD (some a) zs), some (.int (many : Int)), some (.lst true (ms.map .int)), some (.int t), x4] ∧ (∀ x ∈ ms, 0 ≤ x ∧ x ≤ t) ∧ ms.Pairwise (· < ·) ∧ ms.length = j ∧ -1 ≤ t ∧ t < (j : Int) * 100000000000000000000000000000000000000 ∧ Dr (n + 1 + 20 * j) zs := ⟨_, rfl⟩
  refine wp_rng J ?_ (fun j hj m hm => ?_) (fun m hm => ?_)
  · rw [hJ]; exact ⟨ys, [], -1, none, rfl, by simp, .nil, rfl, by omega, by omega, hd.mono⟩
  · rw [hJ] at hm
    obtain ⟨zs, ms, t, x4, rfl, h1, h2, h3, h4, h5, hz⟩ := hm
    simp (disch := first | omega | (simp; done) | fail) [pow10_38]
    refine wpX_callX (r_number hz (by omega) a) fun d ys2 ⟨⟨i, e, hi⟩, hd2⟩ => ?_
    subst e
    have m0 : 0 ≤ i % 100000000000000000000000000000000000000 := Int.emod_nonneg _ (by omega)
    have m1 : i % 100000000000000000000000000000000000000 < 100000000000000000000000000000000000000 := Int.emod_lt_of_pos _ (by omega)
    have sl : ms.length < sizeLine := by rw [sizeBig]; omega
    simp (disch := first | omega | (simp; done) | fail) [modD_ok, sl]
    rw [hJ]
    generalize i % 100000000000000000000000000000000000000 = w at *
    refine ⟨ys2, ms ++ [t + 1 + w], t + 1 + w, _, by simp; exact rfl, fun x hx => ?_, ?_, by simp; omega, by omega, by rw [Int.natCast_add]; omega, hd2.mono⟩
    · rcases List.mem_append.mp hx with hx | hx
      · have := h1 x hx; omega
      · rw [List.mem_singleton.mp hx]; omega
    · refine List.pairwise_append.mpr ⟨h2, by simp, fun x hx y hy => ?_⟩
      rw [List.mem_singleton.mp hy]
      have := h1 x hx; omega
  · rw [hJ] at hm
    obtain ⟨zs, ms, t, x4, rfl, h1, h2, h3, h4, h5, hz⟩ := hm
    have tm := hasTL_ints ms
    simp (disch := first | omega | (simp; done) | fail) [tm]
    exact ⟨zs, rfl, ⟨ms, by simp, fun x hx => by have := h1 x hx; omega, h2, by omega⟩, hz.mono⟩
theorem max_marks {ms : List Int} {B : Int} (hB : 0 < B) (h : ∀ m ∈ ms, 0 ≤ m ∧ m < B) : ∃ M : Int, maxTD [.tup (.int 0 :: ms.map .int)] = .ok (.int M) ∧ 0 ≤ M ∧ M < B ∧ ∀ m ∈ ms, m ≤ M := by
  refine ⟨ms.foldl max 0, ?_, foldl_max_le ms 0 0 (by simp), ?_, fun m hm => foldl_max_le ms 0 m (by simp [hm])⟩
  · have e : intsOf (D.int 0 :: ms.map D.int) = some (0 :: ms) := intsOf_map (0 :: ms)
    show (match intsOf (D.int 0 :: ms.map D.int) with | some ns => maxTR ns | none => .stuck) = _
    rw [e]; rfl
  · rcases List.mem_cons.mp (foldl_max_mem ms 0) with e | e
    · rw [e]; exact hB
    · exact (h _ e).2
theorem r_part_5 {n : Nat} {xs : List D} (h : Dr n xs) (hn : n ≤ 790000) (a many : Nat) (h0 : 0 < many) (hm : many ≤ 31) :
    ∃ v ys, s_law_part_5 [lentD (some a) xs, .int (many : Int)] = .ok (v, some (lentD (some a) ys)) ∧ (∃ q : Part, v = encP q ∧ P71 q) ∧ Dr (n + 720) ys := by
  unfold s_law_part_5
  refine defL_run rfl ?_
  have e : (List.map some [lentD (some a) xs, .int (many : Int)] ++ List.replicate (4 - 2) none : Sl) = [some (lentD (some a) xs), some (.int (many : Int)), none, none] := rfl
  rw [e]
  simp (disch := first | omega | (simp; done) | fail) [wpB_seq, wpB_if]
  refine wpX_next h (by omega) fun v ys hv hd => ?_
  have mk3 : ∀ x : D, mkLstF [.tup [.str "click"], .tup [.str "rocker"], x] = .ok (.lst false [.tup [.str "click"], .tup [.str "rocker"], x]) := fun x => by
    unfold mkLstF
    rw [if_pos (small (by simp))]
  have c : v % 6 < 3 ∨ v % 6 = 3 ∨ v % 6 = 4 ∨ v % 6 = 5 := by omega
  have z39 : ∀ i : Int, 0 ≤ i % 9999999999999999999999999999999999999999 ∧ i % 9999999999999999999999999999999999999999 < 9999999999999999999999999999999999999999 := fun i => ⟨Int.emod_nonneg _ (by omega), Int.emod_lt_of_pos _ (by omega)⟩
  rcases c with c | c
  · simp (disch := first | omega | (simp; done) | fail) [modD_ok, c]
    refine wpX_callX (r_rising hd (by omega) a many h0 hm) fun d ys2 ⟨⟨ms, e, m1, m2, m3⟩, hd2⟩ => ?_
    subst e
    obtain ⟨M, eM, M0, M1, M2⟩ := max_marks (B := 30 * 100000000000000000000000000000000000000) (by omega) m1
    have tm := hasTL_ints ms
    have ad : addD (.tup [.int 0]) (.tup (ms.map .int)) = .ok (.tup (.int 0 :: ms.map .int)) := by rw [addD_tup (by rw [List.length_map]; simp; omega)]; rfl
    simp (disch := first | omega | (simp; done) | fail) [tm, ad, eM]
    refine wpX_next hd2 (by omega) fun w ys3 hw hd3 => ?_
    have w3 : 0 ≤ w % 3 ∧ w % 3 < 3 := by omega
    simp (disch := first | omega | (simp; done) | fail) [modD_ok, tm]
    generalize w % 3 = r at *
    exact ⟨ys3, rfl, ⟨.wheel (M + 1 + r) ms, rfl, ⟨⟨by omega, lt_2000 (by omega), by omega, fun m hm => ⟨(m1 m hm).1, by have := M2 m hm; omega⟩, m2⟩, by omega, m3⟩⟩, hd3.mono⟩
  · have nc : ¬ v % 6 < 3 := by omega
    simp (disch := first | omega | (simp; done) | fail) [modD_ok, nc]
    refine wpX_callX (r_number hd (by omega) a) fun d ys2 ⟨⟨i, e, hi⟩, hd2⟩ => ?_
    subst e
    obtain ⟨z0, z1⟩ := z39 i
    have md : modD (.int i) (.int 9999999999999999999999999999999999999999) = .ok (.int (i % 9999999999999999999999999999999999999999)) := modD_ok (by omega)
    simp (disch := first | omega | (simp; done) | fail) [pow10_40, md, mk3]
    generalize i % 9999999999999999999999999999999999999999 = k at *
    rcases c with c | c | c
    · have ix : ixD (.lst false [.tup [.str "click"], .tup [.str "rocker"], .tup [.str "spring", .int (1 + k)]]) (.int (v % 6 - 3)) = .ok (encP .click) := by rw [c]; exact ixD_lst (i := 0) rfl
      simp [ix]
      exact ⟨ys2, rfl, ⟨.click, rfl, trivial, trivial⟩, hd2.mono⟩
    · have ix : ixD (.lst false [.tup [.str "click"], .tup [.str "rocker"], .tup [.str "spring", .int (1 + k)]]) (.int (v % 6 - 3)) = .ok (encP .rocker) := by rw [c]; exact ixD_lst (i := 1) rfl
      simp [ix]
      exact ⟨ys2, rfl, ⟨.rocker, rfl, trivial, trivial⟩, hd2.mono⟩
    · have ix : ixD (.lst false [.tup [.str "click"], .tup [.str "rocker"], .tup [.str "spring", .int (1 + k)]]) (.int (v % 6 - 3)) = .ok (encP (.spring (1 + k))) := by rw [c]; exact ixD_lst (i := 2) rfl
      simp [ix]
      exact ⟨ys2, rfl, ⟨.spring (1 + k), rfl, ⟨by omega, lt_2000 (by omega)⟩, by show 1 + k < 10 ^ 40; omega⟩, hd2.mono⟩
end CK

namespace CK
open PySem PySem.Spec PyProof.Rows L2 CT
theorem r_train_71 {n : Nat} {xs : List D} (h : Dr n xs) (hn : n ≤ 700000) (a : Nat) :
    ∃ v ys, s_law_train_7 [lentD (some a) xs] = .ok (v, some (lentD (some a) ys)) ∧ (∃ l : List Part, v = .lst false (l.map encP) ∧ T71 l) ∧ Dr (n + 6000) ys := by
  unfold s_law_train_7
  refine defL_run rfl ?_
  have e : (List.map some [lentD (some a) xs] ++ List.replicate (4 - 1) none : Sl) = [some (lentD (some a) xs), none, none, none] := rfl
  rw [e]
  simp (disch := first | omega | (simp; done) | fail) [wpB_seq]
  refine wpX_next h (by omega) fun v ys hv hd => ?_
  obtain ⟨k, hk⟩ : ∃ k : Nat, 1 + v % 8 = (k : Int) := Int.eq_ofNat_of_zero_le (by omega)
  have k1 : 1 ≤ k ∧ k ≤ 8 := by omega
  simp (disch := first | omega | (simp; done) | fail) [modD_ok, hk]
  refine wpX_next hd (by omega) fun w ys2 hw hd2 => ?_
  obtain ⟨M, eM, M1, M2⟩ : ∃ M : Nat, ixD (.lst false [.int 6, .int 6, .int 6, .int 31]) (.int (w % 4)) = .ok (.int (M : Int)) ∧ 1 ≤ M ∧ M ≤ 31 := by
    have : w % 4 = 0 ∨ w % 4 = 1 ∨ w % 4 = 2 ∨ w % 4 = 3 := by omega
    rcases this with e | e | e | e <;> rw [e]
    · exact ⟨6, ixD_lst (i := 0) rfl, by decide, by decide⟩
    · exact ⟨6, ixD_lst (i := 1) rfl, by decide, by decide⟩
    · exact ⟨6, ixD_lst (i := 2) rfl, by decide, by decide⟩
    · exact ⟨31, ixD_lst (i := 3) rfl, by decide, by decide⟩
  have er : rng1 [.int (k : Int)] = .ok (rng 0 k) := by rw [rng1_int ⟨by omega, by omega⟩]; simp
  simp (disch := first | omega | (simp; done) | fail) [modD_ok, eM, wpX_xOwn, wpX_aLcX, er, -rng1_int]
  rw [rng_map]
  have hkk : 720 * (List.range k).length ≤ 720 * 8 := Nat.mul_le_mul_left _ (by simp; omega)
  refine lc_calls (i := 0) (v := 3) (c := 720) (enc := encP) (S := fun _ q => P71 q) rfl rfl hd2 (fun _ => rfl) (fun b hb n' ws hw hn' => ?_) (fun rs ws hl hS hw => ?_)
  · obtain ⟨M', eM', M1', M2'⟩ : ∃ M' : Nat, ixD (.lst false [.int 6, .int (M : Int)]) (.int (if (b : Int) = 0 then 1 else 0)) = .ok (.int (M' : Int)) ∧ 0 < M' ∧ M' ≤ 31 := by
      by_cases c : (b : Int) = 0
      · rw [if_pos c]; exact ⟨M, ixD_lst (i := 1) rfl, M1, M2⟩
      · rw [if_neg c]; exact ⟨6, ixD_lst (i := 0) rfl, by decide, by decide⟩
    simp (disch := first | omega | (simp; done) | fail)
    have eM2 : ixD (.lst false [.int 6, .int (M : Int)]) (.int (if b = 0 then 1 else 0)) = .ok (.int (M' : Int)) := by
      have ez : (if b = 0 then (1 : Int) else 0) = if (b : Int) = 0 then 1 else 0 := by by_cases c : b = 0 <;> simp [c]
      rw [ez]; exact eM'
    simp (disch := first | omega | (simp; done) | fail) [eM2]
    refine wpX_callX (r_part_5 hw (by omega) a M' M1' M2') fun d ws2 ⟨⟨q, e, hq⟩, hw2⟩ => ?_
    subst e
    exact ⟨hasT_encP q, q, rfl, hq, ws2, hw2, rfl⟩
  · have hr : ∀ q ∈ rs, P71 q := fun q hq => by
      obtain ⟨j, hj⟩ := List.getElem?_of_mem hq
      have hjl := (List.getElem?_eq_some_iff.mp hj).1
      exact hS j q j hj (by rw [List.getElem?_range (by simp at hl; omega)])
    have lr : rs.length = k := by rw [hl]; simp
    simp (disch := first | omega | (simp; done) | fail) [small (show rs.length ≤ 16777216 by omega)]
    exact ⟨ws, rfl, ⟨rs, by simp, ⟨hr, by omega, by omega⟩⟩, hw.mono⟩
theorem r_stand_71 {n : Nat} {xs : List D} (h : Dr n xs) (hn : n ≤ 700000) (a : Nat) :
    ∃ v ys, s_law_stand_4 [lentD (some a) xs] = .ok (v, some (lentD (some a) ys)) ∧ (∃ st : List Int, v = encS st ∧ S71 st) ∧ Dr (n + 200) ys := by
  unfold s_law_stand_4
  refine defL_run rfl ?_
  have e : (List.map some [lentD (some a) xs] ++ List.replicate (2 - 1) none : Sl) = [some (lentD (some a) xs), none] := rfl
  rw [e]
  simp (disch := first | omega | (simp; done) | fail) [wpB_seq, wpX_xOwn, wpX_aLcX]
  refine wpX_next h (by omega) fun v ys hv hd => ?_
  obtain ⟨k, hk⟩ : ∃ k : Nat, 1 + v % 6 = (k : Int) := Int.eq_ofNat_of_zero_le (by omega)
  have k1 : 1 ≤ k ∧ k ≤ 6 := by omega
  have er : rng1 [.int (k : Int)] = .ok (rng 0 k) := by rw [rng1_int ⟨by omega, by omega⟩]; simp
  simp (disch := first | omega | (simp; done) | fail) [modD_ok, hk, er, -rng1_int]
  rw [rng_map]
  have hkk : 20 * (List.range k).length ≤ 20 * 6 := Nat.mul_le_mul_left _ (by simp; omega)
  refine lc_calls (i := 0) (v := 1) (c := 20) (enc := D.int) (S := fun _ q => N40 q) rfl rfl hd (fun _ => rfl) (fun b hb n' ws hw hn' => ?_) (fun rs ws hl hS hw => ?_)
  · simp (disch := first | omega | (simp; done) | fail)
    refine wpX_callX (r_number hw (by omega) a) fun d ws2 ⟨⟨q, e, hq⟩, hw2⟩ => ?_
    subst e
    exact ⟨rfl, q, rfl, hq, ws2, hw2, rfl⟩
  · have hr : ∀ q ∈ rs, N40 q := fun q hq => by
      obtain ⟨j, hj⟩ := List.getElem?_of_mem hq
      have hjl := (List.getElem?_eq_some_iff.mp hj).1
      exact hS j q j hj (by rw [List.getElem?_range (by simp at hl; omega)])
    have lr : rs.length = k := by rw [hl]; simp
    have tr := hasTL_ints rs
    simp (disch := first | omega | (simp; done) | fail) [small (show rs.length ≤ 16777216 by omega), tr]
    exact ⟨ws, rfl, ⟨rs, by simp [encS], ⟨hr, by omega, by omega⟩⟩, hw.mono⟩
end CK

namespace CK
open PySem PySem.Spec PyProof.Rows L2 CT
theorem tryK_ex {known : List String} {i j : Nat} {g : SemS} {m m1 : Sl} {c : String} (h : g m = .exc c m1) (hc : known.contains c = true) (hi : i < m1.length) : sTryK known i j g m = .nx ((m1.set i none).set j (some (.ex c))) := by
  unfold sTryK; rw [h]; simp only [keepC]; rw [if_pos (by rw [hc]; simp [hi])]
@[simp] theorem ofR_ok {α : Type} (m : Sl) (a : α) (k : α → RS) : ofR m (.ok a) k = k a := nr rfl
@[simp] theorem ofR_exc {α : Type} (m : Sl) (c : String) (k : α → RS) : ofR m (.exc c) k = .exc c m := nr rfl
@[simp] theorem still_ex (c : String) : still (.ex c) = .ex c := nr rfl
@[simp] theorem hasT_ex (c : String) : hasT (.ex c) = false := nr rfl
end CK

namespace CK
open PySem PySem.Spec PyProof.Rows L2 CT
theorem FitL.nil0 {k : Nat} : FitL k 0 [] := FitL.nil
theorem fit_strS {k : Nat} {x : Str} (h : (PyData.strOk x && decide (x.length ≤ 20)) = true) : Fit k 21 (.str x) := by
  rw [Bool.and_eq_true, decide_eq_true_eq] at h
  exact (fit_str (k := k) h.1).mono
end CK

namespace CK
open PySem PySem.Spec PyProof.Rows L2 CT
def od1 (T : List D) : List D := [.non, .tup [], .lst false [], .tup T, .str "click", .lst false [.non], .lst false [.tup []], .lst false [.lst false [.str "click"]], .lst false [.tup [.str "click", .int 0]], .lst false [.tup [.str "Click"]]]
def od2 : List D := [.lst false [.tup [.str "wheel", .int 3]], .lst false [.tup [.str "wheel", .int 0, .tup []]], .lst false [.tup [.str "wheel", .int 3, .lst false [.int 0]]], .lst false [.tup [.str "wheel", .int 3, .tup [.int 1, .int 1]]]]
def od3 : List D := [.lst false [.tup [.str "wheel", .int 3, .tup [.int 2, .int 1]]]]
def od4 : List D := [.lst false [.tup [.str "wheel", .int 3, .tup [.int 3]]], .lst false [.tup [.str "wheel", .int 3, .tup [.int (-1)]]], .lst false [.tup [.str "wheel", .bl true, .tup []]], .lst false [.tup [.str "wheel", .int 3, .tup [.non]]]]
def od5 : List D := [.lst false [.tup [.str "spring"]], .lst false [.tup [.str "spring", .int 0]], .lst false [.tup [.str "spring", .int (-1)]], .lst false [.tup [.str "spring", .str "2"]], .lst false [.tup [.str "spring", .int 1, .int 1]]]
def od6 (T : List D) : List D := [.lst false (T ++ [.int 7]), .lst false [.tup [.str "rocker", .int 1]], .lst false [.tup [.str "rocker"], .str "rocker"], .lst false [.tup [.str "wheel", .int 2, .tup [.int 0], .tup []]], .lst false [.tup [.int 1]], .lst false [.lst false []]]
def od7 : List D := [.int 1000000000000000000000000000000, .bl true]
def odL (T : List D) : List D := od1 T ++ od2 ++ od3 ++ od4 ++ od5 ++ od6 T ++ od7
def odB : D → Bool
  | .lst t xs => !t && (xs.any (fun y => !isPartB y) || xs.isEmpty)
  | .non => true
  | .tup _ => true
  | .str _ => true
  | .int _ => true
  | .bl _ => true
  | .fr _ => false
  | .unk => false
  | .ex _ => false
  | .fn _ => false
  | .dic _ _ => false
  | .dct _ _ _ => false
theorem odL_odd (T : List D) : ∀ x ∈ odL T, odB x = true := by
  have h2 : ∀ x ∈ od2, odB x = true := fun x hx => List.all_eq_true.mp (show od2.all odB = true by decide +kernel) x hx
  have h3 : ∀ x ∈ od3, odB x = true := fun x hx => List.all_eq_true.mp (show od3.all odB = true by decide +kernel) x hx
  have h4 : ∀ x ∈ od4, odB x = true := fun x hx => List.all_eq_true.mp (show od4.all odB = true by decide +kernel) x hx
  have h5 : ∀ x ∈ od5, odB x = true := fun x hx => List.all_eq_true.mp (show od5.all odB = true by decide +kernel) x hx
  have h7 : ∀ x ∈ od7, odB x = true := fun x hx => List.all_eq_true.mp (show od7.all odB = true by decide +kernel) x hx
  have h1 : ∀ x ∈ od1 T, odB x = true := fun x hx => by
    have c : ∀ y ∈ [D.lst false [], .lst false [.non], .lst false [.tup []], .lst false [.lst false [.str "click"]], .lst false [.tup [.str "click", .int 0]], .lst false [.tup [.str "Click"]]], odB y = true := fun y hy => List.all_eq_true.mp (show [D.lst false [], .lst false [.non], .lst false [.tup []], .lst false [.lst false [.str "click"]], .lst false [.tup [.str "click", .int 0]], .lst false [.tup [.str "Click"]]].all odB = true by decide +kernel) y hy
    simp only [od1, List.mem_cons, List.not_mem_nil, or_false] at hx
    rcases hx with rfl | rfl | rfl | rfl | rfl | rfl | rfl | rfl | rfl | rfl
    · rfl
    · rfl
    · exact c _ (by simp)
    · rfl
    · rfl
    · exact c _ (by simp)
    · exact c _ (by simp)
    · exact c _ (by simp)
    · exact c _ (by simp)
    · exact c _ (by simp)
  have h6 : ∀ x ∈ od6 T, odB x = true := fun x hx => by
    have c : ∀ y ∈ [D.lst false [.tup [.str "rocker", .int 1]], .lst false [.tup [.str "rocker"], .str "rocker"], .lst false [.tup [.str "wheel", .int 2, .tup [.int 0], .tup []]], .lst false [.tup [.int 1]], .lst false [.lst false []]], odB y = true := fun y hy => List.all_eq_true.mp (show [D.lst false [.tup [.str "rocker", .int 1]], .lst false [.tup [.str "rocker"], .str "rocker"], .lst false [.tup [.str "wheel", .int 2, .tup [.int 0], .tup []]], .lst false [.tup [.int 1]], .lst false [.lst false []]].all odB = true by decide +kernel) y hy
    simp only [od6, List.mem_cons, List.not_mem_nil, or_false] at hx
    rcases hx with rfl | rfl | rfl | rfl | rfl | rfl
    · simp [odB, isPartB]
    · exact c _ (by simp)
    · exact c _ (by simp)
    · exact c _ (by simp)
    · exact c _ (by simp)
    · exact c _ (by simp)
  intro x hx
  simp only [odL, List.mem_append] at hx
  rcases hx with ((((((h | h) | h) | h) | h) | h) | h)
  · exact h1 x h
  · exact h2 x h
  · exact h3 x h
  · exact h4 x h
  · exact h5 x h
  · exact h6 x h
  · exact h7 x h
theorem fit_71 {q : Part} (h : P71 q) : Fit 3 5500 (encP q) := by
  have n45 : ∀ i : Int, N40 i → i.natAbs < 10 ^ 45 := fun i hi => by
    obtain ⟨h0, h1⟩ := hi
    omega
  cases q with
  | wheel z ms =>
    obtain ⟨h1, h2, h3⟩ := wheel_n40 h
    have f : FitL 1 ((151 + 1) * 30) (ms.map D.int) := FitL.all (fun x hx => by
      obtain ⟨i, hi, rfl⟩ := List.mem_map.mp hx
      exact fit_int (n45 i (h2 i hi))) (by rw [List.length_map]; exact h3)
    exact Fit.mono (k := 3) (by unfold encP; repeat' (first | exact fit_non | exact fit_bl | exact fit_int (n45 z h1) | exact f | exact FitL.nil0 | exact fit_strS (by decide +kernel) | exact fit_intS (by decide) | apply FitL.tup | apply FitL.lst | apply FitL.app | apply Fit.cons | apply FitL.cut | apply FitL.rev)) (by omega) (by omega)
  | click => exact Fit.mono (k := 3) (by unfold encP; repeat' (first | exact fit_non | exact fit_bl | exact FitL.nil0 | exact fit_strS (by decide +kernel) | exact fit_intS (by decide) | apply FitL.tup | apply FitL.lst | apply FitL.app | apply Fit.cons | apply FitL.cut | apply FitL.rev)) (by omega) (by omega)
  | rocker => exact Fit.mono (k := 3) (by unfold encP; repeat' (first | exact fit_non | exact fit_bl | exact FitL.nil0 | exact fit_strS (by decide +kernel) | exact fit_intS (by decide) | apply FitL.tup | apply FitL.lst | apply FitL.app | apply Fit.cons | apply FitL.cut | apply FitL.rev)) (by omega) (by omega)
  | spring k =>
    have n1 : N40 k := ⟨by have := h.1.1; omega, h.2⟩
    exact Fit.mono (k := 3) (by unfold encP; repeat' (first | exact fit_non | exact fit_bl | exact fit_int (n45 k n1) | exact FitL.nil0 | exact fit_strS (by decide +kernel) | exact fit_intS (by decide) | apply FitL.tup | apply FitL.lst | apply FitL.app | apply Fit.cons | apply FitL.cut | apply FitL.rev)) (by omega) (by omega)
theorem fitL_71 {l : List Part} (h : T71 l) : FitL 3 ((5500 + 1) * 8) (l.map encP) := FitL.all (fun x hx => by
  obtain ⟨q, hq, rfl⟩ := List.mem_map.mp hx
  exact fit_71 (h.p q hq)) (by rw [List.length_map]; exact h.m)
theorem strT_ok {k n : Nat} {x : D} (f : Fit k n x) (hk : k ≤ 52 := by omega) (hn : n ≤ 240010 := by omega) : ∃ z, strA [x] = .ok (.str z) := by
  have g := f.good (by omega) (by omega)
  cases x with
  | unk => exact absurd g.nx (by simp [isX_unk])
  | ex _ => exact absurd g.nx (by simp [isX_ex])
  | fn _ => exact absurd g.nx (by simp [isX_fn])
  | dic _ _ => exact absurd g.nx (by simp [isX_dic])
  | dct _ _ _ => exact absurd g.nx (by simp [isX_dct])
  | fr xs => exact (f.nfr (by omega)).elim
  | non => exact ⟨_, rfl⟩
  | bl c => exact ⟨_, rfl⟩
  | str x => exact ⟨_, rfl⟩
  | int i =>
    have hi := wt_int_lt (i := i) (by have := f.w; unfold far; omega)
    refine ⟨toString i, ?_⟩
    show strD [.int i] = _
    unfold strD
    simp only
    rw [if_pos]
    by_cases h0 : i.natAbs = 0
    · rw [h0]; decide
    · have := (Nat.log2_lt (k := 150) h0).mpr (Nat.lt_of_lt_of_le hi (by decide +kernel)); omega
  | tup xs => exact ⟨_, strD_fit f (.inr ⟨_, rfl⟩) hk hn⟩
  | lst t xs =>
    cases t with
    | true => have := g.t; simp [hasT] at this
    | false => exact ⟨_, strD_fit f (.inl ⟨_, rfl⟩) hk hn⟩
theorem fit_odL {l : List Part} (h : T71 l) : FitL 8 100000 (odL (l.map encP)) := by
  have hm : ∀ k, FitL (k + 3) ((5500 + 1) * 8) (l.map encP) := fun k => (fitL_71 h).mono
  exact FitL.mono (k := 8) (by unfold odL od1 od2 od3 od4 od5 od6 od7; repeat' (first | exact fit_non | exact fit_bl | exact hm _ | exact fit_int (by decide +kernel) | exact FitL.nil0 | exact fit_strS (by decide +kernel) | exact fit_intS (by decide) | apply FitL.tup | apply FitL.lst | apply FitL.app | apply Fit.cons | apply FitL.cut | apply FitL.rev)) (by omega) (by omega)
theorem odB_no {x : D} (h : odB x = true) : isTrainB x = false := by
  cases x with
  | lst t xs =>
    unfold odB at h
    show partsB xs = false
    unfold partsB
    rw [Bool.and_eq_true, Bool.or_eq_true] at h
    rcases h.2 with h | h
    · rw [List.any_eq_true] at h
      obtain ⟨y, hy, e⟩ := h
      have : xs.all isPartB = false := by
        rw [List.all_eq_false]
        exact ⟨y, hy, by simpa using e⟩
      rw [this, Bool.and_false]
    · rw [h]; rfl
  | fr xs => cases h
  | non => rfl
  | tup _ => rfl
  | str _ => rfl
  | int _ => rfl
  | bl _ => rfl
  | unk => cases h
  | ex _ => cases h
  | fn _ => cases h
  | dic _ _ => cases h
  | dct _ _ _ => cases h
theorem parts_any {xs : List D} (h : xs.any (fun y => !isPartB y) = true) : partsB xs = false := by
  unfold partsB
  rw [List.any_eq_true] at h
  obtain ⟨y, hy, e⟩ := h
  have : xs.all isPartB = false := by
    rw [List.all_eq_false]
    exact ⟨y, hy, by simpa using e⟩
  rw [this, Bool.and_false]
theorem wpB_setS {i : Nat} {e : SemE} {g : SemB} {m : Sl} {d : D} {P : D → Sl → Prop} (h : e m = .ok d) (t : hasT d = false) (k : wpB (g (m.set i (some d))) P) : wpB (bSeq (sSet i e) g m) P := by
  rw [wpB_seq]
  simp [h, t, k]
theorem ne_nil_D71 {t : Bool} {xs : List D} (h : Good (.lst t xs)) : neD (.lst t xs) (.lst false []) = .ok (.bl !xs.isEmpty) := by
  have h2 : Sh 64 (.lst false []) := by have := (sh_intsL false []).mono (k := 64); simpa using this
  rw [neD_ok h.s h2]
  cases xs <;> simp [eqvD, py, pyL, PyData.eqv, PyData.eqvAll]
theorem hasTL_pre {A B : List D} (h : hasTL (A ++ B) = false) : hasTL A = false := hasTL_all fun x hx => hasTL_mem h (List.mem_append_left _ hx)
theorem r_odd_71 {n : Nat} {xs : List D} {l : List Part} (hl : T71 l) (h : Dr n xs) (hn : n ≤ 700000) (a : Nat) :
    ∃ v ys, s_law_odd_train_2 [lentD (some a) xs, .lst false (l.map encP)] = .ok (v, some (lentD (some a) ys)) ∧ (Fit 9 200000 v ∧ isTrainB v = false) ∧ Dr (n + 2) ys := by
  have fT := fitL_71 hl
  have fL := fit_odL hl
  have oL := odL_odd (l.map encP)
  have tT : hasTL (l.map encP) = false := fT.t
  have lT : (l.map encP).length ≤ 8 := by rw [List.length_map]; exact hl.m
  unfold s_law_odd_train_2
  refine defL_run rfl ?_
  have e : (List.map some [lentD (some a) xs, .lst false (l.map encP)] ++ List.replicate (4 - 2) none : Sl) = [some (lentD (some a) xs), some (.lst false (l.map encP)), none, none] := rfl
  rw [e]
  generalize l.map encP = T at *
  have tL : hasTL (odL T) = false := fL.t
  have t6 := hasTL_pre tL
  have t5 := hasTL_pre t6
  have t4 := hasTL_pre t5
  have t3 := hasTL_pre t4
  have t2 := hasTL_pre t3
  have t1 := hasTL_pre t2
  refine wpB_setS (d := .lst false (od1 T)) (by kernel_rfl) (by rw [hasT_lst, t1]; rfl) ?_
  refine wpB_setS (d := .lst false (od1 T ++ od2)) (by kernel_rfl) (by rw [hasT_lst, t2]; rfl) ?_
  refine wpB_setS (d := .lst false (od1 T ++ od2 ++ od3)) (by kernel_rfl) (by rw [hasT_lst, t3]; rfl) ?_
  refine wpB_setS (d := .lst false (od1 T ++ od2 ++ od3 ++ od4)) (by kernel_rfl) (by rw [hasT_lst, t4]; rfl) ?_
  refine wpB_setS (d := .lst false (od1 T ++ od2 ++ od3 ++ od4 ++ od5)) (by kernel_rfl) (by rw [hasT_lst, t5]; rfl) ?_
  obtain ⟨O5, hO⟩ : ∃ O, O = od1 T ++ od2 ++ od3 ++ od4 ++ od5 := ⟨_, rfl⟩
  have l5 : O5.length = 24 := by rw [hO]; rfl
  rw [show odL T = O5 ++ od6 T ++ od7 by rw [hO]; rfl] at fL oL tL
  rw [← hO] at t6 ⊢
  have a6 : addD (.lst false T) (.lst false [.int 7]) = .ok (.lst false (T ++ [.int 7])) := addD_lst (by rw [List.length_singleton]; omega)
  have b6 : addD (.lst false O5) (.lst false (od6 T)) = .ok (.lst false (O5 ++ od6 T)) := addD_lst (by rw [l5]; simp [od6])
  have c6 : (O5 ++ od6 T).length = 30 := by rw [List.length_append, l5]; rfl
  have b7 : addD (.lst false (O5 ++ od6 T)) (.lst false od7) = .ok (.lst false (O5 ++ od6 T ++ od7)) := addD_lst (by rw [c6]; simp [od7])
  refine wpB_setS (d := .lst false (O5 ++ od6 T)) (by simp [a6, mkLst_s]; exact b6) (by rw [hasT_lst, t6]; rfl) ?_
  refine wpB_setS (d := .lst false (O5 ++ od6 T ++ od7)) (by simp [pow10_30, mkLst_s]; rw [← List.append_assoc]; exact b7) (by rw [hasT_lst, tL]; rfl) ?_
  have lL : (O5 ++ od6 T ++ od7).length = 32 := by rw [List.length_append, c6]; rfl
  have sl : (List.set (List.set (List.set [some (lentD (some a) xs), some (D.lst false T), none, none] 2 none) 2 none) 2 (some (.lst false (O5 ++ od6 T ++ od7)))) = [some (lentD (some a) xs), some (.lst false T), some (.lst false (O5 ++ od6 T ++ od7)), none] := rfl
  generalize O5 ++ od6 T ++ od7 = L at *
  simp only [List.set]
  simp (disch := first | omega | (simp; done) | fail) [wpB_seq, -ixD_l0, tL]
  refine wpX_next h (by omega) fun v ys hv hd => ?_
  obtain ⟨x, hx, ix⟩ := ixD_mod (t := false) (xs := L) v 32 (by rw [lL]; rfl) (by decide)
  have fx := fL.mem hx
  have ox := oL x hx
  have tx := fx.t
  have mo : modD (.int v) (.int 32) = .ok (.int (v % 32)) := modD_ok (by decide)
  have no := odB_no ox
  simp (disch := first | omega | (simp; done) | fail) [mo, ix, tx]
  cases x with
  | lst t zs =>
    have tf : t = false := by
      cases t with
      | false => rfl
      | true => simp at tx
    subst tf
    have gd := fx.good (by omega) (by omega)
    have nn := ne_nil_D71 gd
    have tz : hasTL zs = false := by simpa using tx
    have lz : zs.length ≤ 100000 := by
      have := wtL_len zs
      have := fx.w
      simp only [wt] at this
      simp at this
      omega
    have fz : FitL 8 100000 zs := ⟨by have := fx.dp; simp only [py, PyData.depth] at this; omega, by have := fx.w; simp only [wt] at this; simp at this; omega⟩
    cases hz : zs with
    | nil =>
      subst hz
      simp [nn]
      exact ⟨ys, rfl, ⟨fx.mono, no⟩, hd.mono⟩
    | cons z0 zr =>
      have any : zs.any (fun y => !isPartB y) = true := by
        unfold odB at ox
        rw [Bool.and_eq_true, Bool.or_eq_true] at ox
        rcases ox.2 with o | o
        · exact o
        · rw [hz] at o; cases o
      have ze : zs.isEmpty = false := by rw [hz]; rfl
      rw [← hz]
      rw [ze] at nn
      have a1 : addD (.lst false T) (.lst false zs) = .ok (.lst false (T ++ zs)) := addD_lst (by omega)
      have a2 : addD (.lst false zs) (.lst false T) = .ok (.lst false (zs ++ T)) := addD_lst (by omega)
      have tt1 : hasTL (T ++ zs) = false := hasTL_all fun y hy => (List.mem_append.mp hy).elim (hasTL_mem tT) (hasTL_mem tz)
      have tt2 : hasTL (zs ++ T) = false := hasTL_all fun y hy => (List.mem_append.mp hy).elim (hasTL_mem tz) (hasTL_mem tT)
      simp (disch := first | omega | (simp; done) | fail) [nn, a1, a2, mkLst_s, tz, tt1, tt2]
      refine wpX_next hd (by omega) fun w ys2 hw hd2 => ?_
      have mo3 : modD (.int w) (.int 3) = .ok (.int (w % 3)) := modD_ok (by decide)
      have fT8 : FitL 8 ((5500 + 1) * 8) T := fT.mono
      have cc : w % 3 = 0 ∨ w % 3 = 1 ∨ w % 3 = 2 := by omega
      rcases cc with cc | cc | cc
      · have ix3 : ixD (.lst false [.lst false zs, .lst false (T ++ zs), .lst false (zs ++ T)]) (.int 0) = .ok (.lst false zs) := ixD_lst (i := 0) rfl
        simp (disch := first | omega | (simp; done) | fail) [mo3, cc, ix3, tz]
        exact ⟨ys2, rfl, ⟨fx.mono, no⟩, hd2.mono⟩
      · have ix3 : ixD (.lst false [.lst false zs, .lst false (T ++ zs), .lst false (zs ++ T)]) (.int 1) = .ok (.lst false (T ++ zs)) := ixD_lst (i := 1) rfl
        simp (disch := first | omega | (simp; done) | fail) [mo3, cc, ix3, tt1]
        exact ⟨ys2, rfl, ⟨(fT8.app fz).lst.mono, parts_any (by rw [List.any_append, any, Bool.or_true])⟩, hd2.mono⟩
      · have ix3 : ixD (.lst false [.lst false zs, .lst false (T ++ zs), .lst false (zs ++ T)]) (.int 2) = .ok (.lst false (zs ++ T)) := ixD_lst (i := 2) rfl
        simp (disch := first | omega | (simp; done) | fail) [mo3, cc, ix3, tt2]
        exact ⟨ys2, rfl, ⟨(fz.app fT8).lst.mono, parts_any (by rw [List.any_append, any, Bool.true_or])⟩, hd2.mono⟩
  | non => simp; exact ⟨ys, rfl, ⟨fx.mono, no⟩, hd.mono⟩
  | tup zs =>
    have tz : hasTL zs = false := tx
    simp [tz]; exact ⟨ys, rfl, ⟨fx.mono, no⟩, hd.mono⟩
  | str z => simp; exact ⟨ys, rfl, ⟨fx.mono, no⟩, hd.mono⟩
  | int z => simp; exact ⟨ys, rfl, ⟨fx.mono, no⟩, hd.mono⟩
  | bl z => simp; exact ⟨ys, rfl, ⟨fx.mono, no⟩, hd.mono⟩
  | fr _ => cases ox
  | unk => cases ox
  | ex _ => cases ox
  | fn _ => cases ox
  | dic _ _ => cases ox
  | dct _ _ _ => cases ox
theorem r_refused_71 {v : D} (f : Fit 9 200000 v) (no : isTrainB v = false) : s_law_refused_2_xTra [v] = .ok (.bl true) := by
  obtain ⟨z, hz⟩ := strT_ok f (by omega) (by omega)
  have g := f.good (by omega) (by omega)
  have t := g.t
  have sv := still_good g
  have ck := r_check_train v g
  rw [if_neg (by rw [no]; simp)] at ck
  have sh : s_show_train [v] = .exc "NoTrain" := by
    unfold s_show_train
    refine def_ex1 rfl ?_
    simp [ck, sv, t]
  have n1 : neD (.str z) (.str z) = .ok (.bl false) := by rw [neD_strs]; simp
  have x1 : isxN [("NoTrain", true)] (.ex "NoTrain") = .ok (.bl true) := rfl
  have x2 : isxR [("NoTrain", false)] (.ex "NoTrain") = .ok (.bl false) := rfl
  unfold s_law_refused_2_xTra
  refine def_ok1 rfl ?_
  simp [hz]
  rw [tryK_ex (c := "NoTrain") (m1 := [some v, some .non, some (.str z), none]) (by simp [sh, sv, t]) (by decide +kernel) (by simp)]
  simp [x1, x2, hz, n1]
end CK

namespace CK
open PySem PySem.Spec PyProof.Rows L2 CT
def nextV (x k : Int) (c : Bool) : Int := if c = true then x % 1000000 else
  ((((x % 1000003 + (k + 1) * (k + 1) * 7919 + (k + 1)) * 48271 % 2147483629) * ((x % 1000003 + (k + 1) * (k + 1) * 7919 + (k + 1)) * 48271 % 2147483629) % 2147483587) * ((((x % 1000003 + (k + 1) * (k + 1) * 7919 + (k + 1)) * 48271 % 2147483629) * ((x % 1000003 + (k + 1) * (k + 1) * 7919 + (k + 1)) * 48271 % 2147483629) % 2147483587) + 2)) % 2147483579 / 7
theorem nextV_b (x k : Int) (c : Bool) : 0 ≤ nextV x k c ∧ nextV x k c < 1000000000 := by
  unfold nextV
  cases c
  · simp only [Bool.false_eq_true, if_false]
    generalize ((((x % 1000003 + (k + 1) * (k + 1) * 7919 + (k + 1)) * 48271 % 2147483629) * ((x % 1000003 + (k + 1) * (k + 1) * 7919 + (k + 1)) * 48271 % 2147483629) % 2147483587) * ((((x % 1000003 + (k + 1) * (k + 1) * 7919 + (k + 1)) * 48271 % 2147483629) * ((x % 1000003 + (k + 1) * (k + 1) * 7919 + (k + 1)) * 48271 % 2147483629) % 2147483587) + 2)) = y
    have := Int.emod_nonneg y (show (2147483579 : Int) ≠ 0 by omega)
    have := Int.emod_lt_of_pos y (show (0 : Int) < 2147483579 by omega)
    omega
  · simp only [if_true]
    omega
theorem r_next_at {x k : Int} {c : Bool} (hk : 0 ≤ k) (hk2 : k ≤ 1000000) (a : Nat) : ∃ ys, s_law_next [lentD (some a) [.int x, .int k, .bl c]] = .ok (.int (nextV x k c), some (lentD (some a) ys)) := by
  have p6 : powD (.int 10) (.int 6) = .ok (.int 1000000) := by rw [powD_lit (by decide +kernel)]; rfl
  suffices main : ∃ v ys, s_law_next [lentD (some a) [.int x, .int k, .bl c]] = .ok (v, some (lentD (some a) ys)) ∧ v = .int (nextV x k c) by
    obtain ⟨v, ys, e, rfl⟩ := main
    exact ⟨ys, e⟩
  have main : ∃ v ys, s_law_next [lentD (some a) [.int x, .int k, .bl c]] = .ok (v, some (lentD (some a) ys)) ∧ (v = .int (nextV x k c)) ∧ True := by
    unfold s_law_next
    refine defL_run (P := fun v _ => v = .int (nextV x k c) ∧ True) rfl ?_
    have e : (List.map some [lentD (some a) [.int x, .int k, .bl c]] ++ List.replicate (3 - 1) none : Sl) = [some (lentD (some a) [.int x, .int k, .bl c]), none, none] := rfl
    rw [e]
    cases c
    · simp (disch := first | omega | (simp; done) | fail) [wpB_seq, wpB_if, eLk0, subLR0, p6, modD_ok, divD_s, mulD_l, mulD_r]
      simp [nextV]
      exact ⟨_, rfl⟩
    · simp (disch := first | omega | (simp; done) | fail) [wpB_seq, wpB_if, eLk0, subLR0, p6, modD_ok, divD_s]
      simp [nextV]
      exact ⟨_, rfl⟩
  obtain ⟨v, ys, e, h, _⟩ := main
  exact ⟨v, ys, e, h⟩
theorem first_N {n : Nat} {xs : List D} (h : Dr n xs) (hn : n ≤ 1000000) : ∃ i : Int, 0 ≤ i ∧ i < 1000000000 ∧ ∀ a : Nat, LentTo s_law_next xs [] a (.int i) := by
  obtain ⟨x, k, c, rfl, hk, hk2⟩ := h
  obtain ⟨b1, b2⟩ := nextV_b x k c
  exact ⟨nextV x k c, b1, b2, fun a => ⟨rfl, r_next_at hk (by omega) a⟩⟩
end CK

namespace CK
open PySem PySem.Spec PyProof.Rows L2 CT
theorem wp_setQ {i : Nat} {e : SemE} {g : SemS} {m : Sl} {d : D} {Q : Po} (h : e m = .ok d) (t : hasT d = false) (k : wp (g (m.set i (some d))) Q) : wp (sSeq (sSet i e) g m) Q := by
  rw [show sSeq (sSet i e) g m = sThen (sSet i e m) g from rfl, wp_then]
  simp [h, t, k]
theorem cells_71 (ns : List Int) : ∃ L : List Int, addD (.lst false (cutA (ns.map D.int) none (some 6))) (.lst false [.int 0]) = .ok (.lst false (L.map .int)) := by
  refine ⟨ns.take 6 ++ [0], ?_⟩
  have e1 : cutA (ns.map D.int) none (some 6) = (ns.take 6).map D.int := by
    have := cut_head (ns.map D.int) 6
    rw [List.map_take]
    exact this
  rw [e1, addD_lst (by simp; omega)]
  simp
theorem first_71 (ns : List Int) (h : ns.length ≤ 63) : ∃ (L : List D) (c : Int), addF (.fr (ns.map D.int)) (.lst false [.int 0]) = .ok (.lst false L) ∧ ixD (.lst false L) (.int 0) = .ok (.int c) := by
  refine ⟨ns.map D.int ++ [.int 0], (ns ++ [0]).head (by simp), ?_, ?_⟩
  · unfold addF
    simp only
    rw [if_pos (small (by simp; omega))]
  · cases ns with
    | nil => exact ixD_lst (i := 0) rfl
    | cons n r => exact ixD_lst (i := 0) rfl
theorem zRep_71 {α : Type} (enc : α → D) {n : Nat} {xs : List α} (hx : xs.length ≤ 1000) (hn : n ≤ 1000) : repD (.lst false (xs.map enc)) (.int n) = .ok (.lst false ((List.replicate n xs).flatten.map enc)) := by
  have h1 : (xs.map enc).length * ((n : Int)).toNat ≤ sizeLine := by
    refine small ?_
    have : xs.length * n ≤ 1000 * 1000 := Nat.mul_le_mul hx hn
    simp; omega
  unfold repD
  simp only
  rw [if_pos ⟨by omega, by omega, h1⟩, Int.toNat_natCast, List.map_flatten, List.map_replicate]
def marks71 (f : Int) : List Int := (List.range 30).map fun k : Nat => f + (k : Int)
def great71 (f : Int) : List Part := List.replicate 8 (.wheel 9999999999999999999999999999999999999999 (marks71 f))
theorem great_T71 {i : Int} (h0 : 0 ≤ i) (h1 : i < 1000000000) : T71 (great71 (1000000000000000000000000000000000000000 + i)) := by
  refine ⟨fun q hq => ?_, by simp [great71], by simp [great71]⟩
  rw [(List.mem_replicate.mp hq).2]
  refine ⟨⟨by omega, lt_2000 (by omega), by simp [marks71], fun m hm => ?_, ?_⟩, by show (9999999999999999999999999999999999999999 : Int) < 10 ^ 40; omega, by simp [marks71]⟩
  · obtain ⟨k, hk, rfl⟩ := List.mem_map.mp hm
    have := List.mem_range.mp hk
    omega
  · unfold marks71
    rw [List.pairwise_map]
    exact List.Pairwise.imp (fun {a b} hab => by omega) List.pairwise_lt_range
theorem zero_S71 : S71 (List.replicate 8 0) := ⟨fun i hi => by rw [(List.mem_replicate.mp hi).2]; exact ⟨by omega, by decide⟩, by decide, by decide⟩
def enc71 (p : List Part × List Int) : D := .tup [.lst false (p.1.map encP), encS p.2]
theorem tS71 (st : List Int) : hasT (encS st) = false := by simp [encS]
theorem enc71_t (p) : hasT (enc71 p) = false := by simp [enc71, tS71]
theorem wpX_callN {i : Nat} {f : List D → R (D × Option D)} {xs : List D} {m : Sl} {a : Nat} {P : D → Sl → Prop} {S : D → List D → Prop} (hm : m[i]? = some (some (lentD (some a) xs)))
    (h : ∃ d ys, f [lentD (some a) xs] = .ok (d, some (lentD (some a) ys)) ∧ S d ys) (k : ∀ d ys, S d ys → hasT d = false ∧ P d (m.set i (some (lentD (some a) ys)))) : wpX (xCallL i f xaNil m) P := by
  rw [xCallL_eq, hm]
  simp
  exact wpX_callAt hm h k
theorem okX_ok71 {z : D} {m : Sl} (h : hasT z = false) : okX (.ok z) m = .ok (z, m) := by
  show (if hasT z = true then R.stuck else R.ok (z, m)) = _
  rw [h]; rfl
theorem wpX_callM {i : Nat} {f : List D → R (D × Option D)} {h' : SemXA} {ds xs : List D} {m : Sl} {a : Nat} {P : D → Sl → Prop} {S : D → List D → Prop} (hm : m[i]? = some (some (lentD (some a) xs))) (hh : h' m = .ok (ds, m))
    (h : ∃ d ys, f (lentD (some a) xs :: ds) = .ok (d, some (lentD (some a) ys)) ∧ S d ys) (k : ∀ d ys, S d ys → hasT d = false ∧ P d (m.set i (some (lentD (some a) ys)))) : wpX (xCallL i f h' m) P := by
  rw [xCallL_eq, hm]
  simp [hh]
  exact wpX_callAt hm h k
theorem law_true (ns : List Int) (h : ns.length ≤ 63) : s_law_41_xTra [.fr (ns.map .int)] = .ok (.bl true) := by
  obtain ⟨L, hL⟩ := cells_71 ns
  obtain ⟨L0, c0, hc0, hc1⟩ := first_71 ns h
  obtain ⟨xs, ed, hx, tx⟩ := r_draws c0
  obtain ⟨i, i0, i1, hi⟩ := first_N hx (by decide)
  have gT := great_T71 i0 i1
  have w0 := r_law_well_71 gT zero_S71
  have WA := @r_law_well_71
  unfold s_law_41_xTra
  generalize s_law_well = WL at WA w0 ⊢
  refine def_ok1 rfl ?_
  have e1 : (CT.e2 addD (CT.e2 powD (eC (.int 10)) (eC (.int 39))) (eCallN (aThen (aCons (CT.e2 ixD (CT.e2 addF (eVar 0) (eOwn (aThen (aCons (eC (.int 0)) aNil) mkLst))) (eC (.int 0))) aNil) (callO s_law_draws)) s_law_next aNil)) (List.map some [D.fr (ns.map .int)] ++ List.replicate (8 - 1) none) = .ok (.int (1000000000000000000000000000000000000000 + i)) := by
    have ec : eCallN (aThen (aCons (CT.e2 ixD (CT.e2 addF (eVar 0) (eOwn (aThen (aCons (eC (.int 0)) aNil) mkLst))) (eC (.int 0))) aNil) (callO s_law_draws)) s_law_next aNil (List.map some [D.fr (ns.map .int)] ++ List.replicate (8 - 1) none) = .ok (.int i) := by
      refine eCallN_ok (xs := xs) (ds := []) ?_ rfl tx rfl hi
      simp [hc0, hc1, callO, ed]
    show ((CT.e2 powD (eC (.int 10)) (eC (.int 39))) _).bind (fun x => (eCallN _ _ _ _).bind fun y => addD x y) = _
    rw [ec]
    simp [pow10_39]
  refine wp_setQ e1 rfl ?_
  generalize 1000000000000000000000000000000000000000 + i = f at *
  have e2 : (CT.e2 repD (eOwn (aThen (aCons (eA mkTup (aCons (eC (.str "wheel")) (aCons (CT.e2 subD (CT.e2 powD (eC (.int 10)) (eC (.int 40))) (eC (.int 1))) (aCons (eA tupleD (aCons (eOwn (aLc (aThen (aCons (eC (.int 30)) aNil) rng1) (putR 6) tYesM (CT.e2 addD (eVar 1) (eVar 6)) [6])) aNil)) aNil)))) aNil) mkLst)) (eC (.int 8))) ((List.map some [D.fr (ns.map .int)] ++ List.replicate (8 - 1) none).set 1 (some (.int f))) = .ok (.lst false ((great71 f).map encP)) := by
    have er : rng1 [.int 30] = .ok (rng 0 30) := rfl
    have lc : lcGo (putR 6) tYesM (CT.e2 addD (eVar 1) (eVar 6)) [some (D.fr (ns.map .int)), some (.int f), none, none, none, none, none, none] (rng 0 30) = .ok ((marks71 f).map .int) := by
      rw [rng_map]
      unfold marks71
      rw [List.map_map]
      exact lcGo_map1 (fun k : Nat => D.int (k : Int)) (D.int ∘ fun k : Nat => f + (k : Int)) (List.range 30) fun k _ => ⟨[some (D.fr (ns.map .int)), some (.int f), none, none, none, none, some (.int (k : Int)), none], by simp, by simp, rfl⟩
    have tm := hasTL_ints (marks71 f)
    have sm : stillL ((marks71 f).map D.int) = (marks71 f).map D.int := stillL_map (fun _ => rfl) _
    have ml : (marks71 f).length ≤ 16777216 := by simp [marks71]
    have rp : repD (.lst false [.tup [.str "wheel", .int 9999999999999999999999999999999999999999, .tup ((marks71 f).map .int)]]) (.int 8) = .ok (.lst false ((great71 f).map encP)) := by
      have := zRep_71 encP (n := 8) (xs := [Part.wheel 9999999999999999999999999999999999999999 (marks71 f)]) (by simp) (by decide)
      exact this
    generalize marks71 f = M at *
    simp [er, lc, pow10_40, tm, sm, small ml, rp, -rng1_int]
  refine wp_setQ e2 (by simp) ?_
  obtain ⟨Z, hZ⟩ : ∃ Z, Z = encS (List.replicate 8 0) := ⟨_, rfl⟩
  have rt : repT (.tup [.int 0]) (.int 8) = .ok Z := by rw [hZ]; kernel_rfl
  have tgr : hasT (.lst false ((great71 f).map encP)) = false := by simp
  have sgr : still (.lst false ((great71 f).map encP)) = .lst false ((great71 f).map encP) := by simp
  have ts0 : hasT Z = false := by rw [hZ]; exact tS71 _
  have ss0 := still_of _ ts0
  rw [← hZ] at w0
  clear e1 e2 hZ
  rw [show ∀ (p q : SemS) (m : Sl), sSeq p q m = sThen (p m) q from fun _ _ _ => rfl, wp_then]
  generalize (great71 f).map encP = G at *
  have tG : hasTL G = false := by simpa using tgr
  have sG : stillL G = G := stillL_of _ tG
  simp [rt, w0, ts0, ss0, tG, sG, hL, -wp_for_cons, -wp_for_nil, hasTL_ints]
  obtain ⟨I, hI⟩ : ∃ I : Sl → Prop, I = fun m => m.length = 8 := ⟨_, rfl⟩
  refine wp_each I (by rw [hI]; rfl) (fun c hc m hm => ?_) (fun m hm => ?_)
  · rw [hI] at hm
    match m, hm with
    | [x0, x1, x2, x3, x4, x5, x6, x7], _ =>
    obtain ⟨zs, ed, hz, tz⟩ := r_draws c
    simp
    refine wp_newL (ds := zs) (by simp [callO, ed]) tz (fun a => ?_) (by rw [hI]; rfl)
    have er2 : rng1 [.int 2] = .ok (rng 0 2) := rfl
    have er3 : rng1 [.int 3] = .ok (rng 0 3) := rfl
    simp [-wp_for_cons, -wp_for_nil, wpX_xOwn, wpX_aLcX, er2, -rng1_int]
    rw [rng_map]
    refine lc_calls (i := 4) (v := 6) (c := 6200) (enc := enc71) (S := fun _ p => T71 p.1 ∧ S71 p.2) rfl rfl hz (fun _ => rfl) (fun b hb n' ws hw hn' => ?_) (fun rs ws hl hS hw => ?_)
    · have hn2 : n' ≤ 100000 := by simp at hn'; omega
      simp (disch := first | omega | (simp; done) | fail)
      refine wpX_callN rfl (r_train_71 hw (by omega) a) fun v ys ⟨⟨l, e, hl⟩, hd⟩ => ?_
      subst e
      refine ⟨by simp, ?_⟩
      simp (disch := first | omega | (simp; done) | fail)
      refine wpX_callN rfl (r_stand_71 hd (by omega) a) fun v ys2 ⟨⟨st, e, hst⟩, hd2⟩ => ?_
      subst e
      refine ⟨tS71 _, ?_⟩
      simp [tS71]
      exact ⟨l, st, rfl, ⟨hl, hst⟩, ys2, hd2.mono, rfl⟩
    · match rs, hl with
      | [p0, p1], _ =>
      obtain ⟨o0, u0⟩ := hS 0 p0 0 rfl rfl
      obtain ⟨o1, u1⟩ := hS 1 p1 1 rfl rfl
      have hw : Dr 12400 ws := hw.mono (by simp)
      have i0' : ixD (enc71 p0) (.int 0) = .ok (.lst false (p0.1.map encP)) := ixD_0 ..
      have f0 := r_law_train_text o0
      have g0 := r_read_train o0
      have t0 := enc71_t p0
      have t1 := enc71_t p1
      have s0 := still_of _ t0
      have s1 := still_of _ t1
      have sp0 : stillL (p0.1.map encP) = p0.1.map encP := stillL_map still_encP _
      have n0 : neD (.lst false (p0.1.map encP)) (.lst false (p0.1.map encP)) = .ok (.bl false) := neD_self (good_train o0.trn.ok o0.trn.m _ (.inl rfl)).s
      refine ⟨small (by simp), ?_⟩
      simp [er3, -rng1_int, -wp_for_cons, -wp_for_nil]
      obtain ⟨J, hJ⟩ : ∃ J : Nat → Sl → Prop, J = fun j m => ∃ (ys : List D) (y6 : Option D), m = [x0, x1, x2, some (.int c), some (lentD (some a) ys), some (.lst false [enc71 p0, enc71 p1]), y6, x7] ∧ Dr (12400 + 2 * j) ys := ⟨_, rfl⟩
      refine wp_rng J ?_ (fun j hj m hm => ?_) (fun m hm => ?_)
      · rw [hJ]; exact ⟨ws, none, rfl, hw⟩
      · rw [hJ] at hm
        obtain ⟨ys, y6, rfl, hy⟩ := hm
        simp (disch := first | omega | (simp; done) | fail)
        refine wpX_callM (ds := [.lst false (p0.1.map encP)]) rfl (by simp [i0', sp0]; rw [okX_ok71 (by simp)]; rfl) (r_odd_71 o0 hy (by omega) a) fun v ys2 ⟨⟨fv, nv⟩, hd⟩ => ?_
        have tv := fv.t
        have sv := still_of v tv
        have rv := r_refused_71 fv nv
        refine ⟨tv, ?_⟩
        simp [sv, tv, rv]
        rw [hJ]
        exact ⟨ys2, _, rfl, hd.mono⟩
      · rw [hJ] at hm
        obtain ⟨ys, y6, rfl, hy⟩ := hm
        simp [i0', sp0, f0, g0, t0, t1, s0, s1, itemsN, items, -wp_for_cons, -wp_for_nil]
        obtain ⟨M, hM⟩ : ∃ M : Sl → Prop, M = fun m => ∃ y2 y7, m = [x0, some (.lst false (p0.1.map encP)), y2, some (.int c), some (lentD (some a) ys), some (.lst false [enc71 p0, enc71 p1]), y6, y7] := ⟨_, rfl⟩
        rw [show ([enc71 p1, enc71 p0] : List D) = [p1, p0].map enc71 from rfl]
        refine wp_each M (by rw [hM]; exact ⟨_, _, rfl⟩) (fun q hq m hm => ?_) (fun m hm => ?_)
        · rw [hM] at hm
          obtain ⟨y2, y7, rfl⟩ := hm
          have oq : T71 q.1 ∧ S71 q.2 := by
            simp only [List.mem_cons, List.not_mem_nil, or_false] at hq
            rcases hq with rfl | rfl
            · exact ⟨o1, u1⟩
            · exact ⟨o0, u0⟩
          have wq := WA oq.1 oq.2
          have tq := tS71 q.2
          have sq := still_of _ tq
          simp [enc71, tq, sq, wq, i0', n0]
          rw [hM]
          exact ⟨_, _, rfl⟩
        · rw [hM] at hm
          obtain ⟨y2, y7, rfl⟩ := hm
          rfl
  · rw [hI] at hm
    match m, hm with
    | [x0, x1, x2, x3, x4, x5, x6, x7], _ => simp
end CK

namespace CK
open PySem PySem.Spec PyProof.Rows L2 CT
def topS (i : Nat) : Stmt := PySem.Challenge.pw_clicktrain_k71_trains_and_stands_as_text.main.body.getD i (.Pass ⟨0, 0, 0, 0⟩)
structure Txt (K : PySem.W.Frag) (mg : Str → Option Value) (xa : Nat → Addr) : Prop where
  f_is_whole : ∃ fa fd, Fun K "is_whole" "is_whole" (topS 9) fa fd ∧ mg "is_whole" = some (.ref fa) ∧ Binds K fd ["thing"] []
  f_is_marks : ∃ fa fd, Fun K "is_marks" "is_marks" (topS 10) fa fd ∧ mg "is_marks" = some (.ref fa) ∧ Binds K fd ["teeth", "thing"] []
  f_is_part : ∃ fa fd, Fun K "is_part" "is_part" (topS 11) fa fd ∧ mg "is_part" = some (.ref fa) ∧ Binds K fd ["thing"] []
  f_check_train : ∃ fa fd, Fun K "check_train" "check_train" (topS 12) fa fd ∧ mg "check_train" = some (.ref fa) ∧ Binds K fd ["train"] []
  f_sure : ∃ fa fd, Fun K "sure" "sure" (topS 16) fa fd ∧ mg "sure" = some (.ref fa) ∧ Binds K fd ["good"] []
  f_count_in : ∃ fa fd, Fun K "count_in" "count_in" (topS 17) fa fd ∧ mg "count_in" = some (.ref fa) ∧ Binds K fd ["word"] []
  f_part_in : ∃ fa fd, Fun K "part_in" "part_in" (topS 19) fa fd ∧ mg "part_in" = some (.ref fa) ∧ Binds K fd ["word"] []
  f_read_train : ∃ fa fd, Fun K "read_train" "read_train" (topS 21) fa fd ∧ mg "read_train" = some (.ref fa) ∧ Binds K fd ["text"] []
  f_law_draws : ∃ fa fd, Fun K "_law_draws" "_law_draws" (topS 25) fa fd ∧ mg "_law_draws" = some (.ref fa) ∧ Binds K fd ["_law_cell"] []
  f_law_next : ∃ fa fd, Fun K "_law_next" "_law_next" (topS 26) fa fd ∧ mg "_law_next" = some (.ref fa) ∧ Binds K fd ["_law_draws_here"] []
  f_law_number : ∃ fa fd, Fun K "_law_number" "_law_number" (topS 28) fa fd ∧ mg "_law_number" = some (.ref fa) ∧ Binds K fd ["_law_draws_here"] []
  f_law_rising : ∃ fa fd, Fun K "_law_rising" "_law_rising" (topS 29) fa fd ∧ mg "_law_rising" = some (.ref fa) ∧ Binds K fd ["_law_draws_here", "_law_many"] []
  f_law_part : ∃ fa fd, Fun K "_law_part" "_law_part" (topS 30) fa fd ∧ mg "_law_part" = some (.ref fa) ∧ Binds K fd ["_law_draws_here", "_law_most"] []
  f_law_train : ∃ fa fd, Fun K "_law_train" "_law_train" (topS 31) fa fd ∧ mg "_law_train" = some (.ref fa) ∧ Binds K fd ["_law_draws_here"] []
  f_law_stand : ∃ fa fd, Fun K "_law_stand" "_law_stand" (topS 32) fa fd ∧ mg "_law_stand" = some (.ref fa) ∧ Binds K fd ["_law_draws_here"] []
  f_law_part_text : ∃ fa fd, Fun K "_law_part_text" "_law_part_text" (topS 33) fa fd ∧ mg "_law_part_text" = some (.ref fa) ∧ Binds K fd ["_law_part_here"] []
  f_law_train_text : ∃ fa fd, Fun K "_law_train_text" "_law_train_text" (topS 34) fa fd ∧ mg "_law_train_text" = some (.ref fa) ∧ Binds K fd ["_law_train_here"] []
  f_part_shown : ∃ fa fd, Fun K "part_shown" "part_shown" (topS 18) fa fd ∧ mg "part_shown" = some (.ref fa) ∧ Binds K fd ["part"] []
  f_show_train : ∃ fa fd, Fun K "show_train" "show_train" (topS 20) fa fd ∧ mg "show_train" = some (.ref fa) ∧ Binds K fd ["train"] []
  f_show_stand : ∃ fa fd, Fun K "show_stand" "show_stand" (topS 22) fa fd ∧ mg "show_stand" = some (.ref fa) ∧ Binds K fd ["stand"] []
  f_read_stand : ∃ fa fd, Fun K "read_stand" "read_stand" (topS 23) fa fd ∧ mg "read_stand" = some (.ref fa) ∧ Binds K fd ["text"] []
  f_law_stand_text : ∃ fa fd, Fun K "_law_stand_text" "_law_stand_text" (topS 35) fa fd ∧ mg "_law_stand_text" = some (.ref fa) ∧ Binds K fd ["_law_stand_here"] []
  f_law_whole : ∃ fa fd, Fun K "_law_whole" "_law_whole" (topS 27) fa fd ∧ mg "_law_whole" = some (.ref fa) ∧ Binds K fd ["_law_found"] []
  f_law_plain : ∃ fa fd, Fun K "_law_plain" "_law_plain" (topS 36) fa fd ∧ mg "_law_plain" = some (.ref fa) ∧ Binds K fd ["_law_found"] []
  f_law_well : ∃ fa fd, Fun K "_law_well" "_law_well" (topS 37) fa fd ∧ mg "_law_well" = some (.ref fa) ∧ Binds K fd ["_law_train_here", "_law_stand_here"] []
  f_law_odd_train : ∃ fa fd, Fun K "_law_odd_train" "_law_odd_train" (topS 38) fa fd ∧ mg "_law_odd_train" = some (.ref fa) ∧ Binds K fd ["_law_draws_here", "_law_train_here"] []
  f_law_refused : ∃ fa fd, Fun K "_law_refused" "_law_refused" (topS 39) fa fd ∧ mg "_law_refused" = some (.ref fa) ∧ Binds K fd ["_law_thing"] []
  b_ValueError : mg "ValueError" = none
  b_all : mg "all" = none
  b_bool : mg "bool" = none
  b_int : mg "int" = none
  b_isinstance : mg "isinstance" = none
  b_len : mg "len" = none
  b_list : mg "list" = none
  b_max : mg "max" = none
  b_range : mg "range" = none
  b_str : mg "str" = none
  b_tuple : mg "tuple" = none
  b_zip : mg "zip" = none
  c_FIGURES : ∃ u, mg "FIGURES" = some u ∧ RelV (.str "0123456789") u
  c_LONGEST : ∃ u, mg "LONGEST" = some u ∧ RelV (.int 40) u
  x_NoText : ExcOk K mg "NoText"
  x_NoTrain : ExcOk K mg "NoTrain"
  g_NoCount : mg "NoCount" = some (.ref (xa 0))
  g_NoRow : mg "NoRow" = some (.ref (xa 1))
  g_NoStand : mg "NoStand" = some (.ref (xa 2))
  g_NoText : mg "NoText" = some (.ref (xa 3))
  g_NoTrain : mg "NoTrain" = some (.ref (xa 4))
  g_TooMany : mg "TooMany" = some (.ref (xa 5))
  g_TrainError : mg "TrainError" = some (.ref (xa 6))
  q_NoTrain : exK K "NoTrain" = .ref (xa 4) ∧ ExcC K (xa 4)
  i_NoTrain_NoCount : PySem.W.kitOne K (.ref (xa 4)) (.ref (xa 0)) = some false
  i_NoTrain_NoRow : PySem.W.kitOne K (.ref (xa 4)) (.ref (xa 1)) = some false
  i_NoTrain_NoStand : PySem.W.kitOne K (.ref (xa 4)) (.ref (xa 2)) = some false
  i_NoTrain_NoText : PySem.W.kitOne K (.ref (xa 4)) (.ref (xa 3)) = some false
  i_NoTrain_NoTrain : PySem.W.kitOne K (.ref (xa 4)) (.ref (xa 4)) = some true
  i_NoTrain_TooMany : PySem.W.kitOne K (.ref (xa 4)) (.ref (xa 5)) = some false
  i_NoTrain_ValueError : PySem.W.kitOne K (.ref (xa 4)) (.type "ValueError") = some true
  j_NoTrain : PySem.W.kitOne K (.type "NoneType") (.ref (xa 4)) = some false
  j_ValueError : PySem.W.kitOne K (.type "NoneType") (.type "ValueError") = some false
  w_NoTrain_TrainError : PySem.W.exmOne K (exOf mg "NoTrain") (.ref (xa 6)) = some true ∧ exOf mg "NoTrain" = exK K "NoTrain"
section
variable {P : Program} {w : World} {K : PySem.W.Frag} {mg : Str → Option Value} {base : Heap} {xa : Nat → Addr}
theorem sc_is_whole : FnScope ["thing"] ["thing"] (defScope (topS 9)) := ⟨rfl, rfl, rfl, by decide +kernel, rfl, by decide +kernel, by decide +kernel⟩
set_option linter.unusedVariables false in
theorem fn_is_whole (T : Txt K mg xa) {fa : Addr} {fd : FuncData} (F : Fun K "is_whole" "is_whole" (topS 9) fa fd) : FnG P w K mg base 1 fa fd ["thing"] (CT.spF K (exOf mg) 1 s_is_whole) := by
  have nd : (["thing"] : List Str).Nodup := sc_is_whole.nd
  refine def_fn (k := 0) (N := ["thing"]) (ps := ["thing"]) F sc_is_whole fun cdv A outer s H E F0 hr hgd => ?_
  have hu64 : (A.deeper (envOfC "is_whole" (defScope (topS 9)) s.heap.objs.size fa cdv)).units + 64 < cLine := hr.units
  have hu65 : (A.deeper (envOfC "is_whole" (defScope (topS 9)) s.heap.objs.size fa cdv)).units + 65 < cLine := by have := hr.un; omega
  have pz := L2.passes_of (X := cxOf (L2.CX P w) P w K mg base ["thing"] "is_whole" (defScope (topS 9)) fa cdv A outer s H E) rfl
  have tk : Takes (cxOf (L2.CX P w) P w K mg base ["thing"] "is_whole" (defScope (topS 9)) fa cdv A outer s H E) (fun c d _ H' => E c d H') := takes_of rfl rfl rfl rfl
  exact (sss_one (ss_ret (se_and (se_isi (T := "int") rfl T.b_isinstance rfl T.b_int PyProof.Rows.boot_int (se_var (pv 0))) (se_one (se_not (se_isi (T := "bool") rfl T.b_isinstance rfl T.b_bool (by decide +kernel) (se_var (pv 0))))))))
theorem ok_is_whole (T : Txt K mg xa) : Callee P w K mg base (exOf mg) "is_whole" 1 s_is_whole 1 := by
  obtain ⟨fa, fd, F, hm, hb⟩ := T.f_is_whole
  exact ⟨fa, fd, _, fn_is_whole T F, hm, F.kp, hb⟩
theorem sc_is_marks : FnScope ["teeth", "thing", "mark", "one", "other"] ["teeth", "thing"] (defScope (topS 10)) := ⟨rfl, rfl, rfl, by decide +kernel, rfl, by decide +kernel, by decide +kernel⟩
set_option linter.unusedVariables false in
theorem fn_is_marks (T : Txt K mg xa) {fa : Addr} {fd : FuncData} (F : Fun K "is_marks" "is_marks" (topS 10) fa fd) : FnG P w K mg base 2 fa fd ["teeth", "thing"] (CT.spF K (exOf mg) 2 s_is_marks) := by
  have nd : (["teeth", "thing", "mark", "one", "other"] : List Str).Nodup := sc_is_marks.nd
  refine def_fn (k := 1) (N := ["teeth", "thing", "mark", "one", "other"]) (ps := ["teeth", "thing"]) F sc_is_marks fun cdv A outer s H E F0 hr hgd => ?_
  have hu64 : (A.deeper (envOfC "is_marks" (defScope (topS 10)) s.heap.objs.size fa cdv)).units + 64 < cLine := hr.units
  have hu65 : (A.deeper (envOfC "is_marks" (defScope (topS 10)) s.heap.objs.size fa cdv)).units + 65 < cLine := by have := hr.un; omega
  have pz := L2.passes_of (X := cxOf (L2.CX P w) P w K mg base ["teeth", "thing", "mark", "one", "other"] "is_marks" (defScope (topS 10)) fa cdv A outer s H E) rfl
  have tk : Takes (cxOf (L2.CX P w) P w K mg base ["teeth", "thing", "mark", "one", "other"] "is_marks" (defScope (topS 10)) fa cdv A outer s H E) (fun c d _ H' => E c d H') := takes_of rfl rfl rfl rfl
  exact (sss_cons (ss_if (st_w (sw_or (st_not (st_of (se_isi (T := "tuple") rfl T.b_isinstance rfl T.b_tuple PyProof.Rows.boot_tuple (se_var (pv 1))))) (sw_or1 (st_not (st_of (se_callB (c_all rfl) rfl T.b_all PyProof.Rows.boot_all (sa_cons (se_own (so_lc rfl nd (si_seq (se_var (pv 1))) (blkOk_by (own := [("mark", 2)]) (N := ["teeth", "thing", "mark", "one", "other"]) (sc := defScope (topS 10)) (by decide +kernel)) (ng_name (i := 2) (by simp)) (fun _ _ _ _ _ => (pg_name (i := 2) nd rfl (Or.inl rfl))) (fun _ _ _ _ _ => sts_nil) (fun _ _ _ _ _ => (se_and (se_call (ok_is_whole T) takes0 (hr.mono (by decide)) hgd rfl (sa_cons (se_var (pv 2)) sa_nil) rfl (aCons_len aNil_len)) (se_one (se_chain o_le o_lt se_int (se_var (pv 2)) (se_var (pv 0)))))))) sa_nil))))))) (sss_one (ss_ret se_bl)) sss_nil)
      (sss_one (ss_ret (se_callB (c_all rfl) rfl T.b_all PyProof.Rows.boot_all (sa_cons (se_own (so_lc rfl nd (si_zip rfl T.b_zip (sa_cons (se_var (pv 1)) (sa_cons (se_cut (se_var (pv 1)) (sp_so se_int) sp_no) sa_nil))) (blkOk_by (own := [("one", 3), ("other", 4)]) (N := ["teeth", "thing", "mark", "one", "other"]) (sc := defScope (topS 10)) (by decide +kernel)) (ng_tup (ngs_cons (ng_name (i := 3) (by simp)) (ngs_cons (ng_name (i := 4) (by simp)) ngs_nil))) (fun _ _ _ _ _ => (pg_tup rfl (pgs_cons (pg_name (i := 3) nd rfl (Or.inl rfl)) (pgs_cons (pg_name (i := 4) nd rfl (Or.inl rfl)) pgs_nil)))) (fun _ _ _ _ _ => sts_nil) (fun _ _ _ _ _ => (se_cmp o_lt (se_var (pv 3)) (se_var (pv 4)) (nomark _))))) sa_nil)))))
theorem ok_is_marks (T : Txt K mg xa) : Callee P w K mg base (exOf mg) "is_marks" 2 s_is_marks 2 := by
  obtain ⟨fa, fd, F, hm, hb⟩ := T.f_is_marks
  exact ⟨fa, fd, _, fn_is_marks T F, hm, F.kp, hb⟩
theorem sc_is_part : FnScope ["thing"] ["thing"] (defScope (topS 11)) := ⟨rfl, rfl, rfl, by decide +kernel, rfl, by decide +kernel, by decide +kernel⟩
set_option linter.unusedVariables false in
theorem fn_is_part (T : Txt K mg xa) {fa : Addr} {fd : FuncData} (F : Fun K "is_part" "is_part" (topS 11) fa fd) : FnG P w K mg base 3 fa fd ["thing"] (CT.spF K (exOf mg) 1 s_is_part) := by
  have nd : (["thing"] : List Str).Nodup := sc_is_part.nd
  refine def_fn (k := 2) (N := ["thing"]) (ps := ["thing"]) F sc_is_part fun cdv A outer s H E F0 hr hgd => ?_
  have hu64 : (A.deeper (envOfC "is_part" (defScope (topS 11)) s.heap.objs.size fa cdv)).units + 64 < cLine := hr.units
  have hu65 : (A.deeper (envOfC "is_part" (defScope (topS 11)) s.heap.objs.size fa cdv)).units + 65 < cLine := by have := hr.un; omega
  have pz := L2.passes_of (X := cxOf (L2.CX P w) P w K mg base ["thing"] "is_part" (defScope (topS 11)) fa cdv A outer s H E) rfl
  have tk : Takes (cxOf (L2.CX P w) P w K mg base ["thing"] "is_part" (defScope (topS 11)) fa cdv A outer s H E) (fun c d _ H' => E c d H') := takes_of rfl rfl rfl rfl
  exact (sss_cons (ss_if (st_w (sw_or (st_not (st_of (se_isi (T := "tuple") rfl T.b_isinstance rfl T.b_tuple PyProof.Rows.boot_tuple (se_var (pv 0))))) (sw_or (st_cmp (o_eq hu64) (se_var (pv 0)) (se_tup sa_nil) (nomark _)) (sw_or1 (st_not (st_of (se_isi (T := "str") rfl T.b_isinstance rfl T.b_str PyProof.Rows.boot_str (se_ix (se_var (pv 0)) se_int)))))))) (sss_one (ss_ret se_bl)) sss_nil)
      (sss_cons (ss_if (st_cmp (o_in hu65) (se_ix (se_var (pv 0)) se_int) (se_own (so_lst (sa_cons se_str (sa_cons se_str sa_nil)))) (by rfl)) (sss_one (ss_ret (se_cmp (o_eq hu64) (se_callB c_len rfl T.b_len PySem.boot_len (sa_cons (se_var (pv 0)) sa_nil)) se_int (nomark _)))) sss_nil)
      (sss_cons (ss_if (st_cmp (o_eq hu64) (se_ix (se_var (pv 0)) se_int) se_str (nomark _)) (sss_one (ss_ret (se_and (se_cmp (o_eq hu64) (se_callB c_len rfl T.b_len PySem.boot_len (sa_cons (se_var (pv 0)) sa_nil)) se_int (nomark _)) (se_and (se_call (ok_is_whole T) tk (hr.mono (by decide)) hgd rfl (sa_cons (se_ix (se_var (pv 0)) se_int) sa_nil) rfl (aCons_len aNil_len)) (se_one (se_cmp o_ge (se_ix (se_var (pv 0)) se_int) se_int (nomark _))))))) sss_nil)
      (sss_cons (ss_if (st_w (sw_or (st_cmp (o_ne hu64) (se_ix (se_var (pv 0)) se_int) se_str (nomark _)) (sw_or1 (st_cmp (o_ne hu64) (se_callB c_len rfl T.b_len PySem.boot_len (sa_cons (se_var (pv 0)) sa_nil)) se_int (nomark _))))) (sss_one (ss_ret se_bl)) sss_nil)
      (sss_one (ss_ret (se_and (se_call (ok_is_whole T) tk (hr.mono (by decide)) hgd rfl (sa_cons (se_ix (se_var (pv 0)) se_int) sa_nil) rfl (aCons_len aNil_len)) (se_and (se_cmp o_ge (se_ix (se_var (pv 0)) se_int) se_int (nomark _)) (se_one (se_call (ok_is_marks T) tk (hr.mono (by decide)) hgd rfl (sa_cons (se_ix (se_var (pv 0)) se_int) (sa_cons (se_ix (se_var (pv 0)) se_int) sa_nil)) rfl (aCons_len (aCons_len aNil_len))))))))))))
theorem ok_is_part (T : Txt K mg xa) : Callee P w K mg base (exOf mg) "is_part" 1 s_is_part 3 := by
  obtain ⟨fa, fd, F, hm, hb⟩ := T.f_is_part
  exact ⟨fa, fd, _, fn_is_part T F, hm, F.kp, hb⟩
theorem sc_check_train : FnScope ["train", "part"] ["train"] (defScope (topS 12)) := ⟨rfl, rfl, rfl, by decide +kernel, rfl, by decide +kernel, by decide +kernel⟩
set_option linter.unusedVariables false in
theorem fn_check_train (T : Txt K mg xa) {fa : Addr} {fd : FuncData} (F : Fun K "check_train" "check_train" (topS 12) fa fd) : FnG P w K mg base 4 fa fd ["train"] (CT.spF K (exOf mg) 1 s_check_train) := by
  have nd : (["train", "part"] : List Str).Nodup := sc_check_train.nd
  refine def_fn (k := 3) (N := ["train", "part"]) (ps := ["train"]) F sc_check_train fun cdv A outer s H E F0 hr hgd => ?_
  have hu64 : (A.deeper (envOfC "check_train" (defScope (topS 12)) s.heap.objs.size fa cdv)).units + 64 < cLine := hr.units
  have hu65 : (A.deeper (envOfC "check_train" (defScope (topS 12)) s.heap.objs.size fa cdv)).units + 65 < cLine := by have := hr.un; omega
  have pz := L2.passes_of (X := cxOf (L2.CX P w) P w K mg base ["train", "part"] "check_train" (defScope (topS 12)) fa cdv A outer s H E) rfl
  have tk : Takes (cxOf (L2.CX P w) P w K mg base ["train", "part"] "check_train" (defScope (topS 12)) fa cdv A outer s H E) (fun c d _ H' => E c d H') := takes_of rfl rfl rfl rfl
  exact (sss_one (ss_if (st_w (sw_or (st_not (st_of (se_isi (T := "list") rfl T.b_isinstance rfl T.b_list PyProof.Rows.boot_list (se_var (pv 0))))) (sw_or (st_cmp (o_eq hu64) (se_var (pv 0)) (se_own (so_lst sa_nil)) (nomark _)) (sw_or1 (st_not (st_of (se_callB (c_all rfl) rfl T.b_all PyProof.Rows.boot_all (sa_cons (se_own (so_lc rfl nd (si_seq (se_var (pv 0))) (blkOk_by (own := [("part", 1)]) (N := ["train", "part"]) (sc := defScope (topS 12)) (by decide +kernel)) (ng_name (i := 1) (by simp)) (fun _ _ _ _ _ => (pg_name (i := 1) nd rfl (Or.inl rfl))) (fun _ _ _ _ _ => sts_nil) (fun _ _ _ _ _ => (se_call (ok_is_part T) takes0 (hr.mono (by decide)) hgd rfl (sa_cons (se_var (pv 1)) sa_nil) rfl (aCons_len aNil_len))))) sa_nil)))))))) (sss_one (ss_raise rfl tk T.x_NoTrain rfl)) sss_nil))
theorem ok_check_train (T : Txt K mg xa) : Callee P w K mg base (exOf mg) "check_train" 1 s_check_train 4 := by
  obtain ⟨fa, fd, F, hm, hb⟩ := T.f_check_train
  exact ⟨fa, fd, _, fn_check_train T F, hm, F.kp, hb⟩
theorem sc_sure : FnScope ["good"] ["good"] (defScope (topS 16)) := ⟨rfl, rfl, rfl, by decide +kernel, rfl, by decide +kernel, by decide +kernel⟩
set_option linter.unusedVariables false in
theorem fn_sure (T : Txt K mg xa) {fa : Addr} {fd : FuncData} (F : Fun K "sure" "sure" (topS 16) fa fd) : FnG P w K mg base 1 fa fd ["good"] (CT.spF K (exOf mg) 1 s_sure) := by
  have nd : (["good"] : List Str).Nodup := sc_sure.nd
  refine def_fn (k := 0) (N := ["good"]) (ps := ["good"]) F sc_sure fun cdv A outer s H E F0 hr hgd => ?_
  have hu64 : (A.deeper (envOfC "sure" (defScope (topS 16)) s.heap.objs.size fa cdv)).units + 64 < cLine := hr.units
  have hu65 : (A.deeper (envOfC "sure" (defScope (topS 16)) s.heap.objs.size fa cdv)).units + 65 < cLine := by have := hr.un; omega
  have pz := L2.passes_of (X := cxOf (L2.CX P w) P w K mg base ["good"] "sure" (defScope (topS 16)) fa cdv A outer s H E) rfl
  have tk : Takes (cxOf (L2.CX P w) P w K mg base ["good"] "sure" (defScope (topS 16)) fa cdv A outer s H E) (fun c d _ H' => E c d H') := takes_of rfl rfl rfl rfl
  exact (sss_one (ss_if (st_not (st_of (se_var (pv 0)))) (sss_one (ss_raise rfl tk T.x_NoText rfl)) sss_nil))
theorem ok_sure (T : Txt K mg xa) : Callee P w K mg base (exOf mg) "sure" 1 s_sure 1 := by
  obtain ⟨fa, fd, F, hm, hb⟩ := T.f_sure
  exact ⟨fa, fd, _, fn_sure T F, hm, F.kp, hb⟩
theorem sc_count_in : FnScope ["word", "sign"] ["word"] (defScope (topS 17)) := ⟨rfl, rfl, rfl, by decide +kernel, rfl, by decide +kernel, by decide +kernel⟩
set_option linter.unusedVariables false in
theorem fn_count_in (T : Txt K mg xa) {fa : Addr} {fd : FuncData} (F : Fun K "count_in" "count_in" (topS 17) fa fd) : FnG P w K mg base 2 fa fd ["word"] (CT.spF K (exOf mg) 1 s_count_in) := by
  have nd : (["word", "sign"] : List Str).Nodup := sc_count_in.nd
  refine def_fn (k := 1) (N := ["word", "sign"]) (ps := ["word"]) F sc_count_in fun cdv A outer s H E F0 hr hgd => ?_
  have hu64 : (A.deeper (envOfC "count_in" (defScope (topS 17)) s.heap.objs.size fa cdv)).units + 64 < cLine := hr.units
  have hu65 : (A.deeper (envOfC "count_in" (defScope (topS 17)) s.heap.objs.size fa cdv)).units + 65 < cLine := by have := hr.un; omega
  have pz := L2.passes_of (X := cxOf (L2.CX P w) P w K mg base ["word", "sign"] "count_in" (defScope (topS 17)) fa cdv A outer s H E) rfl
  have tk : Takes (cxOf (L2.CX P w) P w K mg base ["word", "sign"] "count_in" (defScope (topS 17)) fa cdv A outer s H E) (fun c d _ H' => E c d H') := takes_of rfl rfl rfl rfl
  exact (sss_cons (ss_exp (se_call (ok_sure T) tk (hr.mono (by decide)) hgd rfl (sa_cons (se_and (se_chain o_le o_le se_int (se_callB c_len rfl T.b_len PySem.boot_len (sa_cons (se_var (pv 0)) sa_nil)) (se_glob rfl T.c_LONGEST (d := .int 40) (fun _ _ _ _ => .int _))) (se_one (se_callB (c_all rfl) rfl T.b_all PyProof.Rows.boot_all (sa_cons (se_own (so_lc rfl nd (si_seq (se_var (pv 0))) (blkOk_by (own := [("sign", 1)]) (N := ["word", "sign"]) (sc := defScope (topS 17)) (by decide +kernel)) (ng_name (i := 1) (by simp)) (fun _ _ _ _ _ => (pg_name (i := 1) nd rfl (Or.inl rfl))) (fun _ _ _ _ _ => sts_nil) (fun _ _ _ _ _ => (se_cmp (o_in hu65) (se_var (pv 1)) (se_glob rfl T.c_FIGURES (d := .str "0123456789") (fun _ _ _ _ => .str _)) (by rfl))))) sa_nil)))) sa_nil) rfl (aCons_len aNil_len)))
      (sss_cons (ss_exp (se_call (ok_sure T) tk (hr.mono (by decide)) hgd rfl (sa_cons (se_or (se_cmp (o_ne hu64) (se_ix (se_var (pv 0)) se_int) se_str (nomark _)) (se_one (se_cmp (o_eq hu64) (se_var (pv 0)) se_str (nomark _)))) sa_nil) rfl (aCons_len aNil_len)))
      (sss_one (ss_ret (se_callTy c_intA rfl T.b_int PyProof.Rows.boot_int (sa_cons (se_var (pv 0)) sa_nil))))))
theorem ok_count_in (T : Txt K mg xa) : Callee P w K mg base (exOf mg) "count_in" 1 s_count_in 2 := by
  obtain ⟨fa, fd, F, hm, hb⟩ := T.f_count_in
  exact ⟨fa, fd, _, fn_count_in T F, hm, F.kp, hb⟩
theorem sc_part_in : FnScope ["word", "teeth", "colon", "marks", "told", "mark"] ["word"] (defScope (topS 19)) := ⟨rfl, rfl, rfl, by decide +kernel, rfl, by decide +kernel, by decide +kernel⟩
set_option linter.unusedVariables false in
theorem fn_part_in (T : Txt K mg xa) {fa : Addr} {fd : FuncData} (F : Fun K "part_in" "part_in" (topS 19) fa fd) : FnG P w K mg base 3 fa fd ["word"] (CT.spF K (exOf mg) 1 s_part_in) := by
  have nd : (["word", "teeth", "colon", "marks", "told", "mark"] : List Str).Nodup := sc_part_in.nd
  refine def_fn (k := 2) (N := ["word", "teeth", "colon", "marks", "told", "mark"]) (ps := ["word"]) F sc_part_in fun cdv A outer s H E F0 hr hgd => ?_
  have hu64 : (A.deeper (envOfC "part_in" (defScope (topS 19)) s.heap.objs.size fa cdv)).units + 64 < cLine := hr.units
  have hu65 : (A.deeper (envOfC "part_in" (defScope (topS 19)) s.heap.objs.size fa cdv)).units + 65 < cLine := by have := hr.un; omega
  have pz := L2.passes_of (X := cxOf (L2.CX P w) P w K mg base ["word", "teeth", "colon", "marks", "told", "mark"] "part_in" (defScope (topS 19)) fa cdv A outer s H E) rfl
  have tk : Takes (cxOf (L2.CX P w) P w K mg base ["word", "teeth", "colon", "marks", "told", "mark"] "part_in" (defScope (topS 19)) fa cdv A outer s H E) (fun c d _ H' => E c d H') := takes_of rfl rfl rfl rfl
  exact (sss_cons (ss_if (st_w (sw_or (st_cmp (o_eq hu64) (se_var (pv 0)) se_str (nomark _)) (sw_or1 (st_cmp (o_eq hu64) (se_var (pv 0)) se_str (nomark _))))) (sss_one (ss_ret (se_ix (se_own (so_lst (sa_cons (se_tup (sa_cons se_str sa_nil)) (sa_cons (se_tup (sa_cons se_str sa_nil)) sa_nil)))) (se_callTy c_int rfl T.b_int PyProof.Rows.boot_int (sa_cons (se_cmp (o_eq hu64) (se_var (pv 0)) se_str (nomark _)) sa_nil))))) sss_nil)
      (sss_cons (ss_if (st_cmp (o_eq hu64) (se_cut (se_var (pv 0)) sp_no (sp_so se_int)) se_str (nomark _)) (sss_one (ss_ret (se_tup (sa_cons se_str (sa_cons (se_call (ok_count_in T) tk (hr.mono (by decide)) hgd rfl (sa_cons (se_cut (se_var (pv 0)) (sp_so se_int) sp_no) sa_nil) rfl (aCons_len aNil_len)) sa_nil))))) sss_nil)
      (sss_cons (ss_asg (se_partition (se_cut (se_var (pv 0)) (sp_so se_int) sp_no) se_str) (pg_tup rfl (pgs_cons (pg_name (i := 1) nd rfl (by first | exact Or.inl rfl | exact Or.inr rfl)) (pgs_cons (pg_name (i := 2) nd rfl (by first | exact Or.inl rfl | exact Or.inr rfl)) (pgs_cons (pg_name (i := 3) nd rfl (by first | exact Or.inl rfl | exact Or.inr rfl)) pgs_nil)))) (tg_tup (tgs_cons tg_name (tgs_cons tg_name (tgs_cons tg_name tgs_nil)))))
      (sss_cons (ss_exp (se_call (ok_sure T) tk (hr.mono (by decide)) hgd rfl (sa_cons (se_and (se_cmp (o_eq hu64) (se_cut (se_var (pv 0)) sp_no (sp_so se_int)) se_str (nomark _)) (se_one (se_cmp (o_eq hu64) (se_var (pv 2)) se_str (nomark _)))) sa_nil) rfl (aCons_len aNil_len)))
      (sss_cons (ss_set (i := 4) nd rfl (by first | exact Or.inl rfl | exact Or.inr rfl) (se_tup sa_nil))
      (sss_cons (ss_if (st_cmp (o_ne hu64) (se_var (pv 3)) se_str (nomark _)) (sss_one (ss_set (i := 4) nd rfl (by first | exact Or.inl rfl | exact Or.inr rfl) (se_callTy c_tuple rfl T.b_tuple PyProof.Rows.boot_tuple (sa_cons (se_own (so_lc rfl nd (si_seq (se_own (so_split (se_var (pv 3)) se_str))) (blkOk_by (own := [("mark", 5)]) (N := ["word", "teeth", "colon", "marks", "told", "mark"]) (sc := defScope (topS 19)) (by decide +kernel)) (ng_name (i := 5) (by simp)) (fun _ _ _ _ _ => (pg_name (i := 5) nd rfl (Or.inl rfl))) (fun _ _ _ _ _ => sts_nil) (fun _ _ _ _ _ => (se_call (ok_count_in T) takes0 (hr.mono (by decide)) hgd rfl (sa_cons (se_var (pv 5)) sa_nil) rfl (aCons_len aNil_len))))) sa_nil)))) sss_nil)
      (sss_one (ss_ret (se_tup (sa_cons se_str (sa_cons (se_call (ok_count_in T) tk (hr.mono (by decide)) hgd rfl (sa_cons (se_var (pv 1)) sa_nil) rfl (aCons_len aNil_len)) (sa_cons (se_var (pv 4)) sa_nil))))))))))))
theorem ok_part_in (T : Txt K mg xa) : Callee P w K mg base (exOf mg) "part_in" 1 s_part_in 3 := by
  obtain ⟨fa, fd, F, hm, hb⟩ := T.f_part_in
  exact ⟨fa, fd, _, fn_part_in T F, hm, F.kp, hb⟩
theorem sc_read_train : FnScope ["text", "train", "word"] ["text"] (defScope (topS 21)) := ⟨rfl, rfl, rfl, by decide +kernel, rfl, by decide +kernel, by decide +kernel⟩
set_option linter.unusedVariables false in
theorem fn_read_train (T : Txt K mg xa) {fa : Addr} {fd : FuncData} (F : Fun K "read_train" "read_train" (topS 21) fa fd) : FnG P w K mg base 5 fa fd ["text"] (CT.spF K (exOf mg) 1 s_read_train) := by
  have nd : (["text", "train", "word"] : List Str).Nodup := sc_read_train.nd
  refine def_fn (k := 4) (N := ["text", "train", "word"]) (ps := ["text"]) F sc_read_train fun cdv A outer s H E F0 hr hgd => ?_
  have hu64 : (A.deeper (envOfC "read_train" (defScope (topS 21)) s.heap.objs.size fa cdv)).units + 64 < cLine := hr.units
  have hu65 : (A.deeper (envOfC "read_train" (defScope (topS 21)) s.heap.objs.size fa cdv)).units + 65 < cLine := by have := hr.un; omega
  have pz := L2.passes_of (X := cxOf (L2.CX P w) P w K mg base ["text", "train", "word"] "read_train" (defScope (topS 21)) fa cdv A outer s H E) rfl
  have tk : Takes (cxOf (L2.CX P w) P w K mg base ["text", "train", "word"] "read_train" (defScope (topS 21)) fa cdv A outer s H E) (fun c d _ H' => E c d H') := takes_of rfl rfl rfl rfl
  exact (sss_cons (ss_setLcO (i := 1) rfl nd rfl rfl (sw_true rfl rfl rfl (by decide +kernel)) (si_seq (se_own (so_split (se_var (pv 0)) se_str))) (blkOk_by (own := [("word", 2)]) (N := ["text", "train", "word"]) (sc := defScope (topS 21)) (by decide +kernel)) (ng_name (i := 2) (by simp)) (fun _ _ _ _ _ => (pg_name (i := 2) nd rfl (Or.inl rfl))) (fun _ _ _ _ _ => sts_nil) (fun _ _ _ _ _ => (se_call (ok_part_in T) takes0 (hr.mono (by decide)) hgd rfl (sa_cons (se_var (pv 2)) sa_nil) rfl (aCons_len aNil_len))))
      (sss_cons (ss_exp (se_call (ok_check_train T) tk (hr.mono (by decide)) hgd rfl (sa_cons (se_var (pv 1)) sa_nil) rfl (aCons_len aNil_len)))
      (sss_one (ss_retV (pv 1)))))
theorem ok_read_train (T : Txt K mg xa) : Callee P w K mg base (exOf mg) "read_train" 1 s_read_train 5 := by
  obtain ⟨fa, fd, F, hm, hb⟩ := T.f_read_train
  exact ⟨fa, fd, _, fn_read_train T F, hm, F.kp, hb⟩
theorem sc_law_draws : FnScope ["_law_cell"] ["_law_cell"] (defScope (topS 25)) := ⟨rfl, rfl, rfl, by decide +kernel, rfl, by decide +kernel, by decide +kernel⟩
set_option linter.unusedVariables false in
theorem fn_law_draws (T : Txt K mg xa) {fa : Addr} {fd : FuncData} (F : Fun K "_law_draws" "_law_draws" (topS 25) fa fd) : FnG P w K mg base 1 fa fd ["_law_cell"] (CT.spF K (exOf mg) 1 s_law_draws) := by
  have nd : (["_law_cell"] : List Str).Nodup := sc_law_draws.nd
  refine def_fn (k := 0) (N := ["_law_cell"]) (ps := ["_law_cell"]) F sc_law_draws fun cdv A outer s H E F0 hr hgd => ?_
  have hu64 : (A.deeper (envOfC "_law_draws" (defScope (topS 25)) s.heap.objs.size fa cdv)).units + 64 < cLine := hr.units
  have hu65 : (A.deeper (envOfC "_law_draws" (defScope (topS 25)) s.heap.objs.size fa cdv)).units + 65 < cLine := by have := hr.un; omega
  have pz := L2.passes_of (X := cxOf (L2.CX P w) P w K mg base ["_law_cell"] "_law_draws" (defScope (topS 25)) fa cdv A outer s H E) rfl
  have tk : Takes (cxOf (L2.CX P w) P w K mg base ["_law_cell"] "_law_draws" (defScope (topS 25)) fa cdv A outer s H E) (fun c d _ H' => E c d H') := takes_of rfl rfl rfl rfl
  exact (sss_cons (ss_if (st_cmp o_lt (se_var (pv 0)) (se_bin o_pow se_int se_int) (nomark _)) (sss_one (ss_retO (so_lst (sa_cons (se_var (pv 0)) (sa_cons se_int (sa_cons se_bl sa_nil)))))) sss_nil)
      (sss_one (ss_retO (so_lst (sa_cons (se_bin o_mod (se_var (pv 0)) (se_bin o_pow (se_bin o_pow (se_bin o_pow se_int se_int) se_int) se_int)) (sa_cons se_int (sa_cons se_bl sa_nil)))))))
theorem ok_law_draws (T : Txt K mg xa) : Callee P w K mg base (exOf mg) "_law_draws" 1 s_law_draws 1 := by
  obtain ⟨fa, fd, F, hm, hb⟩ := T.f_law_draws
  exact ⟨fa, fd, _, fn_law_draws T F, hm, F.kp, hb⟩
theorem sc_law_next : FnScope ["_law_draws_here", "_law_k", "_law_number_here"] ["_law_draws_here"] (defScope (topS 26)) := ⟨rfl, rfl, rfl, by decide +kernel, rfl, by decide +kernel, by decide +kernel⟩
set_option linter.unusedVariables false in
theorem fn_law_next (T : Txt K mg xa) {fa : Addr} {fd : FuncData} (F : Fun K "_law_next" "_law_next" (topS 26) fa fd) : FnG P w K mg base 1 fa fd ["_law_draws_here"] (CT.spL K 0 s_law_next) := by
  have nd : (["_law_draws_here", "_law_k", "_law_number_here"] : List Str).Nodup := sc_law_next.nd
  refine def_fnL (k := 0) (N := ["_law_draws_here", "_law_k", "_law_number_here"]) (ps := ["_law_draws_here"]) (n := 0) (ex := exOf mg) F sc_law_next rfl fun cdv A outer s H E F0 H0 hr hgd => ?_
  have hu64 : (A.deeper (envOfC "_law_next" (defScope (topS 26)) s.heap.objs.size fa cdv)).units + 64 < cLine := hr.units
  have hu65 : (A.deeper (envOfC "_law_next" (defScope (topS 26)) s.heap.objs.size fa cdv)).units + 65 < cLine := by have := hr.un; omega
  have pz := L2.passes_of (X := (cxOf (L2.CX P w) P w K mg base ["_law_draws_here", "_law_k", "_law_number_here"] "_law_next" (defScope (topS 26)) fa cdv A outer s H E)) rfl
  have tk : Takes (cxOf (L2.CX P w) P w K mg base ["_law_draws_here", "_law_k", "_law_number_here"] "_law_next" (defScope (topS 26)) fa cdv A outer s H E) (fun c d _ H' => E c d H') := takes_of rfl rfl rfl rfl
  exact (sb_cons (W := fun c d _ H' => E c d H') (ss_asg (se_bin o_add (se_lk (k := 1) (pv 0)) se_int) (pg_sub (pv 0) (se_int (W := WF)) set_list) (tg_subL (W := WF) (k := 1) (f := eC (.int 1)) fun _ => rfl))
      (sb_cons (W := fun c d _ H' => E c d H') (ss_set (i := 1) nd rfl (by first | exact Or.inl rfl | exact Or.inr rfl) (se_lk (k := 1) (pv 0)))
      (sb_if (W := fun c d _ H' => E c d H') (st_of (se_lk (k := 2) (pv 0))) (sb_cons (W := fun c d _ H' => E c d H') (ss_set (i := 2) nd rfl (by first | exact Or.inl rfl | exact Or.inr rfl) (se_bin o_mod (se_lk (k := 0) (pv 0)) (se_bin o_pow se_int se_int)))
      (sb_cons (W := fun c d _ H' => E c d H') (ss_asg (se_bin o_div (se_lk (k := 0) (pv 0)) (se_bin o_pow se_int se_int)) (pg_sub (pv 0) (se_int (W := WF)) set_list) (tg_subL (W := WF) (k := 0) (f := eC (.int 0)) fun _ => rfl))
      (sb_ret (W := fun c d _ H' => E c d H') (se_var (pv 2)))))
      (sb_cons (W := fun c d _ H' => E c d H') (ss_set (i := 2) nd rfl (by first | exact Or.inl rfl | exact Or.inr rfl) (se_bin o_mod (se_bin o_mul (se_bin o_add (se_bin o_add (se_bin o_mod (se_lk (k := 0) (pv 0)) se_int) (se_bin o_mul (se_bin o_mul (se_var (pv 1)) (se_var (pv 1))) se_int)) (se_var (pv 1))) se_int) se_int))
      (sb_cons (W := fun c d _ H' => E c d H') (ss_set (i := 2) nd rfl (by first | exact Or.inl rfl | exact Or.inr rfl) (se_bin o_mod (se_bin o_mul (se_var (pv 2)) (se_var (pv 2))) se_int))
      (sb_ret (W := fun c d _ H' => E c d H') (se_bin o_div (se_bin o_mod (se_bin o_mul (se_var (pv 2)) (se_bin o_add (se_var (pv 2)) se_int)) se_int) se_int)))))))
theorem ok_law_next (T : Txt K mg xa) : CalleeL P w K mg base "_law_next" 0 s_law_next 1 := by
  obtain ⟨fa, fd, F, hm, hb⟩ := T.f_law_next
  exact ⟨fa, fd, _, fn_law_next T F, hm, F.kp, hb⟩
theorem sc_law_number : FnScope ["_law_draws_here", "_law_wide", "_law_number_here", "_law_turn"] ["_law_draws_here"] (defScope (topS 28)) := ⟨rfl, rfl, rfl, by decide +kernel, rfl, by decide +kernel, by decide +kernel⟩
set_option linter.unusedVariables false in
theorem fn_law_number (T : Txt K mg xa) {fa : Addr} {fd : FuncData} (F : Fun K "_law_number" "_law_number" (topS 28) fa fd) : FnG P w K mg base 2 fa fd ["_law_draws_here"] (CT.spL K 0 s_law_number) := by
  have nd : (["_law_draws_here", "_law_wide", "_law_number_here", "_law_turn"] : List Str).Nodup := sc_law_number.nd
  refine def_fnL (k := 1) (N := ["_law_draws_here", "_law_wide", "_law_number_here", "_law_turn"]) (ps := ["_law_draws_here"]) (n := 0) (ex := exOf mg) F sc_law_number rfl fun cdv A outer s H E F0 H0 hr hgd => ?_
  have hu64 : (A.deeper (envOfC "_law_number" (defScope (topS 28)) s.heap.objs.size fa cdv)).units + 64 < cLine := hr.units
  have hu65 : (A.deeper (envOfC "_law_number" (defScope (topS 28)) s.heap.objs.size fa cdv)).units + 65 < cLine := by have := hr.un; omega
  have pz := L2.passes_of (X := (cxOf (L2.CX P w) P w K mg base ["_law_draws_here", "_law_wide", "_law_number_here", "_law_turn"] "_law_number" (defScope (topS 28)) fa cdv A outer s H E)) rfl
  have tk : Takes (cxOf (L2.CX P w) P w K mg base ["_law_draws_here", "_law_wide", "_law_number_here", "_law_turn"] "_law_number" (defScope (topS 28)) fa cdv A outer s H E) (fun c d _ H' => E c d H') := takes_of rfl rfl rfl rfl
  exact (sb_cons (W := fun c d _ H' => E c d H') (ss_setX (i := 1) nd rfl (by first | exact Or.inl rfl | exact Or.inr rfl) (sx_bin (W := WF) o_mod (sx_callL (i := 0) (ok_law_next T) tk (hr.mono (by decide)) hgd rfl (pv 0) sxa_nil xaNil_len) (sx_of (W := fun c d _ H' => E c d H') se_int)))
      (sb_cons (W := fun c d _ H' => E c d H') (ss_setX (i := 2) nd rfl (by first | exact Or.inl rfl | exact Or.inr rfl) (sx_bin (W := WF) o_mod (sx_callL (i := 0) (ok_law_next T) tk (hr.mono (by decide)) hgd rfl (pv 0) sxa_nil xaNil_len) (sx_of (W := fun c d _ H' => E c d H') (se_ix (se_own (so_lst (sa_cons se_int (sa_cons se_int (sa_cons se_int (sa_cons (se_bin o_pow se_int se_int) sa_nil)))))) (se_var (pv 1))))))
      (sb_cons (W := fun c d _ H' => E c d H') (ss_ifX (sxt_cmp (o_eq hu64) (sx_bin (W := WF) o_mod (sx_callL (i := 0) (ok_law_next T) tk (hr.mono (by decide)) hgd rfl (pv 0) sxa_nil xaNil_len) (sx_of (W := fun c d _ H' => E c d H') se_int)) (sx_of (W := fun c d _ H' => E c d H') se_int) (nomark _)) (sss_cons (ss_for (vs := [3]) pz rfl (si_rng1 rfl T.b_range (sa_cons se_int sa_nil)) (pg_name (i := 3) nd rfl (by first | exact Or.inl rfl | exact Or.inr rfl)) (ng_name (i := 3) (by simp)) (sss_one (ss_setX (i := 2) nd rfl (by first | exact Or.inl rfl | exact Or.inr rfl) (sx_bin (W := WF) o_add (sx_of (W := fun c d _ H' => E c d H') (se_bin o_mul (se_var (pv 2)) (se_bin o_pow se_int se_int))) (sx_bin (W := WF) o_mod (sx_callL (i := 0) (ok_law_next T) tk (hr.mono (by decide)) hgd rfl (pv 0) sxa_nil xaNil_len) (sx_of (W := fun c d _ H' => E c d H') (se_bin o_pow se_int se_int)))))))
      (sss_one (ss_set (i := 2) nd rfl (by first | exact Or.inl rfl | exact Or.inr rfl) (se_bin o_mod (se_var (pv 2)) (se_bin o_pow se_int se_int))))) sss_nil)
      (sb_ret (W := fun c d _ H' => E c d H') (se_var (pv 2))))))
theorem ok_law_number (T : Txt K mg xa) : CalleeL P w K mg base "_law_number" 0 s_law_number 2 := by
  obtain ⟨fa, fd, F, hm, hb⟩ := T.f_law_number
  exact ⟨fa, fd, _, fn_law_number T F, hm, F.kp, hb⟩
theorem sc_law_rising : FnScope ["_law_draws_here", "_law_many", "_law_found", "_law_here", "_law_k"] ["_law_draws_here", "_law_many"] (defScope (topS 29)) := ⟨rfl, rfl, rfl, by decide +kernel, rfl, by decide +kernel, by decide +kernel⟩
set_option linter.unusedVariables false in
theorem fn_law_rising (T : Txt K mg xa) {fa : Addr} {fd : FuncData} (F : Fun K "_law_rising" "_law_rising" (topS 29) fa fd) : FnG P w K mg base 3 fa fd ["_law_draws_here", "_law_many"] (CT.spL K 1 s_law_rising) := by
  have nd : (["_law_draws_here", "_law_many", "_law_found", "_law_here", "_law_k"] : List Str).Nodup := sc_law_rising.nd
  refine def_fnL (k := 2) (N := ["_law_draws_here", "_law_many", "_law_found", "_law_here", "_law_k"]) (ps := ["_law_draws_here", "_law_many"]) (n := 1) (ex := exOf mg) F sc_law_rising rfl fun cdv A outer s H E F0 H0 hr hgd => ?_
  have hu64 : (A.deeper (envOfC "_law_rising" (defScope (topS 29)) s.heap.objs.size fa cdv)).units + 64 < cLine := hr.units
  have hu65 : (A.deeper (envOfC "_law_rising" (defScope (topS 29)) s.heap.objs.size fa cdv)).units + 65 < cLine := by have := hr.un; omega
  have pz := L2.passes_of (X := (cxOf (L2.CX P w) P w K mg base ["_law_draws_here", "_law_many", "_law_found", "_law_here", "_law_k"] "_law_rising" (defScope (topS 29)) fa cdv A outer s H E)) rfl
  have tk : Takes (cxOf (L2.CX P w) P w K mg base ["_law_draws_here", "_law_many", "_law_found", "_law_here", "_law_k"] "_law_rising" (defScope (topS 29)) fa cdv A outer s H E) (fun c d _ H' => E c d H') := takes_of rfl rfl rfl rfl
  exact (sb_cons (W := fun c d _ H' => E c d H') (ss_setO (i := 2) nd rfl (by first | exact Or.inl rfl | exact Or.inr rfl) (so_lst sa_nil))
      (sb_cons (W := fun c d _ H' => E c d H') (ss_set (i := 3) nd rfl (by first | exact Or.inl rfl | exact Or.inr rfl) (se_bin o_sub se_int se_int))
      (sb_cons (W := fun c d _ H' => E c d H') (ss_forX (vs := [4]) pz rfl (six_rng1 rfl T.b_range (sxa_cons (sx_bin (W := WF) o_mod (sx_callL (i := 0) (ok_law_next T) tk (hr.mono (by decide)) hgd rfl (pv 0) sxa_nil xaNil_len) (sx_of (W := fun c d _ H' => E c d H') (se_var (pv 1)))) sxa_nil)) (pg_name (i := 4) nd rfl (by first | exact Or.inl rfl | exact Or.inr rfl)) (ng_name (i := 4) (by simp)) (sss_cons (ss_setX (i := 3) nd rfl (by first | exact Or.inl rfl | exact Or.inr rfl) (sx_bin (W := WF) o_add (sx_of (W := fun c d _ H' => E c d H') (se_bin o_add (se_var (pv 3)) se_int)) (sx_bin (W := WF) o_mod (sx_callL (i := 0) (ok_law_number T) tk (hr.mono (by decide)) hgd rfl (pv 0) sxa_nil xaNil_len) (sx_of (W := fun c d _ H' => E c d H') (se_bin o_pow se_int se_int)))))
      (sss_one (ss_app (pv 2) (se_var (pv 3))))))
      (sb_ret (W := fun c d _ H' => E c d H') (se_callTy c_tuple rfl T.b_tuple PyProof.Rows.boot_tuple (sa_cons (se_var (pv 2)) sa_nil))))))
theorem ok_law_rising (T : Txt K mg xa) : CalleeL P w K mg base "_law_rising" 1 s_law_rising 3 := by
  obtain ⟨fa, fd, F, hm, hb⟩ := T.f_law_rising
  exact ⟨fa, fd, _, fn_law_rising T F, hm, F.kp, hb⟩
theorem sc_law_part : FnScope ["_law_draws_here", "_law_most", "_law_way", "_law_marks"] ["_law_draws_here", "_law_most"] (defScope (topS 30)) := ⟨rfl, rfl, rfl, by decide +kernel, rfl, by decide +kernel, by decide +kernel⟩
set_option linter.unusedVariables false in
theorem fn_law_part (T : Txt K mg xa) {fa : Addr} {fd : FuncData} (F : Fun K "_law_part" "_law_part" (topS 30) fa fd) : FnG P w K mg base 4 fa fd ["_law_draws_here", "_law_most"] (CT.spL K 1 s_law_part_5) := by
  have nd : (["_law_draws_here", "_law_most", "_law_way", "_law_marks"] : List Str).Nodup := sc_law_part.nd
  refine def_fnL (k := 3) (N := ["_law_draws_here", "_law_most", "_law_way", "_law_marks"]) (ps := ["_law_draws_here", "_law_most"]) (n := 1) (ex := exOf mg) F sc_law_part rfl fun cdv A outer s H E F0 H0 hr hgd => ?_
  have hu64 : (A.deeper (envOfC "_law_part" (defScope (topS 30)) s.heap.objs.size fa cdv)).units + 64 < cLine := hr.units
  have hu65 : (A.deeper (envOfC "_law_part" (defScope (topS 30)) s.heap.objs.size fa cdv)).units + 65 < cLine := by have := hr.un; omega
  have pz := L2.passes_of (X := (cxOf (L2.CX P w) P w K mg base ["_law_draws_here", "_law_most", "_law_way", "_law_marks"] "_law_part" (defScope (topS 30)) fa cdv A outer s H E)) rfl
  have tk : Takes (cxOf (L2.CX P w) P w K mg base ["_law_draws_here", "_law_most", "_law_way", "_law_marks"] "_law_part" (defScope (topS 30)) fa cdv A outer s H E) (fun c d _ H' => E c d H') := takes_of rfl rfl rfl rfl
  exact (sb_cons (W := fun c d _ H' => E c d H') (ss_setX (i := 2) nd rfl (by first | exact Or.inl rfl | exact Or.inr rfl) (sx_bin (W := WF) o_mod (sx_callL (i := 0) (ok_law_next T) tk (hr.mono (by decide)) hgd rfl (pv 0) sxa_nil xaNil_len) (sx_of (W := fun c d _ H' => E c d H') se_int)))
      (sb_if (W := fun c d _ H' => E c d H') (st_cmp o_lt (se_var (pv 2)) se_int (nomark _)) (sb_cons (W := fun c d _ H' => E c d H') (ss_setX (i := 3) nd rfl (by first | exact Or.inl rfl | exact Or.inr rfl) (sx_callL (i := 0) (ok_law_rising T) tk (hr.mono (by decide)) hgd rfl (pv 0) (sxa_cons (sx_of (W := fun c d _ H' => E c d H') (se_var (pv 1))) sxa_nil) (xaCons_len xaNil_len)))
      (sb_retX (sx_tup (sxa_cons (sx_of (W := fun c d _ H' => E c d H') se_str) (sxa_cons (sx_bin (W := WF) o_add (sx_of (W := fun c d _ H' => E c d H') (se_bin o_add (se_callB (c_maxT rfl) rfl T.b_max PyProof.Rows.boot_max (sa_cons (se_bin o_add (se_tup (sa_cons se_int sa_nil)) (se_var (pv 3))) sa_nil)) se_int)) (sx_bin (W := WF) o_mod (sx_callL (i := 0) (ok_law_next T) tk (hr.mono (by decide)) hgd rfl (pv 0) sxa_nil xaNil_len) (sx_of (W := fun c d _ H' => E c d H') se_int))) (sxa_cons (sx_of (W := fun c d _ H' => E c d H') (se_var (pv 3))) sxa_nil))))))
      (sb_retX (sx_ix (sx_lst (sxa_cons (sx_of (W := fun c d _ H' => E c d H') (se_tup (sa_cons se_str sa_nil))) (sxa_cons (sx_of (W := fun c d _ H' => E c d H') (se_tup (sa_cons se_str sa_nil))) (sxa_cons (sx_tup (sxa_cons (sx_of (W := fun c d _ H' => E c d H') se_str) (sxa_cons (sx_bin (W := WF) o_add (sx_of (W := fun c d _ H' => E c d H') se_int) (sx_bin (W := WF) o_mod (sx_callL (i := 0) (ok_law_number T) tk (hr.mono (by decide)) hgd rfl (pv 0) sxa_nil xaNil_len) (sx_of (W := fun c d _ H' => E c d H') (se_bin o_sub (se_bin o_pow se_int se_int) se_int)))) sxa_nil))) sxa_nil)))) (sx_of (W := fun c d _ H' => E c d H') (se_bin o_sub (se_var (pv 2)) se_int))))))
theorem ok_law_part (T : Txt K mg xa) : CalleeL P w K mg base "_law_part" 1 s_law_part_5 4 := by
  obtain ⟨fa, fd, F, hm, hb⟩ := T.f_law_part
  exact ⟨fa, fd, _, fn_law_part T F, hm, F.kp, hb⟩
theorem sc_law_train : FnScope ["_law_draws_here", "_law_many", "_law_most", "_law_k"] ["_law_draws_here"] (defScope (topS 31)) := ⟨rfl, rfl, rfl, by decide +kernel, rfl, by decide +kernel, by decide +kernel⟩
set_option linter.unusedVariables false in
theorem fn_law_train (T : Txt K mg xa) {fa : Addr} {fd : FuncData} (F : Fun K "_law_train" "_law_train" (topS 31) fa fd) : FnG P w K mg base 5 fa fd ["_law_draws_here"] (CT.spL K 0 s_law_train_7) := by
  have nd : (["_law_draws_here", "_law_many", "_law_most", "_law_k"] : List Str).Nodup := sc_law_train.nd
  refine def_fnL (k := 4) (N := ["_law_draws_here", "_law_many", "_law_most", "_law_k"]) (ps := ["_law_draws_here"]) (n := 0) (ex := exOf mg) F sc_law_train rfl fun cdv A outer s H E F0 H0 hr hgd => ?_
  have hu64 : (A.deeper (envOfC "_law_train" (defScope (topS 31)) s.heap.objs.size fa cdv)).units + 64 < cLine := hr.units
  have hu65 : (A.deeper (envOfC "_law_train" (defScope (topS 31)) s.heap.objs.size fa cdv)).units + 65 < cLine := by have := hr.un; omega
  have pz := L2.passes_of (X := (cxOf (L2.CX P w) P w K mg base ["_law_draws_here", "_law_many", "_law_most", "_law_k"] "_law_train" (defScope (topS 31)) fa cdv A outer s H E)) rfl
  have tk : Takes (cxOf (L2.CX P w) P w K mg base ["_law_draws_here", "_law_many", "_law_most", "_law_k"] "_law_train" (defScope (topS 31)) fa cdv A outer s H E) (fun c d _ H' => E c d H') := takes_of rfl rfl rfl rfl
  exact (sb_cons (W := fun c d _ H' => E c d H') (ss_setX (i := 1) nd rfl (by first | exact Or.inl rfl | exact Or.inr rfl) (sx_bin (W := WF) o_add (sx_of (W := fun c d _ H' => E c d H') se_int) (sx_bin (W := WF) o_mod (sx_callL (i := 0) (ok_law_next T) tk (hr.mono (by decide)) hgd rfl (pv 0) sxa_nil xaNil_len) (sx_of (W := fun c d _ H' => E c d H') se_int))))
      (sb_cons (W := fun c d _ H' => E c d H') (ss_setX (i := 2) nd rfl (by first | exact Or.inl rfl | exact Or.inr rfl) (sx_ix (sx_of (W := fun c d _ H' => E c d H') (se_own (so_lst (sa_cons se_int (sa_cons se_int (sa_cons se_int (sa_cons se_int sa_nil))))))) (sx_bin (W := WF) o_mod (sx_callL (i := 0) (ok_law_next T) tk (hr.mono (by decide)) hgd rfl (pv 0) sxa_nil xaNil_len) (sx_of (W := fun c d _ H' => E c d H') se_int))))
      (sb_retX (sx_own (sox_lc rfl nd (six_of (W := fun c d _ H' => E c d H') (si_rng1 rfl T.b_range (sa_cons (se_var (pv 1)) sa_nil))) (blkOk_by (own := [("_law_k", 3)]) (N := ["_law_draws_here", "_law_many", "_law_most", "_law_k"]) (sc := defScope (topS 31)) (by decide +kernel)) (fun _ _ _ _ _ => (pg_name (i := 3) nd rfl (Or.inl rfl))) (fun _ _ _ _ _ => stxs_nil) (fun _ _ _ _ _ => (sx_callL (i := 0) (ok_law_part T) takes0 (hr.mono (by decide)) hgd rfl (pv 0) (sxa_cons (sx_of (W := WF) (se_ix (se_own (so_lst (sa_cons se_int (sa_cons (se_var (pv 2)) sa_nil)))) (se_callTy c_int rfl T.b_int PyProof.Rows.boot_int (sa_cons (se_cmp (o_eq hu64) (se_var (pv 3)) se_int (nomark _)) sa_nil)))) sxa_nil) (xaCons_len xaNil_len))))))))
theorem ok_law_train (T : Txt K mg xa) : CalleeL P w K mg base "_law_train" 0 s_law_train_7 5 := by
  obtain ⟨fa, fd, F, hm, hb⟩ := T.f_law_train
  exact ⟨fa, fd, _, fn_law_train T F, hm, F.kp, hb⟩
theorem sc_law_stand : FnScope ["_law_draws_here", "_law_k"] ["_law_draws_here"] (defScope (topS 32)) := ⟨rfl, rfl, rfl, by decide +kernel, rfl, by decide +kernel, by decide +kernel⟩
set_option linter.unusedVariables false in
theorem fn_law_stand (T : Txt K mg xa) {fa : Addr} {fd : FuncData} (F : Fun K "_law_stand" "_law_stand" (topS 32) fa fd) : FnG P w K mg base 3 fa fd ["_law_draws_here"] (CT.spL K 0 s_law_stand_4) := by
  have nd : (["_law_draws_here", "_law_k"] : List Str).Nodup := sc_law_stand.nd
  refine def_fnL (k := 2) (N := ["_law_draws_here", "_law_k"]) (ps := ["_law_draws_here"]) (n := 0) (ex := exOf mg) F sc_law_stand rfl fun cdv A outer s H E F0 H0 hr hgd => ?_
  have hu64 : (A.deeper (envOfC "_law_stand" (defScope (topS 32)) s.heap.objs.size fa cdv)).units + 64 < cLine := hr.units
  have hu65 : (A.deeper (envOfC "_law_stand" (defScope (topS 32)) s.heap.objs.size fa cdv)).units + 65 < cLine := by have := hr.un; omega
  have pz := L2.passes_of (X := (cxOf (L2.CX P w) P w K mg base ["_law_draws_here", "_law_k"] "_law_stand" (defScope (topS 32)) fa cdv A outer s H E)) rfl
  have tk : Takes (cxOf (L2.CX P w) P w K mg base ["_law_draws_here", "_law_k"] "_law_stand" (defScope (topS 32)) fa cdv A outer s H E) (fun c d _ H' => E c d H') := takes_of rfl rfl rfl rfl
  exact (sb_retX (sx_callTy (W := WF) c_tuple rfl T.b_tuple PyProof.Rows.boot_tuple (sxa_cons (sx_own (sox_lc rfl nd (six_rng1 rfl T.b_range (sxa_cons (sx_bin (W := WF) o_add (sx_of (W := fun c d _ H' => E c d H') se_int) (sx_bin (W := WF) o_mod (sx_callL (i := 0) (ok_law_next T) tk (hr.mono (by decide)) hgd rfl (pv 0) sxa_nil xaNil_len) (sx_of (W := fun c d _ H' => E c d H') se_int))) sxa_nil)) (blkOk_by (own := [("_law_k", 1)]) (N := ["_law_draws_here", "_law_k"]) (sc := defScope (topS 32)) (by decide +kernel)) (fun _ _ _ _ _ => (pg_name (i := 1) nd rfl (Or.inl rfl))) (fun _ _ _ _ _ => stxs_nil) (fun _ _ _ _ _ => (sx_callL (i := 0) (ok_law_number T) takes0 (hr.mono (by decide)) hgd rfl (pv 0) sxa_nil xaNil_len)))) sxa_nil)))
theorem ok_law_stand (T : Txt K mg xa) : CalleeL P w K mg base "_law_stand" 0 s_law_stand_4 3 := by
  obtain ⟨fa, fd, F, hm, hb⟩ := T.f_law_stand
  exact ⟨fa, fd, _, fn_law_stand T F, hm, F.kp, hb⟩
theorem sc_law_part_text : FnScope ["_law_part_here", "_law_mark", "_law_one"] ["_law_part_here"] (defScope (topS 33)) := ⟨rfl, rfl, rfl, by decide +kernel, rfl, by decide +kernel, by decide +kernel⟩
set_option linter.unusedVariables false in
theorem fn_law_part_text (T : Txt K mg xa) {fa : Addr} {fd : FuncData} (F : Fun K "_law_part_text" "_law_part_text" (topS 33) fa fd) : FnG P w K mg base 1 fa fd ["_law_part_here"] (CT.spF K (exOf mg) 1 s_law_part_text) := by
  have nd : (["_law_part_here", "_law_mark", "_law_one"] : List Str).Nodup := sc_law_part_text.nd
  refine def_fn (k := 0) (N := ["_law_part_here", "_law_mark", "_law_one"]) (ps := ["_law_part_here"]) F sc_law_part_text fun cdv A outer s H E F0 hr hgd => ?_
  have hu64 : (A.deeper (envOfC "_law_part_text" (defScope (topS 33)) s.heap.objs.size fa cdv)).units + 64 < cLine := hr.units
  have hu65 : (A.deeper (envOfC "_law_part_text" (defScope (topS 33)) s.heap.objs.size fa cdv)).units + 65 < cLine := by have := hr.un; omega
  have pz := L2.passes_of (X := cxOf (L2.CX P w) P w K mg base ["_law_part_here", "_law_mark", "_law_one"] "_law_part_text" (defScope (topS 33)) fa cdv A outer s H E) rfl
  have tk : Takes (cxOf (L2.CX P w) P w K mg base ["_law_part_here", "_law_mark", "_law_one"] "_law_part_text" (defScope (topS 33)) fa cdv A outer s H E) (fun c d _ H' => E c d H') := takes_of rfl rfl rfl rfl
  exact (sss_cons (ss_if (st_cmp (o_eq hu64) (se_ix (se_var (pv 0)) se_int) se_str (nomark _)) (sss_one (ss_ret (se_bin o_add (se_bin o_add (se_bin o_add se_str (se_callTy (c_str hu65 hgd) rfl T.b_str PyProof.Rows.boot_str (sa_cons (se_ix (se_var (pv 0)) se_int) sa_nil))) se_str) (se_join se_str (se_own (so_lc rfl nd (si_seq (se_ix (se_var (pv 0)) se_int)) (blkOk_by (own := [("_law_mark", 1)]) (N := ["_law_part_here", "_law_mark", "_law_one"]) (sc := defScope (topS 33)) (by decide +kernel)) (ng_name (i := 1) (by simp)) (fun _ _ _ _ _ => (pg_name (i := 1) nd rfl (Or.inl rfl))) (fun _ _ _ _ _ => sts_nil) (fun _ _ _ _ _ => (se_callTy (c_str hu65 hgd) rfl T.b_str PyProof.Rows.boot_str (sa_cons (se_var (pv 1)) sa_nil))))))))) sss_nil)
      (sss_one (ss_ret (se_bin o_add (se_ix (se_own (so_lst (sa_cons se_str (sa_cons se_str (sa_cons se_str sa_nil))))) (se_index hu65 (se_own (so_lst (sa_cons se_str (sa_cons se_str (sa_cons se_str sa_nil))))) (se_ix (se_var (pv 0)) se_int))) (se_join se_str (se_own (so_lc rfl nd (si_seq (se_cut (se_var (pv 0)) (sp_so se_int) sp_no)) (blkOk_by (own := [("_law_one", 2)]) (N := ["_law_part_here", "_law_mark", "_law_one"]) (sc := defScope (topS 33)) (by decide +kernel)) (ng_name (i := 2) (by simp)) (fun _ _ _ _ _ => (pg_name (i := 2) nd rfl (Or.inl rfl))) (fun _ _ _ _ _ => sts_nil) (fun _ _ _ _ _ => (se_callTy (c_str hu65 hgd) rfl T.b_str PyProof.Rows.boot_str (sa_cons (se_var (pv 2)) sa_nil))))))))))
theorem ok_law_part_text (T : Txt K mg xa) : Callee P w K mg base (exOf mg) "_law_part_text" 1 s_law_part_text 1 := by
  obtain ⟨fa, fd, F, hm, hb⟩ := T.f_law_part_text
  exact ⟨fa, fd, _, fn_law_part_text T F, hm, F.kp, hb⟩
theorem sc_law_train_text : FnScope ["_law_train_here", "_law_part_here"] ["_law_train_here"] (defScope (topS 34)) := ⟨rfl, rfl, rfl, by decide +kernel, rfl, by decide +kernel, by decide +kernel⟩
set_option linter.unusedVariables false in
theorem fn_law_train_text (T : Txt K mg xa) {fa : Addr} {fd : FuncData} (F : Fun K "_law_train_text" "_law_train_text" (topS 34) fa fd) : FnG P w K mg base 2 fa fd ["_law_train_here"] (CT.spF K (exOf mg) 1 s_law_train_text) := by
  have nd : (["_law_train_here", "_law_part_here"] : List Str).Nodup := sc_law_train_text.nd
  refine def_fn (k := 1) (N := ["_law_train_here", "_law_part_here"]) (ps := ["_law_train_here"]) F sc_law_train_text fun cdv A outer s H E F0 hr hgd => ?_
  have hu64 : (A.deeper (envOfC "_law_train_text" (defScope (topS 34)) s.heap.objs.size fa cdv)).units + 64 < cLine := hr.units
  have hu65 : (A.deeper (envOfC "_law_train_text" (defScope (topS 34)) s.heap.objs.size fa cdv)).units + 65 < cLine := by have := hr.un; omega
  have pz := L2.passes_of (X := cxOf (L2.CX P w) P w K mg base ["_law_train_here", "_law_part_here"] "_law_train_text" (defScope (topS 34)) fa cdv A outer s H E) rfl
  have tk : Takes (cxOf (L2.CX P w) P w K mg base ["_law_train_here", "_law_part_here"] "_law_train_text" (defScope (topS 34)) fa cdv A outer s H E) (fun c d _ H' => E c d H') := takes_of rfl rfl rfl rfl
  exact (sss_one (ss_ret (se_join se_str (se_own (so_lc rfl nd (si_seq (se_var (pv 0))) (blkOk_by (own := [("_law_part_here", 1)]) (N := ["_law_train_here", "_law_part_here"]) (sc := defScope (topS 34)) (by decide +kernel)) (ng_name (i := 1) (by simp)) (fun _ _ _ _ _ => (pg_name (i := 1) nd rfl (Or.inl rfl))) (fun _ _ _ _ _ => sts_nil) (fun _ _ _ _ _ => (se_call (ok_law_part_text T) takes0 (hr.mono (by decide)) hgd rfl (sa_cons (se_var (pv 1)) sa_nil) rfl (aCons_len aNil_len))))))))
theorem ok_law_train_text (T : Txt K mg xa) : Callee P w K mg base (exOf mg) "_law_train_text" 1 s_law_train_text 2 := by
  obtain ⟨fa, fd, F, hm, hb⟩ := T.f_law_train_text
  exact ⟨fa, fd, _, fn_law_train_text T F, hm, F.kp, hb⟩
theorem sc_part_shown : FnScope ["part", "mark"] ["part"] (defScope (topS 18)) := ⟨rfl, rfl, rfl, by decide +kernel, rfl, by decide +kernel, by decide +kernel⟩
set_option linter.unusedVariables false in
theorem fn_part_shown (T : Txt K mg xa) {fa : Addr} {fd : FuncData} (F : Fun K "part_shown" "part_shown" (topS 18) fa fd) : FnG P w K mg base 1 fa fd ["part"] (CT.spF K (exOf mg) 1 s_part_shown) := by
  have nd : (["part", "mark"] : List Str).Nodup := sc_part_shown.nd
  refine def_fn (k := 0) (N := ["part", "mark"]) (ps := ["part"]) F sc_part_shown fun cdv A outer s H E F0 hr hgd => ?_
  have hu64 : (A.deeper (envOfC "part_shown" (defScope (topS 18)) s.heap.objs.size fa cdv)).units + 64 < cLine := hr.units
  have hu65 : (A.deeper (envOfC "part_shown" (defScope (topS 18)) s.heap.objs.size fa cdv)).units + 65 < cLine := by have := hr.un; omega
  have pz := L2.passes_of (X := cxOf (L2.CX P w) P w K mg base ["part", "mark"] "part_shown" (defScope (topS 18)) fa cdv A outer s H E) rfl
  have tk : Takes (cxOf (L2.CX P w) P w K mg base ["part", "mark"] "part_shown" (defScope (topS 18)) fa cdv A outer s H E) (fun c d _ H' => E c d H') := takes_of rfl rfl rfl rfl
  exact (sss_cons (ss_if (st_cmp (o_eq hu64) (se_ix (se_var (pv 0)) se_int) se_str (nomark _)) (sss_one (ss_ret (se_bin o_add (se_bin o_add (se_bin o_add se_str (se_callTy (c_str hu65 hgd) rfl T.b_str PyProof.Rows.boot_str (sa_cons (se_ix (se_var (pv 0)) se_int) sa_nil))) se_str) (se_join se_str (se_own (so_lc rfl nd (si_seq (se_ix (se_var (pv 0)) se_int)) (blkOk_by (own := [("mark", 1)]) (N := ["part", "mark"]) (sc := defScope (topS 18)) (by decide +kernel)) (ng_name (i := 1) (by simp)) (fun _ _ _ _ _ => (pg_name (i := 1) nd rfl (Or.inl rfl))) (fun _ _ _ _ _ => sts_nil) (fun _ _ _ _ _ => (se_callTy (c_str hu65 hgd) rfl T.b_str PyProof.Rows.boot_str (sa_cons (se_var (pv 1)) sa_nil))))))))) sss_nil)
      (sss_cons (ss_if (st_cmp (o_eq hu64) (se_ix (se_var (pv 0)) se_int) se_str (nomark _)) (sss_one (ss_ret (se_bin o_add se_str (se_callTy (c_str hu65 hgd) rfl T.b_str PyProof.Rows.boot_str (sa_cons (se_ix (se_var (pv 0)) se_int) sa_nil))))) sss_nil)
      (sss_one (ss_ret (se_cut (se_ix (se_var (pv 0)) se_int) sp_no (sp_so se_int))))))
theorem ok_part_shown (T : Txt K mg xa) : Callee P w K mg base (exOf mg) "part_shown" 1 s_part_shown 1 := by
  obtain ⟨fa, fd, F, hm, hb⟩ := T.f_part_shown
  exact ⟨fa, fd, _, fn_part_shown T F, hm, F.kp, hb⟩
theorem sc_show_train : FnScope ["train", "part"] ["train"] (defScope (topS 20)) := ⟨rfl, rfl, rfl, by decide +kernel, rfl, by decide +kernel, by decide +kernel⟩
set_option linter.unusedVariables false in
theorem fn_show_train (T : Txt K mg xa) {fa : Addr} {fd : FuncData} (F : Fun K "show_train" "show_train" (topS 20) fa fd) : FnG P w K mg base 5 fa fd ["train"] (CT.spF K (exOf mg) 1 s_show_train) := by
  have nd : (["train", "part"] : List Str).Nodup := sc_show_train.nd
  refine def_fn (k := 4) (N := ["train", "part"]) (ps := ["train"]) F sc_show_train fun cdv A outer s H E F0 hr hgd => ?_
  have hu64 : (A.deeper (envOfC "show_train" (defScope (topS 20)) s.heap.objs.size fa cdv)).units + 64 < cLine := hr.units
  have hu65 : (A.deeper (envOfC "show_train" (defScope (topS 20)) s.heap.objs.size fa cdv)).units + 65 < cLine := by have := hr.un; omega
  have pz := L2.passes_of (X := cxOf (L2.CX P w) P w K mg base ["train", "part"] "show_train" (defScope (topS 20)) fa cdv A outer s H E) rfl
  have tk : Takes (cxOf (L2.CX P w) P w K mg base ["train", "part"] "show_train" (defScope (topS 20)) fa cdv A outer s H E) (fun c d _ H' => E c d H') := takes_of rfl rfl rfl rfl
  exact (sss_cons (ss_exp (se_call (ok_check_train T) tk (hr.mono (by decide)) hgd rfl (sa_cons (se_var (pv 0)) sa_nil) rfl (aCons_len aNil_len)))
      (sss_one (ss_ret (se_join se_str (se_own (so_lc rfl nd (si_seq (se_var (pv 0))) (blkOk_by (own := [("part", 1)]) (N := ["train", "part"]) (sc := defScope (topS 20)) (by decide +kernel)) (ng_name (i := 1) (by simp)) (fun _ _ _ _ _ => (pg_name (i := 1) nd rfl (Or.inl rfl))) (fun _ _ _ _ _ => sts_nil) (fun _ _ _ _ _ => (se_call (ok_part_shown T) takes0 (hr.mono (by decide)) hgd rfl (sa_cons (se_var (pv 1)) sa_nil) rfl (aCons_len aNil_len)))))))))
theorem ok_show_train (T : Txt K mg xa) : Callee P w K mg base (exOf mg) "show_train" 1 s_show_train 5 := by
  obtain ⟨fa, fd, F, hm, hb⟩ := T.f_show_train
  exact ⟨fa, fd, _, fn_show_train T F, hm, F.kp, hb⟩
theorem sc_show_stand : FnScope ["stand", "place"] ["stand"] (defScope (topS 22)) := ⟨rfl, rfl, rfl, by decide +kernel, rfl, by decide +kernel, by decide +kernel⟩
set_option linter.unusedVariables false in
theorem fn_show_stand (T : Txt K mg xa) {fa : Addr} {fd : FuncData} (F : Fun K "show_stand" "show_stand" (topS 22) fa fd) : FnG P w K mg base 1 fa fd ["stand"] (CT.spF K (exOf mg) 1 s_show_stand) := by
  have nd : (["stand", "place"] : List Str).Nodup := sc_show_stand.nd
  refine def_fn (k := 0) (N := ["stand", "place"]) (ps := ["stand"]) F sc_show_stand fun cdv A outer s H E F0 hr hgd => ?_
  have hu64 : (A.deeper (envOfC "show_stand" (defScope (topS 22)) s.heap.objs.size fa cdv)).units + 64 < cLine := hr.units
  have hu65 : (A.deeper (envOfC "show_stand" (defScope (topS 22)) s.heap.objs.size fa cdv)).units + 65 < cLine := by have := hr.un; omega
  have pz := L2.passes_of (X := cxOf (L2.CX P w) P w K mg base ["stand", "place"] "show_stand" (defScope (topS 22)) fa cdv A outer s H E) rfl
  have tk : Takes (cxOf (L2.CX P w) P w K mg base ["stand", "place"] "show_stand" (defScope (topS 22)) fa cdv A outer s H E) (fun c d _ H' => E c d H') := takes_of rfl rfl rfl rfl
  exact (sss_one (ss_ret (se_join se_str (se_own (so_lc rfl nd (si_seq (se_var (pv 0))) (blkOk_by (own := [("place", 1)]) (N := ["stand", "place"]) (sc := defScope (topS 22)) (by decide +kernel)) (ng_name (i := 1) (by simp)) (fun _ _ _ _ _ => (pg_name (i := 1) nd rfl (Or.inl rfl))) (fun _ _ _ _ _ => sts_nil) (fun _ _ _ _ _ => (se_callTy (c_str hu65 hgd) rfl T.b_str PyProof.Rows.boot_str (sa_cons (se_var (pv 1)) sa_nil))))))))
theorem ok_show_stand (T : Txt K mg xa) : Callee P w K mg base (exOf mg) "show_stand" 1 s_show_stand 1 := by
  obtain ⟨fa, fd, F, hm, hb⟩ := T.f_show_stand
  exact ⟨fa, fd, _, fn_show_stand T F, hm, F.kp, hb⟩
theorem sc_read_stand : FnScope ["text", "word"] ["text"] (defScope (topS 23)) := ⟨rfl, rfl, rfl, by decide +kernel, rfl, by decide +kernel, by decide +kernel⟩
set_option linter.unusedVariables false in
theorem fn_read_stand (T : Txt K mg xa) {fa : Addr} {fd : FuncData} (F : Fun K "read_stand" "read_stand" (topS 23) fa fd) : FnG P w K mg base 3 fa fd ["text"] (CT.spF K (exOf mg) 1 s_read_stand) := by
  have nd : (["text", "word"] : List Str).Nodup := sc_read_stand.nd
  refine def_fn (k := 2) (N := ["text", "word"]) (ps := ["text"]) F sc_read_stand fun cdv A outer s H E F0 hr hgd => ?_
  have hu64 : (A.deeper (envOfC "read_stand" (defScope (topS 23)) s.heap.objs.size fa cdv)).units + 64 < cLine := hr.units
  have hu65 : (A.deeper (envOfC "read_stand" (defScope (topS 23)) s.heap.objs.size fa cdv)).units + 65 < cLine := by have := hr.un; omega
  have pz := L2.passes_of (X := cxOf (L2.CX P w) P w K mg base ["text", "word"] "read_stand" (defScope (topS 23)) fa cdv A outer s H E) rfl
  have tk : Takes (cxOf (L2.CX P w) P w K mg base ["text", "word"] "read_stand" (defScope (topS 23)) fa cdv A outer s H E) (fun c d _ H' => E c d H') := takes_of rfl rfl rfl rfl
  exact (sss_one (ss_ret (se_callTy c_tuple rfl T.b_tuple PyProof.Rows.boot_tuple (sa_cons (se_own (so_lc rfl nd (si_seq (se_own (so_split (se_var (pv 0)) se_str))) (blkOk_by (own := [("word", 1)]) (N := ["text", "word"]) (sc := defScope (topS 23)) (by decide +kernel)) (ng_name (i := 1) (by simp)) (fun _ _ _ _ _ => (pg_name (i := 1) nd rfl (Or.inl rfl))) (fun _ _ _ _ _ => sts_nil) (fun _ _ _ _ _ => (se_call (ok_count_in T) takes0 (hr.mono (by decide)) hgd rfl (sa_cons (se_var (pv 1)) sa_nil) rfl (aCons_len aNil_len))))) sa_nil))))
theorem ok_read_stand (T : Txt K mg xa) : Callee P w K mg base (exOf mg) "read_stand" 1 s_read_stand 3 := by
  obtain ⟨fa, fd, F, hm, hb⟩ := T.f_read_stand
  exact ⟨fa, fd, _, fn_read_stand T F, hm, F.kp, hb⟩
theorem sc_law_stand_text : FnScope ["_law_stand_here", "_law_place"] ["_law_stand_here"] (defScope (topS 35)) := ⟨rfl, rfl, rfl, by decide +kernel, rfl, by decide +kernel, by decide +kernel⟩
set_option linter.unusedVariables false in
theorem fn_law_stand_text (T : Txt K mg xa) {fa : Addr} {fd : FuncData} (F : Fun K "_law_stand_text" "_law_stand_text" (topS 35) fa fd) : FnG P w K mg base 1 fa fd ["_law_stand_here"] (CT.spF K (exOf mg) 1 s_law_stand_text) := by
  have nd : (["_law_stand_here", "_law_place"] : List Str).Nodup := sc_law_stand_text.nd
  refine def_fn (k := 0) (N := ["_law_stand_here", "_law_place"]) (ps := ["_law_stand_here"]) F sc_law_stand_text fun cdv A outer s H E F0 hr hgd => ?_
  have hu64 : (A.deeper (envOfC "_law_stand_text" (defScope (topS 35)) s.heap.objs.size fa cdv)).units + 64 < cLine := hr.units
  have hu65 : (A.deeper (envOfC "_law_stand_text" (defScope (topS 35)) s.heap.objs.size fa cdv)).units + 65 < cLine := by have := hr.un; omega
  have pz := L2.passes_of (X := cxOf (L2.CX P w) P w K mg base ["_law_stand_here", "_law_place"] "_law_stand_text" (defScope (topS 35)) fa cdv A outer s H E) rfl
  have tk : Takes (cxOf (L2.CX P w) P w K mg base ["_law_stand_here", "_law_place"] "_law_stand_text" (defScope (topS 35)) fa cdv A outer s H E) (fun c d _ H' => E c d H') := takes_of rfl rfl rfl rfl
  exact (sss_one (ss_ret (se_join se_str (se_own (so_lc rfl nd (si_seq (se_var (pv 0))) (blkOk_by (own := [("_law_place", 1)]) (N := ["_law_stand_here", "_law_place"]) (sc := defScope (topS 35)) (by decide +kernel)) (ng_name (i := 1) (by simp)) (fun _ _ _ _ _ => (pg_name (i := 1) nd rfl (Or.inl rfl))) (fun _ _ _ _ _ => sts_nil) (fun _ _ _ _ _ => (se_callTy (c_str hu65 hgd) rfl T.b_str PyProof.Rows.boot_str (sa_cons (se_var (pv 1)) sa_nil))))))))
theorem ok_law_stand_text (T : Txt K mg xa) : Callee P w K mg base (exOf mg) "_law_stand_text" 1 s_law_stand_text 1 := by
  obtain ⟨fa, fd, F, hm, hb⟩ := T.f_law_stand_text
  exact ⟨fa, fd, _, fn_law_stand_text T F, hm, F.kp, hb⟩
theorem sc_law_whole : FnScope ["_law_found"] ["_law_found"] (defScope (topS 27)) := ⟨rfl, rfl, rfl, by decide +kernel, rfl, by decide +kernel, by decide +kernel⟩
set_option linter.unusedVariables false in
theorem fn_law_whole (T : Txt K mg xa) {fa : Addr} {fd : FuncData} (F : Fun K "_law_whole" "_law_whole" (topS 27) fa fd) : FnG P w K mg base 1 fa fd ["_law_found"] (CT.spF K (exOf mg) 1 s_law_whole) := by
  have nd : (["_law_found"] : List Str).Nodup := sc_law_whole.nd
  refine def_fn (k := 0) (N := ["_law_found"]) (ps := ["_law_found"]) F sc_law_whole fun cdv A outer s H E F0 hr hgd => ?_
  have hu64 : (A.deeper (envOfC "_law_whole" (defScope (topS 27)) s.heap.objs.size fa cdv)).units + 64 < cLine := hr.units
  have hu65 : (A.deeper (envOfC "_law_whole" (defScope (topS 27)) s.heap.objs.size fa cdv)).units + 65 < cLine := by have := hr.un; omega
  have pz := L2.passes_of (X := cxOf (L2.CX P w) P w K mg base ["_law_found"] "_law_whole" (defScope (topS 27)) fa cdv A outer s H E) rfl
  have tk : Takes (cxOf (L2.CX P w) P w K mg base ["_law_found"] "_law_whole" (defScope (topS 27)) fa cdv A outer s H E) (fun c d _ H' => E c d H') := takes_of rfl rfl rfl rfl
  exact (sss_one (ss_ret (se_and (se_isi (T := "int") rfl T.b_isinstance rfl T.b_int PyProof.Rows.boot_int (se_var (pv 0))) (se_one (se_not (se_isi (T := "bool") rfl T.b_isinstance rfl T.b_bool (by decide +kernel) (se_var (pv 0))))))))
theorem ok_law_whole (T : Txt K mg xa) : Callee P w K mg base (exOf mg) "_law_whole" 1 s_law_whole 1 := by
  obtain ⟨fa, fd, F, hm, hb⟩ := T.f_law_whole
  exact ⟨fa, fd, _, fn_law_whole T F, hm, F.kp, hb⟩
theorem sc_law_plain : FnScope ["_law_found", "_law_one"] ["_law_found"] (defScope (topS 36)) := ⟨rfl, rfl, rfl, by decide +kernel, rfl, by decide +kernel, by decide +kernel⟩
set_option linter.unusedVariables false in
theorem fn_law_plain_r0 (T : Txt K mg xa) {fa : Addr} {fd : FuncData} (F : Fun K "_law_plain" "_law_plain" (topS 36) fa fd) : FnG P w K mg base 2 fa fd ["_law_found"] (CT.spF K (exOf mg) 1 (s_law_plain_2_n 0)) := by
  have nd : (["_law_found", "_law_one"] : List Str).Nodup := sc_law_plain.nd
  refine def_fn (k := 1) (N := ["_law_found", "_law_one"]) (ps := ["_law_found"]) F sc_law_plain fun cdv A outer s H E F0 hr hgd => ?_
  have hu64 : (A.deeper (envOfC "_law_plain" (defScope (topS 36)) s.heap.objs.size fa cdv)).units + 64 < cLine := hr.units
  have hu65 : (A.deeper (envOfC "_law_plain" (defScope (topS 36)) s.heap.objs.size fa cdv)).units + 65 < cLine := by have := hr.un; omega
  have pz := L2.passes_of (X := cxOf (L2.CX P w) P w K mg base ["_law_found", "_law_one"] "_law_plain" (defScope (topS 36)) fa cdv A outer s H E) rfl
  have tk : Takes (cxOf (L2.CX P w) P w K mg base ["_law_found", "_law_one"] "_law_plain" (defScope (topS 36)) fa cdv A outer s H E) (fun c d _ H' => E c d H') := takes_of rfl rfl rfl rfl
  exact sss_stuck
theorem ok_law_plain_r0 (T : Txt K mg xa) : Callee P w K mg base (exOf mg) "_law_plain" 1 (s_law_plain_2_n 0) 2 := by
  obtain ⟨fa, fd, F, hm, hb⟩ := T.f_law_plain
  exact ⟨fa, fd, _, fn_law_plain_r0 T F, hm, F.kp, hb⟩
set_option linter.unusedVariables false in
theorem fn_law_plain_r1 (T : Txt K mg xa) {fa : Addr} {fd : FuncData} (F : Fun K "_law_plain" "_law_plain" (topS 36) fa fd) : FnG P w K mg base 3 fa fd ["_law_found"] (CT.spF K (exOf mg) 1 (s_law_plain_2_F (s_law_plain_2_n 0))) := by
  have nd : (["_law_found", "_law_one"] : List Str).Nodup := sc_law_plain.nd
  refine def_fn (k := 2) (N := ["_law_found", "_law_one"]) (ps := ["_law_found"]) F sc_law_plain fun cdv A outer s H E F0 hr hgd => ?_
  have hu64 : (A.deeper (envOfC "_law_plain" (defScope (topS 36)) s.heap.objs.size fa cdv)).units + 64 < cLine := hr.units
  have hu65 : (A.deeper (envOfC "_law_plain" (defScope (topS 36)) s.heap.objs.size fa cdv)).units + 65 < cLine := by have := hr.un; omega
  have pz := L2.passes_of (X := cxOf (L2.CX P w) P w K mg base ["_law_found", "_law_one"] "_law_plain" (defScope (topS 36)) fa cdv A outer s H E) rfl
  have tk : Takes (cxOf (L2.CX P w) P w K mg base ["_law_found", "_law_one"] "_law_plain" (defScope (topS 36)) fa cdv A outer s H E) (fun c d _ H' => E c d H') := takes_of rfl rfl rfl rfl
  exact (sss_cons (ss_if (st_of (se_isiT (Ts := ["list", "tuple"]) rfl T.b_isinstance (pa_cons (pe_bltn rfl T.b_list PyProof.Rows.boot_list (v := .ty "list") rfl) (pa_cons (pe_bltn rfl T.b_tuple PyProof.Rows.boot_tuple (v := .ty "tuple") rfl) pa_nil)) (fun _ _ _ q => q) (.cons (.ty "list") (.cons (.ty "tuple") .nil)) (show 2 ≤ sizeLine by decide) (se_var (pv 0)))) (sss_one (ss_ret (se_callB (c_all rfl) rfl T.b_all PyProof.Rows.boot_all (sa_cons (se_own (so_lc rfl nd (si_seq (se_var (pv 0))) (blkOk_by (own := [("_law_one", 1)]) (N := ["_law_found", "_law_one"]) (sc := defScope (topS 36)) (by decide +kernel)) (ng_name (i := 1) (by simp)) (fun _ _ _ _ _ => (pg_name (i := 1) nd rfl (Or.inl rfl))) (fun _ _ _ _ _ => sts_nil) (fun _ _ _ _ _ => (se_call (ok_law_plain_r0 T) takes0 (hr.mono (by decide)) hgd rfl (sa_cons (se_var (pv 1)) sa_nil) rfl (aCons_len aNil_len))))) sa_nil)))) sss_nil)
      (sss_one (ss_ret (se_or (se_isi (T := "str") rfl T.b_isinstance rfl T.b_str PyProof.Rows.boot_str (se_var (pv 0))) (se_one (se_call (ok_law_whole T) tk (hr.mono (by decide)) hgd rfl (sa_cons (se_var (pv 0)) sa_nil) rfl (aCons_len aNil_len)))))))
theorem ok_law_plain_r1 (T : Txt K mg xa) : Callee P w K mg base (exOf mg) "_law_plain" 1 (s_law_plain_2_n 1) 3 := by
  obtain ⟨fa, fd, F, hm, hb⟩ := T.f_law_plain
  exact ⟨fa, fd, _, fn_law_plain_r1 T F, hm, F.kp, hb⟩
set_option linter.unusedVariables false in
theorem fn_law_plain_r2 (T : Txt K mg xa) {fa : Addr} {fd : FuncData} (F : Fun K "_law_plain" "_law_plain" (topS 36) fa fd) : FnG P w K mg base 4 fa fd ["_law_found"] (CT.spF K (exOf mg) 1 (s_law_plain_2_F (s_law_plain_2_n 1))) := by
  have nd : (["_law_found", "_law_one"] : List Str).Nodup := sc_law_plain.nd
  refine def_fn (k := 3) (N := ["_law_found", "_law_one"]) (ps := ["_law_found"]) F sc_law_plain fun cdv A outer s H E F0 hr hgd => ?_
  have hu64 : (A.deeper (envOfC "_law_plain" (defScope (topS 36)) s.heap.objs.size fa cdv)).units + 64 < cLine := hr.units
  have hu65 : (A.deeper (envOfC "_law_plain" (defScope (topS 36)) s.heap.objs.size fa cdv)).units + 65 < cLine := by have := hr.un; omega
  have pz := L2.passes_of (X := cxOf (L2.CX P w) P w K mg base ["_law_found", "_law_one"] "_law_plain" (defScope (topS 36)) fa cdv A outer s H E) rfl
  have tk : Takes (cxOf (L2.CX P w) P w K mg base ["_law_found", "_law_one"] "_law_plain" (defScope (topS 36)) fa cdv A outer s H E) (fun c d _ H' => E c d H') := takes_of rfl rfl rfl rfl
  exact (sss_cons (ss_if (st_of (se_isiT (Ts := ["list", "tuple"]) rfl T.b_isinstance (pa_cons (pe_bltn rfl T.b_list PyProof.Rows.boot_list (v := .ty "list") rfl) (pa_cons (pe_bltn rfl T.b_tuple PyProof.Rows.boot_tuple (v := .ty "tuple") rfl) pa_nil)) (fun _ _ _ q => q) (.cons (.ty "list") (.cons (.ty "tuple") .nil)) (show 2 ≤ sizeLine by decide) (se_var (pv 0)))) (sss_one (ss_ret (se_callB (c_all rfl) rfl T.b_all PyProof.Rows.boot_all (sa_cons (se_own (so_lc rfl nd (si_seq (se_var (pv 0))) (blkOk_by (own := [("_law_one", 1)]) (N := ["_law_found", "_law_one"]) (sc := defScope (topS 36)) (by decide +kernel)) (ng_name (i := 1) (by simp)) (fun _ _ _ _ _ => (pg_name (i := 1) nd rfl (Or.inl rfl))) (fun _ _ _ _ _ => sts_nil) (fun _ _ _ _ _ => (se_call (ok_law_plain_r1 T) takes0 (hr.mono (by decide)) hgd rfl (sa_cons (se_var (pv 1)) sa_nil) rfl (aCons_len aNil_len))))) sa_nil)))) sss_nil)
      (sss_one (ss_ret (se_or (se_isi (T := "str") rfl T.b_isinstance rfl T.b_str PyProof.Rows.boot_str (se_var (pv 0))) (se_one (se_call (ok_law_whole T) tk (hr.mono (by decide)) hgd rfl (sa_cons (se_var (pv 0)) sa_nil) rfl (aCons_len aNil_len)))))))
theorem ok_law_plain_r2 (T : Txt K mg xa) : Callee P w K mg base (exOf mg) "_law_plain" 1 (s_law_plain_2_n 2) 4 := by
  obtain ⟨fa, fd, F, hm, hb⟩ := T.f_law_plain
  exact ⟨fa, fd, _, fn_law_plain_r2 T F, hm, F.kp, hb⟩
set_option linter.unusedVariables false in
theorem fn_law_plain_r3 (T : Txt K mg xa) {fa : Addr} {fd : FuncData} (F : Fun K "_law_plain" "_law_plain" (topS 36) fa fd) : FnG P w K mg base 5 fa fd ["_law_found"] (CT.spF K (exOf mg) 1 (s_law_plain_2_F (s_law_plain_2_n 2))) := by
  have nd : (["_law_found", "_law_one"] : List Str).Nodup := sc_law_plain.nd
  refine def_fn (k := 4) (N := ["_law_found", "_law_one"]) (ps := ["_law_found"]) F sc_law_plain fun cdv A outer s H E F0 hr hgd => ?_
  have hu64 : (A.deeper (envOfC "_law_plain" (defScope (topS 36)) s.heap.objs.size fa cdv)).units + 64 < cLine := hr.units
  have hu65 : (A.deeper (envOfC "_law_plain" (defScope (topS 36)) s.heap.objs.size fa cdv)).units + 65 < cLine := by have := hr.un; omega
  have pz := L2.passes_of (X := cxOf (L2.CX P w) P w K mg base ["_law_found", "_law_one"] "_law_plain" (defScope (topS 36)) fa cdv A outer s H E) rfl
  have tk : Takes (cxOf (L2.CX P w) P w K mg base ["_law_found", "_law_one"] "_law_plain" (defScope (topS 36)) fa cdv A outer s H E) (fun c d _ H' => E c d H') := takes_of rfl rfl rfl rfl
  exact (sss_cons (ss_if (st_of (se_isiT (Ts := ["list", "tuple"]) rfl T.b_isinstance (pa_cons (pe_bltn rfl T.b_list PyProof.Rows.boot_list (v := .ty "list") rfl) (pa_cons (pe_bltn rfl T.b_tuple PyProof.Rows.boot_tuple (v := .ty "tuple") rfl) pa_nil)) (fun _ _ _ q => q) (.cons (.ty "list") (.cons (.ty "tuple") .nil)) (show 2 ≤ sizeLine by decide) (se_var (pv 0)))) (sss_one (ss_ret (se_callB (c_all rfl) rfl T.b_all PyProof.Rows.boot_all (sa_cons (se_own (so_lc rfl nd (si_seq (se_var (pv 0))) (blkOk_by (own := [("_law_one", 1)]) (N := ["_law_found", "_law_one"]) (sc := defScope (topS 36)) (by decide +kernel)) (ng_name (i := 1) (by simp)) (fun _ _ _ _ _ => (pg_name (i := 1) nd rfl (Or.inl rfl))) (fun _ _ _ _ _ => sts_nil) (fun _ _ _ _ _ => (se_call (ok_law_plain_r2 T) takes0 (hr.mono (by decide)) hgd rfl (sa_cons (se_var (pv 1)) sa_nil) rfl (aCons_len aNil_len))))) sa_nil)))) sss_nil)
      (sss_one (ss_ret (se_or (se_isi (T := "str") rfl T.b_isinstance rfl T.b_str PyProof.Rows.boot_str (se_var (pv 0))) (se_one (se_call (ok_law_whole T) tk (hr.mono (by decide)) hgd rfl (sa_cons (se_var (pv 0)) sa_nil) rfl (aCons_len aNil_len)))))))
theorem ok_law_plain_r3 (T : Txt K mg xa) : Callee P w K mg base (exOf mg) "_law_plain" 1 (s_law_plain_2_n 3) 5 := by
  obtain ⟨fa, fd, F, hm, hb⟩ := T.f_law_plain
  exact ⟨fa, fd, _, fn_law_plain_r3 T F, hm, F.kp, hb⟩
set_option linter.unusedVariables false in
theorem fn_law_plain_r4 (T : Txt K mg xa) {fa : Addr} {fd : FuncData} (F : Fun K "_law_plain" "_law_plain" (topS 36) fa fd) : FnG P w K mg base 6 fa fd ["_law_found"] (CT.spF K (exOf mg) 1 (s_law_plain_2_F (s_law_plain_2_n 3))) := by
  have nd : (["_law_found", "_law_one"] : List Str).Nodup := sc_law_plain.nd
  refine def_fn (k := 5) (N := ["_law_found", "_law_one"]) (ps := ["_law_found"]) F sc_law_plain fun cdv A outer s H E F0 hr hgd => ?_
  have hu64 : (A.deeper (envOfC "_law_plain" (defScope (topS 36)) s.heap.objs.size fa cdv)).units + 64 < cLine := hr.units
  have hu65 : (A.deeper (envOfC "_law_plain" (defScope (topS 36)) s.heap.objs.size fa cdv)).units + 65 < cLine := by have := hr.un; omega
  have pz := L2.passes_of (X := cxOf (L2.CX P w) P w K mg base ["_law_found", "_law_one"] "_law_plain" (defScope (topS 36)) fa cdv A outer s H E) rfl
  have tk : Takes (cxOf (L2.CX P w) P w K mg base ["_law_found", "_law_one"] "_law_plain" (defScope (topS 36)) fa cdv A outer s H E) (fun c d _ H' => E c d H') := takes_of rfl rfl rfl rfl
  exact (sss_cons (ss_if (st_of (se_isiT (Ts := ["list", "tuple"]) rfl T.b_isinstance (pa_cons (pe_bltn rfl T.b_list PyProof.Rows.boot_list (v := .ty "list") rfl) (pa_cons (pe_bltn rfl T.b_tuple PyProof.Rows.boot_tuple (v := .ty "tuple") rfl) pa_nil)) (fun _ _ _ q => q) (.cons (.ty "list") (.cons (.ty "tuple") .nil)) (show 2 ≤ sizeLine by decide) (se_var (pv 0)))) (sss_one (ss_ret (se_callB (c_all rfl) rfl T.b_all PyProof.Rows.boot_all (sa_cons (se_own (so_lc rfl nd (si_seq (se_var (pv 0))) (blkOk_by (own := [("_law_one", 1)]) (N := ["_law_found", "_law_one"]) (sc := defScope (topS 36)) (by decide +kernel)) (ng_name (i := 1) (by simp)) (fun _ _ _ _ _ => (pg_name (i := 1) nd rfl (Or.inl rfl))) (fun _ _ _ _ _ => sts_nil) (fun _ _ _ _ _ => (se_call (ok_law_plain_r3 T) takes0 (hr.mono (by decide)) hgd rfl (sa_cons (se_var (pv 1)) sa_nil) rfl (aCons_len aNil_len))))) sa_nil)))) sss_nil)
      (sss_one (ss_ret (se_or (se_isi (T := "str") rfl T.b_isinstance rfl T.b_str PyProof.Rows.boot_str (se_var (pv 0))) (se_one (se_call (ok_law_whole T) tk (hr.mono (by decide)) hgd rfl (sa_cons (se_var (pv 0)) sa_nil) rfl (aCons_len aNil_len)))))))
theorem ok_law_plain_r4 (T : Txt K mg xa) : Callee P w K mg base (exOf mg) "_law_plain" 1 (s_law_plain_2_n 4) 6 := by
  obtain ⟨fa, fd, F, hm, hb⟩ := T.f_law_plain
  exact ⟨fa, fd, _, fn_law_plain_r4 T F, hm, F.kp, hb⟩
set_option linter.unusedVariables false in
theorem fn_law_plain_r5 (T : Txt K mg xa) {fa : Addr} {fd : FuncData} (F : Fun K "_law_plain" "_law_plain" (topS 36) fa fd) : FnG P w K mg base 7 fa fd ["_law_found"] (CT.spF K (exOf mg) 1 (s_law_plain_2_F (s_law_plain_2_n 4))) := by
  have nd : (["_law_found", "_law_one"] : List Str).Nodup := sc_law_plain.nd
  refine def_fn (k := 6) (N := ["_law_found", "_law_one"]) (ps := ["_law_found"]) F sc_law_plain fun cdv A outer s H E F0 hr hgd => ?_
  have hu64 : (A.deeper (envOfC "_law_plain" (defScope (topS 36)) s.heap.objs.size fa cdv)).units + 64 < cLine := hr.units
  have hu65 : (A.deeper (envOfC "_law_plain" (defScope (topS 36)) s.heap.objs.size fa cdv)).units + 65 < cLine := by have := hr.un; omega
  have pz := L2.passes_of (X := cxOf (L2.CX P w) P w K mg base ["_law_found", "_law_one"] "_law_plain" (defScope (topS 36)) fa cdv A outer s H E) rfl
  have tk : Takes (cxOf (L2.CX P w) P w K mg base ["_law_found", "_law_one"] "_law_plain" (defScope (topS 36)) fa cdv A outer s H E) (fun c d _ H' => E c d H') := takes_of rfl rfl rfl rfl
  exact (sss_cons (ss_if (st_of (se_isiT (Ts := ["list", "tuple"]) rfl T.b_isinstance (pa_cons (pe_bltn rfl T.b_list PyProof.Rows.boot_list (v := .ty "list") rfl) (pa_cons (pe_bltn rfl T.b_tuple PyProof.Rows.boot_tuple (v := .ty "tuple") rfl) pa_nil)) (fun _ _ _ q => q) (.cons (.ty "list") (.cons (.ty "tuple") .nil)) (show 2 ≤ sizeLine by decide) (se_var (pv 0)))) (sss_one (ss_ret (se_callB (c_all rfl) rfl T.b_all PyProof.Rows.boot_all (sa_cons (se_own (so_lc rfl nd (si_seq (se_var (pv 0))) (blkOk_by (own := [("_law_one", 1)]) (N := ["_law_found", "_law_one"]) (sc := defScope (topS 36)) (by decide +kernel)) (ng_name (i := 1) (by simp)) (fun _ _ _ _ _ => (pg_name (i := 1) nd rfl (Or.inl rfl))) (fun _ _ _ _ _ => sts_nil) (fun _ _ _ _ _ => (se_call (ok_law_plain_r4 T) takes0 (hr.mono (by decide)) hgd rfl (sa_cons (se_var (pv 1)) sa_nil) rfl (aCons_len aNil_len))))) sa_nil)))) sss_nil)
      (sss_one (ss_ret (se_or (se_isi (T := "str") rfl T.b_isinstance rfl T.b_str PyProof.Rows.boot_str (se_var (pv 0))) (se_one (se_call (ok_law_whole T) tk (hr.mono (by decide)) hgd rfl (sa_cons (se_var (pv 0)) sa_nil) rfl (aCons_len aNil_len)))))))
theorem ok_law_plain_r5 (T : Txt K mg xa) : Callee P w K mg base (exOf mg) "_law_plain" 1 (s_law_plain_2_n 5) 7 := by
  obtain ⟨fa, fd, F, hm, hb⟩ := T.f_law_plain
  exact ⟨fa, fd, _, fn_law_plain_r5 T F, hm, F.kp, hb⟩
set_option linter.unusedVariables false in
theorem fn_law_plain_r6 (T : Txt K mg xa) {fa : Addr} {fd : FuncData} (F : Fun K "_law_plain" "_law_plain" (topS 36) fa fd) : FnG P w K mg base 8 fa fd ["_law_found"] (CT.spF K (exOf mg) 1 (s_law_plain_2_F (s_law_plain_2_n 5))) := by
  have nd : (["_law_found", "_law_one"] : List Str).Nodup := sc_law_plain.nd
  refine def_fn (k := 7) (N := ["_law_found", "_law_one"]) (ps := ["_law_found"]) F sc_law_plain fun cdv A outer s H E F0 hr hgd => ?_
  have hu64 : (A.deeper (envOfC "_law_plain" (defScope (topS 36)) s.heap.objs.size fa cdv)).units + 64 < cLine := hr.units
  have hu65 : (A.deeper (envOfC "_law_plain" (defScope (topS 36)) s.heap.objs.size fa cdv)).units + 65 < cLine := by have := hr.un; omega
  have pz := L2.passes_of (X := cxOf (L2.CX P w) P w K mg base ["_law_found", "_law_one"] "_law_plain" (defScope (topS 36)) fa cdv A outer s H E) rfl
  have tk : Takes (cxOf (L2.CX P w) P w K mg base ["_law_found", "_law_one"] "_law_plain" (defScope (topS 36)) fa cdv A outer s H E) (fun c d _ H' => E c d H') := takes_of rfl rfl rfl rfl
  exact (sss_cons (ss_if (st_of (se_isiT (Ts := ["list", "tuple"]) rfl T.b_isinstance (pa_cons (pe_bltn rfl T.b_list PyProof.Rows.boot_list (v := .ty "list") rfl) (pa_cons (pe_bltn rfl T.b_tuple PyProof.Rows.boot_tuple (v := .ty "tuple") rfl) pa_nil)) (fun _ _ _ q => q) (.cons (.ty "list") (.cons (.ty "tuple") .nil)) (show 2 ≤ sizeLine by decide) (se_var (pv 0)))) (sss_one (ss_ret (se_callB (c_all rfl) rfl T.b_all PyProof.Rows.boot_all (sa_cons (se_own (so_lc rfl nd (si_seq (se_var (pv 0))) (blkOk_by (own := [("_law_one", 1)]) (N := ["_law_found", "_law_one"]) (sc := defScope (topS 36)) (by decide +kernel)) (ng_name (i := 1) (by simp)) (fun _ _ _ _ _ => (pg_name (i := 1) nd rfl (Or.inl rfl))) (fun _ _ _ _ _ => sts_nil) (fun _ _ _ _ _ => (se_call (ok_law_plain_r5 T) takes0 (hr.mono (by decide)) hgd rfl (sa_cons (se_var (pv 1)) sa_nil) rfl (aCons_len aNil_len))))) sa_nil)))) sss_nil)
      (sss_one (ss_ret (se_or (se_isi (T := "str") rfl T.b_isinstance rfl T.b_str PyProof.Rows.boot_str (se_var (pv 0))) (se_one (se_call (ok_law_whole T) tk (hr.mono (by decide)) hgd rfl (sa_cons (se_var (pv 0)) sa_nil) rfl (aCons_len aNil_len)))))))
theorem ok_law_plain_r6 (T : Txt K mg xa) : Callee P w K mg base (exOf mg) "_law_plain" 1 (s_law_plain_2_n 6) 8 := by
  obtain ⟨fa, fd, F, hm, hb⟩ := T.f_law_plain
  exact ⟨fa, fd, _, fn_law_plain_r6 T F, hm, F.kp, hb⟩
set_option linter.unusedVariables false in
theorem fn_law_plain_r7 (T : Txt K mg xa) {fa : Addr} {fd : FuncData} (F : Fun K "_law_plain" "_law_plain" (topS 36) fa fd) : FnG P w K mg base 9 fa fd ["_law_found"] (CT.spF K (exOf mg) 1 (s_law_plain_2_F (s_law_plain_2_n 6))) := by
  have nd : (["_law_found", "_law_one"] : List Str).Nodup := sc_law_plain.nd
  refine def_fn (k := 8) (N := ["_law_found", "_law_one"]) (ps := ["_law_found"]) F sc_law_plain fun cdv A outer s H E F0 hr hgd => ?_
  have hu64 : (A.deeper (envOfC "_law_plain" (defScope (topS 36)) s.heap.objs.size fa cdv)).units + 64 < cLine := hr.units
  have hu65 : (A.deeper (envOfC "_law_plain" (defScope (topS 36)) s.heap.objs.size fa cdv)).units + 65 < cLine := by have := hr.un; omega
  have pz := L2.passes_of (X := cxOf (L2.CX P w) P w K mg base ["_law_found", "_law_one"] "_law_plain" (defScope (topS 36)) fa cdv A outer s H E) rfl
  have tk : Takes (cxOf (L2.CX P w) P w K mg base ["_law_found", "_law_one"] "_law_plain" (defScope (topS 36)) fa cdv A outer s H E) (fun c d _ H' => E c d H') := takes_of rfl rfl rfl rfl
  exact (sss_cons (ss_if (st_of (se_isiT (Ts := ["list", "tuple"]) rfl T.b_isinstance (pa_cons (pe_bltn rfl T.b_list PyProof.Rows.boot_list (v := .ty "list") rfl) (pa_cons (pe_bltn rfl T.b_tuple PyProof.Rows.boot_tuple (v := .ty "tuple") rfl) pa_nil)) (fun _ _ _ q => q) (.cons (.ty "list") (.cons (.ty "tuple") .nil)) (show 2 ≤ sizeLine by decide) (se_var (pv 0)))) (sss_one (ss_ret (se_callB (c_all rfl) rfl T.b_all PyProof.Rows.boot_all (sa_cons (se_own (so_lc rfl nd (si_seq (se_var (pv 0))) (blkOk_by (own := [("_law_one", 1)]) (N := ["_law_found", "_law_one"]) (sc := defScope (topS 36)) (by decide +kernel)) (ng_name (i := 1) (by simp)) (fun _ _ _ _ _ => (pg_name (i := 1) nd rfl (Or.inl rfl))) (fun _ _ _ _ _ => sts_nil) (fun _ _ _ _ _ => (se_call (ok_law_plain_r6 T) takes0 (hr.mono (by decide)) hgd rfl (sa_cons (se_var (pv 1)) sa_nil) rfl (aCons_len aNil_len))))) sa_nil)))) sss_nil)
      (sss_one (ss_ret (se_or (se_isi (T := "str") rfl T.b_isinstance rfl T.b_str PyProof.Rows.boot_str (se_var (pv 0))) (se_one (se_call (ok_law_whole T) tk (hr.mono (by decide)) hgd rfl (sa_cons (se_var (pv 0)) sa_nil) rfl (aCons_len aNil_len)))))))
theorem ok_law_plain_r7 (T : Txt K mg xa) : Callee P w K mg base (exOf mg) "_law_plain" 1 (s_law_plain_2_n 7) 9 := by
  obtain ⟨fa, fd, F, hm, hb⟩ := T.f_law_plain
  exact ⟨fa, fd, _, fn_law_plain_r7 T F, hm, F.kp, hb⟩
set_option linter.unusedVariables false in
theorem fn_law_plain_r8 (T : Txt K mg xa) {fa : Addr} {fd : FuncData} (F : Fun K "_law_plain" "_law_plain" (topS 36) fa fd) : FnG P w K mg base 10 fa fd ["_law_found"] (CT.spF K (exOf mg) 1 (s_law_plain_2_F (s_law_plain_2_n 7))) := by
  have nd : (["_law_found", "_law_one"] : List Str).Nodup := sc_law_plain.nd
  refine def_fn (k := 9) (N := ["_law_found", "_law_one"]) (ps := ["_law_found"]) F sc_law_plain fun cdv A outer s H E F0 hr hgd => ?_
  have hu64 : (A.deeper (envOfC "_law_plain" (defScope (topS 36)) s.heap.objs.size fa cdv)).units + 64 < cLine := hr.units
  have hu65 : (A.deeper (envOfC "_law_plain" (defScope (topS 36)) s.heap.objs.size fa cdv)).units + 65 < cLine := by have := hr.un; omega
  have pz := L2.passes_of (X := cxOf (L2.CX P w) P w K mg base ["_law_found", "_law_one"] "_law_plain" (defScope (topS 36)) fa cdv A outer s H E) rfl
  have tk : Takes (cxOf (L2.CX P w) P w K mg base ["_law_found", "_law_one"] "_law_plain" (defScope (topS 36)) fa cdv A outer s H E) (fun c d _ H' => E c d H') := takes_of rfl rfl rfl rfl
  exact (sss_cons (ss_if (st_of (se_isiT (Ts := ["list", "tuple"]) rfl T.b_isinstance (pa_cons (pe_bltn rfl T.b_list PyProof.Rows.boot_list (v := .ty "list") rfl) (pa_cons (pe_bltn rfl T.b_tuple PyProof.Rows.boot_tuple (v := .ty "tuple") rfl) pa_nil)) (fun _ _ _ q => q) (.cons (.ty "list") (.cons (.ty "tuple") .nil)) (show 2 ≤ sizeLine by decide) (se_var (pv 0)))) (sss_one (ss_ret (se_callB (c_all rfl) rfl T.b_all PyProof.Rows.boot_all (sa_cons (se_own (so_lc rfl nd (si_seq (se_var (pv 0))) (blkOk_by (own := [("_law_one", 1)]) (N := ["_law_found", "_law_one"]) (sc := defScope (topS 36)) (by decide +kernel)) (ng_name (i := 1) (by simp)) (fun _ _ _ _ _ => (pg_name (i := 1) nd rfl (Or.inl rfl))) (fun _ _ _ _ _ => sts_nil) (fun _ _ _ _ _ => (se_call (ok_law_plain_r7 T) takes0 (hr.mono (by decide)) hgd rfl (sa_cons (se_var (pv 1)) sa_nil) rfl (aCons_len aNil_len))))) sa_nil)))) sss_nil)
      (sss_one (ss_ret (se_or (se_isi (T := "str") rfl T.b_isinstance rfl T.b_str PyProof.Rows.boot_str (se_var (pv 0))) (se_one (se_call (ok_law_whole T) tk (hr.mono (by decide)) hgd rfl (sa_cons (se_var (pv 0)) sa_nil) rfl (aCons_len aNil_len)))))))
theorem ok_law_plain_r8 (T : Txt K mg xa) : Callee P w K mg base (exOf mg) "_law_plain" 1 (s_law_plain_2_n 8) 10 := by
  obtain ⟨fa, fd, F, hm, hb⟩ := T.f_law_plain
  exact ⟨fa, fd, _, fn_law_plain_r8 T F, hm, F.kp, hb⟩
set_option linter.unusedVariables false in
theorem fn_law_plain_r9 (T : Txt K mg xa) {fa : Addr} {fd : FuncData} (F : Fun K "_law_plain" "_law_plain" (topS 36) fa fd) : FnG P w K mg base 11 fa fd ["_law_found"] (CT.spF K (exOf mg) 1 (s_law_plain_2_F (s_law_plain_2_n 8))) := by
  have nd : (["_law_found", "_law_one"] : List Str).Nodup := sc_law_plain.nd
  refine def_fn (k := 10) (N := ["_law_found", "_law_one"]) (ps := ["_law_found"]) F sc_law_plain fun cdv A outer s H E F0 hr hgd => ?_
  have hu64 : (A.deeper (envOfC "_law_plain" (defScope (topS 36)) s.heap.objs.size fa cdv)).units + 64 < cLine := hr.units
  have hu65 : (A.deeper (envOfC "_law_plain" (defScope (topS 36)) s.heap.objs.size fa cdv)).units + 65 < cLine := by have := hr.un; omega
  have pz := L2.passes_of (X := cxOf (L2.CX P w) P w K mg base ["_law_found", "_law_one"] "_law_plain" (defScope (topS 36)) fa cdv A outer s H E) rfl
  have tk : Takes (cxOf (L2.CX P w) P w K mg base ["_law_found", "_law_one"] "_law_plain" (defScope (topS 36)) fa cdv A outer s H E) (fun c d _ H' => E c d H') := takes_of rfl rfl rfl rfl
  exact (sss_cons (ss_if (st_of (se_isiT (Ts := ["list", "tuple"]) rfl T.b_isinstance (pa_cons (pe_bltn rfl T.b_list PyProof.Rows.boot_list (v := .ty "list") rfl) (pa_cons (pe_bltn rfl T.b_tuple PyProof.Rows.boot_tuple (v := .ty "tuple") rfl) pa_nil)) (fun _ _ _ q => q) (.cons (.ty "list") (.cons (.ty "tuple") .nil)) (show 2 ≤ sizeLine by decide) (se_var (pv 0)))) (sss_one (ss_ret (se_callB (c_all rfl) rfl T.b_all PyProof.Rows.boot_all (sa_cons (se_own (so_lc rfl nd (si_seq (se_var (pv 0))) (blkOk_by (own := [("_law_one", 1)]) (N := ["_law_found", "_law_one"]) (sc := defScope (topS 36)) (by decide +kernel)) (ng_name (i := 1) (by simp)) (fun _ _ _ _ _ => (pg_name (i := 1) nd rfl (Or.inl rfl))) (fun _ _ _ _ _ => sts_nil) (fun _ _ _ _ _ => (se_call (ok_law_plain_r8 T) takes0 (hr.mono (by decide)) hgd rfl (sa_cons (se_var (pv 1)) sa_nil) rfl (aCons_len aNil_len))))) sa_nil)))) sss_nil)
      (sss_one (ss_ret (se_or (se_isi (T := "str") rfl T.b_isinstance rfl T.b_str PyProof.Rows.boot_str (se_var (pv 0))) (se_one (se_call (ok_law_whole T) tk (hr.mono (by decide)) hgd rfl (sa_cons (se_var (pv 0)) sa_nil) rfl (aCons_len aNil_len)))))))
theorem ok_law_plain_r9 (T : Txt K mg xa) : Callee P w K mg base (exOf mg) "_law_plain" 1 (s_law_plain_2_n 9) 11 := by
  obtain ⟨fa, fd, F, hm, hb⟩ := T.f_law_plain
  exact ⟨fa, fd, _, fn_law_plain_r9 T F, hm, F.kp, hb⟩
set_option linter.unusedVariables false in
theorem fn_law_plain_r10 (T : Txt K mg xa) {fa : Addr} {fd : FuncData} (F : Fun K "_law_plain" "_law_plain" (topS 36) fa fd) : FnG P w K mg base 12 fa fd ["_law_found"] (CT.spF K (exOf mg) 1 (s_law_plain_2_F (s_law_plain_2_n 9))) := by
  have nd : (["_law_found", "_law_one"] : List Str).Nodup := sc_law_plain.nd
  refine def_fn (k := 11) (N := ["_law_found", "_law_one"]) (ps := ["_law_found"]) F sc_law_plain fun cdv A outer s H E F0 hr hgd => ?_
  have hu64 : (A.deeper (envOfC "_law_plain" (defScope (topS 36)) s.heap.objs.size fa cdv)).units + 64 < cLine := hr.units
  have hu65 : (A.deeper (envOfC "_law_plain" (defScope (topS 36)) s.heap.objs.size fa cdv)).units + 65 < cLine := by have := hr.un; omega
  have pz := L2.passes_of (X := cxOf (L2.CX P w) P w K mg base ["_law_found", "_law_one"] "_law_plain" (defScope (topS 36)) fa cdv A outer s H E) rfl
  have tk : Takes (cxOf (L2.CX P w) P w K mg base ["_law_found", "_law_one"] "_law_plain" (defScope (topS 36)) fa cdv A outer s H E) (fun c d _ H' => E c d H') := takes_of rfl rfl rfl rfl
  exact (sss_cons (ss_if (st_of (se_isiT (Ts := ["list", "tuple"]) rfl T.b_isinstance (pa_cons (pe_bltn rfl T.b_list PyProof.Rows.boot_list (v := .ty "list") rfl) (pa_cons (pe_bltn rfl T.b_tuple PyProof.Rows.boot_tuple (v := .ty "tuple") rfl) pa_nil)) (fun _ _ _ q => q) (.cons (.ty "list") (.cons (.ty "tuple") .nil)) (show 2 ≤ sizeLine by decide) (se_var (pv 0)))) (sss_one (ss_ret (se_callB (c_all rfl) rfl T.b_all PyProof.Rows.boot_all (sa_cons (se_own (so_lc rfl nd (si_seq (se_var (pv 0))) (blkOk_by (own := [("_law_one", 1)]) (N := ["_law_found", "_law_one"]) (sc := defScope (topS 36)) (by decide +kernel)) (ng_name (i := 1) (by simp)) (fun _ _ _ _ _ => (pg_name (i := 1) nd rfl (Or.inl rfl))) (fun _ _ _ _ _ => sts_nil) (fun _ _ _ _ _ => (se_call (ok_law_plain_r9 T) takes0 (hr.mono (by decide)) hgd rfl (sa_cons (se_var (pv 1)) sa_nil) rfl (aCons_len aNil_len))))) sa_nil)))) sss_nil)
      (sss_one (ss_ret (se_or (se_isi (T := "str") rfl T.b_isinstance rfl T.b_str PyProof.Rows.boot_str (se_var (pv 0))) (se_one (se_call (ok_law_whole T) tk (hr.mono (by decide)) hgd rfl (sa_cons (se_var (pv 0)) sa_nil) rfl (aCons_len aNil_len)))))))
theorem ok_law_plain_r10 (T : Txt K mg xa) : Callee P w K mg base (exOf mg) "_law_plain" 1 (s_law_plain_2_n 10) 12 := by
  obtain ⟨fa, fd, F, hm, hb⟩ := T.f_law_plain
  exact ⟨fa, fd, _, fn_law_plain_r10 T F, hm, F.kp, hb⟩
theorem ok_law_plain (T : Txt K mg xa) : Callee P w K mg base (exOf mg) "_law_plain" 1 s_law_plain_2 12 := ok_law_plain_r10 T
theorem sc_law_well : FnScope ["_law_train_here", "_law_stand_here", "_law_handed", "_law_texts", "_law_found", "_law_told", "_law_place", "_law_one"] ["_law_train_here", "_law_stand_here"] (defScope (topS 37)) := ⟨rfl, rfl, rfl, by decide +kernel, rfl, by decide +kernel, by decide +kernel⟩
set_option linter.unusedVariables false in
theorem fn_law_well (T : Txt K mg xa) {fa : Addr} {fd : FuncData} (F : Fun K "_law_well" "_law_well" (topS 37) fa fd) : FnG P w K mg base 13 fa fd ["_law_train_here", "_law_stand_here"] (CT.spF K (exOf mg) 2 s_law_well) := by
  have nd : (["_law_train_here", "_law_stand_here", "_law_handed", "_law_texts", "_law_found", "_law_told", "_law_place", "_law_one"] : List Str).Nodup := sc_law_well.nd
  refine def_fn (k := 12) (N := ["_law_train_here", "_law_stand_here", "_law_handed", "_law_texts", "_law_found", "_law_told", "_law_place", "_law_one"]) (ps := ["_law_train_here", "_law_stand_here"]) F sc_law_well fun cdv A outer s H E F0 hr hgd => ?_
  have hu64 : (A.deeper (envOfC "_law_well" (defScope (topS 37)) s.heap.objs.size fa cdv)).units + 64 < cLine := hr.units
  have hu65 : (A.deeper (envOfC "_law_well" (defScope (topS 37)) s.heap.objs.size fa cdv)).units + 65 < cLine := by have := hr.un; omega
  have pz := L2.passes_of (X := cxOf (L2.CX P w) P w K mg base ["_law_train_here", "_law_stand_here", "_law_handed", "_law_texts", "_law_found", "_law_told", "_law_place", "_law_one"] "_law_well" (defScope (topS 37)) fa cdv A outer s H E) rfl
  have tk : Takes (cxOf (L2.CX P w) P w K mg base ["_law_train_here", "_law_stand_here", "_law_handed", "_law_texts", "_law_found", "_law_told", "_law_place", "_law_one"] "_law_well" (defScope (topS 37)) fa cdv A outer s H E) (fun c d _ H' => E c d H') := takes_of rfl rfl rfl rfl
  exact (sss_cons (ss_set (i := 2) nd rfl (by first | exact Or.inl rfl | exact Or.inr rfl) (se_own (so_list rfl T.b_list (sa_cons (se_var (pv 0)) sa_nil))))
      (sss_cons (ss_set (i := 3) nd rfl (by first | exact Or.inl rfl | exact Or.inr rfl) (se_own (so_lst (sa_cons (se_call (ok_law_train_text T) tk (hr.mono (by decide)) hgd rfl (sa_cons (se_var (pv 0)) sa_nil) rfl (aCons_len aNil_len)) (sa_cons (se_call (ok_law_stand_text T) tk (hr.mono (by decide)) hgd rfl (sa_cons (se_var (pv 1)) sa_nil) rfl (aCons_len aNil_len)) sa_nil)))))
      (sss_cons (ss_set (i := 4) nd rfl (by first | exact Or.inl rfl | exact Or.inr rfl) (se_own (so_lst (sa_cons (se_call (ok_show_train T) tk (hr.mono (by decide)) hgd rfl (sa_cons (se_var (pv 2)) sa_nil) rfl (aCons_len aNil_len)) (sa_cons (se_call (ok_show_stand T) tk (hr.mono (by decide)) hgd rfl (sa_cons (se_var (pv 1)) sa_nil) rfl (aCons_len aNil_len)) sa_nil)))))
      (sss_cons (ss_if (st_w (sw_or (st_cmp (o_ne hu64) (se_var (pv 4)) (se_var (pv 3)) (nomark _)) (sw_or (st_not (st_of (se_callB (c_all rfl) rfl T.b_all PyProof.Rows.boot_all (sa_cons (se_own (so_lc rfl nd (si_seq (se_var (pv 4))) (blkOk_by (own := [("_law_one", 7)]) (N := ["_law_train_here", "_law_stand_here", "_law_handed", "_law_texts", "_law_found", "_law_told", "_law_place", "_law_one"]) (sc := defScope (topS 37)) (by decide +kernel)) (ng_name (i := 7) (by simp)) (fun _ _ _ _ _ => (pg_name (i := 7) nd rfl (Or.inl rfl))) (fun _ _ _ _ _ => sts_nil) (fun _ _ _ _ _ => (se_isi (T := "str") rfl T.b_isinstance rfl T.b_str PyProof.Rows.boot_str (se_var (pv 7)))))) sa_nil)))) (sw_or1 (st_cmp (o_ne hu64) (se_var (pv 2)) (se_var (pv 0)) (nomark _)))))) (sss_one (ss_ret se_bl)) sss_nil)
      (sss_cons (ss_setO (i := 5) nd rfl (by first | exact Or.inl rfl | exact Or.inr rfl) (so_call (ok_read_train T) tk (hr.mono (by decide)) hgd rfl (sa_cons (se_ix (se_var (pv 3)) se_int) sa_nil) rfl (aCons_len aNil_len)))
      (sss_cons (ss_if (st_w (sw_or (st_not (st_of (se_isi (T := "list") rfl T.b_isinstance rfl T.b_list PyProof.Rows.boot_list (se_var (pv 5))))) (sw_or (st_cmp (o_ne hu64) (se_var (pv 5)) (se_var (pv 0)) (nomark _)) (sw_or1 (st_not (st_of (se_call (ok_law_plain T) tk (hr.mono (by decide)) hgd rfl (sa_cons (se_var (pv 5)) sa_nil) rfl (aCons_len aNil_len)))))))) (sss_one (ss_ret se_bl)) sss_nil)
      (sss_cons (ss_app (pv 5) se_non)
      (sss_cons (ss_set (i := 6) nd rfl (by first | exact Or.inl rfl | exact Or.inr rfl) (se_call (ok_read_stand T) tk (hr.mono (by decide)) hgd rfl (sa_cons (se_ix (se_var (pv 3)) se_int) sa_nil) rfl (aCons_len aNil_len)))
      (sss_one (ss_ret (se_and (se_isi (T := "tuple") rfl T.b_isinstance rfl T.b_tuple PyProof.Rows.boot_tuple (se_var (pv 6))) (se_and (se_cmp (o_eq hu64) (se_var (pv 6)) (se_var (pv 1)) (nomark _)) (se_and (se_call (ok_law_plain T) tk (hr.mono (by decide)) hgd rfl (sa_cons (se_var (pv 6)) sa_nil) rfl (aCons_len aNil_len)) (se_one (se_cmp (o_eq hu64) (se_call (ok_read_train T) tk (hr.mono (by decide)) hgd rfl (sa_cons (se_ix (se_var (pv 3)) se_int) sa_nil) rfl (aCons_len aNil_len)) (se_var (pv 0)) (nomark _))))))))))))))))
theorem ok_law_well (T : Txt K mg xa) : Callee P w K mg base (exOf mg) "_law_well" 2 s_law_well 13 := by
  obtain ⟨fa, fd, F, hm, hb⟩ := T.f_law_well
  exact ⟨fa, fd, _, fn_law_well T F, hm, F.kp, hb⟩
theorem sc_law_odd_train : FnScope ["_law_draws_here", "_law_train_here", "_law_some", "_law_odd"] ["_law_draws_here", "_law_train_here"] (defScope (topS 38)) := ⟨rfl, rfl, rfl, by decide +kernel, rfl, by decide +kernel, by decide +kernel⟩
set_option linter.unusedVariables false in
theorem fn_law_odd_train (T : Txt K mg xa) {fa : Addr} {fd : FuncData} (F : Fun K "_law_odd_train" "_law_odd_train" (topS 38) fa fd) : FnG P w K mg base 2 fa fd ["_law_draws_here", "_law_train_here"] (CT.spL K 1 s_law_odd_train_2) := by
  have nd : (["_law_draws_here", "_law_train_here", "_law_some", "_law_odd"] : List Str).Nodup := sc_law_odd_train.nd
  refine def_fnL (k := 1) (N := ["_law_draws_here", "_law_train_here", "_law_some", "_law_odd"]) (ps := ["_law_draws_here", "_law_train_here"]) (n := 1) (ex := exOf mg) F sc_law_odd_train rfl fun cdv A outer s H E F0 H0 hr hgd => ?_
  have hu64 : (A.deeper (envOfC "_law_odd_train" (defScope (topS 38)) s.heap.objs.size fa cdv)).units + 64 < cLine := hr.units
  have hu65 : (A.deeper (envOfC "_law_odd_train" (defScope (topS 38)) s.heap.objs.size fa cdv)).units + 65 < cLine := by have := hr.un; omega
  have pz := L2.passes_of (X := (cxOf (L2.CX P w) P w K mg base ["_law_draws_here", "_law_train_here", "_law_some", "_law_odd"] "_law_odd_train" (defScope (topS 38)) fa cdv A outer s H E)) rfl
  have tk : Takes (cxOf (L2.CX P w) P w K mg base ["_law_draws_here", "_law_train_here", "_law_some", "_law_odd"] "_law_odd_train" (defScope (topS 38)) fa cdv A outer s H E) (fun c d _ H' => E c d H') := takes_of rfl rfl rfl rfl
  exact (sb_cons (W := fun c d _ H' => E c d H') (ss_set (i := 2) nd rfl (by first | exact Or.inl rfl | exact Or.inr rfl) (se_own (so_lst (sa_cons se_non (sa_cons (se_tup sa_nil) (sa_cons (se_own (so_lst sa_nil)) (sa_cons (se_callTy c_tuple rfl T.b_tuple PyProof.Rows.boot_tuple (sa_cons (se_var (pv 1)) sa_nil)) (sa_cons se_str (sa_cons (se_own (so_lst (sa_cons se_non sa_nil))) (sa_cons (se_own (so_lst (sa_cons (se_tup sa_nil) sa_nil))) (sa_cons (se_own (so_lst (sa_cons (se_own (so_lst (sa_cons se_str sa_nil))) sa_nil))) (sa_cons (se_own (so_lst (sa_cons (se_tup (sa_cons se_str (sa_cons se_int sa_nil))) sa_nil))) (sa_cons (se_own (so_lst (sa_cons (se_tup (sa_cons se_str sa_nil)) sa_nil))) sa_nil)))))))))))))
      (sb_cons (W := fun c d _ H' => E c d H') (ss_set (i := 2) nd rfl (by first | exact Or.inl rfl | exact Or.inr rfl) (se_bin o_add (se_var (pv 2)) (se_own (so_lst (sa_cons (se_own (so_lst (sa_cons (se_tup (sa_cons se_str (sa_cons se_int sa_nil))) sa_nil))) (sa_cons (se_own (so_lst (sa_cons (se_tup (sa_cons se_str (sa_cons se_int (sa_cons (se_tup sa_nil) sa_nil)))) sa_nil))) (sa_cons (se_own (so_lst (sa_cons (se_tup (sa_cons se_str (sa_cons se_int (sa_cons (se_own (so_lst (sa_cons se_int sa_nil))) sa_nil)))) sa_nil))) (sa_cons (se_own (so_lst (sa_cons (se_tup (sa_cons se_str (sa_cons se_int (sa_cons (se_tup (sa_cons se_int (sa_cons se_int sa_nil))) sa_nil)))) sa_nil))) sa_nil))))))))
      (sb_cons (W := fun c d _ H' => E c d H') (ss_set (i := 2) nd rfl (by first | exact Or.inl rfl | exact Or.inr rfl) (se_bin o_add (se_var (pv 2)) (se_own (so_lst (sa_cons (se_own (so_lst (sa_cons (se_tup (sa_cons se_str (sa_cons se_int (sa_cons (se_tup (sa_cons se_int (sa_cons se_int sa_nil))) sa_nil)))) sa_nil))) sa_nil)))))
      (sb_cons (W := fun c d _ H' => E c d H') (ss_set (i := 2) nd rfl (by first | exact Or.inl rfl | exact Or.inr rfl) (se_bin o_add (se_var (pv 2)) (se_own (so_lst (sa_cons (se_own (so_lst (sa_cons (se_tup (sa_cons se_str (sa_cons se_int (sa_cons (se_tup (sa_cons se_int sa_nil)) sa_nil)))) sa_nil))) (sa_cons (se_own (so_lst (sa_cons (se_tup (sa_cons se_str (sa_cons se_int (sa_cons (se_tup (sa_cons (se_bin o_sub se_int se_int) sa_nil)) sa_nil)))) sa_nil))) (sa_cons (se_own (so_lst (sa_cons (se_tup (sa_cons se_str (sa_cons se_bl (sa_cons (se_tup sa_nil) sa_nil)))) sa_nil))) (sa_cons (se_own (so_lst (sa_cons (se_tup (sa_cons se_str (sa_cons se_int (sa_cons (se_tup (sa_cons se_non sa_nil)) sa_nil)))) sa_nil))) sa_nil))))))))
      (sb_cons (W := fun c d _ H' => E c d H') (ss_set (i := 2) nd rfl (by first | exact Or.inl rfl | exact Or.inr rfl) (se_bin o_add (se_var (pv 2)) (se_own (so_lst (sa_cons (se_own (so_lst (sa_cons (se_tup (sa_cons se_str sa_nil)) sa_nil))) (sa_cons (se_own (so_lst (sa_cons (se_tup (sa_cons se_str (sa_cons se_int sa_nil))) sa_nil))) (sa_cons (se_own (so_lst (sa_cons (se_tup (sa_cons se_str (sa_cons (se_bin o_sub se_int se_int) sa_nil))) sa_nil))) (sa_cons (se_own (so_lst (sa_cons (se_tup (sa_cons se_str (sa_cons se_str sa_nil))) sa_nil))) (sa_cons (se_own (so_lst (sa_cons (se_tup (sa_cons se_str (sa_cons se_int (sa_cons se_int sa_nil)))) sa_nil))) sa_nil)))))))))
      (sb_cons (W := fun c d _ H' => E c d H') (ss_set (i := 2) nd rfl (by first | exact Or.inl rfl | exact Or.inr rfl) (se_bin o_add (se_var (pv 2)) (se_own (so_lst (sa_cons (se_bin o_add (se_var (pv 1)) (se_own (so_lst (sa_cons se_int sa_nil)))) (sa_cons (se_own (so_lst (sa_cons (se_tup (sa_cons se_str (sa_cons se_int sa_nil))) sa_nil))) (sa_cons (se_own (so_lst (sa_cons (se_tup (sa_cons se_str sa_nil)) (sa_cons se_str sa_nil)))) (sa_cons (se_own (so_lst (sa_cons (se_tup (sa_cons se_str (sa_cons se_int (sa_cons (se_tup (sa_cons se_int sa_nil)) (sa_cons (se_tup sa_nil) sa_nil))))) sa_nil))) (sa_cons (se_own (so_lst (sa_cons (se_tup (sa_cons se_int sa_nil)) sa_nil))) (sa_cons (se_own (so_lst (sa_cons (se_own (so_lst sa_nil)) sa_nil))) sa_nil))))))))))
      (sb_cons (W := fun c d _ H' => E c d H') (ss_set (i := 2) nd rfl (by first | exact Or.inl rfl | exact Or.inr rfl) (se_bin o_add (se_var (pv 2)) (se_own (so_lst (sa_cons (se_bin o_pow se_int se_int) (sa_cons se_bl sa_nil))))))
      (sb_cons (W := fun c d _ H' => E c d H') (ss_setX (i := 3) nd rfl (by first | exact Or.inl rfl | exact Or.inr rfl) (sx_ix (sx_of (W := fun c d _ H' => E c d H') (se_var (pv 2))) (sx_bin (W := WF) o_mod (sx_callL (i := 0) (ok_law_next T) tk (hr.mono (by decide)) hgd rfl (pv 0) sxa_nil xaNil_len) (sx_of (W := fun c d _ H' => E c d H') se_int))))
      (sb_cons (W := fun c d _ H' => E c d H') (ss_if (st_w (sw_and (st_of (se_isi (T := "list") rfl T.b_isinstance rfl T.b_list PyProof.Rows.boot_list (se_var (pv 3)))) (sw_and1 (st_cmp (o_ne hu64) (se_var (pv 3)) (se_own (so_lst sa_nil)) (nomark _))))) (sss_one (ss_setX (i := 3) nd rfl (by first | exact Or.inl rfl | exact Or.inr rfl) (sx_ix (sx_of (W := fun c d _ H' => E c d H') (se_own (so_lst (sa_cons (se_var (pv 3)) (sa_cons (se_bin o_add (se_var (pv 1)) (se_var (pv 3))) (sa_cons (se_bin o_add (se_var (pv 3)) (se_var (pv 1))) sa_nil)))))) (sx_bin (W := WF) o_mod (sx_callL (i := 0) (ok_law_next T) tk (hr.mono (by decide)) hgd rfl (pv 0) sxa_nil xaNil_len) (sx_of (W := fun c d _ H' => E c d H') se_int))))) sss_nil)
      (sb_ret (W := fun c d _ H' => E c d H') (se_var (pv 3))))))))))))
theorem ok_law_odd_train (T : Txt K mg xa) : CalleeL P w K mg base "_law_odd_train" 1 s_law_odd_train_2 2 := by
  obtain ⟨fa, fd, F, hm, hb⟩ := T.f_law_odd_train
  exact ⟨fa, fd, _, fn_law_odd_train T F, hm, F.kp, hb⟩
theorem sc_law_refused : FnScope ["_law_thing", "_law_error", "_law_kept", "e"] ["_law_thing"] (defScope (topS 39)) := ⟨rfl, rfl, rfl, by decide +kernel, rfl, by decide +kernel, by decide +kernel⟩
set_option linter.unusedVariables false in
theorem fn_law_refused (T : Txt K mg xa) {fa : Addr} {fd : FuncData} (F : Fun K "_law_refused" "_law_refused" (topS 39) fa fd) : FnG P w K mg base 6 fa fd ["_law_thing"] (CT.spF K (exOf mg) 1 s_law_refused_2_xTra) := by
  have nd : (["_law_thing", "_law_error", "_law_kept", "e"] : List Str).Nodup := sc_law_refused.nd
  refine def_fn (k := 5) (N := ["_law_thing", "_law_error", "_law_kept", "e"]) (ps := ["_law_thing"]) F sc_law_refused fun cdv A outer s H E F0 hr hgd => ?_
  have hu64 : (A.deeper (envOfC "_law_refused" (defScope (topS 39)) s.heap.objs.size fa cdv)).units + 64 < cLine := hr.units
  have hu65 : (A.deeper (envOfC "_law_refused" (defScope (topS 39)) s.heap.objs.size fa cdv)).units + 65 < cLine := by have := hr.un; omega
  have pz := L2.passes_of (X := cxOf (L2.CX P w) P w K mg base ["_law_thing", "_law_error", "_law_kept", "e"] "_law_refused" (defScope (topS 39)) fa cdv A outer s H E) rfl
  have tk : Takes (cxOf (L2.CX P w) P w K mg base ["_law_thing", "_law_error", "_law_kept", "e"] "_law_refused" (defScope (topS 39)) fa cdv A outer s H E) (fun c d _ H' => E c d H') := takes_of rfl rfl rfl rfl
  exact (sss_cons (ss_set (i := 1) nd rfl (by first | exact Or.inl rfl | exact Or.inr rfl) se_non)
      (sss_cons (ss_set (i := 2) nd rfl (by first | exact Or.inl rfl | exact Or.inr rfl) (se_callTy (c_strA hu65 hgd) rfl T.b_str PyProof.Rows.boot_str (sa_cons (se_var (pv 0)) sa_nil)))
      (sss_cons (ss_tryK (known := ["NoTrain"]) (i := 3) (j := 1) nd rfl rfl (by decide) ⟨rfl, by decide, .inl T.g_TrainError⟩ tk (kn_cons T.w_NoTrain_TrainError kn_nil) (fun W2 pn2 xe2 tk pz => (sss_one (ss_exp (se_call (ok_show_train T) tk (hr.mono (by decide)) hgd rfl (sa_cons (se_var (pv 0)) sa_nil) rfl (aCons_len aNil_len))))) (by first | exact Or.inl rfl | exact Or.inr rfl) (by first | exact Or.inl rfl | exact Or.inr (Or.inl rfl) | exact Or.inr (Or.inr rfl)))
      (sss_cons (ss_if (st_w (sw_or (st_not (st_of (se_isXN (tbl := [("NoTrain", true)]) T.j_NoTrain rfl T.b_isinstance (pe_cls rfl T.g_NoTrain) (.own _) (kx_cons T.q_NoTrain T.i_NoTrain_NoTrain kx_nil) (se_var (pv 1))))) (sw_or (st_not (st_of (se_isXN (tbl := [("NoTrain", true)]) T.j_ValueError rfl T.b_isinstance (pe_bltn rfl T.b_ValueError (by decide +kernel) (v := .ty "ValueError") rfl) (.ty "ValueError") (kx_cons T.q_NoTrain T.i_NoTrain_ValueError kx_nil) (se_var (pv 1))))) (sw_or1 (st_cmp (o_ne hu64) (se_callTy (c_strA hu65 hgd) rfl T.b_str PyProof.Rows.boot_str (sa_cons (se_var (pv 0)) sa_nil)) (se_var (pv 2)) (nomark _)))))) (sss_one (ss_ret se_bl)) sss_nil)
      (sss_one (ss_ret (se_not (se_isXT (tbl := [("NoTrain", false)]) rfl T.b_isinstance (pa_cons (pe_cls rfl T.g_NoCount) (pa_cons (pe_cls rfl T.g_NoRow) (pa_cons (pe_cls rfl T.g_NoStand) (pa_cons (pe_cls rfl T.g_NoText) (pa_cons (pe_cls rfl T.g_TooMany) pa_nil))))) (fun _ _ _ q => q) (.cons (.own _) (.cons (.own _) (.cons (.own _) (.cons (.own _) (.cons (.own _) .nil))))) (show 5 ≤ sizeLine by decide) (ka_cons T.q_NoTrain (kitAny_cons T.i_NoTrain_NoCount (fun _ => (kitAny_cons T.i_NoTrain_NoRow (fun _ => (kitAny_cons T.i_NoTrain_NoStand (fun _ => (kitAny_cons T.i_NoTrain_NoText (fun _ => (kitAny_cons T.i_NoTrain_TooMany (fun _ => kitAny_nil) (fun z => nomatch z))) (fun z => nomatch z))) (fun z => nomatch z))) (fun z => nomatch z))) (fun z => nomatch z)) ka_nil) (se_var (pv 1))))))))))
theorem ok_law_refused (T : Txt K mg xa) : Callee P w K mg base (exOf mg) "_law_refused" 1 s_law_refused_2_xTra 6 := by
  obtain ⟨fa, fd, F, hm, hb⟩ := T.f_law_refused
  exact ⟨fa, fd, _, fn_law_refused T F, hm, F.kp, hb⟩
theorem sc_law : FnScope ["_law_script", "_law_first", "_law_train_here", "_law_cell", "_law_draws_here", "_law_some", "_law_k", "_law_stand_here"] ["_law_script"] (defScope (topS 40)) := ⟨rfl, rfl, rfl, by decide +kernel, rfl, by decide +kernel, by decide +kernel⟩
set_option linter.unusedVariables false in
theorem fn_law (T : Txt K mg xa) {fa : Addr} {fd : FuncData} (F : Fun K "law" "law" (topS 40) fa fd) : FnG P w K mg base 14 fa fd ["_law_script"] (CT.spF K (exOf mg) 1 s_law_41_xTra) := by
  have nd : (["_law_script", "_law_first", "_law_train_here", "_law_cell", "_law_draws_here", "_law_some", "_law_k", "_law_stand_here"] : List Str).Nodup := sc_law.nd
  refine def_fn (k := 13) (N := ["_law_script", "_law_first", "_law_train_here", "_law_cell", "_law_draws_here", "_law_some", "_law_k", "_law_stand_here"]) (ps := ["_law_script"]) F sc_law fun cdv A outer s H E F0 hr hgd => ?_
  have hu64 : (A.deeper (envOfC "law" (defScope (topS 40)) s.heap.objs.size fa cdv)).units + 64 < cLine := hr.units
  have hu65 : (A.deeper (envOfC "law" (defScope (topS 40)) s.heap.objs.size fa cdv)).units + 65 < cLine := by have := hr.un; omega
  have pz := L2.passes_of (X := cxOf (L2.CX P w) P w K mg base ["_law_script", "_law_first", "_law_train_here", "_law_cell", "_law_draws_here", "_law_some", "_law_k", "_law_stand_here"] "law" (defScope (topS 40)) fa cdv A outer s H E) rfl
  have tk : Takes (cxOf (L2.CX P w) P w K mg base ["_law_script", "_law_first", "_law_train_here", "_law_cell", "_law_draws_here", "_law_some", "_law_k", "_law_stand_here"] "law" (defScope (topS 40)) fa cdv A outer s H E) (fun c d _ H' => E c d H') := takes_of rfl rfl rfl rfl
  exact (sss_cons (ss_set (i := 1) nd rfl (by first | exact Or.inl rfl | exact Or.inr rfl) (se_bin o_add (se_bin o_pow se_int se_int) (se_callNE (ok_law_next T) tk (hr.mono (by decide)) hgd rfl (so_call (ok_law_draws T) tk (hr.mono (by decide)) hgd rfl (sa_cons (se_ix (se_bin o_addF (se_var (pv 0)) (se_own (so_lst (sa_cons se_int sa_nil)))) se_int) sa_nil) rfl (aCons_len aNil_len)) sa_nil aNil_len)))
      (sss_cons (ss_set (i := 2) nd rfl (by first | exact Or.inl rfl | exact Or.inr rfl) (se_bin o_rep (se_own (so_lst (sa_cons (se_tup (sa_cons se_str (sa_cons (se_bin o_sub (se_bin o_pow se_int se_int) se_int) (sa_cons (se_callTy c_tuple rfl T.b_tuple PyProof.Rows.boot_tuple (sa_cons (se_own (so_lc rfl nd (si_rng1 rfl T.b_range (sa_cons se_int sa_nil)) (blkOk_by (own := [("_law_k", 6)]) (N := ["_law_script", "_law_first", "_law_train_here", "_law_cell", "_law_draws_here", "_law_some", "_law_k", "_law_stand_here"]) (sc := defScope (topS 40)) (by decide +kernel)) (ng_name (i := 6) (by simp)) (fun _ _ _ _ _ => (pg_name (i := 6) nd rfl (Or.inl rfl))) (fun _ _ _ _ _ => sts_nil) (fun _ _ _ _ _ => (se_bin o_add (se_var (pv 1)) (se_var (pv 6)))))) sa_nil)) sa_nil)))) sa_nil))) se_int))
      (sss_cons (ss_if (st_not (st_of (se_call (ok_law_well T) tk (hr.mono (by decide)) hgd rfl (sa_cons (se_var (pv 2)) (sa_cons (se_bin o_repT (se_tup (sa_cons se_int sa_nil)) se_int) sa_nil)) rfl (aCons_len (aCons_len aNil_len))))) (sss_one (ss_ret se_bl)) sss_nil)
      (sss_cons (ss_for (vs := [3]) pz rfl (si_seq (se_bin o_add (se_cut (se_var (pv 0)) sp_no (sp_so se_int)) (se_own (so_lst (sa_cons se_int sa_nil))))) (pg_name (i := 3) nd rfl (by first | exact Or.inl rfl | exact Or.inr rfl)) (ng_name (i := 3) (by simp)) (sss_newL (i := 4) nd rfl (by first | exact Or.inl rfl | exact Or.inr rfl) (so_call (ok_law_draws T) tk (hr.mono (by decide)) hgd rfl (sa_cons (se_var (pv 3)) sa_nil) rfl (aCons_len aNil_len))
      (sss_cons (ss_setLcX (j := 5) rfl nd rfl rfl (sw_true rfl rfl rfl (by decide +kernel)) (six_of (W := fun c d _ H' => E c d H') (si_rng1 rfl T.b_range (sa_cons se_int sa_nil))) (blkOk_by (own := [("_law_k", 6)]) (N := ["_law_script", "_law_first", "_law_train_here", "_law_cell", "_law_draws_here", "_law_some", "_law_k", "_law_stand_here"]) (sc := defScope (topS 40)) (by decide +kernel)) (fun _ _ _ _ _ => (pg_name (i := 6) nd rfl (Or.inl rfl))) (fun _ _ _ _ _ => stxs_nil) (fun _ _ _ _ _ => (sx_tup (sxa_cons (sx_callL (i := 4) (ok_law_train T) takes0 (hr.mono (by decide)) hgd rfl (pv 4) sxa_nil xaNil_len) (sxa_cons (sx_callL (i := 4) (ok_law_stand T) takes0 (hr.mono (by decide)) hgd rfl (pv 4) sxa_nil xaNil_len) sxa_nil)))))
      (sss_cons (ss_for (vs := [6]) pz rfl (si_rng1 rfl T.b_range (sa_cons se_int sa_nil)) (pg_name (i := 6) nd rfl (by first | exact Or.inl rfl | exact Or.inr rfl)) (ng_name (i := 6) (by simp)) (sss_one (ss_ifX (sxt_not (sxt_val (sx_call (ok_law_refused T) tk (hr.mono (by decide)) hgd rfl (sxa_cons (sx_callL (i := 4) (ok_law_odd_train T) tk (hr.mono (by decide)) hgd rfl (pv 4) (sxa_cons (sx_of (W := fun c d _ H' => E c d H') (se_ix (se_ix (se_var (pv 5)) se_int) se_int)) sxa_nil) (xaCons_len xaNil_len)) sxa_nil) rfl (xaCons_len xaNil_len)))) (sss_one (ss_ret se_bl)) sss_nil)))
      (sss_cons (ss_set (i := 1) nd rfl (by first | exact Or.inl rfl | exact Or.inr rfl) (se_call (ok_read_train T) tk (hr.mono (by decide)) hgd rfl (sa_cons (se_call (ok_law_train_text T) tk (hr.mono (by decide)) hgd rfl (sa_cons (se_ix (se_ix (se_var (pv 5)) se_int) se_int) sa_nil) rfl (aCons_len aNil_len)) sa_nil) rfl (aCons_len aNil_len)))
      (sss_one (ss_for (vs := [2, 7]) pz rfl (si_seq (se_own (so_lst (sa_cons (se_ix (se_var (pv 5)) se_int) (sa_cons (se_ix (se_var (pv 5)) se_int) sa_nil))))) (pg_tup rfl (pgs_cons (pg_name (i := 2) nd rfl (by first | exact Or.inl rfl | exact Or.inr rfl)) (pgs_cons (pg_name (i := 7) nd rfl (by first | exact Or.inl rfl | exact Or.inr rfl)) pgs_nil))) (ng_tup (ngs_cons (ng_name (i := 2) (by simp)) (ngs_cons (ng_name (i := 7) (by simp)) ngs_nil))) (sss_one (ss_if (st_w (sw_or (st_not (st_of (se_call (ok_law_well T) tk (hr.mono (by decide)) hgd rfl (sa_cons (se_var (pv 2)) (sa_cons (se_var (pv 7)) sa_nil)) rfl (aCons_len (aCons_len aNil_len))))) (sw_or1 (st_cmp (o_ne hu64) (se_var (pv 1)) (se_ix (se_ix (se_var (pv 5)) se_int) se_int) (nomark _))))) (sss_one (ss_ret se_bl)) sss_nil)))))))))
      (sss_one (ss_ret se_bl))))))
end
theorem all_mk {l : PySem.W.OpenLaw} {w : World} {K : PySem.W.Frag} {h : Heap} {mg : Str → Option Value} {fa : Addr} (X : K.In h) (G : h.Ns mainGlobals mg) (hfa : mg "law" = some (.ref fa))
    {f0 : Addr} {od0 an0 : Option Addr} {sl0 : Array (Option Value)} {oc0 kV0 dc0 pm0 cd0 ct0 : Value}
    (a0 : PySem.W.nsIn K mainGlobals "is_whole" = some (some (.ref f0))) (l0 : K.lookup f0 = some ⟨oc0, od0, .func (PySem.W.fnOf "is_whole" "is_whole" (defArgs (topS 9)) (defBody (topS 9)) (defScope (topS 9)) .none kV0 dc0 pm0 an0 cd0 ct0), sl0⟩) (c0 : PySem.W.codeIn K cd0 "is_whole" = true) (k0 : PySem.W.keepIn K (.ref f0) = true)
    {f1 : Addr} {od1 an1 : Option Addr} {sl1 : Array (Option Value)} {oc1 kV1 dc1 pm1 cd1 ct1 : Value}
    (a1 : PySem.W.nsIn K mainGlobals "is_marks" = some (some (.ref f1))) (l1 : K.lookup f1 = some ⟨oc1, od1, .func (PySem.W.fnOf "is_marks" "is_marks" (defArgs (topS 10)) (defBody (topS 10)) (defScope (topS 10)) .none kV1 dc1 pm1 an1 cd1 ct1), sl1⟩) (c1 : PySem.W.codeIn K cd1 "is_marks" = true) (k1 : PySem.W.keepIn K (.ref f1) = true)
    {f2 : Addr} {od2 an2 : Option Addr} {sl2 : Array (Option Value)} {oc2 kV2 dc2 pm2 cd2 ct2 : Value}
    (a2 : PySem.W.nsIn K mainGlobals "is_part" = some (some (.ref f2))) (l2 : K.lookup f2 = some ⟨oc2, od2, .func (PySem.W.fnOf "is_part" "is_part" (defArgs (topS 11)) (defBody (topS 11)) (defScope (topS 11)) .none kV2 dc2 pm2 an2 cd2 ct2), sl2⟩) (c2 : PySem.W.codeIn K cd2 "is_part" = true) (k2 : PySem.W.keepIn K (.ref f2) = true)
    {f3 : Addr} {od3 an3 : Option Addr} {sl3 : Array (Option Value)} {oc3 kV3 dc3 pm3 cd3 ct3 : Value}
    (a3 : PySem.W.nsIn K mainGlobals "check_train" = some (some (.ref f3))) (l3 : K.lookup f3 = some ⟨oc3, od3, .func (PySem.W.fnOf "check_train" "check_train" (defArgs (topS 12)) (defBody (topS 12)) (defScope (topS 12)) .none kV3 dc3 pm3 an3 cd3 ct3), sl3⟩) (c3 : PySem.W.codeIn K cd3 "check_train" = true) (k3 : PySem.W.keepIn K (.ref f3) = true)
    {f4 : Addr} {od4 an4 : Option Addr} {sl4 : Array (Option Value)} {oc4 kV4 dc4 pm4 cd4 ct4 : Value}
    (a4 : PySem.W.nsIn K mainGlobals "sure" = some (some (.ref f4))) (l4 : K.lookup f4 = some ⟨oc4, od4, .func (PySem.W.fnOf "sure" "sure" (defArgs (topS 16)) (defBody (topS 16)) (defScope (topS 16)) .none kV4 dc4 pm4 an4 cd4 ct4), sl4⟩) (c4 : PySem.W.codeIn K cd4 "sure" = true) (k4 : PySem.W.keepIn K (.ref f4) = true)
    {f5 : Addr} {od5 an5 : Option Addr} {sl5 : Array (Option Value)} {oc5 kV5 dc5 pm5 cd5 ct5 : Value}
    (a5 : PySem.W.nsIn K mainGlobals "count_in" = some (some (.ref f5))) (l5 : K.lookup f5 = some ⟨oc5, od5, .func (PySem.W.fnOf "count_in" "count_in" (defArgs (topS 17)) (defBody (topS 17)) (defScope (topS 17)) .none kV5 dc5 pm5 an5 cd5 ct5), sl5⟩) (c5 : PySem.W.codeIn K cd5 "count_in" = true) (k5 : PySem.W.keepIn K (.ref f5) = true)
    {f6 : Addr} {od6 an6 : Option Addr} {sl6 : Array (Option Value)} {oc6 kV6 dc6 pm6 cd6 ct6 : Value}
    (a6 : PySem.W.nsIn K mainGlobals "part_in" = some (some (.ref f6))) (l6 : K.lookup f6 = some ⟨oc6, od6, .func (PySem.W.fnOf "part_in" "part_in" (defArgs (topS 19)) (defBody (topS 19)) (defScope (topS 19)) .none kV6 dc6 pm6 an6 cd6 ct6), sl6⟩) (c6 : PySem.W.codeIn K cd6 "part_in" = true) (k6 : PySem.W.keepIn K (.ref f6) = true)
    {f7 : Addr} {od7 an7 : Option Addr} {sl7 : Array (Option Value)} {oc7 kV7 dc7 pm7 cd7 ct7 : Value}
    (a7 : PySem.W.nsIn K mainGlobals "read_train" = some (some (.ref f7))) (l7 : K.lookup f7 = some ⟨oc7, od7, .func (PySem.W.fnOf "read_train" "read_train" (defArgs (topS 21)) (defBody (topS 21)) (defScope (topS 21)) .none kV7 dc7 pm7 an7 cd7 ct7), sl7⟩) (c7 : PySem.W.codeIn K cd7 "read_train" = true) (k7 : PySem.W.keepIn K (.ref f7) = true)
    {f8 : Addr} {od8 an8 : Option Addr} {sl8 : Array (Option Value)} {oc8 kV8 dc8 pm8 cd8 ct8 : Value}
    (a8 : PySem.W.nsIn K mainGlobals "_law_draws" = some (some (.ref f8))) (l8 : K.lookup f8 = some ⟨oc8, od8, .func (PySem.W.fnOf "_law_draws" "_law_draws" (defArgs (topS 25)) (defBody (topS 25)) (defScope (topS 25)) .none kV8 dc8 pm8 an8 cd8 ct8), sl8⟩) (c8 : PySem.W.codeIn K cd8 "_law_draws" = true) (k8 : PySem.W.keepIn K (.ref f8) = true)
    {f9 : Addr} {od9 an9 : Option Addr} {sl9 : Array (Option Value)} {oc9 kV9 dc9 pm9 cd9 ct9 : Value}
    (a9 : PySem.W.nsIn K mainGlobals "_law_next" = some (some (.ref f9))) (l9 : K.lookup f9 = some ⟨oc9, od9, .func (PySem.W.fnOf "_law_next" "_law_next" (defArgs (topS 26)) (defBody (topS 26)) (defScope (topS 26)) .none kV9 dc9 pm9 an9 cd9 ct9), sl9⟩) (c9 : PySem.W.codeIn K cd9 "_law_next" = true) (k9 : PySem.W.keepIn K (.ref f9) = true)
    {f10 : Addr} {od10 an10 : Option Addr} {sl10 : Array (Option Value)} {oc10 kV10 dc10 pm10 cd10 ct10 : Value}
    (a10 : PySem.W.nsIn K mainGlobals "_law_number" = some (some (.ref f10))) (l10 : K.lookup f10 = some ⟨oc10, od10, .func (PySem.W.fnOf "_law_number" "_law_number" (defArgs (topS 28)) (defBody (topS 28)) (defScope (topS 28)) .none kV10 dc10 pm10 an10 cd10 ct10), sl10⟩) (c10 : PySem.W.codeIn K cd10 "_law_number" = true) (k10 : PySem.W.keepIn K (.ref f10) = true)
    {f11 : Addr} {od11 an11 : Option Addr} {sl11 : Array (Option Value)} {oc11 kV11 dc11 pm11 cd11 ct11 : Value}
    (a11 : PySem.W.nsIn K mainGlobals "_law_rising" = some (some (.ref f11))) (l11 : K.lookup f11 = some ⟨oc11, od11, .func (PySem.W.fnOf "_law_rising" "_law_rising" (defArgs (topS 29)) (defBody (topS 29)) (defScope (topS 29)) .none kV11 dc11 pm11 an11 cd11 ct11), sl11⟩) (c11 : PySem.W.codeIn K cd11 "_law_rising" = true) (k11 : PySem.W.keepIn K (.ref f11) = true)
    {f12 : Addr} {od12 an12 : Option Addr} {sl12 : Array (Option Value)} {oc12 kV12 dc12 pm12 cd12 ct12 : Value}
    (a12 : PySem.W.nsIn K mainGlobals "_law_part" = some (some (.ref f12))) (l12 : K.lookup f12 = some ⟨oc12, od12, .func (PySem.W.fnOf "_law_part" "_law_part" (defArgs (topS 30)) (defBody (topS 30)) (defScope (topS 30)) .none kV12 dc12 pm12 an12 cd12 ct12), sl12⟩) (c12 : PySem.W.codeIn K cd12 "_law_part" = true) (k12 : PySem.W.keepIn K (.ref f12) = true)
    {f13 : Addr} {od13 an13 : Option Addr} {sl13 : Array (Option Value)} {oc13 kV13 dc13 pm13 cd13 ct13 : Value}
    (a13 : PySem.W.nsIn K mainGlobals "_law_train" = some (some (.ref f13))) (l13 : K.lookup f13 = some ⟨oc13, od13, .func (PySem.W.fnOf "_law_train" "_law_train" (defArgs (topS 31)) (defBody (topS 31)) (defScope (topS 31)) .none kV13 dc13 pm13 an13 cd13 ct13), sl13⟩) (c13 : PySem.W.codeIn K cd13 "_law_train" = true) (k13 : PySem.W.keepIn K (.ref f13) = true)
    {f14 : Addr} {od14 an14 : Option Addr} {sl14 : Array (Option Value)} {oc14 kV14 dc14 pm14 cd14 ct14 : Value}
    (a14 : PySem.W.nsIn K mainGlobals "_law_stand" = some (some (.ref f14))) (l14 : K.lookup f14 = some ⟨oc14, od14, .func (PySem.W.fnOf "_law_stand" "_law_stand" (defArgs (topS 32)) (defBody (topS 32)) (defScope (topS 32)) .none kV14 dc14 pm14 an14 cd14 ct14), sl14⟩) (c14 : PySem.W.codeIn K cd14 "_law_stand" = true) (k14 : PySem.W.keepIn K (.ref f14) = true)
    {f15 : Addr} {od15 an15 : Option Addr} {sl15 : Array (Option Value)} {oc15 kV15 dc15 pm15 cd15 ct15 : Value}
    (a15 : PySem.W.nsIn K mainGlobals "_law_part_text" = some (some (.ref f15))) (l15 : K.lookup f15 = some ⟨oc15, od15, .func (PySem.W.fnOf "_law_part_text" "_law_part_text" (defArgs (topS 33)) (defBody (topS 33)) (defScope (topS 33)) .none kV15 dc15 pm15 an15 cd15 ct15), sl15⟩) (c15 : PySem.W.codeIn K cd15 "_law_part_text" = true) (k15 : PySem.W.keepIn K (.ref f15) = true)
    {f16 : Addr} {od16 an16 : Option Addr} {sl16 : Array (Option Value)} {oc16 kV16 dc16 pm16 cd16 ct16 : Value}
    (a16 : PySem.W.nsIn K mainGlobals "_law_train_text" = some (some (.ref f16))) (l16 : K.lookup f16 = some ⟨oc16, od16, .func (PySem.W.fnOf "_law_train_text" "_law_train_text" (defArgs (topS 34)) (defBody (topS 34)) (defScope (topS 34)) .none kV16 dc16 pm16 an16 cd16 ct16), sl16⟩) (c16 : PySem.W.codeIn K cd16 "_law_train_text" = true) (k16 : PySem.W.keepIn K (.ref f16) = true)
    {f17 : Addr} {od17 an17 : Option Addr} {sl17 : Array (Option Value)} {oc17 kV17 dc17 pm17 cd17 ct17 : Value}
    (a17 : PySem.W.nsIn K mainGlobals "part_shown" = some (some (.ref f17))) (l17 : K.lookup f17 = some ⟨oc17, od17, .func (PySem.W.fnOf "part_shown" "part_shown" (defArgs (topS 18)) (defBody (topS 18)) (defScope (topS 18)) .none kV17 dc17 pm17 an17 cd17 ct17), sl17⟩) (c17 : PySem.W.codeIn K cd17 "part_shown" = true) (k17 : PySem.W.keepIn K (.ref f17) = true)
    {f18 : Addr} {od18 an18 : Option Addr} {sl18 : Array (Option Value)} {oc18 kV18 dc18 pm18 cd18 ct18 : Value}
    (a18 : PySem.W.nsIn K mainGlobals "show_train" = some (some (.ref f18))) (l18 : K.lookup f18 = some ⟨oc18, od18, .func (PySem.W.fnOf "show_train" "show_train" (defArgs (topS 20)) (defBody (topS 20)) (defScope (topS 20)) .none kV18 dc18 pm18 an18 cd18 ct18), sl18⟩) (c18 : PySem.W.codeIn K cd18 "show_train" = true) (k18 : PySem.W.keepIn K (.ref f18) = true)
    {f19 : Addr} {od19 an19 : Option Addr} {sl19 : Array (Option Value)} {oc19 kV19 dc19 pm19 cd19 ct19 : Value}
    (a19 : PySem.W.nsIn K mainGlobals "show_stand" = some (some (.ref f19))) (l19 : K.lookup f19 = some ⟨oc19, od19, .func (PySem.W.fnOf "show_stand" "show_stand" (defArgs (topS 22)) (defBody (topS 22)) (defScope (topS 22)) .none kV19 dc19 pm19 an19 cd19 ct19), sl19⟩) (c19 : PySem.W.codeIn K cd19 "show_stand" = true) (k19 : PySem.W.keepIn K (.ref f19) = true)
    {f20 : Addr} {od20 an20 : Option Addr} {sl20 : Array (Option Value)} {oc20 kV20 dc20 pm20 cd20 ct20 : Value}
    (a20 : PySem.W.nsIn K mainGlobals "read_stand" = some (some (.ref f20))) (l20 : K.lookup f20 = some ⟨oc20, od20, .func (PySem.W.fnOf "read_stand" "read_stand" (defArgs (topS 23)) (defBody (topS 23)) (defScope (topS 23)) .none kV20 dc20 pm20 an20 cd20 ct20), sl20⟩) (c20 : PySem.W.codeIn K cd20 "read_stand" = true) (k20 : PySem.W.keepIn K (.ref f20) = true)
    {f21 : Addr} {od21 an21 : Option Addr} {sl21 : Array (Option Value)} {oc21 kV21 dc21 pm21 cd21 ct21 : Value}
    (a21 : PySem.W.nsIn K mainGlobals "_law_stand_text" = some (some (.ref f21))) (l21 : K.lookup f21 = some ⟨oc21, od21, .func (PySem.W.fnOf "_law_stand_text" "_law_stand_text" (defArgs (topS 35)) (defBody (topS 35)) (defScope (topS 35)) .none kV21 dc21 pm21 an21 cd21 ct21), sl21⟩) (c21 : PySem.W.codeIn K cd21 "_law_stand_text" = true) (k21 : PySem.W.keepIn K (.ref f21) = true)
    {f22 : Addr} {od22 an22 : Option Addr} {sl22 : Array (Option Value)} {oc22 kV22 dc22 pm22 cd22 ct22 : Value}
    (a22 : PySem.W.nsIn K mainGlobals "_law_whole" = some (some (.ref f22))) (l22 : K.lookup f22 = some ⟨oc22, od22, .func (PySem.W.fnOf "_law_whole" "_law_whole" (defArgs (topS 27)) (defBody (topS 27)) (defScope (topS 27)) .none kV22 dc22 pm22 an22 cd22 ct22), sl22⟩) (c22 : PySem.W.codeIn K cd22 "_law_whole" = true) (k22 : PySem.W.keepIn K (.ref f22) = true)
    {f23 : Addr} {od23 an23 : Option Addr} {sl23 : Array (Option Value)} {oc23 kV23 dc23 pm23 cd23 ct23 : Value}
    (a23 : PySem.W.nsIn K mainGlobals "_law_plain" = some (some (.ref f23))) (l23 : K.lookup f23 = some ⟨oc23, od23, .func (PySem.W.fnOf "_law_plain" "_law_plain" (defArgs (topS 36)) (defBody (topS 36)) (defScope (topS 36)) .none kV23 dc23 pm23 an23 cd23 ct23), sl23⟩) (c23 : PySem.W.codeIn K cd23 "_law_plain" = true) (k23 : PySem.W.keepIn K (.ref f23) = true)
    {f24 : Addr} {od24 an24 : Option Addr} {sl24 : Array (Option Value)} {oc24 kV24 dc24 pm24 cd24 ct24 : Value}
    (a24 : PySem.W.nsIn K mainGlobals "_law_well" = some (some (.ref f24))) (l24 : K.lookup f24 = some ⟨oc24, od24, .func (PySem.W.fnOf "_law_well" "_law_well" (defArgs (topS 37)) (defBody (topS 37)) (defScope (topS 37)) .none kV24 dc24 pm24 an24 cd24 ct24), sl24⟩) (c24 : PySem.W.codeIn K cd24 "_law_well" = true) (k24 : PySem.W.keepIn K (.ref f24) = true)
    {f25 : Addr} {od25 an25 : Option Addr} {sl25 : Array (Option Value)} {oc25 kV25 dc25 pm25 cd25 ct25 : Value}
    (a25 : PySem.W.nsIn K mainGlobals "_law_odd_train" = some (some (.ref f25))) (l25 : K.lookup f25 = some ⟨oc25, od25, .func (PySem.W.fnOf "_law_odd_train" "_law_odd_train" (defArgs (topS 38)) (defBody (topS 38)) (defScope (topS 38)) .none kV25 dc25 pm25 an25 cd25 ct25), sl25⟩) (c25 : PySem.W.codeIn K cd25 "_law_odd_train" = true) (k25 : PySem.W.keepIn K (.ref f25) = true)
    {f26 : Addr} {od26 an26 : Option Addr} {sl26 : Array (Option Value)} {oc26 kV26 dc26 pm26 cd26 ct26 : Value}
    (a26 : PySem.W.nsIn K mainGlobals "_law_refused" = some (some (.ref f26))) (l26 : K.lookup f26 = some ⟨oc26, od26, .func (PySem.W.fnOf "_law_refused" "_law_refused" (defArgs (topS 39)) (defBody (topS 39)) (defScope (topS 39)) .none kV26 dc26 pm26 an26 cd26 ct26), sl26⟩) (c26 : PySem.W.codeIn K cd26 "_law_refused" = true) (k26 : PySem.W.keepIn K (.ref f26) = true)
    {f27 : Addr} {od27 an27 : Option Addr} {sl27 : Array (Option Value)} {oc27 kV27 dc27 pm27 cd27 ct27 : Value}
    (a27 : PySem.W.nsIn K mainGlobals "law" = some (some (.ref f27))) (l27 : K.lookup f27 = some ⟨oc27, od27, .func (PySem.W.fnOf "law" "law" (defArgs (topS 40)) (defBody (topS 40)) (defScope (topS 40)) .none kV27 dc27 pm27 an27 cd27 ct27), sl27⟩) (c27 : PySem.W.codeIn K cd27 "law" = true) (k27 : PySem.W.keepIn K (.ref f27) = true)
    (z_ValueError : PySem.W.nsIn K mainGlobals "ValueError" = some none)
    (z_all : PySem.W.nsIn K mainGlobals "all" = some none)
    (z_bool : PySem.W.nsIn K mainGlobals "bool" = some none)
    (z_int : PySem.W.nsIn K mainGlobals "int" = some none)
    (z_isinstance : PySem.W.nsIn K mainGlobals "isinstance" = some none)
    (z_len : PySem.W.nsIn K mainGlobals "len" = some none)
    (z_list : PySem.W.nsIn K mainGlobals "list" = some none)
    (z_max : PySem.W.nsIn K mainGlobals "max" = some none)
    (z_range : PySem.W.nsIn K mainGlobals "range" = some none)
    (z_str : PySem.W.nsIn K mainGlobals "str" = some none)
    (z_tuple : PySem.W.nsIn K mainGlobals "tuple" = some none)
    (z_zip : PySem.W.nsIn K mainGlobals "zip" = some none)
    {t_FIGURES : Tok} (y_FIGURES : PySem.W.nsIn K mainGlobals "FIGURES" = some (some (.str "0123456789" t_FIGURES)))
    {t_LONGEST : Tok} (y_LONGEST : PySem.W.nsIn K mainGlobals "LONGEST" = some (some (.int 40 t_LONGEST)))
    {e_NoCount : Addr} (ea_NoCount : PySem.W.nsIn K mainGlobals "NoCount" = some (some (.ref e_NoCount))) (et_NoCount : PySem.W.typeIn K (.ref e_NoCount) = some (.type "type"))
    {e_NoRow : Addr} (ea_NoRow : PySem.W.nsIn K mainGlobals "NoRow" = some (some (.ref e_NoRow))) (et_NoRow : PySem.W.typeIn K (.ref e_NoRow) = some (.type "type"))
    {e_NoStand : Addr} (ea_NoStand : PySem.W.nsIn K mainGlobals "NoStand" = some (some (.ref e_NoStand))) (et_NoStand : PySem.W.typeIn K (.ref e_NoStand) = some (.type "type"))
    {e_TooMany : Addr} (ea_TooMany : PySem.W.nsIn K mainGlobals "TooMany" = some (some (.ref e_TooMany))) (et_TooMany : PySem.W.typeIn K (.ref e_TooMany) = some (.type "type"))
    {e_TrainError : Addr} (ea_TrainError : PySem.W.nsIn K mainGlobals "TrainError" = some (some (.ref e_TrainError))) (et_TrainError : PySem.W.typeIn K (.ref e_TrainError) = some (.type "type"))
    (es_TrainError : PySem.W.subIn K (.ref e_TrainError) (.type "BaseException") = some true)
    {e_NoText : Addr} (ea_NoText : PySem.W.nsIn K mainGlobals "NoText" = some (some (.ref e_NoText))) (eb_NoText : PySem.W.excIn K e_NoText [.type "ValueError", .type "Exception", .type "BaseException", .type "object"] "ValueError.__new__" = true) (ek_NoText : PySem.W.keepIn K (.ref e_NoText) = true) (es_NoText : PySem.W.subIn K (.ref e_NoText) (.type "BaseException") = some true) (et_NoText : PySem.W.typeIn K (.ref e_NoText) = some (.type "type"))
    {e_NoTrain : Addr} (ea_NoTrain : PySem.W.nsIn K mainGlobals "NoTrain" = some (some (.ref e_NoTrain))) (eb_NoTrain : PySem.W.excIn K e_NoTrain [.type "ValueError", .type "Exception", .type "BaseException", .type "object"] "ValueError.__new__" = true) (ek_NoTrain : PySem.W.keepIn K (.ref e_NoTrain) = true) (es_NoTrain : PySem.W.subIn K (.ref e_NoTrain) (.type "BaseException") = some true) (et_NoTrain : PySem.W.typeIn K (.ref e_NoTrain) = some (.type "type"))
    (ed_NoCount : PySem.W.hasDictIn K e_NoCount = true) (er_NoCount : PySem.W.subIn K (.ref e_NoCount) (.ref e_NoCount) = some true)
    (ed_NoRow : PySem.W.hasDictIn K e_NoRow = true) (er_NoRow : PySem.W.subIn K (.ref e_NoRow) (.ref e_NoRow) = some true)
    (ed_NoStand : PySem.W.hasDictIn K e_NoStand = true) (er_NoStand : PySem.W.subIn K (.ref e_NoStand) (.ref e_NoStand) = some true)
    (ed_NoText : PySem.W.hasDictIn K e_NoText = true) (er_NoText : PySem.W.subIn K (.ref e_NoText) (.ref e_NoText) = some true)
    (ed_NoTrain : PySem.W.hasDictIn K e_NoTrain = true) (er_NoTrain : PySem.W.subIn K (.ref e_NoTrain) (.ref e_NoTrain) = some true)
    (ed_TooMany : PySem.W.hasDictIn K e_TooMany = true) (er_TooMany : PySem.W.subIn K (.ref e_TooMany) (.ref e_TooMany) = some true)
    (ed_TrainError : PySem.W.hasDictIn K e_TrainError = true) (er_TrainError : PySem.W.subIn K (.ref e_TrainError) (.ref e_TrainError) = some true)
    (eg_NoTrain : PySem.W.findIn K (.ref e_NoTrain) "__getattribute__" = some (some (.builtin "BaseException.__getattribute__"))) (eh_NoTrain : PySem.W.findIn K (.ref e_NoTrain) "__getattr__" = some none) (ei_NoTrain : PySem.W.findIn K (.ref e_NoTrain) "__class__" = some (some (.builtin "object.__class__"))) (em_NoTrain : PySem.W.mroIn K e_NoTrain (.type "object") = some true)
    (ec_n : PySem.W.specialIn K (.builtin "object.__class__") "__get__" = some (some (.builtin "getset_descriptor.__get__"))) (ec_t : PySem.W.takesIn K (.builtin "object.__class__") = some true)
    (ep_NoTrain_NoCount : PySem.W.subIn K (.ref e_NoTrain) (.ref e_NoCount) = some false)
    (ep_NoTrain_NoRow : PySem.W.subIn K (.ref e_NoTrain) (.ref e_NoRow) = some false)
    (ep_NoTrain_NoStand : PySem.W.subIn K (.ref e_NoTrain) (.ref e_NoStand) = some false)
    (ep_NoTrain_NoText : PySem.W.subIn K (.ref e_NoTrain) (.ref e_NoText) = some false)
    (ep_NoTrain_NoTrain : PySem.W.subIn K (.ref e_NoTrain) (.ref e_NoTrain) = some true)
    (ep_NoTrain_TooMany : PySem.W.subIn K (.ref e_NoTrain) (.ref e_TooMany) = some false)
    (ep_NoTrain_TrainError : PySem.W.subIn K (.ref e_NoTrain) (.ref e_TrainError) = some true)
    (ep_NoTrain_ValueError : PySem.W.subIn K (.ref e_NoTrain) (.type "ValueError") = some true)
    : ∃ fd : FuncData, (∀ (s : Shared) (v : Value), BindsTo s fd ⟨[v], []⟩ [("_law_script", v)]) ∧ ∀ base : Heap, K.In base → base.Ns mainGlobals mg → FnG l.prog w K mg base 14 fa fd ["_law_script"] (spLaw K) := by
  have e := hfa.symm.trans (PySem.W.mg_of X G a27)
  cases e
  have T : Txt K mg (fun n => [e_NoCount, e_NoRow, e_NoStand, e_NoText, e_NoTrain, e_TooMany, e_TrainError].getD n 0) := ⟨⟨_, _, fun_mk (st := topS 9) l0 c0 k0, PySem.W.mg_of X G a0, (fun_mk (st := topS 9) l0 c0 k0).binds (ps := ["thing"]) fun _ _ _ _ _ _ us hl => match us, hl with | [_], _ => rfl⟩,
    ⟨_, _, fun_mk (st := topS 10) l1 c1 k1, PySem.W.mg_of X G a1, (fun_mk (st := topS 10) l1 c1 k1).binds (ps := ["teeth", "thing"]) fun _ _ _ _ _ _ us hl => match us, hl with | [_, _], _ => rfl⟩,
    ⟨_, _, fun_mk (st := topS 11) l2 c2 k2, PySem.W.mg_of X G a2, (fun_mk (st := topS 11) l2 c2 k2).binds (ps := ["thing"]) fun _ _ _ _ _ _ us hl => match us, hl with | [_], _ => rfl⟩,
    ⟨_, _, fun_mk (st := topS 12) l3 c3 k3, PySem.W.mg_of X G a3, (fun_mk (st := topS 12) l3 c3 k3).binds (ps := ["train"]) fun _ _ _ _ _ _ us hl => match us, hl with | [_], _ => rfl⟩,
    ⟨_, _, fun_mk (st := topS 16) l4 c4 k4, PySem.W.mg_of X G a4, (fun_mk (st := topS 16) l4 c4 k4).binds (ps := ["good"]) fun _ _ _ _ _ _ us hl => match us, hl with | [_], _ => rfl⟩,
    ⟨_, _, fun_mk (st := topS 17) l5 c5 k5, PySem.W.mg_of X G a5, (fun_mk (st := topS 17) l5 c5 k5).binds (ps := ["word"]) fun _ _ _ _ _ _ us hl => match us, hl with | [_], _ => rfl⟩,
    ⟨_, _, fun_mk (st := topS 19) l6 c6 k6, PySem.W.mg_of X G a6, (fun_mk (st := topS 19) l6 c6 k6).binds (ps := ["word"]) fun _ _ _ _ _ _ us hl => match us, hl with | [_], _ => rfl⟩,
    ⟨_, _, fun_mk (st := topS 21) l7 c7 k7, PySem.W.mg_of X G a7, (fun_mk (st := topS 21) l7 c7 k7).binds (ps := ["text"]) fun _ _ _ _ _ _ us hl => match us, hl with | [_], _ => rfl⟩,
    ⟨_, _, fun_mk (st := topS 25) l8 c8 k8, PySem.W.mg_of X G a8, (fun_mk (st := topS 25) l8 c8 k8).binds (ps := ["_law_cell"]) fun _ _ _ _ _ _ us hl => match us, hl with | [_], _ => rfl⟩,
    ⟨_, _, fun_mk (st := topS 26) l9 c9 k9, PySem.W.mg_of X G a9, (fun_mk (st := topS 26) l9 c9 k9).binds (ps := ["_law_draws_here"]) fun _ _ _ _ _ _ us hl => match us, hl with | [_], _ => rfl⟩,
    ⟨_, _, fun_mk (st := topS 28) l10 c10 k10, PySem.W.mg_of X G a10, (fun_mk (st := topS 28) l10 c10 k10).binds (ps := ["_law_draws_here"]) fun _ _ _ _ _ _ us hl => match us, hl with | [_], _ => rfl⟩,
    ⟨_, _, fun_mk (st := topS 29) l11 c11 k11, PySem.W.mg_of X G a11, (fun_mk (st := topS 29) l11 c11 k11).binds (ps := ["_law_draws_here", "_law_many"]) fun _ _ _ _ _ _ us hl => match us, hl with | [_, _], _ => rfl⟩,
    ⟨_, _, fun_mk (st := topS 30) l12 c12 k12, PySem.W.mg_of X G a12, (fun_mk (st := topS 30) l12 c12 k12).binds (ps := ["_law_draws_here", "_law_most"]) fun _ _ _ _ _ _ us hl => match us, hl with | [_, _], _ => rfl⟩,
    ⟨_, _, fun_mk (st := topS 31) l13 c13 k13, PySem.W.mg_of X G a13, (fun_mk (st := topS 31) l13 c13 k13).binds (ps := ["_law_draws_here"]) fun _ _ _ _ _ _ us hl => match us, hl with | [_], _ => rfl⟩,
    ⟨_, _, fun_mk (st := topS 32) l14 c14 k14, PySem.W.mg_of X G a14, (fun_mk (st := topS 32) l14 c14 k14).binds (ps := ["_law_draws_here"]) fun _ _ _ _ _ _ us hl => match us, hl with | [_], _ => rfl⟩,
    ⟨_, _, fun_mk (st := topS 33) l15 c15 k15, PySem.W.mg_of X G a15, (fun_mk (st := topS 33) l15 c15 k15).binds (ps := ["_law_part_here"]) fun _ _ _ _ _ _ us hl => match us, hl with | [_], _ => rfl⟩,
    ⟨_, _, fun_mk (st := topS 34) l16 c16 k16, PySem.W.mg_of X G a16, (fun_mk (st := topS 34) l16 c16 k16).binds (ps := ["_law_train_here"]) fun _ _ _ _ _ _ us hl => match us, hl with | [_], _ => rfl⟩,
    ⟨_, _, fun_mk (st := topS 18) l17 c17 k17, PySem.W.mg_of X G a17, (fun_mk (st := topS 18) l17 c17 k17).binds (ps := ["part"]) fun _ _ _ _ _ _ us hl => match us, hl with | [_], _ => rfl⟩,
    ⟨_, _, fun_mk (st := topS 20) l18 c18 k18, PySem.W.mg_of X G a18, (fun_mk (st := topS 20) l18 c18 k18).binds (ps := ["train"]) fun _ _ _ _ _ _ us hl => match us, hl with | [_], _ => rfl⟩,
    ⟨_, _, fun_mk (st := topS 22) l19 c19 k19, PySem.W.mg_of X G a19, (fun_mk (st := topS 22) l19 c19 k19).binds (ps := ["stand"]) fun _ _ _ _ _ _ us hl => match us, hl with | [_], _ => rfl⟩,
    ⟨_, _, fun_mk (st := topS 23) l20 c20 k20, PySem.W.mg_of X G a20, (fun_mk (st := topS 23) l20 c20 k20).binds (ps := ["text"]) fun _ _ _ _ _ _ us hl => match us, hl with | [_], _ => rfl⟩,
    ⟨_, _, fun_mk (st := topS 35) l21 c21 k21, PySem.W.mg_of X G a21, (fun_mk (st := topS 35) l21 c21 k21).binds (ps := ["_law_stand_here"]) fun _ _ _ _ _ _ us hl => match us, hl with | [_], _ => rfl⟩,
    ⟨_, _, fun_mk (st := topS 27) l22 c22 k22, PySem.W.mg_of X G a22, (fun_mk (st := topS 27) l22 c22 k22).binds (ps := ["_law_found"]) fun _ _ _ _ _ _ us hl => match us, hl with | [_], _ => rfl⟩,
    ⟨_, _, fun_mk (st := topS 36) l23 c23 k23, PySem.W.mg_of X G a23, (fun_mk (st := topS 36) l23 c23 k23).binds (ps := ["_law_found"]) fun _ _ _ _ _ _ us hl => match us, hl with | [_], _ => rfl⟩,
    ⟨_, _, fun_mk (st := topS 37) l24 c24 k24, PySem.W.mg_of X G a24, (fun_mk (st := topS 37) l24 c24 k24).binds (ps := ["_law_train_here", "_law_stand_here"]) fun _ _ _ _ _ _ us hl => match us, hl with | [_, _], _ => rfl⟩,
    ⟨_, _, fun_mk (st := topS 38) l25 c25 k25, PySem.W.mg_of X G a25, (fun_mk (st := topS 38) l25 c25 k25).binds (ps := ["_law_draws_here", "_law_train_here"]) fun _ _ _ _ _ _ us hl => match us, hl with | [_, _], _ => rfl⟩,
    ⟨_, _, fun_mk (st := topS 39) l26 c26 k26, PySem.W.mg_of X G a26, (fun_mk (st := topS 39) l26 c26 k26).binds (ps := ["_law_thing"]) fun _ _ _ _ _ _ us hl => match us, hl with | [_], _ => rfl⟩,
    PySem.W.mg_none_of X G z_ValueError,
    PySem.W.mg_none_of X G z_all,
    PySem.W.mg_none_of X G z_bool,
    PySem.W.mg_none_of X G z_int,
    PySem.W.mg_none_of X G z_isinstance,
    PySem.W.mg_none_of X G z_len,
    PySem.W.mg_none_of X G z_list,
    PySem.W.mg_none_of X G z_max,
    PySem.W.mg_none_of X G z_range,
    PySem.W.mg_none_of X G z_str,
    PySem.W.mg_none_of X G z_tuple,
    PySem.W.mg_none_of X G z_zip,
    ⟨_, PySem.W.mg_of X G y_FIGURES, ⟨_, rfl⟩⟩,
    ⟨_, PySem.W.mg_of X G y_LONGEST, ⟨_, rfl⟩⟩,
    ⟨_, PySem.W.mg_of X G ea_NoText, eb_NoText, ek_NoText, es_NoText, et_NoText⟩,
    ⟨_, PySem.W.mg_of X G ea_NoTrain, eb_NoTrain, ek_NoTrain, es_NoTrain, et_NoTrain⟩,
    PySem.W.mg_of X G ea_NoCount,
    PySem.W.mg_of X G ea_NoRow,
    PySem.W.mg_of X G ea_NoStand,
    PySem.W.mg_of X G ea_NoText,
    PySem.W.mg_of X G ea_NoTrain,
    PySem.W.mg_of X G ea_TooMany,
    PySem.W.mg_of X G ea_TrainError,
    ⟨exK_of ea_NoTrain, ⟨eg_NoTrain, eh_NoTrain, es_NoTrain, ed_NoTrain, ei_NoTrain, ec_n, ec_t, em_NoTrain⟩⟩,
    kit_ref ed_NoCount et_NoCount er_NoCount ep_NoTrain_NoCount,
    kit_ref ed_NoRow et_NoRow er_NoRow ep_NoTrain_NoRow,
    kit_ref ed_NoStand et_NoStand er_NoStand ep_NoTrain_NoStand,
    kit_ref ed_NoText et_NoText er_NoText ep_NoTrain_NoText,
    kit_ref ed_NoTrain et_NoTrain er_NoTrain ep_NoTrain_NoTrain,
    kit_ref ed_TooMany et_TooMany er_TooMany ep_NoTrain_TooMany,
    kit_bt (by decide +kernel) ep_NoTrain_ValueError,
    kit_ntr ed_NoTrain et_NoTrain,
    kit_ntt (by decide +kernel) (by decide +kernel),
    w_mk (PySem.W.mg_of X G ea_NoTrain) (exK_of ea_NoTrain) (PySem.W.exm_ref es_TrainError ed_TrainError et_TrainError ep_NoTrain_TrainError)⟩
  exact ⟨PySem.W.fnOf "law" "law" (defArgs (topS 40)) (defBody (topS 40)) (defScope (topS 40)) .none kV27 dc27 pm27 an27 cd27 ct27, fun s v => .of_eq rfl, fun base _ _ => (fn_law T (fun_mk (st := topS 40) l27 c27 k27)).imp (law_sp law_true)⟩
end CK
open PySem PySem.W PyProof.Rows
set_option maxRecDepth 100000 in
set_option maxHeartbeats 0 in
theorem PySem.Challenge.cw_clicktrain_k71_trains_and_stands_as_text_holds : PySem.Challenge.rw_clicktrain_k71_trains_and_stands_as_text.Holds := by
  w_on; o_law; k_head; (case hw => w_witness2)
  k_fill
  refine CT.walk_ofG (l := PySem.Challenge.rw_clicktrain_k71_trains_and_stands_as_text) (n := 63) (k := 14) (x := "_law_script") (sp := fun w => CT.spLaw _) rfl (by decide) rfl ⟨rfl, by decide, by decide⟩ (fun w h Y => PySem.W.kIn_of Y) ?F (fun _ _ a ns hl _ hS => ⟨a, ns, rfl, hS, hl, fun _ => rfl⟩) (fun _ _ _ _ _ h => CT.cx_no h)
  case F =>
    intro w mg fa h KX G hmg
    refine' CK.all_mk KX G hmg ?a0 ?l0 ?c0 ?k0 ?a1 ?l1 ?c1 ?k1 ?a2 ?l2 ?c2 ?k2 ?a3 ?l3 ?c3 ?k3 ?a4 ?l4 ?c4 ?k4 ?a5 ?l5 ?c5 ?k5 ?a6 ?l6 ?c6 ?k6 ?a7 ?l7 ?c7 ?k7 ?a8 ?l8 ?c8 ?k8 ?a9 ?l9 ?c9 ?k9 ?a10 ?l10 ?c10 ?k10 ?a11 ?l11 ?c11 ?k11 ?a12 ?l12 ?c12 ?k12 ?a13 ?l13 ?c13 ?k13 ?a14 ?l14 ?c14 ?k14 ?a15 ?l15 ?c15 ?k15 ?a16 ?l16 ?c16 ?k16 ?a17 ?l17 ?c17 ?k17 ?a18 ?l18 ?c18 ?k18 ?a19 ?l19 ?c19 ?k19 ?a20 ?l20 ?c20 ?k20 ?a21 ?l21 ?c21 ?k21 ?a22 ?l22 ?c22 ?k22 ?a23 ?l23 ?c23 ?k23 ?a24 ?l24 ?c24 ?k24 ?a25 ?l25 ?c25 ?k25 ?a26 ?l26 ?c26 ?k26 ?a27 ?l27 ?c27 ?k27 ?z_ValueError ?z_all ?z_bool ?z_int ?z_isinstance ?z_len ?z_list ?z_max ?z_range ?z_str ?z_tuple ?z_zip ?y_FIGURES ?y_LONGEST ?ea_NoCount ?et_NoCount ?ea_NoRow ?et_NoRow ?ea_NoStand ?et_NoStand ?ea_TooMany ?et_TooMany ?ea_TrainError ?et_TrainError ?es_TrainError ?ea_NoText ?eb_NoText ?ek_NoText ?es_NoText ?et_NoText ?ea_NoTrain ?eb_NoTrain ?ek_NoTrain ?es_NoTrain ?et_NoTrain ?ed_NoCount ?er_NoCount ?ed_NoRow ?er_NoRow ?ed_NoStand ?er_NoStand ?ed_NoText ?er_NoText ?ed_NoTrain ?er_NoTrain ?ed_TooMany ?er_TooMany ?ed_TrainError ?er_TrainError ?eg_NoTrain ?eh_NoTrain ?ei_NoTrain ?em_NoTrain ?ec_n ?ec_t ?ep_NoTrain_NoCount ?ep_NoTrain_NoRow ?ep_NoTrain_NoStand ?ep_NoTrain_NoText ?ep_NoTrain_NoTrain ?ep_NoTrain_TooMany ?ep_NoTrain_TrainError ?ep_NoTrain_ValueError
    (case a0 => k_is); (case l0 => k_is); (case c0 => k_is); (case k0 => k_is); (case a1 => k_is); (case l1 => k_is); (case c1 => k_is); (case k1 => k_is); (case a2 => k_is); (case l2 => k_is); (case c2 => k_is); (case k2 => k_is); (case a3 => k_is); (case l3 => k_is); (case c3 => k_is); (case k3 => k_is); (case a4 => k_is); (case l4 => k_is); (case c4 => k_is); (case k4 => k_is); (case a5 => k_is); (case l5 => k_is); (case c5 => k_is); (case k5 => k_is); (case a6 => k_is); (case l6 => k_is); (case c6 => k_is); (case k6 => k_is); (case a7 => k_is); (case l7 => k_is); (case c7 => k_is); (case k7 => k_is); (case a8 => k_is); (case l8 => k_is); (case c8 => k_is); (case k8 => k_is); (case a9 => k_is); (case l9 => k_is); (case c9 => k_is); (case k9 => k_is); (case a10 => k_is); (case l10 => k_is); (case c10 => k_is); (case k10 => k_is); (case a11 => k_is); (case l11 => k_is); (case c11 => k_is); (case k11 => k_is); (case a12 => k_is); (case l12 => k_is); (case c12 => k_is); (case k12 => k_is); (case a13 => k_is); (case l13 => k_is); (case c13 => k_is); (case k13 => k_is); (case a14 => k_is); (case l14 => k_is); (case c14 => k_is); (case k14 => k_is); (case a15 => k_is); (case l15 => k_is); (case c15 => k_is); (case k15 => k_is); (case a16 => k_is); (case l16 => k_is); (case c16 => k_is); (case k16 => k_is); (case a17 => k_is); (case l17 => k_is); (case c17 => k_is); (case k17 => k_is); (case a18 => k_is); (case l18 => k_is); (case c18 => k_is); (case k18 => k_is); (case a19 => k_is); (case l19 => k_is); (case c19 => k_is); (case k19 => k_is); (case a20 => k_is); (case l20 => k_is); (case c20 => k_is); (case k20 => k_is); (case a21 => k_is); (case l21 => k_is); (case c21 => k_is); (case k21 => k_is); (case a22 => k_is); (case l22 => k_is); (case c22 => k_is); (case k22 => k_is); (case a23 => k_is); (case l23 => k_is); (case c23 => k_is); (case k23 => k_is); (case a24 => k_is); (case l24 => k_is); (case c24 => k_is); (case k24 => k_is); (case a25 => k_is); (case l25 => k_is); (case c25 => k_is); (case k25 => k_is); (case a26 => k_is); (case l26 => k_is); (case c26 => k_is); (case k26 => k_is); (case a27 => k_is); (case l27 => k_is); (case c27 => k_is); (case k27 => k_is); (case z_ValueError => k_is); (case z_all => k_is); (case z_bool => k_is); (case z_int => k_is); (case z_isinstance => k_is); (case z_len => k_is); (case z_list => k_is); (case z_max => k_is); (case z_range => k_is); (case z_str => k_is); (case z_tuple => k_is); (case z_zip => k_is); (case y_FIGURES => k_is); (case y_LONGEST => k_is); (case ea_NoCount => k_is); (case et_NoCount => k_is); (case ea_NoRow => k_is); (case et_NoRow => k_is); (case ea_NoStand => k_is); (case et_NoStand => k_is); (case ea_TooMany => k_is); (case et_TooMany => k_is); (case ea_TrainError => k_is); (case et_TrainError => k_is); (case es_TrainError => k_is); (case ea_NoText => k_is); (case eb_NoText => k_exc); (case ek_NoText => k_is); (case es_NoText => k_is); (case et_NoText => k_is); (case ea_NoTrain => k_is); (case eb_NoTrain => k_exc); (case ek_NoTrain => k_is); (case es_NoTrain => k_is); (case et_NoTrain => k_is); (case ed_NoCount => k_is); (case er_NoCount => k_is); (case ed_NoRow => k_is); (case er_NoRow => k_is); (case ed_NoStand => k_is); (case er_NoStand => k_is); (case ed_NoText => k_is); (case er_NoText => k_is); (case ed_NoTrain => k_is); (case er_NoTrain => k_is); (case ed_TooMany => k_is); (case er_TooMany => k_is); (case ed_TrainError => k_is); (case er_TrainError => k_is); (case eg_NoTrain => k_is); (case eh_NoTrain => k_is); (case ei_NoTrain => k_is); (case em_NoTrain => k_is); (case ec_n => k_is); (case ec_t => k_is); (case ep_NoTrain_NoCount => k_is); (case ep_NoTrain_NoRow => k_is); (case ep_NoTrain_NoStand => k_is); (case ep_NoTrain_NoText => k_is); (case ep_NoTrain_NoTrain => k_is); (case ep_NoTrain_TooMany => k_is); (case ep_NoTrain_TrainError => k_is); (case ep_NoTrain_ValueError => k_is)
