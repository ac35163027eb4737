import PyProof.Rows.All
import Wide.All
import OpenK.AllK
import Wide.FinOn
import HandS.ForMost
import HandS.Exc
import HandS.TryOnly
import HandS.ExcOwn
import HandS.WordsExc
import HandS.TupAny
import HandS.Deep
import HandS.Dict
import KE.KDictKeyed
import KE.KDictCopyH
import HandS.IsInst
import HandS.Wide
import PyProof.ReprRoads
import HandS.Walk
import HandS.Rev
import KE.GoesMore
import HandS.Style
import HandS.Conv
import HandS.TupLen
import HandS.DictTup
import HandS.ExcIs
import KE.KDictDisplayH
import HandS.SortRule
import KE.SortCalls
import KE.DataCmp
import HandS.TupLe
import KE.KDictSum
import KE.KDictWalk
import HandS.ExcValue
import HandS.TupMul
import HandS.RaiseMore
import PyProof.CallStr
import HandS.More
import HandS.SetFor
import HandS.SetKeys
import KE.GoesEnum
import HandS.TupSets
import HandS.Text
import HandS.ReplaceLit
import HandS.ReplaceDef
import HandS.ReplaceList
import PyProof.ReprLen
import PySem.Challenge.RW_clicktrain_k72_rows_and_shows_as_texts
set_option Elab.async false
set_option linter.all false
set_option maxRecDepth 100000
set_option maxHeartbeats 4000000

namespace CT
open PySem PySem.Spec PyProof.Rows L2
theorem nr {α : Sort _} {a b : α} (h : a = b) : a = b := h
def KxO (cls : Value) (a : Addr) : HO := .ext fun h => ∃ (oe : Obj) (vs : Array Value), h.get? a = some oe ∧ Zc cls none oe ∧ oe.data = .fields vs
def toN (k : List (List Int)) : NestedKey := .tup (k.map fun l => .tup (l.map .num))
abbrev Kas := List (List (List Int) × Addr × V)
def DnP (a : Addr) (kas : Kas) (h : Heap) : Prop := kas.length ≤ sizeLine ∧ (a == sysModules) = false ∧ ∃ (w : World) (xs : List (NestedKey × Addr × Value)), Paired (fun (p : List (List Int) × Addr × V) (q : NestedKey × Addr × Value) => toN p.1 = q.1 ∧ p.2.1 = q.2.1 ∧ RelV p.2.2 q.2.2) kas xs ∧
  ∃ (o : Obj) (es : Array DictEntry) (ep : Nat), h.get? a = some o ∧ o.ExactDict ∧ o.data = .dict es ep ∧ es.toList = xs.map (fun x => (⟨x.1.hash w, .ref x.2.1, x.2.2⟩ : DictEntry)) ∧ (xs.map (·.1)).Nodup
def DnO (a : Addr) (kas : Kas) : HO := .ext (DnP a kas)
abbrev Kls := List (Option Int × V)
def lfOf : Option Int → Leaf
  | none => .none
  | some i => .num i
def lfK : Option Int → List Key
  | none => []
  | some i => [Sum.inl i]
def LfP (a : Addr) (kls : Kls) (h : Heap) : Prop := kls.length ≤ sizeLine ∧ (a == sysModules) = false ∧ ∃ (P : Program) (w : World) (xs : List (Leaf × Value)), Paired (fun (p : Option Int × V) (q : Leaf × Value) => lfOf p.1 = q.1 ∧ RelV p.2 q.2) kls xs ∧ h.DictOf (leafKind P w) a xs
def LfO (a : Addr) (kls : Kls) : HO := .ext (LfP a kls)
def NoL : HO → Prop
  | .lst _ => False
  | .dT _ => False
  | .dK _ => False
  | .ext φ => ∃ c a, HO.ext φ = KxO c a
  | _ => True
def NK (H : Hp) (k : List (List Int)) (b : Addr) : Prop := ∃ as : List Addr, H b = some (.tup (as.map V.ref)) ∧ Paired (fun (l : List Int) (a : Addr) => H a = some (.tup (l.map V.int))) k as
theorem NK.keep {H H' : Hp} (t : ∀ b xs, H b = some (.tup xs) → H' b = some (.tup xs)) {k : List (List Int)} {b : Addr} (h : NK H k b) : NK H' k b := by
  obtain ⟨as, h1, h2⟩ := h
  exact ⟨as, t _ _ h1, Paired.mapP h2 fun _ _ z => t _ _ z⟩
def encN (k : List (List Int)) : List Int := k.flatMap fun l => (l.length : Int) :: l
inductive R (α : Type) where
  | ok (a : α) | exc (c : String) | stuck
def R.bind {α β : Type} (r : R α) (k : α → R β) : R β := match r with
  | .ok a => k a
  | .exc c => .exc c
  | .stuck => .stuck
def R.map {α β : Type} (g : α → β) (r : R α) : R β := r.bind fun a => .ok (g a)
@[simp] theorem R.bind_ok {α β : Type} (a : α) (k : α → R β) : (R.ok a).bind k = k a := nr rfl
@[simp] theorem R.bind_exc {α β : Type} (c : String) (k : α → R β) : (R.exc c).bind k = .exc c := nr rfl
@[simp] theorem R.bind_stuck {α β : Type} (k : α → R β) : R.stuck.bind k = .stuck := nr rfl
@[simp] theorem R.map_ok {α β : Type} (g : α → β) (a : α) : R.map g (R.ok a) = .ok (g a) := nr rfl
structure DT where
  o : Option Nat
  l : Bool
  n : Bool
inductive D where
  | non | bl (b : Bool) | int (i : Int) | str (x : Str)
  | tup (xs : List D) | lst (t : Bool) (xs : List D) | fr (xs : List D)
  | unk | ex (c : String) | fn (x : String) | dic (ks : List (List Int)) (ds : List D) | dct (q : DT) (ks : List (List Int)) (vs : List D)
instance : Inhabited D := ⟨.non⟩
mutual
def hasT : D → Bool
  | .tup xs => hasTL xs
  | .lst t xs => t || hasTL xs
  | .fr xs => hasTL xs
  | .dic _ xs => hasTL xs
  | .non => false
  | .bl _ => false
  | .int _ => false
  | .str _ => false
  | .unk => false
  | .ex _ => false
  | .fn _ => false
  | .dct _ _ _ => true
def hasTL : List D → Bool
  | [] => false
  | x :: xs => hasT x || hasTL xs
end
mutual
def still : D → D
  | .tup xs => .tup (stillL xs)
  | .lst _ xs => .lst false (stillL xs)
  | .fr xs => .fr (stillL xs)
  | .dic ks xs => .dic ks (stillL xs)
  | .non => .non
  | .bl b => .bl b
  | .int i => .int i
  | .str x => .str x
  | .unk => .unk
  | .ex c => .ex c
  | .fn x => .fn x
  | .dct _ _ _ => .unk
def stillL : List D → List D
  | [] => []
  | x :: xs => still x :: stillL xs
end
mutual
def isFlat : D → Bool
  | .tup xs => isFlatL xs
  | .lst _ _ => false
  | .fr _ => false
  | .dic _ _ => false
  | .non => true
  | .bl _ => true
  | .int _ => true
  | .str _ => true
  | .unk => false
  | .ex _ => true
  | .fn _ => true
  | .dct _ _ _ => false
def isFlatL : List D → Bool
  | [] => true
  | x :: xs => isFlat x && isFlatL xs
end
def farPy : PyData := (List.replicate 70 ()).foldr (fun _ d => .list [d]) .none
mutual
def py : D → PyData
  | .tup xs => .tuple (pyL xs)
  | .lst _ xs => .list (pyL xs)
  | .fr xs => .list (pyL xs)
  | .dic _ _ => farPy
  | .non => .none
  | .bl b => .bool b
  | .int i => .int i
  | .str x => .str x
  | .unk => farPy
  | .ex _ => farPy
  | .fn _ => farPy
  | .dct _ _ _ => farPy
def pyL : List D → List PyData
  | [] => []
  | x :: xs => py x :: pyL xs
end
mutual
theorem hasT_still : ∀ d, hasT (still d) = false
  | .tup xs => by simp only [still, hasT]; exact hasTL_still xs
  | .lst _ xs => by simp only [still, hasT, Bool.false_or]; exact hasTL_still xs
  | .fr xs => by simp only [still, hasT]; exact hasTL_still xs
  | .dic _ xs => by simp only [still, hasT]; exact hasTL_still xs
  | .non => rfl
  | .bl _ => rfl
  | .int _ => rfl
  | .str _ => rfl
  | .unk => rfl
  | .ex _ => rfl
  | .fn _ => rfl
  | .dct _ _ _ => rfl
theorem hasTL_still : ∀ ds, hasTL (stillL ds) = false
  | [] => rfl
  | x :: xs => by simp only [stillL, hasTL, hasT_still x, hasTL_still xs, Bool.or_self]
end
mutual
theorem still_of : ∀ d, hasT d = false → still d = d
  | .tup xs, h => by simp only [hasT] at h; simp only [still, stillL_of xs h]
  | .fr xs, h => by simp only [hasT] at h; simp only [still, stillL_of xs h]
  | .dic _ xs, h => by simp only [hasT] at h; simp only [still, stillL_of xs h]
  | .lst t xs, h => by
    simp only [hasT, Bool.or_eq_false_iff] at h
    simp only [still, stillL_of xs h.2, h.1]
  | .non, _ => rfl
  | .bl _, _ => rfl
  | .int _, _ => rfl
  | .str _, _ => rfl
  | .unk, _ => rfl
  | .ex _, _ => rfl
  | .fn _, _ => rfl
  | .dct _ _ _, h => by simp [hasT] at h
theorem stillL_of : ∀ ds, hasTL ds = false → stillL ds = ds
  | [], _ => rfl
  | x :: xs, h => by
    simp only [hasTL, Bool.or_eq_false_iff] at h
    simp only [stillL, still_of x h.1, stillL_of xs h.2]
end
mutual
theorem flat_noT : ∀ d, isFlat d = true → hasT d = false
  | .tup xs, h => by simp only [isFlat] at h; simp only [hasT]; exact flatL_noT xs h
  | .lst _ _, h => by simp [isFlat] at h
  | .fr _, h => by simp [isFlat] at h
  | .dic _ _, h => by simp [isFlat] at h
  | .non, _ => rfl
  | .bl _, _ => rfl
  | .int _, _ => rfl
  | .str _, _ => rfl
  | .unk, h => by simp [isFlat] at h
  | .ex _, _ => rfl
  | .fn _, _ => rfl
  | .dct _ _ _, h => by simp [isFlat] at h
theorem flatL_noT : ∀ ds, isFlatL ds = true → hasTL ds = false
  | [], _ => rfl
  | x :: xs, h => by
    simp only [isFlatL, Bool.and_eq_true] at h
    simp only [hasTL, flat_noT x h.1, flatL_noT xs h.2, Bool.or_self]
end
theorem hasTL_append : ∀ xs ys : List D, hasTL (xs ++ ys) = (hasTL xs || hasTL ys)
  | [], ys => by simp [hasTL]
  | x :: xs, ys => by simp [hasTL, hasTL_append xs ys, Bool.or_assoc]
theorem hasTL_get : ∀ {xs : List D} {i : Nat} {d : D}, hasTL xs = false → xs[i]? = some d → hasT d = false
  | [], _, _, _, e => by simp at e
  | x :: xs, 0, d, h, e => by
    simp only [hasTL, Bool.or_eq_false_iff] at h
    simp at e; subst e; exact h.1
  | x :: xs, i + 1, d, h, e => by
    simp only [hasTL, Bool.or_eq_false_iff] at h
    exact hasTL_get (i := i) h.2 (by simpa using e)
theorem hasTL_set {d : D} (hd : hasT d = false) : ∀ {xs : List D} (i : Nat), hasTL xs = false → hasTL (xs.set i d) = false
  | [], _, _ => rfl
  | x :: xs, 0, h => by
    simp only [hasTL, Bool.or_eq_false_iff] at h
    simp only [List.set, hasTL, hd, h.2, Bool.or_self]
  | x :: xs, i + 1, h => by
    simp only [hasTL, Bool.or_eq_false_iff] at h
    simp only [List.set, hasTL, h.1, hasTL_set hd i h.2, Bool.or_self]
theorem stillL_length : ∀ ds, (stillL ds).length = ds.length
  | [] => rfl
  | x :: xs => by simp only [stillL, List.length_cons, stillL_length xs]
structure Grow (F H F' H' : Hp) : Prop where
  same : Same H H'
  sub : Same F F'
  subH : Same F' H'
  new : ∀ a o, F' a = some o → F a = some o ∨ H a = none
theorem Grow.refl {F H : Hp} (s : Same F H) : Grow F H F H := ⟨Same.refl _, Same.refl _, s, fun _ _ e => .inl e⟩
theorem Grow.trans {F H F1 H1 F2 H2 : Hp} (g : Grow F H F1 H1) (k : Grow F1 H1 F2 H2) : Grow F H F2 H2 :=
  ⟨g.same.trans k.same, g.sub.trans k.sub, k.subH, fun a o e => by
    rcases k.new a o e with z | z
    · exact g.new a o z
    · exact .inr (g.same.free z)⟩
theorem same_upd {H : Hp} {p : Addr} {o : HO} (h : H p = none) : Same H (upd H p o) := fun b x e => by
  rw [upd_ne (ne_of_none e h)]
  exact e
theorem Grow.still {F H : Hp} {p : Addr} {o : HO} (s : Same F H) (h : H p = none) : Grow F H (upd F p o) (upd H p o) :=
  ⟨same_upd h, same_upd (s.free h), fun b x e => by
    by_cases hb : b = p
    · subst hb; rw [upd_same] at e ⊢; exact e
    · rw [upd_ne hb] at e ⊢; exact s _ _ e, fun b x e => by
    by_cases hb : b = p
    · subst hb; exact .inr h
    · rw [upd_ne hb] at e; exact .inl e⟩
theorem Grow.loose {F H : Hp} {p : Addr} {o : HO} (s : Same F H) (h : H p = none) : Grow F H F (upd H p o) :=
  ⟨same_upd h, Same.refl _, s.trans (same_upd h), fun b x e => .inl e⟩
def exK (K : PySem.W.Frag) (c : String) : Value := match PySem.W.nsIn K mainGlobals (Str.ofString c) with
  | some (some v) => v
  | _ => .none
mutual
inductive Rp (K : PySem.W.Frag) (F H0 H : Hp) : D → V → Prop
  | non : Rp K F H0 H .non .non
  | bl (b : Bool) : Rp K F H0 H (.bl b) (.bl b)
  | int (i : Int) : Rp K F H0 H (.int i) (.int i)
  | str (x : Str) : Rp K F H0 H (.str x) (.str x)
  | tup {a : Addr} {xs : List V} {ds : List D} : H a = some (.tup xs) → RpL K F H0 H ds xs → Rp K F H0 H (.tup ds) (.ref a)
  | fr {a : Addr} {xs : List V} {ds : List D} : SqL K F a xs → RpL K F H0 H ds xs → Rp K F H0 H (.fr ds) (.ref a)
  | dic {a : Addr} {kvs : List (List Key × V)} {ks : List (List Int)} {ds : List D} : F a = some (.dT kvs) → kvs.map (·.1) = ks.map (·.map Sum.inl) → RpL K F H0 H ds (kvs.map (·.2)) → Rp K F H0 H (.dic ks ds) (.ref a)
  | lst {a : Addr} {xs : List V} {ds : List D} : F a = some (.lst xs) → RpL K F H0 H ds xs → Rp K F H0 H (.lst false ds) (.ref a)
  | tmF {a : Addr} {xs : List V} {ds : List D} : F a = some (.lst xs) → RpL K F H0 H ds xs → Rp K F H0 H (.lst true ds) (.ref a)
  | tmN {a : Addr} {xs : List V} {ds : List D} : H0 a = none → H a = some (.lst xs) → RpL K F H0 H ds xs → Rp K F H0 H (.lst true ds) (.ref a)
  | unk {a : Addr} : Rp K F H0 H .unk (.ref a)
  | ex {a : Addr} {c : String} : H a = some (KxO (exK K c) a) → Rp K F H0 H (.ex c) (.ref a)
  | fn {a : Addr} {x : String} : exK K x = .ref a → Rp K F H0 H (.fn x) (.ref a)
  | dct {a : Addr} {q : DT} {ks : List (List Int)} {vs : List D} : Rp K F H0 H (.dct q ks vs) (.ref a)
inductive RpL (K : PySem.W.Frag) (F H0 H : Hp) : List D → List V → Prop
  | nil : RpL K F H0 H [] []
  | cons {d : D} {ds : List D} {v : V} {vs : List V} : Rp K F H0 H d v → RpL K F H0 H ds vs → RpL K F H0 H (d :: ds) (v :: vs)
end
section
variable {K : PySem.W.Frag} {F F' H0 H H' : Hp}
mutual
theorem Rp.mono (s : Same F F') (t : Same H H') : ∀ (d : D) (v : V), Rp K F H0 H d v → Rp K F' H0 H' d v
  | .non, _, h => by cases h; exact .non
  | .bl _, _, h => by cases h; exact .bl _
  | .int _, _, h => by cases h; exact .int _
  | .str _, _, h => by cases h; exact .str _
  | .unk, _, h => by cases h; exact .unk
  | .ex _, _, h => by
    cases h with
    | ex a => exact .ex (t _ _ a)
  | .fn _, _, h => by
    cases h with
    | fn a => exact .fn a
  | .dct _ _ _, _, h => by cases h; exact .dct
  | .tup ds, _, h => by
    cases h with
    | tup a b => exact .tup (t _ _ a) (RpL.mono s t ds _ b)
  | .fr ds, _, h => by
    cases h with
    | fr a b => exact .fr (s.seq a) (RpL.mono s t ds _ b)
  | .dic ks ds, _, h => by
    cases h with
    | dic a b c => exact .dic (s _ _ a) b (RpL.mono s t ds _ c)
  | .lst true ds, _, h => by
    cases h with
    | tmF a b => exact .tmF (s _ _ a) (RpL.mono s t ds _ b)
    | tmN a b c => exact .tmN a (t _ _ b) (RpL.mono s t ds _ c)
  | .lst false ds, _, h => by
    cases h with
    | lst a b => exact .lst (s _ _ a) (RpL.mono s t ds _ b)
theorem RpL.mono (s : Same F F') (t : Same H H') : ∀ (ds : List D) (vs : List V), RpL K F H0 H ds vs → RpL K F' H0 H' ds vs
  | [], _, h => by cases h; exact .nil
  | d :: ds, _, h => by
    cases h with
    | cons a b => exact .cons (Rp.mono s t d _ a) (RpL.mono s t ds _ b)
end
theorem Rp.grow {F1 H1 : Hp} {d : D} {v : V} (g : Grow F H F1 H1) (r : Rp K F H0 H d v) : Rp K F1 H0 H1 d v := r.mono g.sub g.same
theorem RpL.grow {F1 H1 : Hp} {ds : List D} {vs : List V} (g : Grow F H F1 H1) (r : RpL K F H0 H ds vs) : RpL K F1 H0 H1 ds vs := r.mono g.sub g.same
theorem RpL.length : ∀ {ds : List D} {vs : List V}, RpL K F H0 H ds vs → ds.length = vs.length
  | _, _, .nil => rfl
  | _, _, .cons _ t => by simp [RpL.length t]
theorem RpL.get : ∀ {ds : List D} {vs : List V} {i : Nat} {d : D}, RpL K F H0 H ds vs → ds[i]? = some d → ∃ v, vs[i]? = some v ∧ Rp K F H0 H d v
  | _, _, _, _, .nil, e => by simp at e
  | _, _, 0, _, .cons r _, e => by simp at e; subst e; exact ⟨_, rfl, r⟩
  | _, _, i + 1, d, .cons _ t, e => by
    obtain ⟨u, h1, h2⟩ := RpL.get (i := i) (d := d) t (by simpa using e)
    exact ⟨u, by simpa using h1, h2⟩
theorem RpL.app : ∀ {ds es : List D} {vs us : List V}, RpL K F H0 H ds vs → RpL K F H0 H es us → RpL K F H0 H (ds ++ es) (vs ++ us)
  | _, _, _, _, .nil, s => s
  | _, _, _, _, .cons r t, s => .cons r (RpL.app t s)
theorem RpL.take : ∀ {ds : List D} {vs : List V} (n : Nat), RpL K F H0 H ds vs → RpL K F H0 H (ds.take n) (vs.take n)
  | _, _, 0, _ => .nil
  | _, _, _ + 1, .nil => .nil
  | _, _, n + 1, .cons r t => .cons r (RpL.take n t)
theorem RpL.drop : ∀ {ds : List D} {vs : List V} (n : Nat), RpL K F H0 H ds vs → RpL K F H0 H (ds.drop n) (vs.drop n)
  | _, _, 0, r => r
  | _, _, _ + 1, .nil => .nil
  | _, _, n + 1, .cons _ t => RpL.drop n t
theorem RpL.set {d : D} {v : V} (r : Rp K F H0 H d v) : ∀ {ds : List D} {vs : List V} (i : Nat), RpL K F H0 H ds vs → RpL K F H0 H (ds.set i d) (vs.set i v)
  | _, _, _, .nil => .nil
  | _, _, 0, .cons _ t => .cons r t
  | _, _, i + 1, .cons q t => .cons q (RpL.set r i t)
mutual
theorem Rp.keep (t : ∀ b o, H b = some o → NoL o → H' b = some o) : ∀ (d : D) (v : V), hasT d = false → Rp K F H0 H d v → Rp K F H0 H' d v
  | .non, _, _, h => by cases h; exact .non
  | .bl _, _, _, h => by cases h; exact .bl _
  | .int _, _, _, h => by cases h; exact .int _
  | .str _, _, _, h => by cases h; exact .str _
  | .unk, _, _, h => by cases h; exact .unk
  | .ex _, _, _, h => by
    cases h with
    | ex a => exact .ex (t _ _ a ⟨_, _, rfl⟩)
  | .fn _, _, _, h => by
    cases h with
    | fn a => exact .fn a
  | .dct _ _ _, _, _, h => by cases h; exact .dct
  | .tup ds, _, n, h => by
    cases h with
    | tup a b => exact .tup (t _ _ a trivial) (RpL.keep t ds _ n b)
  | .lst true ds, _, n, _ => by simp [hasT] at n
  | .lst false ds, _, n, h => by
    simp only [hasT, Bool.false_or] at n
    cases h with
    | lst a b => exact .lst a (RpL.keep t ds _ n b)
  | .fr ds, _, n, h => by
    simp only [hasT] at n
    cases h with
    | fr a b => exact .fr a (RpL.keep t ds _ n b)
  | .dic ks ds, _, n, h => by
    simp only [hasT] at n
    cases h with
    | dic a b c => exact .dic a b (RpL.keep t ds _ n c)
theorem RpL.keep (t : ∀ b o, H b = some o → NoL o → H' b = some o) : ∀ (ds : List D) (vs : List V), hasTL ds = false → RpL K F H0 H ds vs → RpL K F H0 H' ds vs
  | [], _, _, h => by cases h; exact .nil
  | d :: ds, _, n, h => by
    simp only [hasTL, Bool.or_eq_false_iff] at n
    cases h with
    | cons a b => exact .cons (Rp.keep t d _ n.1 a) (RpL.keep t ds _ n.2 b)
end
mutual
theorem Rp.base {H1 : Hp} : ∀ (d : D) (v : V), hasT d = false → Rp K F H0 H d v → Rp K F H1 H d v
  | .non, _, _, h => by cases h; exact .non
  | .bl _, _, _, h => by cases h; exact .bl _
  | .int _, _, _, h => by cases h; exact .int _
  | .str _, _, _, h => by cases h; exact .str _
  | .unk, _, _, h => by cases h; exact .unk
  | .ex _, _, _, h => by
    cases h with
    | ex a => exact .ex a
  | .fn _, _, _, h => by
    cases h with
    | fn a => exact .fn a
  | .dct _ _ _, _, _, h => by cases h; exact .dct
  | .tup ds, _, n, h => by
    cases h with
    | tup a b => exact .tup a (RpL.base ds _ n b)
  | .lst true ds, _, n, _ => by simp [hasT] at n
  | .lst false ds, _, n, h => by
    simp only [hasT, Bool.false_or] at n
    cases h with
    | lst a b => exact .lst a (RpL.base ds _ n b)
  | .fr ds, _, n, h => by
    simp only [hasT] at n
    cases h with
    | fr a b => exact .fr a (RpL.base ds _ n b)
  | .dic ks ds, _, n, h => by
    simp only [hasT] at n
    cases h with
    | dic a b c => exact .dic a b (RpL.base ds _ n c)
theorem RpL.base {H1 : Hp} : ∀ (ds : List D) (vs : List V), hasTL ds = false → RpL K F H0 H ds vs → RpL K F H1 H ds vs
  | [], _, _, h => by cases h; exact .nil
  | d :: ds, _, n, h => by
    simp only [hasTL, Bool.or_eq_false_iff] at n
    cases h with
    | cons a b => exact .cons (Rp.base d _ n.1 a) (RpL.base ds _ n.2 b)
end
def vis (F H0 H : Hp) : Hp := fun a => if (H0 a).isNone then H a else F a
theorem vis_old {a : Addr} {o : HO} (h : H0 a = some o) : vis F H0 H a = F a := by unfold vis; rw [h]; rfl
theorem vis_new {a : Addr} (h : H0 a = none) : vis F H0 H a = H a := by unfold vis; rw [h]; rfl
theorem vis_sub (s : Same F H) : Same F (vis F H0 H) := fun a o e => by
  cases h : H0 a with
  | none => rw [vis_new h]; exact s _ _ e
  | some z => rw [vis_old h]; exact e
theorem vis_subH (s : Same F H) : Same (vis F H0 H) H := fun a o e => by
  cases h : H0 a with
  | none => rw [vis_new h] at e; exact e
  | some z => rw [vis_old h] at e; exact s _ _ e
mutual
theorem Rp.vis (s : Same F H) {H1 : Hp} : ∀ (d : D) (v : V), Rp K F H0 H d v → Rp K (vis F H0 H) H1 H (CT.still d) v
  | .non, _, h => by cases h; exact .non
  | .bl _, _, h => by cases h; exact .bl _
  | .int _, _, h => by cases h; exact .int _
  | .str _, _, h => by cases h; exact .str _
  | .unk, _, h => by cases h; exact .unk
  | .ex _, _, h => by
    cases h with
    | ex a => exact .ex a
  | .fn _, _, h => by
    cases h with
    | fn a => exact .fn a
  | .dct _ _ _, _, h => by cases h; exact .unk
  | .tup ds, _, h => by
    cases h with
    | tup a b => exact .tup a (RpL.vis s ds _ b)
  | .lst true ds, _, h => by
    cases h with
    | tmF a b => exact .lst (vis_sub s _ _ a) (RpL.vis s ds _ b)
    | tmN a b c => exact .lst (by rw [vis_new a]; exact b) (RpL.vis s ds _ c)
  | .lst false ds, _, h => by
    cases h with
    | lst a b => exact .lst (vis_sub s _ _ a) (RpL.vis s ds _ b)
  | .fr ds, _, h => by
    cases h with
    | fr a b => exact .fr ((vis_sub s).seq a) (RpL.vis s ds _ b)
  | .dic ks ds, _, h => by
    cases h with
    | dic a b c => exact .dic (vis_sub s _ _ a) b (RpL.vis s ds _ c)
theorem RpL.vis (s : Same F H) {H1 : Hp} : ∀ (ds : List D) (vs : List V), RpL K F H0 H ds vs → RpL K (vis F H0 H) H1 H (stillL ds) vs
  | [], _, h => by cases h; exact .nil
  | d :: ds, _, h => by
    cases h with
    | cons a b => exact .cons (Rp.vis s d _ a) (RpL.vis s ds _ b)
end
mutual
theorem Rp.flat {F1 H1 H' : Hp} (t : ∀ a xs, H a = some (.tup xs) → H' a = some (.tup xs)) (tx : ∀ a cls, H a = some (KxO cls a) → H' a = some (KxO cls a)) : ∀ (d : D) (v : V), isFlat d = true → Rp K F H0 H d v → Rp K F1 H1 H' d v
  | .non, _, _, h => by cases h; exact .non
  | .bl _, _, _, h => by cases h; exact .bl _
  | .int _, _, _, h => by cases h; exact .int _
  | .str _, _, _, h => by cases h; exact .str _
  | .unk, _, n, _ => by simp [isFlat] at n
  | .ex _, _, _, h => by
    cases h with
    | ex a => exact .ex (tx _ _ a)
  | .fn _, _, _, h => by
    cases h with
    | fn a => exact .fn a
  | .dct _ _ _, _, n, _ => by simp [isFlat] at n
  | .tup ds, _, n, h => by
    cases h with
    | tup a b => exact .tup (t _ _ a) (RpL.flat t tx ds _ n b)
  | .lst _ ds, _, n, _ => by simp [isFlat] at n
  | .fr ds, _, n, _ => by simp [isFlat] at n
  | .dic _ _, _, n, _ => by simp [isFlat] at n
theorem RpL.flat {F1 H1 H' : Hp} (t : ∀ a xs, H a = some (.tup xs) → H' a = some (.tup xs)) (tx : ∀ a cls, H a = some (KxO cls a) → H' a = some (KxO cls a)) : ∀ (ds : List D) (vs : List V), isFlatL ds = true → RpL K F H0 H ds vs → RpL K F1 H1 H' ds vs
  | [], _, _, h => by cases h; exact .nil
  | d :: ds, _, n, h => by
    simp only [isFlatL, Bool.and_eq_true] at n
    cases h with
    | cons a b => exact .cons (Rp.flat t tx d _ n.1 a) (RpL.flat t tx ds _ n.2 b)
end
mutual
def okP : D → Bool
  | .tup xs => okPL xs
  | .lst _ xs => okPL xs
  | .fr xs => okPL xs
  | .dic _ _ => false
  | .non => true
  | .bl _ => true
  | .int _ => true
  | .str _ => true
  | .unk => false
  | .ex _ => false
  | .fn _ => false
  | .dct _ _ _ => false
def okPL : List D → Bool
  | [] => true
  | x :: xs => okP x && okPL xs
end
theorem far_depth : ¬ PyData.depth farPy ≤ 69 := by decide +kernel
mutual
theorem okP_of : ∀ d, PyData.depth (py d) ≤ 69 → okP d = true
  | .tup xs, h => by simp only [py, PyData.depth] at h; exact okPL_of xs (by omega)
  | .lst _ xs, h => by simp only [py, PyData.depth] at h; exact okPL_of xs (by omega)
  | .fr xs, h => by simp only [py, PyData.depth] at h; exact okPL_of xs (by omega)
  | .dic _ _, h => absurd h far_depth
  | .non, _ => rfl
  | .bl _, _ => rfl
  | .int _, _ => rfl
  | .str _, _ => rfl
  | .unk, h => absurd h far_depth
  | .ex _, h => absurd h far_depth
  | .fn _, h => absurd h far_depth
  | .dct _ _ _, h => absurd h far_depth
theorem okPL_of : ∀ ds, PyData.depthAll (pyL ds) ≤ 69 → okPL ds = true
  | [], _ => rfl
  | x :: xs, h => by
    simp only [pyL, PyData.depthAll] at h
    simp only [okPL, Bool.and_eq_true]
    exact ⟨okP_of x (by omega), okPL_of xs (by omega)⟩
end
theorem okP_sh {d : D} (h : SeqAt.shaped (py d) = true) : okP d = true := okP_of d (Nat.le_trans (SeqAt.depth_of_shaped h) (by decide))
theorem okPL_sh {ds : List D} (h : SeqAt.shaped (.list (pyL ds)) = true) : okPL ds = true := okP_sh (d := .fr ds) h
mutual
theorem Rp.dp (s : Same F H) : ∀ (d : D) (v : V), okP d = true → Rp K F H0 H d v → Dp K H v (py d)
  | .non, _, n, h => by cases h; exact .non
  | .bl _, _, n, h => by cases h; exact .bl _
  | .int _, _, n, h => by cases h; exact .int _
  | .str _, _, n, h => by cases h; exact .str _
  | .unk, _, n, _ => by simp [okP] at n
  | .ex _, _, n, _ => by simp [okP] at n
  | .fn _, _, n, _ => by simp [okP] at n
  | .dic _ _, _, n, _ => by simp [okP] at n
  | .dct _ _ _, _, n, _ => by simp [okP] at n
  | .tup ds, _, n, h => by
    cases h with
    | tup a b => exact .tup (.inl (.inl a)) (RpL.dp s ds _ (by simpa only [okP] using n) b)
  | .lst true ds, _, n, h => by
    cases h with
    | tmF a b => exact .lst (.inl (.inl (s _ _ a))) (RpL.dp s ds _ (by simpa only [okP] using n) b)
    | tmN a b c => exact .lst (.inl (.inl b)) (RpL.dp s ds _ (by simpa only [okP] using n) c)
  | .lst false ds, _, n, h => by
    cases h with
    | lst a b => exact .lst (.inl (.inl (s _ _ a))) (RpL.dp s ds _ (by simpa only [okP] using n) b)
  | .fr ds, _, n, h => by
    cases h with
    | fr a b => exact .lst (s.seq a) (RpL.dp s ds _ (by simpa only [okP] using n) b)
theorem RpL.dp (s : Same F H) : ∀ (ds : List D) (vs : List V), okPL ds = true → RpL K F H0 H ds vs → DpAll K H vs (pyL ds)
  | [], _, _, h => by cases h; exact .nil
  | d :: ds, _, n, h => by
    cases h with
    | cons a b =>
      simp only [okPL, Bool.and_eq_true] at n
      exact .cons (Rp.dp s d _ n.1 a) (RpL.dp s ds _ n.2 b)
end
theorem Rp.list {t : Bool} {ds : List D} {v : V} (s : Same F H) (h : Rp K F H0 H (.lst t ds) v) : ∃ a xs, v = .ref a ∧ H a = some (.lst xs) ∧ RpL K F H0 H ds xs := by
  cases h with
  | lst a b => exact ⟨_, _, rfl, s _ _ a, b⟩
  | tmF a b => exact ⟨_, _, rfl, s _ _ a, b⟩
  | tmN a b c => exact ⟨_, _, rfl, b, c⟩
theorem Rp.frl {ds : List D} {v : V} (s : Same F H) (h : Rp K F H0 H (.fr ds) v) : ∃ a xs, v = .ref a ∧ SqL K H a xs ∧ RpL K F H0 H ds xs := by
  cases h with
  | fr a b => exact ⟨_, _, rfl, s.seq a, b⟩
theorem Rp.tuple {ds : List D} {v : V} (h : Rp K F H0 H (.tup ds) v) : ∃ a xs, v = .ref a ∧ SqT K H a xs ∧ RpL K F H0 H ds xs := by
  cases h with
  | tup a b => exact ⟨_, _, rfl, .inl (.inl a), b⟩
theorem Rp.tuple' {ds : List D} {v : V} (h : Rp K F H0 H (.tup ds) v) : ∃ a xs, v = .ref a ∧ H a = some (.tup xs) ∧ RpL K F H0 H ds xs := by
  cases h with
  | tup a b => exact ⟨_, _, rfl, a, b⟩
end
end CT

namespace CT
open PySem PySem.Spec PyProof.Rows L2
abbrev Sl := List (Option D)
structure Bs where
  ex : String → Value
  F0 : Hp
  H0 : Hp
inductive Own (H : Hp) : D → V → Addr → Prop
  | lst {ds : List D} {a : Addr} : Own H (.lst true ds) (.ref a) a
  | inL {ds : List D} {a : Addr} {xs : List V} {k : Nat} {d : D} {v : V} {c : Addr} : H a = some (.lst xs) → ds[k]? = some d → xs[k]? = some v → Own H d v c → Own H (.lst true ds) (.ref a) c
  | inF {ds : List D} {a : Addr} {xs : List V} {k : Nat} {d : D} {v : V} {c : Addr} : H a = some (.lst xs) → ds[k]? = some d → xs[k]? = some v → Own H d v c → Own H (.lst false ds) (.ref a) c
  | inT {ds : List D} {a : Addr} {xs : List V} {k : Nat} {d : D} {v : V} {c : Addr} : H a = some (.tup xs) → ds[k]? = some d → xs[k]? = some v → Own H d v c → Own H (.tup ds) (.ref a) c
def Owns (H : Hp) (d : D) (v : V) (a : Addr) : Prop := (∃ ds, d = .lst true ds ∧ v = .ref a) ∨ (∃ q ks ds, d = .dct q ks ds ∧ v = .ref a) ∨ Own H d v a
def nest : D → Bool
  | .lst _ ds => hasTL ds
  | .tup ds => hasTL ds
  | _ => false
theorem one_nodup (a : Addr) : [a].Nodup := by simp
mutual
inductive Ow (K : PySem.W.Frag) (F H0 H : Hp) : D → V → List Addr → Prop
  | st {d : D} {v : V} : hasT d = false → Rp K F H0 H d v → Ow K F H0 H d v []
  | lst {a : Addr} {xs : List V} {ds : List D} {as : List Addr} : H a = some (.lst xs) → F a = none → H0 a = none → OwL K F H0 H ds xs as → Ow K F H0 H (.lst true ds) (.ref a) (a :: as)
  | fl {a : Addr} {xs : List V} {ds : List D} {as : List Addr} : F a = some (.lst xs) → H a = some (.lst xs) → OwL K F H0 H ds xs as → Ow K F H0 H (.lst false ds) (.ref a) as
  | tup {a : Addr} {xs : List V} {ds : List D} {as : List Addr} : H a = some (.tup xs) → OwL K F H0 H ds xs as → Ow K F H0 H (.tup ds) (.ref a) as
inductive OwL (K : PySem.W.Frag) (F H0 H : Hp) : List D → List V → List Addr → Prop
  | nil : OwL K F H0 H [] [] []
  | cons {d : D} {ds : List D} {v : V} {vs : List V} {as bs : List Addr} : Ow K F H0 H d v as → OwL K F H0 H ds vs bs → OwL K F H0 H (d :: ds) (v :: vs) (as ++ bs)
end
section
variable {K : PySem.W.Frag} {F H F1 H1 H0 H0' : Hp}
theorem Own.of {d : D} {v : V} {a : Addr} (o : Own H d v a) : hasT d = true := by
  induction o with
  | lst => simp [hasT]
  | inL => simp [hasT]
  | inF _ e _ _ ih =>
    cases q : hasTL _ with
    | true => simp only [hasT, Bool.false_or]; exact q
    | false => rw [hasTL_get q e] at ih; cases ih
  | inT _ e _ _ ih =>
    cases q : hasTL _ with
    | true => simp only [hasT]; exact q
    | false => rw [hasTL_get q e] at ih; cases ih
theorem OwL.st : ∀ {ds : List D} {vs : List V}, hasTL ds = false → RpL K F H0 H ds vs → OwL K F H0 H ds vs []
  | _, _, _, .nil => .nil
  | _, _, n, .cons a b => by
    simp only [hasTL, Bool.or_eq_false_iff] at n
    exact .cons (.st n.1 a) (OwL.st n.2 b)
mutual
theorem Ow.rp : ∀ (d : D) (v : V) (as : List Addr), Ow K F H0 H d v as → Rp K F H0 H d v
  | .lst t ds, _, _, h => by
    cases h with
    | st _ r => exact r
    | lst a _ c w => exact .tmN c a (OwL.rp ds _ _ w)
    | fl a _ w => exact .lst a (OwL.rp ds _ _ w)
  | .tup ds, _, _, h => by
    cases h with
    | st _ r => exact r
    | tup a w => exact .tup a (OwL.rp ds _ _ w)
  | .non, _, _, h => by cases h with | st _ r => exact r
  | .bl _, _, _, h => by cases h with | st _ r => exact r
  | .int _, _, _, h => by cases h with | st _ r => exact r
  | .str _, _, _, h => by cases h with | st _ r => exact r
  | .fr _, _, _, h => by cases h with | st _ r => exact r
  | .unk, _, _, h => by cases h with | st _ r => exact r
  | .ex _, _, _, h => by cases h with | st _ r => exact r
  | .fn _, _, _, h => by cases h with | st _ r => exact r
  | .dic _ _, _, _, h => by cases h with | st _ r => exact r
  | .dct _ _ _, _, _, h => by cases h with | st _ r => exact r
theorem OwL.rp : ∀ (ds : List D) (vs : List V) (as : List Addr), OwL K F H0 H ds vs as → RpL K F H0 H ds vs
  | [], _, _, h => by cases h; exact .nil
  | d :: ds, _, _, h => by
    cases h with
    | cons a b => exact .cons (Ow.rp d _ _ a) (OwL.rp ds _ _ b)
end
section
variable (hs : ∀ (d : D) (v : V), hasT d = false → Rp K F H0 H d v → Rp K F1 H0 H1 d v) (ht : ∀ a xs, H a = some (.tup xs) → H1 a = some (.tup xs)) (hfl : ∀ a xs, F a = some (.lst xs) → F1 a = some (.lst xs) ∧ H1 a = some (.lst xs))
include hs ht hfl
mutual
theorem Ow.keepG : ∀ (d : D) (v : V) (as : List Addr), Ow K F H0 H d v as → (∀ a ∈ as, ∀ xs, H a = some (.lst xs) → H1 a = some (.lst xs)) → (∀ a ∈ as, ∀ xs, H a = some (.lst xs) → F a = none → F1 a = none) → Ow K F1 H0 H1 d v as
  | .lst t' ds, _, _, h, k, f => by
    cases h with
    | st n r => exact .st n (hs _ _ n r)
    | lst a b c w => exact .lst (k _ List.mem_cons_self _ a) (f _ List.mem_cons_self _ a b) c (OwL.keepG ds _ _ w (fun x hx => k x (List.mem_cons_of_mem _ hx)) fun x hx => f x (List.mem_cons_of_mem _ hx))
    | fl a b w => exact .fl (hfl _ _ a).1 (hfl _ _ a).2 (OwL.keepG ds _ _ w k f)
  | .tup ds, _, _, h, k, f => by
    cases h with
    | st n r => exact .st n (hs _ _ n r)
    | tup a w => exact .tup (ht _ _ a) (OwL.keepG ds _ _ w k f)
  | .non, _, _, h, _, _ => by cases h with | st n r => exact .st n (hs _ _ n r)
  | .bl _, _, _, h, _, _ => by cases h with | st n r => exact .st n (hs _ _ n r)
  | .int _, _, _, h, _, _ => by cases h with | st n r => exact .st n (hs _ _ n r)
  | .str _, _, _, h, _, _ => by cases h with | st n r => exact .st n (hs _ _ n r)
  | .fr _, _, _, h, _, _ => by cases h with | st n r => exact .st n (hs _ _ n r)
  | .unk, _, _, h, _, _ => by cases h with | st n r => exact .st n (hs _ _ n r)
  | .ex _, _, _, h, _, _ => by cases h with | st n r => exact .st n (hs _ _ n r)
  | .fn _, _, _, h, _, _ => by cases h with | st n r => exact .st n (hs _ _ n r)
  | .dic _ _, _, _, h, _, _ => by cases h with | st n r => exact .st n (hs _ _ n r)
  | .dct _ _ _, _, _, h, _, _ => by cases h with | st n r => exact .st n (hs _ _ n r)
theorem OwL.keepG : ∀ (ds : List D) (vs : List V) (as : List Addr), OwL K F H0 H ds vs as → (∀ a ∈ as, ∀ xs, H a = some (.lst xs) → H1 a = some (.lst xs)) → (∀ a ∈ as, ∀ xs, H a = some (.lst xs) → F a = none → F1 a = none) → OwL K F1 H0 H1 ds vs as
  | [], _, _, h, _, _ => by cases h; exact .nil
  | d :: ds, _, _, h, k, f => by
    cases h with
    | cons a b => exact .cons (Ow.keepG d _ _ a (fun x hx => k x (List.mem_append_left _ hx)) fun x hx => f x (List.mem_append_left _ hx)) (OwL.keepG ds _ _ b (fun x hx => k x (List.mem_append_right _ hx)) fun x hx => f x (List.mem_append_right _ hx))
end
end
theorem Ow.keep (t : ∀ b o, H b = some o → NoL o → H1 b = some o) (s : Same F F1) (sH : Same F1 H1) (d : D) (v : V) (as : List Addr) (w : Ow K F H0 H d v as) (k : ∀ a ∈ as, ∀ xs, H a = some (.lst xs) → H1 a = some (.lst xs)) (f : ∀ a ∈ as, F1 a = none) : Ow K F1 H0 H1 d v as :=
  Ow.keepG (fun d v n r => (Rp.keep t _ _ n r).mono s (Same.refl _)) (fun a xs e => t _ _ e trivial) (fun a xs e => ⟨s _ _ e, sH _ _ (s _ _ e)⟩) d v as w k fun a ha _ _ _ => f a ha
theorem OwL.keep (t : ∀ b o, H b = some o → NoL o → H1 b = some o) (s : Same F F1) (sH : Same F1 H1) (d : List D) (v : List V) (as : List Addr) (w : OwL K F H0 H d v as) (k : ∀ a ∈ as, ∀ xs, H a = some (.lst xs) → H1 a = some (.lst xs)) (f : ∀ a ∈ as, F1 a = none) : OwL K F1 H0 H1 d v as :=
  OwL.keepG (fun d v n r => (Rp.keep t _ _ n r).mono s (Same.refl _)) (fun a xs e => t _ _ e trivial) (fun a xs e => ⟨s _ _ e, sH _ _ (s _ _ e)⟩) d v as w k fun a ha _ _ _ => f a ha
mutual
theorem Ow.base (z : ∀ a, H0 a = none → H0' a = none) : ∀ (d : D) (v : V) (as : List Addr), Ow K F H0 H d v as → Ow K F H0' H d v as
  | .lst t' ds, _, _, h => by
    cases h with
    | st n r => exact .st n (Rp.base _ _ n r)
    | lst a b c w => exact .lst a b (z _ c) (OwL.base z ds _ _ w)
    | fl a b w => exact .fl a b (OwL.base z ds _ _ w)
  | .tup ds, _, _, h => by
    cases h with
    | st n r => exact .st n (Rp.base _ _ n r)
    | tup a w => exact .tup a (OwL.base z ds _ _ w)
  | .non, _, _, h => by cases h with | st n r => exact .st n (Rp.base _ _ n r)
  | .bl _, _, _, h => by cases h with | st n r => exact .st n (Rp.base _ _ n r)
  | .int _, _, _, h => by cases h with | st n r => exact .st n (Rp.base _ _ n r)
  | .str _, _, _, h => by cases h with | st n r => exact .st n (Rp.base _ _ n r)
  | .fr _, _, _, h => by cases h with | st n r => exact .st n (Rp.base _ _ n r)
  | .unk, _, _, h => by cases h with | st n r => exact .st n (Rp.base _ _ n r)
  | .ex _, _, _, h => by cases h with | st n r => exact .st n (Rp.base _ _ n r)
  | .fn _, _, _, h => by cases h with | st n r => exact .st n (Rp.base _ _ n r)
  | .dic _ _, _, _, h => by cases h with | st n r => exact .st n (Rp.base _ _ n r)
  | .dct _ _ _, _, _, h => by cases h with | st n r => exact .st n (Rp.base _ _ n r)
theorem OwL.base (z : ∀ a, H0 a = none → H0' a = none) : ∀ (ds : List D) (vs : List V) (as : List Addr), OwL K F H0 H ds vs as → OwL K F H0' H ds vs as
  | [], _, _, h => by cases h; exact .nil
  | d :: ds, _, _, h => by
    cases h with
    | cons a b => exact .cons (Ow.base z d _ _ a) (OwL.base z ds _ _ b)
end
mutual
theorem Ow.mem {c : Addr} : ∀ (d : D) (v : V) (as : List Addr), Ow K F H0 H d v as → c ∈ as → Own H d v c ∧ (∃ xs, H c = some (.lst xs)) ∧ F c = none ∧ H0 c = none
  | .lst t' ds, _, _, h, m => by
    cases h with
    | st n r => cases m
    | lst a b e w =>
      rcases List.mem_cons.mp m with rfl | m
      · exact ⟨.lst, ⟨_, a⟩, b, e⟩
      · obtain ⟨k, d, v, h1, h2, h3, h4⟩ := OwL.mem ds _ _ w m
        exact ⟨.inL a h1 h2 h3, h4⟩
    | fl a b w =>
      obtain ⟨k, d, v, h1, h2, h3, h4⟩ := OwL.mem ds _ _ w m
      exact ⟨.inF b h1 h2 h3, h4⟩
  | .tup ds, _, _, h, m => by
    cases h with
    | st n r => cases m
    | tup a w =>
      obtain ⟨k, d, v, h1, h2, h3, h4⟩ := OwL.mem ds _ _ w m
      exact ⟨.inT a h1 h2 h3, h4⟩
  | .non, _, _, h, m => by cases h with | st n r => cases m
  | .bl _, _, _, h, m => by cases h with | st n r => cases m
  | .int _, _, _, h, m => by cases h with | st n r => cases m
  | .str _, _, _, h, m => by cases h with | st n r => cases m
  | .fr _, _, _, h, m => by cases h with | st n r => cases m
  | .unk, _, _, h, m => by cases h with | st n r => cases m
  | .ex _, _, _, h, m => by cases h with | st n r => cases m
  | .fn _, _, _, h, m => by cases h with | st n r => cases m
  | .dic _ _, _, _, h, m => by cases h with | st n r => cases m
  | .dct _ _ _, _, _, h, m => by cases h with | st n r => cases m
theorem OwL.mem {c : Addr} : ∀ (ds : List D) (vs : List V) (as : List Addr), OwL K F H0 H ds vs as → c ∈ as → ∃ (k : Nat) (d : D) (v : V), ds[k]? = some d ∧ vs[k]? = some v ∧ Own H d v c ∧ (∃ xs, H c = some (.lst xs)) ∧ F c = none ∧ H0 c = none
  | [], _, _, h, m => by cases h; cases m
  | d :: ds, _, _, h, m => by
    cases h with
    | cons a b =>
      rcases List.mem_append.mp m with m | m
      · exact ⟨0, d, _, rfl, rfl, Ow.mem d _ _ a m⟩
      · obtain ⟨k, d, v, h1, h2, h3⟩ := OwL.mem ds _ _ b m
        exact ⟨k + 1, d, v, by simpa using h1, by simpa using h2, h3⟩
end
theorem OwL.at : ∀ {ds : List D} {vs : List V} {as : List Addr} {k : Nat} {d : D} {v : V}, OwL K F H0 H ds vs as → ds[k]? = some d → vs[k]? = some v → ∃ ak, Ow K F H0 H d v ak ∧ ∀ c ∈ ak, c ∈ as
  | _, _, _, _, _, _, .nil, e, _ => by simp at e
  | _, _, _, 0, _, _, .cons a b, e, e2 => by simp at e e2; subst e e2; exact ⟨_, a, fun c h => List.mem_append_left _ h⟩
  | _, _, _, k + 1, d, v, .cons a b, e, e2 => by
    obtain ⟨ak, h1, h2⟩ := OwL.at (k := k) (d := d) (v := v) b (by simpa using e) (by simpa using e2)
    exact ⟨ak, h1, fun c h => List.mem_append_right _ (h2 c h)⟩
theorem Ow.of {d : D} {v : V} {c : Addr} (o : Own H d v c) : ∀ {as : List Addr}, Ow K F H0 H d v as → c ∈ as := by
  induction o with
  | lst =>
    intro as w
    cases w with
    | st n _ => simp [hasT] at n
    | lst => exact List.mem_cons_self
  | inL e1 e2 e3 _ ih =>
    intro as w
    cases w with
    | st n _ => simp [hasT] at n
    | lst a _ _ w =>
      rw [a] at e1; cases e1
      obtain ⟨ak, h1, h2⟩ := w.at e2 e3
      exact List.mem_cons_of_mem _ (h2 _ (ih h1))
  | inF e1 e2 e3 o ih =>
    intro as w
    cases w with
    | st n _ =>
      have := hasTL_get (by simpa only [hasT, Bool.false_or] using n) e2
      rw [o.of] at this; cases this
    | fl _ a w =>
      rw [a] at e1; cases e1
      obtain ⟨ak, h1, h2⟩ := w.at e2 e3
      exact h2 _ (ih h1)
  | inT e1 e2 e3 o ih =>
    intro as w
    cases w with
    | st n _ =>
      have := hasTL_get (by simpa only [hasT] using n) e2
      rw [o.of] at this; cases this
    | tup a w =>
      rw [a] at e1; cases e1
      obtain ⟨ak, h1, h2⟩ := w.at e2 e3
      exact h2 _ (ih h1)
theorem Ow.iff {d : D} {v : V} {c : Addr} {as : List Addr} (w : Ow K F H0 H d v as) : Own H d v c ↔ c ∈ as := ⟨fun o => Ow.of o w, fun m => (Ow.mem d v as w m).1⟩
theorem OwL.app : ∀ {ds es : List D} {vs us : List V} {as bs : List Addr}, OwL K F H0 H ds vs as → OwL K F H0 H es us bs → OwL K F H0 H (ds ++ es) (vs ++ us) (as ++ bs)
  | _, _, _, _, _, _, .nil, s => s
  | _, _, _, _, _, _, .cons r t, s => by rw [List.append_assoc]; exact .cons r (OwL.app t s)
end
def NU (H : Hp) (a : Addr) (kvs : List (List Key × V)) (u : HO) : Prop := ∃ kas : Kas, u = DnO a kas ∧ kas.map (fun x => ((encN x.1).map (Sum.inl : Int → Key), x.2.2)) = kvs ∧ ∀ x ∈ kas, NK H x.1 x.2.1
theorem NU.keep {H H' : Hp} {a : Addr} {kvs : List (List Key × V)} {u : HO} (t : ∀ b xs, H b = some (.tup xs) → H' b = some (.tup xs)) (h : NU H a kvs u) : NU H' a kvs u := by
  obtain ⟨kas, h1, h2, h3⟩ := h
  exact ⟨kas, h1, h2, fun x hx => (h3 x hx).keep t⟩
def IU (kvs : List (List Key × V)) (u : HO) : Prop := ∃ kis : List (Key × V), kvs = kis.map (fun x => ([x.1], x.2)) ∧ u = .dK kis
def LU (a : Addr) (kvs : List (List Key × V)) (u : HO) : Prop := ∃ kls : Kls, u = LfO a kls ∧ kls.map (fun x => (lfK x.1, x.2)) = kvs
def DU (q : DT) (H : Hp) (a : Addr) (kvs : List (List Key × V)) (u : HO) : Prop := if q.n = true then (if q.l = true then (if q.o.isSome = true then u = .lst (kvs.map (·.2)) else IU kvs u) else if q.o.isSome = true then LU a kvs u else NU H a kvs u) else if q.l = true then ∃ od, u = .frz od (.dT kvs) else u = .dT kvs
theorem DU.keep {q : DT} {H H' : Hp} {a : Addr} {kvs : List (List Key × V)} {u : HO} (t : ∀ b xs, H b = some (.tup xs) → H' b = some (.tup xs)) (h : DU q H a kvs u) : DU q H' a kvs u := by
  unfold DU at h ⊢
  split
  · rename_i hn
    rw [if_pos hn] at h
    split
    · rename_i hl; rw [if_pos hl] at h; exact h
    · rename_i hl
      rw [if_neg hl] at h
      split
      · rename_i ho; rw [if_pos ho] at h; exact h
      · rename_i ho; rw [if_neg ho] at h; exact h.keep t
  · rename_i hn; rw [if_neg hn] at h; exact h
structure DctOk (K : PySem.W.Frag) (F H0 H : Hp) (q : DT) (ks : List (List Int)) (ds : List D) (v : V) (a : Addr) (kvs : List (List Key × V)) : Prop where
  v : v = .ref a
  o : ∀ b, q.o = some b → (q.n && !q.l) = true ∨ a = b
  al : ∃ u, H a = some u ∧ DU q H a kvs u
  fa : F a = none
  ha : H0 a = none
  k : kvs.map (·.1) = ks.map (·.map Sum.inl)
  x : RpL K F H0 H ds (kvs.map (·.2))
  nx : hasTL ds = false
def SlotOk (K : PySem.W.Frag) (F H0 H : Hp) (d : D) (v : V) : Prop :=
  (∃ ds a xs, d = .lst true ds ∧ v = .ref a ∧ H a = some (.lst xs) ∧ F a = none ∧ H0 a = none ∧ RpL K F H0 H ds xs ∧ hasTL ds = false) ∨ (hasT d = false ∧ Rp K F H0 H d v)
    ∨ (∃ as, nest d = true ∧ Ow K F H0 H d v as ∧ as.Nodup) ∨ ∃ q ks ds a kvs, d = .dct q ks ds ∧ DctOk K F H0 H q ks ds v a kvs
structure Rel (K : PySem.W.Frag) (b : Bs) (F : Hp) (m : Sl) (σ : L2.St) (H : Hp) : Prop where
  len : m.length = σ.length
  grow : Grow b.F0 b.H0 F H
  slot : ∀ (i : Nat) (d : D), m[i]? = some (some d) → ∃ v, σ[i]? = some (some v) ∧ SlotOk K F b.H0 H d v
  apart : ∀ (i j : Nat) (d e : D) (v w : V) (a : Addr), m[i]? = some (some d) → m[j]? = some (some e) → σ[i]? = some (some v) → σ[j]? = some (some w) → Owns H d v a → Owns H e w a → i = j
section
variable {K : PySem.W.Frag} {b : Bs} {F H F1 H1 H0 : Hp} {m : Sl} {σ : L2.St}
theorem set_self_eq {α : Type} {l : List α} {i : Nat} {x y : α} (h : l[i]? = some x) : (l.set i y).set i x = l := by
  rw [List.set_set]
  apply List.ext_getElem?
  intro j
  by_cases hj : j = i
  · subst hj
    rw [List.getElem?_set_self ((List.getElem?_eq_some_iff.1 h).1), h]
  · rw [List.getElem?_set_ne (Ne.symm hj)]
theorem Rel.sub (r : Rel K b F m σ H) : Same F H := r.grow.subH
theorem SlotOk.rp {d : D} {v : V} (s : SlotOk K F H0 H d v) : Rp K F H0 H d v := by
  rcases s with ⟨ds, a, xs, rfl, rfl, h1, h2, h3, h4, _⟩ | ⟨_, h⟩ | ⟨as, _, p, _⟩ | ⟨qq, ks, ds, a, kvs, rfl, p⟩
  · exact .tmN h3 h1 h4
  · exact h
  · exact Ow.rp _ _ _ p
  · rw [p.v]; exact .dct
theorem SlotOk.ow {d : D} {v : V} (s : SlotOk K F H0 H d v) : (∃ as, Ow K F H0 H d v as ∧ as.Nodup) ∨ ∃ q ks ds a kvs, d = .dct q ks ds ∧ DctOk K F H0 H q ks ds v a kvs := by
  rcases s with ⟨ds, a, xs, rfl, rfl, h1, h2, h3, h4, h5⟩ | ⟨h, h'⟩ | ⟨as, _, p⟩ | p
  · exact .inl ⟨_, .lst h1 h2 h3 (OwL.st h5 h4), one_nodup a⟩
  · exact .inl ⟨_, .st h h', List.nodup_nil⟩
  · exact .inl ⟨as, p⟩
  · exact .inr p
theorem SlotOk.of {d : D} {v : V} {as : List Addr} (w : Ow K F H0 H d v as) (n : as.Nodup) : SlotOk K F H0 H d v := by
  cases w with
  | st h r => exact .inr (.inl ⟨h, r⟩)
  | lst a b c w =>
    rename_i a' xs ds as'
    cases q : hasTL ds with
    | false => exact .inl ⟨_, _, _, rfl, rfl, a, b, c, OwL.rp _ _ _ w, q⟩
    | true => exact .inr (.inr (.inl ⟨_, q, .lst a b c w, n⟩))
  | fl a b w =>
    rename_i a' xs ds
    cases q : hasTL ds with
    | false => exact .inr (.inl ⟨by simpa only [hasT, Bool.false_or] using q, .lst a (OwL.rp _ _ _ w)⟩)
    | true => exact .inr (.inr (.inl ⟨_, q, .fl a b w, n⟩))
  | tup a w =>
    rename_i a' xs ds
    cases q : hasTL ds with
    | false => exact .inr (.inl ⟨by simpa only [hasT] using q, .tup a (OwL.rp _ _ _ w)⟩)
    | true => exact .inr (.inr (.inl ⟨_, q, .tup a w, n⟩))
theorem SlotOk.mutW {ds : List D} {v : V} (s : SlotOk K F H0 H (.lst true ds) v) : ∃ a xs as, v = .ref a ∧ H a = some (.lst xs) ∧ F a = none ∧ H0 a = none ∧ OwL K F H0 H ds xs as ∧ (a :: as).Nodup := by
  rcases s.ow with ⟨as, w, n⟩ | ⟨_, _, _, _, _, e, _⟩
  · cases w with
    | st h _ => simp [hasT] at h
    | lst a b c w => exact ⟨_, _, _, rfl, a, b, c, w, n⟩
  · cases e
theorem grow_free {a : Addr} {o1 : HO} (g : Grow F H F1 H1) (h1 : H a = some o1) (h2 : F a = none) : F1 a = none := by
  cases q : F1 a with
  | none => rfl
  | some o =>
    rcases g.new a o q with z | z
    · rw [h2] at z; cases z
    · rw [h1] at z; cases z
theorem SlotOk.grow {d : D} {v : V} (g : Grow F H F1 H1) (s : SlotOk K F H0 H d v) : SlotOk K F1 H0 H1 d v := by
  rcases s.ow with ⟨as, w, n⟩ | ⟨qq, ks, ds, a, kvs, rfl, p⟩
  · refine .of (Ow.keep (fun b o e _ => g.same b o e) g.sub g.subH d v as w (fun a _ xs e => g.same _ _ e) fun a ha => ?_) n
    obtain ⟨_, ⟨xs, h1⟩, h2, _⟩ := Ow.mem d v as w ha
    exact grow_free g h1 h2
  · exact .inr (.inr (.inr ⟨qq, ks, ds, a, kvs, rfl, p.v, p.o, p.al.imp fun u h => ⟨g.same _ _ h.1, h.2.keep fun _ _ z => g.same _ _ z⟩, p.al.elim fun u h => grow_free g h.1 p.fa, p.ha, p.k, p.x.grow g, p.nx⟩))
theorem Owns.iff {d : D} {v : V} {c : Addr} {as : List Addr} (w : Ow K F H0 H d v as) : Owns H d v c ↔ c ∈ as := by
  refine ⟨fun o => ?_, fun m => .inr (.inr (w.iff.mpr m))⟩
  rcases o with ⟨ds, rfl, rfl⟩ | ⟨q, ks, ds, rfl, rfl⟩ | o
  · exact w.iff.mp .lst
  · cases w with
    | st n _ => simp [hasT] at n
  · exact w.iff.mp o
theorem Owns.dct {q : DT} {ks : List (List Int)} {ds : List D} {v : V} {a : Addr} (o : Owns H (.dct q ks ds) v a) : v = .ref a := by
  rcases o with ⟨_, e, _⟩ | ⟨_, _, _, _, e⟩ | o
  · cases e
  · exact e
  · cases o
mutual
theorem Own.backO (t : ∀ b xs, H b = some (.tup xs) → H1 b = some (.tup xs)) (sH : ∀ b xs, F b = some (.lst xs) → H1 b = some (.lst xs)) {c : Addr} : ∀ (d : D) (v : V) (as : List Addr), Ow K F H0 H d v as → (∀ a ∈ as, ∀ xs, H a = some (.lst xs) → H1 a = some (.lst xs)) → Own H1 d v c → c ∈ as
  | .lst t' ds, _, _, h, k, o => by
    cases h with
    | st n _ => rw [o.of] at n; cases n
    | lst a _ _ w =>
      cases o with
      | lst => exact List.mem_cons_self
      | inL e e1 e2 o =>
        rw [k _ List.mem_cons_self _ a] at e; cases e
        exact List.mem_cons_of_mem _ (OwL.backO t sH ds _ _ w (fun x hx => k x (List.mem_cons_of_mem _ hx)) e1 e2 o)
    | fl a b w =>
      cases o with
      | inF e e1 e2 o =>
        rw [sH _ _ a] at e; cases e
        exact OwL.backO t sH ds _ _ w k e1 e2 o
  | .tup ds, _, _, h, k, o => by
    cases h with
    | st n _ => rw [o.of] at n; cases n
    | tup a w =>
      cases o with
      | inT e e1 e2 o =>
        rw [t _ _ a] at e; cases e
        exact OwL.backO t sH ds _ _ w k e1 e2 o
  | .non, _, _, _, _, o => nomatch o
  | .bl _, _, _, _, _, o => nomatch o
  | .int _, _, _, _, _, o => nomatch o
  | .str _, _, _, _, _, o => nomatch o
  | .fr _, _, _, _, _, o => nomatch o
  | .unk, _, _, _, _, o => nomatch o
  | .ex _, _, _, _, _, o => nomatch o
  | .fn _, _, _, _, _, o => nomatch o
  | .dic _ _, _, _, _, _, o => nomatch o
  | .dct _ _ _, _, _, _, _, o => nomatch o
theorem OwL.backO (t : ∀ b xs, H b = some (.tup xs) → H1 b = some (.tup xs)) (sH : ∀ b xs, F b = some (.lst xs) → H1 b = some (.lst xs)) {c : Addr} : ∀ (ds : List D) (vs : List V) (as : List Addr), OwL K F H0 H ds vs as → (∀ a ∈ as, ∀ xs, H a = some (.lst xs) → H1 a = some (.lst xs)) → ∀ {k : Nat} {d : D} {v : V}, ds[k]? = some d → vs[k]? = some v → Own H1 d v c → c ∈ as
  | [], _, _, _, _, _, _, _, e, _, _ => by simp at e
  | d :: ds, _, _, h, k, 0, _, _, e, e2, o => by
    cases h with
    | cons a b =>
      simp at e e2; subst e e2
      exact List.mem_append_left _ (Own.backO t sH d _ _ a (fun x hx => k x (List.mem_append_left _ hx)) o)
  | d :: ds, _, _, h, k, j + 1, _, _, e, e2, o => by
    cases h with
    | cons a b => exact List.mem_append_right _ (OwL.backO t sH ds _ _ b (fun x hx => k x (List.mem_append_right _ hx)) (k := j) (by simpa using e) (by simpa using e2) o)
end
theorem Owns.back {d : D} {v : V} {a : Addr} (tt : ∀ b xs, H b = some (.tup xs) → H1 b = some (.tup xs)) (sH : ∀ b xs, F b = some (.lst xs) → H1 b = some (.lst xs)) (kk : ∀ c xs, Owns H d v c → H c = some (.lst xs) → H1 c = some (.lst xs)) (s : SlotOk K F H0 H d v) (o : Owns H1 d v a) : Owns H d v a := by
  rcases s.ow with ⟨as, w, n⟩ | ⟨qq, ks, ds, c, kvs, rfl, p⟩
  · refine (Owns.iff w).mpr ?_
    rcases o with ⟨ds, rfl, rfl⟩ | ⟨q, ks, ds, rfl, rfl⟩ | o
    · exact w.iff.mp .lst
    · cases w with
      | st n' _ => simp [hasT] at n'
    · exact Own.backO tt sH d v as w (fun a ha xs e => kk a xs ((Owns.iff w).mpr ha) e) o
  · have := o.dct
    exact .inr (.inl ⟨_, _, _, rfl, this⟩)
theorem Owns.backS {d : D} {v : V} {a : Addr} (sF : Same F H) (e : Same H H1) (s : SlotOk K F H0 H d v) (o : Owns H1 d v a) : Owns H d v a := o.back (fun b o z => e _ _ z) (fun b xs z => e _ _ (sF _ _ z)) (fun c xs _ z => e _ _ z) s
theorem Owns.here {d : D} {v : V} {a : Addr} (s : SlotOk K F H0 H d v) (o : Owns H d v a) : ∃ u, H a = some u ∧ H0 a = none := by
  rcases s.ow with ⟨as, w, n⟩ | ⟨qq, ks, ds, c, kvs, rfl, p⟩
  · obtain ⟨_, ⟨xs, h1⟩, _, h2⟩ := Ow.mem d v as w ((Owns.iff w).mp o)
    exact ⟨_, h1, h2⟩
  · have e := o.dct
    rw [p.v] at e; cases e
    obtain ⟨u, h1, _⟩ := p.al
    exact ⟨u, h1, p.ha⟩
theorem Owns.free {d : D} {v : V} {a : Addr} (s : SlotOk K F H0 H d v) (o : Owns H d v a) : F a = none := by
  rcases s.ow with ⟨as, w, n⟩ | ⟨qq, ks, ds, c, kvs, rfl, p⟩
  · exact (Ow.mem d v as w ((Owns.iff w).mp o)).2.2.1
  · have e := o.dct
    rw [p.v] at e; cases e
    exact p.fa
theorem Owns.of {d : D} {v : V} {a : Addr} (o : Owns H d v a) (n : hasT d = false) : False := by
  rcases o with ⟨es, rfl, rfl⟩ | ⟨_, _, _, rfl, rfl⟩ | o
  · simp [hasT] at n
  · simp [hasT] at n
  · rw [o.of] at n; cases n
theorem Rel.step (r : Rel K b F m σ H) (g : Grow F H F1 H1) : Rel K b F1 m σ H1 :=
  ⟨r.len, r.grow.trans g, fun i d e => by
    obtain ⟨v, h1, h2⟩ := r.slot i d e
    exact ⟨v, h1, h2.grow g⟩, fun i j d e v w a h1 h2 h3 h4 o1 o2 => by
    obtain ⟨v', k1, k2⟩ := r.slot i d h1
    obtain ⟨w', k3, k4⟩ := r.slot j e h2
    rw [h3] at k1; cases k1
    rw [h4] at k3; cases k3
    exact r.apart i j d e v w a h1 h2 h3 h4 (o1.backS r.sub g.same k2) (o2.backS r.sub g.same k4)⟩
theorem SlotOk.dct {q : DT} {ks : List (List Int)} {ds : List D} {v : V} (s : SlotOk K F H0 H (.dct q ks ds) v) : ∃ a kvs, DctOk K F H0 H q ks ds v a kvs := by
  rcases s with ⟨_, _, _, e, _⟩ | ⟨h, _⟩ | ⟨_, e, _⟩ | ⟨_, _, _, a, kvs, e, p⟩
  · cases e
  · simp [hasT] at h
  · cases e
  · cases e; exact ⟨a, kvs, p⟩
theorem set_some {α : Type} {l : List (Option α)} {i j : Nat} {d e : α} (h : (l.set i (some d))[j]? = some (some e)) : (j = i ∧ i < l.length ∧ e = d) ∨ (j ≠ i ∧ l[j]? = some (some e)) := by
  by_cases hj : j = i
  · subst hj
    by_cases hl : j < l.length
    · rw [List.getElem?_set_self hl] at h; cases h; exact .inl ⟨rfl, hl, rfl⟩
    · rw [List.getElem?_eq_none (by simpa using hl)] at h; cases h
  · rw [List.getElem?_set_ne (Ne.symm hj)] at h; exact .inr ⟨hj, h⟩
theorem Rel.putW {i : Nat} {d : D} {v : V} (r : Rel K b F m σ H) (h : SlotOk K F b.H0 H d v) (far : ∀ (j : Nat) (e : D) (w : V) (a : Addr), j ≠ i → m[j]? = some (some e) → σ[j]? = some (some w) → Owns H d v a → Owns H e w a → False) :
    Rel K b F (m.set i (some d)) (σ.set i (some v)) H :=
  ⟨by rw [List.length_set, List.length_set]; exact r.len, r.grow, fun j e q => by
    rcases set_some q with ⟨rfl, hl, rfl⟩ | ⟨hj, q⟩
    · exact ⟨v, by rw [List.getElem?_set_self (by rw [← r.len]; exact hl)], h⟩
    · obtain ⟨w, h1, h2⟩ := r.slot j e q
      exact ⟨w, by rw [List.getElem?_set_ne (Ne.symm hj)]; exact h1, h2⟩, fun p q d' e v' w' a e1 e2 e3 e4 o1 o2 => by
    rcases set_some e1 with ⟨hp, hl, rfl⟩ | ⟨hp, k1⟩
    · rcases set_some e2 with ⟨hq, _, _⟩ | ⟨hq, k2⟩
      · rw [hp, hq]
      · rw [hp, List.getElem?_set_self (by rw [← r.len]; exact hl)] at e3
        cases e3
        rw [List.getElem?_set_ne (Ne.symm hq)] at e4
        exact (far q _ _ a hq k2 e4 o1 o2).elim
    · rw [List.getElem?_set_ne (Ne.symm hp)] at e3
      rcases set_some e2 with ⟨hq, hl, rfl⟩ | ⟨hq, k2⟩
      · rw [hq, List.getElem?_set_self (by rw [← r.len]; exact hl)] at e4
        cases e4
        exact (far p _ _ a hp k1 e3 o2 o1).elim
      · rw [List.getElem?_set_ne (Ne.symm hq)] at e4
        exact r.apart p q _ _ _ _ a k1 k2 e3 e4 o1 o2⟩
theorem Rel.put {i : Nat} {d : D} {v : V} (r : Rel K b F m σ H) (n : hasT d = false) (h : Rp K F b.H0 H d v) : Rel K b F (m.set i (some d)) (σ.set i (some v)) H :=
  r.putW (.inr (.inl ⟨n, h⟩)) fun _ _ _ _ _ _ _ o _ => o.of n
theorem SlotOk.base {H0' : Hp} {d : D} {v : V} (s : Same H0 H0') (h : SlotOk K F H0' H d v) : SlotOk K F H0 H d v := by
  rcases h.ow with ⟨as, w, n⟩ | ⟨qq, ks, ds, a, kvs, rfl, p⟩
  · exact .of (Ow.base (fun _ z => s.free z) d v as w) n
  · exact .inr (.inr (.inr ⟨qq, ks, ds, a, kvs, rfl, p.v, p.o, p.al, p.fa, s.free p.ha, p.k, RpL.base _ _ p.nx p.x, p.nx⟩))
theorem Rel.putN {i : Nat} {d : D} {v : V} (r : Rel K b F m σ H) (g : Grow F H F1 H1) (h : SlotOk K F1 H H1 d v) : Rel K b F1 (m.set i (some d)) (σ.set i (some v)) H1 := by
  have r1 := r.step g
  refine r1.putW (h.base r.grow.same) fun j e w a _ h1 h2 o1 o2 => ?_
  obtain ⟨w', k1, k2⟩ := r.slot j e h1
  rw [h2] at k1; cases k1
  obtain ⟨ys, hy, _⟩ := Owns.here k2 (o2.backS r.sub g.same k2)
  obtain ⟨_, _, hn⟩ := Owns.here h o1
  rw [hn] at hy; cases hy
theorem Rel.own {i : Nat} {ds : List D} {a : Addr} {xs : List V} (r : Rel K b F m σ H) (g : Grow F H F1 H1) (hn : H a = none) (h1 : H1 a = some (.lst xs)) (h2 : F1 a = none) (h : RpL K F1 b.H0 H1 ds xs) (n : hasTL ds = false) :
    Rel K b F1 (m.set i (some (.lst true ds))) (σ.set i (some (.ref a))) H1 :=
  r.putN g (.inl ⟨ds, a, xs, rfl, rfl, h1, h2, hn, RpL.base ds xs n h, n⟩)
theorem Rel.chgW {i : Nat} {d e : D} {v : V} {a : Addr} {o1 o2 : HO} (r : Rel K b F m σ H) (q : m[i]? = some (some d)) (hs : σ[i]? = some (some v)) (o : Owns H d v a) (h1 : H a = some o1) (hn : ¬ NoL o1) (h2 : F a = none) (h3 : b.H0 a = none)
    (h : SlotOk K F b.H0 (upd H a o2) e v) (ow : ∀ c, Owns (upd H a o2) e v c → Owns H d v c) : Rel K b F (m.set i (some e)) σ (upd H a o2) := by
  have t : ∀ c o, H c = some o → NoL o → (upd H a o2) c = some o := fun c o hc ho => by
    rw [upd_ne (fun z => by subst z; rw [h1] at hc; cases hc; exact hn ho)]; exact hc
  have na : ∀ c o, F c = some o → c ≠ a := fun c o hc z => by subst z; rw [h2] at hc; cases hc
  have sH1 : Same F (upd H a o2) := fun c o hc => by rw [upd_ne (na _ _ hc)]; exact r.sub _ _ hc
  have far : ∀ (j : Nat) (d' : D) (w : V) (c : Addr), j ≠ i → m[j]? = some (some d') → σ[j]? = some (some w) → Owns H d' w c → c ≠ a := fun j d' w c hj q' k1 o' z => by
    subst z; exact hj (r.apart j i _ _ _ _ c q' q k1 hs o' o)
  refine ⟨by rw [List.length_set]; exact r.len, ⟨fun c o hc => ?_, r.grow.sub, fun c o hc => ?_, r.grow.new⟩, fun j d' q' => ?_, fun p p' x y v1 v2 c e1 e2 e3 e4 w1 w2 => ?_⟩
  · rw [upd_ne (fun z => by subst z; rw [h3] at hc; cases hc)]; exact r.grow.same _ _ hc
  · rw [upd_ne (na _ _ hc)]; exact r.sub _ _ hc
  · rcases set_some q' with ⟨rfl, hl, rfl⟩ | ⟨hj, q'⟩
    · exact ⟨v, hs, h⟩
    · obtain ⟨w, k1, k2⟩ := r.slot j d' q'
      refine ⟨w, k1, ?_⟩
      rcases k2.ow with ⟨as, z, n⟩ | ⟨qq, ks, ds', c, kvs, rfl, pp⟩
      · exact .of (Ow.keep t (Same.refl F) sH1 _ _ _ z (fun c hc ys e => by rw [upd_ne (far j _ _ c hj q' k1 ((Owns.iff z).mpr hc))]; exact e) fun c hc => (Ow.mem _ _ _ z hc).2.2.1) n
      · have hc : c ≠ a := far j _ _ c hj q' k1 (.inr (.inl ⟨_, _, _, rfl, pp.v⟩))
        exact .inr (.inr (.inr ⟨qq, ks, ds', c, kvs, rfl, pp.v, pp.o, pp.al.imp fun u h => ⟨by rw [upd_ne hc]; exact h.1, h.2.keep fun _ _ z => t _ _ z trivial⟩, pp.fa, pp.ha, pp.k, RpL.keep t ds' _ pp.nx pp.x, pp.nx⟩))
  · have old : ∀ (k : Nat) (z : D) (u : V), (m.set i (some e))[k]? = some (some z) → σ[k]? = some (some u) → Owns (upd H a o2) z u c → ∃ z' : D, m[k]? = some (some z') ∧ Owns H z' u c := fun k z u ek es oz => by
      rcases set_some ek with ⟨rfl, _, rfl⟩ | ⟨hk, ek⟩
      · rw [hs] at es; cases es
        exact ⟨d, q, ow c oz⟩
      · obtain ⟨u', k1, k2⟩ := r.slot k z ek
        rw [es] at k1; cases k1
        exact ⟨z, ek, oz.back (fun b xs e => t _ _ e trivial) (fun b xs e => sH1 _ _ e) (fun c xs o' z' => by rw [upd_ne (far k _ _ c hk ek es o')]; exact z') k2⟩
    obtain ⟨x', e1', o1'⟩ := old p x v1 e1 e3 w1
    obtain ⟨y', e2', o2'⟩ := old p' y v2 e2 e4 w2
    exact r.apart p p' x' y' v1 v2 c e1' e2' e3 e4 o1' o2'
theorem Rel.chgO {i : Nat} {ds es : List D} {a : Addr} {xs ys : List V} {as bs : List Addr} (r : Rel K b F m σ H) (e : m[i]? = some (some (.lst true ds))) (hs : σ[i]? = some (some (.ref a))) (h1 : H a = some (.lst xs)) (h2 : F a = none) (h3 : b.H0 a = none) (w : OwL K F b.H0 H ds xs as) (n : (a :: as).Nodup)
    (h : OwL K F b.H0 H es ys bs) (sub : ∀ c ∈ bs, c ∈ as) (nb : bs.Nodup) :
    Rel K b F (m.set i (some (.lst true es))) σ (upd H a (.lst ys)) := by
  have t : ∀ c o, H c = some o → NoL o → (upd H a (.lst ys)) c = some o := fun c o hc ho => by
    rw [upd_ne (fun z => by subst z; rw [h1] at hc; cases hc; exact False.elim ho)]; exact hc
  have na : a ∉ bs := fun z => (List.nodup_cons.mp n).1 (sub _ z)
  have w1 : OwL K F b.H0 (upd H a (.lst ys)) es ys bs := OwL.keep t (Same.refl F) (fun c o hc => by rw [upd_ne (fun z => by subst z; rw [h2] at hc; cases hc)]; exact r.sub _ _ hc) _ _ _ h (fun c hc xs e => by rw [upd_ne (fun z => by subst z; exact na hc)]; exact e) fun c hc => by
    obtain ⟨_, _, _, _, _, _, _, z, _⟩ := OwL.mem _ _ _ h hc
    exact z
  have W : Ow K F b.H0 (upd H a (.lst ys)) (.lst true es) (.ref a) (a :: bs) := .lst upd_same h2 h3 w1
  refine r.chgW e hs (.inl ⟨_, rfl, rfl⟩) h1 (fun z => z) h2 h3 (.of W (List.nodup_cons.mpr ⟨na, nb⟩)) fun c o => ?_
  rcases List.mem_cons.mp ((Owns.iff W).mp o) with rfl | z
  · exact .inl ⟨_, rfl, rfl⟩
  · exact (Owns.iff (.lst h1 h2 h3 w)).mpr (List.mem_cons_of_mem _ (sub _ z))
theorem Rel.drop {i : Nat} (r : Rel K b F m σ H) : Rel K b F (m.set i none) (σ.set i none) H := by
  have old : ∀ {j : Nat} {d : D}, (m.set i none)[j]? = some (some d) → j ≠ i ∧ m[j]? = some (some d) := fun {j d} h => by
    by_cases hj : j = i
    · subst hj
      by_cases hl : j < m.length
      · rw [List.getElem?_set_self hl] at h; cases h
      · rw [List.getElem?_eq_none (by simpa using hl)] at h; cases h
    · rw [List.getElem?_set_ne (Ne.symm hj)] at h; exact ⟨hj, h⟩
  refine ⟨by rw [List.length_set, List.length_set]; exact r.len, r.grow, fun j d q => ?_, fun p q x y v w c e1 e2 e3 e4 => ?_⟩
  · obtain ⟨hj, q⟩ := old q
    obtain ⟨v, k1, k2⟩ := r.slot j d q
    exact ⟨v, by rw [List.getElem?_set_ne (Ne.symm hj)]; exact k1, k2⟩
  · obtain ⟨h1, e1⟩ := old e1
    obtain ⟨h2, e2⟩ := old e2
    rw [List.getElem?_set_ne (Ne.symm h1)] at e3
    rw [List.getElem?_set_ne (Ne.symm h2)] at e4
    exact r.apart p q x y v w c e1 e2 e3 e4
theorem Rel.mineW {i : Nat} {ds : List D} (r : Rel K b F m σ H) (e : m[i]? = some (some (.lst true ds))) : ∃ a xs as, σ[i]? = some (some (.ref a)) ∧ H a = some (.lst xs) ∧ F a = none ∧ b.H0 a = none ∧ OwL K F b.H0 H ds xs as ∧ (a :: as).Nodup := by
  obtain ⟨v, q1, q2⟩ := r.slot i _ e
  obtain ⟨a, xs, as, rfl, h⟩ := q2.mutW
  exact ⟨a, xs, as, q1, h⟩
theorem Rel.chgL {i : Nat} {ds es : List D} {a : Addr} {xs ys : List V} (r : Rel K b F m σ H) (e : m[i]? = some (some (.lst true ds))) (hs : σ[i]? = some (some (.ref a))) (h1 : H a = some (.lst xs))
    (h : ∀ as, OwL K F b.H0 H ds xs as → ∃ bs, List.Sublist bs as ∧ OwL K F b.H0 H es ys bs) : Rel K b F (m.set i (some (.lst true es))) σ (upd H a (.lst ys)) := by
  obtain ⟨a', xs', as, q1, h1', h2, h3, h4, h5⟩ := r.mineW e
  rw [hs] at q1; cases q1
  rw [h1] at h1'; cases h1'
  obtain ⟨bs, sb, w⟩ := h as h4
  exact r.chgO e hs h1 h2 h3 h4 h5 w (fun c hc => sb.subset hc) ((List.nodup_cons.mp h5).2.sublist sb)
theorem Rel.chgApp {i : Nat} {ds es : List D} {a : Addr} {xs us : List V} (r : Rel K b F m σ H) (e : m[i]? = some (some (.lst true ds))) (hs : σ[i]? = some (some (.ref a))) (h1 : H a = some (.lst xs)) (h : RpL K F b.H0 H es us) (n : hasTL es = false) :
    Rel K b F (m.set i (some (.lst true (ds ++ es)))) σ (upd H a (.lst (xs ++ us))) := r.chgL e hs h1 fun as w => ⟨as ++ [], by rw [List.append_nil]; exact List.Sublist.refl _, w.app (OwL.st n h)⟩
theorem Rel.freeze' {i : Nat} {ds : List D} (r : Rel K b F m σ H) (e : m[i]? = some (some (.lst true ds))) : ∃ F', Same F F' ∧ Rel K b F' (m.set i (some (.lst false ds))) σ H := by
  obtain ⟨a, xs, as, q1, h1, h2, h3, h4, h5⟩ := r.mineW e
  have sF : Same F (upd F a (.lst xs)) := same_upd h2
  have sH : Same (upd F a (.lst xs)) H := fun c o hc => by
    by_cases hb : c = a
    · subst hb; rw [upd_same] at hc; rw [h1]; exact hc
    · rw [upd_ne hb] at hc; exact r.sub _ _ hc
  have far : ∀ (j : Nat) (d' : D) (w : V) (c : Addr), j ≠ i → m[j]? = some (some d') → σ[j]? = some (some w) → Owns H d' w c → c ≠ a := fun j d' w c hj q' k1 o' z => by
    subst z; exact hj (r.apart j i _ _ _ _ c q' e k1 q1 o' (.inl ⟨_, rfl, rfl⟩))
  have na : a ∉ as := (List.nodup_cons.mp h5).1
  have W : Ow K (upd F a (.lst xs)) b.H0 H (.lst false ds) (.ref a) as := .fl upd_same h1 (OwL.keep (fun _ _ z _ => z) sF sH _ _ _ h4 (fun _ _ _ z => z) fun c hc => by
    rw [upd_ne (fun z => by subst z; exact na hc)]
    obtain ⟨_, _, _, _, _, _, _, z, _⟩ := OwL.mem _ _ _ h4 hc
    exact z)
  have W0 : Ow K F b.H0 H (.lst true ds) (.ref a) (a :: as) := .lst h1 h2 h3 h4
  refine ⟨upd F a (.lst xs), sF, by rw [List.length_set]; exact r.len, ⟨r.grow.same, r.grow.sub.trans sF, sH, fun c o hc => ?_⟩, fun j d q => ?_, fun p q x y v w c e1 e2 e3 e4 o1 o2 => ?_⟩
  · by_cases hb : c = a
    · subst hb; exact .inr h3
    · rw [upd_ne hb] at hc; exact r.grow.new _ _ hc
  · rcases set_some q with ⟨rfl, hl, rfl⟩ | ⟨hj, q⟩
    · exact ⟨_, q1, .of W (List.nodup_cons.mp h5).2⟩
    · obtain ⟨w, k1, k2⟩ := r.slot j d q
      refine ⟨w, k1, ?_⟩
      rcases k2.ow with ⟨as, z, n⟩ | ⟨qq, ks, ds', c, kvs, rfl, pp⟩
      · refine .of (Ow.keep (fun _ _ z _ => z) sF sH _ _ _ z (fun _ _ _ z => z) fun c hc => ?_) n
        rw [upd_ne (far j _ _ c hj q k1 ((Owns.iff z).mpr hc))]
        exact (Ow.mem _ _ _ z hc).2.2.1
      · have hc : c ≠ a := far j _ _ c hj q k1 (.inr (.inl ⟨_, _, _, rfl, pp.v⟩))
        exact .inr (.inr (.inr ⟨qq, ks, ds', c, kvs, rfl, pp.v, pp.o, pp.al, by rw [upd_ne hc]; exact pp.fa, pp.ha, pp.k, pp.x.mono sF (Same.refl _), pp.nx⟩))
  · have old : ∀ (k : Nat) (z : D) (u : V), (m.set i (some (.lst false ds)))[k]? = some (some z) → σ[k]? = some (some u) → Owns H z u c → ∃ z' : D, m[k]? = some (some z') ∧ Owns H z' u c := fun k z u ek es oz => by
      rcases set_some ek with ⟨rfl, _, rfl⟩ | ⟨hk, ek⟩
      · rw [q1] at es; cases es
        exact ⟨_, e, (Owns.iff W0).mpr (List.mem_cons_of_mem _ ((Owns.iff W).mp oz))⟩
      · exact ⟨z, ek, oz⟩
    obtain ⟨x', e1', o1'⟩ := old p x v e1 e3 o1
    obtain ⟨y', e2', o2'⟩ := old q y w e2 e4 o2
    exact r.apart p q x' y' v w c e1' e2' e3 e4 o1' o2'
end
def Pst {α : Type} (b : Bs) (W : WX) (σ : L2.St) (F H : Hp) (C : α → Hp → Hp → Prop) : R α → Prop
  | .ok a => ∀ F' H', Grow F H F' H' → C a F' H'
  | .exc c => ∀ F' H', Grow F H F' H' → W (b.ex c) none σ H'
  | .stuck => False
section
variable {α β : Type} {b : Bs} {W : WX} {σ : L2.St} {F H F1 H1 : Hp}
theorem Pst.grow {C : α → Hp → Hp → Prop} {r : R α} (g : Grow F H F1 H1) (p : Pst b W σ F H C r) : Pst b W σ F1 H1 C r := by
  cases r with
  | ok a => exact fun F' H' k => p F' H' (g.trans k)
  | exc c => exact fun F' H' k => p F' H' (g.trans k)
  | stuck => exact p
theorem Pst.bind {C : β → Hp → Hp → Prop} {r : R α} {k : α → R β} (p : Pst b W σ F H C (r.bind k)) : Pst b W σ F H (fun a F' H' => Pst b W σ F' H' C (k a)) r := by
  cases r with
  | ok a => exact fun F' H' g => Pst.grow g p
  | exc c => exact p
  | stuck => exact p
theorem Pst.imp {C C' : α → Hp → Hp → Prop} {r : R α} (p : Pst b W σ F H C r) (h : ∀ a F' H', r = .ok a → Grow F H F' H' → C a F' H' → C' a F' H') : Pst b W σ F H C' r := by
  cases r with
  | ok a => exact fun F' H' g => h a F' H' rfl g (p F' H' g)
  | exc c => exact p
  | stuck => exact p
theorem Pst.here {C : α → Hp → Hp → Prop} {a : α} (p : Pst b W σ F H C (.ok a)) (s : Same F H) : C a F H := p F H (Grow.refl s)
end
abbrev SemE := Sl → R D
abbrev SemT := Sl → R Bool
abbrev SemA := Sl → R (List D)
section
variable (K : PySem.W.Frag) (b : Bs) (W : WX)
def CV (Q : VK) : D → Hp → Hp → Prop := fun d F' H' => ∀ v, Rp K F' b.H0 H' d v → Q v H'
def CVs (Q : List V → Hp → Prop) : List D → Hp → Hp → Prop := fun d F' H' => ∀ v, RpL K F' b.H0 H' d v → Q v H'
def tSE (f : SemE) : TE := fun σ H Q => ∃ F m, Rel K b F m σ H ∧ Pst b W σ F H (CV K b Q) (f m)
def tST (f : SemT) : TT := fun σ H Q => ∃ F m, Rel K b F m σ H ∧ Pst b W σ F H (fun c _ H' => Q c H') (f m)
def tSA (f : SemA) : TA := fun σ H Q => ∃ F m, Rel K b F m σ H ∧ Pst b W σ F H (CVs K b Q) (f m)
def CO (H : Hp) (Q : VK) : List D → Hp → Hp → Prop := fun ds F' H' => ∀ a xs, H a = none → F' a = none → H' a = some (.lst xs) → RpL K F' b.H0 H' ds xs → Q (.ref a) H'
def tSO (f : SemA) : TE := fun σ H Q => ∃ F m, Rel K b F m σ H ∧ Pst b W σ F H (CO K b H Q) (f m)
end
abbrev SE (X : Cx) (b : Bs) (W : WX) (e : Expr) (f : SemE) : Prop := PE X e (tSE X.K b W f)
abbrev ST (X : Cx) (b : Bs) (W : WX) (e : Expr) (f : SemT) : Prop := PT X e (tST X.K b W f)
abbrev SW (X : Cx) (b : Bs) (W : WX) (e : Expr) (f : SemT) : Prop := PW X e (tST X.K b W f)
abbrev SA (X : Cx) (b : Bs) (W : WX) (es : List Expr) (f : SemA) : Prop := PA X es (tSA X.K b W f)
abbrev SO (X : Cx) (b : Bs) (W : WX) (e : Expr) (f : SemA) : Prop := PE X e (tSO X.K b W f)
theorem PE.weak {X : Cx} {e : Expr} {t t' : TE} (h : PE X e t) (w : ∀ σ H Q, t' σ H Q → t σ H Q) : PE X e t' := ⟨fun pins s σ H Q I q => h.run pins s σ H Q I (w _ _ _ q)⟩
theorem PT.weak {X : Cx} {e : Expr} {t t' : TT} (h : PT X e t) (w : ∀ σ H Q, t' σ H Q → t σ H Q) : PT X e t' := ⟨fun pins s σ H Q I q => h.run pins s σ H Q I (w _ _ _ q)⟩
theorem PW.weak {X : Cx} {e : Expr} {t t' : TT} (h : PW X e t) (w : ∀ σ H Q, t' σ H Q → t σ H Q) : PW X e t' := ⟨fun wh pins s σ H Q I q => h.run wh pins s σ H Q I (w _ _ _ q)⟩
theorem PA.weak {X : Cx} {e : List Expr} {t t' : TA} (h : PA X e t) (w : ∀ σ H Q, t' σ H Q → t σ H Q) : PA X e t' := ⟨fun pos pins s σ H Q I q => h.run pos pins s σ H Q I (w _ _ _ q)⟩
theorem PS.weak {X : Cx} {e : Stmt} {t t' : TS} (h : PS X e t) (w : ∀ D σ H, t' D σ H → t D σ H) : PS X e t' := ⟨fun pins s σ H D I q => h.run pins s σ H D I (w _ _ _ q)⟩
theorem PSs.weak {X : Cx} {e : List Stmt} {t t' : TS} (h : PSs X e t) (w : ∀ D σ H, t' D σ H → t D σ H) : PSs X e t' := ⟨fun pins s σ H D I q => h.run pins s σ H D I (w _ _ _ q)⟩
theorem PO.weak {X : Cx} {e : Option Expr} {t t' : TO} (h : PO X e t) (w : ∀ σ H Q, t' σ H Q → t σ H Q) : PO X e t' := ⟨fun pins s σ H Q I q => h.run pins s σ H Q I (w _ _ _ q)⟩
def eVar (i : Nat) : SemE := fun m => match m[i]? with
  | some (some d) => .ok d
  | _ => .stuck
def eC (d : D) : SemE := fun _ => .ok d
def e2 (op : D → D → R D) (f g : SemE) : SemE := fun m => (f m).bind fun x => (g m).bind fun y => op x y
def e1 (op : D → R D) (f : SemE) : SemE := fun m => (f m).bind op
def eA (op : List D → R D) (f : SemA) : SemE := fun m => (f m).bind op
def aNil : SemA := fun _ => .ok []
def aCons (f : SemE) (g : SemA) : SemA := fun m => (f m).bind fun x => (g m).bind fun xs => .ok (x :: xs)
def asB : D → R Bool
  | .bl c => .ok c
  | _ => .stuck
def tOf (f : SemE) : SemT := fun m => (f m).bind asB
def tNot (f : SemT) : SemT := fun m => (f m).bind fun c => .ok (!c)
def tOr (f g : SemT) : SemT := fun m => (f m).bind fun c => if c = true then .ok true else g m
def eAnd (f g : SemE) : SemE := fun m => (f m).bind fun x => (asB x).bind fun c => if c = true then g m else .ok (.bl false)
def eOr (f g : SemE) : SemE := fun m => (f m).bind fun x => (asB x).bind fun c => if c = true then .ok (.bl true) else g m
def eNot (f : SemE) : SemE := fun m => (f m).bind fun x => (asB x).bind fun c => .ok (.bl (!c))
section
variable {X : Cx} {b : Bs} {W : WX} {e a c : Expr} {f g : SemE} {t u : SemT} {pos : Pos}
theorem se_var {i : Nat} (h : PE X e (tVar i)) : SE X b W e (eVar i) := PE.weak h fun σ H Q ⟨F, m, r, p⟩ => by
  unfold eVar at p
  split at p
  · rename_i d hd
    obtain ⟨v, h1, h2⟩ := r.slot i d hd
    exact ⟨v, h1, p.here r.sub v h2.rp⟩
  · exact p.elim
theorem se_c {v : V} {d : D} (h : PE X e (tC v)) (hr : ∀ K F H0 H, Rp K F H0 H d v) : SE X b W e (eC d) := PE.weak h fun σ H Q ⟨F, m, r, p⟩ => p.here r.sub v (hr _ _ _ _)
theorem se_int {i : Int} {j : Nat} : SE X b W (.Constant (.int i) j pos) (eC (.int i)) := se_c pe_int fun _ _ _ _ => .int _
theorem se_str {x : Str} {j : Nat} : SE X b W (.Constant (.str x) j pos) (eC (.str x)) := se_c pe_str fun _ _ _ _ => .str _
theorem se_bl {x : Bool} {j : Nat} : SE X b W (.Constant (.bool x) j pos) (eC (.bl x)) := se_c pe_bl fun _ _ _ _ => .bl _
theorem se_non {j : Nat} : SE X b W (.Constant .none j pos) (eC .non) := se_c pe_non fun _ _ _ _ => .non
theorem seq {R' : V → Hp → Prop} {σ : L2.St} {H : Hp} {α : Type} {k : D → R α} {C : α → Hp → Hp → Prop} {F : Hp} {m : Sl} (r : Rel X.K b F m σ H) (p : Pst b W σ F H C ((f m).bind k))
    (h : ∀ x F1 H1 v, Rel X.K b F1 m σ H1 → Grow F H F1 H1 → Rp X.K F1 b.H0 H1 x v → Pst b W σ F1 H1 C (k x) → R' v H1) : tSE X.K b W f σ H R' :=
  ⟨F, m, r, p.bind.imp fun x F1 H1 _ G q v hv => h x F1 H1 v (r.step G) G hv q⟩
def Op2 (X : Cx) (b : Bs) (W : WX) (fn : Value → Value → Sem Value) (op : D → D → R D) : Prop := ∃ r : R2, OpR X fn r ∧ ∀ (σ : L2.St) (F H : Hp) (Q : VK) (x y : D) (v u : V), Same F H → Rp X.K F b.H0 H x v → Rp X.K F b.H0 H y u →
  Pst b W σ F H (CV X.K b Q) (op x y) → r v u H Q
theorem se_bin {o : Operator} {op : D → D → R D} (ho : Op2 X b W (binaryOp o) op) (hf : SE X b W a f) (hg : SE X b W c g) : SE X b W (.BinOp a o c pos) (e2 op f g) := by
  obtain ⟨r, h1, h2⟩ := ho
  refine PE.weak (pe_op h1 hf hg) fun σ H Q ⟨F, m, R, p⟩ => ?_
  exact seq R p fun x F1 H1 v R1 G1 hv p1 => seq R1 p1 fun y F2 H2 u R2 G2 hu p2 => h2 σ F2 H2 Q x y v u R2.sub (hv.grow G2) hu p2
theorem se_cmp {o : CmpOp} {op : D → D → R D} (ho : Op2 X b W (compareOp o) op) (hf : SE X b W a f) (hg : SE X b W c g) (hm : behindInMarks o c = false) : SE X b W (.Compare a [o] [c] pos) (e2 op f g) := by
  obtain ⟨r, h1, h2⟩ := ho
  refine PE.weak (pe_cmpR h1 hf hg hm) fun σ H Q ⟨F, m, R, p⟩ => ?_
  exact seq R p fun x F1 H1 v R1 G1 hv p1 => seq R1 p1 fun y F2 H2 u R2 G2 hu p2 => h2 σ F2 H2 Q x y v u R2.sub (hv.grow G2) hu p2
theorem asB_pst {σ : L2.St} {F H : Hp} {α : Type} {k : Bool → R α} {C : α → Hp → Hp → Prop} {x : D} {v : V} {K : PySem.W.Frag} {H0 : Hp} (hv : Rp K F H0 H x v) (p : Pst b W σ F H C ((asB x).bind k)) : ∃ c, v = .bl c ∧ x = .bl c ∧ Pst b W σ F H C (k c) := by
  cases x <;> first | exact p.elim | skip
  rename_i c
  cases hv
  exact ⟨c, rfl, rfl, p⟩
theorem st_cmp {o : CmpOp} {op : D → D → R D} (ho : Op2 X b W (compareOp o) op) (hf : SE X b W a f) (hg : SE X b W c g) (hm : behindInMarks o c = false) : ST X b W (.Compare a [o] [c] pos) (tOf (e2 op f g)) := by
  obtain ⟨r, h1, h2⟩ := ho
  refine PT.weak (pt_cmpR h1 hf hg hm) fun σ H Q ⟨F, m, R, p⟩ => ?_
  have p' : Pst b W σ F H (fun c _ H' => Q c H') ((f m).bind fun x => (g m).bind fun y => (op x y).bind asB) := by
    unfold tOf e2 at p
    cases hf : f m <;> rw [hf] at p
    · cases hg : g m <;> rw [hg] at p <;> exact p
    · exact p
    · exact p
  refine seq R p' fun x F1 H1 v R1 G1 hv p1 => seq R1 p1 fun y F2 H2 u R2 G2 hu p2 => h2 σ F2 H2 _ x y v u R2.sub (hv.grow G2) hu ?_
  refine p2.bind.imp fun d F3 H3 _ G3 q w hw => ?_
  have q' : Pst b W σ F3 H3 (fun c _ H' => Q c H') ((asB d).bind fun c => .ok c) := by
    cases h : asB d <;> rw [h] at q <;> exact q
  obtain ⟨c, rfl, rfl, z⟩ := asB_pst hw q'
  exact ⟨c, rfl, z.here (R2.step G3).sub⟩
theorem st_val (hf : SE X b W e f) (he : ∀ whole, isTrue e X.env whole = (do let v ← whole; standAt e.pos; holding [v] (truthy v)) := by intro _; rfl) : ST X b W e (tOf f) := by
  refine PT.weak (L2.pt_val hf he) fun σ H Q ⟨F, m, R, p⟩ => ?_
  refine ⟨F, m, R, p.bind.imp fun x F1 H1 _ G q v hv => ?_⟩
  have q' : Pst b W σ F1 H1 (fun c _ H' => Q c H') ((asB x).bind fun c => .ok c) := by
    cases h : asB x <;> rw [h] at q <;> exact q
  obtain ⟨c, rfl, rfl, z⟩ := asB_pst hv q'
  exact ⟨c, rfl, z.here (R.step G).sub⟩
theorem st_not (h : ST X b W a t) : ST X b W (.UnaryOp .Not a pos) (tNot t) := by
  refine PT.weak (L2.pt_not h) fun σ H Q ⟨F, m, R, p⟩ => ?_
  exact ⟨F, m, R, p.bind.imp fun x F1 H1 _ G q => q.here (R.step G).sub⟩
theorem sw_or1 (h : ST X b W a t) : SW X b W (.BoolOp .Or [a] pos) t := L2.pw_or1 h
theorem sw_or {rest : List Expr} (h : ST X b W a t) (k : SW X b W (.BoolOp .Or (c :: rest) pos) u) : SW X b W (.BoolOp .Or (a :: c :: rest) pos) (tOr t u) := by
  refine PW.weak (L2.pw_or h k) fun σ H Q ⟨F, m, R, p⟩ => ?_
  refine ⟨F, m, R, p.bind.imp fun x F1 H1 _ G q => ?_⟩
  cases x with
  | true => exact q.here (R.step G).sub
  | false => exact ⟨F1, m, R.step G, q⟩
theorem st_w (h : SW X b W e t) : ST X b W e t := PW.pt h
theorem se_one {op : BoolOp} (h : SE X b W a f) : SE X b W (.BoolOp op [a] pos) f := L2.pe_one h
theorem se_and {rest : List Expr} (h : SE X b W a f) (k : SE X b W (.BoolOp .And (c :: rest) pos) g) : SE X b W (.BoolOp .And (a :: c :: rest) pos) (eAnd f g) := by
  refine PE.weak (L2.pe_and h k) fun σ H Q ⟨F, m, R, p⟩ => ?_
  refine ⟨F, m, R, p.bind.imp fun x F1 H1 _ G q v hv => ?_⟩
  obtain ⟨c, rfl, rfl, z⟩ := asB_pst hv q
  refine ⟨c, rfl, ?_⟩
  cases c with
  | true => exact ⟨F1, m, R.step G, z⟩
  | false => exact z.here (R.step G).sub _ (.bl _)
theorem se_or {rest : List Expr} (h : SE X b W a f) (k : SE X b W (.BoolOp .Or (c :: rest) pos) g) : SE X b W (.BoolOp .Or (a :: c :: rest) pos) (eOr f g) := by
  refine PE.weak (L2.pe_or h k) fun σ H Q ⟨F, m, R, p⟩ => ?_
  refine ⟨F, m, R, p.bind.imp fun x F1 H1 _ G q v hv => ?_⟩
  obtain ⟨c, rfl, rfl, z⟩ := asB_pst hv q
  refine ⟨c, rfl, ?_⟩
  cases c with
  | true => exact z.here (R.step G).sub _ (.bl _)
  | false => exact ⟨F1, m, R.step G, z⟩
theorem se_not (h : SE X b W a f) : SE X b W (.UnaryOp .Not a pos) (eNot f) := by
  refine PE.weak (L2.pe_not h) fun σ H Q ⟨F, m, R, p⟩ => ?_
  refine ⟨F, m, R, p.bind.imp fun x F1 H1 _ G q v hv => ?_⟩
  obtain ⟨c, rfl, rfl, z⟩ := asB_pst hv q
  exact ⟨c, rfl, z.here (R.step G).sub _ (.bl _)⟩
theorem sa_nil : SA X b W [] aNil := PA.weak pa_nil fun σ H Q ⟨F, m, R, p⟩ => p.here R.sub [] .nil
theorem sa_cons {es : List Expr} {h : SemA} (he : SE X b W e f) (hr : SA X b W es h) (hs : starEach (e :: es) X.env = (false, eval e X.env) :: starEach es X.env := by rfl) : SA X b W (e :: es) (aCons f h) := by
  refine PA.weak (pa_cons he hr hs) fun σ H Q ⟨F, m, R, p⟩ => ?_
  refine seq R p fun x F1 H1 v R1 G1 hv p1 => ⟨F1, m, R1, p1.bind.imp fun xs F2 H2 _ G2 q vs hvs => ?_⟩
  exact q.here (R1.step G2).sub _ (.cons (hv.grow G2) hvs)
theorem seqA {R' : List V → Hp → Prop} {σ : L2.St} {H : Hp} {α : Type} {h : SemA} {k : List D → R α} {C : α → Hp → Hp → Prop} {F : Hp} {m : Sl} (r : Rel X.K b F m σ H) (p : Pst b W σ F H C ((h m).bind k))
    (q : ∀ x F1 H1 v, Rel X.K b F1 m σ H1 → Grow F H F1 H1 → RpL X.K F1 b.H0 H1 x v → Pst b W σ F1 H1 C (k x) → R' v H1) : tSA X.K b W h σ H R' :=
  ⟨F, m, r, p.bind.imp fun x F1 H1 _ G z v hv => q x F1 H1 v (r.step G) G hv z⟩
def mkTup (xs : List D) : R D := if xs.length ≤ sizeLine then .ok (.tup xs) else .stuck
theorem se_tup {es : List Expr} {h : SemA} {k : Nat} (ha : SA X b W es h) : SE X b W (.Tuple es k pos) (eA mkTup h) := by
  refine PE.weak (pe_tup ha) fun σ H Q ⟨F, m, R, p⟩ => ?_
  refine seqA R p fun xs F1 H1 vs R1 G1 hv p1 => ?_
  unfold mkTup at p1
  split at p1
  · rename_i hl
    refine ⟨by rw [← hv.length]; exact hl, fun q hq => ?_⟩
    have G := Grow.still (o := .tup vs) R1.sub hq
    exact (p1 _ _ G) _ (.tup upd_same (hv.grow G))
  · exact p1.elim
def mkLst (xs : List D) : R (List D) := if xs.length ≤ sizeLine then .ok xs else .stuck
def aThen (h : SemA) (k : List D → R (List D)) : SemA := fun m => (h m).bind k
theorem so_lst {es : List Expr} {h : SemA} (ha : SA X b W es h) : SO X b W (.List es pos) (aThen h mkLst) := by
  refine PE.weak (pe_lst ha) fun σ H Q ⟨F, m, R, p⟩ => ?_
  refine seqA R p fun xs F1 H1 vs R1 G1 hv p1 => ?_
  unfold mkLst at p1
  split at p1
  · rename_i hl
    refine ⟨by rw [← hv.length]; exact hl, fun q hq => ?_⟩
    have G := Grow.loose (o := .lst vs) R1.sub hq
    exact (p1 _ _ G) q vs (G1.same.free hq) (R1.sub.free hq) upd_same (hv.grow G)
  · exact p1.elim
def eOwn (h : SemA) : SemE := fun m => (h m).bind fun xs => .ok (.lst false xs)
theorem se_own {h : SemA} (ho : SO X b W e h) : SE X b W e (eOwn h) := by
  refine PE.weak ho fun σ H Q ⟨F, m, R, p⟩ => ?_
  refine ⟨F, m, R, ?_⟩
  unfold eOwn at p
  cases hm : h m with
  | exc c => rw [hm] at p; exact p
  | stuck => rw [hm] at p; exact p.elim
  | ok xs =>
    rw [hm] at p
    refine fun F1 H1 G1 a vs h0 h1 h2 hv => ?_
    have s1 := (R.step G1).sub
    have sF : Same F1 (upd F1 a (.lst vs)) := same_upd h1
    have sH : Same (upd F1 a (.lst vs)) H1 := fun c o hc => by
      by_cases hb : c = a
      · subst hb; rw [upd_same] at hc; rw [h2]; exact hc
      · rw [upd_ne hb] at hc; exact s1 _ _ hc
    refine p (upd F1 a (.lst vs)) H1 ⟨G1.same, G1.sub.trans sF, sH, fun c o hc => ?_⟩ _ (.lst upd_same (hv.mono sF (Same.refl _)))
    by_cases hb : c = a
    · subst hb; exact .inr h0
    · rw [upd_ne hb] at hc; exact G1.new _ _ hc
end
end CT

namespace CT
open PySem PySem.Spec PyProof.Rows L2
def addD : D → D → R D
  | .int i, .int j => .ok (.int (i + j))
  | .str x, .str y => if x.length + y.length ≤ sizeLine then .ok (.str (x ++ y)) else .stuck
  | .tup xs, .tup ys => if xs.length + ys.length ≤ sizeLine then .ok (.tup (xs ++ ys)) else .stuck
  | .lst _ xs, .lst _ ys => if xs.length + ys.length ≤ sizeLine then .ok (.lst false (xs ++ ys)) else .stuck
  | _, _ => .stuck
def subD : D → D → R D
  | .int i, .int j => .ok (.int (i - j))
  | _, _ => .stuck
def mulOk (i j : Int) : Prop := (-(2 ^ 64) < i ∧ i < 2 ^ 64) ∨ (-(2 ^ 64) < j ∧ j < 2 ^ 64) ∨ i.natAbs.log2 + j.natAbs.log2 < 1000000
instance (i j : Int) : Decidable (mulOk i j) := by unfold mulOk; infer_instance
def mulD : D → D → R D
  | .int i, .int j => if mulOk i j then .ok (.int (i * j)) else .stuck
  | _, _ => .stuck
def modD : D → D → R D
  | .int i, .int j => if j ≠ 0 then .ok (.int (i.fmod j)) else .stuck
  | _, _ => .stuck
def divOk (j : Int) : Prop := (j ≠ 0 ∧ j.natAbs < 1073741824) ∨ (0 < j ∧ j.natAbs.log2 < 9000)
instance (j : Int) : Decidable (divOk j) := by unfold divOk; infer_instance
def divD : D → D → R D
  | .int i, .int j => if divOk j then .ok (.int (i.fdiv j)) else .stuck
  | _, _ => .stuck
def powD : D → D → R D
  | .int i, .int j => if 0 ≤ j ∧ (Builtin.Int.intBits i : Int) * j ≤ 2 ^ 27 then .ok (.int (i ^ j.toNat)) else .stuck
  | _, _ => .stuck
def negD : D → R D
  | .int i => .ok (.int (-i))
  | _ => .stuck
section
variable {X : Cx} {b : Bs} {W : WX}
theorem o_add : Op2 X b W (binaryOp .Add) addD := by
  refine ⟨_, (op_add (X := X)).or ((op_add_str (X := X)).or ((op_catA (X := X)).or (op_cat (X := X)))), fun σ F H Q x y v u s hx hy p => ?_⟩
  cases x with
  | int i =>
    cases y <;> first | exact p.elim | skip
    rename_i j
    cases hx; cases hy
    exact .inl ⟨i, j, rfl, rfl, p.here s _ (.int _)⟩
  | str i =>
    cases y <;> first | exact p.elim | skip
    rename_i j
    cases hx; cases hy
    simp only [addD] at p
    split at p
    · rename_i hl
      exact .inr (.inl ⟨i, j, rfl, rfl, hl, p.here s _ (.str _)⟩)
    · exact p.elim
  | tup ds =>
    cases y <;> first | exact p.elim | skip
    rename_i es
    obtain ⟨a, xs, rfl, h1', h2⟩ := hx.tuple'
    obtain ⟨c, ys, rfl, k1', k2⟩ := hy.tuple'
    have h1 : SqT X.K H a xs := .inl (.inl h1')
    have k1 : SqT X.K H c ys := .inl (.inl k1')
    simp only [addD] at p
    split at p
    · rename_i hl
      refine .inr (.inr (.inl ⟨a, c, xs, ys, rfl, rfl, h1, k1, by rw [← h2.length, ← k2.length]; exact hl, fun e => ?_, fun e1 e2 => ?_, fun e1 e2 q hq => ?_⟩))
      · subst e
        cases h2
        exact p.here s _ (.tup k1' k2)
      · subst e2
        cases k2
        rw [List.append_nil] at p
        exact p.here s _ (.tup h1' h2)
      · have G := Grow.still (o := .tup (xs ++ ys)) s hq
        exact (p _ _ G) _ (.tup upd_same ((h2.grow G).app (k2.grow G)))
    · exact p.elim
  | lst t ds =>
    cases y <;> first | exact p.elim | skip
    rename_i t' es
    obtain ⟨a, xs, rfl, h1, h2⟩ := hx.list s
    obtain ⟨c, ys, rfl, k1, k2⟩ := hy.list s
    simp only [addD] at p
    split at p
    · rename_i hl
      refine .inr (.inr (.inr ⟨a, c, xs, ys, rfl, rfl, h1, k1, by rw [← h2.length, ← k2.length]; exact hl, fun q hq => ?_⟩))
      have G := Grow.still (o := .lst (xs ++ ys)) s hq
      exact (p _ _ G) _ (.lst upd_same ((h2.grow G).app (k2.grow G)))
    · exact p.elim
  | unk => exact p.elim
  | ex _ => exact p.elim
  | fn _ => exact p.elim
  | dic _ _ => exact p.elim
  | dct _ _ _ => exact p.elim
  | non => exact p.elim
  | bl _ => exact p.elim
  | fr _ => exact p.elim
def a2 (op : D → D → R (List D)) (f g : SemE) : SemA := fun m => (f m).bind fun x => (g m).bind fun y => op x y
theorem o_int2 {fn : Value → Value → Sem Value} {op : D → D → R D} {r : R2} (h : OpR X fn r) (hs : ∀ x y, (∃ i j, x = .int i ∧ y = .int j) ∨ op x y = .stuck)
    (hr : ∀ (i j : Int) (H : Hp) (Q : VK), (∃ d, op (.int i) (.int j) = .ok d) → (∀ d v, op (.int i) (.int j) = .ok d → (∀ K F H0, Rp K F H0 H d v) → Q v H) → r (.int i) (.int j) H Q)
    (hx : ∀ (i j : Int) c, op (.int i) (.int j) ≠ .exc c) : Op2 X b W fn op := by
  refine ⟨r, h, fun σ F H Q x y v u s vx vy p => ?_⟩
  rcases hs x y with ⟨i, j, rfl, rfl⟩ | e
  · cases vx; cases vy
    refine hr i j H Q ?_ fun d v e hv => ?_
    · cases e : op (.int i) (.int j) with
      | ok d => exact ⟨d, rfl⟩
      | exc c => exact absurd e (hx i j c)
      | stuck => rw [e] at p; exact p.elim
    · rw [e] at p
      exact p.here s v (hv _ _ _)
  · rw [e] at p; exact p.elim
theorem o_sub : Op2 X b W (binaryOp .Sub) subD := o_int2 op_sub (fun x y => by cases x <;> cases y <;> first | exact .inr rfl | exact .inl ⟨_, _, rfl, rfl⟩)
  (fun i j H Q _ q => ⟨i, j, rfl, rfl, q _ _ rfl fun _ _ _ => .int _⟩) (fun _ _ _ e => nomatch e)
theorem o_mul : Op2 X b W (binaryOp .Mult) mulD := o_int2 ((op_mul (X := X)).or (op_mulW (X := X))) (fun x y => by cases x <;> cases y <;> first | exact .inr rfl | exact .inl ⟨_, _, rfl, rfl⟩)
  (fun i j H Q ⟨d, e⟩ q => by
    have e' := e
    simp only [mulD] at e
    split at e
    · rename_i hc
      have e2 : mulD (.int i) (.int j) = .ok (.int (i * j)) := by simp only [mulD]; rw [if_pos hc]
      rcases hc with hc | hc | hc
      · exact .inl ⟨i, j, rfl, rfl, .inl hc, q _ _ e2 fun _ _ _ => .int _⟩
      · exact .inl ⟨i, j, rfl, rfl, .inr hc, q _ _ e2 fun _ _ _ => .int _⟩
      · exact .inr ⟨i, j, rfl, rfl, hc, q _ _ e2 fun _ _ _ => .int _⟩
    · cases e) (fun i j c e => by simp only [mulD] at e; split at e <;> cases e)
theorem o_mod : Op2 X b W (binaryOp .Mod) modD := o_int2 op_modN (fun x y => by cases x <;> cases y <;> first | exact .inr rfl | exact .inl ⟨_, _, rfl, rfl⟩)
  (fun i j H Q ⟨d, e⟩ q => by
    simp only [modD] at e
    split at e
    · rename_i hc
      exact ⟨i, j, rfl, rfl, hc, q _ _ (by simp only [modD]; rw [if_pos hc]) fun _ _ _ => .int _⟩
    · cases e) (fun i j c e => by simp only [modD] at e; split at e <;> cases e)
theorem o_div : Op2 X b W (binaryOp .FloorDiv) divD := o_int2 ((op_fdivN (X := X)).or (op_fdivW (X := X))) (fun x y => by cases x <;> cases y <;> first | exact .inr rfl | exact .inl ⟨_, _, rfl, rfl⟩)
  (fun i j H Q ⟨d, e⟩ q => by
    simp only [divD] at e
    split at e
    · rename_i hc
      have e2 : divD (.int i) (.int j) = .ok (.int (i.fdiv j)) := by simp only [divD]; rw [if_pos hc]
      rcases hc with hc | hc
      · exact .inl ⟨i, j, rfl, rfl, hc, q _ _ e2 fun _ _ _ => .int _⟩
      · refine .inr ⟨i, j, rfl, rfl, hc, q _ _ e2 fun _ _ _ => ?_⟩
        rw [Int.fdiv_eq_ediv_of_nonneg i (by have := hc.1; omega)]
        exact .int _
    · cases e) (fun i j c e => by simp only [divD] at e; split at e <;> cases e)
theorem op_powB : OpR X (binaryOp .Pow) (rI (fun i j => 0 ≤ j ∧ (Builtin.Int.intBits i : Int) * j ≤ 2 ^ 27) fun i j => .int (i ^ j.toNat)) := opI fun _ _ _ _ _ _ _ hc q => pow_int hc.1 hc.2 q
theorem o_pow : Op2 X b W (binaryOp .Pow) powD := o_int2 op_powB (fun x y => by cases x <;> cases y <;> first | exact .inr rfl | exact .inl ⟨_, _, rfl, rfl⟩)
  (fun i j H Q ⟨d, e⟩ q => by
    simp only [powD] at e
    split at e
    · rename_i hc
      exact ⟨i, j, rfl, rfl, hc, q _ _ (by simp only [powD]; rw [if_pos hc]) fun _ _ _ => .int _⟩
    · cases e) (fun i j c e => by simp only [powD] at e; split at e <;> cases e)
theorem se_neg {a : Expr} {f : SemE} {pos : Pos} (h : SE X b W a f) : SE X b W (.UnaryOp .USub a pos) (e1 negD f) := by
  refine PE.weak (pe_un un_neg h) fun σ H Q ⟨F, m, R, p⟩ => ?_
  refine ⟨F, m, R, p.bind.imp fun x F1 H1 _ G q v hv => ?_⟩
  cases x <;> first | exact q.elim | skip
  cases hv
  exact ⟨_, rfl, q.here (R.step G).sub _ (.int _)⟩
def eqvD (x y : D) : Bool := PyData.eqv (py x) (py y)
def strs2 : D → D → Bool
  | .str _, .str _ => true
  | _, _ => false
def eqD (x y : D) : R D := if (SeqAt.shaped (py x) && SeqAt.shaped (py y) || strs2 x y) = true then .ok (.bl (eqvD x y)) else .stuck
def neD (x y : D) : R D := if (SeqAt.shaped (py x) && SeqAt.shaped (py y) || strs2 x y) = true then .ok (.bl (!eqvD x y)) else .stuck
theorem o_eq (hu : X.A.units + 64 < cLine) : Op2 X b W (compareOp .Eq) eqD := ⟨_, (op_eqD hu).or op_eq, fun σ F H Q x y v u s hx hy p => by
  unfold eqD at p
  split at p
  · rename_i h
    rw [Bool.or_eq_true, Bool.and_eq_true] at h
    rcases h with h | h
    · exact .inl ⟨_, _, Rp.dp s _ _ (okP_sh h.1) hx, Rp.dp s _ _ (okP_sh h.2) hy, h.1, h.2, p.here s _ (.bl _)⟩
    · refine .inr ?_
      cases x <;> first | (cases h; done) | skip
      cases y <;> first | (cases h; done) | skip
      cases hx
      cases hy
      rename_i a c
      refine ⟨rfl, ?_⟩
      have e : decide (V.str a = V.str c) = eqvD (.str a) (.str c) := by rw [dec_str]; simp [eqvD, py, PyData.eqv]
      rw [e]
      exact p.here s _ (.bl _)
  · exact p.elim⟩
theorem o_ne (hu : X.A.units + 64 < cLine) : Op2 X b W (compareOp .NotEq) neD := ⟨_, (op_neD hu).or op_ne, fun σ F H Q x y v u s hx hy p => by
  unfold neD at p
  split at p
  · rename_i h
    rw [Bool.or_eq_true, Bool.and_eq_true] at h
    rcases h with h | h
    · exact .inl ⟨_, _, Rp.dp s _ _ (okP_sh h.1) hx, Rp.dp s _ _ (okP_sh h.2) hy, h.1, h.2, p.here s _ (.bl _)⟩
    · refine .inr ?_
      cases x <;> first | (cases h; done) | skip
      cases y <;> first | (cases h; done) | skip
      cases hx
      cases hy
      rename_i a c
      refine ⟨rfl, ?_⟩
      have e : decide (V.str a = V.str c) = eqvD (.str a) (.str c) := by rw [dec_str]; simp [eqvD, py, PyData.eqv]
      rw [e]
      exact p.here s _ (.bl _)
  · exact p.elim⟩
def ltD : D → D → R D
  | .int i, .int j => .ok (.bl (decide (i < j)))
  | _, _ => .stuck
def leD : D → D → R D
  | .int i, .int j => .ok (.bl (decide (i ≤ j)))
  | _, _ => .stuck
def geD : D → D → R D
  | .int i, .int j => .ok (.bl (decide (j ≤ i)))
  | _, _ => .stuck
theorem o_lt : Op2 X b W (compareOp .Lt) ltD := o_int2 op_lt (fun x y => by cases x <;> cases y <;> first | exact .inr rfl | exact .inl ⟨_, _, rfl, rfl⟩)
  (fun i j H Q _ q => ⟨i, j, rfl, rfl, q _ _ rfl fun _ _ _ => .bl _⟩) (fun _ _ _ e => nomatch e)
theorem o_le : Op2 X b W (compareOp .LtE) leD := o_int2 op_le (fun x y => by cases x <;> cases y <;> first | exact .inr rfl | exact .inl ⟨_, _, rfl, rfl⟩)
  (fun i j H Q _ q => ⟨i, j, rfl, rfl, q _ _ rfl fun _ _ _ => .bl _⟩) (fun _ _ _ e => nomatch e)
theorem o_ge : Op2 X b W (compareOp .GtE) geD := o_int2 op_ge (fun x y => by cases x <;> cases y <;> first | exact .inr rfl | exact .inl ⟨_, _, rfl, rfl⟩)
  (fun i j H Q _ q => ⟨i, j, rfl, rfl, q _ _ rfl fun _ _ _ => .bl _⟩) (fun _ _ _ e => nomatch e)
def eChain (p q : D → D → R D) (f g h : SemE) : SemE := fun m => (f m).bind fun x => (g m).bind fun y => (p x y).bind fun z => (asB z).bind fun c => if c = true then (h m).bind fun w => q y w else .ok (.bl false)
theorem se_chain {a c e : Expr} {f g h : SemE} {o o' : CmpOp} {p q : D → D → R D} {pos : Pos} (ho : Op2 X b W (compareOp o) p) (ho' : Op2 X b W (compareOp o') q) (hf : SE X b W a f) (hg : SE X b W c g) (hh : SE X b W e h)
    (hm : lastMarks [o, o'] [c, e] = false := by rfl) : SE X b W (.Compare a [o, o'] [c, e] pos) (eChain p q f g h) := by
  obtain ⟨r, h1, h2⟩ := ho
  obtain ⟨r', k1, k2⟩ := ho'
  refine PE.weak (pe_chain h1 k1 hf hg hh hm) fun σ H Q ⟨F, m, R, P⟩ => ?_
  refine seq R P fun x F1 H1 v R1 G1 hv p1 => seq R1 p1 fun y F2 H2 u R2 G2 hu p2 => h2 σ F2 H2 _ x y v u R2.sub (hv.grow G2) hu ?_
  refine p2.bind.imp fun z F3 H3 _ G3 p3 w hw => ?_
  obtain ⟨c, rfl, rfl, p4⟩ := asB_pst hw p3
  refine ⟨c, rfl, ?_⟩
  cases c with
  | false => exact p4.here (R2.step G3).sub _ (.bl _)
  | true => exact seq (R2.step G3) p4 fun t F4 H4 w' R4 G4 hw' p5 => k2 σ F4 H4 Q y t u w' R4.sub ((hu.grow G3).grow G4) hw' p5
theorem st_of {e : Expr} {f : SemE} (hf : SE X b W e f) (he : ∀ whole, isTrue e X.env whole = (do let v ← whole; standAt e.pos; holding [v] (truthy v)) := by intro _; rfl) : ST X b W e (tOf f) := st_val hf he
def isSc : D → Bool
  | .non => true
  | .bl _ => true
  | .int _ => true
  | .str _ => true
  | _ => false
def memD (x : D) (ys : List D) : Bool := ys.any fun z => eqvD z x
def inD (x : D) : D → R D
  | .lst _ ys => if (SeqAt.shaped (py x) && SeqAt.shaped (.list (pyL ys))) = true then .ok (.bl (memD x ys)) else .stuck
  | .fr ys => if (SeqAt.shaped (py x) && SeqAt.shaped (.list (pyL ys))) = true then .ok (.bl (memD x ys)) else .stuck
  | .tup ys => if (isSc x && ys.all isSc) = true then .ok (.bl (memD x ys)) else .stuck
  | .str y => match x with
    | .str z => .ok (.bl (!(Builtin.Str.occurrences y z 0 y.length 1).isEmpty))
    | _ => .stuck
  | _ => .stuck
theorem pyL_map : ∀ ys : List D, pyL ys = ys.map py
  | [] => rfl
  | y :: ys => by rw [pyL, pyL_map ys]; rfl
theorem memD_py (x : D) (ys : List D) : (pyL ys).any (fun z => PyData.eqv z (py x)) = memD x ys := by
  rw [pyL_map, List.any_map]; rfl
theorem sc_flat {K : PySem.W.Frag} {F H0 H : Hp} {x : D} {v : V} (h : isSc x = true) (r : Rp K F H0 H x v) : flatV v = true := by
  cases x <;> first | (simp [isSc] at h; done) | (cases r; rfl)
theorem sc_eq {K : PySem.W.Frag} {F H0 H : Hp} {x y : D} {v u : V} (h : isSc x = true) (h' : isSc y = true) (r : Rp K F H0 H x v) (r' : Rp K F H0 H y u) : eqV v u = eqvD x y := by
  cases x <;> first | (simp [isSc] at h; done) | (cases r; cases y <;> first | (simp [isSc] at h'; done) | (cases r'; simp [eqV, eqvD, py, PyData.eqv]))
theorem sc_all {K : PySem.W.Frag} {F H0 H : Hp} : ∀ {ys : List D} {us : List V}, ys.all isSc = true → RpL K F H0 H ys us → us.all flatV = true
  | _, _, _, .nil => rfl
  | _, _, h, .cons r t => by
    rw [List.all_cons, Bool.and_eq_true] at h ⊢
    exact ⟨sc_flat h.1 r, sc_all h.2 t⟩
theorem sc_mem {K : PySem.W.Frag} {F H0 H : Hp} {x : D} {v : V} (hx : isSc x = true) (rx : Rp K F H0 H x v) : ∀ {ys : List D} {us : List V}, ys.all isSc = true → RpL K F H0 H ys us → inV v us = memD x ys
  | _, _, _, .nil => rfl
  | _, _, h, .cons r t => by
    rw [List.all_cons, Bool.and_eq_true] at h
    unfold inV memD
    rw [List.any_cons, List.any_cons, sc_eq h.1 hx r rx]
    have := sc_mem hx rx h.2 t
    unfold inV memD at this
    rw [this]
theorem o_in (hu : X.A.units + 65 < cLine) : Op2 X b W (compareOp .In) inD := by
  refine ⟨_, (op_inD hu).or ((op_in_seq (X := X)).or (op_in_str (X := X))), fun σ F H Q x y v u s hx hy p => ?_⟩
  cases y with
  | lst t ys =>
    simp only [inD] at p
    split at p
    · rename_i h
      rw [Bool.and_eq_true] at h
      have hy' := Rp.dp s _ _ (by rw [okP]; exact okPL_sh h.2) hy
      rw [py] at hy'
      exact .inl ⟨_, _, Rp.dp s _ _ (okP_sh h.1) hx, hy', h.1, h.2, by rw [memD_py]; exact p.here s _ (.bl _)⟩
    · exact p.elim
  | fr ys =>
    simp only [inD] at p
    split at p
    · rename_i h
      rw [Bool.and_eq_true] at h
      have hy' := Rp.dp s _ _ (by rw [okP]; exact okPL_sh h.2) hy
      rw [py] at hy'
      exact .inl ⟨_, _, Rp.dp s _ _ (okP_sh h.1) hx, hy', h.1, h.2, by rw [memD_py]; exact p.here s _ (.bl _)⟩
    · exact p.elim
  | tup ys =>
    simp only [inD] at p
    split at p
    · rename_i h
      rw [Bool.and_eq_true] at h
      obtain ⟨a, us, rfl, h1, h2⟩ := hy.tuple
      refine .inr (.inl ⟨a, us, rfl, .inr h1, sc_flat h.1 hx, sc_all h.2 h2, ?_⟩)
      rw [sc_mem h.1 hx h.2 h2]
      exact p.here s _ (.bl _)
    · exact p.elim
  | str y =>
    cases x <;> first | exact p.elim | skip
    cases hx; cases hy
    exact .inr (.inr ⟨_, _, rfl, rfl, p.here s _ (.bl _)⟩)
  | non => exact p.elim
  | bl _ => exact p.elim
  | int _ => exact p.elim
  | unk => exact p.elim
  | ex _ => exact p.elim
  | fn _ => exact p.elim
  | dic _ _ => exact p.elim
  | dct _ _ _ => exact p.elim
def ixD : D → D → R D
  | .lst _ xs, .int i => match atI xs i with
    | some d => .ok d
    | none => .stuck
  | .fr xs, .int i => match atI xs i with
    | some d => .ok d
    | none => .stuck
  | .tup xs, .int i => match atI xs i with
    | some d => .ok d
    | none => .stuck
  | .str z, .int i => if z.length ≤ sizeLine then (match atI z.cps.toList i with
    | some c => .ok (.str ⟨#[c]⟩)
    | none => .stuck) else .stuck
  | _, _ => .stuck
theorem atI_rp {K : PySem.W.Frag} {F H0 H : Hp} {ds : List D} {vs : List V} {i : Int} {d : D} (r : RpL K F H0 H ds vs) (e : atI ds i = some d) : ∃ v, atI vs i = some v ∧ Rp K F H0 H d v := by
  unfold atI at e ⊢
  rw [← r.length]
  cases h : ixN ds.length i with
  | none => rw [h] at e; cases e
  | some j => rw [h] at e; exact r.get e
theorem se_ix {a c : Expr} {f g : SemE} {pos : Pos} (hf : SE X b W a f) (hg : SE X b W c g) (hs : PlainIx c := by exact fun _ _ => rfl) : SE X b W (.Subscript a c pos) (e2 ixD f g) := by
  refine PE.weak (pe_ix ix_seq hf hg hs) fun σ H Q ⟨F, m, R, p⟩ => ?_
  refine seq R p fun x F1 H1 v R1 G1 hv p1 => seq R1 p1 fun y F2 H2 u R2 G2 hu p2 => ?_
  have hv := hv.grow G2
  cases x <;> first | exact p2.elim | skip
  · -- a text
    cases y <;> first | exact p2.elim | skip
    cases hv; cases hu
    simp only [ixD] at p2
    split at p2
    · rename_i hz
      split at p2
      · rename_i c hc
        exact .inr (.inr ⟨_, _, c, rfl, rfl, hz, hc, p2.here R2.sub _ (.str _)⟩)
      · exact p2.elim
    · exact p2.elim
  · cases y <;> first | exact p2.elim | skip
    obtain ⟨a, xs, rfl, h1, h2⟩ := hv.tuple
    cases hu
    simp only [ixD] at p2
    split at p2
    · rename_i d hd
      obtain ⟨w, k1, k2⟩ := atI_rp h2 hd
      exact .inr (.inl ⟨a, xs, _, w, rfl, rfl, h1, k1, p2.here R2.sub _ k2⟩)
    · exact p2.elim
  · cases y <;> first | exact p2.elim | skip
    obtain ⟨a, xs, rfl, h1, h2⟩ := hv.list R2.sub
    cases hu
    simp only [ixD] at p2
    split at p2
    · rename_i d hd
      obtain ⟨w, k1, k2⟩ := atI_rp h2 hd
      exact .inl ⟨a, xs, _, w, rfl, rfl, .inl (.inl h1), k1, p2.here R2.sub _ k2⟩
    · exact p2.elim
  · cases y <;> first | exact p2.elim | skip
    obtain ⟨a, xs, rfl, h1, h2⟩ := hv.frl R2.sub
    cases hu
    simp only [ixD] at p2
    split at p2
    · rename_i d hd
      obtain ⟨w, k1, k2⟩ := atI_rp h2 hd
      exact .inl ⟨a, xs, _, w, rfl, rfl, h1, k1, p2.here R2.sub _ k2⟩
    · exact p2.elim
end
end CT

namespace CT
open PySem PySem.Spec PyProof.Rows L2
abbrev SemP := Sl → R (Option Int)
def tSP (K : PySem.W.Frag) (b : Bs) (W : WX) (f : SemP) : TO := fun σ H Q => ∃ F m, Rel K b F m σ H ∧ Pst b W σ F H (fun o _ H' => Q o H') (f m)
abbrev SP (X : Cx) (b : Bs) (W : WX) (e : Option Expr) (f : SemP) : Prop := PO X e (tSP X.K b W f)
def pNo : SemP := fun _ => .ok none
def asI : D → R Int
  | .int i => .ok i
  | _ => .stuck
def pSo (f : SemE) : SemP := fun m => (f m).bind fun d => (asI d).bind fun i => .ok (some i)
def cutA {α : Type} (xs : List α) (lo hi : Option Int) : List α := (xs.drop (HT.sIx xs.length 0 lo)).take (HT.sIx xs.length xs.length hi - HT.sIx xs.length 0 lo)
def cutD (x : D) (lo hi : Option Int) : R D := match x with
  | .lst _ xs => .ok (.lst false (cutA xs lo hi))
  | .fr xs => .ok (.lst false (cutA xs lo hi))
  | .tup xs => .ok (.tup (cutA xs lo hi))
  | .str z => if z.length ≤ sizeLine then .ok (.str (cutS z lo hi)) else .stuck
  | _ => .stuck
def eCut (f : SemE) (p q : SemP) : SemE := fun m => (f m).bind fun x => (p m).bind fun lo => (q m).bind fun hi => cutD x lo hi
section
variable {X : Cx} {b : Bs} {W : WX} {e : Expr} {f g : SemE} {pos p2 : Pos} {lo hi : Option Expr} {p q : SemP}
theorem sp_no : SP X b W none pNo := PO.weak po_none fun σ H Q ⟨F, m, R, z⟩ => z.here R.sub
theorem sp_so (h : SE X b W e f) : SP X b W (some e) (pSo f) := PO.weak (po_some h) fun σ H Q ⟨F, m, R, z⟩ => by
  refine ⟨F, m, R, z.bind.imp fun x F1 H1 _ G z1 v hv => ?_⟩
  cases x <;> first | exact z1.elim | skip
  cases hv
  exact ⟨_, rfl, z1.here (R.step G).sub⟩
theorem cutA_rp {K : PySem.W.Frag} {F H0 H : Hp} {ds : List D} {vs : List V} (r : RpL K F H0 H ds vs) (lo hi : Option Int) : RpL K F H0 H (cutA ds lo hi) (cutV vs lo hi) := by
  unfold cutA cutV
  rw [r.length]
  exact (r.drop _).take _
theorem cutA_all {α : Type} {xs : List α} {lo hi : Option Int} (h1 : HT.sIx xs.length 0 lo = 0) (h2 : HT.sIx xs.length xs.length hi = xs.length) : cutA xs lo hi = xs := by
  unfold cutA
  rw [h1, h2, List.drop_zero, Nat.sub_zero, List.take_length]
theorem seqP {R' : Option Int → Hp → Prop} {σ : L2.St} {H : Hp} {α : Type} {h : SemP} {k : Option Int → R α} {C : α → Hp → Hp → Prop} {F : Hp} {m : Sl} (r : Rel X.K b F m σ H) (p : Pst b W σ F H C ((h m).bind k))
    (q : ∀ x F1 H1, Rel X.K b F1 m σ H1 → Grow F H F1 H1 → Pst b W σ F1 H1 C (k x) → R' x H1) : tSP X.K b W h σ H R' :=
  ⟨F, m, r, p.bind.imp fun x F1 H1 _ G z => q x F1 H1 (r.step G) G z⟩
theorem se_cut (hf : SE X b W e f) (hp : SP X b W lo p) (hq : SP X b W hi q) : SE X b W (.Subscript e (.Slice lo hi none p2) pos) (eCut f p q) := by
  refine PE.weak (pe_slice ((sl_list (X := X)).or ((sl_tupA (X := X)).or (sl_str (X := X)))) hf hp hq) fun σ H Q ⟨F, m, R, z⟩ => ?_
  refine seq R z fun x F1 H1 v R1 G1 hv z1 => seqP R1 z1 fun lo F2 H2 R2 G2 z2 => seqP R2 z2 fun hi F3 H3 R3 G3 z3 => ?_
  have hv := (hv.grow G2).grow G3
  have s := R3.sub
  cases x <;> first | exact z3.elim | skip
  · -- a text
    cases hv
    simp only [cutD] at z3
    split at z3
    · rename_i hl
      exact .inr (.inr ⟨_, rfl, hl, z3.here s _ (.str _)⟩)
    · exact z3.elim
  · obtain ⟨a, xs, rfl, h1', h2⟩ := hv.tuple'
    have h1 : SqT X.K H3 a xs := .inl (.inl h1')
    refine .inr (.inl ⟨a, xs, rfl, h1, fun hw => ?_, fun hw q hq => ?_⟩)
    · rw [← h2.length] at hw
      have z4 := z3.here s
      simp only [CV] at z4
      rw [cutA_all hw.1 hw.2] at z4
      exact z4 _ (.tup h1' h2)
    · have G := Grow.still (o := .tup (cutV xs lo hi)) s hq
      exact (z3 _ _ G) _ (.tup upd_same (cutA_rp (h2.grow G) lo hi))
  · obtain ⟨a, xs, rfl, h1, h2⟩ := hv.list s
    refine .inl ⟨a, xs, rfl, .inl (.inl h1), fun q hq => ?_⟩
    have G := Grow.still (o := .lst (cutV xs lo hi)) s hq
    exact (z3 _ _ G) _ (.lst upd_same (cutA_rp (h2.grow G) lo hi))
  · obtain ⟨a, xs, rfl, h1, h2⟩ := hv.frl s
    refine .inl ⟨a, xs, rfl, h1, fun q hq => ?_⟩
    have G := Grow.still (o := .lst (cutV xs lo hi)) s hq
    exact (z3 _ _ G) _ (.lst upd_same (cutA_rp (h2.grow G) lo hi))
end
def CallD (X : Cx) (b : Bs) (W : WX) (fn : Value) (op : List D → R D) : Prop := ∃ r : List V → Hp → VK → Prop, CallR X fn r ∧ ∀ (σ : L2.St) (F H : Hp) (Q : VK) (xs : List D) (vs : List V), Same F H → RpL X.K F b.H0 H xs vs →
  Pst b W σ F H (CV X.K b Q) (op xs) → r vs H Q
def lenD : List D → R D
  | [.lst _ xs] => .ok (.int xs.length)
  | [.fr xs] => .ok (.int xs.length)
  | [.tup xs] => .ok (.int xs.length)
  | [.str z] => if z.length ≤ sizeLine then .ok (.int z.length) else .stuck
  | _ => .stuck
def tyD : D → String
  | .non => "NoneType"
  | .bl _ => "bool"
  | .int _ => "int"
  | .str _ => "str"
  | .tup _ => "tuple"
  | .lst _ _ => "list"
  | .fr _ => "list"
  | .unk => "?"
  | .ex _ => "?"
  | .fn _ => "?"
  | .dic _ _ => "?"
  | .dct _ _ _ => "?"
def isiD (T : String) : D → R D := fun d => match kitB (tyD d) T with
  | some c => .ok (.bl c)
  | none => .stuck
def bools : List D → Option (List Bool)
  | [] => some []
  | .bl c :: ds => (bools ds).map (c :: ·)
  | _ => none
def allD : List D → R D
  | [.lst _ ds] => match bools ds with
    | some bs => .ok (.bl (bs.all id))
    | none => .stuck
  | _ => .stuck
def intD : List D → R D
  | [.int i] => .ok (.int i)
  | [.bl c] => .ok (.int (if c then 1 else 0))
  | _ => .stuck
def listO : List D → R (List D)
  | [.lst _ xs] => .ok xs
  | [.tup xs] => .ok xs
  | [.fr xs] => .ok xs
  | _ => .stuck
def shR (d : PyData) : R D := if (d.showable && decide (d.depth ≤ 60) && decide (d.shown.length ≤ sizeLine)) = true then .ok (.str d.shown) else .stuck
def strD : List D → R D
  | [.int i] => if i.natAbs.log2 < 1920 then .ok (.str (toString i)) else .stuck
  | [.lst _ xs] => shR (.list (pyL xs))
  | [.fr xs] => shR (.list (pyL xs))
  | [.tup xs] => shR (.tuple (pyL xs))
  | _ => .stuck
section
variable {X : Cx} {b : Bs} {W : WX} {K : PySem.W.Frag} {F H0 H : Hp}
theorem RpL.one {d : D} {vs : List V} (h : RpL K F H0 H [d] vs) : ∃ v, vs = [v] ∧ Rp K F H0 H d v := by
  cases h with
  | cons a t => cases t; exact ⟨_, rfl, a⟩
theorem bools_rp : ∀ {ds : List D} {bs : List Bool} {vs : List V}, bools ds = some bs → RpL K F H0 H ds vs → vs = bs.map V.bl
  | [], bs, vs, e, r => by cases r; simp only [bools, Option.some.injEq] at e; subst e; rfl
  | d :: ds, bs, vs, e, r => by
    cases d <;> first | (simp [bools] at e; done) | skip
    rename_i c
    simp only [bools, Option.map_eq_some_iff] at e
    obtain ⟨cs, h1, rfl⟩ := e
    cases r with
    | cons a t => cases a; rw [bools_rp h1 t]; rfl
theorem c_len : CallD X b W (.builtin "len") lenD := by
  refine ⟨_, call_len, fun σ F H Q xs vs s r p => ?_⟩
  unfold lenD at p
  split at p
  · obtain ⟨v, rfl, h⟩ := r.one
    obtain ⟨a, us, rfl, h1, h2⟩ := h.list s
    exact ⟨_, _, rfl, .inl ⟨us, .inl (.inl h1), h2.length⟩, p.here s _ (.int _)⟩
  · obtain ⟨v, rfl, h⟩ := r.one
    obtain ⟨a, us, rfl, h1, h2⟩ := h.frl s
    exact ⟨_, _, rfl, .inl ⟨us, h1, h2.length⟩, p.here s _ (.int _)⟩
  · obtain ⟨v, rfl, h⟩ := r.one
    obtain ⟨a, us, rfl, h1, h2⟩ := h.tuple
    exact ⟨_, _, rfl, .inr ⟨us, h1, h2.length⟩, p.here s _ (.int _)⟩
  · obtain ⟨v, rfl, h⟩ := r.one
    cases h
    split at p
    · rename_i hl
      exact ⟨_, _, rfl, ⟨hl, rfl⟩, p.here s _ (.int _)⟩
    · exact p.elim
  · exact p.elim
theorem kitB_no {T : String} (h : T ≠ "?") : kitB "?" T = none := by
  unfold kitB
  rw [if_neg (by intro z; rw [beq_iff_eq] at z; injection z with z; exact h z.symm)]
  split
  · rw [show PySem.fastBuiltinMro "?" = none from by decide +kernel]; rfl
  · rfl
theorem ty_rp {d : D} {v : V} (s : Same F H) (r : Rp K F H0 H d v) (hd : tyD d ≠ "?") : TyX K H v (.type (tyD d)) := by
  cases d with
  | non => cases r; exact .base .non
  | bl _ => cases r; exact .base (.bl _)
  | int _ => cases r; exact .base (.int _)
  | str _ => cases r; exact .base (.str _)
  | tup _ =>
    obtain ⟨a, xs, rfl, h, _⟩ := r.tuple
    rcases h with (h | ⟨o, h⟩) | ⟨o, its, n, h1, h2, _⟩
    · exact .base (.tup h)
    · exact .fTuple h
    · exact .kTuple h1 h2
  | lst _ _ =>
    obtain ⟨a, xs, rfl, h, _⟩ := r.list s
    exact .base (.lst h)
  | fr _ =>
    obtain ⟨a, xs, rfl, h, _⟩ := r.frl s
    rcases h with (h | ⟨o, h⟩) | ⟨o, its, n, h1, h2, _⟩
    · exact .base (.lst h)
    · exact .base (.frz h)
    · exact .kList h1 h2
  | unk => exact absurd rfl hd
  | ex _ => exact absurd rfl hd
  | fn _ => exact absurd rfl hd
  | dic _ _ => exact absurd rfl hd
  | dct _ _ _ => exact absurd rfl hd
theorem se_isi {T : String} {x : Str} {a : Expr} {f : SemE} {p q pos : Pos} (hg : Gl X "isinstance") (hm : X.mg "isinstance" = none) (hg' : Gl X x) (hm' : X.mg x = none) (hv : bootBuiltins x = some (.type T)) (hf : SE X b W a f) (hn : x ≠ "__name__" := by decide) (hd : (x == ("__debug__" : Str)) = false := by decide)
    (he : starEach [a, .Name x q] X.env = (false, eval a X.env) :: starEach [.Name x q] X.env := by rfl) (hpl : (backTo pos (starEach [.Name x q] X.env)).any (·.1) = false := by rfl)
    (hs : starEach [.Name x q] X.env = (false, eval (.Name x q) X.env) :: starEach [] X.env := by rfl) (hT : T ≠ "?" := by decide) :
    SE X b W (.Call (.Name "isinstance" p) [a, .Name x q] [] pos) (e1 (isiD T) f) := by
  refine PE.weak (pe_callB call_isi hg hm boot_isinstance (pa_cons hf (pa_cons (pe_bltn hg' hm' hv (v := .ty T) rfl hn hd) pa_nil hs) he) (by decide) (by decide) he hpl) fun σ H Q ⟨F, m, R, p⟩ => ?_
  refine ⟨F, m, R, p.bind.imp fun x F1 H1 _ G z v hv => ?_⟩
  have s := (R.step G).sub
  unfold isiD at z
  split at z
  · rename_i c hc
    exact ⟨v, .ty T, .type (tyD x), .type T, c, rfl, .ty T, ty_rp s hv (fun z => by rw [z, kitB_no hT] at hc; cases hc), kit_ty hc, z.here s _ (.bl _)⟩
  · exact z.elim
theorem c_all (hc : X.calm = true) : CallD X b W (.builtin "all") allD := by
  refine ⟨_, cr_all hc, fun σ F H Q xs vs s r p => ?_⟩
  unfold allD at p
  split at p
  · obtain ⟨v, rfl, h⟩ := r.one
    obtain ⟨a, us, rfl, h1, h2⟩ := h.list s
    split at p
    · rename_i bs hb
      exact ⟨a, bs, rfl, .inl (.inl (by rw [← bools_rp hb h2]; exact h1)), p.here s _ (.bl _)⟩
    · exact p.elim
  · exact p.elim
theorem c_int : CallD X b W (.type "int") intD := by
  refine ⟨_, call_int1, fun σ F H Q xs vs s r p => ?_⟩
  unfold intD at p
  split at p
  · obtain ⟨v, rfl, h⟩ := r.one
    cases h
    exact .inl ⟨_, rfl, p.here s _ (.int _)⟩
  · obtain ⟨v, rfl, h⟩ := r.one
    cases h
    exact .inr ⟨_, rfl, p.here s _ (.int _)⟩
  · exact p.elim
mutual
theorem dp_noDict {K : PySem.W.Frag} {H : Hp} : ∀ (d : PyData) (v : V), Dp K H v d → d.hasDict = false
  | .none, _, _ => by simp only [PyData.hasDict]
  | .bool _, _, _ => by simp only [PyData.hasDict]
  | .int _, _, _ => by simp only [PyData.hasDict]
  | .str _, _, _ => by simp only [PyData.hasDict]
  | .list xs, _, h => by
    cases h with
    | lst _ b => simp only [PyData.hasDict]; exact dp_noDictA xs _ b
  | .tuple xs, _, h => by
    cases h with
    | tup _ b => simp only [PyData.hasDict]; exact dp_noDictA xs _ b
  | .dict _, _, h => by cases h
theorem dp_noDictA {K : PySem.W.Frag} {H : Hp} : ∀ (ds : List PyData) (vs : List V), DpAll K H vs ds → PyData.hasDictAll ds = false
  | [], _, _ => by simp only [PyData.hasDictAll]
  | d :: ds, _, h => by
    cases h with
    | cons a b => simp only [PyData.hasDictAll, dp_noDict d _ a, dp_noDictA ds _ b, Bool.or_self]
end
def rStrC (K : PySem.W.Frag) : List V → Hp → VK → Prop := fun xs H Q => ∃ a d, xs = [.ref a] ∧ Dp K H (.ref a) d ∧ d.showable = true ∧ d.depth ≤ 60 ∧ d.shown.length ≤ sizeLine ∧ Q (.str d.shown) H
theorem call_strC (hu : X.A.units + 65 < cLine) (hgd : X.A.guards = some []) : CallR X (.type "str") (rStrC X.K) := by
  intro pins s σ H xs us Q I r h
  obtain ⟨a, d, rfl, hd, h1, h2, h3, q⟩ := h
  cases r with
  | cons ry rt =>
    cases rt
    cases ry
    obtain ⟨as, rd⟩ := Dp.reads I d (.ref a) (.ref a) hd rfl
    exact str_of_reads rd h1 (fun z => by rw [dp_noDict d _ hd] at z; cases z) hgd (by omega) (fun _ _ z => z) (fun h' u tk g => ⟨.str d.shown, H, I.kept (t' := tk) g, ⟨u, rfl⟩, q⟩) h3
theorem c_str (hu : X.A.units + 65 < cLine) (hgd : X.A.guards = some []) : CallD X b W (.type "str") strD := by
  have shp : ∀ {d : PyData} {σ : L2.St} {F H : Hp} {Q : VK} {a : Addr} {s : Same F H}, Dp X.K H (.ref a) d → Pst b W σ F H (CV X.K b Q) (shR d) → rStrC X.K [.ref a] H Q := fun {d σ F H Q a s} hd p => by
    unfold shR at p
    split at p
    · rename_i c
      simp only [Bool.and_eq_true, decide_eq_true_eq] at c
      exact ⟨a, d, rfl, hd, c.1.1, c.1.2, c.2, p.here s _ (.str _)⟩
    · exact p.elim
  refine ⟨_, call_str_int.or (call_strC hu hgd), fun σ F H Q xs vs s r p => ?_⟩
  unfold strD at p
  split at p
  · obtain ⟨v, rfl, h⟩ := r.one
    cases h
    split at p
    · rename_i hl
      exact .inl ⟨_, rfl, hl, p.here s _ (.str _)⟩
    · exact p.elim
  · obtain ⟨v, rfl, h⟩ := r.one
    have ok : okPL _ = true := okPL_sh' p
    have := Rp.dp s _ _ (by rw [okP]; exact ok) h
    obtain ⟨a, us, rfl, _, _⟩ := h.list s
    exact .inr (shp (s := s) this p)
  · obtain ⟨v, rfl, h⟩ := r.one
    have ok : okPL _ = true := okPL_sh' p
    have := Rp.dp s _ _ (by rw [okP]; exact ok) h
    obtain ⟨a, us, rfl, _, _⟩ := h.frl s
    exact .inr (shp (s := s) this p)
  · obtain ⟨v, rfl, h⟩ := r.one
    have ok : okPL _ = true := okPT_sh' p
    have := Rp.dp s _ _ (by rw [okP]; exact ok) h
    obtain ⟨a, us, rfl, _, _⟩ := h.tuple
    exact .inr (shp (s := s) this p)
  · exact p.elim
where
  okPL_sh' {b : Bs} {W : WX} {σ : L2.St} {F H : Hp} {C : D → Hp → Hp → Prop} {ds : List D} (p : Pst b W σ F H C (shR (.list (pyL ds)))) : okPL ds = true := by
    unfold shR at p
    split at p
    · rename_i c
      simp only [Bool.and_eq_true, decide_eq_true_eq] at c
      have := okP_of (.fr ds) (Nat.le_trans c.1.2 (by decide))
      simpa only [okP] using this
    · exact p.elim
  okPT_sh' {b : Bs} {W : WX} {σ : L2.St} {F H : Hp} {C : D → Hp → Hp → Prop} {ds : List D} (p : Pst b W σ F H C (shR (.tuple (pyL ds)))) : okPL ds = true := by
    unfold shR at p
    split at p
    · rename_i c
      simp only [Bool.and_eq_true, decide_eq_true_eq] at c
      have := okP_of (.tup ds) (Nat.le_trans c.1.2 (by decide))
      simpa only [okP] using this
    · exact p.elim
variable {x : Str} {id T : String} {e : Expr} {es : List Expr} {h : SemA} {op : List D → R D} {p pos : Pos}
theorem se_callB (hc : CallD X b W (.builtin id) op) (hg : Gl X x) (hm : X.mg x = none) (hv : bootBuiltins x = some (.builtin id)) (ha : SA X b W (e :: es) h) (hn : x ≠ "__name__" := by decide) (hdb : (x == ("__debug__" : Str)) = false := by decide)
    (he : starEach (e :: es) X.env = (false, eval e X.env) :: starEach es X.env := by rfl) (hpl : (backTo pos (starEach es X.env)).any (·.1) = false := by rfl) : SE X b W (.Call (.Name x p) (e :: es) [] pos) (eA op h) := by
  obtain ⟨r, h1, h2⟩ := hc
  refine PE.weak (pe_callB h1 hg hm hv ha hn hdb he hpl) fun σ H Q ⟨F, m, R, p⟩ => ?_
  exact seqA R p fun xs F1 H1 vs R1 G1 hv p1 => h2 σ F1 H1 Q xs vs R1.sub hv p1
theorem se_callTy (hc : CallD X b W (.type T) op) (hg : Gl X x) (hm : X.mg x = none) (hv : bootBuiltins x = some (.type T)) (ha : SA X b W (e :: es) h) (hn : x ≠ "__name__" := by decide) (hdb : (x == ("__debug__" : Str)) = false := by decide)
    (he : starEach (e :: es) X.env = (false, eval e X.env) :: starEach es X.env := by rfl) (hpl : (backTo pos (starEach es X.env)).any (·.1) = false := by rfl) : SE X b W (.Call (.Name x p) (e :: es) [] pos) (eA op h) := by
  obtain ⟨r, h1, h2⟩ := hc
  refine PE.weak (pe_callTy h1 hg hm hv ha hn hdb he hpl) fun σ H Q ⟨F, m, R, p⟩ => ?_
  exact seqA R p fun xs F1 H1 vs R1 G1 hv p1 => h2 σ F1 H1 Q xs vs R1.sub hv p1
theorem so_list (hg : Gl X "list") (hm : X.mg "list" = none) (ha : SA X b W (e :: es) h)
    (he : starEach (e :: es) X.env = (false, eval e X.env) :: starEach es X.env := by rfl) (hpl : (backTo pos (starEach es X.env)).any (·.1) = false := by rfl) : SO X b W (.Call (.Name "list" p) (e :: es) [] pos) (aThen h listO) := by
  refine PE.weak (pe_callTy call_list_of hg hm PyProof.Rows.boot_list ha (by decide) (by decide) he hpl) fun σ H Q ⟨F, m, R, p⟩ => ?_
  refine seqA R p fun xs F1 H1 vs R1 G1 hv p1 => ?_
  have s := R1.sub
  unfold listO at p1
  split at p1
  · obtain ⟨v, rfl, h⟩ := hv.one
    obtain ⟨a, us, rfl, k1, k2⟩ := h.list s
    refine ⟨a, us, rfl, .inl (.inl (.inl k1)), fun q hq => ?_⟩
    have G := Grow.loose (o := .lst us) s hq
    exact (p1 _ _ G) q us (G1.same.free hq) (s.free hq) upd_same (k2.grow G)
  · obtain ⟨v, rfl, h⟩ := hv.one
    obtain ⟨a, us, rfl, k1, k2⟩ := h.tuple
    refine ⟨a, us, rfl, .inr k1, fun q hq => ?_⟩
    have G := Grow.loose (o := .lst us) s hq
    exact (p1 _ _ G) q us (G1.same.free hq) (s.free hq) upd_same (k2.grow G)
  · obtain ⟨v, rfl, h⟩ := hv.one
    obtain ⟨a, us, rfl, k1, k2⟩ := h.frl s
    refine ⟨a, us, rfl, .inl k1, fun q hq => ?_⟩
    have G := Grow.loose (o := .lst us) s hq
    exact (p1 _ _ G) q us (G1.same.free hq) (s.free hq) upd_same (k2.grow G)
  · exact p1.elim
end
end CT

namespace CT
open PySem PySem.Spec PyProof.Rows L2
structure FnG (P : Program) (w : World) (K : PySem.W.Frag) (mg : Str → Option Value) (base : Heap) (k : Nat) (f : Addr) (fd : FuncData) (ps : List Str) (sp : Sp) : Prop where
  len : ∀ vs H Q E, sp vs H Q E → vs.length = ps.length
  run : ∀ (A : Around) (outer : List Env) (s : Shared) (H : Hp) (args : Args) (us : List Value) (vs : List V) (Q : VK) (E : XK), Room k A → A.guards = some [] → Env0 P w K mg base A outer s H → BindsTo s fd args (ps.zip us) → Vals vs us → sp vs H Q E →
    codeAny (model P w) A (.call (.ref f) args) (CR (L2.CX P w) outer P w H s Q E) s
theorem FnG.mono {P : Program} {w : World} {K : PySem.W.Frag} {mg : Str → Option Value} {base : Heap} {j k : Nat} {f : Addr} {fd : FuncData} {ps : List Str} {sp : Sp} (F : FnG P w K mg base j f fd ps sp) (h : j ≤ k) : FnG P w K mg base k f fd ps sp :=
  ⟨F.len, fun A outer s H args us vs Q E hr => F.run A outer s H args us vs Q E (hr.mono h)⟩
theorem FnG.imp {P : Program} {w : World} {K : PySem.W.Frag} {mg : Str → Option Value} {base : Heap} {k : Nat} {f : Addr} {fd : FuncData} {ps : List Str} {sp sp' : Sp} (F : FnG P w K mg base k f fd ps sp) (h : ∀ vs H Q E, sp' vs H Q E → sp vs H Q E) : FnG P w K mg base k f fd ps sp' :=
  ⟨fun vs H Q E q => F.len vs H Q E (h _ _ _ _ q), fun A outer s H args us vs Q E hr hg he hb hv hs => F.run A outer s H args us vs Q E hr hg he hb hv (h _ _ _ _ hs)⟩
section
variable {P : Program} {w : World} {K : PySem.W.Frag} {mg : Str → Option Value} {base : Heap}
theorem Fun.okG {x qual : Str} {st : Stmt} {f : Addr} {fd : FuncData} {N ps : List Str} {k : Nat} {sp : Sp} (F : Fun K x qual st f fd) (S : FnScope N ps (defScope st)) (len : ∀ vs H Q E, sp vs H Q E → vs.length = ps.length)
    (hbody : ∀ (cdv : Value) (A : Around) (outer : List Env) (s : Shared) (H : Hp) (vs : List V) (Q : VK) (E : XK), Room k (A.deeper (envOfC qual (defScope st) s.heap.objs.size f cdv)) → (A.deeper (envOfC qual (defScope st) s.heap.objs.size f cdv)).guards = some [] → sp vs H Q E →
      ∃ t, PSs (cxOf (L2.CX P w) P w K mg base N qual (defScope st) f cdv A outer s H E) (defBody st) t ∧ t { nx := fun _ H' => Q .non H', rt := Q } (start N vs) H) : FnG P w K mg base (k + 1) f fd ps sp := by
  obtain ⟨oc, od, kV, doc, pm, an, cdv, ct, osl, rfl, lk, hcd⟩ := F.ex
  refine ⟨len, fun A outer s H args us vs Q E hr hgd e0 hb r hsp => ?_⟩
  have hl := len _ _ _ _ hsp
  have kept : ∀ b o, base.get? b = some o → s.heap.get? b = some o := fun b o e => (e0.bs b o e).1
  have KX : K.In s.heap := e0.mod.kin.keeps kept
  refine codeAny_call_function hr.depth (KX _ _ lk) rfl S.co S.gen rfl (PySem.W.codeRec_of KX hcd) (hb _ _ _ _ ?_)
  refine wpAny_newFunctionEnv_cells S.kind (fun ⟨n, v⟩ hy => (S.par n (List.of_mem_zip hy).1).imp id fun q => ⟨q, PySem.W.cellsFrom_some _ _ _ (.inl q)⟩) fun env he s1 x => ?_
  subst he
  refine ⟨(e0.mod.nolimit.keeps kept).keeps x.toInCall.keep, codeAny_func ?_⟩
  obtain ⟨t, ht, hq⟩ := hbody cdv A outer s H vs Q E (hr.deeper _) hgd hsp
  have I := inv_start (CX := L2.CX P w) (E := E) S hr.hd e0 hl r x
  refine wpAny_mono (ht.run [] s1 (start N vs) H _ I hq) (fun fl s' hs => ?_) fun e s' hs => hs
  rcases fl with _ | u | _ | _
  all_goals first
    | (obtain ⟨_, _, _, z⟩ := hs; exact z.elim)
    | (obtain ⟨v, σ', H', J, rv, z⟩ := hs; exact ⟨v, H', J.os, J.bare, J.base, J.hok, rv, z⟩)
    | (obtain ⟨σ', H', J, z⟩ := hs; exact ⟨V.non, H', J.os, J.bare, J.base, J.hok, rfl, z⟩)
end
section
variable {X : Cx} {k : Nat} {f : Addr} {fd : FuncData} {ps : List Str} {sp : Sp} {E : L2.St → XK} {x : Str} {p pos : Pos} {e : Expr} {es : List Expr} {t : TA}
theorem pe_callG (F : FnG X.prog X.w X.K X.mg X.base k f fd ps sp) (hr : Room k X.A) (hgd : X.A.guards = some []) (hg : Gl X x) (hm : X.mg x = some (.ref f)) (hk : PySem.W.keepIn X.K (.ref f) = true) (hb : L2.Binds X.K fd ps []) (hx : ∀ σ, PassesAt (L2.CX X.prog X.w) X σ (E σ))
    (ha : PA X (e :: es) t) (hdb : (x == ("__debug__" : Str)) = false := by decide) (he : starEach (e :: es) X.env = (false, eval e X.env) :: starEach es X.env := by rfl) (hpl : (backTo pos (starEach es X.env)).any (·.1) = false := by rfl) :
    PE X (.Call (.Name x p) (e :: es) [] pos) (tCallS sp E t) := by
  refine ⟨fun pins s σ H Q I h => wpAny_Call_Name_kw (ld_glob I hg hm ?_ hdb)⟩
  refine PySem.W.callWith_K (h₀ := X.base) I.ok.mod.kin hk (thn (ha.run pos pins s σ H _ I h) fun us s1 ⟨vs, H1, I1, r, q⟩ => ⟨I1.kIn, ?_⟩) he hpl
  have b := hb s1 us I1.kIn (by rw [List.append_nil, ← r.length]; exact F.len _ _ _ _ q)
  rw [List.append_nil] at b
  refine wpAny_call (codeAny_mono (F.run X.A X.stack s1 H1 ⟨us, []⟩ us vs Q (E σ) hr hgd I1.env0 b r q) fun r s' hq => ?_)
  rcases r with er | fl
  · exact hx σ pins H1 s1 er s' I1 hq
  · rcases fl with _ | _ | _ | u
    all_goals first | exact I1.after hq | exact False.elim hq
end
theorem law_callG {P : Program} {w : World} {K : PySem.W.Frag} {mg mb : Str → Option Value} {k : Nat} {fa a : Addr} {fd : FuncData} {x : Str} {sp : Sp} {s₁ : Shared} {vs : List Value} {ns : List Int}
    (KX : K.In s₁.heap) (hns : s₁.heap.Ns mainGlobals mg) (hb : s₁.heap.Ns builtinsNs mb) (hbb : ∀ x : Str, x ≠ "__name__" → mb x = bootBuiltins x) (hlim : s₁.heap.NoLimit) (hg : s₁.gens = #[])
    (ha : s₁.heap.get? a = some { cls := .type "list", data := .seq vs.toArray }) (hi : IntsAre vs ns) (hl : ns.length ≤ sizeLine) (hr : Room k callerA)
    (F : ∀ base : Heap, K.In base → base.Ns mainGlobals mg → FnG P w K mg base k fa fd [x] sp) (hbind : ∀ (s : Shared) (u : Value), BindsTo s fd ⟨[u], []⟩ [(x, u)])
    (hsp : ∀ H : Hp, Only H → SqL K H a (ns.map V.int) → sp [.ref a] H (fun v _ => v = .bl true) fun _ _ _ => False)
    (hCX : ∀ H e s', L2.CX P w [] H s₁ (fun _ _ _ => False) e s' → False) :
    codeAny (model P w) callerA (.call (.ref fa) ⟨[.ref a], []⟩) (fun r s' => r = .ok (.ret (.bool true)) ∧ OldK s₁.heap s'.heap ∧ s'.os = s₁.os ∧ AllBare s'.gens) s₁ := by
  have rv := vals_ints hi
  -- a heap in which at most the script is tracked does
  have core : ∀ H : Hp, Only H → SqL K H a (ns.map V.int) → HOk P w H s₁.heap → (∀ b, H b ≠ none → b = a ∧ K.lookup b = none) →
      codeAny (model P w) callerA (.call (.ref fa) ⟨[.ref a], []⟩) (fun r s' => r = .ok (.ret (.bool true)) ∧ OldK s₁.heap s'.heap ∧ s'.os = s₁.os ∧ AllBare s'.gens) s₁ := by
    intro H hO hS hok hA
    have noDict : ∀ {b : Addr} {o : Obj} {es : Array DictEntry} {ep : Nat}, s₁.heap.get? b = some o → o.data = .dict es ep → H b = none := fun {b o es ep} e d => by
      by_cases q : H b = none
      · exact q
      · obtain ⟨rfl, _⟩ := hA b q
        rw [ha] at e; cases e
        exact nomatch (show Data.seq vs.toArray _ = Data.dict es ep from d)
    have nsK : ∀ {b : Addr} {m : Str → Option Value}, s₁.heap.Ns b m → (hidT s₁.heap H).Ns b m := fun {b m} ⟨o, es, ep, e, d, r⟩ => ⟨o, es, ep, hidT_get e (noDict e d), d, r⟩
    have hKb : K.In (hidT s₁.heap H) := fun b o e => hidT_get (KX b o e) (by
      by_cases q : H b = none
      · exact q
      · have := (hA b q).2; rw [e] at this; cases this)
    have hM : Mod K mg (hidT s₁.heap H) := ⟨hKb, nsK hns, ⟨mb, nsK hb, hbb⟩, let ⟨mc, h1, h2⟩ := hlim; ⟨mc, nsK h1, h2⟩⟩
    have e0 : Env0 P w K mg (hidT s₁.heap H) callerA [] s₁ H := ⟨rfl, hM, fun b o e => of_hidT e, Nat.le_of_eq (hidT_size _ _), trivial, fun b hb => (nomatch (show b ∈ ([] : List Addr) from hb)), hok, .of_eq hg⟩
    refine codeAny_mono ((F _ hKb (nsK hns)).run callerA [] s₁ H ⟨[.ref a], []⟩ [.ref a] [.ref a] _ _ hr rfl e0 (hbind s₁ (.ref a)) (.cons rfl .nil) (hsp H hO hS)) fun r s' h => ?_
    rcases r with er | fl
    · exact (hCX H er s' h).elim
    · rcases fl with _ | _ | _ | u
      all_goals first
        | exact False.elim h
        | skip
      obtain ⟨v, H', os, bare, un, hok', r', q⟩ := h
      obtain rfl : v = V.bl true := q
      obtain rfl : u = Value.bool true := r'
      refine ⟨rfl, OldK.of_keep fun b o e => ?_, os, bare⟩
      rcases hO b with z | ⟨ob, xs, z⟩
      · exact un.keep b o e z (fun z => nomatch (show b ∈ ([] : List Addr) from z)) (fun z => nomatch (show b ∈ ([] : List Addr) from z))
      · obtain ⟨e1, _⟩ := hok b _ z
        obtain ⟨e2, _⟩ := hok' b _ (un.frzs b ob _ z)
        rw [e] at e1; cases e1
        exact e2
  cases hk : K.lookup a with
  | some o =>
    have e := KX a o hk
    rw [ha] at e
    cases e
    exact core (fun _ => none) (fun _ => .inl rfl) (.inr ⟨_, vs.toArray, _, hk, rfl, rfl, rfl, by rw [List.size_toArray, hi.length]; exact hl, by simpa using rv⟩) (fun b u z => nomatch (show (none : Option HO) = some u from z)) fun b z => absurd rfl z
  | none =>
    obtain ⟨S, hS⟩ : ∃ S : HO, S = .frz { cls := .type "list", data := .seq vs.toArray } (.lst (ns.map V.int)) := ⟨_, rfl⟩
    refine core (fun b => if b = a then some S else none) (fun b => ?_) (.inl (.inr ⟨{ cls := .type "list", data := .seq vs.toArray }, by show (if a = a then some S else none) = _; rw [if_pos rfl, hS]⟩)) (fun b u z => ?_) (fun b z => ?_)
    · by_cases hb : b = a
      · exact .inr ⟨_, _, by show (if b = a then some S else none) = _; rw [if_pos hb, hS]⟩
      · exact .inl (if_neg hb)
    · by_cases hb : b = a
      · simp only [if_pos hb] at z
        cases z
        rw [hb, hS]
        exact ⟨ha, by rw [List.length_map]; exact hl, vs, _, rv, ha⟩
      · simp only [if_neg hb] at z
        cases z
    · by_cases hb : b = a
      · exact ⟨hb, by rw [hb]; exact hk⟩
      · exact absurd (if_neg hb) z
theorem walk_ofG {l : PySem.W.OpenLaw} {n k : Nat} {q : Program} {loose : List Str} {XP : (Str → Option Value) → Heap → Prop} {YP : World → Heap → Prop} {d : DefRec} {K : Params → PySem.W.Frag} {sp : World → Sp} {x : Str}
    (hn : l.most = some n) (hn2 : n ≤ sizeLine) (hdf : d.params.defaults = []) (hr : Room k callerA)
    (hY : ∀ (w : World) (h : Heap), YP w h → (K w.params).In h)
    (F : ∀ (w : World) (mg : Str → Option Value) (fa : Addr) (h : Heap), (K w.params).In h → h.Ns mainGlobals mg → mg d.name = some (.ref fa) →
      ∃ fd : FuncData, (∀ (s : Shared) (u : Value), BindsTo s fd ⟨[u], []⟩ [(x, u)]) ∧
        ∀ base : Heap, (K w.params).In base → base.Ns mainGlobals mg → FnG l.prog w (K w.params) mg base k fa fd [x] (sp w))
    (hsp : ∀ (w : World) (H : Hp) (a : Addr) (ns : List Int), ns.length ≤ n → Only H → SqL (K w.params) H a (ns.map V.int) → sp w [.ref a] H (fun v _ => v = .bl true) fun _ _ _ => False)
    (hCX : ∀ (w : World) (H : Hp) (s : Shared) (e : Value) (s' : Shared), L2.CX l.prog w [] H s (fun _ _ _ => False) e s' → False) :
    PySem.W.WalkO q loose XP YP l.row.toRowW d [] (fun f vs => PySem.call f vs) := by
  refine Att.attach_call hn hdf fun w s₀ s₁ mg mb fa o pm cd doc a vs ns G Y ho hd hcd hmg hobj hints hlen hg => ?_
  obtain ⟨fd, hb, hF⟩ := F w mg fa _ (hY w _ Y) G.T.g hmg
  exact law_callG (hY w _ Y) G.T.g G.T.b G.T.builtins G.T.nolimit hg hobj hints (Nat.le_trans hlen hn2) hr hF hb (fun H hO hS => hsp w H a ns hlen hO hS) fun H e s' => hCX w H s₁ e s'
end CT

namespace CT
open PySem PySem.Spec PyProof.Rows L2
def spF (K : PySem.W.Frag) (ex : String → Value) (n : Nat) (f : List D → R D) : Sp := fun vs H Q E => ∃ F0 ds, Same F0 H ∧ RpL K F0 H H ds vs ∧ hasTL ds = false ∧ ds.length = n ∧
  match f ds with
  | .ok d => ∀ F' H' v, Grow F0 H F' H' → SlotOk K F' H H' d v → Q v H'
  | .exc c => ∀ F' H', Grow F0 H F' H' → E (ex c) none H'
  | .stuck => False
mutual
theorem flat_of_still : ∀ d, isFlat (still d) = true → isFlat d = true
  | .tup xs, h => by simp only [still, isFlat] at h ⊢; exact flatL_of_still xs h
  | .lst _ _, h => by simp [still, isFlat] at h
  | .fr _, h => by simp [still, isFlat] at h
  | .non, _ => rfl
  | .bl _, _ => rfl
  | .int _, _ => rfl
  | .str _, _ => rfl
  | .unk, h => by simp [still, isFlat] at h
  | .ex _, _ => rfl
  | .fn _, _ => rfl
  | .dic _ _, h => by simp [still, isFlat] at h
  | .dct _ _ _, h => by simp [still, isFlat] at h
theorem flatL_of_still : ∀ ds, isFlatL (stillL ds) = true → isFlatL ds = true
  | [], _ => rfl
  | x :: xs, h => by
    simp only [stillL, isFlatL, Bool.and_eq_true] at h ⊢
    exact ⟨flat_of_still x h.1, flatL_of_still xs h.2⟩
end
theorem flat_still (d : D) (h : isFlat (still d) = true) : isFlat d = true ∧ still d = d := ⟨flat_of_still d h, still_of _ (flat_noT _ (flat_of_still d h))⟩
def callF (f : List D → R D) : List D → R D := fun ds => (f (stillL ds)).bind fun d => if hasTL ds = true then (if isFlat (still d) = true then .ok (still d) else .stuck) else .ok (still d)
def callO (f : List D → R D) : List D → R (List D) := fun ds => if hasTL ds = true then .stuck else (f ds).bind fun d => match d with
  | .lst true es => .ok es
  | _ => .stuck
structure Callee (P : Program) (w : World) (K : PySem.W.Frag) (mg : Str → Option Value) (base : Heap) (ex : String → Value) (x : Str) (n : Nat) (f : List D → R D) (k : Nat) : Prop where
  ok : ∃ fa fd ps, FnG P w K mg base k fa fd ps (spF K ex n f) ∧ mg x = some (.ref fa) ∧ PySem.W.keepIn K (.ref fa) = true ∧ Binds K fd ps []
theorem Callee.mono {P : Program} {w : World} {K : PySem.W.Frag} {mg : Str → Option Value} {base : Heap} {ex : String → Value} {x : Str} {n : Nat} {f : List D → R D} {j k : Nat} (c : Callee P w K mg base ex x n f j) (h : j ≤ k) : Callee P w K mg base ex x n f k := by
  obtain ⟨fa, fd, ps, h1, h2, h3, h4⟩ := c.ok
  exact ⟨fa, fd, ps, h1.mono h, h2, h3, h4⟩
section
variable {X : Cx} {b : Bs} {W : WX} {x : Str} {e : Expr} {es : List Expr} {h : SemA} {n k : Nat} {f : List D → R D} {p pos : Pos}
theorem spF_call {σ : L2.St} {F H : Hp} {Q : VK} {xs : List D} {vs : List V} (s : Same F H) (r : RpL X.K F b.H0 H xs vs) (sz : Same b.H0 H) (hl : xs.length = n) (p : Pst b W σ F H (CV X.K b Q) (callF f xs)) : spF X.K b.ex n f vs H Q (WE W σ) := by
  unfold callF at p
  cases ht : hasTL xs with
  | false =>
    rw [stillL_of xs ht] at p
    refine ⟨F, xs, s, RpL.base xs vs ht r, ht, hl, ?_⟩
    cases hf : f xs with
    | stuck => rw [hf] at p; exact p.elim
    | exc c =>
      rw [hf] at p
      exact fun F' H' G => p F' H' G
    | ok d =>
      rw [hf] at p
      simp only [CT.R.bind_ok, ht, Bool.false_eq_true, if_false] at p
      refine fun F' H' v G so => ?_
      refine p (vis F' H H') H' ⟨G.same, G.sub.trans (vis_sub G.subH), vis_subH G.subH, fun c o hc => ?_⟩ v (Rp.vis G.subH d v so.rp)
      cases hc' : H c with
      | none => exact .inr rfl
      | some z =>
        rw [vis_old hc'] at hc
        rcases G.new c o hc with q | q
        · exact .inl q
        · rw [hc'] at q; cases q
  | true =>
    refine ⟨vis F b.H0 H, stillL xs, vis_subH s, RpL.vis s xs vs r, hasTL_still xs, by rw [stillL_length]; exact hl, ?_⟩
    cases hf : f (stillL xs) with
    | stuck => rw [hf] at p; exact p.elim
    | exc c =>
      rw [hf] at p
      exact fun F' H' G => p F H' ⟨G.same, Same.refl _, s.trans G.same, fun _ _ z => .inl z⟩
    | ok d =>
      rw [hf] at p
      simp only [CT.R.bind_ok, ht, if_true] at p
      split at p
      · rename_i hfl
        refine fun F' H' v G so => ?_
        obtain ⟨h1, h2⟩ := flat_still d hfl
        refine p F H' ⟨G.same, Same.refl _, s.trans G.same, fun _ _ z => .inl z⟩ v ?_
        rw [h2]
        exact Rp.flat (fun _ _ z => z) (fun _ _ z => z) d v h1 so.rp
      · exact p.elim
theorem se_call (C : Callee X.prog X.w X.K X.mg X.base b.ex x n f k) (tk : Takes X W) (hr : Room k X.A) (hgd : X.A.guards = some []) (hg : Gl X x) (ha : SA X b W (e :: es) h) (hl : (e :: es).length = n) (hlen : ∀ m xs, h m = .ok xs → xs.length = (e :: es).length) (hdb : (x == ("__debug__" : Str)) = false := by decide)
    (he : starEach (e :: es) X.env = (false, eval e X.env) :: starEach es X.env := by rfl) (hpl : (backTo pos (starEach es X.env)).any (·.1) = false := by rfl) : SE X b W (.Call (.Name x p) (e :: es) [] pos) (eA (callF f) h) := by
  obtain ⟨fa, fd, ps, F1, hm, hk, hb⟩ := C.ok
  refine PE.weak (pe_callG F1 hr hgd hg hm hk hb (fun σ => passAt tk σ) ha hdb he hpl) fun σ H Q ⟨F, m, R, p⟩ => ?_
  refine ⟨F, m, R, ?_⟩
  unfold eA at p
  cases hm : h m with
  | stuck => rw [hm] at p; exact p.elim
  | exc c => rw [hm] at p; exact p
  | ok xs =>
    rw [hm] at p
    refine fun F1 H1 G vs hv => ?_
    exact spF_call (R.step G).sub hv (R.step G).grow.same (by rw [← hl]; exact hlen m xs hm) (Pst.grow G p)
theorem so_call (C : Callee X.prog X.w X.K X.mg X.base b.ex x n f k) (tk : Takes X W) (hr : Room k X.A) (hgd : X.A.guards = some []) (hg : Gl X x) (ha : SA X b W (e :: es) h) (hl : (e :: es).length = n) (hlen : ∀ m xs, h m = .ok xs → xs.length = (e :: es).length) (hdb : (x == ("__debug__" : Str)) = false := by decide)
    (he : starEach (e :: es) X.env = (false, eval e X.env) :: starEach es X.env := by rfl) (hpl : (backTo pos (starEach es X.env)).any (·.1) = false := by rfl) : SO X b W (.Call (.Name x p) (e :: es) [] pos) (aThen h (callO f)) := by
  obtain ⟨fa, fd, ps, F1, hm, hk, hb⟩ := C.ok
  refine PE.weak (pe_callG F1 hr hgd hg hm hk hb (fun σ => passAt tk σ) ha hdb he hpl) fun σ H Q ⟨F, m, R, p⟩ => ?_
  refine ⟨F, m, R, ?_⟩
  unfold aThen at p
  cases hm : h m with
  | stuck => rw [hm] at p; exact p.elim
  | exc c => rw [hm] at p; exact p
  | ok xs =>
    rw [hm] at p
    refine fun F1 H1 G vs hv => ?_
    have p := Pst.grow G p
    simp only [CT.R.bind_ok, callO] at p
    split at p
    · exact p.elim
    · rename_i ht
      have ht : hasTL xs = false := by simpa using ht
      refine ⟨F1, xs, (R.step G).sub, RpL.base xs vs ht hv, ht, by rw [← hl]; exact hlen m xs hm, ?_⟩
      cases hf : f xs with
      | stuck => rw [hf] at p; exact p.elim
      | exc c => rw [hf] at p; exact fun F' H' G' => p F' H' G'
      | ok d =>
        rw [hf] at p
        simp only [CT.R.bind_ok] at p
        split at p
        · rename_i es
          refine fun F' H' v G' so => ?_
          obtain ⟨a, us, as, rfl, h1, h2, h3, h4, h5⟩ := so.mutW
          exact p F' H' G' a us (G.same.free h3) h2 h1 (OwL.rp _ _ _ (OwL.base (fun _ z => (R.step G).grow.same.free z) _ _ _ h4))
        · exact p.elim
theorem aNil_len : ∀ (m : Sl) xs, aNil m = .ok xs → xs.length = 0 := fun m xs h => by cases h; rfl
theorem aCons_len {f : SemE} {g : SemA} {n : Nat} (hg : ∀ m xs, g m = .ok xs → xs.length = n) : ∀ m xs, aCons f g m = .ok xs → xs.length = n + 1 := fun m xs h => by
  unfold aCons at h
  cases hf : f m with
  | stuck => rw [hf] at h; cases h
  | exc c => rw [hf] at h; cases h
  | ok d =>
    rw [hf] at h
    simp only [CT.R.bind_ok] at h
    cases hgm : g m with
    | stuck => rw [hgm] at h; cases h
    | exc c => rw [hgm] at h; cases h
    | ok ds =>
      rw [hgm] at h
      cases h
      rw [List.length_cons, hg m ds hgm]
end
inductive RS where
  | nx (m : Sl) | rt (d : D) | bk (m : Sl) | ct (m : Sl) | exc (c : String) (m : Sl) | stuck
abbrev SemS := Sl → RS
structure Prog (F H F' H' : Hp) : Prop where
  sub : Same F F'
  tups : ∀ c o, H c = some o → NoL o → H' c = some o
theorem Prog.refl (F H : Hp) : Prog F H F H := ⟨Same.refl _, fun _ _ h _ => h⟩
theorem Prog.trans {F H F1 H1 F2 H2 : Hp} (p : Prog F H F1 H1) (q : Prog F1 H1 F2 H2) : Prog F H F2 H2 := ⟨p.sub.trans q.sub, fun c o h n => q.tups c o (p.tups c o h n) n⟩
theorem Grow.prog {F H F1 H1 : Hp} (g : Grow F H F1 H1) : Prog F H F1 H1 := ⟨g.sub, fun c o h _ => g.same c o h⟩
def Sst (K : PySem.W.Frag) (b : Bs) (W : WX) (F H : Hp) (D' : Ends) : RS → Prop
  | .nx m' => ∀ σ' F' H', Rel K b F' m' σ' H' → Prog F H F' H' → D'.nx σ' H'
  | .bk m' => ∀ σ' F' H', Rel K b F' m' σ' H' → Prog F H F' H' → D'.bk σ' H'
  | .ct m' => ∀ σ' F' H', Rel K b F' m' σ' H' → Prog F H F' H' → D'.ct σ' H'
  | .rt d => ∀ F' H' v, Grow b.F0 b.H0 F' H' → SlotOk K F' b.H0 H' d v → D'.rt v H'
  | .exc c m' => ∀ σ' F' H', Rel K b F' m' σ' H' → Prog F H F' H' → W (b.ex c) none σ' H'
  | .stuck => False
theorem Sst.prog {K : PySem.W.Frag} {b : Bs} {W : WX} {F H F1 H1 : Hp} {D' : Ends} {r : RS} (g : Prog F H F1 H1) (p : Sst K b W F H D' r) : Sst K b W F1 H1 D' r := by
  cases r with
  | nx m => exact fun σ' F' H' R q => p σ' F' H' R (g.trans q)
  | bk m => exact fun σ' F' H' R q => p σ' F' H' R (g.trans q)
  | ct m => exact fun σ' F' H' R q => p σ' F' H' R (g.trans q)
  | rt d => exact p
  | exc c m => exact fun σ' F' H' R q => p σ' F' H' R (g.trans q)
  | stuck => exact p
def tSS (K : PySem.W.Frag) (b : Bs) (W : WX) (g : SemS) : TS := fun D' σ H => ∃ F m, Rel K b F m σ H ∧ Sst K b W F H D' (g m)
abbrev SS (X : Cx) (b : Bs) (W : WX) (st : Stmt) (g : SemS) : Prop := PS X st (tSS X.K b W g)
abbrev SSs (X : Cx) (b : Bs) (W : WX) (st : List Stmt) (g : SemS) : Prop := PSs X st (tSS X.K b W g)
def ofR {α : Type} (m : Sl) (r : R α) (k : α → RS) : RS := match r with
  | .ok a => k a
  | .exc c => .exc c m
  | .stuck => .stuck
@[simp] theorem ofR_ok {α : Type} (m : Sl) (a : α) (k : α → RS) : ofR m (.ok a) k = k a := nr rfl
def sThen (r : RS) (k : Sl → RS) : RS := match r with
  | .nx m => k m
  | r => r
@[simp] theorem sThen_nx (m : Sl) (k : Sl → RS) : sThen (.nx m) k = k m := nr rfl
@[simp] theorem sThen_rt (d : D) (k : Sl → RS) : sThen (.rt d) k = .rt d := nr rfl
@[simp] theorem sThen_exc (c : String) (m : Sl) (k : Sl → RS) : sThen (.exc c m) k = .exc c m := nr rfl
def sNop : SemS := fun m => .nx m
def sSeq (g h : SemS) : SemS := fun m => sThen (g m) h
def sExp (f : SemE) : SemS := fun m => ofR m (f m) fun _ => .nx m
def sRet (f : SemE) : SemS := fun m => ofR m (f m) fun d => .rt (still d)
def sRetO (h : SemA) : SemS := fun m => ofR m (h m) fun ds => if hasTL ds = true then .stuck else .rt (.lst true ds)
def sRetV (i : Nat) : SemS := fun m => match m[i]? with
  | some (some (.lst true ds)) => .rt (.lst true ds)
  | _ => .stuck
def sIf (t : SemT) (g h : SemS) : SemS := fun m => ofR m (t m) fun c => if c = true then g m else h m
def putR (i : Nat) (d : D) (m : Sl) : R Sl := if hasT d = true then .stuck else .ok (m.set i (some d))
def sSet (i : Nat) (f : SemE) : SemS := fun m => ofR m (f m) fun d => ofR m (putR i d m) fun m' => .nx m'
def sSetO (i : Nat) (h : SemA) : SemS := fun m => ofR m (h m) fun ds => if hasTL ds = true then .stuck else .nx (m.set i (some (.lst true ds)))
section
variable {X : Cx} {b : Bs} {W : WX} {st : Stmt} {rest : List Stmt} {g h : SemS} {e : Expr} {f : SemE} {t : SemT} {pos : Pos}
theorem seqS {R' : V → Hp → Prop} {σ : L2.St} {H F : Hp} {k : D → RS} {D' : Ends} {m : Sl} (r : Rel X.K b F m σ H) (p : Sst X.K b W F H D' (ofR m (f m) k))
    (q : ∀ d F1 H1 v, Rel X.K b F1 m σ H1 → Grow F H F1 H1 → Rp X.K F1 b.H0 H1 d v → Sst X.K b W F1 H1 D' (k d) → R' v H1) : tSE X.K b W f σ H R' := by
  refine ⟨F, m, r, ?_⟩
  cases hf : f m with
  | stuck => rw [hf] at p; exact p.elim
  | exc c => rw [hf] at p; exact fun F1 H1 G => p σ F1 H1 (r.step G) G.prog
  | ok d => rw [hf] at p; exact fun F1 H1 G v hv => q d F1 H1 v (r.step G) G hv (Sst.prog G.prog p)
theorem seqO {R' : V → Hp → Prop} {σ : L2.St} {H F : Hp} {k : List D → RS} {D' : Ends} {m : Sl} {f : SemA} (r : Rel X.K b F m σ H) (p : Sst X.K b W F H D' (ofR m (f m) k))
    (q : ∀ ds F1 H1 a xs, Rel X.K b F1 m σ H1 → Grow F H F1 H1 → H a = none → F1 a = none → H1 a = some (.lst xs) → RpL X.K F1 b.H0 H1 ds xs → Sst X.K b W F1 H1 D' (k ds) → R' (.ref a) H1) : tSO X.K b W f σ H R' := by
  refine ⟨F, m, r, ?_⟩
  cases hf : f m with
  | stuck => rw [hf] at p; exact p.elim
  | exc c => rw [hf] at p; exact fun F1 H1 G => p σ F1 H1 (r.step G) G.prog
  | ok d => rw [hf] at p; exact fun F1 H1 G a xs h0 h1 h2 hv => q d F1 H1 a xs (r.step G) G h0 h1 h2 hv (Sst.prog G.prog p)
theorem sss_nil : SSs X b W [] sNop := PSs.weak pss_nil fun D' σ H ⟨F, m, R, p⟩ => p σ F H R (Prog.refl _ _)
theorem sss_cons (h1 : SS X b W st g) (h2 : SSs X b W rest h) : SSs X b W (st :: rest) (sSeq g h) := by
  refine PSs.weak (pss_cons h1 h2) fun D' σ H ⟨F, m, R, p⟩ => ⟨F, m, R, ?_⟩
  unfold sSeq at p
  cases hg : g m with
  | nx m' => rw [hg] at p; exact fun σ' F' H' R' q => ⟨F', m', R', Sst.prog q p⟩
  | bk m' => rw [hg] at p; exact p
  | ct m' => rw [hg] at p; exact p
  | rt d => rw [hg] at p; exact p
  | exc c m' => rw [hg] at p; exact p
  | stuck => rw [hg] at p; exact p
theorem sss_one (h1 : SS X b W st g) : SSs X b W [st] g := PSs.weak (pss_one h1) fun _ _ _ z => z
theorem ss_exp (hf : SE X b W e f) (hs : swapsWith e none pos.line X.env = pure false := by rfl) : SS X b W (.Expr e pos) (sExp f) :=
  PS.weak (ps_expr hf hs) fun D' σ H ⟨F, m, R, p⟩ => seqS R p fun d F1 H1 v R1 G _ q => q σ F1 H1 R1 (Prog.refl _ _)
theorem Rel.tell {K : PySem.W.Frag} {F H : Hp} {m : Sl} {σ : L2.St} {d : D} {v : V} (R : Rel K b F m σ H) (hv : Rp K F b.H0 H d v) : ∃ F', Grow b.F0 b.H0 F' H ∧ SlotOk K F' b.H0 H (still d) v := by
  refine ⟨vis F b.H0 H, ⟨R.grow.same, R.grow.sub.trans (vis_sub R.sub), vis_subH R.sub, fun a o e => ?_⟩, .inr (.inl ⟨hasT_still d, Rp.vis R.sub d v hv⟩)⟩
  cases h : b.H0 a with
  | none => exact .inr rfl
  | some z =>
    rw [vis_old h] at e
    rcases R.grow.new a o e with q | q
    · exact .inl q
    · rw [h] at q; cases q
theorem ss_ret (hf : SE X b W e f) : SS X b W (.Return (some e) pos) (sRet f) :=
  PS.weak (ps_ret hf) fun D' σ H ⟨F, m, R, p⟩ => seqS R p fun d F1 H1 v R1 G hv q => by
    obtain ⟨F', h1, h2⟩ := R1.tell hv
    exact q F' H1 v h1 h2
theorem ss_retO {k : SemA} (hf : SO X b W e k) : SS X b W (.Return (some e) pos) (sRetO k) :=
  PS.weak (ps_ret hf) fun D' σ H ⟨F, m, R, p⟩ => seqO R p fun ds F1 H1 a xs R1 G h0 h1 h2 hv q => by
    split at q
    · exact q.elim
    · rename_i ht
      exact q F1 H1 _ R1.grow (.inl ⟨ds, a, xs, rfl, rfl, h2, h1, R.grow.same.free h0, hv, by simpa using ht⟩)
theorem ss_retV {i : Nat} (hf : PE X e (tVar i)) : SS X b W (.Return (some e) pos) (sRetV i) :=
  PS.weak (ps_ret hf) fun D' σ H ⟨F, m, R, p⟩ => by
    unfold sRetV at p
    split at p
    · rename_i ds hd
      obtain ⟨v, h1, h2⟩ := R.slot i _ hd
      exact ⟨v, h1, p F H v R.grow h2⟩
    · exact p.elim
theorem ss_if {c : Expr} {a d : List Stmt} (hc : ST X b W c t) (ha : SSs X b W a g) (hb : SSs X b W d h) : SS X b W (.If c a d pos) (sIf t g h) :=
  PS.weak (ps_if hc ha hb) fun D' σ H ⟨F, m, R, p⟩ => by
    refine ⟨F, m, R, ?_⟩
    unfold sIf at p
    cases ht : t m with
    | stuck => rw [ht] at p; exact p.elim
    | exc c => rw [ht] at p; exact fun F1 H1 G => p σ F1 H1 (R.step G) G.prog
    | ok c =>
      rw [ht] at p
      refine fun F1 H1 G => ?_
      cases c with
      | true => exact ⟨F1, m, R.step G, Sst.prog G.prog p⟩
      | false => exact ⟨F1, m, R.step G, Sst.prog G.prog p⟩
variable {i : Nat} {x : Str} {px : Pos}
theorem ss_set (hN : X.N.Nodup) (hi : X.N[i]? = some x) (hx : Loc X.env.scope x) (hf : SE X b W e f) (hfn : X.fn x = true ∨ X.env.scope.names.lookup x = some .local := by first | exact .inl rfl | exact .inr rfl)
    (hs : swapsWithSole [.Name x px] e pos.line X.env = pure false := by rfl) (hw : swappedStores [.Name x px] e X.env = pure none := by rfl) : SS X b W (.Assign [.Name x px] e pos) (sSet i f) :=
  PS.weak (ps_asg hf (pg_name hN hi hx hfn) hs hw) fun D' σ H ⟨F, m, R, p⟩ => seqS R p fun d F1 H1 v R1 G hv q => by
    unfold putR at q
    split at q
    · exact q.elim
    · rename_i ht
      exact q _ F1 H1 (R1.put (by simpa using ht) hv) (Prog.refl _ _)
theorem ss_setO {k : SemA} (hN : X.N.Nodup) (hi : X.N[i]? = some x) (hx : Loc X.env.scope x) (hf : SO X b W e k) (hfn : X.fn x = true ∨ X.env.scope.names.lookup x = some .local := by first | exact .inl rfl | exact .inr rfl)
    (hs : swapsWithSole [.Name x px] e pos.line X.env = pure false := by rfl) (hw : swappedStores [.Name x px] e X.env = pure none := by rfl) : SS X b W (.Assign [.Name x px] e pos) (sSetO i k) :=
  PS.weak (ps_asg hf (pg_name hN hi hx hfn) hs hw) fun D' σ H ⟨F, m, R, p⟩ => by
    refine ⟨F, m, R, ?_⟩
    unfold sSetO at p
    cases hk : k m with
    | stuck => rw [hk] at p; exact p.elim
    | exc c => rw [hk] at p; exact fun F1 H1 G => p σ F1 H1 (R.step G) G.prog
    | ok ds =>
      rw [hk] at p
      simp only [ofR_ok] at p
      split at p
      · exact p.elim
      · rename_i ht
        exact fun F1 H1 G a xs h0 h1 h2 hv => p _ F1 H1 (R.own G h0 h2 h1 hv (by simpa using ht)) G.prog
def sFreeze (i : Nat) (g : SemS) : SemS := fun m => match m[i]? with
  | some (some (.lst true ds)) => g (m.set i (some (.lst false ds)))
  | _ => .stuck
theorem ss_freeze (h1 : SS X b W st g) : SS X b W st (sFreeze i g) := PS.weak h1 fun D' σ H ⟨F, m, R, p⟩ => by
  unfold sFreeze at p
  split at p
  · rename_i ds hd
    obtain ⟨F', sF, R'⟩ : ∃ F', Same F F' ∧ Rel X.K b F' (m.set i (some (.lst false ds))) σ H := by
      obtain ⟨F', s, r⟩ := R.freeze' hd
      exact ⟨F', s, r⟩
    exact ⟨F', _, R', Sst.prog ⟨sF, fun _ _ z _ => z⟩ p⟩
  · exact p.elim
end
end CT

namespace CT
open PySem PySem.Spec PyProof.Rows L2
abbrev SemG := D → Sl → R Sl
def NGok (K : PySem.W.Frag) (t : TG) (g : SemG) (vs : List Nat) : Prop := ∀ (b : Bs) (F : Hp) (m : Sl) (σ : L2.St) (H : Hp) (d : D) (v : V) (m' : Sl) (Q : L2.St → Hp → Prop), Rel K b F m σ H → Rp K F b.H0 H d v → g d m = .ok m' →
  (∀ σ', Rel K b F m' σ' H → wipe σ' vs = wipe σ vs → Q σ' H) → t v σ H Q
abbrev SemGs := List D → Sl → R Sl
def NGsOk (K : PySem.W.Frag) (t : TGs) (g : SemGs) (vs : List Nat) : Prop := ∀ (b : Bs) (F : Hp) (m : Sl) (σ : L2.St) (H : Hp) (ds : List D) (us : List V) (m' : Sl) (Q : L2.St → Hp → Prop), Rel K b F m σ H → RpL K F b.H0 H ds us → g ds m = .ok m' →
  (∀ σ', Rel K b F m' σ' H → wipe σ' vs = wipe σ vs → Q σ' H) → t us σ H Q
theorem wipe_set {i : Nat} {v : V} : ∀ {vs : List Nat} {σ : L2.St}, i ∈ vs → wipe (σ.set i (some v)) vs = wipe σ vs
  | [], _, h => nomatch h
  | j :: vs, σ, h => by
    show (wipe (σ.set i (some v)) vs).set j none = (wipe σ vs).set j none
    by_cases hj : i ∈ vs
    · rw [wipe_set hj]
    · have e : i = j := (List.mem_cons.mp h).resolve_right hj
      subst e
      have : ∀ (vs : List Nat) (σ : L2.St), i ∉ vs → wipe (σ.set i (some v)) vs = (wipe σ vs).set i (some v) := fun vs => by
        induction vs with
        | nil => intro σ _; rfl
        | cons k r ih =>
          intro σ hn
          have h1 : i ≠ k := fun e => hn (by rw [e]; exact List.mem_cons_self)
          have h2 : i ∉ r := fun e => hn (List.mem_cons_of_mem _ e)
          show (wipe (σ.set i (some v)) r).set k none = ((wipe σ r).set k none).set i (some v)
          rw [ih σ h2, List.set_comm _ _ h1]
      rw [this vs σ hj, List.set_set]
theorem ng_name {K : PySem.W.Frag} {i : Nat} {vs : List Nat} (hi : i ∈ vs) : NGok K (gName i) (putR i) vs := fun b F m σ H d v m' Q R hv e q => by
  unfold putR at e
  split at e
  · cases e
  · rename_i ht
    cases e
    exact q _ (R.put (by simpa using ht) hv) (wipe_set hi)
def gsNil : SemGs := fun ds m => match ds with
  | [] => .ok m
  | _ => .stuck
def gsCons (g : SemG) (h : SemGs) : SemGs := fun ds m => match ds with
  | d :: r => (g d m).bind fun m1 => h r m1
  | [] => .stuck
def gTupR (n : Nat) (g : SemGs) : SemG := fun d m => match d with
  | .tup ds => if ds.length = n then g ds m else .stuck
  | _ => .stuck
theorem ngs_nil {K : PySem.W.Frag} {vs : List Nat} : NGsOk K gNil gsNil vs := fun b F m σ H ds us m' Q R hv e q => by
  cases ds with
  | nil => cases hv; cases e; exact ⟨rfl, q σ R rfl⟩
  | cons _ _ => cases e
theorem ngs_cons {K : PySem.W.Frag} {vs : List Nat} {t : TG} {ts : TGs} {g : SemG} {h : SemGs} (h1 : NGok K t g vs) (h2 : NGsOk K ts h vs) : NGsOk K (gCons t ts) (gsCons g h) vs := fun b F m σ H ds us m' Q R hv e q => by
  cases ds with
  | nil => cases e
  | cons d r =>
    cases hv with
    | cons a c =>
      simp only [gsCons] at e
      cases hg : g d m with
      | stuck => rw [hg] at e; cases e
      | exc c => rw [hg] at e; cases e
      | ok m1 =>
        rw [hg] at e
        simp only [CT.R.bind_ok] at e
        exact ⟨_, _, rfl, h1 b F m σ H d _ m1 _ R a hg fun σ1 R1 w1 => h2 b F m1 σ1 H r _ m' _ R1 c e fun σ2 R2 w2 => q σ2 R2 (w2.trans w1)⟩
theorem ng_tup {K : PySem.W.Frag} {vs : List Nat} {ts : TGs} {h : SemGs} {n : Nat} (h2 : NGsOk K ts h vs) : NGok K (gTup K n ts) (gTupR n h) vs := fun b F m σ H d v m' Q R hv e q => by
  cases d <;> first | (cases e; done) | skip
  rename_i ds
  simp only [gTupR] at e
  split at e
  · rename_i hl
    obtain ⟨a, xs, rfl, k1, k2⟩ := hv.tuple
    exact ⟨a, xs, rfl, k1, by rw [← k2.length]; exact hl, h2 b F m σ H ds xs m' Q R k2 e q⟩
  · cases e
def Ltr (strict : Bool) (F H F' H' : Hp) : Prop := Same F F' ∧ Same F' H' ∧ (∀ c o, H c = some o → NoL o → H' c = some o) ∧ (strict = false → Same H H')
structure Wk (K : PySem.W.Frag) (H0 : Hp) (strict : Bool) (J : It) (F H : Hp) (ds : List D) : Prop where
  go : ∀ i F' H', Ltr strict F H F' H' → i < ds.length → J.go i H'
  yld : ∀ (i : Nat) F' H' x H'', Ltr strict F H F' H' → i < ds.length → J.yld i H' x H'' → ∃ F'' d, Grow F' H' F'' H'' ∧ ds[i]? = some d ∧ Rp K F'' H0 H'' d x
  stop : ∀ F' H', Ltr strict F H F' H' → J.stop ds.length H'
def tSI (K : PySem.W.Frag) (b : Bs) (W : WX) (strict : Bool) (f : SemA) : TI := fun σ H Rw => ∃ F m, Rel K b F m σ H ∧ Pst b W σ F H (fun ds F' H' => ∀ J, Wk K b.H0 strict J F' H' ds → Rw J H') (f m)
abbrev SI (X : Cx) (b : Bs) (W : WX) (strict : Bool) (tg e : Expr) (f : SemA) : Prop := PI X tg e (tSI X.K b W strict f)
theorem PI.weak {X : Cx} {tg e : Expr} {t t' : TI} (h : PI X tg e t) (w : ∀ σ H Rw, t' σ H Rw → t σ H Rw) : PI X tg e t' := ⟨fun pins s σ H Q I q => h.run pins s σ H Q I (w _ _ _ q)⟩
theorem PI.or {X : Cx} {tg e : Expr} {t t' : TI} (h : PI X tg e t) (h' : PI X tg e t') : PI X tg e (fun σ H Rw => t σ H Rw ∨ t' σ H Rw) := ⟨fun pins s σ H Q I q => by
  rcases q with q | q
  · exact h.run pins s σ H Q I q
  · exact h'.run pins s σ H Q I q⟩
def items (strict : Bool) : D → R (List D)
  | .lst t xs => if (strict && t) = true then .stuck else .ok xs
  | .fr xs => .ok xs
  | .tup xs => .ok xs
  | .str z => .ok (z.cps.toList.map fun c => .str ⟨#[c]⟩)
  | _ => .stuck
section
variable {K : PySem.W.Frag} {F H H0 : Hp} {a : Addr} {xs : List V} {ds : List D} {strict : Bool}
theorem Ltr.tup {F' H' : Hp} (l : Ltr strict F H F' H') (h : SqT K H a xs) : SqT K H' a xs := by
  rcases h with (h | ⟨o, h⟩) | h
  · exact .inl (.inl (l.2.2.1 _ _ h trivial))
  · exact .inl (.inr ⟨o, l.2.2.1 _ _ h trivial⟩)
  · exact .inr h
theorem RpL.ltr {F' H' : Hp} (n : hasTL ds = false ∨ strict = false) (l : Ltr strict F H F' H') (r : RpL K F H0 H ds xs) : RpL K F' H0 H' ds xs := by
  rcases n with n | n
  · exact (RpL.keep l.2.2.1 ds xs n r).mono l.1 (Same.refl _)
  · exact r.mono l.1 (l.2.2.2 n)
theorem Wk.of {J : It} (n : hasTL ds = false ∨ strict = false) (r : RpL K F H0 H ds xs) (P : Hp → Prop) (hP : ∀ F' H', Ltr strict F H F' H' → P H') (h1 : ∀ (i : Nat) x H', P H' → xs[i]? = some x → J.go i H')
    (h2 : ∀ (i : Nat) H' x H'', P H' → J.yld i H' x H'' → H'' = H' ∧ ∀ y, xs[i]? = some y → y = x) (h3 : ∀ H', P H' → J.stop xs.length H') : Wk K H0 strict J F H ds where
  go := fun i F' H' l hi => h1 i (xs[i]'(by rw [← r.length]; exact hi)) H' (hP F' H' l) (by simp)
  yld := fun i F' H' x H'' l hi y => by
    obtain ⟨e, q⟩ := h2 i H' x H'' (hP F' H' l) y
    subst e
    obtain ⟨v, k1, k2⟩ := (RpL.ltr n l r).get (i := i) (d := ds[i]) (by simp [hi])
    rw [q v k1] at k2
    exact ⟨F', ds[i], Grow.refl l.2.1, by simp [hi], k2⟩
  stop := fun F' H' l => by rw [r.length]; exact h3 H' (hP F' H' l)
theorem wk_list (n : hasTL ds = false ∨ strict = false) (r : RpL K F H0 H ds xs) (hP : ∀ F' H', Ltr strict F H F' H' → SqL K H' a xs) : Wk K H0 strict (Itl K a) F H ds :=
  Wk.of n r (fun H' => SqL K H' a xs) hP (fun i x H' p e => ⟨xs, x, p, e⟩) (fun i H' x H'' p y => ⟨y.1, fun z e => Option.some.inj (e.symm.trans (y.2 xs p))⟩) (fun H' p => ⟨xs, p, Nat.le_refl _⟩)
theorem wk_tup (n : hasTL ds = false ∨ strict = false) (r : RpL K F H0 H ds xs) (hP : ∀ F' H', Ltr strict F H F' H' → SqT K H' a xs) : Wk K H0 strict (Itt K a) F H ds :=
  Wk.of n r (fun H' => SqT K H' a xs) hP (fun i x H' p e => ⟨xs, x, p, e⟩) (fun i H' x H'' p y => ⟨y.1, fun z e => Option.some.inj (e.symm.trans (y.2 xs p))⟩) (fun H' p => ⟨xs, p, Nat.le_refl _⟩)
theorem Rp.lasts {t : Bool} {v : V} (s : Same F H) (h : Rp K F H0 H (.lst t ds) v) (c : (strict && t) = false) : ∃ a xs, v = .ref a ∧ RpL K F H0 H ds xs ∧ ∀ F' H', Ltr strict F H F' H' → SqL K H' a xs := by
  cases h with
  | lst p q => exact ⟨_, _, rfl, q, fun F' H' l => .inl (.inl (l.2.1 _ _ (l.1 _ _ p)))⟩
  | tmF p q => exact ⟨_, _, rfl, q, fun F' H' l => .inl (.inl (l.2.1 _ _ (l.1 _ _ p)))⟩
  | tmN p q z =>
    rw [Bool.and_true] at c
    exact ⟨_, _, rfl, z, fun F' H' l => .inl (.inl (l.2.2.2 c _ _ q))⟩
end
theorem chars_rp {K : PySem.W.Frag} {F H H0 : Hp} : ∀ cs : List Nat, RpL K F H0 H (cs.map fun c => .str ⟨#[c]⟩) (cs.map fun c => .str ⟨#[c]⟩)
  | [] => .nil
  | c :: cs => .cons (.str _) (chars_rp cs)
theorem chars_noT : ∀ cs : List Nat, hasTL (cs.map fun c => D.str ⟨#[c]⟩) = false
  | [] => rfl
  | c :: cs => by rw [List.map_cons, hasTL, chars_noT cs]; rfl
section
variable {X : Cx} {b : Bs} {W : WX} {strict : Bool} {e tg : Expr} {f : SemE} {h : SemA} {p pos : Pos}
def itemsN (strict : Bool) (x : D) : R (List D) := (items strict x).bind fun ds => if (strict && hasTL ds) = true then .stuck else .ok ds
def aItN (strict : Bool) (f : SemE) : SemA := fun m => (f m).bind (itemsN strict)
theorem noT_of {ds : List D} (h : ¬ (strict && hasTL ds) = true) : hasTL ds = false ∨ strict = false := by
  cases strict <;> simp_all
theorem si_seq (hf : SE X b W e f) : SI X b W strict tg e (aItN strict f) := by
  refine PI.weak (PI.or (pi_list hf) (PI.or (pi_tup hf) (pi_str hf))) fun σ H Rw ⟨F, m, R, p⟩ => ?_
  unfold aItN itemsN at p
  cases hm : f m with
  | stuck => rw [hm] at p; exact p.elim
  | exc c =>
    rw [hm] at p
    exact .inl ⟨F, m, R, by rw [hm]; exact p⟩
  | ok x =>
    rw [hm] at p
    simp only [CT.R.bind_ok] at p
    cases x with
    | non => exact p.elim
    | bl _ => exact p.elim
    | int _ => exact p.elim
    | unk => exact p.elim
    | ex _ => exact p.elim
    | fn _ => exact p.elim
    | dic _ _ => exact p.elim
    | dct _ _ _ => exact p.elim
    | lst t ds =>
      refine .inl ⟨F, m, R, ?_⟩
      rw [hm]
      refine fun F1 H1 G v hv => ?_
      have s := (R.step G).sub
      simp only [items] at p
      split at p
      · exact p.elim
      · rename_i c
        simp only [CT.R.bind_ok] at p
        split at p
        · exact p.elim
        · rename_i c2
          obtain ⟨a, xs, rfl, k1, k2⟩ := hv.lasts (strict := strict) s (by simpa using c)
          exact ⟨a, rfl, ⟨xs, k2 F1 H1 ⟨Same.refl _, s, fun _ _ z _ => z, fun _ => Same.refl _⟩⟩, p F1 H1 G _ (wk_list (noT_of c2) k1 k2)⟩
    | fr ds =>
      refine .inl ⟨F, m, R, ?_⟩
      rw [hm]
      refine fun F1 H1 G v hv => ?_
      have s := (R.step G).sub
      simp only [items, CT.R.bind_ok] at p
      split at p
      · exact p.elim
      · rename_i c2
        cases hv with
        | fr k1 k2 =>
          exact ⟨_, rfl, ⟨_, s.seq k1⟩, p F1 H1 G _ (wk_list (noT_of c2) k2 fun F' H' l => l.2.1.seq (l.1.seq k1))⟩
    | tup ds =>
      refine .inr (.inl ⟨F, m, R, ?_⟩)
      rw [hm]
      refine fun F1 H1 G v hv => ?_
      have s := (R.step G).sub
      simp only [items, CT.R.bind_ok] at p
      split at p
      · exact p.elim
      · rename_i c2
        obtain ⟨a, xs, rfl, k1, k2⟩ := hv.tuple
        exact ⟨a, rfl, ⟨xs, k1⟩, p F1 H1 G _ (wk_tup (noT_of c2) k2 fun F' H' l => l.tup k1)⟩
    | str z =>
      refine .inr (.inr ⟨F, m, R, ?_⟩)
      rw [hm]
      refine fun F1 H1 G v hv => ?_
      cases hv
      simp only [items, CT.R.bind_ok, chars_noT, Bool.and_false, Bool.false_eq_true, if_false] at p
      refine ⟨z, rfl, p F1 H1 G _ ?_⟩
      refine Wk.of (xs := z.cps.toList.map fun c => .str ⟨#[c]⟩) (.inl (chars_noT _)) (chars_rp _) (fun _ => True) (fun _ _ _ => trivial) (fun i x H' _ e => ?_) (fun i H' x H'' _ y => ?_) (fun H' _ => ?_)
      · obtain ⟨h1, _⟩ := List.getElem?_eq_some_iff.mp e
        show i < z.cps.size
        simpa using h1
      · obtain ⟨e1, c, hc, rfl⟩ := y
        refine ⟨e1, fun y hy => ?_⟩
        rw [List.getElem?_map] at hy
        rw [← Array.getElem?_toList] at hc
        rw [hc] at hy
        exact (Option.some.inj hy).symm
      · show z.cps.size ≤ _
        simp
def rng (lo : Int) (n : Nat) : List D := (List.range n).map fun i => D.int (lo + (i : Nat))
def rng1 : List D → R (List D)
  | [.int j] => if -(2 ^ 62) ≤ j ∧ j < 2 ^ 62 then .ok (rng 0 j.toNat) else .stuck
  | _ => .stuck
theorem rng_length (lo : Int) (n : Nat) : (rng lo n).length = n := by simp [rng]
theorem rng_get (lo : Int) (n i : Nat) (h : i < n) : (rng lo n)[i]? = some (.int (lo + (i : Nat))) := by simp [rng, h]
theorem wk_rng {K : PySem.W.Frag} {F H H0 : Hp} {lo : Int} {n : Nat} : Wk K H0 strict (Itr lo n) F H (rng lo n) where
  go := fun i F' H' l hi => by rw [rng_length] at hi; exact hi
  yld := fun i F' H' x H'' l hi y => by
    rw [rng_length] at hi
    obtain ⟨e, rfl⟩ := y
    subst e
    exact ⟨F', _, Grow.refl l.2.1, rng_get lo n i hi, .int _⟩
  stop := fun F' H' l => by rw [rng_length]; exact Nat.le_refl _
theorem si_rng1 {a : Expr} (hg : Gl X "range") (hm : X.mg "range" = none) (ha : SA X b W [a] h) (hs : starEach [a] X.env = [(false, eval a X.env)] := by rfl) : SI X b W strict tg (.Call (.Name "range" p) [a] [] pos) (aThen h rng1) := by
  refine PI.weak (pi_range1 hg hm ha hs) fun σ H Rw ⟨F, m, R, p⟩ => ?_
  refine seqA R p fun xs F1 H1 vs R1 G1 hv p1 => ?_
  unfold rng1 at p1
  split at p1
  · obtain ⟨v, rfl, h⟩ := hv.one
    cases h
    split at p1
    · rename_i c
      exact ⟨_, rfl, c.1, c.2, p1.here R1.sub _ wk_rng⟩
    · exact p1.elim
  · exact p1.elim
end
def forGo (g : SemG) (body : SemS) : List D → Sl → RS
  | [], m => .nx m
  | d :: ds, m => match g d m with
    | .ok m1 => match body m1 with
      | .nx m2 => forGo g body ds m2
      | .ct m2 => forGo g body ds m2
      | .bk m2 => .nx m2
      | .rt d => .rt d
      | .exc c m2 => .exc c m2
      | .stuck => .stuck
    | _ => .stuck
def sFor (h : SemA) (g : SemG) (body : SemS) : SemS := fun m => ofR m (h m) fun ds => forGo g body ds m
section
variable {X : Cx} {b : Bs} {W : WX} {e tg : Expr} {body : List Stmt} {h : SemA} {g : SemG} {k : SemS} {t : TG} {vs : List Nat} {pos : Pos} {tst : SemT}
theorem ss_for (hp : PassesOwn (model X.prog X.w) X.A X.env X.xe) (hc : X.calm = true) (hi : SI X b W true tg e h) (hg : PG X tg t) (hn : NGok X.K t g vs) (hb : SSs X b W body k) (hs : ∀ x, foldedSetIterable e X.env x = pure x := by intro _; rfl) :
    SS X b W (.For tg e body [] pos) (sFor h g k) := by
  refine PS.weak (ps_for hp hc hi hg hb hs) fun D' σ H ⟨F, m, R, p⟩ => ?_
  refine ⟨F, m, R, ?_⟩
  unfold sFor at p
  cases hh : h m with
  | stuck => rw [hh] at p; exact p.elim
  | exc c => rw [hh] at p; exact fun F1 H1 G => p σ F1 H1 (R.step G) G.prog
  | ok ds =>
    rw [hh] at p
    simp only [ofR_ok] at p
    refine fun F1 H1 G J wk => ?_
    refine ⟨fun i n σ' H' => n = ds.length - i ∧ i ≤ ds.length ∧ ∃ F' m', Rel X.K b F' m' σ' H' ∧ Prog F1 H1 F' H' ∧ Sst X.K b W F' H' D' (forGo g k (ds.drop i) m'), ⟨_, rfl, Nat.zero_le _, F1, m, R.step G, Prog.refl _ _, by rw [List.drop_zero]; exact Sst.prog G.prog p⟩, ?_⟩
    rintro i n σ' H' ⟨rfl, hi, F', m', R', P', p'⟩
    have l : Ltr true F1 H1 F' H' := ⟨P'.sub, R'.sub, P'.tups, fun z => by cases z⟩
    by_cases hlt : i < ds.length
    · refine .inr ⟨wk.go i F' H' l hlt, fun σ2 H2 => (ds.length - (i + 1) = ds.length - (i + 1) ∧ i + 1 ≤ ds.length ∧ ∃ F2 m2, Rel X.K b F2 m2 σ2 H2 ∧ Prog F1 H1 F2 H2 ∧ Sst X.K b W F2 H2 D' (forGo g k (ds.drop (i + 1)) m2)), fun σ2 H2 z => ⟨_, by omega, z⟩, fun x H2 y => ?_⟩
      obtain ⟨F2, d, G2, e2, r2⟩ := wk.yld i F' H' x H2 l hlt y
      have hd : ds.drop i = d :: ds.drop (i + 1) := by
        obtain ⟨h1, h2⟩ := List.getElem?_eq_some_iff.mp e2
        rw [← h2]
        exact List.drop_eq_getElem_cons h1
      rw [hd] at p'
      simp only [forGo] at p'
      cases hgd : g d m' with
      | stuck => rw [hgd] at p'; exact p'.elim
      | exc c => rw [hgd] at p'; exact p'.elim
      | ok m1 =>
        rw [hgd] at p'
        simp only at p'
        have R2 := R'.step G2
        refine hn b F2 m' σ' H2 d x m1 _ R2 r2 hgd fun σ3 R3 _ => ⟨F2, m1, R3, ?_⟩
        have P2 : Prog F1 H1 F2 H2 := P'.trans G2.prog
        have p2 := Sst.prog G2.prog p'
        cases hk : k m1 with
        | nx m2 => rw [hk] at p2; exact fun σ4 F4 H4 R4 q => ⟨rfl, hlt, F4, m2, R4, P2.trans q, Sst.prog q p2⟩
        | ct m2 => rw [hk] at p2; exact fun σ4 F4 H4 R4 q => ⟨rfl, hlt, F4, m2, R4, P2.trans q, Sst.prog q p2⟩
        | bk m2 => rw [hk] at p2; exact p2
        | rt d => rw [hk] at p2; exact p2
        | exc c m2 => rw [hk] at p2; exact p2
        | stuck => rw [hk] at p2; exact p2.elim
    · have e : i = ds.length := by omega
      subst e
      rw [List.drop_length] at p'
      exact .inl ⟨wk.stop F' H' l, p' σ' F' H' R' (Prog.refl _ _)⟩
end
end CT

namespace CT
open PySem PySem.Spec PyProof.Rows L2
def nox {α : Type} : R α → R α
  | .ok a => .ok a
  | _ => .stuck
def lcGo (g : SemG) (t : SemT) (f : SemE) (m : Sl) : List D → R (List D)
  | [] => .ok []
  | d :: ds => (nox (g d m)).bind fun m1 => (nox (t m1)).bind fun c => if c = true then
      (nox (f m1)).bind fun x => if hasT x = true then .stuck else (lcGo g t f m ds).bind fun r => .ok (x :: r)
    else lcGo g t f m ds
def wipeM : Sl → List Nat → Sl
  | m, [] => m
  | m, v :: vs => (wipeM m vs).set v none
def aLc (h : SemA) (g : SemG) (t : SemT) (f : SemE) (vs : List Nat) : SemA := fun m => (h m).bind fun ds => (lcGo g t f (wipeM m vs) ds).bind fun r => if r.length ≤ sizeLine then .ok r else .stuck
def tYesM : SemT := fun _ => .ok true
abbrev WF : WX := fun _ _ _ _ => False
abbrev STs (X : Cx) (b : Bs) (W : WX) (es : List Expr) (f : SemT) : Prop := PTs X es (tST X.K b W f)
theorem PTs.weak {X : Cx} {e : List Expr} {t t' : TT} (h : PTs X e t) (w : ∀ σ H Q, t' σ H Q → t σ H Q) : PTs X e t' := ⟨fun pins s σ H Q I q => h.run pins s σ H Q I (w _ _ _ q)⟩
theorem sts_nil {X : Cx} {b : Bs} {W : WX} : STs X b W [] tYesM := PTs.weak pts_nil fun σ H Q ⟨F, m, R, p⟩ => p.here R.sub
theorem nox_noexc {α : Type} (r : R α) (c : String) : nox r ≠ .exc c := by cases r <;> intro h <;> cases h
theorem bind_noexc {α β : Type} {r : R α} {k : α → R β} {c : String} (h : ∀ c, r ≠ .exc c) (hk : ∀ a, k a ≠ .exc c) : r.bind k ≠ .exc c := by
  cases r with
  | ok a => exact hk a
  | exc d => exact absurd rfl (h d)
  | stuck => intro z; cases z
theorem lcGo_noexc {g : SemG} {t : SemT} {f : SemE} {m : Sl} : ∀ (ds : List D) (c : String), lcGo g t f m ds ≠ .exc c
  | [], _ => fun h => by cases h
  | d :: ds, c => by
    unfold lcGo
    refine bind_noexc (nox_noexc _) fun m1 => bind_noexc (nox_noexc _) fun q => ?_
    split
    · refine bind_noexc (nox_noexc _) fun x => ?_
      split
      · intro z; cases z
      · exact bind_noexc (lcGo_noexc ds) fun r => fun z => by cases z
    · exact lcGo_noexc ds c
theorem wipe_none {i : Nat} : ∀ {vs : List Nat} {σ : L2.St}, wipe (σ.set i none) vs = (wipe σ vs).set i none
  | [], _ => rfl
  | v :: vs, σ => by
    show (wipe (σ.set i none) vs).set v none = ((wipe σ vs).set v none).set i none
    rw [wipe_none]
    by_cases h : i = v
    · subst h; rfl
    · rw [List.set_comm _ _ h]
theorem wipe_wipe : ∀ (vs : List Nat) (σ : L2.St), wipe (wipe σ vs) vs = wipe σ vs
  | [], _ => rfl
  | v :: vs, σ => by
    show (wipe ((wipe σ vs).set v none) vs).set v none = (wipe σ vs).set v none
    rw [wipe_none, wipe_wipe vs σ, List.set_set]
section
variable {K : PySem.W.Frag} {b : Bs} {F H : Hp} {m : Sl} {σ : L2.St}
theorem Rel.wipe (r : Rel K b F m σ H) : ∀ vs : List Nat, Rel K b F (wipeM m vs) (wipe σ vs) H
  | [] => r
  | v :: vs => (Rel.wipe r vs).drop
theorem lc_ok {wi : TI} {t : TG} {tt : TT} {te : TE} {g : SemG} {tq : SemT} {f : SemE} {h : SemA} {vs : List Nat} {W : WX} {Q : VK} {k : List D → Prop}
    (hn : NGok K t g vs) (hi : ∀ σ H Rw, tSI K b W false h σ H Rw → wi σ H Rw) (ht : ∀ σ H Q, tST K b WF tq σ H Q → tt σ H Q) (he : ∀ σ H Q, tSE K b WF f σ H Q → te σ H Q)
    (r : Rel K b F m σ H) (p : Pst b W σ F H (CO K b H Q) (aLc h g tq f vs m)) : tLc wi t tt te vs σ H Q := by
  refine hi _ _ _ ⟨F, m, r, ?_⟩
  unfold aLc at p
  cases hh : h m with
  | stuck => rw [hh] at p; exact p.elim
  | exc c => rw [hh] at p; exact p
  | ok ds =>
    rw [hh] at p
    simp only [CT.R.bind_ok] at p
    refine fun F1 H1 G J wk D hD => ?_
    cases hl : lcGo g tq f (wipeM m vs) ds with
    | stuck => rw [hl] at p; exact p.elim
    | exc c => exact absurd hl (lcGo_noexc ds c)
    | ok res =>
      rw [hl] at p
      simp only [CT.R.bind_ok] at p
      split at p
      rotate_left
      · exact p.elim
      rename_i hsz
      have r1 := r.step G
      have r1w := r1.wipe vs
      have d0 : b.H0 D = none := r1.grow.same.free hD
      have f1 : F1 D = none := r1.sub.free hD
      refine ⟨fun i n H' => n = ds.length - i ∧ i ≤ ds.length ∧ ∃ F' acc vacc rest, Grow F1 H1 F' H' ∧ F' D = none ∧ H' D = some (.lst vacc) ∧ RpL K F' b.H0 H' acc vacc ∧ hasTL acc = false ∧ lcGo g tq f (wipeM m vs) (ds.drop i) = .ok rest ∧ acc ++ rest = res,
        ⟨_, rfl, Nat.zero_le _, F1, [], [], res, Grow.loose r1.sub hD, f1, upd_same, .nil, rfl, by rw [List.drop_zero]; exact hl, rfl⟩, ?_⟩
      rintro i n H' ⟨rfl, hi', F', acc, vacc, rest, G', e1, e2, e3, e4, e5, e6⟩
      have l : Ltr false F1 H1 F' H' := ⟨G'.sub, G'.subH, fun c o z _ => G'.same c o z, fun _ => G'.same⟩
      by_cases hlt : i < ds.length
      · refine .inr ⟨wk.go i F' H' l hlt, fun H2 => (i + 1 ≤ ds.length ∧ ∃ F' acc vacc rest, Grow F1 H1 F' H2 ∧ F' D = none ∧ H2 D = some (.lst vacc) ∧ RpL K F' b.H0 H2 acc vacc ∧ hasTL acc = false ∧ lcGo g tq f (wipeM m vs) (ds.drop (i + 1)) = .ok rest ∧ acc ++ rest = res),
          fun H2 z => ⟨ds.length - (i + 1), by omega, rfl, z⟩, fun x H2 y => ?_⟩
        obtain ⟨F2, d, G2, k2, r2⟩ := wk.yld i F' H' x H2 l hlt y
        have hd : ds.drop i = d :: ds.drop (i + 1) := by
          obtain ⟨h1, h2⟩ := List.getElem?_eq_some_iff.mp k2
          rw [← h2]
          exact List.drop_eq_getElem_cons h1
        rw [hd] at e5
        simp only [lcGo] at e5
        cases h1 : nox (g d (wipeM m vs)) with
        | stuck => rw [h1] at e5; cases e5
        | exc c' => cases hg : g d (wipeM m vs) <;> rw [hg] at h1 <;> cases h1
        | ok m1 =>
          rw [h1] at e5
          simp only [CT.R.bind_ok] at e5
          have hg : g d (wipeM m vs) = .ok m1 := by cases hg : g d (wipeM m vs) <;> rw [hg] at h1 <;> first | exact h1 | cases h1
          have G12 := G'.trans G2
          have R2 := r1w.step G12
          refine hn b F2 _ _ H2 d x m1 _ R2 r2 hg fun σ3 R3 w3 => ⟨w3.trans (wipe_wipe vs σ), ?_⟩
          refine ht _ _ _ ⟨F2, m1, R3, ?_⟩
          cases h2 : nox (tq m1) with
          | stuck => rw [h2] at e5; cases e5
          | exc c' => cases hg : tq m1 <;> rw [hg] at h2 <;> cases h2
          | ok c' =>
            have ht' : tq m1 = .ok c' := by cases hg : tq m1 <;> rw [hg] at h2 <;> first | exact h2 | cases h2
            rw [ht']
            rw [h2] at e5
            simp only [CT.R.bind_ok] at e5
            refine fun F3 H3 G3 => ?_
            have G13 := G12.trans G3
            have fD3 : F3 D = none := by
              cases q : F3 D with
              | none => rfl
              | some o =>
                rcases G2.trans G3 |>.new D o q with z | z
                · rw [e1] at z; cases z
                · rw [e2] at z; cases z
            have hD3 : H3 D = some (.lst vacc) := (G2.trans G3).same _ _ e2
            cases c' with
            | false =>
              simp only [Bool.false_eq_true, if_false] at e5 ⊢
              exact ⟨hlt, F3, acc, vacc, rest, G13, fD3, hD3, (e3.grow G2).grow G3, e4, e5, e6⟩
            | true =>
              simp only [if_true] at e5 ⊢
              refine he _ _ _ ⟨F3, m1, R3.step G3, ?_⟩
              cases h3 : nox (f m1) with
              | stuck => rw [h3] at e5; cases e5
              | exc c' => cases hg : f m1 <;> rw [hg] at h3 <;> cases h3
              | ok z =>
                have hf' : f m1 = .ok z := by cases hg : f m1 <;> rw [hg] at h3 <;> first | exact h3 | cases h3
                rw [hf']
                rw [h3] at e5
                simp only [CT.R.bind_ok] at e5
                split at e5
                · cases e5
                rename_i hz
                have hz : hasT z = false := by simpa using hz
                refine fun F4 H4 G4 v4 r4 => ?_
                have G14 := G13.trans G4
                have hD4 : H4 D = some (.lst vacc) := G4.same _ _ hD3
                have fD4 : F4 D = none := by
                  cases q : F4 D with
                  | none => rfl
                  | some o =>
                    rcases G4.new D o q with z | z
                    · rw [fD3] at z; cases z
                    · rw [hD3] at z; cases z
                cases h4 : lcGo g tq f (wipeM m vs) (ds.drop (i + 1)) with
                | stuck => rw [h4] at e5; cases e5
                | exc c' => rw [h4] at e5; cases e5
                | ok rest' =>
                  rw [h4] at e5
                  simp only [CT.R.bind_ok] at e5
                  cases e5
                  have keep : ∀ c o, H4 c = some o → NoL o → (upd H4 D (.lst (vacc ++ [v4]))) c = some o := fun c o hc ho => by
                    rw [upd_ne (fun q => by subst q; rw [hD4] at hc; cases hc; exact False.elim ho)]; exact hc
                  have hlen := e3.length
                  have hres : acc.length < sizeLine := by
                    rw [← e6, List.length_append, List.length_cons] at hsz
                    omega
                  refine ⟨vacc, hD4, by rw [← hlen]; exact hres, hlt, F4, acc ++ [z], vacc ++ [v4], rest', ⟨fun c o hc => ?_, G14.sub, fun c o hc => ?_, G14.new⟩, fD4, upd_same, ?_, ?_, rfl, ?_⟩
                  · rw [upd_ne (fun q => by subst q; rw [hD] at hc; cases hc)]; exact G14.same _ _ hc
                  · rw [upd_ne (fun q => by subst q; rw [fD4] at hc; cases hc)]; exact G14.subH _ _ hc
                  · exact (RpL.keep keep acc vacc e4 (((e3.grow G2).grow G3).grow G4)).app (.cons (Rp.keep keep z v4 hz r4) .nil)
                  · rw [hasTL_append, e4, hasTL, hz]; rfl
                  · rw [← e6, List.append_assoc]; rfl
      · have e : i = ds.length := by omega
        subst e
        rw [List.drop_length] at e5
        cases e5
        rw [List.append_nil] at e6
        subst e6
        exact .inl ⟨wk.stop F' H' l, p F' H' (G.trans G') D vacc (G.same.free hD) e1 e2 e3⟩
end
section
variable {X : Cx} {b : Bs} {W : WX} {elt tg iter : Expr} {ifs : List Expr} {scope : Scope} {own : List (Str × Nat)} {pos spos : Pos} {t : TG} {g : SemG} {tq : SemT} {f : SemE} {h : SemA} {vs : List Nat}
theorem so_lc (hc : X.calm = true) (hN : X.N.Nodup) (hi : SI X b W false tg iter h) (ok : BlkOk X.N X.env.scope scope own) (hn : NGok X.K t g vs)
    (hg : ∀ (s : Shared) (H : Hp) (C : Addr) (cl : List (Str × Addr)) (fp : List Addr), PG (X.blk s H scope (compEnvC scope cl C X.env) fp) tg t) (ht : ∀ (s : Shared) (H : Hp) (C : Addr) (cl : List (Str × Addr)) (fp : List Addr), STs (X.blk s H scope (compEnvC scope cl C X.env) fp) b WF ifs tq)
    (he : ∀ (s : Shared) (H : Hp) (C : Addr) (cl : List (Str × Addr)) (fp : List Addr), SE (X.blk s H scope (compEnvC scope cl C X.env) fp) b WF elt f) (hs : ∀ x, foldedSetIterable iter X.env x = pure x := by intro _; rfl) (hv : own.map (·.2) = vs := by rfl) :
    SO X b W (.ListComp elt [⟨tg, iter, ifs, 0⟩] scope pos) (aLc h g tq f vs) :=
  by subst hv; exact PE.weak (pe_lc hc hN hi ok hg ht he hs) fun σ H Q ⟨F, m, R, p⟩ => lc_ok hn (fun _ _ _ z => z) (fun _ _ _ z => z) (fun _ _ _ z => z) (k := fun _ => True) R p
variable {i : Nat} {y : Str} {py : Pos}
end
end CT

namespace CT
open PySem PySem.Spec PyProof.Rows L2
def mine (i : Nat) (m : Sl) (k : List D → RS) : RS := match m[i]? with
  | some (some (.lst true xs)) => k xs
  | _ => .stuck
def sApp (i : Nat) (f : SemE) : SemS := fun m => mine i m fun xs => ofR m (f m) fun d => if hasT d = true then .stuck else if xs.length < sizeLine then .nx (m.set i (some (.lst true (xs ++ [d])))) else .stuck
theorem mine_sst {K : PySem.W.Frag} {b : Bs} {W : WX} {F H : Hp} {D' : Ends} {i : Nat} {m : Sl} {σ : L2.St} {k : List D → RS} (R : Rel K b F m σ H) (p : Sst K b W F H D' (mine i m k)) :
    ∃ xs a vs, m[i]? = some (some (.lst true xs)) ∧ σ[i]? = some (some (.ref a)) ∧ H a = some (.lst vs) ∧ RpL K F b.H0 H xs vs ∧ Sst K b W F H D' (k xs) := by
  unfold mine at p
  split at p
  · rename_i xs h
    obtain ⟨a, vs, as, h1, k1, _, _, k4, _⟩ := R.mineW h
    exact ⟨xs, a, vs, h, h1, k1, OwL.rp _ _ _ k4, p⟩
  · exact p.elim
theorem chg_prog {F H : Hp} {a : Addr} {xs ys : List V} (h : H a = some (.lst xs)) : Prog F H F (upd H a (.lst ys)) :=
  ⟨Same.refl _, fun c o hc ho => by rw [upd_ne (fun z => by subst z; rw [h] at hc; cases hc; exact False.elim ho)]; exact hc⟩
section
variable {X : Cx} {b : Bs} {W : WX} {e : Expr} {f : SemE} {i : Nat} {x : Str} {px apos cpos pos : Pos} {o : Expr}
theorem ss_app (ho : PE X o (tVar i)) (hf : SE X b W e f)
    (hbase : attributeBase o "append" X.env (eval o X.env) = eval o X.env := by rfl)
    (hfew : ((backTo cpos (starEach [e] X.env)).all (fun x => !x.1) && (backToKw cpos (keywordEach [] X.env)).all (fun x => x.1.isSome)
      && decide ([e].length + ([] : List Keyword).length + (if ([] : List Keyword).isEmpty then 0 else 1) < 30)) = true := by rfl)
    (hline : (apos.endLine == cpos.line) = true := by rfl) (hs : starEach [e] X.env = (false, eval e X.env) :: starEach [] X.env := by rfl) (hplain : (backTo cpos (starEach [] X.env)).any (·.1) = false := by rfl)
    (hsw : swapsWith (.Call (.Attribute o "append" apos) [e] [] cpos) none pos.line X.env = pure false := by rfl) : SS X b W (.Expr (.Call (.Attribute o "append" apos) [e] [] cpos) pos) (sApp i f) := by
  refine PS.weak (ps_expr (pe_bm PySem.F.plainAttrs_list PySem.F.slot_list_append PySem.F.type_list_append mt_append ho (pa_cons hf pa_nil hs) hbase hfew hline hs hplain) hsw) fun D' σ H ⟨F, m, R, p⟩ => ?_
  obtain ⟨xs, a, vs, h1, h2, h3, h4, p⟩ := mine_sst R p
  refine ⟨.ref a, h2, .inl ⟨rfl, vs, .inl (.inl h3)⟩, seqS R p fun d F1 H1 v R1 G hv q => ?_⟩
  split at q
  · exact q.elim
  rename_i hd
  split at q
  · rename_i hz
    have h3 := G.same _ _ h3
    have h4 := h4.grow G
    refine ⟨a, vs, v, rfl, rfl, h3, by rw [← h4.length]; exact hz, q σ F1 _ (R1.chgApp h1 h2 h3 (.cons hv .nil) ?_) (chg_prog h3)⟩
    simp only [Bool.not_eq_true] at hd
    rw [hasTL, hd]; rfl
  · exact q.elim
def TGok (X : Cx) (b : Bs) (t : TG) (g : SemG) : Prop := ∀ (F : Hp) (m : Sl) (σ : L2.St) (H : Hp) (d : D) (v : V) (m' : Sl) (Q : L2.St → Hp → Prop), Rel X.K b F m σ H → hasT d = false → Rp X.K F b.H0 H d v → g d m = .ok m' →
  (∀ σ' F' H', Rel X.K b F' m' σ' H' → Prog F H F' H' → Q σ' H') → t v σ H Q
def TGsOk (X : Cx) (b : Bs) (t : TGs) (g : SemGs) : Prop := ∀ (F : Hp) (m : Sl) (σ : L2.St) (H : Hp) (ds : List D) (us : List V) (m' : Sl) (Q : L2.St → Hp → Prop), Rel X.K b F m σ H → hasTL ds = false → RpL X.K F b.H0 H ds us → g ds m = .ok m' →
  (∀ σ' F' H', Rel X.K b F' m' σ' H' → Prog F H F' H' → Q σ' H') → t us σ H Q
theorem tg_name : TGok X b (gName i) (putR i) := fun F m σ H d v m' Q R n hv e q => by
  unfold putR at e
  split at e
  · cases e
  · cases e
    exact q _ F H (R.put n hv) (Prog.refl _ _)
theorem tgs_nil : TGsOk X b gNil gsNil := fun F m σ H ds us m' Q R n hv e q => by
  cases ds with
  | nil => cases hv; cases e; exact ⟨rfl, q σ F H R (Prog.refl _ _)⟩
  | cons _ _ => cases e
theorem tgs_cons {t : TG} {ts : TGs} {g : SemG} {h : SemGs} (h1 : TGok X b t g) (h2 : TGsOk X b ts h) : TGsOk X b (gCons t ts) (gsCons g h) := fun F m σ H ds us m' Q R n hv e q => by
  cases ds with
  | nil => cases e
  | cons d r =>
    simp only [hasTL, Bool.or_eq_false_iff] at n
    cases hv with
    | cons a c =>
      simp only [gsCons] at e
      cases hg : g d m with
      | stuck => rw [hg] at e; cases e
      | exc c => rw [hg] at e; cases e
      | ok m1 =>
        rw [hg] at e
        simp only [CT.R.bind_ok] at e
        exact ⟨_, _, rfl, h1 F m σ H d _ m1 _ R n.1 a hg fun σ1 F1 H1 R1 P1 => h2 F1 m1 σ1 H1 r _ m' _ R1 n.2 ((RpL.keep P1.tups r _ n.2 c).mono P1.sub (Same.refl _)) e fun σ2 F2 H2 R2 P2 => q σ2 F2 H2 R2 (P1.trans P2)⟩
theorem tg_tup {ts : TGs} {h : SemGs} {n : Nat} (h2 : TGsOk X b ts h) : TGok X b (gTup X.K n ts) (gTupR n h) := fun F m σ H d v m' Q R nt hv e q => by
  cases d <;> first | (cases e; done) | skip
  rename_i ds
  simp only [gTupR] at e
  split at e
  · rename_i hl
    obtain ⟨a, xs, rfl, k1, k2⟩ := hv.tuple
    exact ⟨a, xs, rfl, k1, by rw [← k2.length]; exact hl, h2 F m σ H ds xs m' Q R nt k2 e q⟩
  · cases e
def sAsg (f : SemE) (g : SemG) : SemS := fun m => ofR m (f m) fun d => if hasT d = true then .stuck else match g d m with
  | .ok m' => .nx m'
  | _ => .stuck
theorem ss_asg {tg : Expr} {t : TG} {g : SemG} (hf : SE X b W e f) (hg : PG X tg t) (hn : TGok X b t g) (hs : swapsWithSole [tg] e pos.line X.env = pure false := by rfl) (hw : swappedStores [tg] e X.env = pure none := by rfl)
    (h1 : (assignEach [tg] X.env).map (·.2) = [assign tg X.env] := by rfl) : SS X b W (.Assign [tg] e pos) (sAsg f g) :=
  PS.weak (ps_asg hf hg hs hw h1) fun D' σ H ⟨F, m, R, p⟩ => seqS R p fun d F1 H1 v R1 G hv q => by
    split at q
    · exact q.elim
    · rename_i hd
      split at q
      · rename_i m' hg
        exact hn F1 m σ H1 d v m' _ R1 (by simpa using hd) hv hg fun σ' F' H' R' P' => q σ' F' H' R' P'
      · exact q.elim
end
def bodyF (n : Nat) (g : SemS) : List D → R D := fun ds => if ds.length = n then (match g (ds.map some) with
  | .nx _ => .ok .non
  | .rt d => .ok d
  | .exc c _ => .exc c
  | _ => .stuck) else .stuck
def startM (n : Nat) (g : SemS) : SemS := fun m => g (m ++ List.replicate (n - m.length) none)
def defF (n k : Nat) (g : SemS) : List D → R D := bodyF n (startM k g)
section
variable {P : Program} {w : World} {K : PySem.W.Frag} {mg : Str → Option Value} {base : Heap}
theorem def_fn {x : Str} {st : Stmt} {f : Addr} {fd : FuncData} {N ps : List Str} {k : Nat} {ex : String → Value} {g : SemS} (F : Fun K x x st f fd) (S : FnScope N ps (defScope st))
    (hbody : ∀ (cdv : Value) (A : Around) (outer : List Env) (s : Shared) (H : Hp) (E : XK) (F0 : Hp), Room k (A.deeper (envOfC x (defScope st) s.heap.objs.size f cdv)) → (A.deeper (envOfC x (defScope st) s.heap.objs.size f cdv)).guards = some [] →
      SSs (cxOf (L2.CX P w) P w K mg base N x (defScope st) f cdv A outer s H E) ⟨ex, F0, H⟩ (fun c d _ H' => E c d H') (defBody st) g) :
    FnG P w K mg base (k + 1) f fd ps (spF K ex ps.length (defF ps.length N.length g)) := by
  refine Fun.okG F S (fun vs H Q E h => ?_) (fun cdv A outer s H vs Q E hr hgd h => ?_)
  · obtain ⟨F0, ds, _, r, _, hl, _⟩ := h
    rw [← r.length, hl]
  · obtain ⟨F0, ds, s0, r, ht, hn, q⟩ := h
    refine ⟨_, hbody cdv A outer s H E F0 hr hgd, ?_⟩
    have hlv := r.length
    refine ⟨F0, ds.map some ++ List.replicate (N.length - (ds.map some).length) none, ⟨?_, Grow.refl s0, fun i d e => ?_, fun i j x y v w a e1 e2 e3 e4 o1 o2 => ?_⟩, ?_⟩
    · unfold L2.start
      simp [hlv]
    · have e' : ds[i]? = some d := by
        by_cases hi : i < ds.length
        · rw [List.getElem?_append_left (by simpa using hi)] at e
          simpa using e
        · rw [List.getElem?_append_right (by simpa using hi)] at e
          rw [List.getElem?_replicate] at e
          split at e <;> cases e
      obtain ⟨v, h1, h2⟩ := r.get e'
      refine ⟨v, ?_, .inr (.inl ⟨hasTL_get ht e', h2⟩)⟩
      unfold L2.start
      obtain ⟨h3, _⟩ := List.getElem?_eq_some_iff.mp h1
      rw [List.getElem?_append_left (by simpa using h3), List.getElem?_map, h1]
      rfl
    · exfalso
      have e' : ds[i]? = some x := by
        by_cases hi : i < ds.length
        · rw [List.getElem?_append_left (by simpa using hi)] at e1
          simpa using e1
        · rw [List.getElem?_append_right (by simpa using hi)] at e1
          rw [List.getElem?_replicate] at e1
          split at e1 <;> cases e1
      exact o1.of (hasTL_get ht e')
    · have hn' : (ds.map some).length = ds.length := by simp
      unfold defF bodyF startM at q
      rw [if_pos hn] at q
      cases hg : g (ds.map some ++ List.replicate (N.length - (ds.map some).length) none) with
      | nx m => 
        rw [hg] at q
        exact fun σ' F' H' R' _ => q F' H' .non R'.grow (.inr (.inl ⟨rfl, .non⟩))
      | rt d =>
        rw [hg] at q
        exact fun F' H' v G so => q F' H' v G so
      | exc c m =>
        rw [hg] at q
        exact fun σ' F' H' R' _ => q F' H' R'.grow
      | bk m => rw [hg] at q; exact q.elim
      | ct m => rw [hg] at q; exact q.elim
      | stuck => rw [hg] at q; exact q.elim
end
end CT
namespace CT
open PySem PySem.Spec PyProof.Rows L2
def exOf (mg : Str → Option Value) : String → Value := fun c => (mg (Str.ofString c)).getD .none
def spLaw (K : PySem.W.Frag) : Sp := fun vs H Q _ => ∃ (a : Addr) (ns : List Int), vs = [.ref a] ∧ SqL K H a (ns.map V.int) ∧ ns.length ≤ 63 ∧ ∀ H', Q (.bl true) H'
theorem ints_rp {K : PySem.W.Frag} {F H0 H : Hp} : ∀ ns : List Int, RpL K F H0 H (ns.map D.int) (ns.map V.int)
  | [] => .nil
  | n :: ns => .cons (.int n) (ints_rp ns)
theorem ints_noT : ∀ ns : List Int, hasTL (ns.map D.int) = false
  | [] => rfl
  | n :: ns => by rw [List.map_cons, hasTL, ints_noT ns]; rfl
theorem law_sp {K : PySem.W.Frag} {ex : String → Value} {f : List D → R D} (h : ∀ ns : List Int, ns.length ≤ 63 → f [.fr (ns.map D.int)] = .ok (.bl true)) (vs : List V) (H : Hp) (Q : VK) (E : XK) (q : spLaw K vs H Q E) : spF K ex 1 f vs H Q E := by
  obtain ⟨a, ns, rfl, hS, hl, q⟩ := q
  refine ⟨H, [.fr (ns.map D.int)], Same.refl _, .cons (.fr hS (ints_rp ns)) .nil, by simp [hasTL, hasT, ints_noT], rfl, ?_⟩
  rw [h ns hl]
  intro F' H' v _ so
  cases so.rp
  exact q H'
theorem cx_no {P : Program} {w : World} {H : Hp} {s : Shared} {e : Value} {s' : Shared} (h : L2.CX P w [] H s (fun _ _ _ => False) e s') : False := by
  obtain ⟨_, _, _, _, _, _, _, _, _, _, _, _, z⟩ := h
  exact z
end CT

namespace CT
open PySem PySem.Spec PyProof.Rows L2
end CT

namespace CT
open PySem PySem.Spec PyProof.Rows L2
def ExcOk (K : PySem.W.Frag) (mg : Str → Option Value) (x : Str) : Prop := ∃ C, mg x = some (.ref C) ∧ PySem.W.excIn K C [.type "ValueError", .type "Exception", .type "BaseException", .type "object"] "ValueError.__new__" = true ∧
  PySem.W.keepIn K (.ref C) = true ∧ PySem.W.subIn K (.ref C) (.type "BaseException") = some true ∧ PySem.W.typeIn K (.ref C) = some (.type "type")
def sRaise (c : String) : SemS := fun m => .exc c m
section
variable {X : Cx} {b : Bs} {W : WX}
theorem ss_raise {x m : Str} {c : String} {j : Nat} {p p2 pos pos' : Pos} (hc : X.calm = true) (tk : Takes X W) (h : ExcOk X.K X.mg x) (hg : Gl X x) (hx : x = Str.ofString c := by rfl) (hb : b.ex = exOf X.mg := by rfl)
    (hdb : (x == ("__debug__" : Str)) = false := by decide) : SS X b W (.Raise (some (.Call (.Name x p) [.Constant (.str m) j p2] [] pos)) none pos') (sRaise c) := by
  obtain ⟨C, h1, h2, h3, h4, h5⟩ := h
  refine PS.weak (ps_raise hc tk (pmk_own PySem.F.excBase_ValueError h2 h1 h3 (raises_own h4 h5) hg hdb)) fun D' σ H ⟨F, m, R, z⟩ => ?_
  have z := z σ F H R (Prog.refl _ _)
  rw [hb] at z
  unfold exOf at z
  rw [← hx, h1] at z
  exact z
theorem se_glob {x : Str} {v : V} {d : D} {pos : Pos} (hg : Gl X x) (h : ∃ u, X.mg x = some u ∧ RelV v u) (hr : ∀ K F H0 H, Rp K F H0 H d v) (hd : (x == ("__debug__" : Str)) = false := by decide) : SE X b W (.Name x pos) (eC d) := by
  obtain ⟨u, h1, h2⟩ := h
  exact se_c (pe_glob hg h1 h2 hd) hr
end
end CT

namespace CT
open PySem PySem.Spec PyProof.Rows L2
section
variable {X : Cx} {b : Bs} {W : WX}
def repD : D → D → R D
  | .lst _ xs, .int k => if k < 2 ^ 62 ∧ -(2 ^ 62) < k ∧ xs.length * k.toNat ≤ sizeLine then .ok (.lst false (List.replicate k.toNat xs).flatten) else .stuck
  | _, _ => .stuck
theorem RpL.rep {K : PySem.W.Frag} {F H0 H : Hp} {ds : List D} {vs : List V} (h : RpL K F H0 H ds vs) : ∀ n : Nat, RpL K F H0 H (List.replicate n ds).flatten (List.replicate n vs).flatten
  | 0 => .nil
  | n + 1 => by
    rw [List.replicate_succ, List.replicate_succ, List.flatten_cons, List.flatten_cons]
    exact h.app (RpL.rep h n)
theorem o_rep : Op2 X b W (binaryOp .Mult) repD := by
  refine ⟨_, op_rep (X := X), fun σ F H Q x y v u s hx hy p => ?_⟩
  cases x <;> first | exact p.elim | skip
  rename_i t ds
  cases y <;> first | exact p.elim | skip
  rename_i k
  obtain ⟨a, xs, rfl, h1, h2⟩ := hx.list s
  cases hy
  simp only [repD] at p
  split at p
  · rename_i hl
    refine ⟨a, k, xs, rfl, rfl, h1, by omega, by omega, by rw [← h2.length]; exact hl.2.2, fun q hq => ?_⟩
    have G := Grow.still (o := .lst (List.replicate k.toNat xs).flatten) s hq
    exact (p _ _ G) _ (.lst upd_same ((h2.grow G).rep _))
  · exact p.elim
theorem Rel.forget {K : PySem.W.Frag} {b : Bs} {F H : Hp} {m : Sl} {σ : L2.St} (j : Nat) (r : Rel K b F m σ H) : Rel K b F (m.set j none) σ H := by
  have old : ∀ {k : Nat} {d : D}, (m.set j none)[k]? = some (some d) → k ≠ j ∧ m[k]? = some (some d) := fun {k d} h => by
    by_cases c : k = j
    · subst c
      rw [List.getElem?_set_self'] at h
      cases q : m[k]? <;> rw [q] at h <;> simp at h
    · rw [List.getElem?_set_ne (fun z => c z.symm)] at h
      exact ⟨c, h⟩
  exact ⟨by simp [r.len], r.grow, fun k d q => r.slot k d (old q).2, fun p q x y v w c e1 e2 e3 e4 => r.apart p q x y v w c (old e1).2 (old e2).2 e3 e4⟩
theorem Rel.tmp {K : PySem.W.Frag} {b : Bs} {F H : Hp} {m : Sl} {σ : L2.St} {a : Addr} {xs ys : List V} (r : Rel K b F m σ H) (h1 : H a = some (.lst xs)) (h2 : F a = none) (h3 : b.H0 a = none)
    (far : ∀ (j : Nat) (d : D) (v : V), m[j]? = some (some d) → σ[j]? = some (some v) → Owns H d v a → False) : Rel K b F m σ (upd H a (.lst ys)) := by
  have t : ∀ c o, H c = some o → NoL o → (upd H a (.lst ys)) c = some o := fun c o hc ho => by
    rw [upd_ne (fun z => by subst z; rw [h1] at hc; cases hc; exact False.elim ho)]; exact hc
  have na : ∀ c o, F c = some o → c ≠ a := fun c o hc z => by subst z; rw [h2] at hc; cases hc
  have sH : Same F (upd H a (.lst ys)) := fun c o hc => by rw [upd_ne (na _ _ hc)]; exact r.sub _ _ hc
  have bk : ∀ {j : Nat} {d : D} {v : V} {c : Addr}, m[j]? = some (some d) → σ[j]? = some (some v) → SlotOk K F b.H0 H d v → Owns (upd H a (.lst ys)) d v c → Owns H d v c := fun {j d v c} e1 e3 k o => o.back (fun b xs e => t _ _ e trivial) (fun b xs e => sH _ _ e) (fun c xs o' z => by rw [upd_ne (fun y => by subst y; exact far j _ _ e1 e3 o')]; exact z) k
  refine ⟨r.len, ⟨fun c o hc => ?_, r.grow.sub, fun c o hc => ?_, r.grow.new⟩, fun j d q => ?_, fun p q x y v w c e1 e2 e3 e4 o1 o2 => ?_⟩
  · rw [upd_ne (fun z => by subst z; rw [h3] at hc; cases hc)]; exact r.grow.same _ _ hc
  · rw [upd_ne (na _ _ hc)]; exact r.sub _ _ hc
  · obtain ⟨w, k1, k2⟩ := r.slot j d q
    refine ⟨w, k1, ?_⟩
    rcases k2.ow with ⟨as, z, n⟩ | ⟨qq, ks, ds', c, kvs, rfl, pp⟩
    · exact .of (Ow.keep t (Same.refl F) sH _ _ _ z (fun c hc xs e => by rw [upd_ne (fun y => by subst y; exact far j _ _ q k1 ((Owns.iff z).mpr hc))]; exact e) fun c hc => (Ow.mem _ _ _ z hc).2.2.1) n
    · have hc : c ≠ a := fun z => by subst z; exact far j _ _ q k1 (.inr (.inl ⟨_, _, _, rfl, pp.v⟩))
      exact .inr (.inr (.inr ⟨qq, ks, ds', c, kvs, rfl, pp.v, pp.o, pp.al.imp fun u h => ⟨by rw [upd_ne hc]; exact h.1, h.2.keep fun _ _ z => t _ _ z trivial⟩, pp.fa, pp.ha, pp.k, RpL.keep t ds' _ pp.nx pp.x, pp.nx⟩))
  · obtain ⟨v', k1, k2⟩ := r.slot p x e1
    obtain ⟨w', k3, k4⟩ := r.slot q y e2
    rw [e3] at k1; cases k1
    rw [e4] at k3; cases k3
    exact r.apart p q x y v w c e1 e2 e3 e4 (bk e1 e3 k2 o1) (bk e2 e4 k4 o2)
end
end CT

namespace CT
open PySem PySem.Spec PyProof.Rows L2
section
variable {X : Cx} {b : Bs} {W : WX} {o e : Expr} {f g : SemE} {i : Nat} {x : Str} {px pos pos' : Pos}
theorem dct_slot {F H : Hp} {m : Sl} {σ : L2.St} {qt : DT} {ks : List (List Int)} {ds : List D} (R : Rel X.K b F m σ H) (h : m[i]? = some (some (.dct qt ks ds))) : ∃ a kvs, σ[i]? = some (some (.ref a)) ∧ DctOk X.K F b.H0 H qt ks ds (.ref a) a kvs := by
  obtain ⟨v, h1, h2⟩ := R.slot i _ h
  obtain ⟨a, kvs, p⟩ := h2.dct
  have := p.v
  subst this
  exact ⟨a, kvs, h1, p⟩
theorem DctOk.len {F H0 H : Hp} {qt : DT} {ks : List (List Int)} {ds : List D} {v : V} {a : Addr} {kvs : List (List Key × V)} (p : DctOk X.K F H0 H qt ks ds v a kvs) : kvs.length = ks.length := by
  have := congrArg List.length p.k
  simpa using this
end
end CT

namespace CT
open PySem PySem.Spec PyProof.Rows L2
end CT

namespace CT
open PySem PySem.Spec PyProof.Rows L2
section
variable {K : PySem.W.Frag} {b : Bs} {F F2 H : Hp} {m : Sl} {σ : L2.St} {d : Addr} {o1 o2 : HO}
theorem Owns.fa {H0 : Hp} {e : D} {v : V} {a : Addr} (s : SlotOk K F H0 H e v) (o : Owns H e v a) : F a = none := o.free s
end
end CT

namespace CT
open PySem PySem.Spec PyProof.Rows L2
end CT

namespace CT
open PySem PySem.Spec PyProof.Rows L2
section
variable {X : Cx} {b : Bs} {W : WX} {a : Expr} {f : SemE} {x : Str} {p q pos tpos : Pos} {tbl : List (String × Bool)} {v : V} {u : Value} {es : List Expr} {ta : TA} {vs : List V} {us : List Value} {kk : Nat}
def joinD : D → D → R D
  | .str z, .lst _ ys => match strsOf ys with
    | some xs => if (xs.map (·.length)).sum + xs.length * z.length ≤ 16777216 then .ok (.str (Txt.join z xs)) else .stuck
    | none => .stuck
  | _, _ => .stuck
where strsOf : List D → Option (List Str)
    | [] => some []
    | .str x :: r => (strsOf r).map (x :: ·)
    | _ => none
def joinE (f g : SemE) : SemE := fun m => (f m).bind fun x => match x with
  | .str z => (g m).bind (joinD (.str z))
  | _ => .stuck
theorem strs_rp {K : PySem.W.Frag} {F H0 H : Hp} : ∀ {ds : List D} {l : List Str} {vs : List V}, joinD.strsOf ds = some l → RpL K F H0 H ds vs → vs = l.map V.str
  | [], l, _, h, .nil => by cases h; rfl
  | d :: ds, l, _, h, .cons r t => by
    cases d <;> first | (simp [joinD.strsOf] at h; done) | skip
    simp only [joinD.strsOf] at h
    cases q : joinD.strsOf ds with
    | none => rw [q] at h; cases h
    | some l' =>
      rw [q] at h; cases h
      cases r
      rw [strs_rp q t]; rfl
theorem se_join {o e : Expr} {g : SemE} {apos : Pos} (ho : SE X b W o f) (he : SE X b W e g) (hs : starEach [e] X.env = [(false, eval e X.env)] := by rfl) (hbase : attributeBase o "join" X.env (eval o X.env) = eval o X.env := by rfl) (hline : (apos.endLine == pos.line) = true := by rfl) :
    SE X b W (.Call (.Attribute o "join" apos) [e] [] pos) (joinE f g) := by
  refine PE.weak (pe_join ho he hs hbase hline) fun σ H Q ⟨F, m, R, p⟩ => ?_
  refine seq R p fun x F1 H1 v R1 G1 hv p1 => ?_
  cases x <;> first | exact p1.elim | skip
  rename_i z
  cases hv
  refine ⟨⟨z, rfl⟩, seq R1 p1 fun y F2 H2 u R2 G2 hu p2 => ?_⟩
  cases y <;> first | exact p2.elim | skip
  rename_i t ys
  simp only [joinD] at p2
  split at p2
  · rename_i xs hx
    split at p2
    · rename_i hl
      obtain ⟨a', us, rfl, k1, k2⟩ := hu.list R2.sub
      rw [strs_rp hx k2] at k1
      exact ⟨z, a', xs, rfl, rfl, .inl (.inl (.inl k1)), hl, p2.here R2.sub _ (.str _)⟩
    · exact p2.elim
  · exact p2.elim
end
theorem exK_of {K : PySem.W.Frag} {c : String} {v : Value} (h : PySem.W.nsIn K mainGlobals (Str.ofString c) = some (some v)) : exK K c = v := by unfold exK; rw [h]
end CT

namespace CT
open PySem PySem.Spec PyProof.Rows L2
theorem set_self_eq' {α : Type} {l : List α} {i : Nat} {x : α} (h : l[i]? = some x) : l.set i x = l := by
  have := set_self_eq (y := x) h
  rwa [List.set_set] at this
section
variable {K : PySem.W.Frag} {b : Bs} {F F' H H' : Hp} {m : Sl} {σ : L2.St} {a c : Addr} {u1 u2 : HO}
theorem dct_owns {q : DT} {ks : List (List Int)} {ds : List D} {a d : Addr} (o : Owns H (.dct q ks ds) (.ref a) d) : d = a := by
  have := o.dct
  cases this; rfl
end
end CT

namespace CT
open PySem PySem.Spec PyProof.Rows L2
inductive RB where
  | rt (d : D) (m : Sl) | stuck
abbrev SemB := Sl → RB
def SstB (K : PySem.W.Frag) (b : Bs) (F H : Hp) (D' : Ends) : RB → Prop
  | .rt d m' => ∀ σ' F' H' v, Rel K b F' m' σ' H' → Prog F H F' H' → Rp K F' b.H0 H' d v → hasT d = false → D'.rt v H'
  | .stuck => False
theorem SstB.prog {K : PySem.W.Frag} {b : Bs} {F H F1 H1 : Hp} {D' : Ends} {r : RB} (g : Prog F H F1 H1) (p : SstB K b F H D' r) : SstB K b F1 H1 D' r := by
  cases r with
  | rt d m => exact fun σ' F' H' v R q => p σ' F' H' v R (g.trans q)
  | stuck => exact p
def tSB (K : PySem.W.Frag) (b : Bs) (g : SemB) : TS := fun D' σ H => ∃ F m, Rel K b F m σ H ∧ SstB K b F H D' (g m)
abbrev SB (X : Cx) (b : Bs) (st : List Stmt) (g : SemB) : Prop := PSs X st (tSB X.K b g)
def bRet (f : SemE) : SemB := fun m => match f m with
  | .ok d => if hasT d = true then .stuck else .rt d m
  | _ => .stuck
def bSeq (g : SemS) (h : SemB) : SemB := fun m => match g m with
  | .nx m' => h m'
  | _ => .stuck
section
variable {X : Cx} {b : Bs} {W : WX} {st : Stmt} {rest : List Stmt} {g : SemS} {h : SemB} {e : Expr} {f : SemE} {pos : Pos}
theorem sb_ret (hf : SE X b W e f) : SB X b [.Return (some e) pos] (bRet f) := by
  refine PSs.weak (pss_one (ps_ret hf)) fun D' σ H ⟨F, m, R, p⟩ => ⟨F, m, R, ?_⟩
  unfold bRet at p
  cases hm : f m with
  | stuck => rw [hm] at p; exact p.elim
  | exc c => rw [hm] at p; exact p.elim
  | ok d =>
    rw [hm] at p
    simp only at p
    split at p
    · exact p.elim
    · rename_i hd
      exact fun F1 H1 G v hv => p σ F1 H1 v (R.step G) G.prog hv (by simpa using hd)
theorem sb_cons (h1 : SS X b W st g) (h2 : SB X b rest h) : SB X b (st :: rest) (bSeq g h) := by
  refine PSs.weak (pss_cons h1 h2) fun D' σ H ⟨F, m, R, p⟩ => ⟨F, m, R, ?_⟩
  unfold bSeq at p
  cases hg : g m with
  | nx m' => rw [hg] at p; exact fun σ' F' H' R' q => ⟨F', m', R', SstB.prog q p⟩
  | bk m' => rw [hg] at p; exact p.elim
  | ct m' => rw [hg] at p; exact p.elim
  | rt d => rw [hg] at p; exact p.elim
  | exc c m' => rw [hg] at p; exact p.elim
  | stuck => rw [hg] at p; exact p.elim
end
theorem join_some {α : Type} {o : Option (Option α)} {x : α} (h : o.join = some x) : o = some (some x) := by
  cases o with
  | none => cases h
  | some y => cases y with
    | none => cases h
    | some z => cases h; rfl
end CT

namespace CT
open PySem PySem.Spec PyProof.Rows L2
abbrev PA (kas : Kas) (xs : List (NestedKey × Addr × Value)) : Prop := Paired (fun (p : List (List Int) × Addr × V) (q : NestedKey × Addr × Value) => toN p.1 = q.1 ∧ p.2.1 = q.2.1 ∧ RelV p.2.2 q.2.2) kas xs
end CT

namespace CT
open PySem PySem.Spec PyProof.Rows L2
end CT

namespace CT
open PySem PySem.Spec PyProof.Rows L2
end CT

namespace CT
open PySem PySem.Spec PyProof.Rows L2
end CT

namespace CT
open PySem PySem.Spec PyProof.Rows L2
end CT

namespace CT
open PySem PySem.Spec PyProof.Rows L2
end CT

namespace CT
open PySem PySem.Spec PyProof.Rows L2
end CT

namespace CT
open PySem PySem.Spec PyProof.Rows L2
end CT

namespace CT
open PySem PySem.Spec PyProof.Rows L2
def Owned (σ : L2.St) (m : Sl) (H : Hp) (c : Addr) : Prop := ∃ (i : Nat) (d : D) (v : V), m[i]? = some (some d) ∧ σ[i]? = some (some v) ∧ Owns H d v c
structure Step (σ : L2.St) (F H : Hp) (m : Sl) (F1 H1 : Hp) (m1 : Sl) : Prop where
  p : Prog F H F1 H1
  fr : ∀ c o, H c = some o → ¬ Owned σ m H c → H1 c = some o
  ow : ∀ c, Owned σ m1 H1 c → Owned σ m H c ∨ H c = none
  nw : ∀ c o, F1 c = some o → F c = some o ∨ H c = none ∨ Owned σ m H c
  ex : ∀ c, H1 c = none → H c = none ∨ Owned σ m H c
section
variable {K : PySem.W.Frag} {b : Bs} {σ : L2.St} {F H F1 H1 F2 H2 : Hp} {m m1 m2 : Sl}
theorem Step.refl (F H : Hp) (m : Sl) : Step σ F H m F H m := ⟨Prog.refl _ _, fun _ _ h _ => h, fun _ h => .inl h, fun _ _ h => .inl h, fun _ h => .inl h⟩
theorem Step.trans (s : Step σ F H m F1 H1 m1) (t : Step σ F1 H1 m1 F2 H2 m2) : Step σ F H m F2 H2 m2 := by
  refine ⟨s.p.trans t.p, fun c o h n => t.fr c o (s.fr c o h n) fun z => ?_, fun c z => ?_, fun c o z => ?_, fun c z => (t.ex c z).elim (s.ex c) fun y => (s.ow c y).symm⟩
  · rcases s.ow c z with z | z
    · exact n z
    · rw [z] at h; cases h
  · by_cases n : Owned σ m H c
    · exact .inl n
    · cases h : H c with
      | none => exact .inr rfl
      | some o =>
        have h1 := s.fr c o h n
        rcases t.ow c z with z | z
        · rcases s.ow c z with z | z
          · exact absurd z n
          · rw [z] at h; cases h
        · rw [z] at h1; cases h1
  · by_cases n : Owned σ m H c
    · exact .inr (.inr n)
    rcases t.nw c o z with z | z | z
    · exact s.nw c o z
    · cases h : H c with
      | none => exact .inr (.inl rfl)
      | some o' => rw [s.fr c o' h n] at z; cases z
    · rcases s.ow c z with z | z
      · exact absurd z n
      · exact .inr (.inl z)
theorem Rel.stepG (R : Rel K b F m σ H) (G : Grow F H F1 H1) : Step σ F H m F1 H1 m := ⟨G.prog, fun c o h _ => G.same c o h, fun c ⟨i, d, v, h1, h2, h3⟩ => by
  obtain ⟨w, k1, k2⟩ := R.slot i d h1
  rw [h2] at k1; cases k1
  exact .inl ⟨i, d, v, h1, h2, h3.backS R.sub G.same k2⟩, fun c o h => (G.new c o h).imp id .inl, fun c z => .inl (G.same.free z)⟩
theorem Rel.fresh (R : Rel K b F m σ H) {c : Addr} (h : H c = none ∨ Owned σ m H c) : b.H0 c = none := by
  rcases h with h | ⟨i, d, v, h1, h2, h3⟩
  · exact R.grow.same.free h
  · obtain ⟨w, k1, k2⟩ := R.slot i d h1
    rw [h2] at k1; cases k1
    obtain ⟨_, _, q⟩ := Owns.here k2 h3
    exact q
end
def Yst {α : Type} (K : PySem.W.Frag) (b : Bs) (σ : L2.St) (F H : Hp) (m : Sl) (C : α → Hp → Hp → Sl → Prop) : R (α × Sl) → Prop
  | .ok (a, m') => ∀ F' H', Rel K b F' m' σ H' → Step σ F H m F' H' m' → C a F' H' m'
  | _ => False
abbrev SemX := Sl → R (D × Sl)
abbrev SemXT := Sl → R (Bool × Sl)
abbrev SemXA := Sl → R (List D × Sl)
section
variable {α β : Type} {K : PySem.W.Frag} {b : Bs} {σ : L2.St} {F H F1 H1 : Hp} {m m1 : Sl}
theorem Yst.step {C : α → Hp → Hp → Sl → Prop} {r : R (α × Sl)} (g : Step σ F H m F1 H1 m1) (p : Yst K b σ F H m C r) : Yst K b σ F1 H1 m1 C r := by
  cases r with
  | ok a => exact fun F' H' R q => p F' H' R (g.trans q)
  | exc c => exact p
  | stuck => exact p
theorem Rp.prog {H0 : Hp} {d : D} {v : V} (g : Prog F H F1 H1) (n : hasT d = false) (h : Rp K F H0 H d v) : Rp K F1 H0 H1 d v := (Rp.keep g.tups d v n h).mono g.sub (Same.refl _)
theorem RpL.prog {H0 : Hp} {d : List D} {v : List V} (g : Prog F H F1 H1) (n : hasTL d = false) (h : RpL K F H0 H d v) : RpL K F1 H0 H1 d v := (RpL.keep g.tups d v n h).mono g.sub (Same.refl _)
end
def bindX {α β : Type} (r : R (α × Sl)) (k : α → Sl → R (β × Sl)) : R (β × Sl) := match r with
  | .ok (a, m) => k a m
  | .exc _ => .stuck
  | .stuck => .stuck
def okX (r : R D) (m : Sl) : R (D × Sl) := match r with
  | .ok d => if hasT d = true then .stuck else .ok (d, m)
  | _ => .stuck
section
variable (K : PySem.W.Frag) (b : Bs)
def CX (Q : VK) : D → Hp → Hp → Sl → Prop := fun d F' H' _ => ∀ v, Rp K F' b.H0 H' d v → hasT d = false → Q v H'
def CXs (Q : List V → Hp → Prop) : List D → Hp → Hp → Sl → Prop := fun d F' H' _ => ∀ v, RpL K F' b.H0 H' d v → hasTL d = false → Q v H'
def tSX (f : SemX) : TE := fun σ H Q => ∃ F m, Rel K b F m σ H ∧ Yst K b σ F H m (CX K b Q) (f m)
def tSXT (f : SemXT) : TT := fun σ H Q => ∃ F m, Rel K b F m σ H ∧ Yst K b σ F H m (fun c _ H' _ => Q c H') (f m)
def tSXA (f : SemXA) : TA := fun σ H Q => ∃ F m, Rel K b F m σ H ∧ Yst K b σ F H m (CXs K b Q) (f m)
end
abbrev SX (X : Cx) (b : Bs) (e : Expr) (f : SemX) : Prop := PE X e (tSX X.K b f)
abbrev SXT (X : Cx) (b : Bs) (e : Expr) (f : SemXT) : Prop := PT X e (tSXT X.K b f)
abbrev SXA (X : Cx) (b : Bs) (es : List Expr) (f : SemXA) : Prop := L2.PA X es (tSXA X.K b f)
def xOf (f : SemE) : SemX := fun m => okX (f m) m
def x2 (op : D → D → R D) (f g : SemX) : SemX := fun m => bindX (f m) fun x m1 => bindX (g m1) fun y m2 => okX (op x y) m2
def xA (op : List D → R D) (f : SemXA) : SemX := fun m => bindX (f m) fun xs m1 => okX (op xs) m1
def xaNil : SemXA := fun m => .ok ([], m)
def xaCons (f : SemX) (g : SemXA) : SemXA := fun m => bindX (f m) fun x m1 => bindX (g m1) fun xs m2 => .ok (x :: xs, m2)
def xtOf (f : SemX) : SemXT := fun m => bindX (f m) fun x m1 => match x with
  | .bl c => .ok (c, m1)
  | _ => .stuck
section
variable {X : Cx} {b : Bs} {W : WX} {e a c : Expr} {f g : SemX} {pos : Pos}
theorem seqX {R' : V → Hp → Prop} {σ : L2.St} {H : Hp} {α : Type} {k : D → Sl → R (α × Sl)} {C : α → Hp → Hp → Sl → Prop} {F : Hp} {m : Sl} (r : Rel X.K b F m σ H) (p : Yst X.K b σ F H m C (bindX (f m) k))
    (h : ∀ x m1 F1 H1 v, Rel X.K b F1 m1 σ H1 → Step σ F H m F1 H1 m1 → Rp X.K F1 b.H0 H1 x v → hasT x = false → Yst X.K b σ F1 H1 m1 C (k x m1) → R' v H1) : tSX X.K b f σ H R' := by
  refine ⟨F, m, r, ?_⟩
  cases hf : f m with
  | stuck => rw [hf] at p; exact p.elim
  | exc c => rw [hf] at p; exact p.elim
  | ok d =>
    rw [hf] at p
    exact fun F1 H1 R1 G v hv hn => h d.1 d.2 F1 H1 v R1 G hv hn (Yst.step G p)
theorem seqXA {h : SemXA} {R' : List V → Hp → Prop} {σ : L2.St} {H : Hp} {α : Type} {k : List D → Sl → R (α × Sl)} {C : α → Hp → Hp → Sl → Prop} {F : Hp} {m : Sl} (r : Rel X.K b F m σ H) (p : Yst X.K b σ F H m C (bindX (h m) k))
    (q : ∀ x m1 F1 H1 v, Rel X.K b F1 m1 σ H1 → Step σ F H m F1 H1 m1 → RpL X.K F1 b.H0 H1 x v → hasTL x = false → Yst X.K b σ F1 H1 m1 C (k x m1) → R' v H1) : tSXA X.K b h σ H R' := by
  refine ⟨F, m, r, ?_⟩
  cases hf : h m with
  | stuck => rw [hf] at p; exact p.elim
  | exc c => rw [hf] at p; exact p.elim
  | ok d =>
    rw [hf] at p
    exact fun F1 H1 R1 G v hv hn => q d.1 d.2 F1 H1 v R1 G hv hn (Yst.step G p)
theorem Yst.here {σ : L2.St} {F H : Hp} {Q : VK} {r : R D} {m : Sl} (R : Rel X.K b F m σ H) (p : Yst X.K b σ F H m (CX X.K b Q) (okX r m)) : Pst b W σ F H (CV X.K b Q) r := by
  cases r with
  | stuck => exact p.elim
  | exc c => exact p.elim
  | ok d =>
    simp only [okX] at p
    split at p
    · exact p.elim
    · rename_i hd
      exact fun F' H' G v hv => p F' H' (R.step G) (R.stepG G) v hv (by simpa using hd)
theorem sx_of {f : SemE} (h : SE X b W e f) : SX X b e (xOf f) := PE.weak h fun σ H Q ⟨F, m, R, p⟩ => ⟨F, m, R, Yst.here R p⟩
theorem sx_bin {o : Operator} {op : D → D → R D} (ho : Op2 X b W (binaryOp o) op) (hf : SX X b a f) (hg : SX X b c g) : SX X b (.BinOp a o c pos) (x2 op f g) := by
  obtain ⟨r, h1, h2⟩ := ho
  refine PE.weak (pe_op h1 hf hg) fun σ H Q ⟨F, m, R, p⟩ => ?_
  exact seqX R p fun x m1 F1 H1 v R1 G1 hv n1 p1 => seqX R1 p1 fun y m2 F2 H2 u R2 G2 hu n2 p2 => h2 σ F2 H2 Q x y v u R2.sub (hv.prog G2.p n1) hu (Yst.here R2 p2)
theorem sxa_nil : SXA X b [] xaNil := PA.weak pa_nil fun σ H Q ⟨F, m, R, p⟩ => p F H R (Step.refl _ _ _) [] .nil rfl
theorem sxa_cons {es : List Expr} {h : SemXA} (he : SX X b e f) (hr : SXA X b es h) (hs : starEach (e :: es) X.env = (false, eval e X.env) :: starEach es X.env := by rfl) : SXA X b (e :: es) (xaCons f h) := by
  refine PA.weak (pa_cons he hr hs) fun σ H Q ⟨F, m, R, p⟩ => ?_
  refine seqX R p fun x m1 F1 H1 v R1 G1 hv n1 p1 => seqXA R1 p1 fun xs m2 F2 H2 vs R2 G2 hvs n2 p2 => ?_
  exact p2 F2 H2 R2 (Step.refl _ _ _) _ (.cons (hv.prog G2.p n1) hvs) (by simp [hasTL, n1, n2])
theorem sx_tup {es : List Expr} {h : SemXA} {k : Nat} (ha : SXA X b es h) : SX X b (.Tuple es k pos) (xA mkTup h) := by
  refine PE.weak (pe_tup ha) fun σ H Q ⟨F, m, R, p⟩ => ?_
  refine seqXA R p fun xs m1 F1 H1 vs R1 G1 hv n1 p1 => ?_
  have p1 := Yst.here (W := fun _ _ _ _ => True) R1 p1
  unfold mkTup at p1
  split at p1
  · rename_i hl
    refine ⟨by rw [← hv.length]; exact hl, fun q hq => ?_⟩
    have G := Grow.still (o := .tup vs) R1.sub hq
    exact (p1 _ _ G) _ (.tup upd_same (hv.grow G))
  · exact p1.elim
def mkLstF (xs : List D) : R D := if xs.length ≤ sizeLine then .ok (.lst false xs) else .stuck
theorem sx_lst {es : List Expr} {h : SemXA} (ha : SXA X b es h) : SX X b (.List es pos) (xA mkLstF h) := by
  refine PE.weak (pe_lst ha) fun σ H Q ⟨F, m, R, p⟩ => ?_
  refine seqXA R p fun xs m1 F1 H1 vs R1 G1 hv n1 p1 => ?_
  have p1 := Yst.here (W := fun _ _ _ _ => True) R1 p1
  unfold mkLstF at p1
  split at p1
  · rename_i hl
    refine ⟨by rw [← hv.length]; exact hl, fun q hq => ?_⟩
    have G := Grow.still (o := .lst vs) R1.sub hq
    exact (p1 _ _ G) _ (.lst upd_same (hv.grow G))
  · exact p1.elim
theorem sx_ix (hf : SX X b a f) (hg : SX X b c g) (hs : PlainIx c := by exact fun _ _ => rfl) : SX X b (.Subscript a c pos) (x2 ixD f g) := by
  refine PE.weak (pe_ix ix_seq hf hg hs) fun σ H Q ⟨F, m, R, p⟩ => ?_
  refine seqX R p fun x m1 F1 H1 v R1 G1 hv n1 p1 => seqX R1 p1 fun y m2 F2 H2 u R2 G2 hu n2 p2 => ?_
  have hv := hv.prog G2.p n1
  have p2 := Yst.here (W := fun _ _ _ _ => True) R2 p2
  cases x <;> first | exact p2.elim | skip
  · cases y <;> first | exact p2.elim | skip
    cases hv; cases hu
    simp only [ixD] at p2
    split at p2
    · rename_i hz
      split at p2
      · rename_i c hc
        exact .inr (.inr ⟨_, _, c, rfl, rfl, hz, hc, p2.here R2.sub _ (.str _)⟩)
      · exact p2.elim
    · exact p2.elim
  · cases y <;> first | exact p2.elim | skip
    obtain ⟨a, xs, rfl, h1, h2⟩ := hv.tuple
    cases hu
    simp only [ixD] at p2
    split at p2
    · rename_i d hd
      obtain ⟨w, k1, k2⟩ := atI_rp h2 hd
      exact .inr (.inl ⟨a, xs, _, w, rfl, rfl, h1, k1, p2.here R2.sub _ k2⟩)
    · exact p2.elim
  · cases y <;> first | exact p2.elim | skip
    obtain ⟨a, xs, rfl, h1, h2⟩ := hv.list R2.sub
    cases hu
    simp only [ixD] at p2
    split at p2
    · rename_i d hd
      obtain ⟨w, k1, k2⟩ := atI_rp h2 hd
      exact .inl ⟨a, xs, _, w, rfl, rfl, .inl (.inl h1), k1, p2.here R2.sub _ k2⟩
    · exact p2.elim
  · cases y <;> first | exact p2.elim | skip
    obtain ⟨a, xs, rfl, h1, h2⟩ := hv.frl R2.sub
    cases hu
    simp only [ixD] at p2
    split at p2
    · rename_i d hd
      obtain ⟨w, k1, k2⟩ := atI_rp h2 hd
      exact .inl ⟨a, xs, _, w, rfl, rfl, h1, k1, p2.here R2.sub _ k2⟩
    · exact p2.elim
variable {x : Str} {id T : String} {es : List Expr} {h : SemXA} {op : List D → R D} {p : Pos}
end
end CT

namespace CT
open PySem PySem.Spec PyProof.Rows L2
def noK (ds : List D) : List (List Int) := ds.map fun _ => []
def lentD (o : Option Addr) (ds : List D) : D := .dct ⟨o, true, true⟩ (noK ds) ds
def less1 (H : Hp) (a : Addr) : Hp := fun x => if x = a then none else H x
theorem less1_ne {H : Hp} {a x : Addr} (h1 : x ≠ a) : less1 H a x = H x := by unfold less1; rw [if_neg h1]
theorem less1_a {H : Hp} {a : Addr} : less1 H a a = none := by unfold less1; rw [if_pos rfl]
theorem less1_same {H : Hp} {a : Addr} : Same (less1 H a) H := fun x o e => by
  unfold less1 at e
  split at e
  · cases e
  · exact e
section
variable {K : PySem.W.Frag} {b : Bs} {F F' H H' H0 : Hp} {m : Sl} {σ : L2.St} {a : Addr}
theorem DctOk.lst {q : DT} {ks : List (List Int)} {ds : List D} {v : V} {kvs : List (List Key × V)} (p : DctOk K F H0 H q ks ds v a kvs) (hl : q.l = true) (hn : q.n = true) (ho : q.o.isSome = true) : H a = some (.lst (kvs.map (·.2))) := by
  obtain ⟨u, h1, h2⟩ := p.al
  unfold DU at h2
  rw [if_pos hn, if_pos hl, if_pos ho] at h2
  rw [h1, h2]
def mkKv (vs : List V) : List (List Key × V) := vs.map fun v => ([], v)
theorem mkKv_v (vs : List V) : (mkKv vs).map (·.2) = vs := by simp [mkKv, Function.comp_def]
theorem mkKv_k {ds : List D} {vs : List V} (h : ds.length = vs.length) : (mkKv vs).map (·.1) = (noK ds).map (·.map Sum.inl) := by
  simp only [mkKv, noK, List.map_map, Function.comp_def, List.map_nil]
  rw [List.map_const', List.map_const', h]
theorem lent_ok {o : Option Addr} {ds : List D} {vs : List V} (hs : o.isSome = true) (ho : ∀ c, o = some c → a = c) (h1 : H a = some (.lst vs)) (fa : F a = none) (ha : H0 a = none) (x : RpL K F H0 H ds vs) (n : hasTL ds = false) : DctOk K F H0 H ⟨o, true, true⟩ (noK ds) ds (.ref a) a (mkKv vs) :=
  ⟨rfl, fun c z => .inr (ho c z), ⟨_, h1, by unfold DU; rw [if_pos rfl, if_pos rfl, if_pos hs, mkKv_v]⟩, fa, ha, mkKv_k x.length, by rw [mkKv_v]; exact x, n⟩
theorem Rel.lendL {vs : List V} (r : Rel K b F m σ H) (ha : H a = some (.lst vs)) (h0a : b.H0 a = none) (fa' : F' a = none)
    (g : Grow F (less1 H a) F' H') (far : ∀ (j : Nat) (e : D) (v : V) (d : Addr), m[j]? = some (some e) → σ[j]? = some (some v) → Owns H e v d → d ≠ a) : Rel K b F' m σ H' := by
  have st : ∀ x o, H x = some o → x ≠ a → H' x = some o := fun x o e h1 => g.same _ _ (by rw [less1_ne h1]; exact e)
  have tt : ∀ x o, H x = some o → NoL o → H' x = some o := fun x o e ho => st x o e fun z => by subst z; rw [ha] at e; cases e; exact False.elim ho
  have gf : ∀ x o, H x = some o → x ≠ a → F x = none → F' x = none := fun x o e h1 hf => grow_free g (by rw [less1_ne h1]; exact e) hf
  have kp : ∀ {ds : List D} {us : List V}, hasTL ds = false → RpL K F b.H0 H ds us → RpL K F' b.H0 H' ds us := fun n h => (RpL.keep tt _ _ n h).mono g.sub (Same.refl _)
  have back : ∀ (j : Nat) (e : D) (v : V) (x : Addr), m[j]? = some (some e) → σ[j]? = some (some v) → Owns H' e v x → Owns H e v x := fun j e v x q1 q2 o => by
    obtain ⟨w, k1, k2⟩ := r.slot j e q1
    rw [q2] at k1; cases k1
    exact o.back (fun b xs e => tt _ _ e trivial) (fun b xs e => g.subH _ _ (g.sub _ _ e)) (fun c xs o' e => st _ _ e (far j _ _ c q1 q2 o')) k2
  refine ⟨r.len, ⟨fun x o e => ?_, r.grow.sub.trans g.sub, g.subH, fun x o e => ?_⟩, fun j e q => ?_, fun p q x y v w z e1 e2 e3 e4 o1 o2 => r.apart p q x y v w z e1 e2 e3 e4 (back _ _ _ _ e1 e3 o1) (back _ _ _ _ e2 e4 o2)⟩
  · exact st _ _ (r.grow.same _ _ e) (fun z => by subst z; rw [h0a] at e; cases e)
  · rcases g.new x o e with z | z
    · exact r.grow.new _ _ z
    · by_cases h1 : x = a
      · subst h1; rw [fa'] at e; cases e
      rw [less1_ne h1] at z
      exact .inr (r.grow.same.free z)
  · obtain ⟨v, k1, k2⟩ := r.slot j e q
    refine ⟨v, k1, ?_⟩
    rcases k2.ow with ⟨as, z, n⟩ | ⟨qq, ks, ds, x, kvs, rfl, p⟩
    · exact .of (Ow.keepG (fun d v n h => (Rp.keep tt d v n h).mono g.sub (Same.refl _)) (fun x xs e => tt _ _ e trivial) (fun x xs e => ⟨g.sub _ _ e, g.subH _ _ (g.sub _ _ e)⟩) _ _ _ z (fun x hx xs e => st _ _ e (far j _ _ x q k1 ((Owns.iff z).mpr hx))) fun x hx xs e hf => gf _ _ e (far j _ _ x q k1 ((Owns.iff z).mpr hx)) hf) n
    · have h1 := far j _ _ x q k1 (.inr (.inl ⟨qq, ks, ds, rfl, p.v⟩))
      obtain ⟨u, h3, h4⟩ := p.al
      exact .inr (.inr (.inr ⟨qq, ks, ds, x, kvs, rfl, p.v, p.o, ⟨u, st _ _ h3 h1, h4.keep fun b xs z => tt _ _ z trivial⟩, gf _ _ h3 h1 p.fa, p.ha, p.k, kp p.nx p.x, p.nx⟩))
end
def spL (K : PySem.W.Frag) (n : Nat) (f : List D → R (D × Option D)) : Sp := fun vs H Q E => ∃ (F0 : Hp) (a : Addr) (xs : List D) (kv : List (List Key × V)) (ds : List D) (us : List V),
  vs = .ref a :: us ∧ Same F0 H ∧ DctOk K F0 (less1 H a) H ⟨some a, true, true⟩ (noK xs) xs (.ref a) a kv ∧ RpL K F0 H H ds us ∧ hasTL ds = false ∧ ds.length = n ∧
  ∃ (d : D) (ys : List D), f (lentD (some a) xs :: ds) = .ok (d, some (lentD (some a) ys)) ∧ hasT d = false ∧
    ∀ F' H' v kw, Grow F0 (less1 H a) F' H' → Prog F0 H F' H' → Rp K F' (less1 H a) H' d v → DctOk K F' (less1 H a) H' ⟨some a, true, true⟩ (noK ys) ys (.ref a) a kw → Q v H'
structure CalleeL (P : Program) (w : World) (K : PySem.W.Frag) (mg : Str → Option Value) (base : Heap) (x : Str) (n : Nat) (f : List D → R (D × Option D)) (k : Nat) : Prop where
  ok : ∃ fa fd ps, FnG P w K mg base k fa fd ps (spL K n f) ∧ mg x = some (.ref fa) ∧ PySem.W.keepIn K (.ref fa) = true ∧ Binds K fd ps []
def xCallL (i : Nat) (f : List D → R (D × Option D)) (h : SemXA) : SemX := fun m => match m[i]? with
  | some (some (.dct _ _ _)) => bindX (h m) fun ds m1 => (match m1[i]? with
    | some (some (.dct ⟨some a, true, true⟩ _ xs)) => (match f (lentD (some a) xs :: ds) with
      | .ok (d, some (.dct ⟨some c, true, true⟩ ks ys)) => if hasT d = false ∧ c = a ∧ ks = noK ys then .ok (d, m1.set i (some (lentD (some a) ys))) else .stuck
      | _ => .stuck)
    | _ => .stuck)
  | _ => .stuck
section
variable {X : Cx} {b : Bs} {W : WX} {x : Str} {e1 : Expr} {es : List Expr} {h : SemXA} {n k i : Nat} {f : List D → R (D × Option D)} {p pos : Pos}
theorem sx_callL (C : CalleeL X.prog X.w X.K X.mg X.base x n f k) (tk : Takes X W) (hr : Room k X.A) (hgd : X.A.guards = some []) (hg : Gl X x) (h1 : PE X e1 (tVar i)) (ha : SXA X b es h) (hl : ∀ m xs m1, h m = .ok (xs, m1) → xs.length = n) (hdb : (x == ("__debug__" : Str)) = false := by decide)
    (he : starEach (e1 :: es) X.env = (false, eval e1 X.env) :: starEach es X.env := by rfl) (hpl : (backTo pos (starEach es X.env)).any (·.1) = false := by rfl) : SX X b (.Call (.Name x p) (e1 :: es) [] pos) (xCallL i f h) := by
  obtain ⟨fa, fd, ps, F1, hm, hk, hb⟩ := C.ok
  refine PE.weak (pe_callG F1 hr hgd hg hm hk hb (fun σ => passAt tk σ) (pa_cons h1 ha he) hdb he hpl) fun σ H Q ⟨F, m, R, q⟩ => ?_
  unfold xCallL at q
  split at q
  rotate_left
  · exact q.elim
  rename_i q0 k0 x0 hq0
  obtain ⟨a, kv0, s1, _⟩ := dct_slot R hq0
  refine ⟨.ref a, s1, F, m, R, ?_⟩
  cases hh : h m with
  | stuck => rw [hh] at q; exact q.elim
  | exc c => rw [hh] at q; exact q.elim
  | ok ds =>
    obtain ⟨ds, m1⟩ := ds
    simp only [hh, bindX] at q
    split at q
    rotate_left
    · exact q.elim
    rename_i a0 ks xs hq
    split at q
    rotate_left
    · exact q.elim
    rename_i d c ks' ys hf
    split at q
    rotate_left
    · exact q.elim
    rename_i hcc
    obtain ⟨hd, hca, hks⟩ := hcc
    subst hca hks
    intro F1 H1 R1 G us hus hds
    obtain ⟨a', kv, s2, P⟩ := dct_slot R1 hq
    rw [s1] at s2; cases s2
    have ea := (P.o _ rfl).resolve_left (by simp)
    subst ea
    have al := P.lst rfl rfl rfl
    refine ⟨F1, a, xs, _, ds, us, rfl, R1.sub, lent_ok rfl (fun _ z => Option.some.inj z) al P.fa less1_a (RpL.base _ _ P.nx P.x) P.nx, RpL.base _ _ hds hus, hds, hl m ds m1 hh, d, ys, hf, hd, ?_⟩
    intro F2 H2 v kw G2 PG2 hv D1
    have al2 := D1.lst rfl rfl rfl
    have nob : ∀ (jj : Nat) (e : D) (w : V) (dd : Addr), (m1.set i none)[jj]? = some (some e) → σ[jj]? = some (some w) → Owns H1 e w dd → jj ≠ i ∧ m1[jj]? = some (some e) ∧ dd ≠ a := fun jj e w dd w1 w2 w3 => by
      have hi : jj ≠ i := fun z => by
        subst z
        rw [List.getElem?_set_self'] at w1
        cases z : m1[jj]? <;> rw [z] at w1 <;> simp at w1
      rw [List.getElem?_set_ne (Ne.symm hi)] at w1
      exact ⟨hi, w1, fun z => by subst z; exact hi (R1.apart jj i _ _ _ _ _ w1 hq w2 s1 w3 (.inr (.inl ⟨_, _, _, rfl, rfl⟩)))⟩
    have tt : ∀ x o, H1 x = some o → NoL o → H2 x = some o := PG2.tups
    have RR : Rel X.K b F2 (m1.set i none) σ H2 := (R1.forget i).lendL al P.ha D1.fa G2 fun jj e w dd w1 w2 w3 => (nob jj e w dd w1 w2 w3).2.2
    have back : ∀ (jj : Nat) (e : D) (w : V) (dd : Addr), (m1.set i none)[jj]? = some (some e) → σ[jj]? = some (some w) → Owns H2 e w dd → Owns H1 e w dd := fun jj e w dd w1 w2 w3 => by
      obtain ⟨w', z1, z2⟩ := (R1.forget i).slot jj e w1
      rw [w2] at z1; cases z1
      exact w3.back (fun b xs e => tt _ _ e trivial) (fun b xs e => G2.subH _ _ (G2.sub _ _ e)) (fun c xs o' e => G2.same _ _ (by rw [less1_ne (nob jj _ w c w1 w2 o').2.2]; exact e)) z2
    have E1 : DctOk X.K F2 b.H0 H2 ⟨some a, true, true⟩ (noK ys) ys (.ref a) a kw := ⟨rfl, fun _ z => .inr (Option.some.inj z), ⟨_, al2, by unfold DU; rw [if_pos rfl, if_pos rfl, if_pos (show (some a).isSome = true from rfl)]⟩, D1.fa, P.ha, D1.k, RpL.base _ _ D1.nx D1.x, D1.nx⟩
    have RA := RR.putW (i := i) (d := lentD (some a) ys) (v := .ref a) (.inr (.inr (.inr ⟨_, _, _, a, kw, rfl, E1⟩))) fun jj e w dd hne w1 w2 w3 w4 => by
      have := dct_owns w3
      subst this
      exact (nob jj e w _ w1 w2 (back jj e w _ w1 w2 w4)).2.2 rfl
    rw [set_self_eq' s1, List.set_set] at RA
    refine q F2 H2 RA (G.trans ⟨PG2, fun c o hc hno => ?_, fun c hc => ?_, fun c o hc => ?_, fun c hc => ?_⟩) v (Rp.base d v hd hv) hd
    · exact G2.same _ _ (by rw [less1_ne (fun z => by subst z; exact hno ⟨i, _, _, hq, s1, .inr (.inl ⟨_, _, _, rfl, rfl⟩)⟩)]; exact hc)
    · obtain ⟨j, e, w, c1, c2, c3⟩ := hc
      by_cases hj : j = i
      · subst hj
        rw [s1] at c2; cases c2
        rw [List.getElem?_set_self ((List.getElem?_eq_some_iff.mp hq).1)] at c1
        cases c1
        have := dct_owns c3
        subst this
        exact .inl ⟨j, _, _, hq, s1, .inr (.inl ⟨_, _, _, rfl, rfl⟩)⟩
      · rw [List.getElem?_set_ne (Ne.symm hj)] at c1
        have c1' : (m1.set i none)[j]? = some (some e) := by rw [List.getElem?_set_ne (Ne.symm hj)]; exact c1
        exact .inl ⟨j, e, w, c1, c2, back j e w c c1' c2 c3⟩
    · rcases G2.new c o hc with z | z
      · exact .inl z
      · by_cases hca : c = a
        · subst hca; exact .inr (.inr ⟨i, _, _, hq, s1, .inr (.inl ⟨_, _, _, rfl, rfl⟩)⟩)
        · rw [less1_ne hca] at z; exact .inr (.inl z)
    · by_cases hca : c = a
      · subst hca; rw [al2] at hc; cases hc
      · have := G2.same.free hc
        rw [less1_ne hca] at this
        exact .inl this
end
end CT

namespace CT
open PySem PySem.Spec PyProof.Rows L2
def bRetX (f : SemX) : SemB := fun m => match f m with
  | .ok (d, m1) => .rt d m1
  | _ => .stuck
def bIf (t : SemT) (g h : SemB) : SemB := fun m => match t m with
  | .ok true => g m
  | .ok false => h m
  | _ => .stuck
section
variable {X : Cx} {b : Bs} {W : WX} {st : Stmt} {rest A : List Stmt} {g : SemS} {h k : SemB} {e c : Expr} {f : SemX} {t : SemT} {tx : SemXT} {pos : Pos} {i : Nat}
theorem sb_retX (hf : SX X b e f) : SB X b [.Return (some e) pos] (bRetX f) := by
  refine PSs.weak (pss_one (ps_ret hf)) fun D' σ H ⟨F, m, R, p⟩ => ⟨F, m, R, ?_⟩
  unfold bRetX at p
  cases hm : f m with
  | stuck => rw [hm] at p; exact p.elim
  | exc c => rw [hm] at p; exact p.elim
  | ok d =>
    obtain ⟨d, m1⟩ := d
    rw [hm] at p
    exact fun F1 H1 R1 G v hv hd => p σ F1 H1 v R1 G.p hv hd
theorem sb_if (hc : ST X b W c t) (ha : SB X b A h) (hr : SB X b rest k) : SB X b (.If c A [] pos :: rest) (bIf t h k) := by
  refine PSs.weak (pss_cons (ps_if hc ha pss_nil) hr) fun D' σ H ⟨F, m, R, p⟩ => ⟨F, m, R, ?_⟩
  unfold bIf at p
  cases ht : t m with
  | stuck => rw [ht] at p; exact p.elim
  | exc c => rw [ht] at p; exact p.elim
  | ok c =>
    rw [ht] at p
    refine fun F1 H1 G => ?_
    cases c with
    | true => exact ⟨F1, m, R.step G, SstB.prog G.prog p⟩
    | false => exact ⟨F1, m, R.step G, SstB.prog G.prog p⟩
end
def defL (n k : Nat) (g : SemB) : List D → R (D × Option D) := fun ds => if ds.length = n then (match g (ds.map some ++ List.replicate (k - n) none) with
  | .rt d m => .ok (d, (m[0]?).join)
  | .stuck => .stuck) else .stuck
section
variable {P : Program} {w : World} {K : PySem.W.Frag} {mg : Str → Option Value} {base : Heap}
theorem def_fnL {x : Str} {st : Stmt} {f : Addr} {fd : FuncData} {N ps : List Str} {k n : Nat} {ex : String → Value} {g : SemB} (F : Fun K x x st f fd) (S : FnScope N ps (defScope st)) (hps : ps.length = n + 1)
    (hbody : ∀ (cdv : Value) (A : Around) (outer : List Env) (s : Shared) (H : Hp) (E : XK) (F0 H0 : Hp), Room k (A.deeper (envOfC x (defScope st) s.heap.objs.size f cdv)) → (A.deeper (envOfC x (defScope st) s.heap.objs.size f cdv)).guards = some [] →
      SB (cxOf (L2.CX P w) P w K mg base N x (defScope st) f cdv A outer s H E) ⟨ex, F0, H0⟩ (defBody st) g) :
    FnG P w K mg base (k + 1) f fd ps (spL K n (defL (n + 1) N.length g)) := by
  refine Fun.okG F S (fun vs H Q E h => ?_) (fun cdv A outer s H vs Q E hr hgd h => ?_)
  · obtain ⟨F0, a, xs, kv, ds, us, rfl, _, _, r, _, hl, _⟩ := h
    rw [hps, List.length_cons, ← r.length, hl]
  · obtain ⟨F0, a, xs, kv, ds, us, rfl, s0, P1, r, ht, hn, d, ys, hf, hd, q⟩ := h
    refine ⟨_, hbody cdv A outer s H E F0 (less1 H a) hr hgd, ?_⟩
    have hlv := r.length
    have all : ∀ (i : Nat) (x : D), ((lentD (some a) xs :: ds).map some ++ List.replicate (N.length - (n + 1)) none)[i]? = some (some x) → (lentD (some a) xs :: ds)[i]? = some x := fun i x e => by
      by_cases hi : i < (lentD (some a) xs :: ds).length
      · rw [List.getElem?_append_left (by simpa using hi)] at e
        rw [List.getElem?_map] at e
        cases z : (lentD (some a) xs :: ds)[i]? with
        | none => rw [z] at e; cases e
        | some y => rw [z] at e; cases e; rfl
      · rw [List.getElem?_append_right (by simpa using hi)] at e
        rw [List.getElem?_replicate] at e
        split at e <;> cases e
    have vat : ∀ (i : Nat) (v : V), (V.ref a :: us)[i]? = some v → (L2.start N (V.ref a :: us))[i]? = some (some v) := fun i v h1 => by
      unfold L2.start
      obtain ⟨h3, _⟩ := List.getElem?_eq_some_iff.mp h1
      rw [List.getElem?_append_left (by simpa using h3), List.getElem?_map, h1]
      rfl
    have own : ∀ (i : Nat) (x : D) (v : V) (z : Addr), (lentD (some a) xs :: ds)[i]? = some x → (L2.start N (V.ref a :: us))[i]? = some (some v) → Owns H x v z → i = 0 := fun i x v z e1 e2 o => by
      match i, e1 with
      | 0, e1 => rfl
      | i + 1, e1 => exact (o.of (hasTL_get ht e1)).elim
    refine ⟨F0, (lentD (some a) xs :: ds).map some ++ List.replicate (N.length - (n + 1)) none, ⟨?_, ⟨less1_same, Same.refl _, s0, fun _ _ e => .inl e⟩, fun i x e => ?_, fun i j x y v w z e1 e2 e3 e4 o1 o2 => ?_⟩, ?_⟩
    · unfold L2.start
      simp [hlv]
      omega
    · have e' := all i x e
      match i, e' with
      | 0, e' => cases e'; exact ⟨_, vat 0 _ rfl, .inr (.inr (.inr ⟨_, _, _, a, kv, rfl, P1⟩))⟩
      | i + 1, e' =>
        obtain ⟨v, h1, h2⟩ := r.get (i := i) e'
        exact ⟨v, vat (i + 1) v h1, .inr (.inl ⟨hasTL_get (i := i) ht e', Rp.base _ _ (hasTL_get (i := i) ht e') h2⟩)⟩
    · rw [own i x v z (all i x e1) e3 o1, own j y w z (all j y e2) e4 o2]
    · unfold defL at hf
      rw [if_pos (by simp [hn])] at hf
      cases hg : g ((lentD (some a) xs :: ds).map some ++ List.replicate (N.length - (n + 1)) none) with
      | stuck => rw [hg] at hf; cases hf
      | rt d' m' =>
        rw [hg] at hf
        simp only [CT.R.ok.injEq, Prod.mk.injEq] at hf
        obtain ⟨rfl, f1⟩ := hf
        have f1 := join_some f1
        intro σ' F' H' v R' PG hv _
        obtain ⟨v1, _, k1⟩ := R'.slot 0 _ f1
        obtain ⟨a', kw1, D1⟩ := k1.dct
        have ea := (D1.o a rfl).resolve_left (by first | decide | simp)
        subst ea
        have ev := D1.v
        subst ev
        exact q F' H' v kw1 R'.grow PG hv D1
end
end CT

namespace CT
open PySem PySem.Spec PyProof.Rows L2
def ofX {α : Type} (r : R (α × Sl)) (k : α → Sl → RS) : RS := match r with
  | .ok (a, m) => k a m
  | _ => .stuck
def sSetX (i : Nat) (f : SemX) : SemS := fun m => ofX (f m) fun d m1 => .nx (m1.set i (some d))
def sIfX (t : SemXT) (g h : SemS) : SemS := fun m => ofX (t m) fun c m1 => if c = true then g m1 else h m1
def sAppX (i : Nat) (f : SemX) : SemS := fun m => mine i m fun _ => ofX (f m) fun d m1 => mine i m1 fun xs => if xs.length < sizeLine then .nx (m1.set i (some (.lst true (xs ++ [d])))) else .stuck
section
variable {X : Cx} {b : Bs} {W : WX} {st : Stmt} {rest A : List Stmt} {g h : SemS} {e c : Expr} {f : SemX} {tx : SemXT} {pos : Pos} {i : Nat} {x : Str} {px : Pos}
theorem seqSX {R' : V → Hp → Prop} {σ : L2.St} {H F : Hp} {k : D → Sl → RS} {D' : Ends} {m : Sl} (r : Rel X.K b F m σ H) (p : Sst X.K b W F H D' (ofX (f m) k))
    (q : ∀ d m1 F1 H1 v, Rel X.K b F1 m1 σ H1 → Prog F H F1 H1 → Rp X.K F1 b.H0 H1 d v → hasT d = false → Sst X.K b W F1 H1 D' (k d m1) → R' v H1) : tSX X.K b f σ H R' := by
  refine ⟨F, m, r, ?_⟩
  cases hf : f m with
  | stuck => rw [hf] at p; exact p.elim
  | exc c => rw [hf] at p; exact p.elim
  | ok d => rw [hf] at p; exact fun F1 H1 R1 G v hv hd => q d.1 d.2 F1 H1 v R1 G.p hv hd (Sst.prog G.p p)
theorem ss_setX (hN : X.N.Nodup) (hi : X.N[i]? = some x) (hx : Loc X.env.scope x) (hf : SX X b e f) (hfn : X.fn x = true ∨ X.env.scope.names.lookup x = some .local := by first | exact .inl rfl | exact .inr rfl)
    (hs : swapsWithSole [.Name x px] e pos.line X.env = pure false := by rfl) (hw : swappedStores [.Name x px] e X.env = pure none := by rfl) : SS X b W (.Assign [.Name x px] e pos) (sSetX i f) :=
  PS.weak (ps_asg hf (pg_name hN hi hx hfn) hs hw) fun D' σ H ⟨F, m, R, p⟩ => seqSX R p fun d m1 F1 H1 v R1 G hv hd q => q _ F1 H1 (R1.put hd hv) (Prog.refl _ _)
theorem ss_ifX {a d : List Stmt} (hc : SXT X b c tx) (ha : SSs X b W a g) (hb : SSs X b W d h) : SS X b W (.If c a d pos) (sIfX tx g h) :=
  PS.weak (ps_if hc ha hb) fun D' σ H ⟨F, m, R, p⟩ => by
    refine ⟨F, m, R, ?_⟩
    unfold sIfX at p
    cases ht : tx m with
    | stuck => rw [ht] at p; exact p.elim
    | exc c => rw [ht] at p; exact p.elim
    | ok c =>
      obtain ⟨c, m1⟩ := c
      rw [ht] at p
      refine fun F1 H1 R1 G => ?_
      cases c with
      | true => exact ⟨F1, m1, R1, Sst.prog G.p p⟩
      | false => exact ⟨F1, m1, R1, Sst.prog G.p p⟩
theorem ss_appX {o : Expr} {apos cpos : Pos} (ho : PE X o (tVar i)) (hf : SX X b e f)
    (hbase : attributeBase o "append" X.env (eval o X.env) = eval o X.env := by rfl)
    (hfew : ((backTo cpos (starEach [e] X.env)).all (fun x => !x.1) && (backToKw cpos (keywordEach [] X.env)).all (fun x => x.1.isSome)
      && decide ([e].length + ([] : List Keyword).length + (if ([] : List Keyword).isEmpty then 0 else 1) < 30)) = true := by rfl)
    (hline : (apos.endLine == cpos.line) = true := by rfl) (hs : starEach [e] X.env = (false, eval e X.env) :: starEach [] X.env := by rfl) (hplain : (backTo cpos (starEach [] X.env)).any (·.1) = false := by rfl)
    (hsw : swapsWith (.Call (.Attribute o "append" apos) [e] [] cpos) none pos.line X.env = pure false := by rfl) : SS X b W (.Expr (.Call (.Attribute o "append" apos) [e] [] cpos) pos) (sAppX i f) := by
  refine PS.weak (ps_expr (pe_bm PySem.F.plainAttrs_list PySem.F.slot_list_append PySem.F.type_list_append mt_append ho (pa_cons hf pa_nil hs) hbase hfew hline hs hplain) hsw) fun D' σ H ⟨F, m, R, p⟩ => ?_
  obtain ⟨xs, a, vs, h1, h2, h3, h4, p⟩ := mine_sst R p
  refine ⟨.ref a, h2, .inl ⟨rfl, vs, .inl (.inl h3)⟩, seqSX R p fun d m1 F1 H1 v R1 G hv hd q => ?_⟩
  obtain ⟨ys, a', us, k1, k2, k3, k4, q⟩ := mine_sst R1 q
  rw [h2] at k2; cases k2
  split at q
  · rename_i hz
    refine ⟨a, us, v, rfl, rfl, k3, by rw [← k4.length]; exact hz, q σ F1 _ (R1.chgApp k1 h2 k3 (.cons hv .nil) ?_) (chg_prog k3)⟩
    rw [hasTL, hd]; rfl
  · exact q.elim
def tSIX (K : PySem.W.Frag) (b : Bs) (strict : Bool) (f : SemXA) : TI := fun σ H Rw => ∃ F m, Rel K b F m σ H ∧ Yst K b σ F H m (fun ds F' H' _ => ∀ J, Wk K b.H0 strict J F' H' ds → Rw J H') (f m)
abbrev SIX (X : Cx) (b : Bs) (strict : Bool) (tg e : Expr) (f : SemXA) : Prop := PI X tg e (tSIX X.K b strict f)
def xThen (h : SemXA) (k : List D → R (List D)) : SemXA := fun m => bindX (h m) fun xs m1 => match k xs with
  | .ok ys => .ok (ys, m1)
  | _ => .stuck
theorem six_rng1 {a tg : Expr} {h : SemXA} {strict : Bool} {p : Pos} (hg : Gl X "range") (hm : X.mg "range" = none) (ha : SXA X b [a] h) (hs : starEach [a] X.env = [(false, eval a X.env)] := by rfl) : SIX X b strict tg (.Call (.Name "range" p) [a] [] pos) (xThen h rng1) := by
  refine PI.weak (pi_range1 hg hm ha hs) fun σ H Rw ⟨F, m, R, p⟩ => ?_
  refine seqXA R p fun xs m1 F1 H1 vs R1 G1 hv n1 p1 => ?_
  unfold rng1 at p1
  split at p1
  · rename_i ys hy
    split at hy
    · obtain ⟨v, rfl, h⟩ := hv.one
      cases h
      split at hy
      · rename_i c
        cases hy
        exact ⟨_, rfl, c.1, c.2, p1 F1 H1 R1 (Step.refl _ _ _) _ wk_rng⟩
      · cases hy
    · cases hy
  · exact p1.elim
end
end CT

namespace CT
open PySem PySem.Spec PyProof.Rows L2
def eLk (i k : Nat) : SemE := fun m => match m[i]? with
  | some (some (.dct q _ xs)) => if (q.l && q.n && q.o.isSome) = true then (match xs[k]? with
    | some d => .ok d
    | none => .stuck) else .stuck
  | _ => .stuck
def subLR (i k : Nat) : SemG := fun d m => if hasT d = true then .stuck else match m[i]? with
  | some (some (.dct q _ xs)) => if (q.l && q.n && q.o.isSome) = true then (if k < xs.length then .ok (m.set i (some (.dct q (noK (xs.set k d)) (xs.set k d)))) else .stuck) else .stuck
  | _ => .stuck
section
variable {X : Cx} {b : Bs} {W : WX} {e o : Expr} {pos : Pos} {i k j : Nat} {x : Str} {px npos spos : Pos}
theorem se_lk (ho : PE X o (tVar i)) : SE X b W (.Subscript o (.Constant (.int k) j npos) spos) (eLk i k) := by
  have hix : PE X (.Subscript o (.Constant (.int k) j npos) spos) _ := pe_ix ix_seq ho pe_int (fun _ _ => rfl)
  refine PE.weak hix fun σ H Q ⟨F, m, R, p⟩ => ?_
  unfold eLk at p
  split at p
  rotate_left
  · exact p.elim
  rename_i q ks xs hq
  split at p
  rotate_left
  · exact p.elim
  rename_i hln
  have hl1 : q.l = true := by cases a : q.l <;> simp_all
  have hn1 : q.n = true := by cases a : q.n <;> simp_all
  have ho1 : q.o.isSome = true := by cases a : q.o <;> simp_all
  split at p
  rotate_left
  · exact p.elim
  rename_i d hd
  obtain ⟨a, kv, s1, P⟩ := dct_slot R hq
  have al := P.lst hl1 hn1 ho1
  obtain ⟨v, k1, k2⟩ := P.x.get hd
  exact ⟨.ref a, s1, .inl ⟨a, _, (k : Int), v, rfl, rfl, .inl (.inl al), atI_nat k1, p.here R.sub v k2⟩⟩
theorem tg_subL {f : SemE} (hf : ∀ m, f m = .ok (.int (k : Int))) : TGok X b (gSub (tVar i) (tSE X.K b W f) rSetL) (subLR i k) := fun F m σ H d v m' Q R n hv e q => by
  unfold subLR at e
  split at e
  · cases e
  split at e
  rotate_left
  · cases e
  rename_i qt ks xs hq
  split at e
  rotate_left
  · cases e
  rename_i hln
  have hl1 : qt.l = true := by cases a : qt.l <;> simp_all
  have hn1 : qt.n = true := by cases a : qt.n <;> simp_all
  have ho1 : qt.o.isSome = true := by cases a : qt.o <;> simp_all
  split at e
  rotate_left
  · cases e
  rename_i hkl
  cases e
  obtain ⟨a, kv, s1, P⟩ := dct_slot R hq
  have al := P.lst hl1 hn1 ho1
  refine ⟨.ref a, s1, F, m, R, ?_⟩
  rw [hf]
  refine fun F1 H1 G u hu => ?_
  cases hu
  have R1 := R.step G
  have al1 := G.same _ _ al
  have x1 := P.x.grow G
  have fa1 := grow_free G al P.fa
  have x2 := RpL.set (hv.grow G) k x1
  have hT : hasTL (xs.set k d) = false := hasTL_set n k P.nx
  have keep : ∀ c o, H1 c = some o → NoL o → (upd H1 a (.lst ((kv.map (·.2)).set k v))) c = some o := fun c o hc ho => by
    rw [upd_ne (fun z => by subst z; rw [al1] at hc; cases hc; exact False.elim ho)]; exact hc
  have hidx : ixN (kv.map (·.2)).length (k : Int) = some k := by
    have hl := x1.length
    unfold ixN
    rw [if_pos (by omega), if_pos (by omega)]
    simp
  refine ⟨a, _, (k : Int), k, rfl, rfl, al1, hidx, q σ F1 _ (R1.chgW hq s1 (.inr (.inl ⟨_, _, _, rfl, rfl⟩)) al1 (fun z => z) fa1 P.ha ?_ fun c o => ?_) (G.prog.trans (chg_prog al1))⟩
  · exact .inr (.inr (.inr ⟨qt, _, _, a, mkKv ((kv.map (·.2)).set k v), rfl, rfl, P.o, ⟨_, upd_same, by unfold DU; rw [if_pos hn1, if_pos hl1, if_pos ho1, mkKv_v]⟩, fa1, P.ha, mkKv_k x2.length, by rw [mkKv_v]; exact RpL.keep keep _ _ hT x2, hT⟩))
  · exact .inr (.inl ⟨_, _, _, rfl, o.dct⟩)
end
end CT

namespace CT
open PySem PySem.Spec PyProof.Rows L2
def lcX (i : Nat) (t : SemXT) (f : SemX) : List D → SemXA
  | [], m => .ok ([], m)
  | d :: ds, m => if hasT d = true then .stuck else bindX (t (m.set i (some d))) fun c m2 => if c = true then bindX (f m2) fun x m3 => bindX (lcX i t f ds (m3.set i none)) fun r m4 => .ok (x :: r, m4) else lcX i t f ds (m2.set i none)
def aLcX (h : SemXA) (i : Nat) (t : SemXT) (f : SemX) : SemXA := fun m => bindX (h m) fun ds m1 => bindX (lcX i t f ds (m1.set i none)) fun r m2 => if r.length ≤ sizeLine then .ok (r, m2) else .stuck
def xtYes : SemXT := fun m => .ok (true, m)
def tSOX (K : PySem.W.Frag) (b : Bs) (f : SemXA) : TE := fun σ H Q => ∃ F m, Rel K b F m σ H ∧ match f m with
  | .ok (ds, m') => ∀ F' H' a xs, Rel K b F' m' σ H' → Step σ F H m F' H' m' → (H a = none ∨ Owned σ m H a) → ¬ Owned σ m' H' a → F' a = none → H' a = some (.lst xs) → RpL K F' b.H0 H' ds xs → hasTL ds = false → Q (.ref a) H'
  | _ => False
abbrev SOX (X : Cx) (b : Bs) (e : Expr) (f : SemXA) : Prop := PE X e (tSOX X.K b f)
def xOwn (f : SemXA) : SemX := fun m => match f m with
  | .ok (ds, m') => .ok (.lst false ds, m')
  | _ => .stuck
section
variable {K : PySem.W.Frag} {b : Bs} {F F1 H H1 : Hp} {m m1 : Sl} {σ : L2.St} {i : Nat} {a : Addr}
theorem Rel.addF {xs : List V} (r : Rel K b F m σ H) (h1 : H a = some (.lst xs)) (h2 : F a = none) (h3 : b.H0 a = none) (no : ¬ Owned σ m H a) : Same F (upd F a (.lst xs)) ∧ Rel K b (upd F a (.lst xs)) m σ H := by
  have sF : Same F (upd F a (.lst xs)) := same_upd h2
  have sH : Same (upd F a (.lst xs)) H := fun c o hc => by
    by_cases hb : c = a
    · subst hb; rw [upd_same] at hc; rw [h1]; exact hc
    · rw [upd_ne hb] at hc; exact r.sub _ _ hc
  refine ⟨sF, r.len, ⟨r.grow.same, r.grow.sub.trans sF, sH, fun c o hc => ?_⟩, fun j d q => ?_, r.apart⟩
  · by_cases hb : c = a
    · subst hb; exact .inr h3
    · rw [upd_ne hb] at hc; exact r.grow.new _ _ hc
  · obtain ⟨v, k1, k2⟩ := r.slot j d q
    refine ⟨v, k1, ?_⟩
    have hn : ∀ c, Owns H d v c → c ≠ a := fun c o z => by subst z; exact no ⟨j, d, v, q, k1, o⟩
    rcases k2.ow with ⟨as, z, n⟩ | ⟨qq, ks, ds', c, kvs, rfl, pp⟩
    · exact .of (Ow.keep (fun _ _ z _ => z) sF sH _ _ _ z (fun _ _ _ z => z) fun c hc => by rw [upd_ne (hn c ((Owns.iff z).mpr hc))]; exact (Ow.mem _ _ _ z hc).2.2.1) n
    · have hc := hn c (.inr (.inl ⟨_, _, _, rfl, pp.v⟩))
      exact .inr (.inr (.inr ⟨qq, ks, ds', c, kvs, rfl, pp.v, pp.o, pp.al, by rw [upd_ne hc]; exact pp.fa, pp.ha, pp.k, pp.x.mono sF (Same.refl _), pp.nx⟩))
theorem Rel.unset (r : Rel K b F (m.set i none) (σ.set i none) H) : Rel K b F (m.set i none) σ H := by
  have ne : ∀ {j : Nat} {d : D}, (m.set i none)[j]? = some (some d) → j ≠ i := fun {j d} h z => by
    subst z
    by_cases hl : j < m.length
    · rw [List.getElem?_set_self hl] at h; cases h
    · rw [List.getElem?_eq_none (by simpa using hl)] at h; cases h
  refine ⟨by have := r.len; simpa using this, r.grow, fun j d q => ?_, fun p q x y v w c e1 e2 e3 e4 => ?_⟩
  · obtain ⟨v, k1, k2⟩ := r.slot j d q
    exact ⟨v, by rw [List.getElem?_set_ne (Ne.symm (ne q))] at k1; exact k1, k2⟩
  · exact r.apart p q x y v w c e1 e2 (by rw [List.getElem?_set_ne (Ne.symm (ne e1))]; exact e3) (by rw [List.getElem?_set_ne (Ne.symm (ne e2))]; exact e4)
theorem Owned.off {x : Option V} {d : D} (n : hasT d = false) {c : Addr} (o : Owned (σ.set i x) (m.set i (some d)) H c) : Owned σ (m.set i none) H c := by
  obtain ⟨j, e, v, h1, h2, h3⟩ := o
  by_cases hj : j = i
  · subst hj
    rcases set_some h1 with ⟨_, _, rfl⟩ | ⟨z, _⟩
    · exact (h3.of n).elim
    · exact absurd rfl z
  · rw [List.getElem?_set_ne (Ne.symm hj)] at h1 h2
    exact ⟨j, e, v, by rw [List.getElem?_set_ne (Ne.symm hj)]; exact h1, h2, h3⟩
theorem Owned.on {x : Option V} {c : Addr} (o : Owned σ (m.set i none) H c) : Owned (σ.set i x) m H c := by
  obtain ⟨j, e, v, h1, h2, h3⟩ := o
  have hj : j ≠ i := fun z => by
    subst z
    by_cases hl : j < m.length
    · rw [List.getElem?_set_self hl] at h1; cases h1
    · rw [List.getElem?_eq_none (by simpa using hl)] at h1; cases h1
  rw [List.getElem?_set_ne (Ne.symm hj)] at h1
  exact ⟨j, e, v, h1, by rw [List.getElem?_set_ne (Ne.symm hj)]; exact h2, h3⟩
theorem Step.off {x : Option V} {d : D} (n : hasT d = false) (s : Step (σ.set i x) F H (m.set i (some d)) F1 H1 m1) : Step σ F H (m.set i none) F1 H1 (m1.set i none) :=
  ⟨s.p, fun c o h no => s.fr c o h fun z => no (z.off n), fun c o => (s.ow c o.on).imp (fun z => z.off n) id, fun c o h => (s.nw c o h).imp id fun z => z.imp id fun z => z.off n, fun c z => (s.ex c z).imp id fun y => y.off n⟩
theorem Step.drop0 (R : Rel K b F m σ H) : Step σ F H m F H (m.set i none) := ⟨Prog.refl _ _, fun _ _ h _ => h, fun c ⟨j, e, v, h1, h2, h3⟩ => by
  have hj : j ≠ i := fun z => by
    subst z
    by_cases hl : j < m.length
    · rw [List.getElem?_set_self hl] at h1; cases h1
    · rw [List.getElem?_eq_none (by simpa using hl)] at h1; cases h1
  rw [List.getElem?_set_ne (Ne.symm hj)] at h1
  exact .inl ⟨j, e, v, h1, h2, h3⟩, fun _ _ h => .inl h, fun _ h => .inl h⟩
end
section
variable {X : Cx} {b : Bs} {W : WX} {e : Expr} {f : SemXA}
theorem sx_own (h : SOX X b e f) : SX X b e (xOwn f) := PE.weak h fun σ H Q ⟨F, m, R, p⟩ => by
  refine ⟨F, m, R, ?_⟩
  unfold xOwn at p
  cases hm : f m with
  | stuck => rw [hm] at p; exact p.elim
  | exc c => rw [hm] at p; exact p.elim
  | ok d =>
    obtain ⟨ds, m'⟩ := d
    rw [hm] at p
    intro F' H' a xs R' S h0 no h1 h2 hv hn
    obtain ⟨sF, R2⟩ := R'.addF h2 h1 (R.fresh h0) no
    have S2 : Step σ F H m (upd F' a (.lst xs)) H' m' := ⟨⟨S.p.sub.trans sF, S.p.tups⟩, S.fr, S.ow, fun c o z => by
      by_cases hc : c = a
      · subst hc; exact .inr h0
      · rw [upd_ne hc] at z; exact S.nw c o z, S.ex⟩
    exact p _ H' R2 S2 _ (.lst upd_same (hv.mono sF (Same.refl _))) (by simp [hasT, hn])
end
end CT

namespace CT
open PySem PySem.Spec PyProof.Rows L2
section
variable {K : PySem.W.Frag} {b : Bs} {F H : Hp} {m : Sl} {σ : L2.St}
theorem bindX_ok {α β : Type} {r : R (α × Sl)} {k : α → Sl → R (β × Sl)} {z : β × Sl} (h : bindX r k = .ok z) : ∃ a m1, r = .ok (a, m1) ∧ k a m1 = .ok z := by
  cases r with
  | ok a => exact ⟨a.1, a.2, rfl, h⟩
  | exc c => cases h
  | stuck => cases h
theorem lcX_ok {i : Nat} {wi : TI} {tt : TT} {te : TE} {t : SemXT} {f : SemX} {h : SemXA} {Q : VK} {res : List D} {m' : Sl}
    (hi : ∀ σ H Rw, tSIX K b true h σ H Rw → wi σ H Rw) (ht : ∀ σ H Q, tSXT K b t σ H Q → tt σ H Q) (he : ∀ σ H Q, tSX K b f σ H Q → te σ H Q)
    (r : Rel K b F m σ H) (hm : aLcX h i t f m = .ok (res, m'))
    (p : ∀ F' H' a xs, Rel K b F' m' σ H' → Step σ F H m F' H' m' → (H a = none ∨ Owned σ m H a) → ¬ Owned σ m' H' a → F' a = none → H' a = some (.lst xs) → RpL K F' b.H0 H' res xs → hasTL res = false → Q (.ref a) H') : tLc wi (gName i) tt te [i] σ H Q := by
  unfold aLcX at hm
  obtain ⟨ds, m0, hh, hm⟩ := bindX_ok hm
  obtain ⟨res', m2, hl, hm⟩ := bindX_ok hm
  split at hm
  rotate_left
  · cases hm
  rename_i hsz
  cases hm
  refine hi _ _ _ ⟨F, m, r, ?_⟩
  rw [hh]
  intro F1 H1 R1 S1 J wk D hD
  have f1 : F1 D = none := R1.sub.free hD
  have d0 : b.H0 D = none := R1.grow.same.free hD
  have GA : Grow F1 H1 F1 (upd H1 D (.lst [])) := Grow.loose R1.sub hD
  have RA := R1.step GA
  have R0 : Rel K b F1 (m0.set i none) σ (upd H1 D (.lst [])) := by
    have := RA.drop (i := i)
    exact this.unset
  have SA : Step σ F1 H1 m0 F1 (upd H1 D (.lst [])) (m0.set i none) := (R1.stepG GA).trans (Step.drop0 RA)
  have no0 : ¬ Owned σ (m0.set i none) (upd H1 D (.lst [])) D := fun z => by
    obtain ⟨j, e, v, q1, q2, q3⟩ := z
    have hj : j ≠ i := fun z => by
      subst z
      by_cases hl : j < m0.length
      · rw [List.getElem?_set_self hl] at q1; cases q1
      · rw [List.getElem?_eq_none (by simpa using hl)] at q1; cases q1
    rw [List.getElem?_set_ne (Ne.symm hj)] at q1
    obtain ⟨w', z1, z2⟩ := R1.slot j e q1
    rw [q2] at z1; cases z1
    obtain ⟨u, hu, _⟩ := Owns.here z2 (q3.backS R1.sub GA.same z2)
    rw [hD] at hu; cases hu
  refine ⟨fun j n H' => n = ds.length - j ∧ j ≤ ds.length ∧ ∃ F' mj acc vacc rest, Rel K b F' mj σ H' ∧ mj.set i none = mj ∧ Step σ F1 H1 m0 F' H' mj ∧ F' D = none ∧ H' D = some (.lst vacc) ∧ ¬ Owned σ mj H' D ∧ RpL K F' b.H0 H' acc vacc ∧ hasTL acc = false ∧ lcX i t f (ds.drop j) mj = .ok (rest, m') ∧ acc ++ rest = res,
    ⟨_, rfl, Nat.zero_le _, F1, _, [], [], res, R0, by rw [List.set_set], SA, f1, upd_same, no0, .nil, rfl, by rw [List.drop_zero]; exact hl, rfl⟩, ?_⟩
  rintro j n H' ⟨rfl, hj', F', mj, acc, vacc, rest, R', hmj, S', e1, e2, no', e3, e4, e5, e6⟩
  have PP : Prog F1 H1 F' H' := S'.p
  have l : Ltr true F1 H1 F' H' := ⟨PP.sub, R'.sub, PP.tups, fun z => by cases z⟩
  by_cases hlt : j < ds.length
  · refine .inr ⟨wk.go j F' H' l hlt, fun H2 => (j + 1 ≤ ds.length ∧ ∃ F' mj acc vacc rest, Rel K b F' mj σ H2 ∧ mj.set i none = mj ∧ Step σ F1 H1 m0 F' H2 mj ∧ F' D = none ∧ H2 D = some (.lst vacc) ∧ ¬ Owned σ mj H2 D ∧ RpL K F' b.H0 H2 acc vacc ∧ hasTL acc = false ∧ lcX i t f (ds.drop (j + 1)) mj = .ok (rest, m') ∧ acc ++ rest = res),
      fun H2 z => ⟨ds.length - (j + 1), by omega, rfl, z⟩, fun x H2 y => ?_⟩
    obtain ⟨F2, d, G2, k2, r2⟩ := wk.yld j F' H' x H2 l hlt y
    have hd : ds.drop j = d :: ds.drop (j + 1) := by
      obtain ⟨h1, h2⟩ := List.getElem?_eq_some_iff.mp k2
      rw [← h2]
      exact List.drop_eq_getElem_cons h1
    rw [hd] at e5
    simp only [lcX] at e5
    split at e5
    · cases e5
    rename_i hdT
    have hdT : hasT d = false := by simpa using hdT
    obtain ⟨c', m2, ht', e5⟩ := bindX_ok e5
    have R2 := R'.step G2
    have S2 : Step σ F1 H1 m0 F2 H2 mj := S'.trans (R'.stepG G2)
    have hD2 : H2 D = some (.lst vacc) := G2.same _ _ e2
    have fD2 : F2 D = none := grow_free G2 e2 e1
    have no2 : ¬ Owned σ mj H2 D := fun z => by
      rcases (R'.stepG G2).ow D z with z | z
      · exact no' z
      · rw [e2] at z; cases z
    have R2w : Rel K b F2 (mj.set i (some d)) ((σ.set i none).set i (some x)) H2 := by
      have := (R2.drop (i := i)).put (i := i) hdT r2
      rw [List.set_set] at this
      exact this
    refine ⟨by show ((σ.set i none).set i (some x)).set i none = σ.set i none; rw [List.set_set, List.set_set], ht _ _ _ ⟨F2, _, R2w, ?_⟩⟩
    rw [ht']
    intro F3 H3 R3 S3
    have R3 : Rel K b F3 m2 ((σ.set i none).set i (some x)) H3 := R3
    have S3 : Step ((σ.set i none).set i (some x)) F2 H2 (mj.set i (some d)) F3 H3 m2 := S3
    have S3' : Step σ F2 H2 mj F3 H3 (m2.set i none) := by
      have := S3
      rw [List.set_set] at this
      have := this.off hdT
      rw [hmj] at this
      exact this
    have hD3 : H3 D = some (.lst vacc) := S3'.fr _ _ hD2 no2
    have fD3 : F3 D = none := by
      cases q : F3 D with
      | none => rfl
      | some o =>
        rcases S3'.nw D o q with z | z | z
        · rw [fD2] at z; cases z
        · rw [hD2] at z; cases z
        · exact absurd z no2
    have no3 : ¬ Owned σ (m2.set i none) H3 D := fun z => by
      rcases S3'.ow D z with z | z
      · exact no2 z
      · rw [hD2] at z; cases z
    have R3' : Rel K b F3 (m2.set i none) σ H3 := by
      have := R3.drop (i := i)
      rw [List.set_set, List.set_set] at this
      exact this.unset
    have acc3 : RpL K F3 b.H0 H3 acc vacc := (e3.grow G2).prog S3'.p e4
    cases c' with
    | false =>
      simp only [Bool.false_eq_true, if_false] at e5 ⊢
      exact ⟨hlt, F3, _, acc, vacc, rest, R3', by rw [List.set_set], S2.trans S3', fD3, hD3, no3, acc3, e4, e5, e6⟩
    | true =>
      simp only [if_true] at e5 ⊢
      obtain ⟨z, m3, hf', e5⟩ := bindX_ok e5
      obtain ⟨rest', m4, hr', e5⟩ := bindX_ok e5
      cases e5
      refine he _ _ _ ⟨F3, m2, R3, ?_⟩
      rw [hf']
      intro F4 H4 R4 S4 v4 r4 hz
      have R4 : Rel K b F4 m3 ((σ.set i none).set i (some x)) H4 := R4
      have S4 : Step ((σ.set i none).set i (some x)) F3 H3 m2 F4 H4 m3 := S4
      have S34' : Step σ F2 H2 mj F4 H4 (m3.set i none) := by
        have := S3.trans S4
        rw [List.set_set] at this
        have := this.off hdT
        rw [hmj] at this
        exact this
      have hD4 : H4 D = some (.lst vacc) := S34'.fr _ _ hD2 no2
      have fD4 : F4 D = none := by
        cases q : F4 D with
        | none => rfl
        | some o =>
          rcases S34'.nw D o q with z | z | z
          · rw [fD2] at z; cases z
          · rw [hD2] at z; cases z
          · exact absurd z no2
      have no4 : ¬ Owned σ (m3.set i none) H4 D := fun z => by
        rcases S34'.ow D z with z | z
        · exact no2 z
        · rw [hD2] at z; cases z
      have R4' : Rel K b F4 (m3.set i none) σ H4 := by
        have := R4.drop (i := i)
        rw [List.set_set, List.set_set] at this
        exact this.unset
      have acc4 : RpL K F4 b.H0 H4 acc vacc := (e3.grow G2).prog S34'.p e4
      have hlen := e3.length
      have hres : acc.length < sizeLine := by
        rw [← e6, List.length_append, List.length_cons] at hsz
        omega
      have keep : ∀ c o, H4 c = some o → NoL o → (upd H4 D (.lst (vacc ++ [v4]))) c = some o := fun c o hc ho => by
        rw [upd_ne (fun q => by subst q; rw [hD4] at hc; cases hc; exact False.elim ho)]; exact hc
      have d0' : b.H0 D = none := d0
      -- the list under way grows
      have R5 : Rel K b F4 (m3.set i none) σ (upd H4 D (.lst (vacc ++ [v4]))) := R4'.tmp hD4 fD4 d0' fun j e v q1 q2 o => no4 ⟨j, e, v, q1, q2, o⟩
      have back5 : ∀ c, Owned σ (m3.set i none) (upd H4 D (.lst (vacc ++ [v4]))) c → Owned σ (m3.set i none) H4 c := fun c ⟨j, e, v, q1, q2, q3⟩ => by
        obtain ⟨w, k1, k2⟩ := R4'.slot j e q1
        rw [q2] at k1; cases k1
        exact ⟨j, e, v, q1, q2, q3.back (fun b xs e => keep _ _ e trivial) (fun b xs e => by rw [upd_ne (fun y => by subst y; rw [fD4] at e; cases e)]; exact R4'.sub _ _ e) (fun c xs o' z => by rw [upd_ne (fun y => by subst y; exact no4 ⟨j, _, v, q1, q2, o'⟩)]; exact z) k2⟩
      have S24 := S2.trans S34'
      refine ⟨vacc, hD4, by rw [← hlen]; exact hres, hlt, F4, _, acc ++ [z], vacc ++ [v4], rest', R5, by rw [List.set_set], ?_, fD4, upd_same, fun z => no4 (back5 D z), ?_, ?_, hr', ?_⟩
      · exact ⟨⟨S24.p.sub, fun c o hc ho => keep c o (S24.p.tups c o hc ho) ho⟩, fun c o hc hno => by
          rw [upd_ne (fun z => by subst z; rw [hD] at hc; cases hc)]; exact S24.fr c o hc hno, fun c hc => S24.ow c (back5 c hc), S24.nw, fun c hc => by
          by_cases q : c = D
          · subst q; exact .inl hD
          · rw [upd_ne q] at hc; exact S24.ex c hc⟩
      · exact (RpL.keep keep acc vacc e4 acc4).app (.cons (Rp.keep keep z v4 hz r4) .nil)
      · rw [hasTL_append, e4, hasTL, hz]; rfl
      · rw [← e6, List.append_assoc]; rfl
  · have e : j = ds.length := by omega
    subst e
    rw [List.drop_length] at e5
    cases e5
    rw [List.append_nil] at e6
    subst e6
    refine .inl ⟨wk.stop F' H' l, p F' H' D vacc R' (S1.trans S') ?_ no' e1 e2 e3 e4⟩
    exact S1.ex D hD
end
end CT

namespace CT
open PySem PySem.Spec PyProof.Rows L2
abbrev STXs (X : Cx) (b : Bs) (es : List Expr) (f : SemXT) : Prop := PTs X es (tSXT X.K b f)
section
variable {X : Cx} {b : Bs} {W : WX} {elt tg iter e : Expr} {es ifs : List Expr} {scope : Scope} {own : List (Str × Nat)} {pos spos : Pos} {t : SemXT} {f : SemX} {h : SemXA} {i : Nat}
theorem stxs_nil : STXs X b [] xtYes := PTs.weak pts_nil fun σ H Q ⟨F, m, R, p⟩ => p F H R (Step.refl _ _ _)
theorem sox_lc (hc : X.calm = true) (hN : X.N.Nodup) (hi : SIX X b true tg iter h) (ok : BlkOk X.N X.env.scope scope own)
    (hg : ∀ (s : Shared) (H : Hp) (C : Addr) (cl : List (Str × Addr)) (fp : List Addr), PG (X.blk s H scope (compEnvC scope cl C X.env) fp) tg (gName i)) (ht : ∀ (s : Shared) (H : Hp) (C : Addr) (cl : List (Str × Addr)) (fp : List Addr), STXs (X.blk s H scope (compEnvC scope cl C X.env) fp) b ifs t)
    (he : ∀ (s : Shared) (H : Hp) (C : Addr) (cl : List (Str × Addr)) (fp : List Addr), SX (X.blk s H scope (compEnvC scope cl C X.env) fp) b elt f) (hs : ∀ x, foldedSetIterable iter X.env x = pure x := by intro _; rfl) (hv : own.map (·.2) = [i] := by rfl) :
    SOX X b (.ListComp elt [⟨tg, iter, ifs, 0⟩] scope pos) (aLcX h i t f) := by
  have z := pe_lc (pos := pos) (tt := tSXT X.K b t) (te := tSX X.K b f) (wi := tSIX X.K b true h) hc hN hi ok hg ht he hs
  rw [hv] at z
  refine PE.weak z fun σ H Q ⟨F, m, R, p⟩ => ?_
  cases hm : aLcX h i t f m with
  | stuck => rw [hm] at p; exact p.elim
  | exc c => rw [hm] at p; exact p.elim
  | ok r =>
    obtain ⟨ds, m'⟩ := r
    rw [hm] at p
    exact lcX_ok (fun _ _ _ z => z) (fun _ _ _ z => z) (fun _ _ _ z => z) R hm p
variable {j : Nat} {y : Str} {py : Pos}
end
end CT

namespace CT
open PySem PySem.Spec PyProof.Rows L2
section
variable {X : Cx} {b : Bs} {W : WX} {a c : Expr} {f g : SemX} {pos : Pos}
theorem sxt_cmp {o : CmpOp} {op : D → D → R D} (ho : Op2 X b WF (compareOp o) op) (hf : SX X b a f) (hg : SX X b c g) (hm : behindInMarks o c = false) : SXT X b (.Compare a [o] [c] pos) (xtOf (x2 op f g)) := by
  obtain ⟨r, h1, h2⟩ := ho
  refine PT.weak (pt_cmpR h1 hf hg hm) fun σ H Q ⟨F, m, R, p⟩ => ?_
  have p' : Yst X.K b σ F H m (fun c _ H' _ => Q c H') (bindX (f m) fun x m1 => bindX (g m1) fun y m2 => match op x y with
      | .ok (.bl c) => .ok (c, m2)
      | _ => .stuck) := by
    unfold xtOf x2 at p
    cases hf : f m with
    | stuck => rw [hf] at p; exact p
    | exc c => rw [hf] at p; exact p
    | ok x =>
      obtain ⟨x, m1⟩ := x
      rw [hf] at p
      simp only [bindX] at p ⊢
      cases hg : g m1 with
      | stuck => rw [hg] at p; exact p
      | exc c => rw [hg] at p; exact p
      | ok y =>
        obtain ⟨y, m2⟩ := y
        rw [hg] at p
        simp only at p ⊢
        cases ho : op x y with
        | stuck => rw [ho] at p; exact p
        | exc c => rw [ho] at p; exact p
        | ok d =>
          rw [ho] at p
          simp only [okX] at p
          cases hd : hasT d with
          | true => rw [hd] at p; exact False.elim p
          | false =>
            rw [hd] at p
            cases d <;> first | exact p | exact False.elim p
  refine seqX R p' fun x m1 F1 H1 v R1 G1 hv n1 p1 => seqX R1 p1 fun y m2 F2 H2 u R2 G2 hu n2 p2 => h2 σ F2 H2 _ x y v u R2.sub (hv.prog G2.p n1) hu ?_
  cases ho : op x y with
  | stuck => rw [ho] at p2; exact p2.elim
  | exc c => rw [ho] at p2; exact p2.elim
  | ok d =>
    rw [ho] at p2
    cases d <;> first | exact p2.elim | skip
    rename_i c
    intro F3 H3 G3 w hw
    cases hw
    exact ⟨c, rfl, p2 F3 H3 (R2.step G3) (R2.stepG G3)⟩
end
theorem xaNil_len : ∀ (m : Sl) xs m1, xaNil m = .ok (xs, m1) → xs.length = 0 := fun m xs m1 h => by cases h; rfl
theorem xaCons_len {f : SemX} {g : SemXA} {n : Nat} (hg : ∀ m xs m1, g m = .ok (xs, m1) → xs.length = n) : ∀ m xs m1, xaCons f g m = .ok (xs, m1) → xs.length = n + 1 := fun m xs m1 h => by
  unfold xaCons at h
  obtain ⟨x, m2, _, h⟩ := bindX_ok h
  obtain ⟨ys, m3, h2, h⟩ := bindX_ok h
  cases h
  rw [List.length_cons, hg m2 ys m1 h2]
end CT

namespace CT
open PySem PySem.Spec PyProof.Rows L2
end CT

namespace CT
open PySem PySem.Spec PyProof.Rows L2
open Classical in
noncomputable def sNewL (i : Nat) (h : SemA) (g : SemS) : SemS := fun m => ofR m (h m) fun ds => if hasTL ds = true then .stuck else
  if ∀ a : Addr, ∃ m', g (m.set i (some (lentD (some a) ds))) = .nx m' ∧ m'.length = m.length then .nx (List.replicate m.length none) else .stuck
theorem Rel.forgetAll {K : PySem.W.Frag} {b : Bs} {F H : Hp} {m : Sl} {σ : L2.St} (r : Rel K b F m σ H) {n : Nat} (hn : m.length = n) : Rel K b F (List.replicate n none) σ H := by
  have no : ∀ {j : Nat} {d : D}, (List.replicate n (none : Option D))[j]? = some (some d) → False := fun {j d} h => by
    rw [List.getElem?_replicate] at h
    split at h <;> cases h
  exact ⟨by rw [List.length_replicate, ← hn]; exact r.len, r.grow, fun j d q => (no q).elim, fun p q x y v w c e1 e2 e3 e4 o1 o2 => (no e1).elim⟩
section
variable {X : Cx} {b : Bs} {W : WX} {e : Expr} {rest : List Stmt} {pos : Pos} {i : Nat} {x : Str} {px : Pos}
theorem sss_newL {h : SemA} {g : SemS} (hN : X.N.Nodup) (hi : X.N[i]? = some x) (hx : Loc X.env.scope x) (hf : SO X b W e h) (hr : SSs X b W rest g) (hfn : X.fn x = true ∨ X.env.scope.names.lookup x = some .local := by first | exact .inl rfl | exact .inr rfl)
    (hs : swapsWithSole [.Name x px] e pos.line X.env = pure false := by rfl) (hw : swappedStores [.Name x px] e X.env = pure none := by rfl) : SSs X b W (.Assign [.Name x px] e pos :: rest) (sNewL i h g) :=
  PSs.weak (pss_cons (ps_asg hf (pg_name hN hi hx hfn) hs hw) hr) fun D' σ H ⟨F, m, R, p⟩ => by
    refine ⟨F, m, R, ?_⟩
    unfold sNewL at p
    cases hk : h m with
    | stuck => rw [hk] at p; exact p.elim
    | exc c => rw [hk] at p; exact fun F1 H1 G => p σ F1 H1 (R.step G) G.prog
    | ok ds =>
      rw [hk] at p
      simp only [ofR_ok] at p
      split at p
      · exact p.elim
      rename_i ht
      have ht : hasTL ds = false := by simpa using ht
      split at p
      rotate_left
      · exact p.elim
      rename_i hall
      intro F1 H1 G a xs h0 h1 h2 hv
      obtain ⟨m', hg, hl⟩ := hall a
      have R1 : Rel X.K b F1 (m.set i (some (lentD (some a) ds))) (σ.set i (some (.ref a))) H1 :=
        R.putN G (.inr (.inr (.inr ⟨_, _, _, a, mkKv xs, rfl, lent_ok rfl (fun c z => Option.some.inj z) h2 h1 h0 (RpL.base ds xs ht hv) ht⟩)))
      refine ⟨F1, _, R1, ?_⟩
      rw [hg]
      exact fun σ' F' H' R' P' => p σ' F' H' (R'.forgetAll hl) (G.prog.trans P')
end
end CT

namespace CT
open PySem PySem.Spec PyProof.Rows L2
def FnV (K : PySem.W.Frag) (mg : Str → Option Value) (x : String) : Prop := ∃ a, mg (Str.ofString x) = some (.ref a) ∧ exK K x = .ref a
section
variable {X : Cx} {b : Bs} {W : WX}
theorem se_fn {x : String} {pos : Pos} (hg : Gl X (Str.ofString x)) (h : FnV X.K X.mg x) (hd : (Str.ofString x == ("__debug__" : Str)) = false := by decide) : SE X b W (.Name (Str.ofString x) pos) (eC (.fn x)) := by
  obtain ⟨a, h1, h2⟩ := h
  exact PE.weak (pe_glob (v := .ref a) hg h1 rfl hd) fun σ H Q ⟨F, m, R, p⟩ => p.here R.sub _ (.fn h2)
end
section
variable {X : Cx} {b : Bs} {W : WX} {x : Str} {e : Expr} {es : List Expr} {h : SemA} {n k i : Nat} {p pos : Pos}
def TabOk (X : Cx) (b : Bs) (n k : Nat) (tbl : List (String × (List D → R D))) : Prop := ∀ x f, tbl.lookup x = some f → Callee X.prog X.w X.K X.mg X.base b.ex (Str.ofString x) n f k ∧ FnV X.K X.mg x
theorem tab_nil : TabOk X b n k [] := fun x f h => by cases h
theorem tab_cons {x : String} {f : List D → R D} {tbl : List (String × (List D → R D))} {j : Nat} (c : Callee X.prog X.w X.K X.mg X.base b.ex (Str.ofString x) n f j) (v : FnV X.K X.mg x) (t : TabOk X b n k tbl) (hj : j ≤ k := by decide) : TabOk X b n k ((x, f) :: tbl) := fun y g h => by
  rw [List.lookup_cons] at h
  split at h
  · rename_i q
    have q := eq_of_beq q
    subst q
    cases h
    exact ⟨c.mono hj, v⟩
  · exact t y g h
end
end CT

namespace CT
open PySem PySem.Spec PyProof.Rows L2
end CT

namespace CT
open PySem PySem.Spec PyProof.Rows L2
end CT

namespace CT
open PySem PySem.Spec PyProof.Rows L2
end CT

namespace CT
open PySem PySem.Spec PyProof.Rows L2
end CT

namespace CT
open PySem PySem.Spec PyProof.Rows L2
end CT

namespace CT
open PySem PySem.Spec PyProof.Rows L2
end CT

namespace CT
open PySem PySem.Spec PyProof.Rows L2
end CT

namespace CT
open PySem PySem.Spec PyProof.Rows L2
end CT

namespace CT
open PySem PySem.Spec PyProof.Rows L2
end CT

namespace CT
open PySem PySem.Spec PyProof.Rows L2
end CT

namespace CT
open PySem PySem.Spec PyProof.Rows L2
def xSeq (strict : Bool) (f : SemX) : SemXA := fun m => bindX (f m) fun x m1 => match x with
  | .lst t ds => if (strict && t) = true then .stuck else if (strict && hasTL ds) = true then .stuck else .ok (ds, m1)
  | _ => .stuck
section
variable {X : Cx} {b : Bs} {W : WX} {strict : Bool} {e tg : Expr} {f : SemX}
theorem six_seq (hf : SX X b e f) : SIX X b strict tg e (xSeq strict f) := by
  refine PI.weak (pi_list hf) fun σ H Rw ⟨F, m, R, p⟩ => ?_
  refine seqX R p fun x m1 F1 H1 v R1 G1 hv n1 p1 => ?_
  cases x <;> first | exact p1.elim | skip
  rename_i t ds
  simp only at p1
  split at p1
  · exact p1.elim
  rename_i c
  split at p1
  · exact p1.elim
  rename_i c2
  obtain ⟨a, xs, rfl, k1, k2⟩ := hv.lasts (strict := strict) R1.sub (by simpa using c)
  exact ⟨a, rfl, ⟨xs, k2 F1 H1 ⟨Same.refl _, R1.sub, fun _ _ z _ => z, fun _ => Same.refl _⟩⟩, p1 F1 H1 R1 (Step.refl _ _ _) _ (wk_list (noT_of c2) k1 k2)⟩
end
end CT

namespace CT
open PySem PySem.Spec PyProof.Rows L2
end CT

namespace CT
open PySem PySem.Spec PyProof.Rows L2
end CT

namespace CT
open PySem PySem.Spec PyProof.Rows L2
end CT

namespace CT
open PySem PySem.Spec PyProof.Rows L2
end CT

namespace CT
open PySem PySem.Spec PyProof.Rows L2
end CT

namespace CT
open PySem PySem.Spec PyProof.Rows L2
end CT

namespace CT
open PySem PySem.Spec PyProof.Rows L2
end CT

namespace CT
open PySem PySem.Spec PyProof.Rows L2
abbrev SemXP := Sl → R (Option Int × Sl)
def tSXP (K : PySem.W.Frag) (b : Bs) (f : SemXP) : TO := fun σ H Q => ∃ F m, Rel K b F m σ H ∧ Yst K b σ F H m (fun o _ H' _ => Q o H') (f m)
abbrev SXP (X : Cx) (b : Bs) (e : Option Expr) (f : SemXP) : Prop := PO X e (tSXP X.K b f)
def xpNo : SemXP := fun m => .ok (none, m)
def xpSo (f : SemX) : SemXP := fun m => bindX (f m) fun d m1 => match d with
  | .int i => .ok (some i, m1)
  | _ => .stuck
def xCut (f : SemX) (p q : SemXP) : SemX := fun m => bindX (f m) fun x m1 => bindX (p m1) fun lo m2 => bindX (q m2) fun hi m3 => okX (cutD x lo hi) m3
section
variable {X : Cx} {b : Bs} {e : Expr} {f : SemX} {pos p2 : Pos} {lo hi : Option Expr} {p q : SemXP}
theorem sxp_no : SXP X b none xpNo := PO.weak po_none fun σ H Q ⟨F, m, R, z⟩ => z F H R (Step.refl _ _ _)
theorem sxp_so (h : SX X b e f) : SXP X b (some e) (xpSo f) := PO.weak (po_some h) fun σ H Q ⟨F, m, R, z⟩ => by
  refine seqX R z fun x m1 F1 H1 v R1 G1 hv n1 z1 => ?_
  cases x <;> first | exact z1.elim | skip
  cases hv
  exact ⟨_, rfl, z1 F1 H1 R1 (Step.refl _ _ _)⟩
theorem seqXP {R' : Option Int → Hp → Prop} {σ : L2.St} {H : Hp} {α : Type} {h : SemXP} {k : Option Int → Sl → R (α × Sl)} {C : α → Hp → Hp → Sl → Prop} {F : Hp} {m : Sl} (r : Rel X.K b F m σ H) (p : Yst X.K b σ F H m C (bindX (h m) k))
    (q : ∀ x m1 F1 H1, Rel X.K b F1 m1 σ H1 → Step σ F H m F1 H1 m1 → Yst X.K b σ F1 H1 m1 C (k x m1) → R' x H1) : tSXP X.K b h σ H R' := by
  refine ⟨F, m, r, ?_⟩
  cases hf : h m with
  | stuck => rw [hf] at p; exact p.elim
  | exc c => rw [hf] at p; exact p.elim
  | ok d =>
    rw [hf] at p
    exact fun F1 H1 R1 G => q d.1 d.2 F1 H1 R1 G (Yst.step G p)
theorem sx_cut (hf : SX X b e f) (hp : SXP X b lo p) (hq : SXP X b hi q) : SX X b (.Subscript e (.Slice lo hi none p2) pos) (xCut f p q) := by
  refine PE.weak (pe_slice ((sl_list (X := X)).or ((sl_tupA (X := X)).or (sl_str (X := X)))) hf hp hq) fun σ H Q ⟨F, m, R, z⟩ => ?_
  refine seqX R z fun x m1 F1 H1 v R1 G1 hv n1 z1 => seqXP R1 z1 fun lo m2 F2 H2 R2 G2 z2 => seqXP R2 z2 fun hi m3 F3 H3 R3 G3 z3 => ?_
  have hv := (hv.prog G2.p n1).prog G3.p n1
  have s := R3.sub
  have z3 := Yst.here (W := fun _ _ _ _ => True) R3 z3
  cases x <;> first | exact z3.elim | skip
  · cases hv
    simp only [cutD] at z3
    split at z3
    · rename_i hl
      exact .inr (.inr ⟨_, rfl, hl, z3.here s _ (.str _)⟩)
    · exact z3.elim
  · obtain ⟨a, xs, rfl, h1', h2⟩ := hv.tuple'
    have h1 : SqT X.K H3 a xs := .inl (.inl h1')
    refine .inr (.inl ⟨a, xs, rfl, h1, fun hw => ?_, fun hw q hq => ?_⟩)
    · rw [← h2.length] at hw
      have z4 := z3.here s
      simp only [CV] at z4
      rw [cutA_all hw.1 hw.2] at z4
      exact z4 _ (.tup h1' h2)
    · have G := Grow.still (o := .tup (cutV xs lo hi)) s hq
      exact (z3 _ _ G) _ (.tup upd_same (cutA_rp (h2.grow G) lo hi))
  · obtain ⟨a, xs, rfl, h1, h2⟩ := hv.list s
    refine .inl ⟨a, xs, rfl, .inl (.inl h1), fun q hq => ?_⟩
    have G := Grow.still (o := .lst (cutV xs lo hi)) s hq
    exact (z3 _ _ G) _ (.lst upd_same (cutA_rp (h2.grow G) lo hi))
  · obtain ⟨a, xs, rfl, h1, h2⟩ := hv.frl s
    refine .inl ⟨a, xs, rfl, h1, fun q hq => ?_⟩
    have G := Grow.still (o := .lst (cutV xs lo hi)) s hq
    exact (z3 _ _ G) _ (.lst upd_same (cutA_rp (h2.grow G) lo hi))
end
end CT

namespace CT
open PySem PySem.Spec PyProof.Rows L2
end CT

namespace CT
open PySem PySem.Spec PyProof.Rows L2
end CT

namespace CT
open PySem PySem.Spec PyProof.Rows L2
abbrev PL (kls : Kls) (xs : List (Leaf × Value)) : Prop := Paired (fun (p : Option Int × V) (q : Leaf × Value) => lfOf p.1 = q.1 ∧ RelV p.2 q.2) kls xs
theorem PL.len {kls : Kls} {xs : List (Leaf × Value)} (r : PL kls xs) : kls.length = xs.length := by
  unfold PL at r
  induction r with
  | nil => rfl
  | cons _ _ ih => simp [ih]
end CT

namespace CT
open PySem PySem.Spec PyProof.Rows L2
end CT

namespace CT
open PySem PySem.Spec PyProof.Rows L2
end CT

namespace CT
open PySem PySem.Spec PyProof.Rows L2
def SstF (K : PySem.W.Frag) (b : Bs) (i : Nat) (t : Addr) (vs : List V) (F H : Hp) (D' : Ends) : RS → Prop
  | .nx m' => ∀ σ' F' H', Rel K b F' m' σ' H' → Prog F H F' H' → σ'[i]? = some (some (.ref t)) → H' t = some (.lst vs) → D'.nx σ' H'
  | _ => False
theorem SstF.prog {K : PySem.W.Frag} {b : Bs} {i : Nat} {t : Addr} {vs : List V} {F H F1 H1 : Hp} {D' : Ends} {r : RS} (g : Prog F H F1 H1) (p : SstF K b i t vs F H D' r) : SstF K b i t vs F1 H1 D' r := by
  cases r <;> first | exact p | exact fun σ' F' H' R q => p σ' F' H' R (g.trans q)
end CT

namespace CT
open PySem PySem.Spec PyProof.Rows L2
end CT

namespace CT
open PySem PySem.Spec PyProof.Rows L2
end CT

namespace CT
open PySem PySem.Spec PyProof.Rows L2
def strM {α : Type} (op : Str → D → R α) (f g : SemE) : Sl → R α := fun m => (f m).bind fun x => match x with
  | .str z => (g m).bind (op z)
  | _ => .stuck
def splitD (a : Str) : D → R (List D)
  | .str b => if (b.length == 0) = false ∧ a.length + 2 ≤ sizeLine then .ok ((Txt.split a b).map D.str) else .stuck
  | _ => .stuck
def partD (a : Str) : D → R D
  | .str b => if (b.length == 0) = false ∧ a.length ≤ sizeLine then .ok (.tup [.str (Txt.partition a b).1, .str (Txt.partition a b).2.1, .str (Txt.partition a b).2.2]) else .stuck
  | _ => .stuck
def repS : D → D → R D
  | .str z, .int n => if n = 0 then .ok (.str Str.empty) else if n = 1 then .ok (.str z) else .stuck
  | _, _ => .stuck
def intA : List D → R D
  | [.str a] => match PySem.intText? a with
    | some n => if a.length ≤ 640 then .ok (.int n) else .stuck
    | none => .stuck
  | xs => intD xs
theorem strs_rp2 {K : PySem.W.Frag} {F H0 H : Hp} : ∀ ys : List Str, RpL K F H0 H (ys.map D.str) (ys.map V.str)
  | [] => .nil
  | y :: ys => .cons (.str y) (strs_rp2 ys)
section
variable {X : Cx} {b : Bs} {W : WX} {o e : Expr} {f g : SemE} {apos pos : Pos}
theorem so_split (ho : SE X b W o f) (he : SE X b W e g) (hs : starEach [e] X.env = [(false, eval e X.env)] := by rfl) (hbase : attributeBase o "split" X.env (eval o X.env) = eval o X.env := by rfl) (hline : (apos.endLine == pos.line) = true := by rfl) :
    SO X b W (.Call (.Attribute o "split" apos) [e] [] pos) (strM splitD f g) := by
  refine PE.weak (pe_split ho he hs hbase hline) fun σ H Q ⟨F, m, R, p⟩ => ?_
  refine seq R p fun x F1 H1 v R1 G1 hv p1 => ?_
  cases x <;> first | exact p1.elim | skip
  rename_i z
  cases hv
  refine ⟨⟨z, rfl⟩, seq R1 p1 fun y F2 H2 u R2 G2 hu p2 => ?_⟩
  cases y <;> first | exact p2.elim | skip
  rename_i y
  cases hu
  simp only [splitD] at p2
  split at p2
  · rename_i hl
    refine ⟨z, y, rfl, rfl, hl.1, hl.2, fun q hq => ?_⟩
    have G := Grow.loose (o := .lst ((Txt.split z y).map V.str)) R2.sub hq
    exact (p2 _ _ G) q _ ((G1.trans G2).same.free hq) (R2.sub.free hq) upd_same (strs_rp2 _)
  · exact p2.elim
theorem se_partition (ho : SE X b W o f) (he : SE X b W e g) (hs : starEach [e] X.env = [(false, eval e X.env)] := by rfl) (hbase : attributeBase o "partition" X.env (eval o X.env) = eval o X.env := by rfl) (hline : (apos.endLine == pos.line) = true := by rfl) :
    SE X b W (.Call (.Attribute o "partition" apos) [e] [] pos) (strM partD f g) := by
  refine PE.weak (pe_partition ho he hs hbase hline) fun σ H Q ⟨F, m, R, p⟩ => ?_
  refine seq R p fun x F1 H1 v R1 G1 hv p1 => ?_
  cases x <;> first | exact p1.elim | skip
  rename_i z
  cases hv
  refine ⟨⟨z, rfl⟩, seq R1 p1 fun y F2 H2 u R2 G2 hu p2 => ?_⟩
  cases y <;> first | exact p2.elim | skip
  rename_i y
  cases hu
  simp only [partD] at p2
  split at p2
  · rename_i hl
    refine ⟨z, y, rfl, rfl, hl.1, hl.2, fun q hq => ?_⟩
    have G := Grow.still (o := .tup [.str (Txt.partition z y).1, .str (Txt.partition z y).2.1, .str (Txt.partition z y).2.2]) R2.sub hq
    exact (p2 _ _ G) _ (.tup upd_same (.cons (.str _) (.cons (.str _) (.cons (.str _) .nil))))
  · exact p2.elim
theorem op_mulS : OpR X (binaryOp .Mult) (fun x y H Q => ∃ (z : Str) (n : Int), x = .str z ∧ y = .int n ∧ ((n = 0 ∧ Q (.str Str.empty) H) ∨ (n = 1 ∧ Q (.str z) H))) := by
  intro pins s σ H x y v u Q I rx ry h
  obtain ⟨z, n, rfl, rfl, h⟩ := h
  obtain ⟨t, rfl⟩ := rx
  obtain ⟨t', rfl⟩ := ry
  rcases h with ⟨rfl, h⟩ | ⟨rfl, h⟩
  · exact PySem.P.mul_str_none (by decide) (by decide) ⟨.str Str.empty, H, I.tok _, ⟨_, rfl⟩, h⟩
  · refine PySem.P.mul_str (by decide) (fun _ z => absurd z (by simp)) (fun _ z => absurd z (by simp)) ?_
    rw [if_neg (by decide), if_pos (by simp)]
    exact ⟨.str z, H, I, ⟨t, rfl⟩, h⟩
theorem o_repS : Op2 X b W (binaryOp .Mult) repS := by
  refine ⟨_, op_mulS, fun σ F H Q x y v u s hx hy p => ?_⟩
  unfold repS at p
  split at p
  · cases hx; cases hy
    split at p
    · rename_i hn
      exact ⟨_, _, rfl, rfl, .inl ⟨hn, p.here s _ (.str _)⟩⟩
    · split at p
      · rename_i hn
        exact ⟨_, _, rfl, rfl, .inr ⟨hn, p.here s _ (.str _)⟩⟩
      · exact p.elim
  · exact p.elim
theorem c_intA : CallD X b W (.type "int") intA := by
  obtain ⟨r, hr, hk⟩ := c_int (X := X) (b := b) (W := W)
  refine ⟨_, call_int_str.or hr, fun σ F H Q xs vs s rr p => ?_⟩
  unfold intA at p
  split at p
  · obtain ⟨v, rfl, h⟩ := rr.one
    cases h
    split at p
    · rename_i n hn
      split at p
      · rename_i hl
        exact .inl ⟨_, n, rfl, hn, hl, p.here s _ (.int _)⟩
      · exact p.elim
    · exact p.elim
  · exact .inr (hk σ F H Q xs vs s rr p)
end
def findD (a : Str) : D → R D
  | .str b => .ok (.int (Txt.find a b))
  | _ => .stuck
def findRep (y z : Str) (f g : SemE) : SemE := fun m => (f m).bind fun x => match x with
  | .str a => if a.length + (a.length + 1) * z.length ≤ 16777216 then (g m).bind (findD (Txt.replace a y z)) else .stuck
  | _ => .stuck
def sSetFR (i : Nat) (y z : Str) (f g : SemE) : SemS := sSet i (findRep y z f g)
section
variable {X : Cx} {o e : Expr} {to te : TE}
theorem pet_m1 {id : String} {name : Str} {apos pos : Pos} {r : V → List V → Hp → VK → Prop} (slot : Slot "str" name id) (ty : typeOf (.builtin id) = pure (.type "method_descriptor")) (rule : MtR X id r) (ho : PET X o to) (he : PE X e te)
    (hs : starEach [e] X.env = [(false, eval e X.env)] := by rfl) (hbase : attributeBase o name X.env (eval o X.env) = eval o X.env := by rfl) (hline : (apos.endLine == pos.line) = true := by rfl) :
    PET X (.Call (.Attribute o name apos) [e] [] pos) (tM1 r to te) := by
  intro pins s σ H Q h0 I h
  refine PySem.Call_method1 hbase hs hline (thn (ho pins s σ H _ h0 I h) fun v s1 ⟨x, H1, I1, r1, q1⟩ => ?_)
  obtain ⟨⟨a, rfl⟩, q1⟩ := q1
  obtain ⟨t, rfl⟩ := _root_.id r1
  refine ⟨"str", _, PySem.F.plainAttrs_str, slot, ty, typeIs_str _ _ _, (fun _ e => nomatch e), Calls.callWith_builtin rfl (Calls.evalArgs_plain (Calls.spliced_cons ?_))⟩
  exact thn (he.run pins s1 σ H1 _ I1 q1) fun u s2 ⟨y, H2, I2, r2, q2⟩ => Calls.spliced_nil (rule pins s2 σ H2 _ [y] _ [u] Q I2 r1 (.cons r2 .nil) q2)
theorem pst_asg {tg e : Expr} {te : TE} {g : TG} {pos : Pos} (he : PET X e te) (hg : PG X tg g) (hs : swapsWithSole [tg] e pos.line X.env = pure false := by rfl) (hw : swappedStores [tg] e X.env = pure none := by rfl)
    (h1 : (assignEach [tg] X.env).map (·.2) = [assign tg X.env] := by rfl) : PST X (.Assign [tg] e pos) (tAsg te g) := by
  intro pins s σ H D h0 I h
  refine wpAny_Assign_stores (thn (he pins s σ H _ h0 I h) fun v s1 ⟨x, H1, I1, r1, q1⟩ => ?_) hs hw
  rw [h1]
  exact thn (hg.run pins s1 σ H1 x v _ I1 r1 q1) fun _ s2 q => q
end
section
theorem PSsT.weak {X : Cx} {e : List Stmt} {t t' : TS} (h : PSsT X e t) (w : ∀ D σ H, t' D σ H → t D σ H) : PSsT X e t' := fun pins s σ H D h0 I q => h pins s σ H D h0 I (w _ _ _ q)
variable {X : Cx} {b : Bs} {W : WX} {o e : Expr} {rest : List Stmt} {f g : SemE} {h : SemS} {y z x : Str} {i j k : Nat} {c0 c1 rpos apos2 apos cpos pos px : Pos}
theorem ssst_FR (hN : X.N.Nodup) (hi : X.N[i]? = some x) (hx : Loc X.env.scope x) (ho : SE X b W o f) (he : SE X b W e g) (hr : SSs X b W rest h) (hfn : X.fn x = true ∨ X.env.scope.names.lookup x = some .local := by first | exact .inl rfl | exact .inr rfl)
    (hyz : (y == z) = false := by decide)
    (hst : starEach [.Constant (.str y) j c0, .Constant (.str z) k c1] X.env = [(false, eval (.Constant (.str y) j c0) X.env), (false, eval (.Constant (.str z) k c1) X.env)] := by rfl)
    (hbase : attributeBase o "replace" X.env (eval o X.env) = eval o X.env := by rfl) (hline : (apos2.endLine == rpos.line) = true := by rfl)
    (hs1 : starEach [e] X.env = [(false, eval e X.env)] := by rfl) (hbase1 : attributeBase (.Call (.Attribute o "replace" apos2) [.Constant (.str y) j c0, .Constant (.str z) k c1] [] rpos) "find" X.env (eval (.Call (.Attribute o "replace" apos2) [.Constant (.str y) j c0, .Constant (.str z) k c1] [] rpos) X.env) = eval (.Call (.Attribute o "replace" apos2) [.Constant (.str y) j c0, .Constant (.str z) k c1] [] rpos) X.env := by rfl) (hline1 : (apos.endLine == cpos.line) = true := by rfl)
    (hs : swapsWithSole [.Name x px] (.Call (.Attribute (.Call (.Attribute o "replace" apos2) [.Constant (.str y) j c0, .Constant (.str z) k c1] [] rpos) "find" apos) [e] [] cpos) pos.line X.env = pure false := by rfl) (hw : swappedStores [.Name x px] (.Call (.Attribute (.Call (.Attribute o "replace" apos2) [.Constant (.str y) j c0, .Constant (.str z) k c1] [] rpos) "find" apos) [e] [] cpos) X.env = pure none := by rfl) :
    PSsT X (.Assign [.Name x px] (.Call (.Attribute (.Call (.Attribute o "replace" apos2) [.Constant (.str y) j c0, .Constant (.str z) k c1] [] rpos) "find" apos) [e] [] cpos) pos :: rest) (tSS X.K b W (sSeq (sSetFR i y z f g) h)) := by
  refine PSsT.weak (psst_cons (pst_asg (pet_m1 PySem.F.slot_str_find PySem.F.type_str_find mt_find (CwR.pet_replC ho hyz hst hbase hline) he hs1 hbase1 hline1) (pg_name hN hi hx hfn) hs hw) (PSsT.of hr)) fun D' σ H ⟨F, m, R, p⟩ => ?_
  have p : Sst X.K b W F H D' (match sSetFR i y z f g m with
    | .nx m' => h m'
    | r => r) := p
  refine ⟨F, m, R, ?_⟩
  have bad : ∀ w, f m = .ok w → (∀ a, w ≠ .str a) → False := fun w hw hn => by
    have e : sSetFR i y z f g m = .stuck := by
      unfold sSetFR sSet findRep
      rw [hw]
      cases w <;> first | rfl | exact absurd rfl (hn _)
    rw [e] at p
    exact p.elim
  cases hf : f m with
  | stuck =>
    have e : sSetFR i y z f g m = .stuck := by unfold sSetFR sSet findRep; rw [hf]; rfl
    rw [e] at p
    exact p.elim
  | exc c =>
    have e : sSetFR i y z f g m = .exc c m := by unfold sSetFR sSet findRep; rw [hf]; rfl
    rw [e] at p
    exact fun F1 H1 G => p σ F1 H1 (R.step G) G.prog
  | ok x =>
    intro F1 H1 G1 v hv
    have R1 := R.step G1
    have p := Sst.prog G1.prog p
    by_cases hx : ∃ a, x = .str a
    rotate_left
    · exact (bad x hf fun a e => hx ⟨a, e⟩).elim
    obtain ⟨a, rfl⟩ := hx
    cases hv
    refine ⟨a, rfl, ?_⟩
    by_cases hl : a.length + (a.length + 1) * z.length ≤ 16777216
    rotate_left
    · have e : sSetFR i y z f g m = .stuck := by unfold sSetFR sSet findRep; rw [hf]; simp only [CT.R.bind_ok, if_neg hl]; rfl
      rw [e] at p
      exact p.elim
    have e : sSetFR i y z f g m = ofR m ((g m).bind (findD (Txt.replace a y z))) fun d => ofR m (putR i d m) .nx := by unfold sSetFR sSet findRep; rw [hf]; simp only [CT.R.bind_ok, if_pos hl]
    rw [e] at p
    refine ⟨hl, ⟨_, rfl⟩, F1, m, R1, ?_⟩
    cases hg : g m with
    | stuck => rw [hg] at p; exact p.elim
    | exc c => rw [hg] at p; exact fun F2 H2 G2 => p σ F2 H2 (R1.step G2) G2.prog
    | ok u =>
      rw [hg] at p
      intro F2 H2 G2 w hw
      have p := Sst.prog G2.prog p
      have hu : ∃ bb, u = .str bb := by cases u <;> first | exact p.elim | exact ⟨_, rfl⟩
      obtain ⟨bb, rfl⟩ := hu
      cases hw
      simp only [CT.R.bind_ok, findD, ofR_ok] at p
      refine ⟨_, bb, rfl, rfl, ?_⟩
      rw [show putR i (D.int (Txt.find (Txt.replace a y z) bb)) m = .ok (m.set i (some (.int (Txt.find (Txt.replace a y z) bb)))) from rfl] at p
      simp only [ofR_ok] at p
      exact ⟨F2, _, (R1.step G2).put rfl (.int _), p⟩
end
end CT

namespace CT
open PySem PySem.Spec PyProof.Rows L2
section
variable {X : Cx} {k : Nat} {a c : Expr} {sp0 pos : Pos} {e : Expr} {es : List Expr} {t : TA} {t0 : TE}
theorem arm_Call_Sub (a c : Expr) (p : Pos) (args : List Expr) (keywords : List Keyword) (pos : Pos) (env : Env) : eval (.Call (.Subscript a c p) args keywords pos) env = (do
    callWith pos (← eval (.Subscript a c p) env) [] (backTo pos (starEach args env)) (backToKw pos (keywordEach keywords env))) := rfl
theorem pe_callE (hv : PE X (.Subscript a c sp0) t0) (hr : Room k X.A) (hgd : X.A.guards = some [])
    (ha : L2.PA X (e :: es) t) (he : starEach (e :: es) X.env = (false, eval e X.env) :: starEach es X.env := by rfl) (hpl : (backTo pos (starEach es X.env)).any (·.1) = false := by rfl) :
    PE X (.Call (.Subscript a c sp0) (e :: es) [] pos) (fun σ H Q => t0 σ H fun v H1 => ∃ (f : Addr) (fd : FuncData) (ps : List Str) (sp : Sp) (E : L2.St → XK), v = .ref f ∧ FnG X.prog X.w X.K X.mg X.base k f fd ps sp ∧ PySem.W.keepIn X.K (.ref f) = true ∧ L2.Binds X.K fd ps [] ∧ (∀ σ, PassesAt (L2.CX X.prog X.w) X σ (E σ)) ∧ tCallS sp E t σ H1 Q) := by
  refine ⟨fun pins s σ H Q I h => ?_⟩
  rw [arm_Call_Sub]
  refine wpAny_bind (thn (hv.run pins s σ H _ I h) fun u s1 ⟨v, H1, I1, rv, f, fd, ps, sp, E, ev, F, hk, hb, hx, q⟩ => ?_)
  subst ev
  cases rv
  refine PySem.W.callWith_K (h₀ := X.base) I1.ok.mod.kin hk (thn (ha.run pos pins s1 σ H1 _ I1 q) fun us s2 ⟨vs, H2, I2, r, q⟩ => ⟨I2.kIn, ?_⟩) he hpl
  have b := hb s2 us I2.kIn (by rw [List.append_nil, ← r.length]; exact F.len _ _ _ _ q)
  rw [List.append_nil] at b
  refine wpAny_call (codeAny_mono (F.run X.A X.stack s2 H2 ⟨us, []⟩ us vs Q (E σ) hr hgd I2.env0 b r q) fun r s' hq => ?_)
  rcases r with er | fl
  · exact hx σ pins H2 s2 er s' I2 hq
  · rcases fl with _ | _ | _ | u
    all_goals first | exact I2.after hq | exact False.elim hq
end
def fnAt (tbl : List (String × (List D → R D))) (x : D) : R (List D → R D) := match x with
  | .fn y => (match tbl.lookup y with
    | some g => .ok g
    | none => .stuck)
  | _ => .stuck
def eCallE (f : SemE) (tbl : List (String × (List D → R D))) (h : SemA) : SemE := fun m => (f m).bind fun x => (fnAt tbl x).bind fun g => eA (callF g) h m
def aCallE (f : SemE) (tbl : List (String × (List D → R D))) (h : SemA) : SemA := fun m => (f m).bind fun x => (fnAt tbl x).bind fun g => aThen h (callO g) m
section
variable {X : Cx} {b : Bs} {W : WX} {a c : Expr} {e : Expr} {es : List Expr} {h : SemA} {f : SemE} {n k : Nat} {sp0 pos : Pos} {tbl : List (String × (List D → R D))}
theorem fnAt_ok {x : D} {g : List D → R D} (h : fnAt tbl x = .ok g) : ∃ y, x = .fn y ∧ tbl.lookup y = some g := by
  unfold fnAt at h
  split at h
  · rename_i y
    split at h
    · rename_i g' hg
      cases h
      exact ⟨y, rfl, hg⟩
    · cases h
  · cases h
theorem fnAt_no {x : D} {c : String} : fnAt tbl x ≠ .exc c := by
  unfold fnAt
  split
  · split <;> intro h <;> cases h
  · intro h; cases h
theorem se_callE (hf : SE X b W (.Subscript a c sp0) f) (T : TabOk X b n k tbl) (tk : Takes X W) (hr : Room k X.A) (hgd : X.A.guards = some []) (ha : SA X b W (e :: es) h) (hl : (e :: es).length = n) (hlen : ∀ m xs, h m = .ok xs → xs.length = (e :: es).length)
    (he : starEach (e :: es) X.env = (false, eval e X.env) :: starEach es X.env := by rfl) (hpl : (backTo pos (starEach es X.env)).any (·.1) = false := by rfl) : SE X b W (.Call (.Subscript a c sp0) (e :: es) [] pos) (eCallE f tbl h) := by
  refine PE.weak (pe_callE hf hr hgd ha he hpl) fun σ H Q ⟨F, m, R, p⟩ => ?_
  refine seq R p fun x F1 H1 v R1 G1 hv p1 => ?_
  cases hq : fnAt tbl x with
  | stuck => rw [hq] at p1; exact p1.elim
  | exc c => exact absurd hq fnAt_no
  | ok g =>
    rw [hq] at p1
    simp only [CT.R.bind_ok] at p1
    obtain ⟨y, rfl, hg⟩ := fnAt_ok hq
    obtain ⟨C, fa, hm, hn⟩ := T y g hg
    obtain ⟨fa', fd, ps, FF, hm', hk, hb⟩ := C.ok
    rw [hm] at hm'; cases hm'
    cases hv with
    | fn e =>
      rw [hn] at e; cases e
      refine ⟨fa, fd, ps, _, _, rfl, FF, hk, hb, fun σ => passAt tk σ, F1, m, R1, ?_⟩
      unfold eA at p1
      cases hm : h m with
      | stuck => rw [hm] at p1; exact p1.elim
      | exc c => rw [hm] at p1; exact p1
      | ok xs =>
        rw [hm] at p1
        refine fun F2 H2 G vs hv => ?_
        exact spF_call (R1.step G).sub hv (R1.step G).grow.same (by rw [← hl]; exact hlen m xs hm) (Pst.grow G p1)
theorem so_callE (hf : SE X b W (.Subscript a c sp0) f) (T : TabOk X b n k tbl) (tk : Takes X W) (hr : Room k X.A) (hgd : X.A.guards = some []) (ha : SA X b W (e :: es) h) (hl : (e :: es).length = n) (hlen : ∀ m xs, h m = .ok xs → xs.length = (e :: es).length)
    (he : starEach (e :: es) X.env = (false, eval e X.env) :: starEach es X.env := by rfl) (hpl : (backTo pos (starEach es X.env)).any (·.1) = false := by rfl) : SO X b W (.Call (.Subscript a c sp0) (e :: es) [] pos) (aCallE f tbl h) := by
  refine PE.weak (pe_callE hf hr hgd ha he hpl) fun σ H Q ⟨F, m, R, p⟩ => ?_
  refine seq R p fun x F1 H1 v R1 G1 hv p1 => ?_
  cases hq : fnAt tbl x with
  | stuck => rw [hq] at p1; exact p1.elim
  | exc c => exact absurd hq fnAt_no
  | ok g =>
    rw [hq] at p1
    simp only [CT.R.bind_ok] at p1
    obtain ⟨y, rfl, hg⟩ := fnAt_ok hq
    obtain ⟨C, fa, hm, hn⟩ := T y g hg
    obtain ⟨fa', fd, ps, FF, hm', hk, hb⟩ := C.ok
    rw [hm] at hm'; cases hm'
    cases hv with
    | fn e =>
      rw [hn] at e; cases e
      refine ⟨fa, fd, ps, _, _, rfl, FF, hk, hb, fun σ => passAt tk σ, F1, m, R1, ?_⟩
      unfold aThen at p1
      cases hm : h m with
      | stuck => rw [hm] at p1; exact p1.elim
      | exc c => rw [hm] at p1; exact p1
      | ok xs =>
        rw [hm] at p1
        refine fun F2 H2 G vs hv => ?_
        have p := Pst.grow G p1
        simp only [CT.R.bind_ok, callO] at p
        split at p
        · exact p.elim
        · rename_i ht
          have ht : hasTL xs = false := by simpa using ht
          refine ⟨F2, xs, (R1.step G).sub, RpL.base xs vs ht hv, ht, by rw [← hl]; exact hlen m xs hm, ?_⟩
          cases hf : g xs with
          | stuck => rw [hf] at p; exact p.elim
          | exc c => rw [hf] at p; exact fun F' H' G' => p F' H' G'
          | ok d =>
            rw [hf] at p
            simp only [CT.R.bind_ok] at p
            split at p
            · rename_i es
              refine fun F' H' v G' so => ?_
              obtain ⟨a, us, as, rfl, h1, h2, h3, h4, h5⟩ := so.mutW
              exact p F' H' G' a us ((G1.trans G).same.free h3) h2 h1 (OwL.rp _ _ _ (OwL.base (fun _ z => (R1.step G).grow.same.free z) _ _ _ h4))
            · exact p.elim
end
open Classical in
noncomputable def sNewLR (i : Nat) (h : SemA) (g : SemS) : SemS := fun m => ofR m (h m) fun ds => if hasTL ds = true then .stuck else
  if c : ∃ x : Bool, ∀ a : Addr, g (m.set i (some (lentD (some a) ds))) = .rt (.bl x) then .rt (.bl c.choose) else .stuck
theorem sNewLR_ok {i : Nat} {h : SemA} {g : SemS} {m : Sl} {ds : List D} {x : Bool} (h1 : h m = .ok ds) (n : hasTL ds = false) (h2 : ∀ a : Addr, g (m.set i (some (lentD (some a) ds))) = .rt (.bl x)) : sNewLR i h g m = .rt (.bl x) := by
  have c : ∃ x : Bool, ∀ a : Addr, g (m.set i (some (lentD (some a) ds))) = .rt (.bl x) := ⟨x, h2⟩
  unfold sNewLR
  rw [h1, ofR_ok, if_neg (by rw [n]; decide), dif_pos c]
  have := (c.choose_spec 0).symm.trans (h2 0)
  rw [D.bl.inj (RS.rt.inj this)]
section
variable {X : Cx} {b : Bs} {W : WX} {e : Expr} {rest : List Stmt} {pos : Pos} {i : Nat} {x : Str} {px : Pos}
theorem sss_newLR {h : SemA} {g : SemS} (hN : X.N.Nodup) (hi : X.N[i]? = some x) (hx : Loc X.env.scope x) (hf : SO X b W e h) (hr : SSs X b W rest g) (hfn : X.fn x = true ∨ X.env.scope.names.lookup x = some .local := by first | exact .inl rfl | exact .inr rfl)
    (hs : swapsWithSole [.Name x px] e pos.line X.env = pure false := by rfl) (hw : swappedStores [.Name x px] e X.env = pure none := by rfl) : SSs X b W (.Assign [.Name x px] e pos :: rest) (sNewLR i h g) :=
  PSs.weak (pss_cons (ps_asg hf (pg_name hN hi hx hfn) hs hw) hr) fun D' σ H ⟨F, m, R, p⟩ => by
    refine ⟨F, m, R, ?_⟩
    unfold sNewLR at p
    cases hk : h m with
    | stuck => rw [hk] at p; exact p.elim
    | exc c => rw [hk] at p; exact fun F1 H1 G => p σ F1 H1 (R.step G) G.prog
    | ok ds =>
      rw [hk] at p
      simp only [ofR_ok] at p
      split at p
      · exact p.elim
      rename_i ht
      have ht : hasTL ds = false := by simpa using ht
      split at p
      rotate_left
      · exact p.elim
      rename_i hall
      intro F1 H1 G a xs h0 h1 h2 hv
      have hg := hall.choose_spec a
      have R1 : Rel X.K b F1 (m.set i (some (lentD (some a) ds))) (σ.set i (some (.ref a))) H1 :=
        R.putN G (.inr (.inr (.inr ⟨_, _, _, a, mkKv xs, rfl, lent_ok rfl (fun c z => Option.some.inj z) h2 h1 h0 (RpL.base ds xs ht hv) ht⟩)))
      refine ⟨F1, _, R1, ?_⟩
      rw [hg]
      exact p
end
end CT

namespace CT
open PySem PySem.Spec PyProof.Rows L2
abbrev SSsT (X : Cx) (b : Bs) (W : WX) (es : List Stmt) (f : SemS) : Prop := PSsT X es (tSS X.K b W f)
section
variable {P : Program} {w : World} {K : PySem.W.Frag} {mg : Str → Option Value} {base : Heap}
theorem in_call {s : Shared} {sc : Scope} {ps : List Str} {us : List Value} {env : Env} {h1 : Heap} {n : Nat} (kd : ∀ y ∈ ps.zip us, env.kindOf y.1 = some .local) (nc : ∀ y ∈ sc.names, y.2 ≠ .cell)
    (ns : h1.Ns s.heap.objs.size fun x => (ps.zip us).reverse.lookup x) (kp : ∀ b o, s.heap.get? b = some o → h1.get? b = some o) :
    InCallC s s.heap.objs.size (bindL env.kindOf (ps.zip us) fun _ => none) (cellsFrom (s.heap.objs.size + 1) sc.names []) (bindC env.kindOf (ps.zip us) fun _ => none) ({ s with heap := h1, toks := s.toks + n } : Shared) := by
  rw [show bindL env.kindOf (ps.zip us) (fun _ => none) = fun x => (ps.zip us).reverse.lookup x from funext fun y => by
    rw [bindL_loc _ _ kd y]; cases List.lookup y (ps.zip us).reverse <;> rfl, cells_none _ _ _ nc]
  exact ⟨⟨⟨_, _, rfl⟩, ns, kp, Nat.le_refl _⟩, fun _ _ q => absurd q (by simp), .nil, fun _ _ q => absurd q (by simp)⟩
theorem Fun.okGT {x qual : Str} {st : Stmt} {f : Addr} {fd : FuncData} {N ps : List Str} {k : Nat} {sp : Sp} (F : Fun K x qual st f fd) (S : FnScope N ps (defScope st)) (nc : ∀ y ∈ (defScope st).names, y.2 ≠ .cell) (hp : 1 ≤ ps.length) (len : ∀ vs H Q E, sp vs H Q E → vs.length = ps.length)
    (hbody : ∀ (cdv : Value) (A : Around) (outer : List Env) (s : Shared) (H : Hp) (vs : List V) (Q : VK) (E : XK), Room k (A.deeper (envOfC qual (defScope st) s.heap.objs.size f cdv)) → (A.deeper (envOfC qual (defScope st) s.heap.objs.size f cdv)).guards = some [] → sp vs H Q E →
      ∃ t, PSsT (cxOf (L2.CX P w) P w K mg base N qual (defScope st) f cdv A outer s H E) (defBody st) t ∧ t { nx := fun _ H' => Q .non H', rt := Q } (start N vs) H) : FnG P w K mg base (k + 1) f fd ps sp := by
  obtain ⟨oc, od, kV, doc, pm, an, cdv, ct, osl, rfl, lk, hcd⟩ := F.ex
  refine ⟨len, fun A outer s H args us vs Q E hr hgd e0 hb r hsp => ?_⟩
  have hl := len _ _ _ _ hsp
  have kept : ∀ b o, base.get? b = some o → s.heap.get? b = some o := fun b o e => (e0.bs b o e).1
  have KX : K.In s.heap := e0.mod.kin.keeps kept
  have loc : ∀ y ∈ ps.zip us, (defScope st).names.lookup y.1 = some .local := fun ⟨n, v⟩ q => (S.par n (List.of_mem_zip q).1).elim id fun z => absurd rfl (nc _ (PySem.mem_of_lookup z))
  refine codeAny_call_function hr.depth (KX _ _ lk) rfl S.co S.gen rfl (PySem.W.codeRec_of KX hcd) (hb _ _ _ _ ?_)
  refine wpAny_newFunctionEnv nc loc (fun h1 ns sb => ?_) S.kind
  have kp : ∀ b o, s.heap.get? b = some o → h1.get? b = some o := fun b o q => sb.extBut b o (Nat.ne_of_lt (Heap.lt_size q)) (Heap.get?_push_of_some _ q)
  have z1 : 1 ≤ (ps.zip us).length := by rw [List.length_zip, ← r.length, hl, Nat.min_self]; exact hp
  have ev : newEnv (defScope st) s.heap.objs.size mainGlobals [] (qual ++ ".<locals>.") (some f) cdv none builtinsNs = envOfC qual (defScope st) s.heap.objs.size f cdv := by
    unfold envOfC; rw [cells_none _ _ _ nc] <;> rfl
  have kd : ∀ y ∈ ps.zip us, (envOfC qual (defScope st) s.heap.objs.size f cdv).kindOf y.1 = some .local := fun y q => by
    have := loc y q
    first
    | exact this
    | simpa [Env.kindOf, envOfC, newEnv, S.kind] using this
  have ic := in_call (n := (ps.zip us).length) kd nc ns kp
  have tk : 1 ≤ ({ s with heap := h1, toks := s.toks + (ps.zip us).length } : Shared).toks := Nat.le_trans z1 (Nat.le_add_left _ _)
  show (({ s with heap := h1, toks := s.toks + (ps.zip us).length } : Shared)).heap.NoLimit ∧ codeAny (model P w) A (.func (defBody st) (newEnv (defScope st) s.heap.objs.size mainGlobals [] (qual ++ ".<locals>.") (some f) cdv none builtinsNs)) _ (({ s with heap := h1, toks := s.toks + (ps.zip us).length } : Shared))
  rw [ev]
  generalize ({ s with heap := h1, toks := s.toks + (ps.zip us).length } : Shared) = s1 at ic tk ⊢
  refine ⟨(e0.mod.nolimit.keeps kept).keeps ic.toInCall.keep, codeAny_func ?_⟩
  obtain ⟨t, ht, hq⟩ := hbody cdv A outer s H vs Q E (hr.deeper _) hgd hsp
  have I := inv_start (CX := L2.CX P w) (E := E) S hr.hd e0 hl r ic
  refine wpAny_mono (ht [] s1 (start N vs) H _ tk I hq) (fun fl s' hs => ?_) fun e s' hs => hs
  rcases fl with _ | u | _ | _
  all_goals first
    | (obtain ⟨_, _, _, z⟩ := hs; exact z.elim)
    | (obtain ⟨v, σ', H', J, rv, z⟩ := hs; exact ⟨v, H', J.os, J.bare, J.base, J.hok, rv, z⟩)
    | (obtain ⟨σ', H', J, z⟩ := hs; exact ⟨V.non, H', J.os, J.bare, J.base, J.hok, rfl, z⟩)
theorem def_fnT {x : Str} {st : Stmt} {f : Addr} {fd : FuncData} {N ps : List Str} {k : Nat} {ex : String → Value} {g : SemS} (F : Fun K x x st f fd) (S : FnScope N ps (defScope st)) (nc : ∀ y ∈ (defScope st).names, y.2 ≠ .cell) (hp : 1 ≤ ps.length)
    (hbody : ∀ (cdv : Value) (A : Around) (outer : List Env) (s : Shared) (H : Hp) (E : XK) (F0 : Hp), Room k (A.deeper (envOfC x (defScope st) s.heap.objs.size f cdv)) → (A.deeper (envOfC x (defScope st) s.heap.objs.size f cdv)).guards = some [] →
      SSsT (cxOf (L2.CX P w) P w K mg base N x (defScope st) f cdv A outer s H E) ⟨ex, F0, H⟩ (fun c d _ H' => E c d H') (defBody st) g) :
    FnG P w K mg base (k + 1) f fd ps (spF K ex ps.length (defF ps.length N.length g)) := by
  refine Fun.okGT F S nc hp (fun vs H Q E h => ?_) (fun cdv A outer s H vs Q E hr hgd h => ?_)
  · obtain ⟨F0, ds, _, r, _, hl, _⟩ := h
    rw [← r.length, hl]
  · obtain ⟨F0, ds, s0, r, ht, hn, q⟩ := h
    refine ⟨_, hbody cdv A outer s H E F0 hr hgd, ?_⟩
    have hlv := r.length
    refine ⟨F0, ds.map some ++ List.replicate (N.length - (ds.map some).length) none, ⟨?_, Grow.refl s0, fun i d e => ?_, fun i j x y v w a e1 e2 e3 e4 o1 o2 => ?_⟩, ?_⟩
    · unfold L2.start
      simp [hlv]
    · have e' : ds[i]? = some d := by
        by_cases hi : i < ds.length
        · rw [List.getElem?_append_left (by simpa using hi)] at e
          simpa using e
        · rw [List.getElem?_append_right (by simpa using hi)] at e
          rw [List.getElem?_replicate] at e
          split at e <;> cases e
      obtain ⟨v, h1, h2⟩ := r.get e'
      refine ⟨v, ?_, .inr (.inl ⟨hasTL_get ht e', h2⟩)⟩
      unfold L2.start
      obtain ⟨h3, _⟩ := List.getElem?_eq_some_iff.mp h1
      rw [List.getElem?_append_left (by simpa using h3), List.getElem?_map, h1]
      rfl
    · exfalso
      have e' : ds[i]? = some x := by
        by_cases hi : i < ds.length
        · rw [List.getElem?_append_left (by simpa using hi)] at e1
          simpa using e1
        · rw [List.getElem?_append_right (by simpa using hi)] at e1
          rw [List.getElem?_replicate] at e1
          split at e1 <;> cases e1
      exact o1.of (hasTL_get ht e')
    · have hn' : (ds.map some).length = ds.length := by simp
      unfold defF bodyF startM at q
      rw [if_pos hn] at q
      cases hg : g (ds.map some ++ List.replicate (N.length - (ds.map some).length) none) with
      | nx m => 
        rw [hg] at q
        exact fun σ' F' H' R' _ => q F' H' .non R'.grow (.inr (.inl ⟨rfl, .non⟩))
      | rt d =>
        rw [hg] at q
        exact fun F' H' v G so => q F' H' v G so
      | exc c m =>
        rw [hg] at q
        exact fun σ' F' H' R' _ => q F' H' R'.grow
      | bk m => rw [hg] at q; exact q.elim
      | ct m => rw [hg] at q; exact q.elim
      | stuck => rw [hg] at q; exact q.elim
end
theorem blkOk_nf {N : List Str} {sc scope : Scope} {own : List (Str × Nat)} (h : (blkC N scope scope own && scope.names.all fun y => decide (y.2 ≠ .free)) = true) : BlkOk N sc scope own := by
  rw [Bool.and_eq_true] at h
  obtain ⟨h1, h2⟩ := h
  have b := blkOk_by h1
  refine ⟨b.kind, b.uniq, b.ix, fun y hy e => ?_, b.own⟩
  have := List.all_eq_true.mp h2 y hy
  exact absurd e (by simpa using this)
theorem op_catF {X : Cx} : OpR X (binaryOp .Add) (fun x y H Q => ∃ l b xs zs, x = .ref l ∧ y = .ref b ∧ SqL X.K H l xs ∧ H b = some (.lst zs) ∧ xs.length + zs.length ≤ sizeLine ∧ ∀ p, H p = none → Q (.ref p) (upd H p (.lst (xs ++ zs)))) := by
  intro pins s σ H x y v u Q I rx ry h
  obtain ⟨l, b, xs, zs, rfl, rfl, hH, hB, hz, q⟩ := h
  cases rx
  cases ry
  obtain ⟨its, r, ⟨⟨cls, dd, data, sl⟩, n, e, c1, _, c2⟩, _⟩ := I.list hH
  obtain ⟨_, its2, n2, r2, hl2, e2⟩ := I.lstM hB
  simp only at c1 c2
  subst c1 c2
  have hl : xs.length = its.length := r.length
  refine PySem.concat_meets ⟨_, e, rfl⟩ ⟨_, e2, rfl⟩ PySem.noFill_list_add PySem.seq_list_add PySem.F.slot_list_add PySem.F.entry_list_add (PySem.F.args_list_add_2 _ _) (list_addW l b its.toArray its2.toArray n n2 dd none sl #[] (by simp; omega)) ⟨e, e2, ?_⟩
  rw [show its.toArray ++ its2.toArray = (its ++ its2).toArray from by simp]
  exact ⟨.ref _, _, I.lnew (t' := s.toks) (r.append r2) (by rw [List.length_append]; omega), rfl, q _ I.fresh⟩
def addF : D → D → R D
  | .fr xs, .lst _ ys => if xs.length + ys.length ≤ sizeLine then .ok (.lst false (xs ++ ys)) else .stuck
  | x, y => addD x y
theorem o_addF {X : Cx} {b : Bs} {W : WX} : Op2 X b W (binaryOp .Add) addF := by
  obtain ⟨r, h1, h2⟩ := o_add (X := X) (b := b) (W := W)
  refine ⟨_, h1.or op_catF, fun σ F H Q x y v u s hx hy p => ?_⟩
  unfold addF at p
  split at p
  · split at p
    · rename_i xs t ys hl
      obtain ⟨a, us, rfl, k1, k2⟩ := hx.frl s
      obtain ⟨c, ws, rfl, k3, k4⟩ := hy.list s
      refine .inr ⟨a, c, us, ws, rfl, rfl, k1, k3, by rw [← k2.length, ← k4.length]; exact hl, fun q hq => ?_⟩
      have sF : Same F (upd F q (.lst (us ++ ws))) := same_upd (s.free hq)
      have G := Grow.still (o := .lst (us ++ ws)) s hq
      exact (p _ _ G) _ (.lst upd_same ((k2.grow G).app (k4.grow G)))
    · exact p.elim
  · exact .inl (h2 σ F H Q x y v u s hx hy p)
end CT

namespace CK
open PySem PySem.Spec PyProof.Rows L2 CT
noncomputable section
def s_law_whole : List D → R D := defF 1 1 (
  (sRet (eAnd (e1 (isiD "int") (eVar 0)) (eNot (e1 (isiD "bool") (eVar 0))))))
def s_law_draws : List D → R D := defF 1 1 (
  (sSeq (sIf (tOf (e2 ltD (eVar 0) (e2 powD (eC (.int 10)) (eC (.int 18))))) (sRetO (aThen (aCons (eVar 0) (aCons (eC (.int 0)) (aCons (eC (.bl false)) aNil))) mkLst)) sNop)
  (sRetO (aThen (aCons (e2 modD (eVar 0) (e2 powD (e2 powD (e2 powD (eC (.int 10)) (eC (.int 60))) (eC (.int 50))) (eC (.int 3)))) (aCons (eC (.int 0)) (aCons (eC (.bl true)) aNil))) mkLst))))
def s_law_next : List D → R (D × Option D) := defL 1 3 (
  (bSeq (sAsg (e2 addD (eLk 0 1) (eC (.int 1))) (subLR 0 1))
  (bSeq (sSet 1 (eLk 0 1))
  (bIf (tOf (eLk 0 2)) (bSeq (sSet 2 (e2 modD (eLk 0 0) (e2 powD (eC (.int 10)) (eC (.int 6)))))
  (bSeq (sAsg (e2 divD (eLk 0 0) (e2 powD (eC (.int 10)) (eC (.int 6)))) (subLR 0 0))
  (bRet (eVar 2))))
  (bSeq (sSet 2 (e2 modD (e2 mulD (e2 addD (e2 addD (e2 modD (eLk 0 0) (eC (.int 1000003))) (e2 mulD (e2 mulD (eVar 1) (eVar 1)) (eC (.int 7919)))) (eVar 1)) (eC (.int 48271))) (eC (.int 2147483629))))
  (bSeq (sSet 2 (e2 modD (e2 mulD (eVar 2) (eVar 2)) (eC (.int 2147483587))))
  (bRet (e2 divD (e2 modD (e2 mulD (eVar 2) (e2 addD (eVar 2) (eC (.int 2)))) (eC (.int 2147483579))) (eC (.int 7))))))))))
def s_sure : List D → R D := defF 1 1 (
  (sIf (CT.tNot (tOf (eVar 0))) (sRaise "NoText") sNop))
def s_count_in : List D → R D := defF 1 2 (
  (sSeq (sExp (eA (callF s_sure) (aCons (eAnd (eChain leD leD (eC (.int 1)) (eA lenD (aCons (eVar 0) aNil)) (eC (.int 40))) (eA allD (aCons (eOwn (aLc (aItN false (eVar 0)) (putR 1) tYesM (e2 inD (eVar 1) (eC (.str "0123456789"))) [1])) aNil))) aNil)))
  (sSeq (sExp (eA (callF s_sure) (aCons (eOr (e2 neD (e2 ixD (eVar 0) (eC (.int 0))) (eC (.str "0"))) (e2 eqD (eVar 0) (eC (.str "0")))) aNil)))
  (sRet (eA intA (aCons (eVar 0) aNil))))))
def s_law_number : List D → R (D × Option D) := defL 1 4 (
  (bSeq (sSetX 1 (x2 modD (xCallL 0 s_law_next xaNil) (xOf (eC (.int 4)))))
  (bSeq (sSetX 2 (x2 modD (xCallL 0 s_law_next xaNil) (xOf (e2 ixD (eOwn (aThen (aCons (eC (.int 3)) (aCons (eC (.int 30)) (aCons (eC (.int 1000)) (aCons (e2 powD (eC (.int 10)) (eC (.int 6))) aNil)))) mkLst)) (eVar 1)))))
  (bSeq (sIfX (xtOf (x2 eqD (x2 modD (xCallL 0 s_law_next xaNil) (xOf (eC (.int 8)))) (xOf (eC (.int 5))))) (sSeq (sFor (aThen (aCons (eC (.int 6)) aNil) rng1) (putR 3) (sSetX 2 (x2 addD (xOf (e2 mulD (eVar 2) (e2 powD (eC (.int 10)) (eC (.int 6))))) (x2 modD (xCallL 0 s_law_next xaNil) (xOf (e2 powD (eC (.int 10)) (eC (.int 6))))))))
  (sSet 2 (e2 modD (eVar 2) (e2 powD (eC (.int 10)) (eC (.int 40)))))) sNop)
  (bRet (eVar 2))))))
def s_words_in : List D → R D := defF 1 1 (
  (sSeq (sIf (tOf (e2 eqD (eVar 0) (eC (.str "none")))) (sRet (eOwn (aThen aNil mkLst))) sNop)
  (sRet (eOwn (strM splitD (eVar 0) (eC (.str " ")))))))
def s_way_in : List D → R D := defF 1 1 (
  (sSeq (sExp (eA (callF s_sure) (aCons (eOr (e2 eqD (eVar 0) (eC (.str "+"))) (e2 eqD (eVar 0) (eC (.str "-")))) aNil)))
  (sRet (e2 ixD (eOwn (aThen (aCons (eC (.int 1)) (aCons (e2 subD (eC (.int 0)) (eC (.int 1))) aNil)) mkLst)) (eA intD (aCons (e2 eqD (eVar 0) (eC (.str "-"))) aNil))))))
def s_push_in : List D → R D := defF 1 1 (
  (sRet (eA mkTup (aCons (eA (callF s_count_in) (aCons (eCut (eVar 0) pNo (pSo (e1 negD (eC (.int 1))))) aNil)) (aCons (eA (callF s_way_in) (aCons (eCut (eVar 0) (pSo (e1 negD (eC (.int 1)))) pNo) aNil)) aNil)))))
def s_deed_in : List D → R D := defF 1 2 (
  (sSeq (sSetFR 1 "-" "+" (eVar 0) (eC (.str "+")))
  (sSeq (sExp (eA (callF s_sure) (aCons (e2 geD (eVar 1) (eC (.int 0))) aNil)))
  (sRet (e2 addD (eA (callF s_push_in) (aCons (eCut (eVar 0) pNo (pSo (e2 addD (eVar 1) (eC (.int 1))))) aNil)) (eA mkTup (aCons (eA (callF s_count_in) (aCons (eCut (eVar 0) (pSo (e2 addD (eVar 1) (eC (.int 1)))) pNo) aNil)) aNil)))))))
def s_read_row : List D → R D := defF 1 2 (
  (sRetO (aLc (aItN false (eA (callF s_words_in) (aCons (eVar 0) aNil))) (putR 1) tYesM (eA (callF s_deed_in) (aCons (eVar 1) aNil)) [1])))
def s_read_pushes : List D → R D := defF 1 2 (
  (sRetO (aLc (aItN false (eA (callF s_words_in) (aCons (eVar 0) aNil))) (putR 1) tYesM (eA (callF s_push_in) (aCons (eVar 1) aNil)) [1])))
def s_shown_in : List D → R D := defF 1 1 (
  (sSeq (sExp (eA (callF s_sure) (aCons (e2 inD (eVar 0) (eOwn (aThen (aCons (eC (.str "1")) (aCons (eC (.str "-1")) (aCons (eC (.str "0")) aNil))) mkLst))) aNil)))
  (sRet (eA intA (aCons (eVar 0) aNil)))))
def s_read_shown : List D → R D := defF 1 6 (
  (sSeq (sSetO 1 (aThen aNil mkLst))
  (sSeq (sFor (aItN true (eA (callF s_words_in) (aCons (eVar 0) aNil))) (putR 2) (sSeq (sAsg (strM partD (eVar 2) (eC (.str "="))) (gTupR 3 (gsCons (putR 3) (gsCons (putR 4) (gsCons (putR 5) gsNil)))))
  (sApp 1 (e2 addD (eA (callF s_push_in) (aCons (eVar 3) aNil)) (eA mkTup (aCons (eA (callF s_shown_in) (aCons (eVar 5) aNil)) aNil))))))
  (sRetV 1))))
def s_read_shows : List D → R D := defF 1 6 (
  (sSeq (sSetO 1 (aThen aNil mkLst))
  (sSeq (sFor (aItN true (eA (callF s_words_in) (aCons (eVar 0) aNil))) (putR 2) (sSeq (sAsg (strM partD (eVar 2) (eC (.str "="))) (gTupR 3 (gsCons (putR 3) (gsCons (putR 4) (gsCons (putR 5) gsNil)))))
  (sApp 1 (eA mkTup (aCons (eA (callF s_way_in) (aCons (eVar 3) aNil)) (aCons (eA (callF s_shown_in) (aCons (eVar 5) aNil)) aNil))))))
  (sRetV 1))))
def s_law_ways : List D → R (D × Option D) := defL 2 3 (
  (bRetX (xOwn (aLcX (xThen (xaCons (x2 modD (xCallL 0 s_law_next xaNil) (xOf (eVar 1))) xaNil) rng1) 2 xtYes (x2 ixD (xOf (eOwn (aThen (aCons (eC (.int 1)) (aCons (e2 subD (eC (.int 0)) (eC (.int 1))) aNil)) mkLst))) (x2 modD (xCallL 0 s_law_next xaNil) (xOf (eC (.int 2)))))))))
def s_law_row_6 : List D → R (D × Option D) := defL 2 3 (
  (bRetX (xOwn (aLcX (xSeq true (xCallL 0 s_law_ways (xaCons (xOf (eVar 1)) xaNil))) 2 xtYes (xA mkTup (xaCons (xCallL 0 s_law_number xaNil) (xaCons (xOf (eVar 2)) (xaCons (xCallL 0 s_law_number xaNil) xaNil))))))))
def s_law_pushes_3 : List D → R (D × Option D) := defL 2 3 (
  (bRetX (xOwn (aLcX (xSeq true (xCallL 0 s_law_ways (xaCons (xOf (eVar 1)) xaNil))) 2 xtYes (xA mkTup (xaCons (xCallL 0 s_law_number xaNil) (xaCons (xOf (eVar 2)) xaNil)))))))
def s_law_seen : List D → R (D × Option D) := defL 2 3 (
  (bRetX (xOwn (aLcX (xSeq true (xCallL 0 s_law_ways (xaCons (xOf (eVar 1)) xaNil))) 2 xtYes (xA mkTup (xaCons (xCallL 0 s_law_number xaNil) (xaCons (xOf (eVar 2)) (xaCons (x2 subD (x2 modD (xCallL 0 s_law_next xaNil) (xOf (eC (.int 3)))) (xOf (eC (.int 1)))) xaNil))))))))
def s_law_shows_4 : List D → R (D × Option D) := defL 2 3 (
  (bRetX (xOwn (aLcX (xSeq true (xCallL 0 s_law_ways (xaCons (xOf (eVar 1)) xaNil))) 2 xtYes (xA mkTup (xaCons (xOf (eVar 2)) (xaCons (x2 subD (x2 modD (xCallL 0 s_law_next xaNil) (xOf (eC (.int 3)))) (xOf (eC (.int 1)))) xaNil)))))))
def s_law_list_text : List D → R D := defF 1 1 (
  (sRet (e2 addD (joinE (eC (.str " ")) (eVar 0)) (e2 repS (eC (.str "none")) (eA intD (aCons (e2 eqD (eVar 0) (eOwn (aThen aNil mkLst))) aNil))))))
def s_law_step_text : List D → R D := defF 1 2 (
  (sRet (e2 addD (e2 addD (eA strD (aCons (e2 ixD (eVar 0) (eC (.int 0))) aNil)) (e2 ixD (eC (.str "+-")) (eA intD (aCons (e2 ltD (e2 ixD (eVar 0) (eC (.int 1))) (eC (.int 0))) aNil)))) (joinE (eC (.str "")) (eOwn (aLc (aItN false (eCut (eVar 0) (pSo (eC (.int 2))) pNo)) (putR 1) tYesM (eA strD (aCons (eVar 1) aNil)) [1]))))))
def s_law_steps_text : List D → R D := defF 1 2 (
  (sRet (eA (callF s_law_list_text) (aCons (eOwn (aLc (aItN false (eVar 0)) (putR 1) tYesM (eA (callF s_law_step_text) (aCons (eVar 1) aNil)) [1])) aNil))))
def s_law_seen_text : List D → R D := defF 1 2 (
  (sRet (eA (callF s_law_list_text) (aCons (eOwn (aLc (aItN false (eVar 0)) (putR 1) tYesM (e2 addD (e2 addD (eA (callF s_law_step_text) (aCons (eCut (eVar 1) pNo (pSo (eC (.int 2)))) aNil)) (eC (.str "="))) (eA strD (aCons (e2 ixD (eVar 1) (eC (.int 2))) aNil))) [1])) aNil))))
def s_law_shows_text : List D → R D := defF 1 3 (
  (sRet (eA (callF s_law_list_text) (aCons (eOwn (aLc (aItN false (eVar 0)) (gTupR 2 (gsCons (putR 1) (gsCons (putR 2) gsNil))) tYesM (e2 addD (e2 addD (e2 ixD (eC (.str "+-")) (eA intD (aCons (e2 ltD (eVar 1) (eC (.int 0))) aNil))) (eC (.str "="))) (eA strD (aCons (eVar 2) aNil))) [1, 2])) aNil))))
def s_listed : List D → R D := defF 1 1 (
  (sSeq (sIf (tOf (e2 eqD (eVar 0) (eOwn (aThen aNil mkLst)))) (sRet (eC (.str "none"))) sNop)
  (sRet (joinE (eC (.str " ")) (eVar 0)))))
def s_way_shown : List D → R D := defF 1 1 (
  (sRet (e2 ixD (eC (.str "-+")) (eA intD (aCons (e2 eqD (eVar 0) (eC (.int 1))) aNil)))))
def s_step_shown : List D → R D := defF 1 2 (
  (sRet (e2 addD (e2 addD (eA strD (aCons (e2 ixD (eVar 0) (eC (.int 0))) aNil)) (eA (callF s_way_shown) (aCons (e2 ixD (eVar 0) (eC (.int 1))) aNil))) (joinE (eC (.str "")) (eOwn (aLc (aItN false (eCut (eVar 0) (pSo (eC (.int 2))) pNo)) (putR 1) tYesM (eA strD (aCons (eVar 1) aNil)) [1]))))))
def s_show_row : List D → R D := defF 1 2 (
  (sRet (eA (callF s_listed) (aCons (eOwn (aLc (aItN false (eVar 0)) (putR 1) tYesM (eA (callF s_step_shown) (aCons (eVar 1) aNil)) [1])) aNil))))
def s_show_pushes : List D → R D := defF 1 2 (
  (sRet (eA (callF s_listed) (aCons (eOwn (aLc (aItN false (eVar 0)) (putR 1) tYesM (eA (callF s_step_shown) (aCons (eVar 1) aNil)) [1])) aNil))))
def s_show_shown : List D → R D := defF 1 4 (
  (sRet (eA (callF s_listed) (aCons (eOwn (aLc (aItN false (eVar 0)) (gTupR 3 (gsCons (putR 1) (gsCons (putR 2) (gsCons (putR 3) gsNil)))) tYesM (e2 addD (e2 addD (e2 addD (eA strD (aCons (eVar 1) aNil)) (eA (callF s_way_shown) (aCons (eVar 2) aNil))) (eC (.str "="))) (eA strD (aCons (eVar 3) aNil))) [1, 2, 3])) aNil))))
def s_show_shows : List D → R D := defF 1 3 (
  (sRet (eA (callF s_listed) (aCons (eOwn (aLc (aItN false (eVar 0)) (gTupR 2 (gsCons (putR 1) (gsCons (putR 2) gsNil))) tYesM (e2 addD (e2 addD (eA (callF s_way_shown) (aCons (eVar 1) aNil)) (eC (.str "="))) (eA strD (aCons (eVar 2) aNil))) [1, 2])) aNil))))
def s_law_well_2 : List D → R D := defF 2 9 (
  (sSeq (sSet 2 (eOwn (aThen (aCons (eVar 1) aNil) listO)))
  (sSeq (sSet 3 (eCallE (e2 ixD (eOwn (aThen (aCons (eC (.fn "_law_steps_text")) (aCons (eC (.fn "_law_steps_text")) (aCons (eC (.fn "_law_seen_text")) (aCons (eC (.fn "_law_shows_text")) aNil)))) mkLst)) (eVar 0)) [("_law_steps_text", s_law_steps_text), ("_law_steps_text", s_law_steps_text), ("_law_seen_text", s_law_seen_text), ("_law_shows_text", s_law_shows_text)] (aCons (eVar 1) aNil)))
  (sSeq (sSet 4 (eCallE (e2 ixD (eOwn (aThen (aCons (eC (.fn "show_row")) (aCons (eC (.fn "show_pushes")) (aCons (eC (.fn "show_shown")) (aCons (eC (.fn "show_shows")) aNil)))) mkLst)) (eVar 0)) [("show_row", s_show_row), ("show_pushes", s_show_pushes), ("show_shown", s_show_shown), ("show_shows", s_show_shows)] (aCons (eVar 2) aNil)))
  (sSeq (sIf (CT.tOr (CT.tNot (tOf (e1 (isiD "str") (eVar 4)))) (CT.tOr (tOf (e2 neD (eVar 4) (eVar 3))) (tOf (e2 neD (eVar 2) (eVar 1))))) (sRet (eC (.bl false))) sNop)
  (sSeq (sFor (aThen (aCons (eC (.int 2)) aNil) rng1) (putR 5) (sSeq (sSetO 6 (aCallE (e2 ixD (eOwn (aThen (aCons (eC (.fn "read_row")) (aCons (eC (.fn "read_pushes")) (aCons (eC (.fn "read_shown")) (aCons (eC (.fn "read_shows")) aNil)))) mkLst)) (eVar 0)) [("read_row", s_read_row), ("read_pushes", s_read_pushes), ("read_shown", s_read_shown), ("read_shows", s_read_shows)] (aCons (eVar 3) aNil)))
  (sSeq (sIf (CT.tOr (CT.tNot (tOf (e1 (isiD "list") (eVar 6)))) (tOf (e2 neD (eVar 6) (eVar 1)))) (sRet (eC (.bl false))) sNop)
  (sSeq (sIf (CT.tNot (tOf (eA allD (aCons (eOwn (aLc (aItN false (eVar 6)) (putR 7) tYesM (eAnd (e1 (isiD "tuple") (eVar 7)) (eA allD (aCons (eOwn (aLc (aItN false (eVar 7)) (putR 8) tYesM (eA (callF s_law_whole) (aCons (eVar 8) aNil)) [8])) aNil))) [7])) aNil)))) (sRet (eC (.bl false))) sNop)
  (sApp 6 (eC .non))))))
  (sRet (eC (.bl true)))))))))
def s_law_42 : List D → R D := defF 1 9 (
  (sNewLR 1 (aThen (aCons (e2 ixD (e2 addF (eVar 0) (eOwn (aThen (aCons (eC (.int 0)) aNil) mkLst))) (eC (.int 0))) aNil) (callO s_law_draws))
  (sSeq (sSetX 2 (xA mkLstF (xaCons (xCut (x2 repD (xCallL 1 s_law_row_6 (xaCons (xOf (eC (.int 12))) xaNil)) (xOf (eC (.int 16)))) xpNo (xpSo (xOf (eC (.int 16))))) (xaCons (xCut (x2 repD (xCallL 1 s_law_pushes_3 (xaCons (xOf (eC (.int 12))) xaNil)) (xOf (eC (.int 500)))) xpNo (xpSo (xOf (eC (.int 500))))) xaNil))))
  (sSeq (sSetX 2 (x2 addD (xOf (eVar 2)) (xA mkLstF (xaCons (xCut (x2 repD (xCallL 1 s_law_seen (xaCons (xOf (eC (.int 12))) xaNil)) (xOf (eC (.int 300)))) xpNo (xpSo (xOf (eC (.int 300))))) (xaCons (xCut (x2 repD (xCallL 1 s_law_shows_4 (xaCons (xOf (eC (.int 20))) xaNil)) (xOf (eC (.int 300)))) xpNo (xpSo (xOf (eC (.int 300))))) xaNil)))))
  (sSeq (sFor (aThen (aCons (eC (.int 4)) aNil) rng1) (putR 3) (sIf (CT.tNot (tOf (eA (callF s_law_well_2) (aCons (eVar 3) (aCons (e2 ixD (eVar 2) (eVar 3)) aNil))))) (sRet (eC (.bl false))) sNop))
  (sSeq (sFor (aItN true (e2 addD (eCut (eVar 0) pNo (pSo (eC (.int 6)))) (eOwn (aThen (aCons (eC (.int 0)) aNil) mkLst)))) (putR 4) (sNewL 1 (aThen (aCons (eVar 4) aNil) (callO s_law_draws))
  (sSeq (sSetO 5 (aThen aNil mkLst))
  (sSeq (sFor (aThen (aCons (eC (.int 2)) aNil) rng1) (putR 6) (sAppX 5 (xA mkLstF (xaCons (xCallL 1 s_law_row_6 (xaCons (xOf (eC (.int 12))) xaNil)) (xaCons (xCallL 1 s_law_pushes_3 (xaCons (xOf (eC (.int 12))) xaNil)) (xaCons (xCallL 1 s_law_seen (xaCons (xOf (eC (.int 12))) xaNil)) (xaCons (xCallL 1 s_law_shows_4 (xaCons (xOf (eC (.int 20))) xaNil)) xaNil)))))))
  (sSeq (sSet 7 (eOwn (aThen (aCons (eA (callF s_read_row) (aCons (eA (callF s_law_steps_text) (aCons (e2 ixD (e2 ixD (eVar 5) (eC (.int 0))) (eC (.int 0))) aNil)) aNil)) (aCons (eA (callF s_read_pushes) (aCons (eA (callF s_law_steps_text) (aCons (e2 ixD (e2 ixD (eVar 5) (eC (.int 0))) (eC (.int 1))) aNil)) aNil)) aNil)) mkLst)))
  (sSeq (sSet 7 (e2 addD (eVar 7) (eOwn (aThen (aCons (eA (callF s_read_shown) (aCons (eA (callF s_law_seen_text) (aCons (e2 ixD (e2 ixD (eVar 5) (eC (.int 0))) (eC (.int 2))) aNil)) aNil)) (aCons (eA (callF s_read_shows) (aCons (eA (callF s_law_shows_text) (aCons (e2 ixD (e2 ixD (eVar 5) (eC (.int 0))) (eC (.int 3))) aNil)) aNil)) aNil)) mkLst))))
  (sSeq (sFreeze 5 (sFor (aItN true (eOwn (aThen (aCons (e2 ixD (eVar 5) (eC (.int 1))) (aCons (e2 ixD (eVar 5) (eC (.int 0))) aNil)) mkLst))) (putR 8) (sFor (aThen (aCons (eC (.int 4)) aNil) rng1) (putR 3) (sIf (CT.tNot (tOf (eA (callF s_law_well_2) (aCons (eVar 3) (aCons (e2 ixD (eVar 8) (eVar 3)) aNil))))) (sRet (eC (.bl false))) sNop))))
  (sIf (tOf (e2 neD (eVar 7) (e2 ixD (eVar 5) (eC (.int 0))))) (sRet (eC (.bl false))) sNop))))))))
  (sRet (eC (.bl true)))))))))
end
end CK

namespace CT
open PySem PySem.Spec PyProof.Rows L2
section
variable (m : Sl) (f g h : SemE) (op : D → D → R D) (a : SemA)
@[simp] theorem eVar_0 {x : D} {r : Sl} : eVar 0 (some x :: r) = .ok x := nr rfl
@[simp] theorem eVar_s {x : Option D} {r : Sl} {i : Nat} : eVar (i + 1) (x :: r) = eVar i r := nr rfl
@[simp] theorem eVar_1 {x y : Option D} {z : D} {r : Sl} : eVar 1 (x :: some z :: r) = .ok z := nr rfl
@[simp] theorem eC_eq (d : D) : eC d m = .ok d := nr rfl
@[simp] theorem e2_eq : e2 op f g m = (f m).bind fun x => (g m).bind fun y => op x y := nr rfl
@[simp] theorem e1_eq (o : D → R D) : e1 o f m = (f m).bind o := nr rfl
@[simp] theorem eA_eq (o : List D → R D) : eA o a m = (a m).bind o := nr rfl
@[simp] theorem aNil_eq : aNil m = .ok [] := nr rfl
@[simp] theorem aCons_eq : aCons f a m = (f m).bind fun x => (a m).bind fun xs => .ok (x :: xs) := nr rfl
@[simp] theorem tOf_eq : tOf f m = (f m).bind asB := nr rfl
@[simp] theorem tNot_eq (t : SemT) : CT.tNot t m = (t m).bind fun c => .ok (!c) := nr rfl
@[simp] theorem tOr_eq (t u : SemT) : CT.tOr t u m = (t m).bind fun c => if c = true then .ok true else u m := nr rfl
@[simp] theorem eAnd_eq : eAnd f g m = (f m).bind fun x => (asB x).bind fun c => if c = true then g m else .ok (.bl false) := nr rfl
@[simp] theorem eOr_eq : eOr f g m = (f m).bind fun x => (asB x).bind fun c => if c = true then .ok (.bl true) else g m := nr rfl
@[simp] theorem eNot_eq : eNot f m = (f m).bind fun x => (asB x).bind fun c => .ok (.bl (!c)) := nr rfl
@[simp] theorem eOwn_eq : eOwn a m = (a m).bind fun xs => .ok (.lst false xs) := nr rfl
@[simp] theorem aThen_eq (k : List D → R (List D)) : aThen a k m = (a m).bind k := nr rfl
@[simp] theorem a2_eq (o : D → D → R (List D)) : a2 o f g m = (f m).bind fun x => (g m).bind fun y => o x y := nr rfl
@[simp] theorem aItN_eq (s : Bool) : aItN s f m = (f m).bind (itemsN s) := nr rfl
@[simp] theorem eChain_eq (p q : D → D → R D) : eChain p q f g h m = (f m).bind fun x => (g m).bind fun y => (p x y).bind fun z => (asB z).bind fun c => if c = true then (h m).bind fun w => q y w else .ok (.bl false) := nr rfl
@[simp] theorem pNo_eq : pNo m = .ok none := nr rfl
@[simp] theorem pSo_eq : pSo f m = (f m).bind fun d => (asI d).bind fun i => .ok (some i) := nr rfl
@[simp] theorem eCut_eq (p q : SemP) : eCut f p q m = (f m).bind fun x => (p m).bind fun lo => (q m).bind fun hi => cutD x lo hi := nr rfl
@[simp] theorem aLc_eq (gg : SemG) (t : SemT) (vs : List Nat) : aLc a gg t f vs m = (a m).bind fun ds => (lcGo gg t f (wipeM m vs) ds).bind fun r => if r.length ≤ sizeLine then .ok r else .stuck := nr rfl
@[simp] theorem tYesM_eq : tYesM m = .ok true := nr rfl
@[simp] theorem asB_bl (c : Bool) : asB (.bl c) = .ok c := nr rfl
@[simp] theorem asI_int (i : Int) : asI (.int i) = .ok i := nr rfl
@[simp] theorem wipeM_nil : wipeM m [] = m := nr rfl
@[simp] theorem wipeM_cons (v : Nat) (vs : List Nat) : wipeM m (v :: vs) = (wipeM m vs).set v none := nr rfl
variable (s t : SemS)
@[simp] theorem sNop_eq : sNop m = .nx m := nr rfl
@[simp] theorem sSeq_eq : sSeq s t m = sThen (s m) t := nr rfl
@[simp] theorem sExp_eq : sExp f m = ofR m (f m) fun _ => .nx m := nr rfl
def kRet (d : D) : RS := .rt (still d)
@[simp] theorem kRet_eq (d : D) : kRet d = .rt (still d) := nr rfl
@[simp] theorem sRet_eq : sRet f m = ofR m (f m) kRet := nr rfl
@[simp] theorem sRetO_eq : sRetO a m = ofR m (a m) fun ds => if hasTL ds = true then .stuck else .rt (.lst true ds) := nr rfl
def kIf (s t : SemS) (m : Sl) (c : Bool) : RS := if c = true then s m else t m
@[simp] theorem kIf_t : kIf s t m true = s m := nr rfl
@[simp] theorem kIf_f : kIf s t m false = t m := nr rfl
@[simp] theorem sIf_eq (c : SemT) : sIf c s t m = ofR m (c m) (kIf s t m) := nr rfl
def kSet (i : Nat) (m : Sl) (d : D) : RS := ofR m (putR i d m) fun m' => .nx m'
@[simp] theorem kSet_eq (i : Nat) (d : D) : kSet i m d = if hasT d = true then .stuck else .nx (m.set i (some d)) := by unfold kSet putR; split <;> rfl
@[simp] theorem sSet_eq (i : Nat) : sSet i f m = ofR m (f m) (kSet i m) := nr rfl
@[simp] theorem sSetO_eq (i : Nat) : sSetO i a m = ofR m (a m) fun ds => if hasTL ds = true then .stuck else .nx (m.set i (some (.lst true ds))) := nr rfl
@[simp] theorem putR_eq (i : Nat) (d : D) : putR i d m = if hasT d = true then .stuck else .ok (m.set i (some d)) := nr rfl
@[simp] theorem sApp_eq (i : Nat) : sApp i f m = mine i m fun xs => ofR m (f m) fun d => if hasT d = true then .stuck else if xs.length < sizeLine then .nx (m.set i (some (.lst true (xs ++ [d])))) else .stuck := nr rfl
@[simp] theorem sAsg_eq (gg : SemG) : sAsg f gg m = ofR m (f m) fun d => if hasT d = true then .stuck else match gg d m with
  | .ok m' => .nx m'
  | _ => .stuck := nr rfl
@[simp] theorem sFor_eq (gg : SemG) : sFor a gg s m = ofR m (a m) fun ds => forGo gg s ds m := nr rfl
@[simp] theorem gsNil_nil : gsNil [] m = .ok m := nr rfl
@[simp] theorem gsCons_cons (gg : SemG) (hh : SemGs) (d : D) (r : List D) : gsCons gg hh (d :: r) m = (gg d m).bind fun m1 => hh r m1 := nr rfl
@[simp] theorem gTupR_tup (n : Nat) (hh : SemGs) (ds : List D) : gTupR n hh (.tup ds) m = if ds.length = n then hh ds m else .stuck := nr rfl
end
@[simp] theorem hasT_int (i : Int) : hasT (.int i) = false := nr rfl
@[simp] theorem hasT_bl (b : Bool) : hasT (.bl b) = false := nr rfl
@[simp] theorem hasT_str (x : Str) : hasT (.str x) = false := nr rfl
@[simp] theorem hasT_non : hasT .non = false := nr rfl
@[simp] theorem hasT_tup (xs : List D) : hasT (.tup xs) = hasTL xs := nr rfl
@[simp] theorem hasT_lst (t : Bool) (xs : List D) : hasT (.lst t xs) = (t || hasTL xs) := nr rfl
@[simp] theorem hasT_fr (xs : List D) : hasT (.fr xs) = hasTL xs := nr rfl
@[simp] theorem hasTL_nil : hasTL [] = false := nr rfl
@[simp] theorem hasTL_cons (x : D) (xs : List D) : hasTL (x :: xs) = (hasT x || hasTL xs) := nr rfl
@[simp] theorem still_int (i : Int) : still (.int i) = .int i := nr rfl
@[simp] theorem still_bl (b : Bool) : still (.bl b) = .bl b := nr rfl
@[simp] theorem still_str (x : Str) : still (.str x) = .str x := nr rfl
@[simp] theorem still_non : still .non = .non := nr rfl
@[simp] theorem still_tup (xs : List D) : still (.tup xs) = .tup (stillL xs) := nr rfl
@[simp] theorem still_lst (t : Bool) (xs : List D) : still (.lst t xs) = .lst false (stillL xs) := nr rfl
@[simp] theorem still_fr (xs : List D) : still (.fr xs) = .fr (stillL xs) := nr rfl
@[simp] theorem stillL_nil : stillL [] = [] := nr rfl
@[simp] theorem stillL_cons (x : D) (xs : List D) : stillL (x :: xs) = still x :: stillL xs := nr rfl
@[simp] theorem isFlat_int (i : Int) : isFlat (.int i) = true := nr rfl
@[simp] theorem isFlat_bl (i : Bool) : isFlat (.bl i) = true := nr rfl
@[simp] theorem isFlat_str (i : Str) : isFlat (.str i) = true := nr rfl
@[simp] theorem isFlat_non : isFlat .non = true := nr rfl
@[simp] theorem isFlat_tup (xs : List D) : isFlat (.tup xs) = isFlatL xs := nr rfl
@[simp] theorem isFlatL_nil : isFlatL [] = true := nr rfl
@[simp] theorem isFlatL_cons (x : D) (xs : List D) : isFlatL (x :: xs) = (isFlat x && isFlatL xs) := nr rfl
theorem hasTL_all {xs : List D} (h : ∀ x ∈ xs, hasT x = false) : hasTL xs = false := by
  induction xs with
  | nil => rfl
  | cons x xs ih => rw [hasTL_cons, h x (by simp), ih fun y hy => h y (by simp [hy])]; rfl
theorem hasTL_map {α : Type} {f : α → D} (h : ∀ a, hasT (f a) = false) (l : List α) : hasTL (l.map f) = false := hasTL_all fun x hx => by
  obtain ⟨a, _, rfl⟩ := List.mem_map.mp hx
  exact h a
theorem stillL_map {α : Type} {f : α → D} (h : ∀ a, still (f a) = f a) (l : List α) : stillL (l.map f) = l.map f := by
  induction l with
  | nil => rfl
  | cons a l ih => rw [List.map_cons, stillL_cons, h, ih]
@[simp] theorem hasTL_ints (l : List Int) : hasTL (l.map D.int) = false := hasTL_map (fun _ => rfl) l
@[simp] theorem addD_int (i j : Int) : addD (.int i) (.int j) = .ok (.int (i + j)) := nr rfl
@[simp] theorem subD_int (i j : Int) : subD (.int i) (.int j) = .ok (.int (i - j)) := nr rfl
@[simp] theorem negD_int (i : Int) : negD (.int i) = .ok (.int (-i)) := nr rfl
@[simp] theorem ltD_int (i j : Int) : ltD (.int i) (.int j) = .ok (.bl (decide (i < j))) := nr rfl
@[simp] theorem leD_int (i j : Int) : leD (.int i) (.int j) = .ok (.bl (decide (i ≤ j))) := nr rfl
@[simp] theorem geD_int (i j : Int) : geD (.int i) (.int j) = .ok (.bl (decide (j ≤ i))) := nr rfl
theorem mulD_ok {i j : Int} (h : mulOk i j) : mulD (.int i) (.int j) = .ok (.int (i * j)) := by simp only [mulD]; rw [if_pos h]
theorem mulD_l {i j : Int} (h : -(2 ^ 64) < i ∧ i < 2 ^ 64) : mulD (.int i) (.int j) = .ok (.int (i * j)) := mulD_ok (.inl h)
theorem mulD_r {i j : Int} (h : -(2 ^ 64) < j ∧ j < 2 ^ 64) : mulD (.int i) (.int j) = .ok (.int (i * j)) := mulD_ok (.inr (.inl h))
theorem modD_ok {i j : Int} (h : 0 < j) : modD (.int i) (.int j) = .ok (.int (i % j)) := by
  simp only [modD]; rw [if_pos (by omega), Int.fmod_eq_emod_of_nonneg i (by omega)]
theorem divD_ok {i j : Int} (h : 0 < j) (h2 : divOk j) : divD (.int i) (.int j) = .ok (.int (i / j)) := by
  simp only [divD]; rw [if_pos h2, Int.fdiv_eq_ediv_of_nonneg i (by omega)]
theorem divD_s {i j : Int} (h : 0 < j) (h2 : j < 1073741824) : divD (.int i) (.int j) = .ok (.int (i / j)) := divD_ok h (.inl ⟨by omega, by omega⟩)
@[simp] theorem intD_int (i : Int) : intD [.int i] = .ok (.int i) := nr rfl
@[simp] theorem intD_bl (c : Bool) : intD [.bl c] = .ok (.int (if c then 1 else 0)) := nr rfl
@[simp] theorem lenD_lst (t : Bool) (xs : List D) : lenD [.lst t xs] = .ok (.int xs.length) := nr rfl
@[simp] theorem lenD_fr (xs : List D) : lenD [.fr xs] = .ok (.int xs.length) := nr rfl
@[simp] theorem lenD_tup (xs : List D) : lenD [.tup xs] = .ok (.int xs.length) := nr rfl
@[simp] theorem listO_lst (t : Bool) (xs : List D) : listO [.lst t xs] = .ok xs := nr rfl
@[simp] theorem listO_tup (xs : List D) : listO [.tup xs] = .ok xs := nr rfl
@[simp] theorem listO_fr (xs : List D) : listO [.fr xs] = .ok xs := nr rfl
theorem sizeBig : (sizeLine : Nat) = 16777216 := sizeLine_eq
theorem small {n : Nat} (h : n ≤ 16777216) : n ≤ sizeLine := by rw [sizeBig]; exact h
@[simp] theorem mkTup_1 (a : D) : mkTup [a] = .ok (.tup [a]) := by unfold mkTup; rw [if_pos (small (by simp))]
@[simp] theorem mkTup_2 (a b : D) : mkTup [a, b] = .ok (.tup [a, b]) := by unfold mkTup; rw [if_pos (small (by simp))]
@[simp] theorem mkTup_3 (a b c : D) : mkTup [a, b, c] = .ok (.tup [a, b, c]) := by unfold mkTup; rw [if_pos (small (by simp))]
theorem mkLst_s {xs : List D} (h : xs.length ≤ 16777216) : mkLst xs = .ok xs := by unfold mkLst; rw [if_pos (small h)]
@[simp] theorem mkLst_0 : mkLst [] = .ok [] := mkLst_s (by simp)
@[simp] theorem mkLst_1 (a : D) : mkLst [a] = .ok [a] := mkLst_s (by simp)
@[simp] theorem mkLst_2 (a b : D) : mkLst [a, b] = .ok [a, b] := mkLst_s (by simp)
@[simp] theorem mkLst_3 (a b c : D) : mkLst [a, b, c] = .ok [a, b, c] := mkLst_s (by simp)
@[simp] theorem mkLst_4 (a b c d : D) : mkLst [a, b, c, d] = .ok [a, b, c, d] := mkLst_s (by simp)
theorem defF_eq (n k : Nat) (g : SemS) (ds : List D) (h : ds.length = n) : defF n k g ds = match g (ds.map some ++ List.replicate (k - n) none) with
  | .nx _ => .ok .non
  | .rt d => .ok d
  | .exc c _ => .exc c
  | _ => .stuck := by
  unfold defF bodyF startM
  rw [if_pos h, List.length_map, h]
  all_goals (cases g (List.map some ds ++ List.replicate (k - n) none) <;> rfl)
@[simp] theorem callF_eq (f : List D → R D) (ds : List D) : callF f ds = (f (stillL ds)).bind fun d => if hasTL ds = true then (if isFlat (still d) = true then .ok (still d) else .stuck) else .ok (still d) := nr rfl
@[simp] theorem mine_0 {xs : List D} {r : Sl} {k : List D → RS} : mine 0 (some (.lst true xs) :: r) k = k xs := nr rfl
@[simp] theorem mine_s {x : Option D} {r : Sl} {i : Nat} {k : List D → RS} : mine (i + 1) (x :: r) k = mine i r k := nr rfl
mutual
def lay : D → Bool
  | .tup xs => layL xs
  | .lst _ xs => layL xs
  | .fr xs => layL xs
  | .str x => PyData.strOk x
  | .non => true
  | .bl _ => true
  | .int _ => true
  | .unk => true
  | .ex _ => true
  | .fn _ => true
  | .dic _ _ => true
  | .dct _ _ _ => true
def layL : List D → Bool
  | [] => true
  | x :: xs => lay x && layL xs
end
mutual
theorem lay_py : ∀ d, PyData.canLay0 (py d) = lay d
  | .tup xs => by simp only [py, PyData.canLay0, lay, layL_py xs]
  | .lst _ xs => by simp only [py, PyData.canLay0, lay, layL_py xs]
  | .fr xs => by simp only [py, PyData.canLay0, lay, layL_py xs]
  | .str _ => by simp only [py, PyData.canLay0, lay]
  | .non => by simp only [py, PyData.canLay0, lay]
  | .bl _ => by simp only [py, PyData.canLay0, lay]
  | .int _ => by simp only [py, PyData.canLay0, lay]
  | .unk => by simp only [py, lay]; decide +kernel
  | .ex _ => by simp only [py, lay]; decide +kernel
  | .fn _ => by simp only [py, lay]; decide +kernel
  | .dic _ _ => by simp only [py, lay]; decide +kernel
  | .dct _ _ _ => by simp only [py, lay]; decide +kernel
theorem layL_py : ∀ ds, PyData.canLayAll0 (pyL ds) = layL ds
  | [] => by simp only [pyL, PyData.canLayAll0, layL]
  | x :: xs => by simp only [pyL, PyData.canLayAll0, layL, lay_py x, layL_py xs]
end
def Sh (n : Nat) (d : D) : Prop := lay d = true ∧ PyData.depth (py d) ≤ n
theorem Sh.mono {n k : Nat} {d : D} (h : Sh n d) (l : n ≤ k) : Sh k d := ⟨h.1, Nat.le_trans h.2 l⟩
theorem sh_int (n : Nat) (i : Int) : Sh n (.int i) := ⟨rfl, by simp [py, PyData.depth]⟩
theorem sh_str {n : Nat} {x : Str} (h : PyData.strOk x = true) : Sh n (.str x) := ⟨h, by simp [py, PyData.depth]⟩
theorem shL {n : Nat} : ∀ {xs : List D}, (∀ x ∈ xs, Sh n x) → layL xs = true ∧ PyData.depthAll (pyL xs) ≤ n
  | [], _ => ⟨rfl, by simp [pyL, PyData.depthAll]⟩
  | x :: xs, h => by
    obtain ⟨h1, h2⟩ := shL (xs := xs) fun y hy => h y (by simp [hy])
    obtain ⟨k1, k2⟩ := h x (by simp)
    refine ⟨by simp [layL, k1, h1], ?_⟩
    simp only [pyL, PyData.depthAll]
    omega
theorem sh_tup {n : Nat} {xs : List D} (h : ∀ x ∈ xs, Sh n x) : Sh (n + 1) (.tup xs) := by
  obtain ⟨h1, h2⟩ := shL h
  exact ⟨h1, by simp only [py, PyData.depth]; omega⟩
theorem sh_lst {n : Nat} {t : Bool} {xs : List D} (h : ∀ x ∈ xs, Sh n x) : Sh (n + 1) (.lst t xs) := by
  obtain ⟨h1, h2⟩ := shL h
  exact ⟨h1, by simp only [py, PyData.depth]; omega⟩
theorem sh_shaped {n : Nat} {d : D} (h : Sh n d) (l : n ≤ 64) : SeqAt.shaped (py d) = true := by
  unfold SeqAt.shaped
  rw [lay_py, h.1]
  simp only [Bool.true_and, decide_eq_true_eq]
  exact Nat.le_trans h.2 l
theorem eqD_ok {x y : D} (hx : Sh 64 x) (hy : Sh 64 y) : eqD x y = .ok (.bl (eqvD x y)) := by
  unfold eqD
  rw [sh_shaped hx (by omega), sh_shaped hy (by omega)]
  rfl
theorem neD_ok {x y : D} (hx : Sh 64 x) (hy : Sh 64 y) : neD x y = .ok (.bl (!eqvD x y)) := by
  unfold neD
  rw [sh_shaped hx (by omega), sh_shaped hy (by omega)]
  rfl
theorem eqv_self {x : D} (h : lay x = true) : eqvD x x = true := SeqAt.eqv_refl _ (by rw [lay_py]; exact h)
theorem eqv_py {x y : D} (e : py x = py y) (h : lay x = true) : eqvD x y = true := by
  unfold eqvD
  rw [← e]
  exact eqv_self h
@[simp] theorem eqD_int (i j : Int) : eqD (.int i) (.int j) = .ok (.bl (decide (i = j))) := by
  rw [eqD_ok (sh_int _ _) (sh_int _ _)]
  simp only [eqvD, py, PyData.eqv]
  rw [Bool.beq_eq_decide_eq]
theorem eqD_strs (x y : Str) : eqD (.str x) (.str y) = .ok (.bl (x == y)) := by
  unfold eqD
  rw [if_pos (by simp [strs2])]
  simp [eqvD, py, PyData.eqv]
theorem neD_strs (x y : Str) : neD (.str x) (.str y) = .ok (.bl (!(x == y))) := by
  unfold neD
  rw [if_pos (by simp [strs2])]
  simp [eqvD, py, PyData.eqv]
end CT

namespace CT
open PySem PySem.Spec PyProof.Rows L2
structure Po where
  nx : Sl → Prop
  ct : Sl → Prop := fun _ => False
  bk : Sl → Prop := fun _ => False
  rt : D → Prop := fun _ => False
  ex : String → Prop := fun _ => False
def wp (r : RS) (Q : Po) : Prop := match r with
  | .nx m => Q.nx m
  | .ct m => Q.ct m
  | .bk m => Q.bk m
  | .rt d => Q.rt d
  | .exc c _ => Q.ex c
  | .stuck => False
def wpR {α : Type} (r : R α) (Q : α → Prop) (E : String → Prop := fun _ => False) : Prop := match r with
  | .ok a => Q a
  | .exc c => E c
  | .stuck => False
@[simp] theorem wpR_ok {α : Type} (a : α) (Q : α → Prop) (E) : wpR (.ok a) Q E = Q a := nr rfl
@[simp] theorem wpR_exc {α : Type} (c : String) (Q : α → Prop) (E) : wpR (.exc c) Q E = E c := nr rfl
@[simp] theorem wpR_stuck {α : Type} (Q : α → Prop) (E) : wpR .stuck Q E = False := nr rfl
@[simp] theorem wpR_bind {α β : Type} (r : R α) (k : α → R β) (Q : β → Prop) (E) : wpR (r.bind k) Q E = wpR r (fun a => wpR (k a) Q E) E := by cases r <;> rfl
theorem wpR_eq {α : Type} {r : R α} {a : α} (h : wpR r (fun x => x = a)) : r = .ok a := by
  cases r with
  | ok x => exact congrArg _ h
  | exc c => exact h.elim
  | stuck => exact h.elim
theorem wpR_ex {α : Type} {r : R α} {Q : α → Prop} (h : wpR r Q) : ∃ a, r = .ok a ∧ Q a := by
  cases r with
  | ok x => exact ⟨x, rfl, h⟩
  | exc c => exact h.elim
  | stuck => exact h.elim
section
variable {Q : Po}
@[simp] theorem wp_nx (m : Sl) : wp (.nx m) Q = Q.nx m := nr rfl
@[simp] theorem wp_ct (m : Sl) : wp (.ct m) Q = Q.ct m := nr rfl
@[simp] theorem wp_bk (m : Sl) : wp (.bk m) Q = Q.bk m := nr rfl
@[simp] theorem wp_rt (d : D) : wp (.rt d) Q = Q.rt d := nr rfl
@[simp] theorem wp_exc (c : String) (m : Sl) : wp (.exc c m) Q = Q.ex c := nr rfl
@[simp] theorem wp_stuck : wp .stuck Q = False := nr rfl
def thP (k : Sl → RS) (Q : Po) : Po := ⟨fun m => wp (k m) Q, Q.ct, Q.bk, Q.rt, Q.ex⟩
@[simp] theorem thP_nx (k : Sl → RS) (m : Sl) : (thP k Q).nx m = wp (k m) Q := nr rfl
@[simp] theorem thP_ct (k : Sl → RS) : (thP k Q).ct = Q.ct := nr rfl
@[simp] theorem thP_bk (k : Sl → RS) : (thP k Q).bk = Q.bk := nr rfl
@[simp] theorem thP_rt (k : Sl → RS) : (thP k Q).rt = Q.rt := nr rfl
@[simp] theorem thP_ex (k : Sl → RS) : (thP k Q).ex = Q.ex := nr rfl
@[simp] theorem wp_then (r : RS) (k : Sl → RS) : wp (sThen r k) Q = wp r (thP k Q) := by cases r <;> rfl
def kP {α : Type} (k : α → RS) (Q : Po) (a : α) : Prop := wp (k a) Q
@[simp] theorem kP_eq {α : Type} (k : α → RS) (a : α) : kP k Q a = wp (k a) Q := nr rfl
@[simp] theorem wp_ofR {α : Type} (m : Sl) (r : R α) (k : α → RS) : wp (ofR m r k) Q = wpR r (kP k Q) Q.ex := by cases r <;> rfl
theorem wp_imp {r : RS} {Q' : Po} (h : wp r Q) (h1 : ∀ m, Q.nx m → Q'.nx m) (h2 : ∀ m, Q.ct m → Q'.ct m) (h3 : ∀ m, Q.bk m → Q'.bk m) (h4 : ∀ d, Q.rt d → Q'.rt d) (h5 : ∀ c, Q.ex c → Q'.ex c) : wp r Q' := by
  cases r with
  | nx m => exact h1 _ h
  | ct m => exact h2 _ h
  | bk m => exact h3 _ h
  | rt m => exact h4 _ h
  | exc c m => exact h5 _ h
  | stuck => exact h
def wpG (r : R Sl) (Q : Sl → Prop) : Prop := match r with
  | .ok m => Q m
  | _ => False
@[simp] theorem wpG_ok (m : Sl) (Q : Sl → Prop) : wpG (.ok m) Q = Q m := nr rfl
@[simp] theorem wp_matchG (r : R Sl) : wp (match r with | .ok m' => RS.nx m' | _ => .stuck) Q = wpG r Q.nx := by cases r <;> rfl
@[simp] theorem wp_for_nil (g : SemG) (body : SemS) (m : Sl) : wp (forGo g body [] m) Q = Q.nx m := nr rfl
@[simp] theorem wp_for_cons (g : SemG) (body : SemS) (d : D) (ds : List D) (m : Sl) : wp (forGo g body (d :: ds) m) Q = wpG (g d m) fun m1 => wp (body m1) ⟨fun m2 => wp (forGo g body ds m2) Q, fun m2 => wp (forGo g body ds m2) Q, Q.nx, Q.rt, Q.ex⟩ := by
  simp only [forGo]
  cases g d m with
  | ok m1 => simp only [wpG_ok]; cases body m1 <;> rfl
  | exc c => rfl
  | stuck => rfl
theorem wp_for {g : SemG} {body : SemS} {ds : List D} {m : Sl} (I : Nat → Sl → Prop) (h0 : I 0 m)
    (hs : ∀ i d, ds[i]? = some d → ∀ m, I i m → wpG (g d m) fun m1 => wp (body m1) ⟨I (i + 1), I (i + 1), Q.nx, Q.rt, Q.ex⟩) (hk : ∀ m', I ds.length m' → Q.nx m') : wp (forGo g body ds m) Q := by
  have gen : ∀ (n i : Nat) (m : Sl), i + n = ds.length → I i m → wp (forGo g body (ds.drop i) m) Q := by
    intro n
    induction n with
    | zero => intro i m e h; rw [List.drop_eq_nil_of_le (by omega)]; rw [show i = ds.length by omega] at h; exact hk m h
    | succ n ih =>
      intro i m e h
      have hi : i < ds.length := by omega
      rw [List.drop_eq_getElem_cons hi, wp_for_cons]
      have := hs i ds[i] (by simp [hi]) m h
      cases hg : g ds[i] m with
      | ok m1 =>
        rw [hg] at this
        exact wp_imp this (fun m2 z => ih (i + 1) m2 (by omega) z) (fun m2 z => ih (i + 1) m2 (by omega) z) (fun _ z => z) (fun _ z => z) (fun _ z => z)
      | exc c => rw [hg] at this; exact this
      | stuck => rw [hg] at this; exact this
  exact gen ds.length 0 m (by omega) h0
theorem wp_rng {g : SemG} {body : SemS} {lo : Int} {n : Nat} {m : Sl} (I : Nat → Sl → Prop) (h0 : I 0 m)
    (hs : ∀ i, i < n → ∀ m, I i m → wpG (g (.int (lo + (i : Nat))) m) fun m1 => wp (body m1) ⟨I (i + 1), I (i + 1), Q.nx, Q.rt, Q.ex⟩) (hk : ∀ m', I n m' → Q.nx m') : wp (forGo g body (rng lo n) m) Q :=
  wp_for I h0 (fun i d e m h => by
    obtain ⟨h1, h2⟩ := List.getElem?_eq_some_iff.mp e
    rw [rng_length] at h1
    rw [rng_get lo n i h1] at e
    cases e
    exact hs i h1 m h) (fun m' h => hk m' (by rw [rng_length] at h; exact h))
theorem wp_map {α : Type} {enc : α → D} {xs : List α} {g : SemG} {body : SemS} {m : Sl} (I : Nat → Sl → Prop) (h0 : I 0 m)
    (hs : ∀ i a, xs[i]? = some a → ∀ m, I i m → wpG (g (enc a) m) fun m1 => wp (body m1) ⟨I (i + 1), I (i + 1), Q.nx, Q.rt, Q.ex⟩) (hk : ∀ m', I xs.length m' → Q.nx m') : wp (forGo g body (xs.map enc) m) Q :=
  wp_for I h0 (fun i d e m h => by
    rw [List.getElem?_map] at e
    cases hx : xs[i]? with
    | none => rw [hx] at e; cases e
    | some a => rw [hx] at e; cases e; exact hs i a hx m h) (fun m' h => hk m' (by rw [List.length_map] at h; exact h))
theorem wp_each {α : Type} {enc : α → D} {xs : List α} {g : SemG} {body : SemS} {m : Sl} (I : Sl → Prop) (h0 : I m)
    (hs : ∀ a ∈ xs, ∀ m, I m → wpG (g (enc a) m) fun m1 => wp (body m1) ⟨I, I, Q.nx, Q.rt, Q.ex⟩) (hk : ∀ m', I m' → Q.nx m') : wp (forGo g body (xs.map enc) m) Q :=
  wp_map (fun _ => I) h0 (fun i a e m h => hs a (List.mem_of_getElem? e) m h) hk
end
theorem def_run {n k : Nat} {g : SemS} {ds : List D} {Q : D → Prop} {E : String → Prop} (h : ds.length = n) (w : wp (g (ds.map some ++ List.replicate (k - n) none)) ⟨fun _ => Q .non, fun _ => False, fun _ => False, Q, E⟩) : wpR (defF n k g ds) Q E := by
  rw [defF_eq _ _ _ _ h]
  cases hg : g (List.map some ds ++ List.replicate (k - n) none) <;> rw [hg] at w <;> exact w
theorem def_ok1 {n k : Nat} {g : SemS} {ds : List D} {d : D} (h : ds.length = n) (w : wp (g (ds.map some ++ List.replicate (k - n) none)) ⟨fun _ => D.non = d, fun _ => False, fun _ => False, fun x => x = d, fun _ => False⟩) : defF n k g ds = .ok d :=
  wpR_eq (def_run h w)
theorem def_ex1 {n k : Nat} {g : SemS} {ds : List D} {c : String} (h : ds.length = n) (w : wp (g (ds.map some ++ List.replicate (k - n) none)) ⟨fun _ => False, fun _ => False, fun _ => False, fun _ => False, fun x => x = c⟩) : defF n k g ds = .exc c := by
  have := def_run (Q := fun _ => False) (E := fun x => x = c) h w
  cases hd : defF n k g ds with
  | ok x => rw [hd] at this; exact this.elim
  | exc e => rw [hd] at this; exact congrArg _ this
  | stuck => rw [hd] at this; exact this.elim
@[simp] theorem rng1_int {j : Int} (h : -(2 ^ 62) ≤ j ∧ j < 2 ^ 62) : rng1 [.int j] = .ok (rng 0 j.toNat) := by simp only [rng1]; rw [if_pos h]
@[simp] theorem itemsN_lst {xs : List D} {s : Bool} (h : hasTL xs = false) : itemsN s (.lst false xs) = .ok xs := by simp [itemsN, items, h]
theorem powD_lit {i j : Int} (h : 0 ≤ j ∧ (Builtin.Int.intBits i : Int) * j ≤ 2 ^ 27) : powD (.int i) (.int j) = .ok (.int (i ^ j.toNat)) := by simp only [powD]; rw [if_pos h]
@[simp] theorem pow10_18 : powD (.int 10) (.int 18) = .ok (.int 1000000000000000000) := by rw [powD_lit (by decide +kernel)]; rfl
@[simp] theorem pow10_6 : powD (.int 10) (.int 6) = .ok (.int 1000000) := by rw [powD_lit (by decide +kernel)]; rfl
end CT

namespace CT
open PySem PySem.Spec PyProof.Rows L2
def wpX {α : Type} (r : R (α × Sl)) (P : α → Sl → Prop) : Prop := match r with
  | .ok (a, m) => P a m
  | _ => False
@[simp] theorem wpX_ok {α : Type} (a : α) (m : Sl) (P : α → Sl → Prop) : wpX (.ok (a, m)) P = P a m := nr rfl
@[simp] theorem wpX_stuck {α : Type} (P : α → Sl → Prop) : wpX (.stuck : R (α × Sl)) P = False := nr rfl
@[simp] theorem wpX_bind {α β : Type} (r : R (α × Sl)) (k : α → Sl → R (β × Sl)) (P : β → Sl → Prop) : wpX (bindX r k) P = wpX r fun a m => wpX (k a m) P := by
  cases r with
  | ok a => rfl
  | exc c => rfl
  | stuck => rfl
@[simp] theorem wpX_okX (r : R D) (m : Sl) (P : D → Sl → Prop) : wpX (okX r m) P = wpR r fun d => hasT d = false ∧ P d m := by
  cases r with
  | ok d => simp only [okX, wpR_ok]; cases h : hasT d <;> simp
  | exc c => rfl
  | stuck => rfl
theorem wpX_of {α : Type} {r : R (α × Sl)} {a : α} {m : Sl} {P : α → Sl → Prop} (e : r = .ok (a, m)) (h : P a m) : wpX r P := by subst e; exact h
section
variable {Q : Po} {f g : SemX} {h : SemXA} {t u : SemXT} {m : Sl} {i : Nat}
@[simp] theorem wp_ofX {α : Type} (r : R (α × Sl)) (k : α → Sl → RS) : wp (ofX r k) Q = wpX r fun a m => wp (k a m) Q := by
  cases r with
  | ok a => rfl
  | exc c => rfl
  | stuck => rfl
@[simp] theorem xOf_eq (f : SemE) (m : Sl) : xOf f m = okX (f m) m := nr rfl
@[simp] theorem x2_eq (op : D → D → R D) (f g : SemX) (m : Sl) : x2 op f g m = bindX (f m) fun x m1 => bindX (g m1) fun y m2 => okX (op x y) m2 := nr rfl
@[simp] theorem xA_eq (op : List D → R D) (h : SemXA) (m : Sl) : xA op h m = bindX (h m) fun xs m1 => okX (op xs) m1 := nr rfl
@[simp] theorem xaNil_eq (m : Sl) : xaNil m = .ok ([], m) := nr rfl
@[simp] theorem xaCons_eq (f : SemX) (g : SemXA) (m : Sl) : xaCons f g m = bindX (f m) fun x m1 => bindX (g m1) fun xs m2 => .ok (x :: xs, m2) := nr rfl
@[simp] theorem xtYes_eq (m : Sl) : xtYes m = .ok (true, m) := nr rfl
@[simp] theorem wpX_xtOf (P : Bool → Sl → Prop) : wpX (xtOf f m) P = wpX (f m) fun x m1 => match x with
    | .bl c => P c m1
    | _ => False := by
  unfold xtOf
  rw [wpX_bind]
  congr 1
  funext x m1
  cases x <;> rfl
@[simp] theorem wpX_ite {α : Type} {c : Bool} (a b : R (α × Sl)) (P : α → Sl → Prop) : wpX (if c = true then a else b) P = if c = true then wpX a P else wpX b P := by cases c <;> rfl
@[simp] theorem wpX_xThen (k : List D → R (List D)) (P : List D → Sl → Prop) : wpX (xThen h k m) P = wpX (h m) fun xs m1 => wpR (k xs) fun ys => P ys m1 := by
  unfold xThen
  rw [wpX_bind]
  congr 1
  funext xs m1
  cases k xs <;> rfl
@[simp] theorem sSetX_eq (m : Sl) : sSetX i f m = ofX (f m) fun d m1 => .nx (m1.set i (some d)) := nr rfl
@[simp] theorem sIfX_eq (a b : SemS) (m : Sl) : sIfX t a b m = ofX (t m) fun c m1 => if c = true then a m1 else b m1 := nr rfl
end
def wpB (r : RB) (P : D → Sl → Prop) : Prop := match r with
  | .rt d m => P d m
  | .stuck => False
section
variable {P : D → Sl → Prop} {m : Sl}
@[simp] theorem wpB_rt (d : D) (m : Sl) : wpB (.rt d m) P = P d m := nr rfl
@[simp] theorem wpB_stuck : wpB .stuck P = False := nr rfl
theorem wpB_seq (g : SemS) (h : SemB) : wpB (bSeq g h m) P = wp (g m) ⟨fun m1 => wpB (h m1) P, fun _ => False, fun _ => False, fun _ => False, fun _ => False⟩ := by
  unfold bSeq
  cases g m <;> rfl
@[simp] theorem wpB_retX (f : SemX) : wpB (bRetX f m) P = wpX (f m) P := by
  unfold bRetX
  cases f m with
  | ok a => rfl
  | exc c => rfl
  | stuck => rfl
@[simp] theorem wpB_ret (f : SemE) : wpB (bRet f m) P = wpR (f m) fun d => hasT d = false ∧ P d m := by
  unfold bRet
  cases f m with
  | ok d => simp only [wpR_ok]; cases hd : hasT d <;> simp
  | exc c => rfl
  | stuck => rfl
theorem wpB_if (t : SemT) (a b : SemB) : wpB (bIf t a b m) P = wpR (t m) fun c => if c = true then wpB (a m) P else wpB (b m) P := by
  unfold bIf
  cases t m with
  | ok c => cases c <;> rfl
  | exc c => rfl
  | stuck => rfl
theorem defL_run {n k : Nat} {g : SemB} {a : Addr} {xs ds : List D} {P : D → List D → Prop} (hn : (lentD (some a) xs :: ds).length = n)
    (h : wpB (g ((lentD (some a) xs :: ds).map some ++ List.replicate (k - n) none)) fun d m => ∃ ys, m[0]? = some (some (lentD (some a) ys)) ∧ P d ys) :
    ∃ d ys, defL n k g (lentD (some a) xs :: ds) = .ok (d, some (lentD (some a) ys)) ∧ P d ys := by
  unfold defL
  rw [if_pos hn]
  cases hg : g ((lentD (some a) xs :: ds).map some ++ List.replicate (k - n) none) with
  | stuck => rw [hg] at h; exact h.elim
  | rt d m =>
    rw [hg] at h
    obtain ⟨ys, h1, h2⟩ := h
    exact ⟨d, ys, by simp only; rw [h1]; rfl, h2⟩
end
end CT

namespace CK
open PySem PySem.Spec PyProof.Rows L2 CT
theorem atI_of {α : Type} {xs : List α} {i : Nat} {x : α} (h : xs[i]? = some x) : atI xs (i : Int) = some x := by
  obtain ⟨h1, _⟩ := List.getElem?_eq_some_iff.mp h
  unfold atI ixN
  rw [if_pos (by omega), if_pos (by omega)]
  simpa using h
theorem ixD_tup {xs : List D} {i : Nat} {x : D} (h : xs[i]? = some x) : ixD (.tup xs) (.int (i : Int)) = .ok x := by
  simp only [ixD]; rw [atI_of h]
theorem ixD_lst {t : Bool} {xs : List D} {i : Nat} {x : D} (h : xs[i]? = some x) : ixD (.lst t xs) (.int (i : Int)) = .ok x := by
  simp only [ixD]; rw [atI_of h]
@[simp] theorem ixD_0 (x : D) (r : List D) : ixD (.tup (x :: r)) (.int 0) = .ok x := ixD_tup (i := 0) rfl
@[simp] theorem ixD_1 (x y : D) (r : List D) : ixD (.tup (x :: y :: r)) (.int 1) = .ok y := ixD_tup (i := 1) rfl
@[simp] theorem ixD_2 (x y z : D) (r : List D) : ixD (.tup (x :: y :: z :: r)) (.int 2) = .ok z := ixD_tup (i := 2) rfl
@[simp] theorem ixD_l0 (t : Bool) (x : D) (r : List D) : ixD (.lst t (x :: r)) (.int 0) = .ok x := ixD_lst (i := 0) rfl
@[simp] theorem ixD_l1 (t : Bool) (x y : D) (r : List D) : ixD (.lst t (x :: y :: r)) (.int 1) = .ok y := ixD_lst (i := 1) rfl
theorem lcGo_map {α : Type} (enc : α → D) {g : SemG} {t : SemT} {f : SemE} {m : Sl} (c : α → Bool) (x : α → D) : ∀ xs : List α,
    (∀ a ∈ xs, ∃ m1, g (enc a) m = .ok m1 ∧ t m1 = .ok (c a) ∧ (c a = true → f m1 = .ok (x a) ∧ hasT (x a) = false)) → lcGo g t f m (xs.map enc) = .ok ((xs.filter c).map x)
  | [], _ => rfl
  | a :: xs, h => by
    obtain ⟨m1, h1, h2, h3⟩ := h a (by simp)
    have ih := lcGo_map enc (g := g) (t := t) (f := f) (m := m) c x xs fun b hb => h b (by simp [hb])
    rw [List.map_cons, lcGo, h1]
    simp only [nox, CT.R.bind_ok, h2]
    cases hc : c a with
    | false => simp [hc, ih]
    | true =>
      obtain ⟨k1, k2⟩ := h3 hc
      simp [hc, k1, k2, ih, nox]
def encI2 (x : Int × Int) : D := .tup [.int x.1, .int x.2]
end CK

namespace CK
open PySem PySem.Spec PyProof.Rows L2 CT
@[simp] theorem pow_60 : powD (.int 10) (.int 60) = .ok (.int 1000000000000000000000000000000000000000000000000000000000000) := by rw [powD_lit (by decide +kernel)]; rfl
theorem filt_true {α : Type} (l : List α) : l.filter (fun _ => true) = l := List.filter_eq_self.mpr (fun _ _ => rfl)
theorem lcGo_map1 {α : Type} (enc : α → D) {g : SemG} {f : SemE} {m : Sl} (x : α → D) (xs : List α)
    (h : ∀ a ∈ xs, ∃ m1, g (enc a) m = .ok m1 ∧ f m1 = .ok (x a) ∧ hasT (x a) = false) : lcGo g tYesM f m (xs.map enc) = .ok (xs.map x) := by
  rw [lcGo_map enc (fun _ => true) x xs fun a ha => ?_, filt_true]
  obtain ⟨m1, h1, h2, h3⟩ := h a ha
  exact ⟨m1, h1, rfl, fun _ => ⟨h2, h3⟩⟩
end CK

namespace CK
open PySem PySem.Spec PyProof.Rows L2 CT
def Dr (n : Nat) (xs : List D) : Prop := ∃ (a k : Int) (c : Bool), xs = [.int a, .int k, .bl c] ∧ 0 ≤ k ∧ k ≤ n
theorem eLk0 (o : Nat) (xs : List D) (m : Sl) (k : Nat) : eLk 0 k (some (lentD (some o) xs) :: m) = match xs[k]? with
  | some d => .ok d
  | none => .stuck := rfl
theorem subLR0 (o : Nat) (xs : List D) (m : Sl) (k : Nat) (d : D) : subLR 0 k d (some (lentD (some o) xs) :: m) = if hasT d = true then .stuck else if k < xs.length then .ok (some (lentD (some o) (xs.set k d)) :: m) else .stuck := rfl
theorem r_next {n : Nat} {xs : List D} (h : Dr n xs) (hn : n ≤ 1000000) (a : Nat) :
    ∃ v ys, s_law_next [lentD (some a) xs] = .ok (v, some (lentD (some a) ys)) ∧ (∃ i : Int, v = .int i ∧ 0 ≤ i) ∧ Dr (n + 1) ys := by
  obtain ⟨x, k, c, rfl, hk, hk2⟩ := h
  have p6 : powD (.int 10) (.int 6) = .ok (.int 1000000) := by rw [powD_lit (by decide +kernel)]; rfl
  unfold s_law_next
  refine defL_run rfl ?_
  have e : (List.map some [lentD (some a) [.int x, .int k, .bl c]] ++ List.replicate (3 - 1) none : Sl) = [some (lentD (some a) [.int x, .int k, .bl c]), none, none] := rfl
  rw [e]
  cases c
  · simp (disch := first | omega | (simp; done) | fail) [wpB_seq, wpB_if, eLk0, subLR0, p6, modD_ok, divD_s, mulD_l, mulD_r]
    refine ⟨_, rfl, ?_, ⟨x, k + 1, false, rfl, by omega, by omega⟩⟩
    have := Int.emod_nonneg ((((x % 1000003 + (k + 1) * (k + 1) * 7919 + (k + 1)) * 48271 % 2147483629) * ((x % 1000003 + (k + 1) * (k + 1) * 7919 + (k + 1)) * 48271 % 2147483629) % 2147483587) * ((((x % 1000003 + (k + 1) * (k + 1) * 7919 + (k + 1)) * 48271 % 2147483629) * ((x % 1000003 + (k + 1) * (k + 1) * 7919 + (k + 1)) * 48271 % 2147483629) % 2147483587) + 2)) (show (2147483579 : Int) ≠ 0 by omega)
    omega
  · simp (disch := first | omega | (simp; done) | fail) [wpB_seq, wpB_if, eLk0, subLR0, p6, modD_ok, divD_s]
    exact ⟨_, rfl, by omega, ⟨x / 1000000, k + 1, true, rfl, by omega, by omega⟩⟩
def callX (i : Nat) (f : List D → R (D × Option D)) (ds : List D) (m1 : Sl) : R (D × Sl) := match m1[i]? with
    | some (some (.dct ⟨some a, true, true⟩ _ xs)) => (match f (lentD (some a) xs :: ds) with
      | .ok (d, some (.dct ⟨some c, true, true⟩ ks ys)) => if hasT d = false ∧ c = a ∧ ks = noK ys then .ok (d, m1.set i (some (lentD (some a) ys))) else .stuck
      | _ => .stuck)
    | _ => .stuck
@[simp] theorem xCallL_0 (f : List D → R (D × Option D)) (h : SemXA) (o : Option Nat) (xs : List D) (m : Sl) : xCallL 0 f h (some (lentD o xs) :: m) = bindX (h (some (lentD o xs) :: m)) fun ds m1 => callX 0 f ds m1 := nr rfl
theorem callX_eq {f : List D → R (D × Option D)} {ds xs ys : List D} {m : Sl} {a : Nat} {d : D} (e : f (lentD (some a) xs :: ds) = .ok (d, some (lentD (some a) ys))) (n : hasT d = false) :
    callX 0 f ds (some (lentD (some a) xs) :: m) = .ok (d, some (lentD (some a) ys) :: m) := by
  show (match f (lentD (some a) xs :: ds) with
      | .ok (d, some (.dct ⟨some c, true, true⟩ ks ys)) => if hasT d = false ∧ c = a ∧ ks = noK ys then R.ok (d, (some (lentD (some a) xs) :: m).set 0 (some (lentD (some a) ys))) else .stuck
      | _ => .stuck) = _
  rw [e]
  exact if_pos ⟨n, rfl, rfl⟩
theorem wpX_callX {f : List D → R (D × Option D)} {ds xs : List D} {m : Sl} {a : Nat} {P : D → Sl → Prop} {S : D → List D → Prop} (h : ∃ d ys, f (lentD (some a) xs :: ds) = .ok (d, some (lentD (some a) ys)) ∧ S d ys)
    (k : ∀ d ys, S d ys → hasT d = false ∧ P d (some (lentD (some a) ys) :: m)) : wpX (callX 0 f ds (some (lentD (some a) xs) :: m)) P := by
  obtain ⟨d, ys, e, s⟩ := h
  obtain ⟨k1, k2⟩ := k d ys s
  exact wpX_of (callX_eq e k1) k2
theorem wpX_next {n : Nat} {xs : List D} {m : Sl} {a : Nat} {P : D → Sl → Prop} (h : Dr n xs) (hn : n ≤ 1000000) (k : ∀ (i : Int) ys, 0 ≤ i → Dr (n + 1) ys → P (.int i) (some (lentD (some a) ys) :: m)) : wpX (callX 0 s_law_next [] (some (lentD (some a) xs) :: m)) P :=
  wpX_callX (r_next h hn a) fun d ys ⟨⟨i, e, hi⟩, hd⟩ => by subst e; exact ⟨rfl, k i ys hi hd⟩
end CK

namespace CK
open PySem PySem.Spec PyProof.Rows L2 CT
theorem wpX_imp {α : Type} {r : R (α × Sl)} {P Q : α → Sl → Prop} (h : wpX r P) (k : ∀ a m, P a m → Q a m) : wpX r Q := by
  cases r with
  | ok a => exact k _ _ h
  | exc c => exact h.elim
  | stuck => exact h.elim
theorem wpX_lc {α : Type} {enc : α → D} {i : Nat} {t : SemXT} {f : SemX} (I : Nat → List D → Sl → Prop) :
    ∀ (xs : List α) (j : Nat) (acc : List D) (m : Sl) (P : List D → Sl → Prop), I j acc m →
      (∀ k a, xs[k]? = some a → ∀ acc m, I (j + k) acc m → hasT (enc a) = false ∧ wpX (t (m.set i (some (enc a)))) fun c m2 => if c = true then wpX (f m2) fun x m3 => I (j + k + 1) (acc ++ [x]) (m3.set i none) else I (j + k + 1) acc (m2.set i none)) →
      (∀ acc2 m2, I (j + xs.length) acc2 m2 → ∀ r, acc2 = acc ++ r → P r m2) → wpX (lcX i t f (xs.map enc) m) P
  | [], j, acc, m, P, h0, _, hk => by
    simp only [List.map_nil, lcX, wpX_ok]
    exact hk acc m h0 [] (by simp)
  | a :: xs, j, acc, m, P, h0, hs, hk => by
    obtain ⟨n, h1⟩ := hs 0 a rfl acc m h0
    simp only [List.map_cons, lcX]
    rw [if_neg (by rw [n]; decide), wpX_bind]
    refine wpX_imp h1 fun c m2 h2 => ?_
    have next : ∀ acc m, I (j + 0 + 1) acc m → ∀ (P' : List D → Sl → Prop), (∀ acc2 m2, I (j + (a :: xs).length) acc2 m2 → ∀ r, acc2 = acc ++ r → P' r m2) → wpX (lcX i t f (xs.map enc) m) P' := fun acc m h P' hk' =>
      wpX_lc I xs (j + 0 + 1) acc m P' h (fun k b hb acc m h => by
        have := hs (k + 1) b (by simpa using hb) acc m (by rw [show j + (k + 1) = j + 0 + 1 + k by omega]; exact h)
        rw [show j + (k + 1) + 1 = j + 0 + 1 + k + 1 by omega] at this
        exact this) fun acc2 m2 h r e => hk' acc2 m2 (by rw [List.length_cons, show j + (xs.length + 1) = j + 0 + 1 + xs.length by omega]; exact h) r e
    cases c with
    | true =>
      simp only [if_true] at h2 ⊢
      rw [wpX_bind]
      refine wpX_imp h2 fun x m3 h3 => ?_
      rw [wpX_bind]
      refine next _ _ h3 _ fun acc2 m2 h r e => ?_
      exact hk acc2 m2 h (x :: r) (by rw [e]; simp)
    | false =>
      simp only [Bool.false_eq_true, if_false] at h2 ⊢
      exact next _ _ h2 _ fun acc2 m2 h r e => hk acc2 m2 h r e
end CK

namespace CK
open PySem PySem.Spec PyProof.Rows L2 CT
theorem rng_map (n : Nat) : rng 0 n = (List.range n).map fun i : Nat => D.int (i : Int) := by
  unfold rng; congr 1; funext i; rw [Int.zero_add]
end CK

namespace CK
open PySem PySem.Spec PyProof.Rows L2 CT
theorem Dr.mono {n k : Nat} {xs : List D} (h : Dr n xs) (hk : n ≤ k := by omega) : Dr k xs := by
  obtain ⟨a, b, c, e, h1, h2⟩ := h
  exact ⟨a, b, c, e, h1, by omega⟩
theorem wpX_aLcX {h : SemXA} {i : Nat} {t : SemXT} {f : SemX} {m : Sl} {P : List D → Sl → Prop} : wpX (aLcX h i t f m) P = wpX (h m) fun ds m1 => wpX (lcX i t f ds (m1.set i none)) fun r m2 => r.length ≤ sizeLine ∧ P r m2 := by
  unfold aLcX
  rw [wpX_bind]
  congr 1
  funext ds m1
  rw [wpX_bind]
  congr 1
  funext r m2
  by_cases c : r.length ≤ sizeLine
  · rw [if_pos c]; simp [c]
  · rw [if_neg c]; simp [c]
theorem wpX_xOwn {f : SemXA} {m : Sl} {P : D → Sl → Prop} : wpX (xOwn f m) P = wpX (f m) fun ds m' => P (.lst false ds) m' := by
  unfold xOwn
  cases f m with
  | ok a => rfl
  | exc c => rfl
  | stuck => rfl
end CK

namespace CK
open PySem PySem.Spec PyProof.Rows L2 CT
end CK

namespace CK
open PySem PySem.Spec PyProof.Rows L2 CT
end CK

namespace CK
open PySem PySem.Spec PyProof.Rows L2 CT
theorem neD_self {x : D} (h : Sh 64 x) : neD x x = .ok (.bl false) := by rw [neD_ok h h, eqv_self h.1]; rfl
theorem isiD_of {T : String} {x : D} {c : Bool} (h : kitB (tyD x) T = some c) : isiD T x = .ok (.bl c) := by unfold isiD; rw [h]
@[simp] theorem isiD_ii (i : Int) : isiD "int" (.int i) = .ok (.bl true) := isiD_of (show kitB "int" "int" = _ by decide +kernel)
@[simp] theorem isiD_ib (i : Int) : isiD "bool" (.int i) = .ok (.bl false) := isiD_of (show kitB "int" "bool" = _ by decide +kernel)
end CK

namespace CK
open PySem PySem.Spec PyProof.Rows L2 CT
theorem cut_head {α : Type} (xs : List α) (n : Nat) : cutA xs none (some (n : Int)) = xs.take n := by
  unfold cutA
  rw [HT.sIx_none, HT.sIx_nat, List.drop_zero, Nat.sub_zero]
  rcases Nat.le_total n xs.length with h | h
  · rw [Nat.min_eq_left h]
  · rw [Nat.min_eq_right h, List.take_length, List.take_of_length_le h]
theorem cut_tail {α : Type} (xs : List α) (n : Nat) : cutA xs (some (n : Int)) none = xs.drop n := by
  unfold cutA
  rw [HT.sIx_none, HT.sIx_nat]
  rcases Nat.le_total n xs.length with h | h
  · rw [Nat.min_eq_left h, List.take_of_length_le (by simp)]
  · rw [Nat.min_eq_right h, List.drop_length, List.drop_of_length_le h]; simp
@[simp] theorem cutD_lst (t : Bool) (xs : List D) (lo hi : Option Int) : cutD (.lst t xs) lo hi = .ok (.lst false (cutA xs lo hi)) := nr rfl
@[simp] theorem cutD_fr (xs : List D) (lo hi : Option Int) : cutD (.fr xs) lo hi = .ok (.lst false (cutA xs lo hi)) := nr rfl
@[simp] theorem cutD_tup (xs : List D) (lo hi : Option Int) : cutD (.tup xs) lo hi = .ok (.tup (cutA xs lo hi)) := nr rfl
theorem addD_lst {t t' : Bool} {xs ys : List D} (h : xs.length + ys.length ≤ 16777216) : addD (.lst t xs) (.lst t' ys) = .ok (.lst false (xs ++ ys)) := by
  simp only [addD]; rw [if_pos (small h)]
end CK

namespace CK
open PySem PySem.Spec PyProof.Rows L2 CT
end CK

namespace CK
open PySem PySem.Spec PyProof.Rows L2 CT
@[simp] theorem isi_int_non : isiD "int" .non = .ok (.bl false) := isiD_of (show kitB "NoneType" "int" = _ by decide +kernel)
@[simp] theorem isi_int_bl (b : Bool) : isiD "int" (.bl b) = .ok (.bl true) := isiD_of (show kitB "bool" "int" = _ by decide +kernel)
@[simp] theorem isi_int_str (x : Str) : isiD "int" (.str x) = .ok (.bl false) := isiD_of (show kitB "str" "int" = _ by decide +kernel)
@[simp] theorem isi_int_tup (xs : List D) : isiD "int" (.tup xs) = .ok (.bl false) := isiD_of (show kitB "tuple" "int" = _ by decide +kernel)
@[simp] theorem isi_int_lst (t : Bool) (xs : List D) : isiD "int" (.lst t xs) = .ok (.bl false) := isiD_of (show kitB "list" "int" = _ by decide +kernel)
@[simp] theorem isi_int_fr (xs : List D) : isiD "int" (.fr xs) = .ok (.bl false) := isiD_of (show kitB "list" "int" = _ by decide +kernel)
@[simp] theorem isi_bool_non : isiD "bool" .non = .ok (.bl false) := isiD_of (show kitB "NoneType" "bool" = _ by decide +kernel)
@[simp] theorem isi_bool_bl (b : Bool) : isiD "bool" (.bl b) = .ok (.bl true) := isiD_of (show kitB "bool" "bool" = _ by decide +kernel)
@[simp] theorem isi_bool_str (x : Str) : isiD "bool" (.str x) = .ok (.bl false) := isiD_of (show kitB "str" "bool" = _ by decide +kernel)
@[simp] theorem isi_bool_tup (xs : List D) : isiD "bool" (.tup xs) = .ok (.bl false) := isiD_of (show kitB "tuple" "bool" = _ by decide +kernel)
@[simp] theorem isi_bool_lst (t : Bool) (xs : List D) : isiD "bool" (.lst t xs) = .ok (.bl false) := isiD_of (show kitB "list" "bool" = _ by decide +kernel)
@[simp] theorem isi_bool_fr (xs : List D) : isiD "bool" (.fr xs) = .ok (.bl false) := isiD_of (show kitB "list" "bool" = _ by decide +kernel)
theorem bools_map : ∀ bs : List Bool, bools (bs.map D.bl) = some bs
  | [] => rfl
  | b :: bs => by rw [List.map_cons, bools, bools_map bs]; rfl
@[simp] theorem allD_bls (t : Bool) (bs : List Bool) : allD [.lst t (bs.map D.bl)] = .ok (.bl (bs.all id)) := by simp only [allD, bools_map]
@[simp] theorem allD_f {α : Type} (t : Bool) (c : α → Bool) (xs : List α) : allD [.lst t (xs.map fun a => D.bl (c a))] = .ok (.bl (xs.all c)) := by
  rw [show (xs.map fun a => D.bl (c a)) = (xs.map c).map D.bl by rw [List.map_map]; rfl, allD_bls, List.all_map]; rfl
@[simp] theorem sRaise_eq (c : String) (m : Sl) : sRaise c m = .exc c m := nr rfl
def isWholeB : D → Bool
  | .int _ => true
  | _ => false
def isX : D → Bool
  | .unk => true
  | .ex _ => true
  | .fn _ => true
  | .dic _ _ => true
  | .dct _ _ _ => true
  | .non => false
  | .bl _ => false
  | .int _ => false
  | .str _ => false
  | .tup _ => false
  | .lst _ _ => false
  | .fr _ => false
@[simp] theorem isX_non : isX .non = false := nr rfl
@[simp] theorem isX_bl (b : Bool) : isX (.bl b) = false := nr rfl
@[simp] theorem isX_int (b : Int) : isX (.int b) = false := nr rfl
@[simp] theorem isX_str (b : Str) : isX (.str b) = false := nr rfl
@[simp] theorem isX_tup (b : List D) : isX (.tup b) = false := nr rfl
@[simp] theorem isX_lst (t : Bool) (b : List D) : isX (.lst t b) = false := nr rfl
@[simp] theorem isX_fr (b : List D) : isX (.fr b) = false := nr rfl
end CK

namespace CK
open PySem PySem.Spec PyProof.Rows L2 CT
end CK

namespace CK
open PySem PySem.Spec PyProof.Rows L2 CT
end CK

namespace CK
open PySem PySem.Spec PyProof.Rows L2 CT
end CK

namespace CK
open PySem PySem.Spec PyProof.Rows L2 CT
end CK

namespace CK
open PySem PySem.Spec PyProof.Rows L2 CT
theorem wp_cut {r : RS} {Q : Po} (P : Sl → Prop) (h : wp r ⟨P, fun _ => False, fun _ => False, fun _ => False, fun _ => False⟩) (k : ∀ m, P m → Q.nx m) : wp r Q :=
  wp_imp h k (fun _ z => z.elim) (fun _ z => z.elim) (fun _ z => z.elim) (fun _ z => z.elim)
end CK

namespace CK
open PySem PySem.Spec PyProof.Rows L2 CT
def encS (st : List Int) : D := .tup (st.map .int)
end CK

namespace CK
open PySem PySem.Spec PyProof.Rows L2 CT
@[simp] theorem sAppX_eq (i : Nat) (f : SemX) (m : Sl) : sAppX i f m = mine i m fun _ => ofX (f m) fun d m1 => mine i m1 fun xs => if xs.length < sizeLine then .nx (m1.set i (some (.lst true (xs ++ [d])))) else .stuck := nr rfl
end CK

namespace CK
open PySem PySem.Spec PyProof.Rows L2 CT
end CK

namespace CK
open PySem PySem.Spec PyProof.Rows L2 CT
@[simp] theorem ixD_l2 (t : Bool) (x y z : D) (r : List D) : ixD (.lst t (x :: y :: z :: r)) (.int 2) = .ok z := ixD_lst (i := 2) rfl
@[simp] theorem ixD_l3 (t : Bool) (x y z u : D) (r : List D) : ixD (.lst t (x :: y :: z :: u :: r)) (.int 3) = .ok u := ixD_lst (i := 3) rfl
@[simp] theorem ixD_l4 (t : Bool) (x y z u v : D) (r : List D) : ixD (.lst t (x :: y :: z :: u :: v :: r)) (.int 4) = .ok v := ixD_lst (i := 4) rfl
@[simp] theorem ixD_l5 (t : Bool) (x y z u v a : D) (r : List D) : ixD (.lst t (x :: y :: z :: u :: v :: a :: r)) (.int 5) = .ok a := ixD_lst (i := 5) rfl
@[simp] theorem ixD_l6 (t : Bool) (x y z u v a b : D) (r : List D) : ixD (.lst t (x :: y :: z :: u :: v :: a :: b :: r)) (.int 6) = .ok b := ixD_lst (i := 6) rfl
@[simp] theorem ixD_l7 (t : Bool) (x y z u v a b c : D) (r : List D) : ixD (.lst t (x :: y :: z :: u :: v :: a :: b :: c :: r)) (.int 7) = .ok c := ixD_lst (i := 7) rfl
@[simp] theorem ixD_t3 (x y z u : D) (r : List D) : ixD (.tup (x :: y :: z :: u :: r)) (.int 3) = .ok u := ixD_tup (i := 3) rfl
@[simp] theorem ixD_t4 (x y z u v : D) (r : List D) : ixD (.tup (x :: y :: z :: u :: v :: r)) (.int 4) = .ok v := ixD_tup (i := 4) rfl
end CK

namespace CK
open PySem PySem.Spec PyProof.Rows L2 CT
@[simp] theorem sRetO_eq' (a : SemA) (m : Sl) : sRetO a m = ofR m (a m) fun ds => if hasTL ds = true then .stuck else .rt (.lst true ds) := nr rfl
end CK

namespace CK
open PySem PySem.Spec PyProof.Rows L2 CT
end CK

namespace CK
open PySem PySem.Spec PyProof.Rows L2 CT
end CK

namespace CK
open PySem PySem.Spec PyProof.Rows L2 CT
end CK

namespace CK
open PySem PySem.Spec PyProof.Rows L2 CT
end CK

namespace CK
open PySem PySem.Spec PyProof.Rows L2 CT
end CK

namespace CK
open PySem PySem.Spec PyProof.Rows L2 CT
end CK

namespace CK
open PySem PySem.Spec PyProof.Rows L2 CT
end CK

namespace CK
open PySem PySem.Spec PyProof.Rows L2 CT
end CK

namespace CK
open PySem PySem.Spec PyProof.Rows L2 CT
end CK

namespace CK
open PySem PySem.Spec PyProof.Rows L2 CT
end CK

namespace CK
open PySem PySem.Spec PyProof.Rows L2 CT
end CK

namespace CK
open PySem PySem.Spec PyProof.Rows L2 CT
end CK

namespace CK
open PySem PySem.Spec PyProof.Rows L2 CT
end CK

namespace CK
open PySem PySem.Spec PyProof.Rows L2 CT
end CK

namespace CK
open PySem PySem.Spec PyProof.Rows L2 CT
end CK

namespace CK
open PySem PySem.Spec PyProof.Rows L2 CT
end CK

namespace CK
open PySem PySem.Spec PyProof.Rows L2 CT
end CK

namespace CK
open PySem PySem.Spec PyProof.Rows L2 CT
end CK

namespace CK
open PySem PySem.Spec PyProof.Rows L2 CT
end CK

namespace CK
open PySem PySem.Spec PyProof.Rows L2 CT
end CK

namespace CK
open PySem PySem.Spec PyProof.Rows L2 CT
end CK

namespace CK
open PySem PySem.Spec PyProof.Rows L2 CT
end CK

namespace CK
open PySem PySem.Spec PyProof.Rows L2 CT
end CK

namespace CK
open PySem PySem.Spec PyProof.Rows L2 CT
end CK

namespace CK
open PySem PySem.Spec PyProof.Rows L2 CT
end CK

namespace CK
open PySem PySem.Spec PyProof.Rows L2 CT
end CK

namespace CK
open PySem PySem.Spec PyProof.Rows L2 CT
end CK

namespace CK
open PySem PySem.Spec PyProof.Rows L2 CT
end CK

namespace CK
open PySem PySem.Spec PyProof.Rows L2 CT
end CK

namespace CK
open PySem PySem.Spec PyProof.Rows L2 CT
end CK

namespace CK
open PySem PySem.Spec PyProof.Rows L2 CT
end CK

namespace CK
open PySem PySem.Spec PyProof.Rows L2 CT
end CK

namespace CK
open PySem PySem.Spec PyProof.Rows L2 CT
def chkL {α : Type} (x : Option (Option D)) (r : R α) : R α := match x with
  | some (some (.dct _ _ _)) => r
  | _ => .stuck
@[simp] theorem chkL_lent {α : Type} (o : Option Nat) (xs : List D) (r : R α) : chkL (some (some (lentD o xs))) r = r := nr rfl
theorem xCallL_eq (i : Nat) (f : List D → R (D × Option D)) (h : SemXA) (m : Sl) : xCallL i f h m = chkL m[i]? (bindX (h m) fun ds m1 => callX i f ds m1) := by
  unfold xCallL callX chkL
  rfl
theorem wpX_callAt {i : Nat} {f : List D → R (D × Option D)} {ds xs : List D} {m : Sl} {a : Nat} {P : D → Sl → Prop} {S : D → List D → Prop} (hm : m[i]? = some (some (lentD (some a) xs)))
    (h : ∃ d ys, f (lentD (some a) xs :: ds) = .ok (d, some (lentD (some a) ys)) ∧ S d ys) (k : ∀ d ys, S d ys → hasT d = false ∧ P d (m.set i (some (lentD (some a) ys)))) : wpX (callX i f ds m) P := by
  obtain ⟨d, ys, e, s⟩ := h
  obtain ⟨k1, k2⟩ := k d ys s
  refine wpX_of (a := d) (m := m.set i (some (lentD (some a) ys))) ?_ k2
  unfold callX
  rw [hm]
  show (match f (lentD (some a) xs :: ds) with
      | .ok (d, some (.dct ⟨some c, true, true⟩ ks ys)) => if hasT d = false ∧ c = a ∧ ks = noK ys then R.ok (d, m.set i (some (lentD (some a) ys))) else .stuck
      | _ => .stuck) = _
  rw [e]
  exact if_pos ⟨k1, rfl, rfl⟩
theorem wp_newL {i : Nat} {h : SemA} {g : SemS} {m : Sl} {Q : Po} {ds : List D} (e : h m = .ok ds) (t : hasTL ds = false) (k : ∀ a : Nat, wp (g (m.set i (some (lentD (some a) ds)))) ⟨fun m' => m'.length = m.length, fun _ => False, fun _ => False, fun _ => False, fun _ => False⟩)
    (q : Q.nx (List.replicate m.length none)) : wp (sNewL i h g m) Q := by
  unfold sNewL
  rw [e]
  simp only [ofR_ok]
  rw [if_neg (by rw [t]; decide), if_pos]
  · exact q
  · intro a
    have := k a
    cases hg : g (m.set i (some (lentD (some a) ds))) with
    | nx m' => rw [hg] at this; exact ⟨m', rfl, this⟩
    | ct m' => rw [hg] at this; exact this.elim
    | bk m' => rw [hg] at this; exact this.elim
    | rt d => rw [hg] at this; exact this.elim
    | exc c m' => rw [hg] at this; exact this.elim
    | stuck => rw [hg] at this; exact this.elim
def big2 : Int := (10 ^ 60) ^ 50
def big3 : Int := big2 ^ 3
theorem big3_pos : 0 < big3 := by decide +kernel
theorem pow_big2 : powD (.int 1000000000000000000000000000000000000000000000000000000000000) (.int 50) = .ok (.int big2) := by rw [powD_lit (by decide +kernel)]; rfl
theorem pow_big3 : powD (.int big2) (.int 3) = .ok (.int big3) := by rw [powD_lit (by decide +kernel)]; rfl
theorem r_draws (c : Int) : ∃ xs, s_law_draws [.int c] = .ok (.lst true xs) ∧ Dr 0 xs ∧ hasTL xs = false := by
  unfold s_law_draws
  have main : wpR (defF 1 1 (sSeq (sIf (tOf (CT.e2 ltD (eVar 0) (CT.e2 powD (eC (.int 10)) (eC (.int 18))))) (sRetO (aThen (aCons (eVar 0) (aCons (eC (.int 0)) (aCons (eC (.bl false)) aNil))) mkLst)) sNop)
    (sRetO (aThen (aCons (CT.e2 modD (eVar 0) (CT.e2 powD (CT.e2 powD (CT.e2 powD (eC (.int 10)) (eC (.int 60))) (eC (.int 50))) (eC (.int 3)))) (aCons (eC (.int 0)) (aCons (eC (.bl true)) aNil))) mkLst))) [.int c]) (fun d => ∃ xs, d = .lst true xs ∧ Dr 0 xs ∧ hasTL xs = false) := by
    refine def_run rfl ?_
    by_cases h : c < 1000000000000000000
    · simp [h, sRetO]
      exact ⟨c, 0, false, rfl, by omega, by omega⟩
    · simp [h, sRetO, pow_big2, pow_big3, modD_ok big3_pos]
      exact ⟨c % big3, 0, true, rfl, by omega, by omega⟩
  obtain ⟨d, e, xs, rfl, h⟩ := wpR_ex main
  exact ⟨xs, e, h⟩
theorem set_none {m : Sl} {v : Nat} {x : Option D} (h : m[v]? = some none) : (m.set v x).set v none = m := by
  rw [List.set_set]
  exact List.ext_getElem? fun j => by
    rw [List.getElem?_set]
    split
    · next e => subst e; split <;> simp_all
    · rfl
end CK

namespace CK
open PySem PySem.Spec PyProof.Rows L2 CT
theorem sl_set_same {m : Sl} {i : Nat} {x : Option D} (h : m[i]? = some x) : m.set i x = m := List.ext_getElem? fun j => by
  rw [List.getElem?_set]
  split
  · next e => subst e; rw [if_pos (List.getElem?_eq_some_iff.mp h).1, h]
  · rfl
theorem lc_calls {α β : Type} {i v n c : Nat} {g : SemX} {m : Sl} {a : Nat} {xs : List D} {enc : α → D} {src : List β} {encB : β → D} {S : β → α → Prop} {P : List D → Sl → Prop}
    (hm : m[i]? = some (some (lentD (some a) xs))) (hv : m[v]? = some none) (h : Dr n xs) (hB : ∀ b, hasT (encB b) = false)
    (hg : ∀ b ∈ src, ∀ (n' : Nat) zs, Dr n' zs → n' ≤ n + c * src.length → wpX (g ((m.set i (some (lentD (some a) zs))).set v (some (encB b)))) fun d m3 => ∃ x ys, d = enc x ∧ S b x ∧ Dr (n' + c) ys ∧ m3 = (m.set i (some (lentD (some a) ys))).set v (some (encB b)))
    (k : ∀ (rs : List α) ys, rs.length = src.length → (∀ (k : Nat) x b, rs[k]? = some x → src[k]? = some b → S b x) → Dr (n + c * src.length) ys → P (rs.map enc) (m.set i (some (lentD (some a) ys)))) :
    wpX (lcX v xtYes g (src.map encB) m) P := by
  have hiv : i ≠ v := fun e => by subst e; rw [hm] at hv; cases hv
  obtain ⟨I, hI⟩ : ∃ I : Nat → List D → Sl → Prop, I = fun (j : Nat) acc m1 => ∃ (rs : List α) (zs : List D), acc = rs.map enc ∧ rs.length = j ∧ (∀ (k : Nat) x b, rs[k]? = some x → src[k]? = some b → S b x) ∧ Dr (n + c * j) zs ∧ m1 = m.set i (some (lentD (some a) zs)) := ⟨_, rfl⟩
  refine wpX_lc (enc := encB) I src 0 [] m P ?_ (fun j q hq acc m1 h1 => ?_) (fun acc2 m2 h2 r e => ?_)
  · rw [hI]
    exact ⟨[], xs, rfl, rfl, fun k x b h => by simp at h, h.mono, (sl_set_same hm).symm⟩
  · rw [hI] at h1
    obtain ⟨rs, zs, rfl, s0, s1, hz, rfl⟩ := h1
    rw [Nat.zero_add] at s0 hz
    have hjl := (List.getElem?_eq_some_iff.mp hq).1
    refine ⟨hB q, ?_⟩
    rw [xtYes_eq, wpX_ok, if_pos rfl]
    have hle : c * j ≤ c * src.length := Nat.mul_le_mul_left _ (by omega)
    refine wpX_imp (hg q (List.mem_of_getElem? hq) _ zs hz (by omega)) fun d m3 ⟨x, ys, e1, e2, e3, e4⟩ => ?_
    subst e1; subst e4
    rw [hI]
    refine ⟨rs ++ [x], ys, by simp, by simp; omega, fun k y b hy hb => ?_, by rw [Nat.zero_add, Nat.mul_succ]; exact e3.mono, ?_⟩
    · rw [List.getElem?_append] at hy
      split at hy
      · exact s1 k y b hy hb
      · have hk : k = j := by
          have := (List.getElem?_eq_some_iff.mp hy).1
          simp at this; omega
        subst hk
        rw [s0, Nat.sub_self] at hy
        simp at hy
        subst hy
        rw [hq] at hb; cases hb
        exact e2
    · exact set_none (by rw [List.getElem?_set_ne hiv]; exact hv)
  · rw [hI] at h2
    obtain ⟨rs, zs, rfl, s0, s1, hz, rfl⟩ := h2
    simp only [Nat.zero_add, List.nil_append] at s0 hz e
    subst e
    exact k rs zs s0 s1 hz
theorem pow10_40 : powD (.int 10) (.int 40) = .ok (.int 10000000000000000000000000000000000000000) := by rw [powD_lit (by decide +kernel)]; rfl
end CK

namespace CK
open PySem PySem.Spec PyProof.Rows L2 CT
end CK

namespace CK
open PySem PySem.Spec PyProof.Rows L2 CT
open TL (tl mk_tl len_tl ext_tl tl_append tl_ofString spl par joinL tl_join join_eq split_spl kind_ok partition_par)
def mkS (l : List Nat) : Str := ⟨l.toArray⟩
theorem tl_mkS (l : List Nat) : tl (mkS l) = l := rfl
theorem mkS_tl (x : Str) : mkS (tl x) = x := mk_tl x
theorem mkS_len (l : List Nat) : (mkS l).length = l.length := by rw [len_tl, tl_mkS]
theorem mkS_inj {a b : List Nat} (h : mkS a = mkS b) : a = b := by rw [← tl_mkS a, h, tl_mkS]
theorem mkS_app (a b : List Nat) : mkS a ++ mkS b = mkS (a ++ b) := ext_tl (by rw [tl_append, tl_mkS, tl_mkS, tl_mkS])
theorem mkS_of (s : String) : Str.ofString s = mkS (s.toList.map Char.toNat) := ext_tl (by rw [tl_ofString, tl_mkS])
theorem mkS_num (n : Nat) : Str.ofString (toString ((n : Nat) : Int)) = mkS (TL.numL n) := ext_tl (by rw [TL.tl_num, tl_mkS])
abbrev tx (l : List Nat) : D := .str (mkS l)
theorem tx_len (l : List Nat) (h : l.length ≤ 16777216) : lenD [tx l] = .ok (.int l.length) := by
  show (if (mkS l).length ≤ sizeLine then R.ok (D.int (mkS l).length) else .stuck) = _
  rw [if_pos (by rw [mkS_len]; exact small h), mkS_len]
theorem tx_add (a b : List Nat) (h : a.length + b.length ≤ 16777216) : addD (tx a) (tx b) = .ok (tx (a ++ b)) := by
  show (if (mkS a).length + (mkS b).length ≤ sizeLine then R.ok (D.str (mkS a ++ mkS b)) else .stuck) = _
  rw [if_pos (by rw [mkS_len, mkS_len]; exact small h), mkS_app]
theorem tx_eq (a b : List Nat) : eqD (tx a) (tx b) = .ok (.bl (decide (a = b))) := by
  rw [eqD_strs]
  congr 2
  by_cases h : a = b
  · subst h; simp
  · rw [decide_eq_false h, beq_eq_false_iff_ne]; exact fun z => h (mkS_inj z)
theorem tx_ne (a b : List Nat) : neD (tx a) (tx b) = .ok (.bl (!decide (a = b))) := by
  rw [neD_strs]
  congr 3
  by_cases h : a = b
  · subst h; simp
  · rw [decide_eq_false h, beq_eq_false_iff_ne]; exact fun z => h (mkS_inj z)
theorem tx_items (s : Bool) (l : List Nat) : itemsN s (tx l) = .ok (l.map fun c => tx [c]) := by
  have h : hasTL (l.map fun c => tx [c]) = false := hasTL_map (fun _ => rfl) l
  show (if (s && hasTL (l.map fun c => tx [c])) = true then R.stuck else R.ok (l.map fun c => tx [c])) = _
  rw [h, Bool.and_false]; rfl
theorem tx_cut (l : List Nat) (lo hi : Option Int) (h : l.length ≤ 16777216) : cutD (tx l) lo hi = .ok (tx (cutA l lo hi)) := by
  have e : cutS (mkS l) lo hi = mkS (cutA l lo hi) := rfl
  show (if (mkS l).length ≤ sizeLine then R.ok (D.str (cutS (mkS l) lo hi)) else .stuck) = _
  rw [if_pos (by rw [mkS_len]; exact small h), e]
theorem tx_ix (l : List Nat) (i : Int) {c : Nat} (h : l.length ≤ 16777216) (hc : atI l i = some c) : ixD (tx l) (.int i) = .ok (tx [c]) := by
  show (if (mkS l).length ≤ sizeLine then (match atI (mkS l).cps.toList i with | some c => R.ok (D.str ⟨#[c]⟩) | none => .stuck) else .stuck) = _
  rw [if_pos (by rw [mkS_len]; exact small h), show (mkS l).cps.toList = l from rfl, hc]; rfl
theorem tx_in (c : Nat) (l : List Nat) : inD (tx [c]) (tx l) = .ok (.bl (decide (c ∈ l))) := by
  show R.ok (D.bl (!(Builtin.Str.occurrences (mkS l) (mkS [c]) 0 (mkS l).length 1).isEmpty)) = _
  congr 2
  exact PySem.StrLaws.found_one (mkS l) c
theorem tx_eqv (a b : List Nat) : eqvD (tx a) (tx b) = decide (a = b) := by
  unfold eqvD
  have : PyData.eqv (py (tx a)) (py (tx b)) = (mkS a == mkS b) := by simp only [py, PyData.eqv]
  rw [this]
  by_cases h : a = b
  · subst h; simp
  · rw [decide_eq_false h, beq_eq_false_iff_ne]; exact fun z => h (mkS_inj z)
def Asc (l : List Nat) : Prop := ∀ c ∈ l, c < 128
theorem Asc.app {a b : List Nat} (h : Asc a) (k : Asc b) : Asc (a ++ b) := fun c hc => (List.mem_append.mp hc).elim (h c) (k c)
theorem Asc.ok {l : List Nat} (h : Asc l) : PyData.strOk (mkS l) = true := by
  unfold PyData.strOk
  rw [Array.all_eq_true']
  intro c hc
  have : c ∈ l := by simpa [mkS] using hc
  have := h c this
  simp; omega
theorem asc_num (n : Nat) : Asc (TL.numL n) := fun c hc => by have := TL.numL_digits n c hc; omega
theorem numL_len40 {n : Nat} (h : n < 10 ^ 40) : (TL.numL n).length ≤ 40 := TL.numL_len (by decide) h
theorem tx_num (n : Nat) (h : n < 10 ^ 300) : strD [.int (n : Int)] = .ok (tx (TL.numL n)) := by
  show (if ((n : Int)).natAbs.log2 < 1920 then R.ok (D.str (Str.ofString (toString ((n : Nat) : Int)))) else .stuck) = _
  have : ((n : Int)).natAbs.log2 < 1920 := by
    rw [Int.natAbs_natCast]
    by_cases hz : n = 0
    · subst hz; decide
    rw [Nat.log2_lt hz]
    exact Nat.lt_of_lt_of_le h (by decide +kernel)
  rw [if_pos this, mkS_num]
theorem tx_split (l : List Nat) (c : Nat) (hc : c < 256) (h : l.length ≤ 16777214) : splitD (mkS l) (tx [c]) = .ok ((spl [c] 0 [] l).map tx) := by
  show (if ((mkS [c]).length == 0) = false ∧ (mkS l).length + 2 ≤ sizeLine then R.ok ((Txt.split (mkS l) (mkS [c])).map D.str) else .stuck) = _
  rw [if_pos ⟨rfl, by rw [mkS_len, sizeBig]; omega⟩]
  congr 1
  have := split_spl (mkS l) (mkS [c]) (by rw [tl_mkS]; simp) (kind_ok (by simp [mkS, hc]))
  rw [tl_mkS, tl_mkS] at this
  rw [← this, List.map_map]
  refine List.map_congr_left fun x _ => ?_
  show D.str x = D.str (mkS (tl x))
  rw [mkS_tl]
theorem tx_part (l : List Nat) (c : Nat) (h : l.length ≤ 16777216) : partD (mkS l) (tx [c]) = .ok (match par [c] [] l with
    | some (a, b) => .tup [tx a, tx [c], tx b]
    | none => .tup [tx l, tx [], tx []]) := by
  show (if ((mkS [c]).length == 0) = false ∧ (mkS l).length ≤ sizeLine then R.ok (D.tup [.str (Txt.partition (mkS l) (mkS [c])).1, .str (Txt.partition (mkS l) (mkS [c])).2.1, .str (Txt.partition (mkS l) (mkS [c])).2.2]) else .stuck) = _
  rw [if_pos ⟨rfl, by rw [mkS_len]; exact small h⟩, partition_par _ _ (by rw [tl_mkS]; simp), tl_mkS, tl_mkS]
  cases par [c] [] l with
  | none => rfl
  | some q => rfl
theorem tx_join (c : List Nat) (ws : List (List Nat)) (h : (ws.map (·.length)).sum + ws.length * c.length ≤ 16777216) (t : Bool) : joinD (tx c) (.lst t (ws.map tx)) = .ok (tx (joinL c ws)) := by
  have so : ∀ us : List (List Nat), joinD.strsOf (us.map tx) = some (us.map mkS) := fun us => by
    induction us with
    | nil => rfl
    | cons u us ih => rw [List.map_cons]; simp only [joinD.strsOf, ih]; rfl
  simp only [joinD, so]
  rw [if_pos (by rw [List.map_map, List.length_map, mkS_len]; rw [show (fun x : Str => x.length) ∘ mkS = fun x : List Nat => x.length from funext mkS_len]; exact h), join_eq]
  congr 2
  refine ext_tl ?_
  rw [tl_join, tl_mkS, tl_mkS, List.map_map]
  congr 1
  rw [show tl ∘ mkS = id from rfl, List.map_id]
theorem tx_int {l : List Nat} (h : NumText.AllDigits l) (hn : l ≠ []) (hl : l.length ≤ 640) : intA [tx l] = .ok (.int (NumText.digitsVal l : Nat)) := by
  have e : intText? (mkS l) = some ((NumText.digitsVal l : Nat) : Int) := by
    have := intText_digits (x := mkS l) (show NumText.AllDigits (tl (mkS l)) from h) (show tl (mkS l) ≠ [] from hn) (by rw [mkS_len]; omega)
    exact this
  show (match PySem.intText? (mkS l) with | some n => if (mkS l).length ≤ 640 then R.ok (D.int n) else .stuck | none => .stuck) = _
  rw [e]
  simp only
  rw [if_pos (by rw [mkS_len]; exact hl)]
end CK

namespace CK
open PySem PySem.Spec PyProof.Rows L2 CT
open TL (tl mk_tl len_tl ext_tl tl_append tl_ofString spl par joinL tl_join join_eq split_spl kind_ok partition_par)
@[simp] theorem R.map_exc {α β : Type} (g : α → β) (c : String) : R.map g (R.exc c) = .exc c := rfl
@[simp] theorem R.map_stuck {α β : Type} (g : α → β) : R.map g R.stuck = .stuck := rfl
theorem k_none : (("none" : Str)) = mkS [110, 111, 110, 101] := mkS_of _
theorem k_dig : (("0123456789" : Str)) = mkS [48, 49, 50, 51, 52, 53, 54, 55, 56, 57] := mkS_of _
theorem k_0 : (("0" : Str)) = mkS [48] := mkS_of _
theorem k_1 : (("1" : Str)) = mkS [49] := mkS_of _
theorem k_m1 : (("-1" : Str)) = mkS [45, 49] := mkS_of _
theorem k_p : (("+" : Str)) = mkS [43] := mkS_of _
theorem k_m : (("-" : Str)) = mkS [45] := mkS_of _
theorem k_eq : (("=" : Str)) = mkS [61] := mkS_of _
theorem k_sp : ((" " : Str)) = mkS [32] := mkS_of _
theorem k_e : (("" : Str)) = mkS [] := mkS_of _
theorem k_pm : (("+-" : Str)) = mkS [43, 45] := mkS_of _
theorem k_mp : (("-+" : Str)) = mkS [45, 43] := mkS_of _
def isDig (c : Nat) : Bool := decide (48 ≤ c ∧ c ≤ 57)
theorem dig_in (c : Nat) : decide (c ∈ [48, 49, 50, 51, 52, 53, 54, 55, 56, 57]) = isDig c := by
  unfold isDig
  refine decide_eq_decide.mpr ⟨fun h => ?_, fun h => ?_⟩
  · simp at h; omega
  · simp; omega
def cntL (l : List Nat) : R Int := if 1 ≤ l.length ∧ l.length ≤ 40 ∧ l.all isDig = true ∧ (l.head? ≠ some 48 ∨ l = [48]) then .ok (NumText.digitsVal l : Nat) else .exc "NoText"
def wayL (l : List Nat) : R Int := if l = [43] then .ok 1 else if l = [45] then .ok (-1) else .exc "NoText"
def pshL (l : List Nat) : R (Int × Int) := (cntL (cutA l none (some (-1)))).bind fun i => (wayL (cutA l (some (-1)) none)).bind fun w => .ok (i, w)
def shwL (l : List Nat) : R Int := if l = [49] then .ok 1 else if l = [45, 49] then .ok (-1) else if l = [48] then .ok 0 else .exc "NoText"
theorem r_sure (b : Bool) : s_sure [.bl b] = if b = true then .ok .non else .exc "NoText" := by
  cases b with
  | true =>
    rw [if_pos rfl]
    unfold s_sure
    refine def_ok1 rfl ?_
    simp
  | false =>
    rw [if_neg (by decide)]
    unfold s_sure
    refine def_ex1 rfl ?_
    simp
theorem def_rR {n k : Nat} {g : SemS} {ds : List D} {r : R D} (h : ds.length = n) (hs : r ≠ .stuck) (w : wp (g (ds.map some ++ List.replicate (k - n) none)) ⟨fun _ => r = .ok .non, fun _ => False, fun _ => False, fun x => r = .ok x, fun c => r = .exc c⟩) : defF n k g ds = r := by
  rw [defF_eq _ _ _ _ h]
  cases hg : g (List.map some ds ++ List.replicate (k - n) none) <;> rw [hg] at w <;> first | exact w.symm | exact w.elim
theorem cntL_ns (l : List Nat) : cntL l ≠ .stuck := by unfold cntL; split <;> intro h <;> cases h
theorem map_ns {α β : Type} {r : R α} {f : α → β} (h : r ≠ .stuck) : r.map f ≠ .stuck := by
  cases r with
  | ok a => intro z; cases z
  | exc c => intro z; cases z
  | stuck => exact absurd rfl h
theorem r_count_in (l : List Nat) (h : l.length ≤ 16777216) : s_count_in [tx l] = (cntL l).map D.int := by
  have lc : lcGo (putR 1) tYesM (CT.e2 inD (eVar 1) (eC (.str "0123456789"))) [some (tx l), none] (l.map fun c => tx [c]) = .ok (l.map fun c => D.bl (isDig c)) := by
    refine lcGo_map1 (fun c => tx [c]) _ l fun c _ => ⟨[some (tx l), some (tx [c])], by simp, ?_, rfl⟩
    show inD (tx [c]) (.str "0123456789") = _
    rw [k_dig, tx_in, dig_in]
  have al : allD [.lst false (l.map fun c => D.bl (isDig c))] = .ok (.bl (l.all isDig)) := allD_f false isDig l
  unfold s_count_in
  refine def_rR rfl (map_ns (cntL_ns l)) ?_
  have hl := tx_len l h
  by_cases c1 : 1 ≤ l.length
  rotate_left
  · have : ¬ (1 : Int) ≤ l.length := by omega
    simp [hl, this, r_sure, cntL, c1]
  by_cases c2 : l.length ≤ 40
  rotate_left
  · have a1 : (1 : Int) ≤ l.length := by omega
    have a2 : ¬ (l.length : Int) ≤ 40 := by omega
    simp [hl, a1, a2, r_sure, cntL, c1, c2]
  have a1 : (1 : Int) ≤ l.length := by omega
  have a2 : (l.length : Int) ≤ 40 := by omega
  by_cases c3 : l.all isDig = true
  rotate_left
  · simp [hl, a1, a2, tx_items, lc, al, small (show l.length ≤ 16777216 by omega), r_sure, cntL, c1, c2, c3]
  obtain ⟨c, hc⟩ : ∃ c, l.head? = some c := by
    cases l with
    | nil => simp at c1
    | cons c r => exact ⟨c, rfl⟩
  have at0 : atI l 0 = some c := by
    cases l with
    | nil => simp at c1
    | cons c' r => simpa [atI, ixN] using hc
  have hne : l ≠ [] := fun e => by subst e; simp at c1
  have ix := tx_ix l 0 (c := c) (by omega) at0
  have q1 : neD (tx [c]) (.str "0") = .ok (.bl (!decide (c = 48))) := by rw [k_0, tx_ne]; simp
  have q2 : eqD (tx l) (.str "0") = .ok (.bl (decide (l = [48]))) := by rw [k_0, tx_eq]
  have dg : NumText.AllDigits l := fun x hx => by
    have := List.all_eq_true.mp c3 x hx
    unfold isDig at this
    simpa using this
  have it := tx_int dg hne (by omega)
  have cn : cntL l = if c ≠ 48 ∨ l = [48] then .ok (NumText.digitsVal l : Nat) else .exc "NoText" := by
    unfold cntL
    simp [c1, c2, c3, hc]
  have sl : l.length ≤ sizeLine := small (by omega)
  by_cases c4 : c = 48
  · rw [decide_eq_true c4] at q1
    by_cases c5 : l = [48]
    · rw [decide_eq_true c5] at q2
      rw [if_pos (.inr c5)] at cn
      simp [hl, a1, a2, tx_items, lc, al, c3, sl, ix, q1, q2, it, r_sure, cn]
    · rw [decide_eq_false c5] at q2
      rw [if_neg (fun z => z.elim (fun z => z c4) c5)] at cn
      simp [hl, a1, a2, tx_items, lc, al, c3, sl, ix, q1, q2, it, r_sure, cn]
  · rw [decide_eq_false c4] at q1
    rw [if_pos (.inl c4)] at cn
    simp [hl, a1, a2, tx_items, lc, al, c3, sl, ix, q1, q2, it, r_sure, cn]
theorem wayL_ns (l : List Nat) : wayL l ≠ .stuck := by unfold wayL; repeat' split
                                                       all_goals (intro h; cases h)
theorem shwL_ns (l : List Nat) : shwL l ≠ .stuck := by unfold shwL; repeat' split
                                                       all_goals (intro h; cases h)
theorem bind_ns {α β : Type} {r : R α} {f : α → R β} (h : r ≠ .stuck) (k : ∀ a, f a ≠ .stuck) : r.bind f ≠ .stuck := by
  cases r with
  | ok a => exact k a
  | exc c => intro z; cases z
  | stuck => exact absurd rfl h
theorem pshL_ns (l : List Nat) : pshL l ≠ .stuck := bind_ns (cntL_ns _) fun _ => bind_ns (wayL_ns _) fun _ z => by cases z
theorem r_way_in (l : List Nat) : s_way_in [tx l] = (wayL l).map D.int := by
  have q1 : eqD (tx l) (.str "+") = .ok (.bl (decide (l = [43]))) := by rw [k_p, tx_eq]
  have q2 : eqD (tx l) (.str "-") = .ok (.bl (decide (l = [45]))) := by rw [k_m, tx_eq]
  unfold s_way_in
  refine def_rR rfl (map_ns (wayL_ns l)) ?_
  by_cases c1 : l = [43]
  · have c2 : ¬ l = [45] := by rw [c1]; decide
    have : wayL l = .ok 1 := by unfold wayL; rw [if_pos c1]
    rw [decide_eq_true c1] at q1
    rw [decide_eq_false c2] at q2
    simp [q1, q2, r_sure, this, ixD, atI, ixN]
  · by_cases c2 : l = [45]
    · have : wayL l = .ok (-1) := by unfold wayL; rw [if_neg c1, if_pos c2]
      rw [decide_eq_false c1] at q1
      rw [decide_eq_true c2] at q2
      simp [q1, q2, r_sure, this, ixD, atI, ixN]
    · have : wayL l = .exc "NoText" := by unfold wayL; rw [if_neg c1, if_neg c2]
      simp [q1, q2, r_sure, this, c1, c2]
theorem r_push_in (l : List Nat) (h : l.length ≤ 16777216) : s_push_in [tx l] = (pshL l).map fun p => D.tup [.int p.1, .int p.2] := by
  have e1 := tx_cut l none (some (-1)) h
  have e2 := tx_cut l (some (-1)) none h
  have h1 : (cutA l none (some (-1))).length ≤ 16777216 := by unfold cutA; simp; omega
  have r1 := r_count_in _ h1
  have r2 := r_way_in (cutA l (some (-1)) none)
  unfold s_push_in
  refine def_rR rfl (map_ns (pshL_ns l)) ?_
  unfold pshL
  generalize cutA l none (some (-1)) = a at *
  generalize cutA l (some (-1)) none = b at *
  cases hc : cntL a with
  | stuck => exact absurd hc (cntL_ns _)
  | exc c => simp [e1, r1, hc]
  | ok i =>
    cases hw : wayL b with
    | stuck => exact absurd hw (wayL_ns _)
    | exc c => simp [e1, e2, r1, r2, hc, hw]
    | ok w => simp [e1, e2, r1, r2, hc, hw]
theorem inD_txs (l : List Nat) (h : Asc l) (ws : List (List Nat)) (hw : ∀ w ∈ ws, Asc w) (t : Bool) : inD (tx l) (.lst t (ws.map tx)) = .ok (.bl (decide (l ∈ ws))) := by
  have s1 : SeqAt.shaped (py (tx l)) = true := sh_shaped (n := 1) (sh_str h.ok) (by decide)
  have s2 : SeqAt.shaped (.list (pyL (ws.map tx))) = true := by
    have : Sh 2 (.lst t (ws.map tx)) := sh_lst (n := 1) fun x hx => by
      obtain ⟨w, hw', rfl⟩ := List.mem_map.mp hx
      exact sh_str (hw w hw').ok
    exact sh_shaped this (by decide)
  show (if (SeqAt.shaped (py (tx l)) && SeqAt.shaped (.list (pyL (ws.map tx)))) = true then R.ok (D.bl (memD (tx l) (ws.map tx))) else .stuck) = _
  rw [if_pos (by rw [s1, s2]; rfl)]
  congr 2
  unfold memD
  rw [List.any_map]
  have : ((fun z => eqvD z (tx l)) ∘ tx) = fun w => decide (w = l) := funext fun w => tx_eqv w l
  rw [this]
  by_cases c : l ∈ ws
  · rw [decide_eq_true c, List.any_eq_true]; exact ⟨l, c, by simp⟩
  · rw [decide_eq_false c, List.any_eq_false]; intro w hw e; exact c (by simp at e; subst e; exact hw)
theorem r_shown_in (l : List Nat) (h : Asc l) : s_shown_in [tx l] = (shwL l).map D.int := by
  have q : inD (tx l) (.lst false [.str "1", .str "-1", .str "0"]) = .ok (.bl (decide (l ∈ [[49], [45, 49], [48]]))) := by
    rw [k_1, k_m1, k_0]
    exact inD_txs l h [[49], [45, 49], [48]] (fun w hw => by simp at hw; rcases hw with rfl | rfl | rfl <;> intro c hc <;> simp at hc <;> omega) false
  unfold s_shown_in
  refine def_rR rfl (map_ns (shwL_ns l)) ?_
  by_cases c1 : l = [49]
  · subst c1
    have : intA [tx [49]] = .ok (.int 1) := tx_int (fun c hc => by simp at hc; omega) (by decide) (by decide)
    simp only [decide_true, List.mem_cons, true_or] at q
    simp [q, r_sure, this, shwL]
  · by_cases c2 : l = [45, 49]
    · subst c2
      have : intA [tx [45, 49]] = .ok (.int (-1)) := by
        have e : intText? (mkS [45, 49]) = some (-1) := intText_neg (x := mkS [45, 49]) (cs := [49]) rfl (fun c hc => by simp at hc; omega) (by decide) (by rw [mkS_len]; decide)
        show (match PySem.intText? (mkS [45, 49]) with | some n => if (mkS [45, 49]).length ≤ 640 then R.ok (D.int n) else .stuck | none => .stuck) = _
        rw [e]; rfl
      simp only [decide_true, List.mem_cons, true_or, or_true] at q
      simp [q, r_sure, this, shwL]
    · by_cases c3 : l = [48]
      · subst c3
        have : intA [tx [48]] = .ok (.int 0) := tx_int (fun c hc => by simp at hc; omega) (by decide) (by decide)
        simp only [decide_true, List.mem_cons, true_or, or_true] at q
        simp [q, r_sure, this, shwL]
      · simp [q, r_sure, shwL, c1, c2, c3]
def cutSg : List Nat → List Nat → Option (List Nat × List Nat)
  | _, [] => none
  | acc, c :: r => if c = 43 ∨ c = 45 then some (acc ++ [c], r) else cutSg (acc ++ [c]) r
def deedL (l : List Nat) : R (Int × Int × Int) := match cutSg [] l with
  | none => .exc "NoText"
  | some (a, b) => (pshL a).bind fun p => (cntL b).bind fun n => .ok (p.1, p.2, n)
theorem deedL_ns (l : List Nat) : deedL l ≠ .stuck := by
  unfold deedL
  split
  · intro h; cases h
  · exact bind_ns (pshL_ns _) fun _ => bind_ns (cntL_ns _) fun _ z => by cases z
theorem cutSg_some : ∀ {l acc a b : List Nat}, cutSg acc l = some (a, b) → ∃ p c, (c = 43 ∨ c = 45) ∧ l = p ++ c :: b ∧ a = acc ++ p ++ [c] ∧ 43 ∉ p ∧ 45 ∉ p
  | [], _, _, _, h => by cases h
  | c :: r, acc, a, b, h => by
    unfold cutSg at h
    split at h
    · rename_i hc
      cases h
      exact ⟨[], c, hc, rfl, by simp, by simp, by simp⟩
    · rename_i hc
      obtain ⟨p, c', h1, h2, h3, h4, h5⟩ := cutSg_some h
      refine ⟨c :: p, c', h1, by rw [h2]; rfl, by rw [h3]; simp, ?_, ?_⟩
      · intro z; rcases List.mem_cons.mp z with e | z
        · exact hc (.inl e.symm)
        · exact h4 z
      · intro z; rcases List.mem_cons.mp z with e | z
        · exact hc (.inr e.symm)
        · exact h5 z
theorem cutSg_none : ∀ {l acc : List Nat}, cutSg acc l = none → 43 ∉ l ∧ 45 ∉ l
  | [], _, _ => ⟨by simp, by simp⟩
  | c :: r, acc, h => by
    unfold cutSg at h
    split at h
    · cases h
    · rename_i hc
      obtain ⟨h1, h2⟩ := cutSg_none h
      refine ⟨fun z => ?_, fun z => ?_⟩
      · rcases List.mem_cons.mp z with e | z
        · exact hc (.inl e.symm)
        · exact h1 z
      · rcases List.mem_cons.mp z with e | z
        · exact hc (.inr e.symm)
        · exact h2 z
theorem cutSg_of {p b acc : List Nat} {c : Nat} (hc : c = 43 ∨ c = 45) (h1 : 43 ∉ p) (h2 : 45 ∉ p) : cutSg acc (p ++ c :: b) = some (acc ++ p ++ [c], b) := by
  induction p generalizing acc with
  | nil => rw [List.nil_append]; unfold cutSg; rw [if_pos hc]; simp
  | cons x p ih =>
    rw [List.cons_append]
    unfold cutSg
    rw [if_neg (fun z => z.elim (fun e => h1 (by rw [e]; simp)) (fun e => h2 (by rw [e]; simp))), ih (fun z => h1 (List.mem_cons_of_mem _ z)) (fun z => h2 (List.mem_cons_of_mem _ z))]
    simp
end CK

namespace CK
open PySem PySem.Spec PyProof.Rows L2 CT
open TL (tl mk_tl len_tl ext_tl tl_append tl_ofString spl par joinL tl_join join_eq split_spl kind_ok partition_par)
def plusL (l : List Nat) : List Nat := l.map fun c => if c = 45 then 43 else c
theorem repl_plus : ∀ l : List Nat, StrLaws.replL [45] [43] l = plusL l
  | [] => StrLaws.replL_nil
  | c :: r => by
    by_cases h : c = 45
    · subst h
      rw [StrLaws.replL_hit (by simp) (by simp), show (45 :: r).drop [45].length = r from rfl, repl_plus r]; rfl
    · rw [StrLaws.replL_miss (by simpa using h), repl_plus r]
      unfold plusL
      rw [List.map_cons, if_neg h]
theorem repl_txt (l : List Nat) : Txt.replace (mkS l) (mkS [45]) (mkS [43]) = mkS (plusL l) := ext_tl (by
  have := StrLaws.replace_list (x := mkS l) (y := mkS [45]) (z := mkS [43]) (by rw [mkS_len]; decide)
  rw [tl_mkS, ← repl_plus]
  exact this)
theorem cut_pre {α : Type} (a b : List α) : cutA (a ++ b) none (some (a.length : Int)) = a := by rw [cut_head, List.take_left' rfl]
theorem cut_suf {α : Type} (a b : List α) : cutA (a ++ b) (some (a.length : Int)) none = b := by rw [cut_tail, List.drop_left' rfl]
theorem find_txt (l : List Nat) (s : Nat) : (Txt.find (mkS l) (mkS [s]) = -1 ∧ s ∉ l) ∨ ∃ p b, l = p ++ s :: b ∧ s ∉ p ∧ Txt.find (mkS l) (mkS [s]) = (p.length : Int) := by
  have pr : ∀ i, StrLaws.At (mkS l) (mkS [s]) (mkS l).length i ↔ (l.drop i).take 1 = [s] := fun i => by
    rw [TL.at_iff (by rw [tl_mkS]; simp), tl_mkS, tl_mkS]
    unfold TL.pre
    simp
  rcases find_whole (mkS l) (mkS [s]) with ⟨h, hn⟩ | ⟨i, h, hi, hn⟩
  · refine .inl ⟨h, fun z => ?_⟩
    obtain ⟨p, b, rfl⟩ := List.append_of_mem z
    exact hn p.length ((pr _).mpr (by simp))
  · have hi := (pr i).mp hi
    have e : l = l.take i ++ s :: l.drop (i + 1) := by
      have : l.drop i = s :: l.drop (i + 1) := by
        cases hd : l.drop i with
        | nil => rw [hd] at hi; simp at hi
        | cons c r =>
          rw [hd] at hi
          simp at hi
          subst hi
          have : l.drop (i + 1) = r := by rw [← List.drop_drop, hd]; rfl
          rw [this]
      rw [← this, List.take_append_drop]
    have hl : i < l.length := by
      have := congrArg List.length e
      simp at this
      omega
    have hln : (l.take i).length = i := by simp; omega
    refine .inr ⟨l.take i, l.drop (i + 1), e, fun z => ?_, by rw [hln]; exact h⟩
    obtain ⟨k, hk, hk2⟩ := List.getElem_of_mem z
    rw [hln] at hk
    refine hn k hk ((pr k).mpr ?_)
    have : l[k]'(by omega) = s := by rw [List.getElem_take] at hk2; exact hk2
    rw [List.drop_eq_getElem_cons (by omega), List.take_succ_cons, List.take_zero, this]
def enc3 (d : Int × Int × Int) : D := .tup [.int d.1, .int d.2.1, .int d.2.2]
theorem find_plus (l : List Nat) : Txt.find (mkS (plusL l)) (mkS [43]) = match cutSg [] l with
    | none => -1
    | some (a, _) => (a.length : Int) - 1 := by
  have mem : 43 ∈ plusL l → 43 ∈ l ∨ 45 ∈ l := fun z => by
    obtain ⟨c, hc, he⟩ := List.mem_map.mp z
    split at he
    · rename_i h45; subst h45; exact .inr hc
    · subst he; exact .inl hc
  cases hc : cutSg [] l with
  | none =>
    obtain ⟨n1, n2⟩ := cutSg_none hc
    rcases find_txt (plusL l) 43 with ⟨h, _⟩ | ⟨p, b, e, _, _⟩
    · exact h
    · exact ((mem (by rw [e]; simp)).elim n1 n2).elim
  | some q =>
    obtain ⟨a, b⟩ := q
    obtain ⟨p, c, h1, h2, h3, h4, h5⟩ := cutSg_some hc
    have ep : plusL l = plusL p ++ 43 :: plusL b := by
      rw [h2]; unfold plusL; rw [List.map_append, List.map_cons]
      rcases h1 with rfl | rfl <;> rfl
    have np : ∀ x ∈ plusL p, x ≠ 43 := fun x hx z => by
      subst z
      obtain ⟨c, hc, he⟩ := List.mem_map.mp hx
      split at he
      · rename_i h45; subst h45; exact h5 hc
      · subst he; exact h4 hc
    rcases find_txt (plusL l) 43 with ⟨_, hn⟩ | ⟨p', b', e, hn, hf⟩
    · exact (hn (by rw [ep]; simp)).elim
    · have hl : p'.length = (plusL p).length := by
        have e' := e.symm.trans ep
        rcases Nat.lt_trichotomy p'.length (plusL p).length with hlt | heq | hgt
        · exfalso
          have := congrArg (fun z => z[p'.length]?) e'
          simp only [List.getElem?_append_right (Nat.le_refl _), Nat.sub_self, List.getElem?_cons_zero] at this
          rw [List.getElem?_append_left hlt] at this
          exact np 43 (List.mem_of_getElem? this.symm) rfl
        · exact heq
        · exfalso
          have := congrArg (fun z => z[(plusL p).length]?) e'
          simp only [List.getElem?_append_right (Nat.le_refl _), Nat.sub_self, List.getElem?_cons_zero] at this
          rw [List.getElem?_append_left hgt] at this
          exact hn (List.mem_of_getElem? this)
      show Txt.find (mkS (plusL l)) (mkS [43]) = (a.length : Int) - 1
      rw [hf, hl, h3]
      simp [plusL]
theorem sFR_tx (l : List Nat) (h : l.length ≤ 8388600) : sSetFR 1 "-" "+" (eVar 0) (eC (.str "+")) [some (tx l), none] = .nx [some (tx l), some (.int (Txt.find (mkS (plusL l)) (mkS [43])))] := by
  have e1 : (Str.ofString "+" : Str) = mkS [43] := k_p
  have e2 : (Str.ofString "-" : Str) = mkS [45] := k_m
  unfold sSetFR findRep sSet
  simp only [eVar_0, CT.R.bind_ok]
  rw [e1, e2, if_pos (by rw [mkS_len, mkS_len]; simp; omega), repl_txt]
  rfl
theorem r_deed_in (l : List Nat) (h : l.length ≤ 8388600) : s_deed_in [tx l] = (deedL l).map enc3 := by
  have fr := sFR_tx l h
  rw [find_plus] at fr
  unfold s_deed_in
  refine def_rR rfl (map_ns (deedL_ns l)) ?_
  cases hc : cutSg [] l with
  | none =>
    have hd : deedL l = .exc "NoText" := by unfold deedL; rw [hc]
    rw [hc] at fr
    simp [fr, hd, r_sure]
  | some q =>
    obtain ⟨a, b⟩ := q
    rw [hc] at fr
    obtain ⟨p, c, h1, h2, h3, h4, h5⟩ := cutSg_some hc
    have hab : l = a ++ b := by rw [h2, h3]; simp
    have ha : 1 ≤ a.length := by rw [h3]; simp
    have x1 := tx_cut l none (some (a.length : Int)) (by omega)
    have x2 := tx_cut l (some (a.length : Int)) none (by omega)
    rw [hab, cut_pre, ← hab] at x1
    rw [hab, cut_suf, ← hab] at x2
    have hd : deedL l = (pshL a).bind fun p => (cntL b).bind fun n => .ok (p.1, p.2, n) := by unfold deedL; rw [hc]
    have la : a.length ≤ 16777216 := by have := congrArg List.length hab; simp at this; omega
    have lb : b.length ≤ 16777216 := by have := congrArg List.length hab; simp at this; omega
    have r1 := r_push_in a la
    have r2 := r_count_in b lb
    have g0 : (0 : Int) ≤ (a.length : Int) - 1 := by omega
    have g1 : (a.length : Int) - 1 + 1 = a.length := by omega
    have g2 : (1 : Int) ≤ a.length := by omega
    cases hp : pshL a with
    | stuck => exact absurd hp (pshL_ns _)
    | exc c => simp [fr, hd, r_sure, g0, g1, g2, x1, r1, hp]
    | ok w =>
      cases hq : cntL b with
      | stuck => exact absurd hq (cntL_ns _)
      | exc c => simp [fr, hd, r_sure, g0, g1, g2, x1, x2, r1, r2, hp, hq]
      | ok n =>
        have ad : addD (.tup [.int w.1, .int w.2]) (.tup [.int n]) = .ok (.tup [.int w.1, .int w.2, .int n]) := rfl
        simp [fr, hd, r_sure, g0, g1, g2, x1, x2, r1, r2, hp, hq, ad, enc3]
end CK

namespace CK
open PySem PySem.Spec PyProof.Rows L2 CT
open TL (tl mk_tl len_tl ext_tl tl_append tl_ofString spl par joinL tl_join join_eq split_spl kind_ok partition_par)
def noneL : List Nat := [110, 111, 110, 101]
def wordsL (t : List Nat) : List (List Nat) := if t = noneL then [] else spl [32] 0 [] t
def listL (ws : List (List Nat)) : List Nat := if ws = [] then noneL else joinL [32] ws
theorem cut_last (a : List Nat) (c : Nat) : cutA (a ++ [c]) none (some (-1)) = a := by
  unfold cutA HT.sIx
  have e : (-1 + ((a.length : Int) + 1)).toNat = a.length := by omega
  simp [e]
theorem cut_end (a : List Nat) (c : Nat) : cutA (a ++ [c]) (some (-1)) none = [c] := by
  unfold cutA HT.sIx
  have e : (-1 + ((a.length : Int) + 1)).toNat = a.length := by omega
  simp [e]
theorem num_head (n : Nat) : (TL.numL n).head? ≠ some 48 ∨ n = 0 := by
  induction n using Nat.strongRecOn with
  | _ n ih =>
    by_cases h : n < 10
    · rw [TL.numL_lt h]
      by_cases h0 : n = 0
      · exact .inr h0
      · exact .inl (by simp; exact h0)
    · rw [TL.numL_step (by omega)]
      refine .inl ?_
      rcases ih (n / 10) (by omega) with h1 | h1
      · have := TL.numL_ne (n / 10)
        cases hl : TL.numL (n / 10) with
        | nil => exact absurd hl this
        | cons c r => rw [hl] at h1; simpa using h1
      · omega
theorem cnt_num {n : Nat} (h : n < 10 ^ 40) : cntL (TL.numL n) = .ok (n : Int) := by
  unfold cntL
  have h1 := numL_len40 h
  have h2 := TL.numL_ne n
  have h3 : 1 ≤ (TL.numL n).length := by cases hl : TL.numL n with
    | nil => exact absurd hl h2
    | cons _ _ => simp
  have h4 : (TL.numL n).all isDig = true := by
    rw [List.all_eq_true]
    intro c hc
    have := TL.numL_digits n c hc
    unfold isDig
    simpa using this
  have h5 : (TL.numL n).head? ≠ some 48 ∨ TL.numL n = [48] := (num_head n).imp id fun e => by subst e; exact TL.numL_lt (by decide)
  rw [if_pos ⟨h3, h1, h4, h5⟩, TL.numL_val]
def sgn (w : Int) : Nat := if w = 1 then 43 else 45
theorem way_sgn {w : Int} (h : w = 1 ∨ w = -1) : wayL [sgn w] = .ok w := by rcases h with rfl | rfl <;> rfl
theorem psh_num {i : Nat} {w : Int} (h : i < 10 ^ 40) (hw : w = 1 ∨ w = -1) : pshL (TL.numL i ++ [sgn w]) = .ok ((i : Int), w) := by
  unfold pshL
  rw [cut_last, cut_end, cnt_num h, way_sgn hw]; rfl
theorem sgn_or (w : Int) : sgn w = 43 ∨ sgn w = 45 := by unfold sgn; split <;> simp
theorem deed_num {i n : Nat} {w : Int} (h : i < 10 ^ 40) (hw : w = 1 ∨ w = -1) (hn : n < 10 ^ 40) : deedL (TL.numL i ++ [sgn w] ++ TL.numL n) = .ok ((i : Int), w, (n : Int)) := by
  unfold deedL
  rw [List.append_assoc, List.singleton_append, cutSg_of (sgn_or w) (TL.numL_free (by decide)) (TL.numL_free (by decide)), List.nil_append]
  simp only
  rw [psh_num h hw, cnt_num hn]; rfl
theorem r_words_in (t : List Nat) (h : t.length ≤ 16777214) : s_words_in [tx t] = .ok (.lst false ((wordsL t).map tx)) := by
  have q1 : eqD (tx t) (.str "none") = .ok (.bl (decide (t = noneL))) := by rw [k_none, tx_eq]; rfl
  have sp := tx_split t 32 (by decide) h
  unfold s_words_in
  refine def_ok1 rfl ?_
  by_cases c : t = noneL
  · rw [decide_eq_true c] at q1
    have : wordsL t = [] := by unfold wordsL; rw [if_pos c]
    simp [q1, this]
  · rw [decide_eq_false c] at q1
    have w : wordsL t = spl [32] 0 [] t := by unfold wordsL; rw [if_neg c]
    have e : strM splitD (eVar 0) (eC (.str " ")) [some (tx t)] = .ok ((wordsL t).map tx) := by
      show splitD (mkS t) (.str " ") = _
      rw [k_sp, sp, w]
    have st : stillL ((wordsL t).map tx) = (wordsL t).map tx := stillL_map (fun _ => rfl) _
    simp [q1, e, st]
theorem words_list {ws : List (List Nat)} (h : ∀ w ∈ ws, 32 ∉ w ∧ w ≠ noneL) : wordsL (listL ws) = ws := by
  unfold listL
  by_cases c : ws = []
  · rw [if_pos c, c]; rfl
  · rw [if_neg c]
    have sj : spl [32] 0 [] (joinL [32] ws) = ws := TL.spl_join c fun p hp => (h p hp).1
    unfold wordsL
    by_cases e : joinL [32] ws = noneL
    · exfalso
      rw [e] at sj
      have : spl [32] 0 [] noneL = [noneL] := by decide
      rw [this] at sj
      exact (h noneL (by rw [← sj]; simp)).2 rfl
    · rw [if_neg e, sj]
theorem lc_read {α : Type} {f : List D → R D} {F : List Nat → R α} {enc : α → D} (he : ∀ a, hasT (enc a) = false) (hs : ∀ a, still (enc a) = enc a) {k : Nat} {m : Sl} (hk : ∀ d, eVar k (m.set k (some d)) = .ok d) {N : Nat} (hf : ∀ l : List Nat, l.length ≤ N → f [tx l] = (F l).map enc) {ws : List (List Nat)} {xs : List α} (hl : ∀ w ∈ ws, w.length ≤ N) (hx : ws.map F = xs.map R.ok) :
    lcGo (putR k) tYesM (eA (callF f) (aCons (eVar k) aNil)) m (ws.map tx) = .ok (xs.map enc) := by
  induction ws generalizing xs with
  | nil =>
    cases xs with
    | nil => rfl
    | cons _ _ => cases hx
  | cons w ws ih =>
    cases xs with
    | nil => cases hx
    | cons x xs =>
      rw [List.map_cons, List.map_cons] at hx
      injection hx with h1 h2
      have e := ih (fun w hw => hl w (List.mem_cons_of_mem _ hw)) h2
      rw [List.map_cons, List.map_cons]
      unfold lcGo
      have r := hf w (hl w List.mem_cons_self)
      rw [h1] at r
      simp [hk, r, he, hs, e, nox]
theorem r_read_row {t : List Nat} (h : t.length ≤ 8388600) {xs : List (Int × Int × Int)} (hx : (wordsL t).map deedL = xs.map R.ok) (hw : ∀ w ∈ wordsL t, w.length ≤ 8388600) (hn : xs.length ≤ 16777216) : s_read_row [tx t] = .ok (.lst true (xs.map enc3)) := by
  have e1 := r_words_in t (by omega)
  have e2 := lc_read (f := s_deed_in) (F := deedL) (enc := enc3) (fun _ => rfl) (fun _ => rfl) (k := 1) (m := [some (tx t), none]) (fun _ => rfl) (N := 8388600) r_deed_in hw hx
  have tw : hasTL ((wordsL t).map tx) = false := hasTL_map (fun _ => rfl) _
  have t3 : hasTL (xs.map enc3) = false := hasTL_map (fun _ => rfl) _
  unfold s_read_row
  refine def_ok1 rfl ?_
  simp [e1, stillL_map, itemsN, items, tw, e2, small hn, t3]
theorem r_read_pushes {t : List Nat} (h : t.length ≤ 8388600) {xs : List (Int × Int)} (hx : (wordsL t).map pshL = xs.map R.ok) (hw : ∀ w ∈ wordsL t, w.length ≤ 8388600) (hn : xs.length ≤ 16777216) : s_read_pushes [tx t] = .ok (.lst true (xs.map encI2)) := by
  have e1 := r_words_in t (by omega)
  have e2 := lc_read (f := s_push_in) (F := pshL) (enc := encI2) (fun _ => rfl) (fun _ => rfl) (k := 1) (m := [some (tx t), none]) (fun _ => rfl) (N := 8388600) (fun l hl => r_push_in l (by omega)) hw hx
  have tw : hasTL ((wordsL t).map tx) = false := hasTL_map (fun _ => rfl) _
  have t3 : hasTL (xs.map encI2) = false := hasTL_map (fun _ => rfl) _
  unfold s_read_pushes
  refine def_ok1 rfl ?_
  simp [e1, stillL_map, itemsN, items, tw, e2, small hn, t3]
def mapR {α : Type} (F : List Nat → R α) : List (List Nat) → R (List α)
  | [] => .ok []
  | w :: ws => (F w).bind fun x => (mapR F ws).bind fun xs => .ok (x :: xs)
theorem mapR_ok {α : Type} {F : List Nat → R α} : ∀ {ws : List (List Nat)} {xs : List α}, ws.map F = xs.map R.ok → mapR F ws = .ok xs
  | [], [], _ => rfl
  | [], _ :: _, h => by cases h
  | _ :: _, [], h => by cases h
  | w :: ws, x :: xs, h => by
    rw [List.map_cons, List.map_cons] at h
    injection h with h1 h2
    unfold mapR
    rw [h1, mapR_ok h2]; rfl
def eqCut (l : List Nat) : List Nat × List Nat := match par [61] [] l with
  | some (a, b) => (a, b)
  | none => (l, [])
def seenL (l : List Nat) : R (Int × Int × Int) := (pshL (eqCut l).1).bind fun p => (shwL (eqCut l).2).bind fun s => .ok (p.1, p.2, s)
def showL (l : List Nat) : R (Int × Int) := (wayL (eqCut l).1).bind fun w => (shwL (eqCut l).2).bind fun s => .ok (w, s)
theorem seenL_ns (l : List Nat) : seenL l ≠ .stuck := bind_ns (pshL_ns _) fun _ => bind_ns (shwL_ns _) fun _ z => by cases z
theorem showL_ns (l : List Nat) : showL l ≠ .stuck := bind_ns (wayL_ns _) fun _ => bind_ns (shwL_ns _) fun _ z => by cases z
theorem mapR_ns {α : Type} {F : List Nat → R α} (h : ∀ l, F l ≠ .stuck) : ∀ ws, mapR F ws ≠ .stuck
  | [] => fun z => by cases z
  | w :: ws => bind_ns (h w) fun _ => bind_ns (mapR_ns h ws) fun _ z => by cases z
theorem par_mem {S : List Nat} : ∀ {l acc a b : List Nat}, par S acc l = some (a, b) → (∀ c ∈ b, c ∈ l) ∧ b.length ≤ l.length
  | [], acc, a, b, h => by unfold par at h; cases h
  | c :: r, acc, a, b, h => by
    unfold par at h
    split at h
    · cases h
      exact ⟨fun x hx => List.mem_of_mem_drop hx, by simp⟩
    · obtain ⟨h1, h2⟩ := par_mem h
      exact ⟨fun x hx => List.mem_cons_of_mem _ (h1 x hx), by simp; omega⟩
theorem eqCut_len (l : List Nat) : (eqCut l).1.length ≤ l.length ∧ (eqCut l).2.length ≤ l.length ∧ (Asc l → Asc (eqCut l).2) := by
  unfold eqCut
  cases h : par [61] [] l with
  | none => exact ⟨Nat.le_refl _, Nat.zero_le _, fun _ c hc => nomatch hc⟩
  | some q =>
    obtain ⟨a, b⟩ := q
    obtain ⟨h1, h2⟩ := par_mem h
    refine ⟨?_, h2, fun k c hc => k c (h1 c hc)⟩
    have go : ∀ {l acc a b : List Nat}, par [61] acc l = some (a, b) → a.length ≤ acc.length + l.length := by
      intro l
      induction l with
      | nil => intro acc a b h; unfold par at h; cases h
      | cons c r ih =>
        intro acc a b h
        unfold par at h
        split at h
        · cases h; simp
        · have := ih h; simp at this ⊢; omega
    have := go h
    simpa using this
theorem part_eq (l : List Nat) (h : l.length ≤ 16777216) : ∃ k : List Nat, strM partD (eVar 0) (eC (.str "=")) [some (tx l)] = .ok (.tup [tx (eqCut l).1, tx k, tx (eqCut l).2]) ∧ partD (mkS l) (.str "=") = .ok (.tup [tx (eqCut l).1, tx k, tx (eqCut l).2]) := by
  have e := tx_part l 61 h
  have e2 : partD (mkS l) (.str "=") = partD (mkS l) (tx [61]) := by rw [k_eq]
  unfold eqCut
  cases hp : par [61] [] l with
  | none => rw [hp] at e; exact ⟨[], by show partD (mkS l) (.str "=") = _; rw [e2, e], by rw [e2, e]⟩
  | some q => rw [hp] at e; exact ⟨[61], by show partD (mkS l) (.str "=") = _; rw [e2, e], by rw [e2, e]⟩
theorem for_read {α : Type} {F : List Nat → R α} {enc : α → D} {body : SemS} {T : Option D} {P : List Nat → Prop}
    (hs : ∀ acc w v3 v4 v5, P w → acc.length < 16777216 → (∀ x, F w = .ok x → ∃ a b c, body [T, some (.lst true acc), some (tx w), v3, v4, v5] = .nx [T, some (.lst true (acc ++ [enc x])), some (tx w), a, b, c]) ∧ (∀ e, F w = .exc e → ∃ m, body [T, some (.lst true acc), some (tx w), v3, v4, v5] = .exc e m)) :
    ∀ (ws : List (List Nat)) (acc : List D) (v2 v3 v4 v5 : Option D), (∀ w ∈ ws, P w) → acc.length + ws.length ≤ 16777216 →
      (∀ xs, mapR F ws = .ok xs → ∃ a b c d, forGo (putR 2) body (ws.map tx) [T, some (.lst true acc), v2, v3, v4, v5] = .nx [T, some (.lst true (acc ++ xs.map enc)), a, b, c, d]) ∧
      (∀ e, mapR F ws = .exc e → ∃ m, forGo (putR 2) body (ws.map tx) [T, some (.lst true acc), v2, v3, v4, v5] = .exc e m)
  | [], acc, v2, v3, v4, v5, _, _ => ⟨fun xs h => by cases h; exact ⟨v2, v3, v4, v5, by simp [forGo]⟩, fun e h => by cases h⟩
  | w :: ws, acc, v2, v3, v4, v5, hP, hl => by
    have hb := hs acc w v3 v4 v5 (hP w List.mem_cons_self) (by simp at hl; omega)
    have e0 : putR 2 (tx w) [T, some (.lst true acc), v2, v3, v4, v5] = .ok [T, some (.lst true acc), some (tx w), v3, v4, v5] := rfl
    constructor
    · intro xs h
      unfold mapR at h
      cases hF : F w with
      | stuck => rw [hF] at h; cases h
      | exc c => rw [hF] at h; cases h
      | ok x =>
        rw [hF] at h
        simp only [CT.R.bind_ok] at h
        cases hM : mapR F ws with
        | stuck => rw [hM] at h; cases h
        | exc c => rw [hM] at h; cases h
        | ok ys =>
          rw [hM] at h
          cases h
          obtain ⟨a, b, c, q⟩ := hb.1 x hF
          obtain ⟨a', b', c', d', q'⟩ := (for_read hs ws (acc ++ [enc x]) (some (tx w)) a b c (fun w hw => hP w (List.mem_cons_of_mem _ hw)) (by simp at hl ⊢; omega)).1 ys hM
          refine ⟨a', b', c', d', ?_⟩
          rw [List.map_cons, forGo, e0]
          simp only [q]
          rw [q', List.append_assoc]; rfl
    · intro e h
      unfold mapR at h
      cases hF : F w with
      | stuck => rw [hF] at h; cases h
      | exc c =>
        rw [hF] at h
        cases h
        obtain ⟨m, q⟩ := hb.2 e hF
        exact ⟨m, by rw [List.map_cons, forGo, e0]; simp only [q]⟩
      | ok x =>
        rw [hF] at h
        simp only [CT.R.bind_ok] at h
        cases hM : mapR F ws with
        | stuck => rw [hM] at h; cases h
        | ok ys => rw [hM] at h; cases h
        | exc c =>
          rw [hM] at h
          cases h
          obtain ⟨a, b, c, q⟩ := hb.1 x hF
          obtain ⟨m, q'⟩ := (for_read hs ws (acc ++ [enc x]) (some (tx w)) a b c (fun w hw => hP w (List.mem_cons_of_mem _ hw)) (by simp at hl ⊢; omega)).2 e hM
          exact ⟨m, by rw [List.map_cons, forGo, e0]; simp only [q]; exact q'⟩
theorem r_read_shown {t : List Nat} (h : t.length ≤ 8388600) (hw : ∀ w ∈ wordsL t, Asc w ∧ w.length ≤ 8388600) (hn : (wordsL t).length ≤ 16777216) : s_read_shown [tx t] = (mapR seenL (wordsL t)).map fun xs => .lst true (xs.map enc3) := by
  have e1 := r_words_in t (by omega)
  have tw : hasTL ((wordsL t).map tx) = false := hasTL_map (fun _ => rfl) _
  have st := for_read (F := seenL) (enc := enc3) (T := some (tx t)) (P := fun w => Asc w ∧ w.length ≤ 8388600) (body := sSeq (sAsg (strM partD (eVar 2) (eC (.str "="))) (gTupR 3 (gsCons (putR 3) (gsCons (putR 4) (gsCons (putR 5) gsNil)))))
      (sApp 1 (CT.e2 addD (eA (callF s_push_in) (aCons (eVar 3) aNil)) (eA mkTup (aCons (eA (callF s_shown_in) (aCons (eVar 5) aNil)) aNil))))) (fun acc w v3 v4 v5 hP hl => by
    obtain ⟨l1, l2, l3⟩ := eqCut_len w
    obtain ⟨k, _, pe⟩ := part_eq w (by have := hP.2; omega)
    have pe' : strM partD (eVar 2) (eC (.str "=")) [some (tx t), some (.lst true acc), some (tx w), v3, v4, v5] = .ok (.tup [tx (eqCut w).1, tx k, tx (eqCut w).2]) := pe
    have r1 := r_push_in (eqCut w).1 (by have := hP.2; omega)
    have r2 := r_shown_in (eqCut w).2 (l3 hP.1)
    have sl : acc.length < sizeLine := by rw [sizeBig]; exact hl
    constructor
    · intro x hx
      unfold seenL at hx
      cases h1 : pshL (eqCut w).1 with
      | stuck => rw [h1] at hx; cases hx
      | exc c => rw [h1] at hx; cases hx
      | ok p =>
        rw [h1] at hx
        simp only [CT.R.bind_ok] at hx
        cases h2 : shwL (eqCut w).2 with
        | stuck => rw [h2] at hx; cases hx
        | exc c => rw [h2] at hx; cases hx
        | ok s =>
          rw [h2] at hx
          cases hx
          have ad : addD (.tup [.int p.1, .int p.2]) (.tup [.int s]) = .ok (.tup [.int p.1, .int p.2, .int s]) := rfl
          exact ⟨some (tx (eqCut w).1), some (tx k), some (tx (eqCut w).2), by simp [pe', r1, r2, h1, h2, ad, sl, enc3]⟩
    · intro e hx
      unfold seenL at hx
      cases h1 : pshL (eqCut w).1 with
      | stuck => exact absurd h1 (pshL_ns _)
      | exc c => rw [h1] at hx; cases hx; exact ⟨_, by simp [pe', r1, h1]; rfl⟩
      | ok p =>
        rw [h1] at hx
        simp only [CT.R.bind_ok] at hx
        cases h2 : shwL (eqCut w).2 with
        | stuck => exact absurd h2 (shwL_ns _)
        | exc c => rw [h2] at hx; cases hx; exact ⟨_, by simp [pe', r1, r2, h1, h2]; rfl⟩
        | ok s => rw [h2] at hx; cases hx)
    (wordsL t) [] none none none none hw (by simpa using hn)
  unfold s_read_shown
  refine def_rR rfl (map_ns (mapR_ns seenL_ns _)) ?_
  cases hm : mapR seenL (wordsL t) with
  | stuck => exact absurd hm (mapR_ns seenL_ns _)
  | ok xs =>
    obtain ⟨a, b, c, d, q⟩ := st.1 xs hm
    have t3 : hasTL (xs.map enc3) = false := hasTL_map (fun _ => rfl) _
    simp [e1, stillL_map, itemsN, items, tw, q, t3]
    unfold sRetV
    simp [mine, t3]
  | exc c =>
    obtain ⟨m, q⟩ := st.2 c hm
    simp [e1, stillL_map, itemsN, items, tw, q]
theorem r_read_shows {t : List Nat} (h : t.length ≤ 8388600) (hw : ∀ w ∈ wordsL t, Asc w ∧ w.length ≤ 8388600) (hn : (wordsL t).length ≤ 16777216) : s_read_shows [tx t] = (mapR showL (wordsL t)).map fun xs => .lst true (xs.map encI2) := by
  have e1 := r_words_in t (by omega)
  have tw : hasTL ((wordsL t).map tx) = false := hasTL_map (fun _ => rfl) _
  have st := for_read (F := showL) (enc := encI2) (T := some (tx t)) (P := fun w => Asc w ∧ w.length ≤ 8388600) (body := sSeq (sAsg (strM partD (eVar 2) (eC (.str "="))) (gTupR 3 (gsCons (putR 3) (gsCons (putR 4) (gsCons (putR 5) gsNil)))))
      (sApp 1 (eA mkTup (aCons (eA (callF s_way_in) (aCons (eVar 3) aNil)) (aCons (eA (callF s_shown_in) (aCons (eVar 5) aNil)) aNil))))) (fun acc w v3 v4 v5 hP hl => by
    obtain ⟨l1, l2, l3⟩ := eqCut_len w
    obtain ⟨k, _, pe⟩ := part_eq w (by have := hP.2; omega)
    have pe' : strM partD (eVar 2) (eC (.str "=")) [some (tx t), some (.lst true acc), some (tx w), v3, v4, v5] = .ok (.tup [tx (eqCut w).1, tx k, tx (eqCut w).2]) := pe
    have r1 := r_way_in (eqCut w).1
    have r2 := r_shown_in (eqCut w).2 (l3 hP.1)
    have sl : acc.length < sizeLine := by rw [sizeBig]; exact hl
    constructor
    · intro x hx
      unfold showL at hx
      cases h1 : wayL (eqCut w).1 with
      | stuck => rw [h1] at hx; cases hx
      | exc c => rw [h1] at hx; cases hx
      | ok p =>
        rw [h1] at hx
        simp only [CT.R.bind_ok] at hx
        cases h2 : shwL (eqCut w).2 with
        | stuck => rw [h2] at hx; cases hx
        | exc c => rw [h2] at hx; cases hx
        | ok s =>
          rw [h2] at hx
          cases hx
          exact ⟨some (tx (eqCut w).1), some (tx k), some (tx (eqCut w).2), by simp [pe', r1, r2, h1, h2, sl, encI2]⟩
    · intro e hx
      unfold showL at hx
      cases h1 : wayL (eqCut w).1 with
      | stuck => exact absurd h1 (wayL_ns _)
      | exc c => rw [h1] at hx; cases hx; exact ⟨_, by simp [pe', r1, h1]; rfl⟩
      | ok p =>
        rw [h1] at hx
        simp only [CT.R.bind_ok] at hx
        cases h2 : shwL (eqCut w).2 with
        | stuck => exact absurd h2 (shwL_ns _)
        | exc c => rw [h2] at hx; cases hx; exact ⟨_, by simp [pe', r1, r2, h1, h2]; rfl⟩
        | ok s => rw [h2] at hx; cases hx)
    (wordsL t) [] none none none none hw (by simpa using hn)
  unfold s_read_shows
  refine def_rR rfl (map_ns (mapR_ns showL_ns _)) ?_
  cases hm : mapR showL (wordsL t) with
  | stuck => exact absurd hm (mapR_ns showL_ns _)
  | ok xs =>
    obtain ⟨a, b, c, d, q⟩ := st.1 xs hm
    have t3 : hasTL (xs.map encI2) = false := hasTL_map (fun _ => rfl) _
    simp [e1, stillL_map, itemsN, items, tw, q, t3]
    unfold sRetV
    simp [mine, t3]
  | exc c =>
    obtain ⟨m, q⟩ := st.2 c hm
    simp [e1, stillL_map, itemsN, items, tw, q]
end CK

namespace CK
open PySem PySem.Spec PyProof.Rows L2 CT
open TL (tl mk_tl len_tl ext_tl tl_append tl_ofString spl par joinL tl_join join_eq split_spl kind_ok partition_par)
def N40 (i : Int) : Prop := 0 ≤ i ∧ i < 10 ^ 40
def nmL (i : Int) : List Nat := TL.numL i.toNat
theorem nmL_str {i : Int} (h : N40 i) : strD [.int i] = .ok (tx (nmL i)) := by
  obtain ⟨h0, h1⟩ := h
  have e : i = (i.toNat : Int) := by omega
  have hb : i.toNat < 10 ^ 300 := by
    have : i.toNat < 10 ^ 40 := by omega
    exact Nat.lt_trans this (by decide +kernel)
  unfold nmL
  rw [← tx_num i.toNat hb, ← e]
theorem nmL_asc (i : Int) : Asc (nmL i) := asc_num _
theorem nmL_len {i : Int} (h : N40 i) : (nmL i).length ≤ 40 := numL_len40 (by obtain ⟨_, _⟩ := h; omega)
def shT (s : Int) : List Nat := if s = 1 then [49] else if s = -1 then [45, 49] else [48]
def Shn (s : Int) : Prop := s = 1 ∨ s = -1 ∨ s = 0
theorem shT_str {s : Int} (h : Shn s) : strD [.int s] = .ok (tx (shT s)) := by
  rcases h with rfl | rfl | rfl
  · exact tx_num 1 (by decide +kernel)
  · show (if ((-1 : Int)).natAbs.log2 < 1920 then R.ok (D.str (Str.ofString (toString (-1 : Int)))) else .stuck) = _
    rw [if_pos (by decide), mkS_of]; rfl
  · exact tx_num 0 (by decide +kernel)
theorem shT_read {s : Int} (h : Shn s) : shwL (shT s) = .ok s := by rcases h with rfl | rfl | rfl <;> rfl
theorem shT_asc (s : Int) : Asc (shT s) := fun c hc => by unfold shT at hc; split at hc <;> (try split at hc) <;> simp at hc <;> omega
theorem shT_len (s : Int) : (shT s).length ≤ 2 := by unfold shT; split <;> (try split) <;> simp
def stepL (d : Int × Int × Int) : List Nat := nmL d.1 ++ [sgn d.2.1] ++ nmL d.2.2
def pshT (p : Int × Int) : List Nat := nmL p.1 ++ [sgn p.2]
def seenT (d : Int × Int × Int) : List Nat := pshT (d.1, d.2.1) ++ [61] ++ shT d.2.2
def showT (p : Int × Int) : List Nat := [sgn p.1] ++ [61] ++ shT p.2
def Deed3 (d : Int × Int × Int) : Prop := N40 d.1 ∧ (d.2.1 = 1 ∨ d.2.1 = -1) ∧ N40 d.2.2
def Psh2 (p : Int × Int) : Prop := N40 p.1 ∧ (p.2 = 1 ∨ p.2 = -1)
def Seen3 (d : Int × Int × Int) : Prop := N40 d.1 ∧ (d.2.1 = 1 ∨ d.2.1 = -1) ∧ Shn d.2.2
def Show2 (p : Int × Int) : Prop := (p.1 = 1 ∨ p.1 = -1) ∧ Shn p.2
theorem r_way_shown {w : Int} (h : w = 1 ∨ w = -1) : s_way_shown [.int w] = .ok (tx [sgn w]) := by
  have i0 : ixD (.str "-+") (.int 0) = .ok (tx [45]) := by rw [k_mp]; exact tx_ix [45, 43] 0 (by decide) rfl
  have i1 : ixD (.str "-+") (.int 1) = .ok (tx [43]) := by rw [k_mp]; exact tx_ix [45, 43] 1 (by decide) rfl
  unfold s_way_shown
  refine def_ok1 rfl ?_
  rcases h with rfl | rfl
  · simp [i1, sgn]
  · simp [i0, sgn]
theorem law_way {w : Int} (h : w = 1 ∨ w = -1) : (((eqvD (.int 0) (.int 0)) = true)) ∧ ixD (.str "+-") (.int (if w < 0 then 1 else 0)) = .ok (tx [sgn w]) := by
  have i0 : ixD (.str "+-") (.int 0) = .ok (tx [43]) := by rw [k_pm]; exact tx_ix [43, 45] 0 (by decide) rfl
  have i1 : ixD (.str "+-") (.int 1) = .ok (tx [45]) := by rw [k_pm]; exact tx_ix [43, 45] 1 (by decide) rfl
  refine ⟨rfl, ?_⟩
  rcases h with rfl | rfl
  · exact i0
  · exact i1
theorem r_step_shown3 {d : Int × Int × Int} (h : Deed3 d) : s_step_shown [enc3 d] = .ok (tx (stepL d)) := by
  obtain ⟨h1, h2, h3⟩ := h
  have s1 := nmL_str h1
  have s3 := nmL_str h3
  have l1 := nmL_len h1
  have l3 := nmL_len h3
  have wy := r_way_shown h2
  have cu : cutD (enc3 d) (some 2) none = .ok (.tup [.int d.2.2]) := rfl
  have ix0 : ixD (enc3 d) (.int 0) = .ok (.int d.1) := rfl
  have ix1 : ixD (enc3 d) (.int 1) = .ok (.int d.2.1) := rfl
  have lc : lcGo (putR 1) tYesM (eA strD (aCons (eVar 1) aNil)) [some (enc3 d), none] [.int d.2.2] = .ok [tx (nmL d.2.2)] := by
    unfold lcGo
    simp [s3, nox, lcGo]
  have jn : joinD (.str "") (.lst false [tx (nmL d.2.2)]) = .ok (tx (nmL d.2.2)) := by
    rw [k_e]
    exact tx_join [] [nmL d.2.2] (by simp; omega) false
  have a1 := tx_add (nmL d.1) [sgn d.2.1] (by simp; omega)
  have a2 := tx_add (nmL d.1 ++ [sgn d.2.1]) (nmL d.2.2) (by simp; omega)
  unfold s_step_shown
  refine def_ok1 rfl ?_
  simp [ix0, ix1, s1, wy, cu, itemsN, items, lc, small, jn, a1, a2, joinE, stepL]
theorem r_step_shown2 {d : Int × Int} (h : Psh2 d) : s_step_shown [encI2 d] = .ok (tx (pshT d)) := by
  obtain ⟨h1, h2⟩ := h
  have s1 := nmL_str h1
  have l1 := nmL_len h1
  have wy := r_way_shown h2
  have cu : cutD (encI2 d) (some 2) none = .ok (.tup []) := rfl
  have ix0 : ixD (encI2 d) (.int 0) = .ok (.int d.1) := rfl
  have ix1 : ixD (encI2 d) (.int 1) = .ok (.int d.2) := rfl
  have jn : joinD (.str "") (.lst false []) = .ok (tx []) := by
    rw [k_e]
    exact tx_join [] [] (by simp) false
  have a1 := tx_add (nmL d.1) [sgn d.2] (by simp; omega)
  have a2 := tx_add (nmL d.1 ++ [sgn d.2]) [] (by simp; omega)
  unfold s_step_shown
  refine def_ok1 rfl ?_
  simp [ix0, ix1, s1, wy, cu, itemsN, items, lcGo, small, jn, a1, a2, joinE, pshT]
theorem r_law_step3 {d : Int × Int × Int} (h : Deed3 d) : s_law_step_text [enc3 d] = .ok (tx (stepL d)) := by
  obtain ⟨h1, h2, h3⟩ := h
  have s1 := nmL_str h1
  have s3 := nmL_str h3
  have l1 := nmL_len h1
  have l3 := nmL_len h3
  have wy := (law_way h2).2
  have cu : cutD (enc3 d) (some 2) none = .ok (.tup [.int d.2.2]) := rfl
  have ix0 : ixD (enc3 d) (.int 0) = .ok (.int d.1) := rfl
  have ix1 : ixD (enc3 d) (.int 1) = .ok (.int d.2.1) := rfl
  have lc : lcGo (putR 1) tYesM (eA strD (aCons (eVar 1) aNil)) [some (enc3 d), none] [.int d.2.2] = .ok [tx (nmL d.2.2)] := by
    unfold lcGo
    simp [s3, nox, lcGo]
  have jn : joinD (.str "") (.lst false [tx (nmL d.2.2)]) = .ok (tx (nmL d.2.2)) := by
    rw [k_e]
    exact tx_join [] [nmL d.2.2] (by simp; omega) false
  have a1 := tx_add (nmL d.1) [sgn d.2.1] (by simp; omega)
  have a2 := tx_add (nmL d.1 ++ [sgn d.2.1]) (nmL d.2.2) (by simp; omega)
  unfold s_law_step_text
  refine def_ok1 rfl ?_
  simp [ix0, ix1, s1, wy, cu, itemsN, items, lc, small, jn, a1, a2, joinE, stepL]
theorem r_law_step2 {d : Int × Int} (h : Psh2 d) : s_law_step_text [encI2 d] = .ok (tx (pshT d)) := by
  obtain ⟨h1, h2⟩ := h
  have s1 := nmL_str h1
  have l1 := nmL_len h1
  have wy := (law_way h2).2
  have cu : cutD (encI2 d) (some 2) none = .ok (.tup []) := rfl
  have ix0 : ixD (encI2 d) (.int 0) = .ok (.int d.1) := rfl
  have ix1 : ixD (encI2 d) (.int 1) = .ok (.int d.2) := rfl
  have jn : joinD (.str "") (.lst false []) = .ok (tx []) := by
    rw [k_e]
    exact tx_join [] [] (by simp) false
  have a1 := tx_add (nmL d.1) [sgn d.2] (by simp; omega)
  have a2 := tx_add (nmL d.1 ++ [sgn d.2]) [] (by simp; omega)
  unfold s_law_step_text
  refine def_ok1 rfl ?_
  simp [ix0, ix1, s1, wy, cu, itemsN, items, lcGo, small, jn, a1, a2, joinE, pshT]
theorem eq_nilT {ws : List (List Nat)} (h : ∀ w ∈ ws, Asc w) (t : Bool) : eqD (.lst t (ws.map tx)) (.lst false []) = .ok (.bl (decide (ws = []))) := by
  have s1 : Sh 2 (.lst t (ws.map tx)) := sh_lst (n := 1) fun x hx => by
    obtain ⟨w, hw', rfl⟩ := List.mem_map.mp hx
    exact sh_str (h w hw').ok
  rw [eqD_ok ⟨s1.1, Nat.le_trans s1.2 (by decide)⟩ (sh_lst (n := 63) (by simp))]
  congr 2
  cases ws with
  | nil => rfl
  | cons w ws => simp [eqvD, py, pyL, PyData.eqv, PyData.eqvAll]
def WsOk (ws : List (List Nat)) : Prop := (∀ w ∈ ws, Asc w) ∧ (ws.map (·.length)).sum + ws.length ≤ 8388000
theorem join_len (ws : List (List Nat)) : (joinL [32] ws).length ≤ (ws.map (·.length)).sum + ws.length := by
  induction ws with
  | nil => simp [joinL]
  | cons w ws ih =>
    cases ws with
    | nil => simp [joinL]
    | cons v vs => simp [joinL] at ih ⊢; omega
theorem r_listed {ws : List (List Nat)} (h : WsOk ws) (t : Bool) : s_listed [.lst false (ws.map tx)] = .ok (tx (listL ws)) := by
  have e := eq_nilT h.1 false
  have j : joinD (.str " ") (.lst false (ws.map tx)) = .ok (tx (joinL [32] ws)) := by
    rw [k_sp]
    exact tx_join [32] ws (by have := h.2; simp; omega) false
  unfold s_listed
  refine def_ok1 rfl ?_
  by_cases c : ws = []
  · rw [decide_eq_true c] at e
    have z : listL ws = noneL := by unfold listL; rw [if_pos c]
    simp [e, z, k_none, noneL]
  · rw [decide_eq_false c] at e
    simp [e, j, joinE, listL, c]
theorem r_law_list_text {ws : List (List Nat)} (h : WsOk ws) : s_law_list_text [.lst false (ws.map tx)] = .ok (tx (listL ws)) := by
  have e := eq_nilT h.1 false
  have j : joinD (.str " ") (.lst false (ws.map tx)) = .ok (tx (joinL [32] ws)) := by
    rw [k_sp]
    exact tx_join [32] ws (by have := h.2; simp; omega) false
  have jl := join_len ws
  unfold s_law_list_text
  refine def_ok1 rfl ?_
  by_cases c : ws = []
  · rw [decide_eq_true c] at e
    have r : repS (.str "none") (.int 1) = .ok (tx noneL) := by rw [k_none]; rfl
    have a := tx_add (joinL [32] ws) noneL (by have := h.2; simp [noneL]; omega)
    have z : joinL [32] ws ++ noneL = listL ws := by rw [c]; rfl
    rw [z] at a
    simp [e, j, joinE, r, a]
  · rw [decide_eq_false c] at e
    have r : repS (.str "none") (.int 0) = .ok (tx []) := rfl
    have a := tx_add (joinL [32] ws) [] (by have := h.2; simp; omega)
    rw [List.append_nil] at a
    simp [e, j, joinE, r, a, listL, c]
theorem lc_txt {α : Type} {f : List D → R D} {T : α → List Nat} {enc : α → D} {k : Nat} {m : Sl} (hk : ∀ d, eVar k (m.set k (some d)) = .ok d) (he : ∀ a, hasT (enc a) = false) (hs : ∀ a, still (enc a) = enc a) {xs : List α} (hf : ∀ x ∈ xs, f [enc x] = .ok (tx (T x))) :
    lcGo (putR k) tYesM (eA (callF f) (aCons (eVar k) aNil)) m (xs.map enc) = .ok ((xs.map T).map tx) := by
  rw [List.map_map]
  exact lcGo_map1 enc (tx ∘ T) xs fun a ha => ⟨m.set k (some (enc a)), by simp [he], by simp [hk, he, hs, hf a ha], rfl⟩
theorem r_show_row {xs : List (Int × Int × Int)} (hx : ∀ x ∈ xs, Deed3 x) (hw : WsOk (xs.map stepL)) : s_show_row [.lst false (xs.map enc3)] = .ok (tx (listL (xs.map stepL))) := by
  have e := lc_txt (f := s_step_shown) (T := stepL) (enc := enc3) (k := 1) (m := [some (.lst false (xs.map enc3)), none]) (fun _ => rfl) (fun _ => rfl) (fun _ => rfl) fun x h => r_step_shown3 (hx x h)
  have tl3 : hasTL (xs.map enc3) = false := hasTL_map (fun _ => rfl) _
  have st : stillL ((xs.map stepL).map tx) = (xs.map stepL).map tx := stillL_map (fun _ => rfl) _
  have tt : hasTL ((xs.map stepL).map tx) = false := hasTL_map (fun _ => rfl) _
  have r := r_listed hw false
  unfold s_show_row
  refine def_ok1 rfl ?_
  generalize xs.map stepL = ws at *
  have hl : ws.length ≤ 16777216 := by have := hw.2; omega
  simp [itemsN, items, tl3, e, small hl, st, tt, r]
theorem r_show_pushes {xs : List (Int × Int)} (hx : ∀ x ∈ xs, Psh2 x) (hw : WsOk (xs.map pshT)) : s_show_pushes [.lst false (xs.map encI2)] = .ok (tx (listL (xs.map pshT))) := by
  have e := lc_txt (f := s_step_shown) (T := pshT) (enc := encI2) (k := 1) (m := [some (.lst false (xs.map encI2)), none]) (fun _ => rfl) (fun _ => rfl) (fun _ => rfl) fun x h => r_step_shown2 (hx x h)
  have tl3 : hasTL (xs.map encI2) = false := hasTL_map (fun _ => rfl) _
  have st : stillL ((xs.map pshT).map tx) = (xs.map pshT).map tx := stillL_map (fun _ => rfl) _
  have tt : hasTL ((xs.map pshT).map tx) = false := hasTL_map (fun _ => rfl) _
  have r := r_listed hw false
  unfold s_show_pushes
  refine def_ok1 rfl ?_
  generalize xs.map pshT = ws at *
  have hl : ws.length ≤ 16777216 := by have := hw.2; omega
  simp [itemsN, items, tl3, e, small hl, st, tt, r]
theorem r_law_steps3 {xs : List (Int × Int × Int)} (hx : ∀ x ∈ xs, Deed3 x) (hw : WsOk (xs.map stepL)) : s_law_steps_text [.lst false (xs.map enc3)] = .ok (tx (listL (xs.map stepL))) := by
  have e := lc_txt (f := s_law_step_text) (T := stepL) (enc := enc3) (k := 1) (m := [some (.lst false (xs.map enc3)), none]) (fun _ => rfl) (fun _ => rfl) (fun _ => rfl) fun x h => r_law_step3 (hx x h)
  have tl3 : hasTL (xs.map enc3) = false := hasTL_map (fun _ => rfl) _
  have st : stillL ((xs.map stepL).map tx) = (xs.map stepL).map tx := stillL_map (fun _ => rfl) _
  have tt : hasTL ((xs.map stepL).map tx) = false := hasTL_map (fun _ => rfl) _
  have r := r_law_list_text hw
  unfold s_law_steps_text
  refine def_ok1 rfl ?_
  generalize xs.map stepL = ws at *
  have hl : ws.length ≤ 16777216 := by have := hw.2; omega
  simp [itemsN, items, tl3, e, small hl, st, tt, r]
theorem r_law_steps2 {xs : List (Int × Int)} (hx : ∀ x ∈ xs, Psh2 x) (hw : WsOk (xs.map pshT)) : s_law_steps_text [.lst false (xs.map encI2)] = .ok (tx (listL (xs.map pshT))) := by
  have e := lc_txt (f := s_law_step_text) (T := pshT) (enc := encI2) (k := 1) (m := [some (.lst false (xs.map encI2)), none]) (fun _ => rfl) (fun _ => rfl) (fun _ => rfl) fun x h => r_law_step2 (hx x h)
  have tl3 : hasTL (xs.map encI2) = false := hasTL_map (fun _ => rfl) _
  have st : stillL ((xs.map pshT).map tx) = (xs.map pshT).map tx := stillL_map (fun _ => rfl) _
  have tt : hasTL ((xs.map pshT).map tx) = false := hasTL_map (fun _ => rfl) _
  have r := r_law_list_text hw
  unfold s_law_steps_text
  refine def_ok1 rfl ?_
  generalize xs.map pshT = ws at *
  have hl : ws.length ≤ 16777216 := by have := hw.2; omega
  simp [itemsN, items, tl3, e, small hl, st, tt, r]
theorem seen_add {a : List Nat} {s : Int} (h : Shn s) (hl : a.length ≤ 1000) : addD (tx a) (.str "=") = .ok (tx (a ++ [61])) ∧ addD (tx (a ++ [61])) (tx (shT s)) = .ok (tx (a ++ [61] ++ shT s)) := by
  refine ⟨by rw [k_eq]; exact tx_add a [61] (by simp; omega), tx_add _ _ ?_⟩
  have := shT_len s
  simp; omega
theorem r_show_shown {xs : List (Int × Int × Int)} (hx : ∀ x ∈ xs, Seen3 x) (hw : WsOk (xs.map seenT)) : s_show_shown [.lst false (xs.map enc3)] = .ok (tx (listL (xs.map seenT))) := by
  have e : lcGo (gTupR 3 (gsCons (putR 1) (gsCons (putR 2) (gsCons (putR 3) gsNil)))) tYesM (CT.e2 addD (CT.e2 addD (CT.e2 addD (eA strD (aCons (eVar 1) aNil)) (eA (callF s_way_shown) (aCons (eVar 2) aNil))) (eC (.str "="))) (eA strD (aCons (eVar 3) aNil))) [some (.lst false (xs.map enc3)), none, none, none] (xs.map enc3) = .ok ((xs.map seenT).map tx) := by
    rw [List.map_map]
    refine lcGo_map1 enc3 (tx ∘ seenT) xs fun a ha => ⟨[some (.lst false (xs.map enc3)), some (.int a.1), some (.int a.2.1), some (.int a.2.2)], by simp [enc3], ?_, rfl⟩
    obtain ⟨h1, h2, h3⟩ := hx a ha
    have l1 := nmL_len h1
    have a1 := tx_add (nmL a.1) [sgn a.2.1] (by simp; omega)
    obtain ⟨a2, a3⟩ := seen_add (a := nmL a.1 ++ [sgn a.2.1]) h3 (by simp; omega)
    simp only [List.append_assoc, List.cons_append, List.nil_append] at a1 a2 a3
    simp [nmL_str h1, r_way_shown h2, shT_str h3, a1, a2, a3, seenT, pshT]
  have tl3 : hasTL (xs.map enc3) = false := hasTL_map (fun _ => rfl) _
  have st : stillL ((xs.map seenT).map tx) = (xs.map seenT).map tx := stillL_map (fun _ => rfl) _
  have tt : hasTL ((xs.map seenT).map tx) = false := hasTL_map (fun _ => rfl) _
  have r := r_listed hw false
  unfold s_show_shown
  refine def_ok1 rfl ?_
  generalize xs.map seenT = ws at *
  have hl : ws.length ≤ 16777216 := by have := hw.2; omega
  simp [itemsN, items, tl3, e, small hl, st, tt, r]
theorem r_show_shows {xs : List (Int × Int)} (hx : ∀ x ∈ xs, Show2 x) (hw : WsOk (xs.map showT)) : s_show_shows [.lst false (xs.map encI2)] = .ok (tx (listL (xs.map showT))) := by
  have e : lcGo (gTupR 2 (gsCons (putR 1) (gsCons (putR 2) gsNil))) tYesM (CT.e2 addD (CT.e2 addD (eA (callF s_way_shown) (aCons (eVar 1) aNil)) (eC (.str "="))) (eA strD (aCons (eVar 2) aNil))) [some (.lst false (xs.map encI2)), none, none] (xs.map encI2) = .ok ((xs.map showT).map tx) := by
    rw [List.map_map]
    refine lcGo_map1 encI2 (tx ∘ showT) xs fun a ha => ⟨[some (.lst false (xs.map encI2)), some (.int a.1), some (.int a.2)], by simp [encI2], ?_, rfl⟩
    obtain ⟨h2, h3⟩ := hx a ha
    obtain ⟨a2, a3⟩ := seen_add (a := [sgn a.1]) h3 (by simp)
    simp only [List.append_assoc, List.cons_append, List.nil_append] at a2 a3
    simp [r_way_shown h2, shT_str h3, a2, a3, showT]
  have tl3 : hasTL (xs.map encI2) = false := hasTL_map (fun _ => rfl) _
  have st : stillL ((xs.map showT).map tx) = (xs.map showT).map tx := stillL_map (fun _ => rfl) _
  have tt : hasTL ((xs.map showT).map tx) = false := hasTL_map (fun _ => rfl) _
  have r := r_listed hw false
  unfold s_show_shows
  refine def_ok1 rfl ?_
  generalize xs.map showT = ws at *
  have hl : ws.length ≤ 16777216 := by have := hw.2; omega
  simp [itemsN, items, tl3, e, small hl, st, tt, r]
theorem r_law_seen {xs : List (Int × Int × Int)} (hx : ∀ x ∈ xs, Seen3 x) (hw : WsOk (xs.map seenT)) : s_law_seen_text [.lst false (xs.map enc3)] = .ok (tx (listL (xs.map seenT))) := by
  have e : lcGo (putR 1) tYesM (CT.e2 addD (CT.e2 addD (eA (callF s_law_step_text) (aCons (eCut (eVar 1) pNo (pSo (eC (.int 2)))) aNil)) (eC (.str "="))) (eA strD (aCons (CT.e2 ixD (eVar 1) (eC (.int 2))) aNil))) [some (.lst false (xs.map enc3)), none] (xs.map enc3) = .ok ((xs.map seenT).map tx) := by
    rw [List.map_map]
    refine lcGo_map1 enc3 (tx ∘ seenT) xs fun a ha => ⟨[some (.lst false (xs.map enc3)), some (enc3 a)], by simp [enc3], ?_, rfl⟩
    obtain ⟨h1, h2, h3⟩ := hx a ha
    have l1 := nmL_len h1
    have r2 := r_law_step2 (d := (a.1, a.2.1)) ⟨h1, h2⟩
    have cu : cutD (enc3 a) none (some 2) = .ok (encI2 (a.1, a.2.1)) := rfl
    have ix2 : ixD (enc3 a) (.int 2) = .ok (.int a.2.2) := rfl
    obtain ⟨a2, a3⟩ := seen_add (a := pshT (a.1, a.2.1)) h3 (by simp [pshT]; omega)
    have s2 : hasT (encI2 (a.1, a.2.1)) = false := rfl
    have s3 : still (encI2 (a.1, a.2.1)) = encI2 (a.1, a.2.1) := rfl
    simp [cu, s2, s3, r2, ix2, shT_str h3, a2, a3, seenT]
  have tl3 : hasTL (xs.map enc3) = false := hasTL_map (fun _ => rfl) _
  have st : stillL ((xs.map seenT).map tx) = (xs.map seenT).map tx := stillL_map (fun _ => rfl) _
  have tt : hasTL ((xs.map seenT).map tx) = false := hasTL_map (fun _ => rfl) _
  have r := r_law_list_text hw
  unfold s_law_seen_text
  refine def_ok1 rfl ?_
  generalize xs.map seenT = ws at *
  have hl : ws.length ≤ 16777216 := by have := hw.2; omega
  simp [itemsN, items, tl3, e, small hl, st, tt, r]
theorem r_law_shows {xs : List (Int × Int)} (hx : ∀ x ∈ xs, Show2 x) (hw : WsOk (xs.map showT)) : s_law_shows_text [.lst false (xs.map encI2)] = .ok (tx (listL (xs.map showT))) := by
  have e : lcGo (gTupR 2 (gsCons (putR 1) (gsCons (putR 2) gsNil))) tYesM (CT.e2 addD (CT.e2 addD (CT.e2 ixD (eC (.str "+-")) (eA intD (aCons (CT.e2 ltD (eVar 1) (eC (.int 0))) aNil))) (eC (.str "="))) (eA strD (aCons (eVar 2) aNil))) [some (.lst false (xs.map encI2)), none, none] (xs.map encI2) = .ok ((xs.map showT).map tx) := by
    rw [List.map_map]
    refine lcGo_map1 encI2 (tx ∘ showT) xs fun a ha => ⟨[some (.lst false (xs.map encI2)), some (.int a.1), some (.int a.2)], by simp [encI2], ?_, rfl⟩
    obtain ⟨h2, h3⟩ := hx a ha
    obtain ⟨a2, a3⟩ := seen_add (a := [sgn a.1]) h3 (by simp)
    have wy := (law_way h2).2
    simp only [List.append_assoc, List.cons_append, List.nil_append] at a2 a3
    simp [wy, shT_str h3, a2, a3, showT]
  have tl3 : hasTL (xs.map encI2) = false := hasTL_map (fun _ => rfl) _
  have st : stillL ((xs.map showT).map tx) = (xs.map showT).map tx := stillL_map (fun _ => rfl) _
  have tt : hasTL ((xs.map showT).map tx) = false := hasTL_map (fun _ => rfl) _
  have r := r_law_list_text hw
  unfold s_law_shows_text
  refine def_ok1 rfl ?_
  generalize xs.map showT = ws at *
  have hl : ws.length ≤ 16777216 := by have := hw.2; omega
  simp [itemsN, items, tl3, e, small hl, st, tt, r]
end CK

namespace CK
open PySem PySem.Spec PyProof.Rows L2 CT
def far : Nat := 1000000000
def shown (d : D) : Str := PyData.shown (py d)
end CK

namespace CK
open PySem PySem.Spec PyProof.Rows L2 CT
theorem r_law_whole (d : D) (h : isX d = false) : s_law_whole [d] = .ok (.bl (isWholeB d)) := by
  unfold s_law_whole
  refine def_ok1 rfl ?_
  cases d <;> first | (cases h; done) | simp [isWholeB]
end CK

namespace CK
open PySem PySem.Spec PyProof.Rows L2 CT
open TL (tl mk_tl len_tl ext_tl tl_append tl_ofString spl par joinL tl_join join_eq split_spl kind_ok partition_par)
theorem nmL_free {i : Int} {c : Nat} (h : c < 48 ∨ 57 < c) : c ∉ nmL i := TL.numL_free h
theorem sgn_ne (w : Int) {c : Nat} (h : c ≠ 43) (h' : c ≠ 45) : c ≠ sgn w := fun e => by rcases sgn_or w with z | z <;> (rw [z] at e; first | exact h e | exact h' e)
theorem N40.nat {i : Int} (h : N40 i) : i.toNat < 10 ^ 40 ∧ ((i.toNat : Nat) : Int) = i := by obtain ⟨_, _⟩ := h; omega
theorem deed_back {d : Int × Int × Int} (h : Deed3 d) : deedL (stepL d) = .ok d := by
  obtain ⟨h1, h2, h3⟩ := h
  have := deed_num h1.nat.1 h2 h3.nat.1
  rw [h1.nat.2, h3.nat.2] at this
  exact this
theorem psh_back {p : Int × Int} (h : Psh2 p) : pshL (pshT p) = .ok p := by
  obtain ⟨h1, h2⟩ := h
  have := psh_num h1.nat.1 h2
  rw [h1.nat.2] at this
  exact this
theorem eqCut_of {a b : List Nat} (h : 61 ∉ a) : eqCut (a ++ [61] ++ b) = (a, b) := by
  unfold eqCut
  rw [List.append_assoc, TL.par_part1 h]; rfl
theorem psh_no {p : Int × Int} {c : Nat} (h : c < 48 ∨ 57 < c) (h1 : c ≠ 43) (h2 : c ≠ 45) : c ∉ pshT p := fun z => by
  unfold pshT at z
  rcases List.mem_append.mp z with z | z
  · exact nmL_free h z
  · exact sgn_ne _ h1 h2 (List.mem_singleton.mp z)
theorem shT_no {s : Int} {c : Nat} (h : c < 45 ∨ 57 < c) : c ∉ shT s := fun z => by
  unfold shT at z
  split at z <;> (try split at z) <;> simp at z <;> omega
theorem seen_back {d : Int × Int × Int} (h : Seen3 d) : seenL (seenT d) = .ok d := by
  obtain ⟨h1, h2, h3⟩ := h
  unfold seenL seenT
  rw [eqCut_of (psh_no (by decide) (by decide) (by decide))]
  simp only
  rw [psh_back ⟨h1, h2⟩, shT_read h3]; rfl
theorem show_back {p : Int × Int} (h : Show2 p) : showL (showT p) = .ok p := by
  obtain ⟨h2, h3⟩ := h
  unfold showL showT
  rw [eqCut_of (fun z => sgn_ne p.1 (c := 61) (by decide) (by decide) (List.mem_singleton.mp z))]
  simp only
  rw [way_sgn h2, shT_read h3]; rfl
theorem no_none {l : List Nat} {c : Nat} (hc : c ∈ l) (h : c < 100) : l ≠ noneL := fun e => by
  subst e
  simp [noneL] at hc
  omega
theorem step_word (d : Int × Int × Int) : 32 ∉ stepL d ∧ stepL d ≠ noneL := by
  refine ⟨fun z => ?_, no_none (c := sgn d.2.1) (by simp [stepL]) (by rcases sgn_or d.2.1 with e | e <;> omega)⟩
  unfold stepL at z
  rcases List.mem_append.mp z with z | z
  · rcases List.mem_append.mp z with z | z
    · exact nmL_free (by decide) z
    · exact sgn_ne _ (by decide) (by decide) (List.mem_singleton.mp z)
  · exact nmL_free (by decide) z
theorem psh_word (p : Int × Int) : 32 ∉ pshT p ∧ pshT p ≠ noneL := ⟨psh_no (by decide) (by decide) (by decide), no_none (c := sgn p.2) (by simp [pshT]) (by rcases sgn_or p.2 with e | e <;> omega)⟩
theorem seen_word (d : Int × Int × Int) : 32 ∉ seenT d ∧ seenT d ≠ noneL := by
  refine ⟨fun z => ?_, no_none (c := 61) (by simp [seenT]) (by decide)⟩
  unfold seenT at z
  rcases List.mem_append.mp z with z | z
  · rcases List.mem_append.mp z with z | z
    · exact psh_no (by decide) (by decide) (by decide) z
    · simp at z
  · exact shT_no (by decide) z
theorem show_word (p : Int × Int) : 32 ∉ showT p ∧ showT p ≠ noneL := by
  refine ⟨fun z => ?_, no_none (c := 61) (by simp [showT]) (by decide)⟩
  unfold showT at z
  rcases List.mem_append.mp z with z | z
  · rcases List.mem_append.mp z with z | z
    · exact sgn_ne _ (by decide) (by decide) (List.mem_singleton.mp z)
    · simp at z
  · exact shT_no (by decide) z
theorem words_back {α : Type} {T : α → List Nat} (h : ∀ a, 32 ∉ T a ∧ T a ≠ noneL) (xs : List α) : wordsL (listL (xs.map T)) = xs.map T := words_list fun w hw => by
  obtain ⟨a, _, rfl⟩ := List.mem_map.mp hw
  exact h a
theorem map_back {α : Type} {T : α → List Nat} {F : List Nat → R α} {xs : List α} (h : ∀ a ∈ xs, F (T a) = .ok a) : (xs.map T).map F = xs.map R.ok := by
  rw [List.map_map]
  exact List.map_congr_left fun a ha => h a ha
structure Well (tb sb rb : List D → R D) (zs : List (List Int)) (T : List Nat) : Prop where
  l : tb [.lst false (zs.map encS)] = .ok (tx T)
  s : sb [.lst false (zs.map encS)] = .ok (tx T)
  r : rb [tx T] = .ok (.lst true (zs.map encS))
  n : zs.length ≤ 10000
  h : ∀ z ∈ zs, z.length ≤ 3
theorem sh_zs {zs : List (List Int)} (t : Bool) : Sh 64 (.lst t (zs.map encS)) := sh_lst (n := 63) fun x hx => by
  obtain ⟨z, _, rfl⟩ := List.mem_map.mp hx
  exact sh_tup (n := 62) fun y hy => by
    obtain ⟨i, _, rfl⟩ := List.mem_map.mp hy
    exact sh_int _ _
theorem eqv_zs (t u : Bool) (zs : List (List Int)) : eqvD (.lst t (zs.map encS)) (.lst u (zs.map encS)) = true := by
  exact eqv_py rfl (sh_zs t).1
theorem zs_noT (zs : List (List Int)) : hasTL (zs.map encS) = false := hasTL_map (fun z => by simp [encS]) _
theorem zs_still (zs : List (List Int)) : stillL (zs.map encS) = zs.map encS := stillL_of _ (zs_noT zs)
theorem r_well_w {k : Nat} {fx sx rx : String} {tb sb rb : List D → R D} {zs : List (List Int)} {T : List Nat} (W : Well tb sb rb zs T)
    (q1 : ixD (.lst false [.fn "_law_steps_text", .fn "_law_steps_text", .fn "_law_seen_text", .fn "_law_shows_text"]) (.int k) = .ok (.fn fx)) (q1' : fnAt [("_law_steps_text", s_law_steps_text), ("_law_steps_text", s_law_steps_text), ("_law_seen_text", s_law_seen_text), ("_law_shows_text", s_law_shows_text)] (.fn fx) = .ok tb)
    (q2 : ixD (.lst false [.fn "show_row", .fn "show_pushes", .fn "show_shown", .fn "show_shows"]) (.int k) = .ok (.fn sx)) (q2' : fnAt [("show_row", s_show_row), ("show_pushes", s_show_pushes), ("show_shown", s_show_shown), ("show_shows", s_show_shows)] (.fn sx) = .ok sb)
    (q3 : ixD (.lst false [.fn "read_row", .fn "read_pushes", .fn "read_shown", .fn "read_shows"]) (.int k) = .ok (.fn rx)) (q3' : fnAt [("read_row", s_read_row), ("read_pushes", s_read_pushes), ("read_shown", s_read_shown), ("read_shows", s_read_shows)] (.fn rx) = .ok rb) :
    s_law_well_2 [.int k, .lst false (zs.map encS)] = .ok (.bl true) := by
  obtain ⟨w1, w2, w3, wn, wh⟩ := W
  have ht := zs_noT zs
  have hs := zs_still zs
  have nn : neD (tx T) (tx T) = .ok (.bl false) := by rw [tx_ne]; simp
  have n1 : neD (.lst false (zs.map encS)) (.lst false (zs.map encS)) = .ok (.bl false) := by rw [neD_ok (sh_zs _) (sh_zs _), eqv_zs]; rfl
  have n2 : neD (.lst true (zs.map encS)) (.lst false (zs.map encS)) = .ok (.bl false) := by rw [neD_ok (sh_zs _) (sh_zs _), eqv_zs]; rfl
  have lc : ∀ v5, lcGo (putR 7) tYesM (eAnd (CT.e1 (isiD "tuple") (eVar 7)) (eA allD (aCons (eOwn (aLc (aItN false (eVar 7)) (putR 8) tYesM (eA (callF s_law_whole) (aCons (eVar 8) aNil)) [8])) aNil))) [some (.int k), some (.lst false (zs.map encS)), some (.lst false (zs.map encS)), some (tx T), some (tx T), v5, some (.lst true (zs.map encS)), none, none] (zs.map encS) = .ok (zs.map fun _ => D.bl true) := fun v5 => by
    refine lcGo_map1 encS (fun _ => D.bl true) zs fun z hz => ⟨[some (.int k), some (.lst false (zs.map encS)), some (.lst false (zs.map encS)), some (tx T), some (tx T), v5, some (.lst true (zs.map encS)), some (encS z), none], by simp [encS], ?_, rfl⟩
    have l2 : lcGo (putR 8) tYesM (eA (callF s_law_whole) (aCons (eVar 8) aNil)) [some (.int k), some (.lst false (zs.map encS)), some (.lst false (zs.map encS)), some (tx T), some (tx T), v5, some (.lst true (zs.map encS)), some (encS z), none] (z.map D.int) = .ok (z.map fun _ => D.bl true) := by
      refine lcGo_map1 D.int (fun _ => D.bl true) z fun i _ => ⟨[some (.int k), some (.lst false (zs.map encS)), some (.lst false (zs.map encS)), some (tx T), some (tx T), v5, some (.lst true (zs.map encS)), some (encS z), some (.int i)], by simp, ?_, rfl⟩
      have := r_law_whole (.int i) rfl
      simp [this, isWholeB]
    have it : itemsN false (encS z) = .ok (z.map D.int) := by simp [encS, itemsN, items]
    have hz2 := wh z hz
    have ty : isiD "tuple" (encS z) = .ok (.bl true) := rfl
    simp [ty, it, l2, small (show z.length ≤ 16777216 by omega), allD_f false (fun _ => true) z]
  have al : allD [.lst false (zs.map fun _ => D.bl true)] = .ok (.bl true) := by rw [allD_f false (fun _ => true) zs]; simp
  have it : itemsN false (.lst true (zs.map encS)) = .ok (zs.map encS) := by simp [itemsN, items]
  have is1 : isiD "str" (tx T) = .ok (.bl true) := rfl
  have is2 : isiD "list" (.lst true (zs.map encS)) = .ok (.bl true) := rfl
  have wl : (zs.map fun _ => D.bl true).length ≤ sizeLine := small (by simp; omega)
  have wz : zs.length ≤ sizeLine := small (by omega)
  have ls : (zs.map encS).length < sizeLine := by rw [sizeBig]; simp; omega
  have turn : ∀ (i : Int) (v6 : Option D), (sSeq (sSetO 6 (aCallE (CT.e2 ixD (eOwn (aThen (aCons (eC (.fn "read_row")) (aCons (eC (.fn "read_pushes")) (aCons (eC (.fn "read_shown")) (aCons (eC (.fn "read_shows")) aNil)))) mkLst)) (eVar 0)) [("read_row", s_read_row), ("read_pushes", s_read_pushes), ("read_shown", s_read_shown), ("read_shows", s_read_shows)] (aCons (eVar 3) aNil)))
      (sSeq (sIf (CT.tOr (CT.tNot (tOf (CT.e1 (isiD "list") (eVar 6)))) (tOf (CT.e2 neD (eVar 6) (eVar 1)))) (sRet (eC (.bl false))) sNop)
      (sSeq (sIf (CT.tNot (tOf (eA allD (aCons (eOwn (aLc (aItN false (eVar 6)) (putR 7) tYesM (eAnd (CT.e1 (isiD "tuple") (eVar 7)) (eA allD (aCons (eOwn (aLc (aItN false (eVar 7)) (putR 8) tYesM (eA (callF s_law_whole) (aCons (eVar 8) aNil)) [8])) aNil))) [7])) aNil)))) (sRet (eC (.bl false))) sNop)
      (sApp 6 (eC .non))))) [some (.int k), some (.lst false (zs.map encS)), some (.lst false (zs.map encS)), some (tx T), some (tx T), some (.int i), v6, none, none] =
      .nx [some (.int k), some (.lst false (zs.map encS)), some (.lst false (zs.map encS)), some (tx T), some (tx T), some (.int i), some (.lst true (zs.map encS ++ [.non])), none, none] := fun i v6 => by
    simp [aCallE, q3, q3', w3, ht, hs, n2, is2, it, lc, al, wz, callO]
    simpa using ls
  have r2 : rng1 [.int 2] = .ok [.int 0, .int 1] := rfl
  unfold s_law_well_2
  refine def_ok1 rfl ?_
  have go : forGo (putR 5) ((sSeq (sSetO 6 (aCallE (CT.e2 ixD (eOwn (aThen (aCons (eC (.fn "read_row")) (aCons (eC (.fn "read_pushes")) (aCons (eC (.fn "read_shown")) (aCons (eC (.fn "read_shows")) aNil)))) mkLst)) (eVar 0)) [("read_row", s_read_row), ("read_pushes", s_read_pushes), ("read_shown", s_read_shown), ("read_shows", s_read_shows)] (aCons (eVar 3) aNil)))
      (sSeq (sIf (CT.tOr (CT.tNot (tOf (CT.e1 (isiD "list") (eVar 6)))) (tOf (CT.e2 neD (eVar 6) (eVar 1)))) (sRet (eC (.bl false))) sNop)
      (sSeq (sIf (CT.tNot (tOf (eA allD (aCons (eOwn (aLc (aItN false (eVar 6)) (putR 7) tYesM (eAnd (CT.e1 (isiD "tuple") (eVar 7)) (eA allD (aCons (eOwn (aLc (aItN false (eVar 7)) (putR 8) tYesM (eA (callF s_law_whole) (aCons (eVar 8) aNil)) [8])) aNil))) [7])) aNil)))) (sRet (eC (.bl false))) sNop)
      (sApp 6 (eC .non)))))) [.int 0, .int 1] [some (.int k), some (.lst false (zs.map encS)), some (.lst false (zs.map encS)), some (tx T), some (tx T), none, none, none, none] = .nx [some (.int k), some (.lst false (zs.map encS)), some (.lst false (zs.map encS)), some (tx T), some (tx T), some (.int 1), some (.lst true (zs.map encS ++ [.non])), none, none] := by
    rw [forGo, show putR 5 (.int 0) [some (.int k), some (.lst false (zs.map encS)), some (.lst false (zs.map encS)), some (tx T), some (tx T), none, none, none, none] = .ok [some (.int k), some (.lst false (zs.map encS)), some (.lst false (zs.map encS)), some (tx T), some (tx T), some (.int 0), none, none, none] from rfl]
    simp only [turn]
    rw [forGo, show putR 5 (.int 1) [some (.int k), some (.lst false (zs.map encS)), some (.lst false (zs.map encS)), some (tx T), some (tx T), some (.int 0), some (.lst true (zs.map encS ++ [.non])), none, none] = .ok [some (.int k), some (.lst false (zs.map encS)), some (.lst false (zs.map encS)), some (tx T), some (tx T), some (.int 1), some (.lst true (zs.map encS ++ [.non])), none, none] from rfl]
    simp only [turn]
    rfl
  simp [eCallE, q1, q1', q2, q2', w1, w2, ht, hs, nn, n1, is1, r2, go]
theorem r_well_0 {zs : List (List Int)} {T : List Nat} (W : Well s_law_steps_text s_show_row s_read_row zs T) : s_law_well_2 [.int 0, .lst false (zs.map encS)] = .ok (.bl true) := r_well_w (k := 0) W rfl rfl rfl rfl rfl rfl
theorem r_well_1 {zs : List (List Int)} {T : List Nat} (W : Well s_law_steps_text s_show_pushes s_read_pushes zs T) : s_law_well_2 [.int 1, .lst false (zs.map encS)] = .ok (.bl true) := r_well_w (k := 1) W rfl rfl rfl rfl rfl rfl
theorem r_well_2 {zs : List (List Int)} {T : List Nat} (W : Well s_law_seen_text s_show_shown s_read_shown zs T) : s_law_well_2 [.int 2, .lst false (zs.map encS)] = .ok (.bl true) := r_well_w (k := 2) W rfl rfl rfl rfl rfl rfl
theorem r_well_3 {zs : List (List Int)} {T : List Nat} (W : Well s_law_shows_text s_show_shows s_read_shows zs T) : s_law_well_2 [.int 3, .lst false (zs.map encS)] = .ok (.bl true) := r_well_w (k := 3) W rfl rfl rfl rfl rfl rfl
def l3 (d : Int × Int × Int) : List Int := [d.1, d.2.1, d.2.2]
def l2 (d : Int × Int) : List Int := [d.1, d.2]
theorem enc3_S (xs : List (Int × Int × Int)) : (xs.map l3).map encS = xs.map enc3 := by rw [List.map_map]; rfl
theorem enc2_S (xs : List (Int × Int)) : (xs.map l2).map encS = xs.map encI2 := by rw [List.map_map]; rfl
theorem wsok {α : Type} {T : α → List Nat} {xs : List α} (h : ∀ a ∈ xs, Asc (T a) ∧ (T a).length ≤ 200) (hn : xs.length ≤ 500) : WsOk (xs.map T) := by
  refine ⟨fun w hw => ?_, ?_⟩
  · obtain ⟨a, ha, rfl⟩ := List.mem_map.mp hw
    exact (h a ha).1
  · have : ((xs.map T).map (·.length)).sum ≤ 200 * xs.length := by
      clear hn
      induction xs with
      | nil => simp
      | cons x xs ih =>
        have := ih fun a ha => h a (List.mem_cons_of_mem _ ha)
        have := (h x List.mem_cons_self).2
        simp at this ⊢
        simp at *
        omega
    rw [List.length_map]
    omega
theorem listL_len {ws : List (List Nat)} (h : WsOk ws) : (listL ws).length ≤ 8388600 := by
  unfold listL
  split
  · simp [noneL]
  · have := join_len ws
    have := h.2
    omega
theorem sgn_asc (w : Int) : Asc [sgn w] := fun c hc => by rcases sgn_or w with e | e <;> (simp at hc; omega)
theorem step_fit {d : Int × Int × Int} (h : Deed3 d) : Asc (stepL d) ∧ (stepL d).length ≤ 200 := by
  have := nmL_len h.1
  have := nmL_len h.2.2
  exact ⟨((nmL_asc _).app (sgn_asc _)).app (nmL_asc _), by simp [stepL]; omega⟩
theorem psh_fit {d : Int × Int} (h : Psh2 d) : Asc (pshT d) ∧ (pshT d).length ≤ 200 := by
  have := nmL_len h.1
  exact ⟨(nmL_asc _).app (sgn_asc _), by simp [pshT]; omega⟩
theorem seen_fit {d : Int × Int × Int} (h : Seen3 d) : Asc (seenT d) ∧ (seenT d).length ≤ 200 := by
  have := nmL_len h.1
  have := shT_len d.2.2
  exact ⟨(((nmL_asc _).app (sgn_asc _)).app (fun c hc => by simp at hc; omega)).app (shT_asc _), by simp [seenT, pshT]; omega⟩
theorem show_fit {d : Int × Int} (h : Show2 d) : Asc (showT d) ∧ (showT d).length ≤ 200 := by
  have := shT_len d.2
  exact ⟨((sgn_asc _).app (fun c hc => by simp at hc; omega)).app (shT_asc _), by simp [showT]; omega⟩
theorem well_0 {xs : List (Int × Int × Int)} (h : ∀ x ∈ xs, Deed3 x) (hn : xs.length ≤ 500) : Well s_law_steps_text s_show_row s_read_row (xs.map l3) (listL (xs.map stepL)) := by
  have w := wsok (fun a ha => step_fit (h a ha)) hn
  have wb := words_back step_word xs
  refine ⟨by rw [enc3_S]; exact r_law_steps3 h w, by rw [enc3_S]; exact r_show_row h w, ?_, by simp; omega, fun z hz => by obtain ⟨a, _, rfl⟩ := List.mem_map.mp hz; simp [l3]⟩
  rw [enc3_S]
  exact r_read_row (listL_len w) (by rw [wb]; exact map_back fun a ha => deed_back (h a ha)) (by rw [wb]; intro v hv; obtain ⟨a, ha, rfl⟩ := List.mem_map.mp hv; have := (step_fit (h a ha)).2; omega) (by omega)
theorem well_1 {xs : List (Int × Int)} (h : ∀ x ∈ xs, Psh2 x) (hn : xs.length ≤ 500) : Well s_law_steps_text s_show_pushes s_read_pushes (xs.map l2) (listL (xs.map pshT)) := by
  have w := wsok (fun a ha => psh_fit (h a ha)) hn
  have wb := words_back psh_word xs
  refine ⟨by rw [enc2_S]; exact r_law_steps2 h w, by rw [enc2_S]; exact r_show_pushes h w, ?_, by simp; omega, fun z hz => by obtain ⟨a, _, rfl⟩ := List.mem_map.mp hz; simp [l2]⟩
  rw [enc2_S]
  exact r_read_pushes (listL_len w) (by rw [wb]; exact map_back fun a ha => psh_back (h a ha)) (by rw [wb]; intro v hv; obtain ⟨a, ha, rfl⟩ := List.mem_map.mp hv; have := (psh_fit (h a ha)).2; omega) (by omega)
theorem well_2 {xs : List (Int × Int × Int)} (h : ∀ x ∈ xs, Seen3 x) (hn : xs.length ≤ 500) : Well s_law_seen_text s_show_shown s_read_shown (xs.map l3) (listL (xs.map seenT)) := by
  have w := wsok (fun a ha => seen_fit (h a ha)) hn
  have wb := words_back seen_word xs
  refine ⟨by rw [enc3_S]; exact r_law_seen h w, by rw [enc3_S]; exact r_show_shown h w, ?_, by simp; omega, fun z hz => by obtain ⟨a, _, rfl⟩ := List.mem_map.mp hz; simp [l3]⟩
  rw [enc3_S, r_read_shown (listL_len w) (by rw [wb]; intro v hv; obtain ⟨a, ha, rfl⟩ := List.mem_map.mp hv; have := seen_fit (h a ha); exact ⟨this.1, by omega⟩) (by rw [wb]; simp; omega), wb, mapR_ok (map_back fun a ha => seen_back (h a ha))]
  rfl
theorem well_3 {xs : List (Int × Int)} (h : ∀ x ∈ xs, Show2 x) (hn : xs.length ≤ 500) : Well s_law_shows_text s_show_shows s_read_shows (xs.map l2) (listL (xs.map showT)) := by
  have w := wsok (fun a ha => show_fit (h a ha)) hn
  have wb := words_back show_word xs
  refine ⟨by rw [enc2_S]; exact r_law_shows h w, by rw [enc2_S]; exact r_show_shows h w, ?_, by simp; omega, fun z hz => by obtain ⟨a, _, rfl⟩ := List.mem_map.mp hz; simp [l2]⟩
  rw [enc2_S, r_read_shows (listL_len w) (by rw [wb]; intro v hv; obtain ⟨a, ha, rfl⟩ := List.mem_map.mp hv; have := show_fit (h a ha); exact ⟨this.1, by omega⟩) (by rw [wb]; simp; omega), wb, mapR_ok (map_back fun a ha => show_back (h a ha))]
  rfl
end CK

namespace CK
open PySem PySem.Spec PyProof.Rows L2 CT
theorem p10_6 : powD (.int 10) (.int 6) = .ok (.int 1000000) := by rw [powD_lit (by decide +kernel)]; rfl
theorem r_number {n : Nat} {xs : List D} (h : Dr n xs) (hn : n ≤ 900000) (a : Nat) :
    ∃ v ys, s_law_number [lentD (some a) xs] = .ok (v, some (lentD (some a) ys)) ∧ (∃ i : Int, v = .int i ∧ N40 i) ∧ Dr (n + 20) ys := by
  unfold s_law_number
  refine defL_run rfl ?_
  have e : (List.map some [lentD (some a) xs] ++ List.replicate (4 - 1) none : Sl) = [some (lentD (some a) xs), none, none, none] := rfl
  rw [e]
  simp (disch := first | omega | (simp; done) | fail) [wpB_seq]
  refine wpX_next h (by omega) fun i ys hi hd => ?_
  simp (disch := first | omega | (simp; done) | fail) [modD_ok]
  refine wpX_next hd (by omega) fun i2 ys2 hi2 hd2 => ?_
  obtain ⟨z, hz1, hz2, ix⟩ : ∃ z : Int, 1 ≤ z ∧ z ≤ 1000000 ∧ ixD (.lst false [.int 3, .int 30, .int 1000, .int 1000000]) (.int (i % 4)) = .ok (.int z) := by
    have : i % 4 = 0 ∨ i % 4 = 1 ∨ i % 4 = 2 ∨ i % 4 = 3 := by omega
    rcases this with e | e | e | e <;> rw [e]
    · exact ⟨3, by omega, by omega, ixD_lst (i := 0) rfl⟩
    · exact ⟨30, by omega, by omega, ixD_lst (i := 1) rfl⟩
    · exact ⟨1000, by omega, by omega, ixD_lst (i := 2) rfl⟩
    · exact ⟨1000000, by omega, by omega, ixD_lst (i := 3) rfl⟩
  simp (disch := first | omega | (simp; done) | fail) [modD_ok, p10_6, ix]
  have m0 : 0 ≤ i2 % z := Int.emod_nonneg _ (by omega)
  have m1 : i2 % z < z := Int.emod_lt_of_pos _ (by omega)
  generalize i2 % z = v0 at *
  refine wpX_next hd2 (by omega) fun i3 ys3 hi3 hd3 => ?_
  simp (disch := first | omega | (simp; done) | fail) [modD_ok, -wp_for_cons, -wp_for_nil]
  refine wp_cut (fun m => ∃ (ys : List D) (z v : Int) (x3 : Option D), m = [some (lentD (some a) ys), some (.int z), some (.int v), x3] ∧ N40 v ∧ Dr (n + 20) ys) ?_ (fun m hm => ?_)
  · by_cases c : i3 % 8 = 5
    · have er : rng1 [.int 6] = .ok (rng 0 6) := rfl
      simp [c, er, -rng1_int, -wp_for_cons, -wp_for_nil]
      obtain ⟨J, hJ⟩ : ∃ J : Nat → Sl → Prop, J = fun j m => ∃ (zs : List D) (t : Int) (x1 x3 : Option D), Dr (n + 3 + j) zs ∧ 0 ≤ t ∧ m = [some (lentD (some a) zs), some (.int (i % 4)), some (.int t), x3] := ⟨_, rfl⟩
      refine wp_rng J ?_ (fun j hj m hm => ?_) (fun m hm => ?_)
      · rw [hJ]; exact ⟨ys3, v0, none, none, hd3.mono, m0, rfl⟩
      · rw [hJ] at hm
        obtain ⟨zs, t, _, x3, hz, t0, rfl⟩ := hm
        have mt : mulD (.int t) (.int 1000000) = .ok (.int (t * 1000000)) := mulD_r (by decide)
        simp (disch := first | omega | (simp; done) | fail) [p10_6, mt]
        refine wpX_next hz (by omega) fun v zs2 hv hz2 => ?_
        simp (disch := first | omega | (simp; done) | fail) [p10_6, modD_ok]
        rw [hJ]
        exact ⟨zs2, _, none, _, hz2.mono, by omega, rfl⟩
      · rw [hJ] at hm
        obtain ⟨zs, t, _, x3, hz, t0, rfl⟩ := hm
        simp (disch := first | omega | (simp; done) | fail) [modD_ok, pow10_40]
        exact ⟨zs, _, _, ⟨rfl, rfl, rfl⟩, ⟨by omega, by omega⟩, hz.mono⟩
    · simp [c]
      exact ⟨ys3, _, _, ⟨rfl, rfl, rfl⟩, ⟨by omega, by omega⟩, hd3.mono⟩
  · obtain ⟨zs, z, v, x3, rfl, hv, hz⟩ := hm
    simp
    exact ⟨zs, rfl, hv, hz⟩
theorem ix_way (i : Int) : ∃ w : Int, (w = 1 ∨ w = -1) ∧ ixD (.lst false [.int 1, .int (-1)]) (.int (i % 2)) = .ok (.int w) := by
  have : i % 2 = 0 ∨ i % 2 = 1 := by omega
  rcases this with e | e <;> rw [e]
  · exact ⟨1, .inl rfl, ixD_lst (i := 0) rfl⟩
  · exact ⟨-1, .inr rfl, ixD_lst (i := 1) rfl⟩
theorem r_ways {n : Nat} {xs : List D} (h : Dr n xs) (hn : n ≤ 800000) (a : Nat) (many : Nat) (h0 : 0 < many) (hm : many ≤ 20) :
    ∃ v ys, s_law_ways [lentD (some a) xs, .int (many : Int)] = .ok (v, some (lentD (some a) ys)) ∧ (∃ ws : List Int, v = .lst false (ws.map .int) ∧ (∀ w ∈ ws, w = 1 ∨ w = -1) ∧ ws.length < many) ∧ Dr (n + 21) ys := by
  have hmi : (0 : Int) < (many : Int) := by omega
  unfold s_law_ways
  refine defL_run rfl ?_
  have e : (List.map some [lentD (some a) xs, .int (many : Int)] ++ List.replicate (3 - 2) none : Sl) = [some (lentD (some a) xs), some (.int (many : Int)), none] := rfl
  rw [e]
  simp (disch := first | omega | (simp; done) | fail) [wpX_xOwn, wpX_aLcX]
  refine wpX_next h (by omega) fun i ys hi hd => ?_
  have b1 := Int.emod_nonneg i (show (many : Int) ≠ 0 by omega)
  have b2 := Int.emod_lt_of_pos i hmi
  obtain ⟨k, hk⟩ : ∃ k : Nat, i % (many : Int) = (k : Int) := Int.eq_ofNat_of_zero_le b1
  have k5 : k < many := by omega
  have er : rng1 [.int (k : Int)] = .ok (rng 0 k) := by rw [rng1_int ⟨by omega, by omega⟩]; simp
  simp (disch := first | omega | (simp; done) | fail) [modD_ok, hk, er, -rng1_int]
  rw [rng_map]
  have hkk : 1 * (List.range k).length ≤ 1 * 20 := Nat.mul_le_mul_left _ (by simp; omega)
  refine lc_calls (i := 0) (v := 2) (c := 1) (enc := D.int) (S := fun _ (w : Int) => w = 1 ∨ w = -1) rfl rfl hd (fun _ => rfl) (fun b hb n' ws hw hn' => ?_) (fun rs ws hl hS hw => ?_)
  · simp (disch := first | omega | (simp; done) | fail)
    refine wpX_next hw (by omega) fun v ws2 hv hw2 => ?_
    obtain ⟨w, hw1, ix⟩ := ix_way v
    simp (disch := first | omega | (simp; done) | fail) [modD_ok, ix]
    exact ⟨hw1, ws2, hw2, rfl⟩
  · have hr : ∀ w ∈ rs, w = 1 ∨ w = -1 := fun w hw => by
      obtain ⟨j, hj⟩ := List.getElem?_of_mem hw
      have hjl := (List.getElem?_eq_some_iff.mp hj).1
      exact hS j w j hj (by rw [List.getElem?_range (by simp at hl; omega)])
    have lr : rs.length < many := by rw [hl]; simp; omega
    have tW := hasTL_ints rs
    simp (disch := first | omega | (simp; done) | fail) [tW, small (show rs.length ≤ 16777216 by omega)]
    exact ⟨ws, rfl, ⟨rs, by simp, hr, lr⟩, hw.mono⟩
theorem by_ways {α : Type} {enc : α → D} {S : α → Prop} {n : Nat} {xs : List D} (h : Dr n xs) (hn : n ≤ 790000) (a : Nat) (many : Nat) (h0 : 0 < many) (hm : many ≤ 20) (ht : ∀ x, hasT (enc x) = false) {g : SemX}
    (hg : ∀ (w : Int) (n' : Nat) zs, (w = 1 ∨ w = -1) → Dr n' zs → n' ≤ 800000 → wpX (g [some (lentD (some a) zs), some (.int (many : Int)), some (.int w)]) fun d m3 => ∃ x ys, d = enc x ∧ S x ∧ Dr (n' + 40) ys ∧ m3 = [some (lentD (some a) ys), some (.int (many : Int)), some (.int w)]) :
    ∃ v ys, defL 2 3 (bRetX (xOwn (aLcX (xSeq true (xCallL 0 s_law_ways (xaCons (xOf (eVar 1)) xaNil))) 2 xtYes g))) [lentD (some a) xs, .int (many : Int)] = .ok (v, some (lentD (some a) ys)) ∧ (∃ rs : List α, v = .lst false (rs.map enc) ∧ (∀ r ∈ rs, S r) ∧ rs.length < many) ∧ Dr (n + 900) ys := by
  refine defL_run rfl ?_
  have e : (List.map some [lentD (some a) xs, .int (many : Int)] ++ List.replicate (3 - 2) none : Sl) = [some (lentD (some a) xs), some (.int (many : Int)), none] := rfl
  rw [e]
  simp (disch := first | omega | (simp; done) | fail) [wpX_xOwn, wpX_aLcX, xSeq, wpX_bind]
  refine wpX_callX (r_ways h (by omega) a many h0 hm) fun d ys ⟨⟨ws, e, hw, lw⟩, hd⟩ => ?_
  subst e
  refine ⟨by simp, ?_⟩
  have tw : hasTL (ws.map D.int) = false := hasTL_ints ws
  simp (disch := first | omega | (simp; done) | fail) [itemsN, items, tw]
  have hkk : 40 * ws.length ≤ 40 * 20 := Nat.mul_le_mul_left _ (by omega)
  refine lc_calls (i := 0) (v := 2) (c := 40) (enc := enc) (S := fun _ x => S x) rfl rfl hd (fun _ => rfl) (fun b hb n' zs hz hn' => ?_) (fun rs zs hl hS hz => ?_)
  · refine wpX_imp (hg b n' zs (hw b hb) hz (by omega)) fun d m3 ⟨x, ys', e1, e2, e3, e4⟩ => ?_
    exact ⟨x, ys', e1, e2, e3, e4⟩
  · have hr : ∀ r ∈ rs, S r := fun r hr => by
      obtain ⟨j, hj⟩ := List.getElem?_of_mem hr
      have hjl := (List.getElem?_eq_some_iff.mp hj).1
      have : j < ws.length := by omega
      exact hS j r _ hj (List.getElem?_eq_getElem this)
    have tr : hasTL (rs.map enc) = false := hasTL_map ht rs
    simp (disch := first | omega | (simp; done) | fail) [tr, small (show rs.length ≤ 16777216 by omega)]
    exact ⟨zs, rfl, ⟨rs, rfl, hr, by omega⟩, hz.mono⟩
def DrL {α : Type} (f : List D → R (D × Option D)) (enc : α → D) (S : α → Prop) (many : Nat) : Prop := ∀ (n : Nat) (xs : List D) (a : Nat), Dr n xs → n ≤ 790000 → ∃ v ys, f [lentD (some a) xs, .int (many : Int)] = .ok (v, some (lentD (some a) ys)) ∧ (∃ rs : List α, v = .lst false (rs.map enc) ∧ (∀ r ∈ rs, S r) ∧ rs.length < many) ∧ Dr (n + 900) ys
theorem r_row_72 {many : Nat} (h0 : 0 < many) (hm : many ≤ 20) : DrL s_law_row_6 enc3 Deed3 many := fun n xs a h hn => by
  unfold s_law_row_6
  refine by_ways h hn a many h0 hm (fun _ => rfl) (fun w n' zs hw hz hn' => ?_)
  simp (disch := first | omega | (simp; done) | fail)
  refine wpX_callX (r_number hz (by omega) a) fun d ys ⟨⟨i, e, hi⟩, hd⟩ => ?_
  subst e
  simp (disch := first | omega | (simp; done) | fail)
  refine wpX_callX (r_number hd (by omega) a) fun d ys2 ⟨⟨j, e, hj⟩, hd2⟩ => ?_
  subst e
  simp
  exact ⟨i, w, j, rfl, ⟨hi, hw, hj⟩, ys2, hd2.mono, rfl⟩
theorem r_pushes_72 {many : Nat} (h0 : 0 < many) (hm : many ≤ 20) : DrL s_law_pushes_3 encI2 Psh2 many := fun n xs a h hn => by
  unfold s_law_pushes_3
  refine by_ways h hn a many h0 hm (fun _ => rfl) (fun w n' zs hw hz hn' => ?_)
  simp (disch := first | omega | (simp; done) | fail)
  refine wpX_callX (r_number hz (by omega) a) fun d ys ⟨⟨i, e, hi⟩, hd⟩ => ?_
  subst e
  simp
  exact ⟨i, w, rfl, ⟨hi, hw⟩, ys, hd.mono, rfl⟩
theorem shn_of (v : Int) (hv : 0 ≤ v) : Shn (v % 3 - 1) := by
  have : v % 3 = 0 ∨ v % 3 = 1 ∨ v % 3 = 2 := by omega
  rcases this with e | e | e <;> rw [e]
  · exact .inr (.inl rfl)
  · exact .inr (.inr rfl)
  · exact .inl rfl
theorem r_seen_72 {many : Nat} (h0 : 0 < many) (hm : many ≤ 20) : DrL s_law_seen enc3 Seen3 many := fun n xs a h hn => by
  unfold s_law_seen
  refine by_ways h hn a many h0 hm (fun _ => rfl) (fun w n' zs hw hz hn' => ?_)
  simp (disch := first | omega | (simp; done) | fail)
  refine wpX_callX (r_number hz (by omega) a) fun d ys ⟨⟨i, e, hi⟩, hd⟩ => ?_
  subst e
  simp (disch := first | omega | (simp; done) | fail)
  refine wpX_next hd (by omega) fun v ys2 hv hd2 => ?_
  simp (disch := first | omega | (simp; done) | fail) [modD_ok]
  exact ⟨i, w, v % 3 - 1, rfl, ⟨hi, hw, shn_of v hv⟩, ys2, hd2.mono, rfl⟩
theorem r_shows_72 {many : Nat} (h0 : 0 < many) (hm : many ≤ 20) : DrL s_law_shows_4 encI2 Show2 many := fun n xs a h hn => by
  unfold s_law_shows_4
  refine by_ways h hn a many h0 hm (fun _ => rfl) (fun w n' zs hw hz hn' => ?_)
  simp (disch := first | omega | (simp; done) | fail)
  refine wpX_next hz (by omega) fun v ys2 hv hd2 => ?_
  simp (disch := first | omega | (simp; done) | fail) [modD_ok]
  exact ⟨w, v % 3 - 1, rfl, ⟨hw, shn_of v hv⟩, ys2, hd2.mono, rfl⟩
end CK

namespace CK
open PySem PySem.Spec PyProof.Rows L2 CT
structure Quad where
  a : List (Int × Int × Int)
  b : List (Int × Int)
  c : List (Int × Int × Int)
  e : List (Int × Int)
structure QOk (q : Quad) : Prop where
  a : ∀ x ∈ q.a, Deed3 x
  b : ∀ x ∈ q.b, Psh2 x
  c : ∀ x ∈ q.c, Seen3 x
  e : ∀ x ∈ q.e, Show2 x
  la : q.a.length ≤ 500
  lb : q.b.length ≤ 500
  lc : q.c.length ≤ 500
  le : q.e.length ≤ 500
def lA (xs : List (Int × Int × Int)) : D := .lst false (xs.map enc3)
def lB (xs : List (Int × Int)) : D := .lst false (xs.map encI2)
theorem tA (xs) : hasT (lA xs) = false := by unfold lA; rw [hasT_lst, hasTL_map (fun _ => rfl)]; rfl
theorem tB (xs) : hasT (lB xs) = false := by unfold lB; rw [hasT_lst, hasTL_map (fun _ => rfl)]; rfl
def quadL (q : Quad) : List D := [lA q.a, lB q.b, lA q.c, lB q.e]
theorem quad_noT (q : Quad) : hasTL (quadL q) = false := by simp [quadL, tA, tB]
theorem well_at {q : Quad} (h : QOk q) {k : Nat} (hk : k < 4) : ∃ d, ixD (.lst false (quadL q)) (.int k) = .ok d ∧ hasT d = false ∧ still d = d ∧ s_law_well_2 [.int k, d] = .ok (.bl true) := by
  have : k = 0 ∨ k = 1 ∨ k = 2 ∨ k = 3 := by omega
  rcases this with rfl | rfl | rfl | rfl
  · refine ⟨lA q.a, ixD_lst (i := 0) rfl, tA _, still_of _ (tA _), ?_⟩
    have := r_well_0 (well_0 h.a h.la)
    rw [enc3_S] at this
    exact this
  · refine ⟨lB q.b, ixD_lst (i := 1) rfl, tB _, still_of _ (tB _), ?_⟩
    have := r_well_1 (well_1 h.b h.lb)
    rw [enc2_S] at this
    exact this
  · refine ⟨lA q.c, ixD_lst (i := 2) rfl, tA _, still_of _ (tA _), ?_⟩
    have := r_well_2 (well_2 h.c h.lc)
    rw [enc3_S] at this
    exact this
  · refine ⟨lB q.e, ixD_lst (i := 3) rfl, tB _, still_of _ (tB _), ?_⟩
    have := r_well_3 (well_3 h.e h.le)
    rw [enc2_S] at this
    exact this
def many {α : Type} (n m : Nat) (xs : List α) : List α := ((List.replicate n xs).flatten).take m
theorem many_mem {α : Type} {n m : Nat} {xs : List α} {x : α} (h : x ∈ many n m xs) : x ∈ xs := by
  obtain ⟨l, hl, hx⟩ := List.mem_flatten.mp (List.mem_of_mem_take h)
  rw [(List.mem_replicate.mp hl).2] at hx
  exact hx
theorem many_len {α : Type} (n m : Nat) (xs : List α) : (many n m xs).length ≤ m := by simp [many]; omega
def zRep {α : Type} (enc : α → D) (n : Nat) (xs : List α) : D := .lst false ((List.replicate n xs).flatten.map enc)
theorem zRep_1 {α : Type} (enc : α → D) {n : Nat} {xs : List α} (hx : xs.length ≤ 1000) (hn : n ≤ 1000) : repD (.lst false (xs.map enc)) (.int n) = .ok (zRep enc n xs) := by
  have h1 : (xs.map enc).length * ((n : Int)).toNat ≤ sizeLine := by
    refine small ?_
    have : xs.length * n ≤ 1000 * 1000 := Nat.mul_le_mul hx hn
    simp; omega
  unfold repD zRep
  simp only
  rw [if_pos ⟨by omega, by omega, h1⟩, Int.toNat_natCast, List.map_flatten, List.map_replicate]
theorem zRep_2 {α : Type} {enc : α → D} (ht : ∀ x, hasT (enc x) = false) (n : Nat) (xs : List α) : hasT (zRep enc n xs) = false := by unfold zRep; rw [hasT_lst, hasTL_map ht]; rfl
theorem zRep_3 {α : Type} (enc : α → D) (n m : Nat) (xs : List α) : cutD (zRep enc n xs) none (some (m : Int)) = .ok (.lst false ((many n m xs).map enc)) := by
  unfold zRep
  show R.ok (D.lst false (cutA _ none (some (m : Int)))) = _
  rw [cut_head, ← List.map_take]; rfl
theorem wp_newLR {i : Nat} {h : SemA} {g : SemS} {m : Sl} {Q : Po} {ds : List D} (e : h m = .ok ds) (t : hasTL ds = false) (k : ∀ a : Nat, wp (g (m.set i (some (lentD (some a) ds)))) ⟨fun _ => False, fun _ => False, fun _ => False, fun d => d = .bl true, fun _ => False⟩)
    (q : Q.rt (.bl true)) : wp (sNewLR i h g m) Q := by
  rw [sNewLR_ok (x := true) e t fun a => ?_]
  · exact q
  · have := k a
    cases hg : g (m.set i (some (lentD (some a) ds))) <;> rw [hg] at this <;> first | exact this.elim | skip
    rw [show _ = D.bl true from this]
theorem mkLstF_2 (a b : D) : mkLstF [a, b] = .ok (.lst false [a, b]) := by
  unfold mkLstF
  rw [if_pos (small (by simp))]
theorem mkLstF_4 (a b c d : D) : mkLstF [a, b, c, d] = .ok (.lst false [a, b, c, d]) := by
  unfold mkLstF
  rw [if_pos (small (by simp))]
theorem cells_72 (ns : List Int) : ∃ L : List Int, addD (.lst false (cutA (ns.map D.int) none (some 6))) (.lst false [.int 0]) = .ok (.lst false (L.map .int)) := by
  refine ⟨ns.take 6 ++ [0], ?_⟩
  have e1 : cutA (ns.map D.int) none (some 6) = (ns.take 6).map D.int := by
    have := cut_head (ns.map D.int) 6
    rw [List.map_take]
    exact this
  rw [e1, addD_lst (by simp; omega)]
  simp
theorem first_72 (ns : List Int) (h : ns.length ≤ 63) : ∃ (L : List D) (c : Int), addF (.fr (ns.map D.int)) (.lst false [.int 0]) = .ok (.lst false L) ∧ ixD (.lst false L) (.int 0) = .ok (.int c) := by
  refine ⟨ns.map D.int ++ [.int 0], (ns ++ [0]).head (by simp), ?_, ?_⟩
  · unfold addF
    simp only
    rw [if_pos (small (by simp; omega))]
  · cases ns with
    | nil => exact ixD_lst (i := 0) rfl
    | cons n r => exact ixD_lst (i := 0) rfl
theorem wpX_drl {α : Type} {f : List D → R (D × Option D)} {enc : α → D} {S : α → Prop} {mn : Nat} (hf : DrL f enc S mn) {i : Nat} {m : Sl} {a k : Nat} {xs : List D} (hm : m[i]? = some (some (lentD (some a) xs))) (h : Dr k xs) (hk : k ≤ 790000) (ht : ∀ x, hasT (enc x) = false) {P : D → Sl → Prop}
    (kk : ∀ (rs : List α) ys, (∀ r ∈ rs, S r) → rs.length < mn → Dr (k + 900) ys → P (.lst false (rs.map enc)) (m.set i (some (lentD (some a) ys)))) : wpX (xCallL i f (xaCons (xOf (eC (.int (mn : Int)))) xaNil) m) P := by
  rw [xCallL_eq, hm]
  simp
  refine wpX_callAt hm (hf k xs a h hk) fun d ys ⟨⟨rs, e, h1, h2⟩, hd⟩ => ?_
  subst e
  exact ⟨by rw [hasT_lst, hasTL_map ht]; rfl, kk rs ys h1 h2 hd⟩
theorem okX_ok {z : D} {m : Sl} (h : hasT z = false) : okX (.ok z) m = .ok (z, m) := by
  show (if hasT z = true then R.stuck else R.ok (z, m)) = _
  rw [h]; rfl
theorem wpX_cutdr {α : Type} {f : List D → R (D × Option D)} {enc : α → D} {S : α → Prop} {mn : Nat} (hmn : mn ≤ 20) (hf : DrL f enc S mn) {i n c : Nat} (hn : n ≤ 1000) {m : Sl} {a k : Nat} {xs : List D} (hm : m[i]? = some (some (lentD (some a) xs))) (h : Dr k xs) (hk : k ≤ 790000) (ht : ∀ x, hasT (enc x) = false) {P : D → Sl → Prop}
    (kk : ∀ (rs : List α) ys, (∀ r ∈ rs, S r) → rs.length ≤ c → Dr (k + 900) ys → P (.lst false (rs.map enc)) (m.set i (some (lentD (some a) ys)))) : wpX (xCut (x2 repD (xCallL i f (xaCons (xOf (eC (.int (mn : Int)))) xaNil)) (xOf (eC (.int (n : Int))))) xpNo (xpSo (xOf (eC (.int (c : Int))))) m) P := by
  have e : ∀ m : Sl, xCut (x2 repD (xCallL i f (xaCons (xOf (eC (.int (mn : Int)))) xaNil)) (xOf (eC (.int (n : Int))))) xpNo (xpSo (xOf (eC (.int (c : Int))))) m = bindX (xCallL i f (xaCons (xOf (eC (.int (mn : Int)))) xaNil) m) fun x m1 => bindX (okX (repD x (.int n)) m1) fun x m2 => okX (CT.cutD x none (some (c : Int))) m2 := fun m => by
    unfold xCut x2
    cases xCallL i f (xaCons (xOf (eC (.int (mn : Int)))) xaNil) m <;> rfl
  rw [e, wpX_bind]
  refine wpX_drl hf hm h hk ht fun rs ys h1 h2 hd => ?_
  have rl : rs.length ≤ 1000 := Nat.le_trans (Nat.le_of_lt h2) (Nat.le_trans hmn (by decide))
  have tm : hasT (.lst false ((many n c rs).map enc)) = false := by rw [hasT_lst, hasTL_map ht]; rfl
  rw [zRep_1 enc rl hn, okX_ok (zRep_2 ht n rs)]
  show wpX (okX (CT.cutD (zRep enc n rs) none (some (c : Int))) (m.set i (some (lentD (some a) ys)))) P
  rw [zRep_3, okX_ok tm]
  exact kk _ ys (fun r hr => h1 r (many_mem hr)) (many_len _ _ _) hd
theorem back_0 {xs : List (Int × Int × Int)} (h : ∀ x ∈ xs, Deed3 x) (hn : xs.length ≤ 500) : s_law_steps_text [lA xs] = .ok (tx (listL (xs.map stepL))) ∧ s_read_row [tx (listL (xs.map stepL))] = .ok (.lst true (xs.map enc3)) := by
  have w := well_0 h hn
  obtain ⟨w1, _, w2, _, _⟩ := w
  rw [enc3_S] at w1 w2
  exact ⟨w1, w2⟩
theorem back_1 {xs : List (Int × Int)} (h : ∀ x ∈ xs, Psh2 x) (hn : xs.length ≤ 500) : s_law_steps_text [lB xs] = .ok (tx (listL (xs.map pshT))) ∧ s_read_pushes [tx (listL (xs.map pshT))] = .ok (.lst true (xs.map encI2)) := by
  have w := well_1 h hn
  obtain ⟨w1, _, w2, _, _⟩ := w
  rw [enc2_S] at w1 w2
  exact ⟨w1, w2⟩
theorem back_2 {xs : List (Int × Int × Int)} (h : ∀ x ∈ xs, Seen3 x) (hn : xs.length ≤ 500) : s_law_seen_text [lA xs] = .ok (tx (listL (xs.map seenT))) ∧ s_read_shown [tx (listL (xs.map seenT))] = .ok (.lst true (xs.map enc3)) := by
  have w := well_2 h hn
  obtain ⟨w1, _, w2, _, _⟩ := w
  rw [enc3_S] at w1 w2
  exact ⟨w1, w2⟩
theorem back_3 {xs : List (Int × Int)} (h : ∀ x ∈ xs, Show2 x) (hn : xs.length ≤ 500) : s_law_shows_text [lB xs] = .ok (tx (listL (xs.map showT))) ∧ s_read_shows [tx (listL (xs.map showT))] = .ok (.lst true (xs.map encI2)) := by
  have w := well_3 h hn
  obtain ⟨w1, _, w2, _, _⟩ := w
  rw [enc2_S] at w1 w2
  exact ⟨w1, w2⟩
theorem sh_quad (q : Quad) : Sh 64 (.lst false (quadL q)) := by
  have a : ∀ xs, Sh 62 (lA xs) := fun xs => by
    refine sh_lst (n := 61) fun x hx => ?_
    obtain ⟨d, _, rfl⟩ := List.mem_map.mp hx
    exact sh_tup (n := 60) (by simp [sh_int])
  have b : ∀ xs, Sh 62 (lB xs) := fun xs => by
    refine sh_lst (n := 61) fun x hx => ?_
    obtain ⟨d, _, rfl⟩ := List.mem_map.mp hx
    exact sh_tup (n := 60) (by simp [sh_int])
  exact (sh_lst (n := 62) (by simp [quadL, a, b])).mono (by decide)
theorem law_true (ns : List Int) (h : ns.length ≤ 63) : s_law_42 [.fr (ns.map .int)] = .ok (.bl true) := by
  obtain ⟨L, hL⟩ := cells_72 ns
  obtain ⟨L0, c0, hc0, hc1⟩ := first_72 ns h
  have d1 := r_row_72 (many := 12) (by decide) (by decide)
  have d2 := r_pushes_72 (many := 12) (by decide) (by decide)
  have d3 := r_seen_72 (many := 12) (by decide) (by decide)
  have d4 := r_shows_72 (many := 20) (by decide) (by decide)
  have WA := @well_at
  unfold s_law_42
  generalize s_law_well_2 = WL at WA ⊢
  refine def_ok1 rfl ?_
  obtain ⟨xs, ed, hx, tx⟩ := r_draws c0
  refine wp_newLR (ds := xs) ?_ tx (fun a => ?_) rfl
  · simp [hc0, hc1, ed, callO]
  rw [show ∀ (p q : SemS) (m : Sl), sSeq p q m = sThen (p m) q from fun _ _ _ => rfl, wp_then]
  simp (disch := first | omega | (simp; done) | fail) [-wp_for_cons, -wp_for_nil]
  refine wpX_cutdr (mn := 12) (n := 16) (c := 16) (by decide) d1 (by decide) rfl hx (by decide) (fun _ => rfl) fun A ys1 hA nA hy1 => ?_
  refine wpX_cutdr (mn := 12) (n := 500) (c := 500) (by decide) d2 (by decide) rfl hy1 (by decide) (fun _ => rfl) fun B ys2 hB nB hy2 => ?_
  rw [mkLstF_2, wpR_ok]
  refine ⟨by simp [hasTL_map (f := enc3) (fun _ => rfl), hasTL_map (f := encI2) (fun _ => rfl)], ?_⟩
  simp (disch := first | omega | (simp; done) | fail) [-wp_for_cons, -wp_for_nil]
  refine ⟨⟨hasTL_map (fun _ => rfl) _, hasTL_map (fun _ => rfl) _⟩, ?_⟩
  refine wpX_cutdr (mn := 12) (n := 300) (c := 300) (by decide) d3 (by decide) rfl hy2 (by decide) (fun _ => rfl) fun C ys3 hC nC hy3 => ?_
  refine wpX_cutdr (mn := 20) (n := 300) (c := 300) (by decide) d4 (by decide) rfl hy3 (by decide) (fun _ => rfl) fun E ys4 hE nE hy4 => ?_
  rw [mkLstF_2, wpR_ok]
  refine ⟨by simp [hasTL_map (f := enc3) (fun _ => rfl), hasTL_map (f := encI2) (fun _ => rfl)], ?_⟩
  obtain ⟨q, hq⟩ : ∃ q : Quad, q = ⟨A, B, C, E⟩ := ⟨_, rfl⟩
  have qo : QOk q := by subst hq; exact ⟨hA, hB, hC, hE, by simp; omega, by simp; omega, by simp; omega, by simp; omega⟩
  have ad : addD (.lst false [.lst false (A.map enc3), .lst false (B.map encI2)]) (.lst false [.lst false (C.map enc3), .lst false (E.map encI2)]) = .ok (.lst false (quadL q)) := by
    rw [addD_lst (by simp), hq]; rfl
  have tq : hasTL (quadL q) = false := quad_noT q
  rw [ad, wpR_ok]
  refine ⟨by rw [hasT_lst, tq]; rfl, ?_⟩
  obtain ⟨J, hJ⟩ : ∃ J : Nat → Sl → Prop, J = fun j m => ∃ x3, m = [some (.fr (ns.map D.int)), some (lentD (some a) ys4), some (.lst false (quadL q)), x3, none, none, none, none, none] := ⟨_, rfl⟩
  refine wp_rng J ?_ (fun j hj m hm => ?_) (fun m hm => ?_)
  · rw [hJ]; exact ⟨none, rfl⟩
  · rw [hJ] at hm
    obtain ⟨x3, rfl⟩ := hm
    obtain ⟨d, w1, w2, w3, w4⟩ := WA qo (k := j) (by omega)
    simp [w1, w2, w3, w4]
    rw [hJ]
    exact ⟨_, rfl⟩
  · rw [hJ] at hm
    obtain ⟨x3, rfl⟩ := hm
    simp [hL, -wp_for_cons, -wp_for_nil, hasTL_ints]
    obtain ⟨I, hI⟩ : ∃ I : Sl → Prop, I = fun m => m.length = 9 := ⟨_, rfl⟩
    refine wp_each I (by rw [hI]; rfl) (fun c hc m hm => ?_) (fun m hm => ?_)
    · rw [hI] at hm
      match m, hm with
      | [x0, x1, x2, x3, x4, x5, x6, x7, x8], _ =>
      obtain ⟨zs, ed, hz, tz⟩ := r_draws c
      simp
      refine wp_newL (ds := zs) (by simp [callO, ed]) tz (fun a => ?_) (by rw [hI]; rfl)
      simp [-wp_for_cons, -wp_for_nil]
      obtain ⟨K, hK⟩ : ∃ K : Nat → Sl → Prop, K = fun j m => ∃ (ys : List D) (qs : List Quad) (y6 : Option D), m = [x0, some (lentD (some a) ys), x2, x3, some (.int c), some (.lst true (qs.map fun q => D.lst false (quadL q))), y6, x7, x8] ∧ (∀ q ∈ qs, QOk q) ∧ qs.length = j ∧ Dr (3600 * j) ys := ⟨_, rfl⟩
      refine wp_rng K ?_ (fun j hj m hm => ?_) (fun m hm => ?_)
      · rw [hK]; exact ⟨zs, [], x6, rfl, by simp, rfl, hz⟩
      · rw [hK] at hm
        obtain ⟨ys, qs, y6, rfl, h1, h2, hy⟩ := hm
        simp (disch := first | omega | (simp; done) | fail)
        refine wpX_drl (mn := 12) d1 rfl hy (by omega) (fun _ => rfl) fun A' ys1 hA' nA' hy1 => ?_
        refine wpX_drl (mn := 12) d2 rfl hy1 (by omega) (fun _ => rfl) fun B' ys2 hB' nB' hy2 => ?_
        refine wpX_drl (mn := 12) d3 rfl hy2 (by omega) (fun _ => rfl) fun C' ys3 hC' nC' hy3 => ?_
        refine wpX_drl (mn := 20) d4 rfl hy3 (by omega) (fun _ => rfl) fun E' ys4 hE' nE' hy4 => ?_
        rw [mkLstF_4, wpR_ok]
        refine ⟨by simp [hasTL_map (f := enc3) (fun _ => rfl), hasTL_map (f := encI2) (fun _ => rfl)], ?_⟩
        have sl : qs.length < sizeLine := by rw [sizeBig]; omega
        simp [sl]
        rw [hK]
        refine ⟨ys4, qs ++ [⟨A', B', C', E'⟩], _, by simp; exact ⟨rfl, rfl⟩, fun q hq => ?_, by simp; omega, hy4.mono⟩
        rcases List.mem_append.mp hq with hq | hq
        · exact h1 q hq
        · rw [List.mem_singleton.mp hq]
          exact ⟨hA', hB', hC', hE', by simp; omega, by simp; omega, by simp; omega, by simp; omega⟩
      · rw [hK] at hm
        obtain ⟨ys, qs, y6, rfl, h1, h2, hy⟩ := hm
        match qs, h2 with
        | [q0, q1], _ =>
        have o0 := h1 q0 (by simp)
        have o1 := h1 q1 (by simp)
        obtain ⟨f1, g1⟩ := back_0 o0.a o0.la
        obtain ⟨f2, g2⟩ := back_1 o0.b o0.lb
        obtain ⟨f3, g3⟩ := back_2 o0.c o0.lc
        obtain ⟨f4, g4⟩ := back_3 o0.e o0.le
        have i0 : ixD (.lst true [.lst false (quadL q0), .lst false (quadL q1)]) (.int 0) = .ok (.lst false (quadL q0)) := ixD_lst (i := 0) rfl
        have i1 : ixD (.lst true [.lst false (quadL q0), .lst false (quadL q1)]) (.int 1) = .ok (.lst false (quadL q1)) := ixD_lst (i := 1) rfl
        have j0 : ixD (.lst false (quadL q0)) (.int 0) = .ok (lA q0.a) := ixD_lst (i := 0) rfl
        have j1 : ixD (.lst false (quadL q0)) (.int 1) = .ok (lB q0.b) := ixD_lst (i := 1) rfl
        have j2 : ixD (.lst false (quadL q0)) (.int 2) = .ok (lA q0.c) := ixD_lst (i := 2) rfl
        have j3 : ixD (.lst false (quadL q0)) (.int 3) = .ok (lB q0.e) := ixD_lst (i := 3) rfl
        have sA : ∀ xs, still (lA xs) = lA xs := fun xs => still_of _ (tA xs)
        have sB : ∀ xs, still (lB xs) = lB xs := fun xs => still_of _ (tB xs)
        have q0t := quad_noT q0
        have q1t := quad_noT q1
        have eA : ∀ xs : List (Int × Int × Int), D.lst false (stillL (xs.map enc3)) = lA xs := fun xs => by rw [stillL_of _ (hasTL_map (fun _ => rfl) _)]; rfl
        have eB : ∀ xs : List (Int × Int), D.lst false (stillL (xs.map encI2)) = lB xs := fun xs => by rw [stillL_of _ (hasTL_map (fun _ => rfl) _)]; rfl
        have ad2 : addD (.lst false [lA q0.a, lB q0.b]) (.lst false [lA q0.c, lB q0.e]) = .ok (.lst false (quadL q0)) := by rw [addD_lst (by simp)]; rfl
        have ne0 : neD (.lst false (quadL q0)) (.lst false (quadL q0)) = .ok (.bl false) := neD_self (sh_quad q0)
        simp [i0, i1, j0, j1, j2, j3, sA, sB, tA, tB, f1, g1, f2, g2, f3, g3, f4, g4, eA, eB, ad2, q0t, q1t, -wp_for_cons, -wp_for_nil]
        have fz : ∀ (g : SemS), sFreeze 5 g [x0, some (lentD (some a) ys), x2, x3, some (.int c), some (.lst true [.lst false (quadL q0), .lst false (quadL q1)]), y6, some (.lst false (quadL q0)), x8] = g [x0, some (lentD (some a) ys), x2, x3, some (.int c), some (.lst false [.lst false (quadL q0), .lst false (quadL q1)]), y6, some (.lst false (quadL q0)), x8] := fun g => by
          unfold sFreeze
          simp [mine, q0t, q1t]
        rw [fz]
        have i0' : ixD (.lst false [.lst false (quadL q0), .lst false (quadL q1)]) (.int 0) = .ok (.lst false (quadL q0)) := ixD_lst (i := 0) rfl
        have i1' : ixD (.lst false [.lst false (quadL q0), .lst false (quadL q1)]) (.int 1) = .ok (.lst false (quadL q1)) := ixD_lst (i := 1) rfl
        simp [i0', i1', q0t, q1t, itemsN, items, -wp_for_cons, -wp_for_nil]
        obtain ⟨M, hM⟩ : ∃ M : Sl → Prop, M = fun m => ∃ x3 x8, m = [x0, some (lentD (some a) ys), x2, x3, some (.int c), some (.lst false [.lst false (quadL q0), .lst false (quadL q1)]), y6, some (.lst false (quadL q0)), x8] := ⟨_, rfl⟩
        rw [show ([D.lst false (quadL q1), D.lst false (quadL q0)] : List D) = [q1, q0].map (fun q => D.lst false (quadL q)) from rfl]
        refine wp_each M (by rw [hM]; exact ⟨_, _, rfl⟩) (fun q hq m hm => ?_) (fun m hm => ?_)
        · rw [hM] at hm
          obtain ⟨v3, v8, rfl⟩ := hm
          have oq : QOk q := h1 q (by simp at hq ⊢; exact hq.symm)
          have qt := quad_noT q
          simp [qt, -wp_for_cons, -wp_for_nil]
          obtain ⟨M2, hM2⟩ : ∃ M2 : Nat → Sl → Prop, M2 = fun _ m => ∃ x3, m = [x0, some (lentD (some a) ys), x2, x3, some (.int c), some (.lst false [.lst false (quadL q0), .lst false (quadL q1)]), y6, some (.lst false (quadL q0)), some (.lst false (quadL q))] := ⟨_, rfl⟩
          refine wp_rng M2 ?_ (fun j hj m hm => ?_) (fun m hm => ?_)
          · rw [hM2]; exact ⟨_, rfl⟩
          · rw [hM2] at hm
            obtain ⟨v3, rfl⟩ := hm
            obtain ⟨d, w1, w2, w3, w4⟩ := WA oq (k := j) (by omega)
            simp [w1, w2, w3, w4]
            rw [hM2]
            exact ⟨_, rfl⟩
          · rw [hM2] at hm
            obtain ⟨v3, rfl⟩ := hm
            rw [hM]
            exact ⟨_, _, rfl⟩
        · rw [hM] at hm
          obtain ⟨v3, v8, rfl⟩ := hm
          simp [i0', ne0]
    · rw [hI] at hm
      match m, hm with
      | [x0, x1, x2, x3, x4, x5, x6, x7, x8], _ => simp
end CK

namespace CK
open PySem PySem.Spec PyProof.Rows L2 CT
def topS (i : Nat) : Stmt := PySem.Challenge.pw_clicktrain_k72_rows_and_shows_as_texts.main.body.getD i (.Pass ⟨0, 0, 0, 0⟩)
structure Txt (K : PySem.W.Frag) (mg : Str → Option Value) (xa : Nat → Addr) : Prop where
  f_words_in : ∃ fa fd, Fun K "words_in" "words_in" (topS 11) fa fd ∧ mg "words_in" = some (.ref fa) ∧ Binds K fd ["text"] []
  f_sure : ∃ fa fd, Fun K "sure" "sure" (topS 6) fa fd ∧ mg "sure" = some (.ref fa) ∧ Binds K fd ["good"] []
  f_count_in : ∃ fa fd, Fun K "count_in" "count_in" (topS 7) fa fd ∧ mg "count_in" = some (.ref fa) ∧ Binds K fd ["word"] []
  f_way_in : ∃ fa fd, Fun K "way_in" "way_in" (topS 8) fa fd ∧ mg "way_in" = some (.ref fa) ∧ Binds K fd ["word"] []
  f_push_in : ∃ fa fd, Fun K "push_in" "push_in" (topS 13) fa fd ∧ mg "push_in" = some (.ref fa) ∧ Binds K fd ["word"] []
  f_deed_in : ∃ fa fd, Fun K "deed_in" "deed_in" (topS 14) fa fd ∧ mg "deed_in" = some (.ref fa) ∧ Binds K fd ["word"] []
  f_read_row : ∃ fa fd, Fun K "read_row" "read_row" (topS 16) fa fd ∧ mg "read_row" = some (.ref fa) ∧ Binds K fd ["text"] []
  f_read_pushes : ∃ fa fd, Fun K "read_pushes" "read_pushes" (topS 18) fa fd ∧ mg "read_pushes" = some (.ref fa) ∧ Binds K fd ["text"] []
  f_shown_in : ∃ fa fd, Fun K "shown_in" "shown_in" (topS 19) fa fd ∧ mg "shown_in" = some (.ref fa) ∧ Binds K fd ["word"] []
  f_read_shown : ∃ fa fd, Fun K "read_shown" "read_shown" (topS 21) fa fd ∧ mg "read_shown" = some (.ref fa) ∧ Binds K fd ["text"] []
  f_read_shows : ∃ fa fd, Fun K "read_shows" "read_shows" (topS 23) fa fd ∧ mg "read_shows" = some (.ref fa) ∧ Binds K fd ["text"] []
  f_law_draws : ∃ fa fd, Fun K "_law_draws" "_law_draws" (topS 25) fa fd ∧ mg "_law_draws" = some (.ref fa) ∧ Binds K fd ["_law_cell"] []
  f_law_next : ∃ fa fd, Fun K "_law_next" "_law_next" (topS 26) fa fd ∧ mg "_law_next" = some (.ref fa) ∧ Binds K fd ["_law_draws_here"] []
  f_law_number : ∃ fa fd, Fun K "_law_number" "_law_number" (topS 28) fa fd ∧ mg "_law_number" = some (.ref fa) ∧ Binds K fd ["_law_draws_here"] []
  f_law_ways : ∃ fa fd, Fun K "_law_ways" "_law_ways" (topS 29) fa fd ∧ mg "_law_ways" = some (.ref fa) ∧ Binds K fd ["_law_draws_here", "_law_many"] []
  f_law_row : ∃ fa fd, Fun K "_law_row" "_law_row" (topS 30) fa fd ∧ mg "_law_row" = some (.ref fa) ∧ Binds K fd ["_law_draws_here", "_law_many"] []
  f_law_pushes : ∃ fa fd, Fun K "_law_pushes" "_law_pushes" (topS 31) fa fd ∧ mg "_law_pushes" = some (.ref fa) ∧ Binds K fd ["_law_draws_here", "_law_many"] []
  f_law_seen : ∃ fa fd, Fun K "_law_seen" "_law_seen" (topS 32) fa fd ∧ mg "_law_seen" = some (.ref fa) ∧ Binds K fd ["_law_draws_here", "_law_many"] []
  f_law_shows : ∃ fa fd, Fun K "_law_shows" "_law_shows" (topS 33) fa fd ∧ mg "_law_shows" = some (.ref fa) ∧ Binds K fd ["_law_draws_here", "_law_many"] []
  f_law_list_text : ∃ fa fd, Fun K "_law_list_text" "_law_list_text" (topS 34) fa fd ∧ mg "_law_list_text" = some (.ref fa) ∧ Binds K fd ["_law_words"] []
  f_law_step_text : ∃ fa fd, Fun K "_law_step_text" "_law_step_text" (topS 35) fa fd ∧ mg "_law_step_text" = some (.ref fa) ∧ Binds K fd ["_law_step"] []
  f_law_steps_text : ∃ fa fd, Fun K "_law_steps_text" "_law_steps_text" (topS 36) fa fd ∧ mg "_law_steps_text" = some (.ref fa) ∧ Binds K fd ["_law_steps"] []
  f_law_seen_text : ∃ fa fd, Fun K "_law_seen_text" "_law_seen_text" (topS 37) fa fd ∧ mg "_law_seen_text" = some (.ref fa) ∧ Binds K fd ["_law_seen_here"] []
  f_law_shows_text : ∃ fa fd, Fun K "_law_shows_text" "_law_shows_text" (topS 38) fa fd ∧ mg "_law_shows_text" = some (.ref fa) ∧ Binds K fd ["_law_shows_here"] []
  f_listed : ∃ fa fd, Fun K "listed" "listed" (topS 10) fa fd ∧ mg "listed" = some (.ref fa) ∧ Binds K fd ["words"] []
  f_way_shown : ∃ fa fd, Fun K "way_shown" "way_shown" (topS 9) fa fd ∧ mg "way_shown" = some (.ref fa) ∧ Binds K fd ["way"] []
  f_step_shown : ∃ fa fd, Fun K "step_shown" "step_shown" (topS 12) fa fd ∧ mg "step_shown" = some (.ref fa) ∧ Binds K fd ["step"] []
  f_show_row : ∃ fa fd, Fun K "show_row" "show_row" (topS 15) fa fd ∧ mg "show_row" = some (.ref fa) ∧ Binds K fd ["row"] []
  f_show_pushes : ∃ fa fd, Fun K "show_pushes" "show_pushes" (topS 17) fa fd ∧ mg "show_pushes" = some (.ref fa) ∧ Binds K fd ["pushes"] []
  f_show_shown : ∃ fa fd, Fun K "show_shown" "show_shown" (topS 20) fa fd ∧ mg "show_shown" = some (.ref fa) ∧ Binds K fd ["shown"] []
  f_show_shows : ∃ fa fd, Fun K "show_shows" "show_shows" (topS 22) fa fd ∧ mg "show_shows" = some (.ref fa) ∧ Binds K fd ["shows"] []
  f_law_whole : ∃ fa fd, Fun K "_law_whole" "_law_whole" (topS 27) fa fd ∧ mg "_law_whole" = some (.ref fa) ∧ Binds K fd ["_law_found"] []
  f_law_well : ∃ fa fd, Fun K "_law_well" "_law_well" (topS 39) fa fd ∧ mg "_law_well" = some (.ref fa) ∧ Binds K fd ["_law_way", "_law_some"] []
  b_all : mg "all" = none
  b_bool : mg "bool" = none
  b_int : mg "int" = none
  b_isinstance : mg "isinstance" = none
  b_len : mg "len" = none
  b_list : mg "list" = none
  b_range : mg "range" = none
  b_str : mg "str" = none
  b_tuple : mg "tuple" = none
  n_law_seen_text : FnV K mg "_law_seen_text"
  n_law_shows_text : FnV K mg "_law_shows_text"
  n_law_steps_text : FnV K mg "_law_steps_text"
  n_read_pushes : FnV K mg "read_pushes"
  n_read_row : FnV K mg "read_row"
  n_read_shown : FnV K mg "read_shown"
  n_read_shows : FnV K mg "read_shows"
  n_show_pushes : FnV K mg "show_pushes"
  n_show_row : FnV K mg "show_row"
  n_show_shown : FnV K mg "show_shown"
  n_show_shows : FnV K mg "show_shows"
  c_FIGURES : ∃ u, mg "FIGURES" = some u ∧ RelV (.str "0123456789") u
  c_LONGEST : ∃ u, mg "LONGEST" = some u ∧ RelV (.int 40) u
  x_NoText : ExcOk K mg "NoText"
section
variable {P : Program} {w : World} {K : PySem.W.Frag} {mg : Str → Option Value} {base : Heap} {xa : Nat → Addr}
theorem sc_words_in : FnScope ["text"] ["text"] (defScope (topS 11)) := ⟨rfl, rfl, rfl, by decide +kernel, rfl, by decide +kernel, by decide +kernel⟩
set_option linter.unusedVariables false in
theorem fn_words_in (T : Txt K mg xa) {fa : Addr} {fd : FuncData} (F : Fun K "words_in" "words_in" (topS 11) fa fd) : FnG P w K mg base 1 fa fd ["text"] (CT.spF K (exOf mg) 1 s_words_in) := by
  have nd : (["text"] : List Str).Nodup := sc_words_in.nd
  refine def_fn (k := 0) (N := ["text"]) (ps := ["text"]) F sc_words_in fun cdv A outer s H E F0 hr hgd => ?_
  have hu64 : (A.deeper (envOfC "words_in" (defScope (topS 11)) s.heap.objs.size fa cdv)).units + 64 < cLine := hr.units
  have hu65 : (A.deeper (envOfC "words_in" (defScope (topS 11)) s.heap.objs.size fa cdv)).units + 65 < cLine := by have := hr.un; omega
  have pz := L2.passes_of (X := cxOf (L2.CX P w) P w K mg base ["text"] "words_in" (defScope (topS 11)) fa cdv A outer s H E) rfl
  have tk : Takes (cxOf (L2.CX P w) P w K mg base ["text"] "words_in" (defScope (topS 11)) fa cdv A outer s H E) (fun c d _ H' => E c d H') := takes_of rfl rfl rfl rfl
  exact (sss_cons (ss_if (st_cmp (o_eq hu64) (se_var (pv 0)) se_str (nomark _)) (sss_one (ss_ret (se_own (so_lst sa_nil)))) sss_nil)
      (sss_one (ss_ret (se_own (so_split (se_var (pv 0)) se_str)))))
theorem ok_words_in (T : Txt K mg xa) : Callee P w K mg base (exOf mg) "words_in" 1 s_words_in 1 := by
  obtain ⟨fa, fd, F, hm, hb⟩ := T.f_words_in
  exact ⟨fa, fd, _, fn_words_in T F, hm, F.kp, hb⟩
theorem sc_sure : FnScope ["good"] ["good"] (defScope (topS 6)) := ⟨rfl, rfl, rfl, by decide +kernel, rfl, by decide +kernel, by decide +kernel⟩
set_option linter.unusedVariables false in
theorem fn_sure (T : Txt K mg xa) {fa : Addr} {fd : FuncData} (F : Fun K "sure" "sure" (topS 6) fa fd) : FnG P w K mg base 1 fa fd ["good"] (CT.spF K (exOf mg) 1 s_sure) := by
  have nd : (["good"] : List Str).Nodup := sc_sure.nd
  refine def_fn (k := 0) (N := ["good"]) (ps := ["good"]) F sc_sure fun cdv A outer s H E F0 hr hgd => ?_
  have hu64 : (A.deeper (envOfC "sure" (defScope (topS 6)) s.heap.objs.size fa cdv)).units + 64 < cLine := hr.units
  have hu65 : (A.deeper (envOfC "sure" (defScope (topS 6)) s.heap.objs.size fa cdv)).units + 65 < cLine := by have := hr.un; omega
  have pz := L2.passes_of (X := cxOf (L2.CX P w) P w K mg base ["good"] "sure" (defScope (topS 6)) fa cdv A outer s H E) rfl
  have tk : Takes (cxOf (L2.CX P w) P w K mg base ["good"] "sure" (defScope (topS 6)) fa cdv A outer s H E) (fun c d _ H' => E c d H') := takes_of rfl rfl rfl rfl
  exact (sss_one (ss_if (st_not (st_of (se_var (pv 0)))) (sss_one (ss_raise rfl tk T.x_NoText rfl)) sss_nil))
theorem ok_sure (T : Txt K mg xa) : Callee P w K mg base (exOf mg) "sure" 1 s_sure 1 := by
  obtain ⟨fa, fd, F, hm, hb⟩ := T.f_sure
  exact ⟨fa, fd, _, fn_sure T F, hm, F.kp, hb⟩
theorem sc_count_in : FnScope ["word", "sign"] ["word"] (defScope (topS 7)) := ⟨rfl, rfl, rfl, by decide +kernel, rfl, by decide +kernel, by decide +kernel⟩
set_option linter.unusedVariables false in
theorem fn_count_in (T : Txt K mg xa) {fa : Addr} {fd : FuncData} (F : Fun K "count_in" "count_in" (topS 7) fa fd) : FnG P w K mg base 2 fa fd ["word"] (CT.spF K (exOf mg) 1 s_count_in) := by
  have nd : (["word", "sign"] : List Str).Nodup := sc_count_in.nd
  refine def_fn (k := 1) (N := ["word", "sign"]) (ps := ["word"]) F sc_count_in fun cdv A outer s H E F0 hr hgd => ?_
  have hu64 : (A.deeper (envOfC "count_in" (defScope (topS 7)) s.heap.objs.size fa cdv)).units + 64 < cLine := hr.units
  have hu65 : (A.deeper (envOfC "count_in" (defScope (topS 7)) s.heap.objs.size fa cdv)).units + 65 < cLine := by have := hr.un; omega
  have pz := L2.passes_of (X := cxOf (L2.CX P w) P w K mg base ["word", "sign"] "count_in" (defScope (topS 7)) fa cdv A outer s H E) rfl
  have tk : Takes (cxOf (L2.CX P w) P w K mg base ["word", "sign"] "count_in" (defScope (topS 7)) fa cdv A outer s H E) (fun c d _ H' => E c d H') := takes_of rfl rfl rfl rfl
  exact (sss_cons (ss_exp (se_call (ok_sure T) tk (hr.mono (by decide)) hgd rfl (sa_cons (se_and (se_chain o_le o_le se_int (se_callB c_len rfl T.b_len PySem.boot_len (sa_cons (se_var (pv 0)) sa_nil)) (se_glob rfl T.c_LONGEST (d := .int 40) (fun _ _ _ _ => .int _))) (se_one (se_callB (c_all rfl) rfl T.b_all PyProof.Rows.boot_all (sa_cons (se_own (so_lc rfl nd (si_seq (se_var (pv 0))) (blkOk_by (own := [("sign", 1)]) (N := ["word", "sign"]) (sc := defScope (topS 7)) (by decide +kernel)) (ng_name (i := 1) (by simp)) (fun _ _ _ _ _ => (pg_name (i := 1) nd rfl (Or.inl rfl))) (fun _ _ _ _ _ => sts_nil) (fun _ _ _ _ _ => (se_cmp (o_in hu65) (se_var (pv 1)) (se_glob rfl T.c_FIGURES (d := .str "0123456789") (fun _ _ _ _ => .str _)) (by rfl))))) sa_nil)))) sa_nil) rfl (aCons_len aNil_len)))
      (sss_cons (ss_exp (se_call (ok_sure T) tk (hr.mono (by decide)) hgd rfl (sa_cons (se_or (se_cmp (o_ne hu64) (se_ix (se_var (pv 0)) se_int) se_str (nomark _)) (se_one (se_cmp (o_eq hu64) (se_var (pv 0)) se_str (nomark _)))) sa_nil) rfl (aCons_len aNil_len)))
      (sss_one (ss_ret (se_callTy c_intA rfl T.b_int PyProof.Rows.boot_int (sa_cons (se_var (pv 0)) sa_nil))))))
theorem ok_count_in (T : Txt K mg xa) : Callee P w K mg base (exOf mg) "count_in" 1 s_count_in 2 := by
  obtain ⟨fa, fd, F, hm, hb⟩ := T.f_count_in
  exact ⟨fa, fd, _, fn_count_in T F, hm, F.kp, hb⟩
theorem sc_way_in : FnScope ["word"] ["word"] (defScope (topS 8)) := ⟨rfl, rfl, rfl, by decide +kernel, rfl, by decide +kernel, by decide +kernel⟩
set_option linter.unusedVariables false in
theorem fn_way_in (T : Txt K mg xa) {fa : Addr} {fd : FuncData} (F : Fun K "way_in" "way_in" (topS 8) fa fd) : FnG P w K mg base 2 fa fd ["word"] (CT.spF K (exOf mg) 1 s_way_in) := by
  have nd : (["word"] : List Str).Nodup := sc_way_in.nd
  refine def_fn (k := 1) (N := ["word"]) (ps := ["word"]) F sc_way_in fun cdv A outer s H E F0 hr hgd => ?_
  have hu64 : (A.deeper (envOfC "way_in" (defScope (topS 8)) s.heap.objs.size fa cdv)).units + 64 < cLine := hr.units
  have hu65 : (A.deeper (envOfC "way_in" (defScope (topS 8)) s.heap.objs.size fa cdv)).units + 65 < cLine := by have := hr.un; omega
  have pz := L2.passes_of (X := cxOf (L2.CX P w) P w K mg base ["word"] "way_in" (defScope (topS 8)) fa cdv A outer s H E) rfl
  have tk : Takes (cxOf (L2.CX P w) P w K mg base ["word"] "way_in" (defScope (topS 8)) fa cdv A outer s H E) (fun c d _ H' => E c d H') := takes_of rfl rfl rfl rfl
  exact (sss_cons (ss_exp (se_call (ok_sure T) tk (hr.mono (by decide)) hgd rfl (sa_cons (se_or (se_cmp (o_eq hu64) (se_var (pv 0)) se_str (nomark _)) (se_one (se_cmp (o_eq hu64) (se_var (pv 0)) se_str (nomark _)))) sa_nil) rfl (aCons_len aNil_len)))
      (sss_one (ss_ret (se_ix (se_own (so_lst (sa_cons se_int (sa_cons (se_bin o_sub se_int se_int) sa_nil)))) (se_callTy c_int rfl T.b_int PyProof.Rows.boot_int (sa_cons (se_cmp (o_eq hu64) (se_var (pv 0)) se_str (nomark _)) sa_nil))))))
theorem ok_way_in (T : Txt K mg xa) : Callee P w K mg base (exOf mg) "way_in" 1 s_way_in 2 := by
  obtain ⟨fa, fd, F, hm, hb⟩ := T.f_way_in
  exact ⟨fa, fd, _, fn_way_in T F, hm, F.kp, hb⟩
theorem sc_push_in : FnScope ["word"] ["word"] (defScope (topS 13)) := ⟨rfl, rfl, rfl, by decide +kernel, rfl, by decide +kernel, by decide +kernel⟩
set_option linter.unusedVariables false in
theorem fn_push_in (T : Txt K mg xa) {fa : Addr} {fd : FuncData} (F : Fun K "push_in" "push_in" (topS 13) fa fd) : FnG P w K mg base 3 fa fd ["word"] (CT.spF K (exOf mg) 1 s_push_in) := by
  have nd : (["word"] : List Str).Nodup := sc_push_in.nd
  refine def_fn (k := 2) (N := ["word"]) (ps := ["word"]) F sc_push_in fun cdv A outer s H E F0 hr hgd => ?_
  have hu64 : (A.deeper (envOfC "push_in" (defScope (topS 13)) s.heap.objs.size fa cdv)).units + 64 < cLine := hr.units
  have hu65 : (A.deeper (envOfC "push_in" (defScope (topS 13)) s.heap.objs.size fa cdv)).units + 65 < cLine := by have := hr.un; omega
  have pz := L2.passes_of (X := cxOf (L2.CX P w) P w K mg base ["word"] "push_in" (defScope (topS 13)) fa cdv A outer s H E) rfl
  have tk : Takes (cxOf (L2.CX P w) P w K mg base ["word"] "push_in" (defScope (topS 13)) fa cdv A outer s H E) (fun c d _ H' => E c d H') := takes_of rfl rfl rfl rfl
  exact (sss_one (ss_ret (se_tup (sa_cons (se_call (ok_count_in T) tk (hr.mono (by decide)) hgd rfl (sa_cons (se_cut (se_var (pv 0)) sp_no (sp_so (se_neg se_int))) sa_nil) rfl (aCons_len aNil_len)) (sa_cons (se_call (ok_way_in T) tk (hr.mono (by decide)) hgd rfl (sa_cons (se_cut (se_var (pv 0)) (sp_so (se_neg se_int)) sp_no) sa_nil) rfl (aCons_len aNil_len)) sa_nil)))))
theorem ok_push_in (T : Txt K mg xa) : Callee P w K mg base (exOf mg) "push_in" 1 s_push_in 3 := by
  obtain ⟨fa, fd, F, hm, hb⟩ := T.f_push_in
  exact ⟨fa, fd, _, fn_push_in T F, hm, F.kp, hb⟩
theorem sc_deed_in : FnScope ["word", "at"] ["word"] (defScope (topS 14)) := ⟨rfl, rfl, rfl, by decide +kernel, rfl, by decide +kernel, by decide +kernel⟩
set_option linter.unusedVariables false in
theorem fn_deed_in (T : Txt K mg xa) {fa : Addr} {fd : FuncData} (F : Fun K "deed_in" "deed_in" (topS 14) fa fd) : FnG P w K mg base 4 fa fd ["word"] (CT.spF K (exOf mg) 1 s_deed_in) := by
  have nd : (["word", "at"] : List Str).Nodup := sc_deed_in.nd
  refine def_fnT (k := 3) (N := ["word", "at"]) (ps := ["word"]) F sc_deed_in (by decide +kernel) (by decide) fun cdv A outer s H E F0 hr hgd => ?_
  have hu64 : (A.deeper (envOfC "deed_in" (defScope (topS 14)) s.heap.objs.size fa cdv)).units + 64 < cLine := hr.units
  have hu65 : (A.deeper (envOfC "deed_in" (defScope (topS 14)) s.heap.objs.size fa cdv)).units + 65 < cLine := by have := hr.un; omega
  have pz := L2.passes_of (X := cxOf (L2.CX P w) P w K mg base ["word", "at"] "deed_in" (defScope (topS 14)) fa cdv A outer s H E) rfl
  have tk : Takes (cxOf (L2.CX P w) P w K mg base ["word", "at"] "deed_in" (defScope (topS 14)) fa cdv A outer s H E) (fun c d _ H' => E c d H') := takes_of rfl rfl rfl rfl
  exact (ssst_FR (i := 1) nd rfl (by first | exact Or.inl rfl | exact Or.inr rfl) (se_var (pv 0)) se_str
      (sss_cons (ss_exp (se_call (ok_sure T) tk (hr.mono (by decide)) hgd rfl (sa_cons (se_cmp o_ge (se_var (pv 1)) se_int (nomark _)) sa_nil) rfl (aCons_len aNil_len)))
      (sss_one (ss_ret (se_bin o_add (se_call (ok_push_in T) tk (hr.mono (by decide)) hgd rfl (sa_cons (se_cut (se_var (pv 0)) sp_no (sp_so (se_bin o_add (se_var (pv 1)) se_int))) sa_nil) rfl (aCons_len aNil_len)) (se_tup (sa_cons (se_call (ok_count_in T) tk (hr.mono (by decide)) hgd rfl (sa_cons (se_cut (se_var (pv 0)) (sp_so (se_bin o_add (se_var (pv 1)) se_int)) sp_no) sa_nil) rfl (aCons_len aNil_len)) sa_nil)))))))
theorem ok_deed_in (T : Txt K mg xa) : Callee P w K mg base (exOf mg) "deed_in" 1 s_deed_in 4 := by
  obtain ⟨fa, fd, F, hm, hb⟩ := T.f_deed_in
  exact ⟨fa, fd, _, fn_deed_in T F, hm, F.kp, hb⟩
theorem sc_read_row : FnScope ["text", "word"] ["text"] (defScope (topS 16)) := ⟨rfl, rfl, rfl, by decide +kernel, rfl, by decide +kernel, by decide +kernel⟩
set_option linter.unusedVariables false in
theorem fn_read_row (T : Txt K mg xa) {fa : Addr} {fd : FuncData} (F : Fun K "read_row" "read_row" (topS 16) fa fd) : FnG P w K mg base 5 fa fd ["text"] (CT.spF K (exOf mg) 1 s_read_row) := by
  have nd : (["text", "word"] : List Str).Nodup := sc_read_row.nd
  refine def_fn (k := 4) (N := ["text", "word"]) (ps := ["text"]) F sc_read_row fun cdv A outer s H E F0 hr hgd => ?_
  have hu64 : (A.deeper (envOfC "read_row" (defScope (topS 16)) s.heap.objs.size fa cdv)).units + 64 < cLine := hr.units
  have hu65 : (A.deeper (envOfC "read_row" (defScope (topS 16)) s.heap.objs.size fa cdv)).units + 65 < cLine := by have := hr.un; omega
  have pz := L2.passes_of (X := cxOf (L2.CX P w) P w K mg base ["text", "word"] "read_row" (defScope (topS 16)) fa cdv A outer s H E) rfl
  have tk : Takes (cxOf (L2.CX P w) P w K mg base ["text", "word"] "read_row" (defScope (topS 16)) fa cdv A outer s H E) (fun c d _ H' => E c d H') := takes_of rfl rfl rfl rfl
  exact (sss_one (ss_retO (so_lc rfl nd (si_seq (se_call (ok_words_in T) tk (hr.mono (by decide)) hgd rfl (sa_cons (se_var (pv 0)) sa_nil) rfl (aCons_len aNil_len))) (blkOk_by (own := [("word", 1)]) (N := ["text", "word"]) (sc := defScope (topS 16)) (by decide +kernel)) (ng_name (i := 1) (by simp)) (fun _ _ _ _ _ => (pg_name (i := 1) nd rfl (Or.inl rfl))) (fun _ _ _ _ _ => sts_nil) (fun _ _ _ _ _ => (se_call (ok_deed_in T) takes0 (hr.mono (by decide)) hgd rfl (sa_cons (se_var (pv 1)) sa_nil) rfl (aCons_len aNil_len))))))
theorem ok_read_row (T : Txt K mg xa) : Callee P w K mg base (exOf mg) "read_row" 1 s_read_row 5 := by
  obtain ⟨fa, fd, F, hm, hb⟩ := T.f_read_row
  exact ⟨fa, fd, _, fn_read_row T F, hm, F.kp, hb⟩
theorem sc_read_pushes : FnScope ["text", "word"] ["text"] (defScope (topS 18)) := ⟨rfl, rfl, rfl, by decide +kernel, rfl, by decide +kernel, by decide +kernel⟩
set_option linter.unusedVariables false in
theorem fn_read_pushes (T : Txt K mg xa) {fa : Addr} {fd : FuncData} (F : Fun K "read_pushes" "read_pushes" (topS 18) fa fd) : FnG P w K mg base 4 fa fd ["text"] (CT.spF K (exOf mg) 1 s_read_pushes) := by
  have nd : (["text", "word"] : List Str).Nodup := sc_read_pushes.nd
  refine def_fn (k := 3) (N := ["text", "word"]) (ps := ["text"]) F sc_read_pushes fun cdv A outer s H E F0 hr hgd => ?_
  have hu64 : (A.deeper (envOfC "read_pushes" (defScope (topS 18)) s.heap.objs.size fa cdv)).units + 64 < cLine := hr.units
  have hu65 : (A.deeper (envOfC "read_pushes" (defScope (topS 18)) s.heap.objs.size fa cdv)).units + 65 < cLine := by have := hr.un; omega
  have pz := L2.passes_of (X := cxOf (L2.CX P w) P w K mg base ["text", "word"] "read_pushes" (defScope (topS 18)) fa cdv A outer s H E) rfl
  have tk : Takes (cxOf (L2.CX P w) P w K mg base ["text", "word"] "read_pushes" (defScope (topS 18)) fa cdv A outer s H E) (fun c d _ H' => E c d H') := takes_of rfl rfl rfl rfl
  exact (sss_one (ss_retO (so_lc rfl nd (si_seq (se_call (ok_words_in T) tk (hr.mono (by decide)) hgd rfl (sa_cons (se_var (pv 0)) sa_nil) rfl (aCons_len aNil_len))) (blkOk_by (own := [("word", 1)]) (N := ["text", "word"]) (sc := defScope (topS 18)) (by decide +kernel)) (ng_name (i := 1) (by simp)) (fun _ _ _ _ _ => (pg_name (i := 1) nd rfl (Or.inl rfl))) (fun _ _ _ _ _ => sts_nil) (fun _ _ _ _ _ => (se_call (ok_push_in T) takes0 (hr.mono (by decide)) hgd rfl (sa_cons (se_var (pv 1)) sa_nil) rfl (aCons_len aNil_len))))))
theorem ok_read_pushes (T : Txt K mg xa) : Callee P w K mg base (exOf mg) "read_pushes" 1 s_read_pushes 4 := by
  obtain ⟨fa, fd, F, hm, hb⟩ := T.f_read_pushes
  exact ⟨fa, fd, _, fn_read_pushes T F, hm, F.kp, hb⟩
theorem sc_shown_in : FnScope ["word"] ["word"] (defScope (topS 19)) := ⟨rfl, rfl, rfl, by decide +kernel, rfl, by decide +kernel, by decide +kernel⟩
set_option linter.unusedVariables false in
theorem fn_shown_in (T : Txt K mg xa) {fa : Addr} {fd : FuncData} (F : Fun K "shown_in" "shown_in" (topS 19) fa fd) : FnG P w K mg base 2 fa fd ["word"] (CT.spF K (exOf mg) 1 s_shown_in) := by
  have nd : (["word"] : List Str).Nodup := sc_shown_in.nd
  refine def_fn (k := 1) (N := ["word"]) (ps := ["word"]) F sc_shown_in fun cdv A outer s H E F0 hr hgd => ?_
  have hu64 : (A.deeper (envOfC "shown_in" (defScope (topS 19)) s.heap.objs.size fa cdv)).units + 64 < cLine := hr.units
  have hu65 : (A.deeper (envOfC "shown_in" (defScope (topS 19)) s.heap.objs.size fa cdv)).units + 65 < cLine := by have := hr.un; omega
  have pz := L2.passes_of (X := cxOf (L2.CX P w) P w K mg base ["word"] "shown_in" (defScope (topS 19)) fa cdv A outer s H E) rfl
  have tk : Takes (cxOf (L2.CX P w) P w K mg base ["word"] "shown_in" (defScope (topS 19)) fa cdv A outer s H E) (fun c d _ H' => E c d H') := takes_of rfl rfl rfl rfl
  exact (sss_cons (ss_exp (se_call (ok_sure T) tk (hr.mono (by decide)) hgd rfl (sa_cons (se_cmp (o_in hu65) (se_var (pv 0)) (se_own (so_lst (sa_cons se_str (sa_cons se_str (sa_cons se_str sa_nil))))) (by rfl)) sa_nil) rfl (aCons_len aNil_len)))
      (sss_one (ss_ret (se_callTy c_intA rfl T.b_int PyProof.Rows.boot_int (sa_cons (se_var (pv 0)) sa_nil)))))
theorem ok_shown_in (T : Txt K mg xa) : Callee P w K mg base (exOf mg) "shown_in" 1 s_shown_in 2 := by
  obtain ⟨fa, fd, F, hm, hb⟩ := T.f_shown_in
  exact ⟨fa, fd, _, fn_shown_in T F, hm, F.kp, hb⟩
theorem sc_read_shown : FnScope ["text", "found", "word", "push", "mark", "told"] ["text"] (defScope (topS 21)) := ⟨rfl, rfl, rfl, by decide +kernel, rfl, by decide +kernel, by decide +kernel⟩
set_option linter.unusedVariables false in
theorem fn_read_shown (T : Txt K mg xa) {fa : Addr} {fd : FuncData} (F : Fun K "read_shown" "read_shown" (topS 21) fa fd) : FnG P w K mg base 4 fa fd ["text"] (CT.spF K (exOf mg) 1 s_read_shown) := by
  have nd : (["text", "found", "word", "push", "mark", "told"] : List Str).Nodup := sc_read_shown.nd
  refine def_fn (k := 3) (N := ["text", "found", "word", "push", "mark", "told"]) (ps := ["text"]) F sc_read_shown fun cdv A outer s H E F0 hr hgd => ?_
  have hu64 : (A.deeper (envOfC "read_shown" (defScope (topS 21)) s.heap.objs.size fa cdv)).units + 64 < cLine := hr.units
  have hu65 : (A.deeper (envOfC "read_shown" (defScope (topS 21)) s.heap.objs.size fa cdv)).units + 65 < cLine := by have := hr.un; omega
  have pz := L2.passes_of (X := cxOf (L2.CX P w) P w K mg base ["text", "found", "word", "push", "mark", "told"] "read_shown" (defScope (topS 21)) fa cdv A outer s H E) rfl
  have tk : Takes (cxOf (L2.CX P w) P w K mg base ["text", "found", "word", "push", "mark", "told"] "read_shown" (defScope (topS 21)) fa cdv A outer s H E) (fun c d _ H' => E c d H') := takes_of rfl rfl rfl rfl
  exact (sss_cons (ss_setO (i := 1) nd rfl (by first | exact Or.inl rfl | exact Or.inr rfl) (so_lst sa_nil))
      (sss_cons (ss_for (vs := [2]) pz rfl (si_seq (se_call (ok_words_in T) tk (hr.mono (by decide)) hgd rfl (sa_cons (se_var (pv 0)) sa_nil) rfl (aCons_len aNil_len))) (pg_name (i := 2) nd rfl (by first | exact Or.inl rfl | exact Or.inr rfl)) (ng_name (i := 2) (by simp)) (sss_cons (ss_asg (se_partition (se_var (pv 2)) se_str) (pg_tup rfl (pgs_cons (pg_name (i := 3) nd rfl (by first | exact Or.inl rfl | exact Or.inr rfl)) (pgs_cons (pg_name (i := 4) nd rfl (by first | exact Or.inl rfl | exact Or.inr rfl)) (pgs_cons (pg_name (i := 5) nd rfl (by first | exact Or.inl rfl | exact Or.inr rfl)) pgs_nil)))) (tg_tup (tgs_cons tg_name (tgs_cons tg_name (tgs_cons tg_name tgs_nil)))))
      (sss_one (ss_app (pv 1) (se_bin o_add (se_call (ok_push_in T) tk (hr.mono (by decide)) hgd rfl (sa_cons (se_var (pv 3)) sa_nil) rfl (aCons_len aNil_len)) (se_tup (sa_cons (se_call (ok_shown_in T) tk (hr.mono (by decide)) hgd rfl (sa_cons (se_var (pv 5)) sa_nil) rfl (aCons_len aNil_len)) sa_nil)))))))
      (sss_one (ss_retV (pv 1)))))
theorem ok_read_shown (T : Txt K mg xa) : Callee P w K mg base (exOf mg) "read_shown" 1 s_read_shown 4 := by
  obtain ⟨fa, fd, F, hm, hb⟩ := T.f_read_shown
  exact ⟨fa, fd, _, fn_read_shown T F, hm, F.kp, hb⟩
theorem sc_read_shows : FnScope ["text", "found", "word", "way", "mark", "told"] ["text"] (defScope (topS 23)) := ⟨rfl, rfl, rfl, by decide +kernel, rfl, by decide +kernel, by decide +kernel⟩
set_option linter.unusedVariables false in
theorem fn_read_shows (T : Txt K mg xa) {fa : Addr} {fd : FuncData} (F : Fun K "read_shows" "read_shows" (topS 23) fa fd) : FnG P w K mg base 3 fa fd ["text"] (CT.spF K (exOf mg) 1 s_read_shows) := by
  have nd : (["text", "found", "word", "way", "mark", "told"] : List Str).Nodup := sc_read_shows.nd
  refine def_fn (k := 2) (N := ["text", "found", "word", "way", "mark", "told"]) (ps := ["text"]) F sc_read_shows fun cdv A outer s H E F0 hr hgd => ?_
  have hu64 : (A.deeper (envOfC "read_shows" (defScope (topS 23)) s.heap.objs.size fa cdv)).units + 64 < cLine := hr.units
  have hu65 : (A.deeper (envOfC "read_shows" (defScope (topS 23)) s.heap.objs.size fa cdv)).units + 65 < cLine := by have := hr.un; omega
  have pz := L2.passes_of (X := cxOf (L2.CX P w) P w K mg base ["text", "found", "word", "way", "mark", "told"] "read_shows" (defScope (topS 23)) fa cdv A outer s H E) rfl
  have tk : Takes (cxOf (L2.CX P w) P w K mg base ["text", "found", "word", "way", "mark", "told"] "read_shows" (defScope (topS 23)) fa cdv A outer s H E) (fun c d _ H' => E c d H') := takes_of rfl rfl rfl rfl
  exact (sss_cons (ss_setO (i := 1) nd rfl (by first | exact Or.inl rfl | exact Or.inr rfl) (so_lst sa_nil))
      (sss_cons (ss_for (vs := [2]) pz rfl (si_seq (se_call (ok_words_in T) tk (hr.mono (by decide)) hgd rfl (sa_cons (se_var (pv 0)) sa_nil) rfl (aCons_len aNil_len))) (pg_name (i := 2) nd rfl (by first | exact Or.inl rfl | exact Or.inr rfl)) (ng_name (i := 2) (by simp)) (sss_cons (ss_asg (se_partition (se_var (pv 2)) se_str) (pg_tup rfl (pgs_cons (pg_name (i := 3) nd rfl (by first | exact Or.inl rfl | exact Or.inr rfl)) (pgs_cons (pg_name (i := 4) nd rfl (by first | exact Or.inl rfl | exact Or.inr rfl)) (pgs_cons (pg_name (i := 5) nd rfl (by first | exact Or.inl rfl | exact Or.inr rfl)) pgs_nil)))) (tg_tup (tgs_cons tg_name (tgs_cons tg_name (tgs_cons tg_name tgs_nil)))))
      (sss_one (ss_app (pv 1) (se_tup (sa_cons (se_call (ok_way_in T) tk (hr.mono (by decide)) hgd rfl (sa_cons (se_var (pv 3)) sa_nil) rfl (aCons_len aNil_len)) (sa_cons (se_call (ok_shown_in T) tk (hr.mono (by decide)) hgd rfl (sa_cons (se_var (pv 5)) sa_nil) rfl (aCons_len aNil_len)) sa_nil)))))))
      (sss_one (ss_retV (pv 1)))))
theorem ok_read_shows (T : Txt K mg xa) : Callee P w K mg base (exOf mg) "read_shows" 1 s_read_shows 3 := by
  obtain ⟨fa, fd, F, hm, hb⟩ := T.f_read_shows
  exact ⟨fa, fd, _, fn_read_shows T F, hm, F.kp, hb⟩
theorem sc_law_draws : FnScope ["_law_cell"] ["_law_cell"] (defScope (topS 25)) := ⟨rfl, rfl, rfl, by decide +kernel, rfl, by decide +kernel, by decide +kernel⟩
set_option linter.unusedVariables false in
theorem fn_law_draws (T : Txt K mg xa) {fa : Addr} {fd : FuncData} (F : Fun K "_law_draws" "_law_draws" (topS 25) fa fd) : FnG P w K mg base 1 fa fd ["_law_cell"] (CT.spF K (exOf mg) 1 s_law_draws) := by
  have nd : (["_law_cell"] : List Str).Nodup := sc_law_draws.nd
  refine def_fn (k := 0) (N := ["_law_cell"]) (ps := ["_law_cell"]) F sc_law_draws fun cdv A outer s H E F0 hr hgd => ?_
  have hu64 : (A.deeper (envOfC "_law_draws" (defScope (topS 25)) s.heap.objs.size fa cdv)).units + 64 < cLine := hr.units
  have hu65 : (A.deeper (envOfC "_law_draws" (defScope (topS 25)) s.heap.objs.size fa cdv)).units + 65 < cLine := by have := hr.un; omega
  have pz := L2.passes_of (X := cxOf (L2.CX P w) P w K mg base ["_law_cell"] "_law_draws" (defScope (topS 25)) fa cdv A outer s H E) rfl
  have tk : Takes (cxOf (L2.CX P w) P w K mg base ["_law_cell"] "_law_draws" (defScope (topS 25)) fa cdv A outer s H E) (fun c d _ H' => E c d H') := takes_of rfl rfl rfl rfl
  exact (sss_cons (ss_if (st_cmp o_lt (se_var (pv 0)) (se_bin o_pow se_int se_int) (nomark _)) (sss_one (ss_retO (so_lst (sa_cons (se_var (pv 0)) (sa_cons se_int (sa_cons se_bl sa_nil)))))) sss_nil)
      (sss_one (ss_retO (so_lst (sa_cons (se_bin o_mod (se_var (pv 0)) (se_bin o_pow (se_bin o_pow (se_bin o_pow se_int se_int) se_int) se_int)) (sa_cons se_int (sa_cons se_bl sa_nil)))))))
theorem ok_law_draws (T : Txt K mg xa) : Callee P w K mg base (exOf mg) "_law_draws" 1 s_law_draws 1 := by
  obtain ⟨fa, fd, F, hm, hb⟩ := T.f_law_draws
  exact ⟨fa, fd, _, fn_law_draws T F, hm, F.kp, hb⟩
theorem sc_law_next : FnScope ["_law_draws_here", "_law_k", "_law_number_here"] ["_law_draws_here"] (defScope (topS 26)) := ⟨rfl, rfl, rfl, by decide +kernel, rfl, by decide +kernel, by decide +kernel⟩
set_option linter.unusedVariables false in
theorem fn_law_next (T : Txt K mg xa) {fa : Addr} {fd : FuncData} (F : Fun K "_law_next" "_law_next" (topS 26) fa fd) : FnG P w K mg base 1 fa fd ["_law_draws_here"] (CT.spL K 0 s_law_next) := by
  have nd : (["_law_draws_here", "_law_k", "_law_number_here"] : List Str).Nodup := sc_law_next.nd
  refine def_fnL (k := 0) (N := ["_law_draws_here", "_law_k", "_law_number_here"]) (ps := ["_law_draws_here"]) (n := 0) (ex := exOf mg) F sc_law_next rfl fun cdv A outer s H E F0 H0 hr hgd => ?_
  have hu64 : (A.deeper (envOfC "_law_next" (defScope (topS 26)) s.heap.objs.size fa cdv)).units + 64 < cLine := hr.units
  have hu65 : (A.deeper (envOfC "_law_next" (defScope (topS 26)) s.heap.objs.size fa cdv)).units + 65 < cLine := by have := hr.un; omega
  have pz := L2.passes_of (X := (cxOf (L2.CX P w) P w K mg base ["_law_draws_here", "_law_k", "_law_number_here"] "_law_next" (defScope (topS 26)) fa cdv A outer s H E)) rfl
  have tk : Takes (cxOf (L2.CX P w) P w K mg base ["_law_draws_here", "_law_k", "_law_number_here"] "_law_next" (defScope (topS 26)) fa cdv A outer s H E) (fun c d _ H' => E c d H') := takes_of rfl rfl rfl rfl
  exact (sb_cons (W := fun c d _ H' => E c d H') (ss_asg (se_bin o_add (se_lk (k := 1) (pv 0)) se_int) (pg_sub (pv 0) (se_int (W := WF)) set_list) (tg_subL (W := WF) (k := 1) (f := eC (.int 1)) fun _ => rfl))
      (sb_cons (W := fun c d _ H' => E c d H') (ss_set (i := 1) nd rfl (by first | exact Or.inl rfl | exact Or.inr rfl) (se_lk (k := 1) (pv 0)))
      (sb_if (W := fun c d _ H' => E c d H') (st_of (se_lk (k := 2) (pv 0))) (sb_cons (W := fun c d _ H' => E c d H') (ss_set (i := 2) nd rfl (by first | exact Or.inl rfl | exact Or.inr rfl) (se_bin o_mod (se_lk (k := 0) (pv 0)) (se_bin o_pow se_int se_int)))
      (sb_cons (W := fun c d _ H' => E c d H') (ss_asg (se_bin o_div (se_lk (k := 0) (pv 0)) (se_bin o_pow se_int se_int)) (pg_sub (pv 0) (se_int (W := WF)) set_list) (tg_subL (W := WF) (k := 0) (f := eC (.int 0)) fun _ => rfl))
      (sb_ret (W := fun c d _ H' => E c d H') (se_var (pv 2)))))
      (sb_cons (W := fun c d _ H' => E c d H') (ss_set (i := 2) nd rfl (by first | exact Or.inl rfl | exact Or.inr rfl) (se_bin o_mod (se_bin o_mul (se_bin o_add (se_bin o_add (se_bin o_mod (se_lk (k := 0) (pv 0)) se_int) (se_bin o_mul (se_bin o_mul (se_var (pv 1)) (se_var (pv 1))) se_int)) (se_var (pv 1))) se_int) se_int))
      (sb_cons (W := fun c d _ H' => E c d H') (ss_set (i := 2) nd rfl (by first | exact Or.inl rfl | exact Or.inr rfl) (se_bin o_mod (se_bin o_mul (se_var (pv 2)) (se_var (pv 2))) se_int))
      (sb_ret (W := fun c d _ H' => E c d H') (se_bin o_div (se_bin o_mod (se_bin o_mul (se_var (pv 2)) (se_bin o_add (se_var (pv 2)) se_int)) se_int) se_int)))))))
theorem ok_law_next (T : Txt K mg xa) : CalleeL P w K mg base "_law_next" 0 s_law_next 1 := by
  obtain ⟨fa, fd, F, hm, hb⟩ := T.f_law_next
  exact ⟨fa, fd, _, fn_law_next T F, hm, F.kp, hb⟩
theorem sc_law_number : FnScope ["_law_draws_here", "_law_wide", "_law_number_here", "_law_turn"] ["_law_draws_here"] (defScope (topS 28)) := ⟨rfl, rfl, rfl, by decide +kernel, rfl, by decide +kernel, by decide +kernel⟩
set_option linter.unusedVariables false in
theorem fn_law_number (T : Txt K mg xa) {fa : Addr} {fd : FuncData} (F : Fun K "_law_number" "_law_number" (topS 28) fa fd) : FnG P w K mg base 2 fa fd ["_law_draws_here"] (CT.spL K 0 s_law_number) := by
  have nd : (["_law_draws_here", "_law_wide", "_law_number_here", "_law_turn"] : List Str).Nodup := sc_law_number.nd
  refine def_fnL (k := 1) (N := ["_law_draws_here", "_law_wide", "_law_number_here", "_law_turn"]) (ps := ["_law_draws_here"]) (n := 0) (ex := exOf mg) F sc_law_number rfl fun cdv A outer s H E F0 H0 hr hgd => ?_
  have hu64 : (A.deeper (envOfC "_law_number" (defScope (topS 28)) s.heap.objs.size fa cdv)).units + 64 < cLine := hr.units
  have hu65 : (A.deeper (envOfC "_law_number" (defScope (topS 28)) s.heap.objs.size fa cdv)).units + 65 < cLine := by have := hr.un; omega
  have pz := L2.passes_of (X := (cxOf (L2.CX P w) P w K mg base ["_law_draws_here", "_law_wide", "_law_number_here", "_law_turn"] "_law_number" (defScope (topS 28)) fa cdv A outer s H E)) rfl
  have tk : Takes (cxOf (L2.CX P w) P w K mg base ["_law_draws_here", "_law_wide", "_law_number_here", "_law_turn"] "_law_number" (defScope (topS 28)) fa cdv A outer s H E) (fun c d _ H' => E c d H') := takes_of rfl rfl rfl rfl
  exact (sb_cons (W := fun c d _ H' => E c d H') (ss_setX (i := 1) nd rfl (by first | exact Or.inl rfl | exact Or.inr rfl) (sx_bin (W := WF) o_mod (sx_callL (i := 0) (ok_law_next T) tk (hr.mono (by decide)) hgd rfl (pv 0) sxa_nil xaNil_len) (sx_of (W := fun c d _ H' => E c d H') se_int)))
      (sb_cons (W := fun c d _ H' => E c d H') (ss_setX (i := 2) nd rfl (by first | exact Or.inl rfl | exact Or.inr rfl) (sx_bin (W := WF) o_mod (sx_callL (i := 0) (ok_law_next T) tk (hr.mono (by decide)) hgd rfl (pv 0) sxa_nil xaNil_len) (sx_of (W := fun c d _ H' => E c d H') (se_ix (se_own (so_lst (sa_cons se_int (sa_cons se_int (sa_cons se_int (sa_cons (se_bin o_pow se_int se_int) sa_nil)))))) (se_var (pv 1))))))
      (sb_cons (W := fun c d _ H' => E c d H') (ss_ifX (sxt_cmp (o_eq hu64) (sx_bin (W := WF) o_mod (sx_callL (i := 0) (ok_law_next T) tk (hr.mono (by decide)) hgd rfl (pv 0) sxa_nil xaNil_len) (sx_of (W := fun c d _ H' => E c d H') se_int)) (sx_of (W := fun c d _ H' => E c d H') se_int) (nomark _)) (sss_cons (ss_for (vs := [3]) pz rfl (si_rng1 rfl T.b_range (sa_cons se_int sa_nil)) (pg_name (i := 3) nd rfl (by first | exact Or.inl rfl | exact Or.inr rfl)) (ng_name (i := 3) (by simp)) (sss_one (ss_setX (i := 2) nd rfl (by first | exact Or.inl rfl | exact Or.inr rfl) (sx_bin (W := WF) o_add (sx_of (W := fun c d _ H' => E c d H') (se_bin o_mul (se_var (pv 2)) (se_bin o_pow se_int se_int))) (sx_bin (W := WF) o_mod (sx_callL (i := 0) (ok_law_next T) tk (hr.mono (by decide)) hgd rfl (pv 0) sxa_nil xaNil_len) (sx_of (W := fun c d _ H' => E c d H') (se_bin o_pow se_int se_int)))))))
      (sss_one (ss_set (i := 2) nd rfl (by first | exact Or.inl rfl | exact Or.inr rfl) (se_bin o_mod (se_var (pv 2)) (se_bin o_pow se_int se_int))))) sss_nil)
      (sb_ret (W := fun c d _ H' => E c d H') (se_var (pv 2))))))
theorem ok_law_number (T : Txt K mg xa) : CalleeL P w K mg base "_law_number" 0 s_law_number 2 := by
  obtain ⟨fa, fd, F, hm, hb⟩ := T.f_law_number
  exact ⟨fa, fd, _, fn_law_number T F, hm, F.kp, hb⟩
theorem sc_law_ways : FnScope ["_law_draws_here", "_law_many", "_law_k"] ["_law_draws_here", "_law_many"] (defScope (topS 29)) := ⟨rfl, rfl, rfl, by decide +kernel, rfl, by decide +kernel, by decide +kernel⟩
set_option linter.unusedVariables false in
theorem fn_law_ways (T : Txt K mg xa) {fa : Addr} {fd : FuncData} (F : Fun K "_law_ways" "_law_ways" (topS 29) fa fd) : FnG P w K mg base 2 fa fd ["_law_draws_here", "_law_many"] (CT.spL K 1 s_law_ways) := by
  have nd : (["_law_draws_here", "_law_many", "_law_k"] : List Str).Nodup := sc_law_ways.nd
  refine def_fnL (k := 1) (N := ["_law_draws_here", "_law_many", "_law_k"]) (ps := ["_law_draws_here", "_law_many"]) (n := 1) (ex := exOf mg) F sc_law_ways rfl fun cdv A outer s H E F0 H0 hr hgd => ?_
  have hu64 : (A.deeper (envOfC "_law_ways" (defScope (topS 29)) s.heap.objs.size fa cdv)).units + 64 < cLine := hr.units
  have hu65 : (A.deeper (envOfC "_law_ways" (defScope (topS 29)) s.heap.objs.size fa cdv)).units + 65 < cLine := by have := hr.un; omega
  have pz := L2.passes_of (X := (cxOf (L2.CX P w) P w K mg base ["_law_draws_here", "_law_many", "_law_k"] "_law_ways" (defScope (topS 29)) fa cdv A outer s H E)) rfl
  have tk : Takes (cxOf (L2.CX P w) P w K mg base ["_law_draws_here", "_law_many", "_law_k"] "_law_ways" (defScope (topS 29)) fa cdv A outer s H E) (fun c d _ H' => E c d H') := takes_of rfl rfl rfl rfl
  exact (sb_retX (sx_own (sox_lc rfl nd (six_rng1 rfl T.b_range (sxa_cons (sx_bin (W := WF) o_mod (sx_callL (i := 0) (ok_law_next T) tk (hr.mono (by decide)) hgd rfl (pv 0) sxa_nil xaNil_len) (sx_of (W := fun c d _ H' => E c d H') (se_var (pv 1)))) sxa_nil)) (blkOk_by (own := [("_law_k", 2)]) (N := ["_law_draws_here", "_law_many", "_law_k"]) (sc := defScope (topS 29)) (by decide +kernel)) (fun _ _ _ _ _ => (pg_name (i := 2) nd rfl (Or.inl rfl))) (fun _ _ _ _ _ => stxs_nil) (fun _ _ _ _ _ => (sx_ix (sx_of (W := WF) (se_own (so_lst (sa_cons se_int (sa_cons (se_bin o_sub se_int se_int) sa_nil))))) (sx_bin (W := WF) o_mod (sx_callL (i := 0) (ok_law_next T) takes0 (hr.mono (by decide)) hgd rfl (pv 0) sxa_nil xaNil_len) (sx_of (W := WF) se_int)))))))
theorem ok_law_ways (T : Txt K mg xa) : CalleeL P w K mg base "_law_ways" 1 s_law_ways 2 := by
  obtain ⟨fa, fd, F, hm, hb⟩ := T.f_law_ways
  exact ⟨fa, fd, _, fn_law_ways T F, hm, F.kp, hb⟩
theorem sc_law_row : FnScope ["_law_draws_here", "_law_many", "_law_way"] ["_law_draws_here", "_law_many"] (defScope (topS 30)) := ⟨rfl, rfl, rfl, by decide +kernel, rfl, by decide +kernel, by decide +kernel⟩
set_option linter.unusedVariables false in
theorem fn_law_row (T : Txt K mg xa) {fa : Addr} {fd : FuncData} (F : Fun K "_law_row" "_law_row" (topS 30) fa fd) : FnG P w K mg base 3 fa fd ["_law_draws_here", "_law_many"] (CT.spL K 1 s_law_row_6) := by
  have nd : (["_law_draws_here", "_law_many", "_law_way"] : List Str).Nodup := sc_law_row.nd
  refine def_fnL (k := 2) (N := ["_law_draws_here", "_law_many", "_law_way"]) (ps := ["_law_draws_here", "_law_many"]) (n := 1) (ex := exOf mg) F sc_law_row rfl fun cdv A outer s H E F0 H0 hr hgd => ?_
  have hu64 : (A.deeper (envOfC "_law_row" (defScope (topS 30)) s.heap.objs.size fa cdv)).units + 64 < cLine := hr.units
  have hu65 : (A.deeper (envOfC "_law_row" (defScope (topS 30)) s.heap.objs.size fa cdv)).units + 65 < cLine := by have := hr.un; omega
  have pz := L2.passes_of (X := (cxOf (L2.CX P w) P w K mg base ["_law_draws_here", "_law_many", "_law_way"] "_law_row" (defScope (topS 30)) fa cdv A outer s H E)) rfl
  have tk : Takes (cxOf (L2.CX P w) P w K mg base ["_law_draws_here", "_law_many", "_law_way"] "_law_row" (defScope (topS 30)) fa cdv A outer s H E) (fun c d _ H' => E c d H') := takes_of rfl rfl rfl rfl
  exact (sb_retX (sx_own (sox_lc rfl nd (six_seq (sx_callL (i := 0) (ok_law_ways T) tk (hr.mono (by decide)) hgd rfl (pv 0) (sxa_cons (sx_of (W := fun c d _ H' => E c d H') (se_var (pv 1))) sxa_nil) (xaCons_len xaNil_len))) (blkOk_by (own := [("_law_way", 2)]) (N := ["_law_draws_here", "_law_many", "_law_way"]) (sc := defScope (topS 30)) (by decide +kernel)) (fun _ _ _ _ _ => (pg_name (i := 2) nd rfl (Or.inl rfl))) (fun _ _ _ _ _ => stxs_nil) (fun _ _ _ _ _ => (sx_tup (sxa_cons (sx_callL (i := 0) (ok_law_number T) takes0 (hr.mono (by decide)) hgd rfl (pv 0) sxa_nil xaNil_len) (sxa_cons (sx_of (W := WF) (se_var (pv 2))) (sxa_cons (sx_callL (i := 0) (ok_law_number T) takes0 (hr.mono (by decide)) hgd rfl (pv 0) sxa_nil xaNil_len) sxa_nil))))))))
theorem ok_law_row (T : Txt K mg xa) : CalleeL P w K mg base "_law_row" 1 s_law_row_6 3 := by
  obtain ⟨fa, fd, F, hm, hb⟩ := T.f_law_row
  exact ⟨fa, fd, _, fn_law_row T F, hm, F.kp, hb⟩
theorem sc_law_pushes : FnScope ["_law_draws_here", "_law_many", "_law_way"] ["_law_draws_here", "_law_many"] (defScope (topS 31)) := ⟨rfl, rfl, rfl, by decide +kernel, rfl, by decide +kernel, by decide +kernel⟩
set_option linter.unusedVariables false in
theorem fn_law_pushes (T : Txt K mg xa) {fa : Addr} {fd : FuncData} (F : Fun K "_law_pushes" "_law_pushes" (topS 31) fa fd) : FnG P w K mg base 3 fa fd ["_law_draws_here", "_law_many"] (CT.spL K 1 s_law_pushes_3) := by
  have nd : (["_law_draws_here", "_law_many", "_law_way"] : List Str).Nodup := sc_law_pushes.nd
  refine def_fnL (k := 2) (N := ["_law_draws_here", "_law_many", "_law_way"]) (ps := ["_law_draws_here", "_law_many"]) (n := 1) (ex := exOf mg) F sc_law_pushes rfl fun cdv A outer s H E F0 H0 hr hgd => ?_
  have hu64 : (A.deeper (envOfC "_law_pushes" (defScope (topS 31)) s.heap.objs.size fa cdv)).units + 64 < cLine := hr.units
  have hu65 : (A.deeper (envOfC "_law_pushes" (defScope (topS 31)) s.heap.objs.size fa cdv)).units + 65 < cLine := by have := hr.un; omega
  have pz := L2.passes_of (X := (cxOf (L2.CX P w) P w K mg base ["_law_draws_here", "_law_many", "_law_way"] "_law_pushes" (defScope (topS 31)) fa cdv A outer s H E)) rfl
  have tk : Takes (cxOf (L2.CX P w) P w K mg base ["_law_draws_here", "_law_many", "_law_way"] "_law_pushes" (defScope (topS 31)) fa cdv A outer s H E) (fun c d _ H' => E c d H') := takes_of rfl rfl rfl rfl
  exact (sb_retX (sx_own (sox_lc rfl nd (six_seq (sx_callL (i := 0) (ok_law_ways T) tk (hr.mono (by decide)) hgd rfl (pv 0) (sxa_cons (sx_of (W := fun c d _ H' => E c d H') (se_var (pv 1))) sxa_nil) (xaCons_len xaNil_len))) (blkOk_by (own := [("_law_way", 2)]) (N := ["_law_draws_here", "_law_many", "_law_way"]) (sc := defScope (topS 31)) (by decide +kernel)) (fun _ _ _ _ _ => (pg_name (i := 2) nd rfl (Or.inl rfl))) (fun _ _ _ _ _ => stxs_nil) (fun _ _ _ _ _ => (sx_tup (sxa_cons (sx_callL (i := 0) (ok_law_number T) takes0 (hr.mono (by decide)) hgd rfl (pv 0) sxa_nil xaNil_len) (sxa_cons (sx_of (W := WF) (se_var (pv 2))) sxa_nil)))))))
theorem ok_law_pushes (T : Txt K mg xa) : CalleeL P w K mg base "_law_pushes" 1 s_law_pushes_3 3 := by
  obtain ⟨fa, fd, F, hm, hb⟩ := T.f_law_pushes
  exact ⟨fa, fd, _, fn_law_pushes T F, hm, F.kp, hb⟩
theorem sc_law_seen : FnScope ["_law_draws_here", "_law_many", "_law_way"] ["_law_draws_here", "_law_many"] (defScope (topS 32)) := ⟨rfl, rfl, rfl, by decide +kernel, rfl, by decide +kernel, by decide +kernel⟩
set_option linter.unusedVariables false in
theorem fn_law_seen (T : Txt K mg xa) {fa : Addr} {fd : FuncData} (F : Fun K "_law_seen" "_law_seen" (topS 32) fa fd) : FnG P w K mg base 3 fa fd ["_law_draws_here", "_law_many"] (CT.spL K 1 s_law_seen) := by
  have nd : (["_law_draws_here", "_law_many", "_law_way"] : List Str).Nodup := sc_law_seen.nd
  refine def_fnL (k := 2) (N := ["_law_draws_here", "_law_many", "_law_way"]) (ps := ["_law_draws_here", "_law_many"]) (n := 1) (ex := exOf mg) F sc_law_seen rfl fun cdv A outer s H E F0 H0 hr hgd => ?_
  have hu64 : (A.deeper (envOfC "_law_seen" (defScope (topS 32)) s.heap.objs.size fa cdv)).units + 64 < cLine := hr.units
  have hu65 : (A.deeper (envOfC "_law_seen" (defScope (topS 32)) s.heap.objs.size fa cdv)).units + 65 < cLine := by have := hr.un; omega
  have pz := L2.passes_of (X := (cxOf (L2.CX P w) P w K mg base ["_law_draws_here", "_law_many", "_law_way"] "_law_seen" (defScope (topS 32)) fa cdv A outer s H E)) rfl
  have tk : Takes (cxOf (L2.CX P w) P w K mg base ["_law_draws_here", "_law_many", "_law_way"] "_law_seen" (defScope (topS 32)) fa cdv A outer s H E) (fun c d _ H' => E c d H') := takes_of rfl rfl rfl rfl
  exact (sb_retX (sx_own (sox_lc rfl nd (six_seq (sx_callL (i := 0) (ok_law_ways T) tk (hr.mono (by decide)) hgd rfl (pv 0) (sxa_cons (sx_of (W := fun c d _ H' => E c d H') (se_var (pv 1))) sxa_nil) (xaCons_len xaNil_len))) (blkOk_by (own := [("_law_way", 2)]) (N := ["_law_draws_here", "_law_many", "_law_way"]) (sc := defScope (topS 32)) (by decide +kernel)) (fun _ _ _ _ _ => (pg_name (i := 2) nd rfl (Or.inl rfl))) (fun _ _ _ _ _ => stxs_nil) (fun _ _ _ _ _ => (sx_tup (sxa_cons (sx_callL (i := 0) (ok_law_number T) takes0 (hr.mono (by decide)) hgd rfl (pv 0) sxa_nil xaNil_len) (sxa_cons (sx_of (W := WF) (se_var (pv 2))) (sxa_cons (sx_bin (W := WF) o_sub (sx_bin (W := WF) o_mod (sx_callL (i := 0) (ok_law_next T) takes0 (hr.mono (by decide)) hgd rfl (pv 0) sxa_nil xaNil_len) (sx_of (W := WF) se_int)) (sx_of (W := WF) se_int)) sxa_nil))))))))
theorem ok_law_seen (T : Txt K mg xa) : CalleeL P w K mg base "_law_seen" 1 s_law_seen 3 := by
  obtain ⟨fa, fd, F, hm, hb⟩ := T.f_law_seen
  exact ⟨fa, fd, _, fn_law_seen T F, hm, F.kp, hb⟩
theorem sc_law_shows : FnScope ["_law_draws_here", "_law_many", "_law_way"] ["_law_draws_here", "_law_many"] (defScope (topS 33)) := ⟨rfl, rfl, rfl, by decide +kernel, rfl, by decide +kernel, by decide +kernel⟩
set_option linter.unusedVariables false in
theorem fn_law_shows (T : Txt K mg xa) {fa : Addr} {fd : FuncData} (F : Fun K "_law_shows" "_law_shows" (topS 33) fa fd) : FnG P w K mg base 3 fa fd ["_law_draws_here", "_law_many"] (CT.spL K 1 s_law_shows_4) := by
  have nd : (["_law_draws_here", "_law_many", "_law_way"] : List Str).Nodup := sc_law_shows.nd
  refine def_fnL (k := 2) (N := ["_law_draws_here", "_law_many", "_law_way"]) (ps := ["_law_draws_here", "_law_many"]) (n := 1) (ex := exOf mg) F sc_law_shows rfl fun cdv A outer s H E F0 H0 hr hgd => ?_
  have hu64 : (A.deeper (envOfC "_law_shows" (defScope (topS 33)) s.heap.objs.size fa cdv)).units + 64 < cLine := hr.units
  have hu65 : (A.deeper (envOfC "_law_shows" (defScope (topS 33)) s.heap.objs.size fa cdv)).units + 65 < cLine := by have := hr.un; omega
  have pz := L2.passes_of (X := (cxOf (L2.CX P w) P w K mg base ["_law_draws_here", "_law_many", "_law_way"] "_law_shows" (defScope (topS 33)) fa cdv A outer s H E)) rfl
  have tk : Takes (cxOf (L2.CX P w) P w K mg base ["_law_draws_here", "_law_many", "_law_way"] "_law_shows" (defScope (topS 33)) fa cdv A outer s H E) (fun c d _ H' => E c d H') := takes_of rfl rfl rfl rfl
  exact (sb_retX (sx_own (sox_lc rfl nd (six_seq (sx_callL (i := 0) (ok_law_ways T) tk (hr.mono (by decide)) hgd rfl (pv 0) (sxa_cons (sx_of (W := fun c d _ H' => E c d H') (se_var (pv 1))) sxa_nil) (xaCons_len xaNil_len))) (blkOk_by (own := [("_law_way", 2)]) (N := ["_law_draws_here", "_law_many", "_law_way"]) (sc := defScope (topS 33)) (by decide +kernel)) (fun _ _ _ _ _ => (pg_name (i := 2) nd rfl (Or.inl rfl))) (fun _ _ _ _ _ => stxs_nil) (fun _ _ _ _ _ => (sx_tup (sxa_cons (sx_of (W := WF) (se_var (pv 2))) (sxa_cons (sx_bin (W := WF) o_sub (sx_bin (W := WF) o_mod (sx_callL (i := 0) (ok_law_next T) takes0 (hr.mono (by decide)) hgd rfl (pv 0) sxa_nil xaNil_len) (sx_of (W := WF) se_int)) (sx_of (W := WF) se_int)) sxa_nil)))))))
theorem ok_law_shows (T : Txt K mg xa) : CalleeL P w K mg base "_law_shows" 1 s_law_shows_4 3 := by
  obtain ⟨fa, fd, F, hm, hb⟩ := T.f_law_shows
  exact ⟨fa, fd, _, fn_law_shows T F, hm, F.kp, hb⟩
theorem sc_law_list_text : FnScope ["_law_words"] ["_law_words"] (defScope (topS 34)) := ⟨rfl, rfl, rfl, by decide +kernel, rfl, by decide +kernel, by decide +kernel⟩
set_option linter.unusedVariables false in
theorem fn_law_list_text (T : Txt K mg xa) {fa : Addr} {fd : FuncData} (F : Fun K "_law_list_text" "_law_list_text" (topS 34) fa fd) : FnG P w K mg base 1 fa fd ["_law_words"] (CT.spF K (exOf mg) 1 s_law_list_text) := by
  have nd : (["_law_words"] : List Str).Nodup := sc_law_list_text.nd
  refine def_fn (k := 0) (N := ["_law_words"]) (ps := ["_law_words"]) F sc_law_list_text fun cdv A outer s H E F0 hr hgd => ?_
  have hu64 : (A.deeper (envOfC "_law_list_text" (defScope (topS 34)) s.heap.objs.size fa cdv)).units + 64 < cLine := hr.units
  have hu65 : (A.deeper (envOfC "_law_list_text" (defScope (topS 34)) s.heap.objs.size fa cdv)).units + 65 < cLine := by have := hr.un; omega
  have pz := L2.passes_of (X := cxOf (L2.CX P w) P w K mg base ["_law_words"] "_law_list_text" (defScope (topS 34)) fa cdv A outer s H E) rfl
  have tk : Takes (cxOf (L2.CX P w) P w K mg base ["_law_words"] "_law_list_text" (defScope (topS 34)) fa cdv A outer s H E) (fun c d _ H' => E c d H') := takes_of rfl rfl rfl rfl
  exact (sss_one (ss_ret (se_bin o_add (se_join se_str (se_var (pv 0))) (se_bin o_repS se_str (se_callTy c_int rfl T.b_int PyProof.Rows.boot_int (sa_cons (se_cmp (o_eq hu64) (se_var (pv 0)) (se_own (so_lst sa_nil)) (nomark _)) sa_nil))))))
theorem ok_law_list_text (T : Txt K mg xa) : Callee P w K mg base (exOf mg) "_law_list_text" 1 s_law_list_text 1 := by
  obtain ⟨fa, fd, F, hm, hb⟩ := T.f_law_list_text
  exact ⟨fa, fd, _, fn_law_list_text T F, hm, F.kp, hb⟩
theorem sc_law_step_text : FnScope ["_law_step", "_law_times"] ["_law_step"] (defScope (topS 35)) := ⟨rfl, rfl, rfl, by decide +kernel, rfl, by decide +kernel, by decide +kernel⟩
set_option linter.unusedVariables false in
theorem fn_law_step_text (T : Txt K mg xa) {fa : Addr} {fd : FuncData} (F : Fun K "_law_step_text" "_law_step_text" (topS 35) fa fd) : FnG P w K mg base 1 fa fd ["_law_step"] (CT.spF K (exOf mg) 1 s_law_step_text) := by
  have nd : (["_law_step", "_law_times"] : List Str).Nodup := sc_law_step_text.nd
  refine def_fn (k := 0) (N := ["_law_step", "_law_times"]) (ps := ["_law_step"]) F sc_law_step_text fun cdv A outer s H E F0 hr hgd => ?_
  have hu64 : (A.deeper (envOfC "_law_step_text" (defScope (topS 35)) s.heap.objs.size fa cdv)).units + 64 < cLine := hr.units
  have hu65 : (A.deeper (envOfC "_law_step_text" (defScope (topS 35)) s.heap.objs.size fa cdv)).units + 65 < cLine := by have := hr.un; omega
  have pz := L2.passes_of (X := cxOf (L2.CX P w) P w K mg base ["_law_step", "_law_times"] "_law_step_text" (defScope (topS 35)) fa cdv A outer s H E) rfl
  have tk : Takes (cxOf (L2.CX P w) P w K mg base ["_law_step", "_law_times"] "_law_step_text" (defScope (topS 35)) fa cdv A outer s H E) (fun c d _ H' => E c d H') := takes_of rfl rfl rfl rfl
  exact (sss_one (ss_ret (se_bin o_add (se_bin o_add (se_callTy (c_str hu65 hgd) rfl T.b_str PyProof.Rows.boot_str (sa_cons (se_ix (se_var (pv 0)) se_int) sa_nil)) (se_ix se_str (se_callTy c_int rfl T.b_int PyProof.Rows.boot_int (sa_cons (se_cmp o_lt (se_ix (se_var (pv 0)) se_int) se_int (nomark _)) sa_nil)))) (se_join se_str (se_own (so_lc rfl nd (si_seq (se_cut (se_var (pv 0)) (sp_so se_int) sp_no)) (blkOk_by (own := [("_law_times", 1)]) (N := ["_law_step", "_law_times"]) (sc := defScope (topS 35)) (by decide +kernel)) (ng_name (i := 1) (by simp)) (fun _ _ _ _ _ => (pg_name (i := 1) nd rfl (Or.inl rfl))) (fun _ _ _ _ _ => sts_nil) (fun _ _ _ _ _ => (se_callTy (c_str hu65 hgd) rfl T.b_str PyProof.Rows.boot_str (sa_cons (se_var (pv 1)) sa_nil)))))))))
theorem ok_law_step_text (T : Txt K mg xa) : Callee P w K mg base (exOf mg) "_law_step_text" 1 s_law_step_text 1 := by
  obtain ⟨fa, fd, F, hm, hb⟩ := T.f_law_step_text
  exact ⟨fa, fd, _, fn_law_step_text T F, hm, F.kp, hb⟩
theorem sc_law_steps_text : FnScope ["_law_steps", "_law_step"] ["_law_steps"] (defScope (topS 36)) := ⟨rfl, rfl, rfl, by decide +kernel, rfl, by decide +kernel, by decide +kernel⟩
set_option linter.unusedVariables false in
theorem fn_law_steps_text (T : Txt K mg xa) {fa : Addr} {fd : FuncData} (F : Fun K "_law_steps_text" "_law_steps_text" (topS 36) fa fd) : FnG P w K mg base 2 fa fd ["_law_steps"] (CT.spF K (exOf mg) 1 s_law_steps_text) := by
  have nd : (["_law_steps", "_law_step"] : List Str).Nodup := sc_law_steps_text.nd
  refine def_fn (k := 1) (N := ["_law_steps", "_law_step"]) (ps := ["_law_steps"]) F sc_law_steps_text fun cdv A outer s H E F0 hr hgd => ?_
  have hu64 : (A.deeper (envOfC "_law_steps_text" (defScope (topS 36)) s.heap.objs.size fa cdv)).units + 64 < cLine := hr.units
  have hu65 : (A.deeper (envOfC "_law_steps_text" (defScope (topS 36)) s.heap.objs.size fa cdv)).units + 65 < cLine := by have := hr.un; omega
  have pz := L2.passes_of (X := cxOf (L2.CX P w) P w K mg base ["_law_steps", "_law_step"] "_law_steps_text" (defScope (topS 36)) fa cdv A outer s H E) rfl
  have tk : Takes (cxOf (L2.CX P w) P w K mg base ["_law_steps", "_law_step"] "_law_steps_text" (defScope (topS 36)) fa cdv A outer s H E) (fun c d _ H' => E c d H') := takes_of rfl rfl rfl rfl
  exact (sss_one (ss_ret (se_call (ok_law_list_text T) tk (hr.mono (by decide)) hgd rfl (sa_cons (se_own (so_lc rfl nd (si_seq (se_var (pv 0))) (blkOk_by (own := [("_law_step", 1)]) (N := ["_law_steps", "_law_step"]) (sc := defScope (topS 36)) (by decide +kernel)) (ng_name (i := 1) (by simp)) (fun _ _ _ _ _ => (pg_name (i := 1) nd rfl (Or.inl rfl))) (fun _ _ _ _ _ => sts_nil) (fun _ _ _ _ _ => (se_call (ok_law_step_text T) takes0 (hr.mono (by decide)) hgd rfl (sa_cons (se_var (pv 1)) sa_nil) rfl (aCons_len aNil_len))))) sa_nil) rfl (aCons_len aNil_len))))
theorem ok_law_steps_text (T : Txt K mg xa) : Callee P w K mg base (exOf mg) "_law_steps_text" 1 s_law_steps_text 2 := by
  obtain ⟨fa, fd, F, hm, hb⟩ := T.f_law_steps_text
  exact ⟨fa, fd, _, fn_law_steps_text T F, hm, F.kp, hb⟩
theorem sc_law_seen_text : FnScope ["_law_seen_here", "_law_one"] ["_law_seen_here"] (defScope (topS 37)) := ⟨rfl, rfl, rfl, by decide +kernel, rfl, by decide +kernel, by decide +kernel⟩
set_option linter.unusedVariables false in
theorem fn_law_seen_text (T : Txt K mg xa) {fa : Addr} {fd : FuncData} (F : Fun K "_law_seen_text" "_law_seen_text" (topS 37) fa fd) : FnG P w K mg base 2 fa fd ["_law_seen_here"] (CT.spF K (exOf mg) 1 s_law_seen_text) := by
  have nd : (["_law_seen_here", "_law_one"] : List Str).Nodup := sc_law_seen_text.nd
  refine def_fn (k := 1) (N := ["_law_seen_here", "_law_one"]) (ps := ["_law_seen_here"]) F sc_law_seen_text fun cdv A outer s H E F0 hr hgd => ?_
  have hu64 : (A.deeper (envOfC "_law_seen_text" (defScope (topS 37)) s.heap.objs.size fa cdv)).units + 64 < cLine := hr.units
  have hu65 : (A.deeper (envOfC "_law_seen_text" (defScope (topS 37)) s.heap.objs.size fa cdv)).units + 65 < cLine := by have := hr.un; omega
  have pz := L2.passes_of (X := cxOf (L2.CX P w) P w K mg base ["_law_seen_here", "_law_one"] "_law_seen_text" (defScope (topS 37)) fa cdv A outer s H E) rfl
  have tk : Takes (cxOf (L2.CX P w) P w K mg base ["_law_seen_here", "_law_one"] "_law_seen_text" (defScope (topS 37)) fa cdv A outer s H E) (fun c d _ H' => E c d H') := takes_of rfl rfl rfl rfl
  exact (sss_one (ss_ret (se_call (ok_law_list_text T) tk (hr.mono (by decide)) hgd rfl (sa_cons (se_own (so_lc rfl nd (si_seq (se_var (pv 0))) (blkOk_by (own := [("_law_one", 1)]) (N := ["_law_seen_here", "_law_one"]) (sc := defScope (topS 37)) (by decide +kernel)) (ng_name (i := 1) (by simp)) (fun _ _ _ _ _ => (pg_name (i := 1) nd rfl (Or.inl rfl))) (fun _ _ _ _ _ => sts_nil) (fun _ _ _ _ _ => (se_bin o_add (se_bin o_add (se_call (ok_law_step_text T) takes0 (hr.mono (by decide)) hgd rfl (sa_cons (se_cut (se_var (pv 1)) sp_no (sp_so se_int)) sa_nil) rfl (aCons_len aNil_len)) se_str) (se_callTy (c_str hu65 hgd) rfl T.b_str PyProof.Rows.boot_str (sa_cons (se_ix (se_var (pv 1)) se_int) sa_nil)))))) sa_nil) rfl (aCons_len aNil_len))))
theorem ok_law_seen_text (T : Txt K mg xa) : Callee P w K mg base (exOf mg) "_law_seen_text" 1 s_law_seen_text 2 := by
  obtain ⟨fa, fd, F, hm, hb⟩ := T.f_law_seen_text
  exact ⟨fa, fd, _, fn_law_seen_text T F, hm, F.kp, hb⟩
theorem sc_law_shows_text : FnScope ["_law_shows_here", "_law_way", "_law_shown"] ["_law_shows_here"] (defScope (topS 38)) := ⟨rfl, rfl, rfl, by decide +kernel, rfl, by decide +kernel, by decide +kernel⟩
set_option linter.unusedVariables false in
theorem fn_law_shows_text (T : Txt K mg xa) {fa : Addr} {fd : FuncData} (F : Fun K "_law_shows_text" "_law_shows_text" (topS 38) fa fd) : FnG P w K mg base 2 fa fd ["_law_shows_here"] (CT.spF K (exOf mg) 1 s_law_shows_text) := by
  have nd : (["_law_shows_here", "_law_way", "_law_shown"] : List Str).Nodup := sc_law_shows_text.nd
  refine def_fn (k := 1) (N := ["_law_shows_here", "_law_way", "_law_shown"]) (ps := ["_law_shows_here"]) F sc_law_shows_text fun cdv A outer s H E F0 hr hgd => ?_
  have hu64 : (A.deeper (envOfC "_law_shows_text" (defScope (topS 38)) s.heap.objs.size fa cdv)).units + 64 < cLine := hr.units
  have hu65 : (A.deeper (envOfC "_law_shows_text" (defScope (topS 38)) s.heap.objs.size fa cdv)).units + 65 < cLine := by have := hr.un; omega
  have pz := L2.passes_of (X := cxOf (L2.CX P w) P w K mg base ["_law_shows_here", "_law_way", "_law_shown"] "_law_shows_text" (defScope (topS 38)) fa cdv A outer s H E) rfl
  have tk : Takes (cxOf (L2.CX P w) P w K mg base ["_law_shows_here", "_law_way", "_law_shown"] "_law_shows_text" (defScope (topS 38)) fa cdv A outer s H E) (fun c d _ H' => E c d H') := takes_of rfl rfl rfl rfl
  exact (sss_one (ss_ret (se_call (ok_law_list_text T) tk (hr.mono (by decide)) hgd rfl (sa_cons (se_own (so_lc rfl nd (si_seq (se_var (pv 0))) (blkOk_by (own := [("_law_way", 1), ("_law_shown", 2)]) (N := ["_law_shows_here", "_law_way", "_law_shown"]) (sc := defScope (topS 38)) (by decide +kernel)) (ng_tup (ngs_cons (ng_name (i := 1) (by simp)) (ngs_cons (ng_name (i := 2) (by simp)) ngs_nil))) (fun _ _ _ _ _ => (pg_tup rfl (pgs_cons (pg_name (i := 1) nd rfl (Or.inl rfl)) (pgs_cons (pg_name (i := 2) nd rfl (Or.inl rfl)) pgs_nil)))) (fun _ _ _ _ _ => sts_nil) (fun _ _ _ _ _ => (se_bin o_add (se_bin o_add (se_ix se_str (se_callTy c_int rfl T.b_int PyProof.Rows.boot_int (sa_cons (se_cmp o_lt (se_var (pv 1)) se_int (nomark _)) sa_nil))) se_str) (se_callTy (c_str hu65 hgd) rfl T.b_str PyProof.Rows.boot_str (sa_cons (se_var (pv 2)) sa_nil)))))) sa_nil) rfl (aCons_len aNil_len))))
theorem ok_law_shows_text (T : Txt K mg xa) : Callee P w K mg base (exOf mg) "_law_shows_text" 1 s_law_shows_text 2 := by
  obtain ⟨fa, fd, F, hm, hb⟩ := T.f_law_shows_text
  exact ⟨fa, fd, _, fn_law_shows_text T F, hm, F.kp, hb⟩
theorem sc_listed : FnScope ["words"] ["words"] (defScope (topS 10)) := ⟨rfl, rfl, rfl, by decide +kernel, rfl, by decide +kernel, by decide +kernel⟩
set_option linter.unusedVariables false in
theorem fn_listed (T : Txt K mg xa) {fa : Addr} {fd : FuncData} (F : Fun K "listed" "listed" (topS 10) fa fd) : FnG P w K mg base 1 fa fd ["words"] (CT.spF K (exOf mg) 1 s_listed) := by
  have nd : (["words"] : List Str).Nodup := sc_listed.nd
  refine def_fn (k := 0) (N := ["words"]) (ps := ["words"]) F sc_listed fun cdv A outer s H E F0 hr hgd => ?_
  have hu64 : (A.deeper (envOfC "listed" (defScope (topS 10)) s.heap.objs.size fa cdv)).units + 64 < cLine := hr.units
  have hu65 : (A.deeper (envOfC "listed" (defScope (topS 10)) s.heap.objs.size fa cdv)).units + 65 < cLine := by have := hr.un; omega
  have pz := L2.passes_of (X := cxOf (L2.CX P w) P w K mg base ["words"] "listed" (defScope (topS 10)) fa cdv A outer s H E) rfl
  have tk : Takes (cxOf (L2.CX P w) P w K mg base ["words"] "listed" (defScope (topS 10)) fa cdv A outer s H E) (fun c d _ H' => E c d H') := takes_of rfl rfl rfl rfl
  exact (sss_cons (ss_if (st_cmp (o_eq hu64) (se_var (pv 0)) (se_own (so_lst sa_nil)) (nomark _)) (sss_one (ss_ret se_str)) sss_nil)
      (sss_one (ss_ret (se_join se_str (se_var (pv 0))))))
theorem ok_listed (T : Txt K mg xa) : Callee P w K mg base (exOf mg) "listed" 1 s_listed 1 := by
  obtain ⟨fa, fd, F, hm, hb⟩ := T.f_listed
  exact ⟨fa, fd, _, fn_listed T F, hm, F.kp, hb⟩
theorem sc_way_shown : FnScope ["way"] ["way"] (defScope (topS 9)) := ⟨rfl, rfl, rfl, by decide +kernel, rfl, by decide +kernel, by decide +kernel⟩
set_option linter.unusedVariables false in
theorem fn_way_shown (T : Txt K mg xa) {fa : Addr} {fd : FuncData} (F : Fun K "way_shown" "way_shown" (topS 9) fa fd) : FnG P w K mg base 1 fa fd ["way"] (CT.spF K (exOf mg) 1 s_way_shown) := by
  have nd : (["way"] : List Str).Nodup := sc_way_shown.nd
  refine def_fn (k := 0) (N := ["way"]) (ps := ["way"]) F sc_way_shown fun cdv A outer s H E F0 hr hgd => ?_
  have hu64 : (A.deeper (envOfC "way_shown" (defScope (topS 9)) s.heap.objs.size fa cdv)).units + 64 < cLine := hr.units
  have hu65 : (A.deeper (envOfC "way_shown" (defScope (topS 9)) s.heap.objs.size fa cdv)).units + 65 < cLine := by have := hr.un; omega
  have pz := L2.passes_of (X := cxOf (L2.CX P w) P w K mg base ["way"] "way_shown" (defScope (topS 9)) fa cdv A outer s H E) rfl
  have tk : Takes (cxOf (L2.CX P w) P w K mg base ["way"] "way_shown" (defScope (topS 9)) fa cdv A outer s H E) (fun c d _ H' => E c d H') := takes_of rfl rfl rfl rfl
  exact (sss_one (ss_ret (se_ix se_str (se_callTy c_int rfl T.b_int PyProof.Rows.boot_int (sa_cons (se_cmp (o_eq hu64) (se_var (pv 0)) se_int (nomark _)) sa_nil)))))
theorem ok_way_shown (T : Txt K mg xa) : Callee P w K mg base (exOf mg) "way_shown" 1 s_way_shown 1 := by
  obtain ⟨fa, fd, F, hm, hb⟩ := T.f_way_shown
  exact ⟨fa, fd, _, fn_way_shown T F, hm, F.kp, hb⟩
theorem sc_step_shown : FnScope ["step", "times"] ["step"] (defScope (topS 12)) := ⟨rfl, rfl, rfl, by decide +kernel, rfl, by decide +kernel, by decide +kernel⟩
set_option linter.unusedVariables false in
theorem fn_step_shown (T : Txt K mg xa) {fa : Addr} {fd : FuncData} (F : Fun K "step_shown" "step_shown" (topS 12) fa fd) : FnG P w K mg base 2 fa fd ["step"] (CT.spF K (exOf mg) 1 s_step_shown) := by
  have nd : (["step", "times"] : List Str).Nodup := sc_step_shown.nd
  refine def_fn (k := 1) (N := ["step", "times"]) (ps := ["step"]) F sc_step_shown fun cdv A outer s H E F0 hr hgd => ?_
  have hu64 : (A.deeper (envOfC "step_shown" (defScope (topS 12)) s.heap.objs.size fa cdv)).units + 64 < cLine := hr.units
  have hu65 : (A.deeper (envOfC "step_shown" (defScope (topS 12)) s.heap.objs.size fa cdv)).units + 65 < cLine := by have := hr.un; omega
  have pz := L2.passes_of (X := cxOf (L2.CX P w) P w K mg base ["step", "times"] "step_shown" (defScope (topS 12)) fa cdv A outer s H E) rfl
  have tk : Takes (cxOf (L2.CX P w) P w K mg base ["step", "times"] "step_shown" (defScope (topS 12)) fa cdv A outer s H E) (fun c d _ H' => E c d H') := takes_of rfl rfl rfl rfl
  exact (sss_one (ss_ret (se_bin o_add (se_bin o_add (se_callTy (c_str hu65 hgd) rfl T.b_str PyProof.Rows.boot_str (sa_cons (se_ix (se_var (pv 0)) se_int) sa_nil)) (se_call (ok_way_shown T) tk (hr.mono (by decide)) hgd rfl (sa_cons (se_ix (se_var (pv 0)) se_int) sa_nil) rfl (aCons_len aNil_len))) (se_join se_str (se_own (so_lc rfl nd (si_seq (se_cut (se_var (pv 0)) (sp_so se_int) sp_no)) (blkOk_by (own := [("times", 1)]) (N := ["step", "times"]) (sc := defScope (topS 12)) (by decide +kernel)) (ng_name (i := 1) (by simp)) (fun _ _ _ _ _ => (pg_name (i := 1) nd rfl (Or.inl rfl))) (fun _ _ _ _ _ => sts_nil) (fun _ _ _ _ _ => (se_callTy (c_str hu65 hgd) rfl T.b_str PyProof.Rows.boot_str (sa_cons (se_var (pv 1)) sa_nil)))))))))
theorem ok_step_shown (T : Txt K mg xa) : Callee P w K mg base (exOf mg) "step_shown" 1 s_step_shown 2 := by
  obtain ⟨fa, fd, F, hm, hb⟩ := T.f_step_shown
  exact ⟨fa, fd, _, fn_step_shown T F, hm, F.kp, hb⟩
theorem sc_show_row : FnScope ["row", "deed"] ["row"] (defScope (topS 15)) := ⟨rfl, rfl, rfl, by decide +kernel, rfl, by decide +kernel, by decide +kernel⟩
set_option linter.unusedVariables false in
theorem fn_show_row (T : Txt K mg xa) {fa : Addr} {fd : FuncData} (F : Fun K "show_row" "show_row" (topS 15) fa fd) : FnG P w K mg base 3 fa fd ["row"] (CT.spF K (exOf mg) 1 s_show_row) := by
  have nd : (["row", "deed"] : List Str).Nodup := sc_show_row.nd
  refine def_fn (k := 2) (N := ["row", "deed"]) (ps := ["row"]) F sc_show_row fun cdv A outer s H E F0 hr hgd => ?_
  have hu64 : (A.deeper (envOfC "show_row" (defScope (topS 15)) s.heap.objs.size fa cdv)).units + 64 < cLine := hr.units
  have hu65 : (A.deeper (envOfC "show_row" (defScope (topS 15)) s.heap.objs.size fa cdv)).units + 65 < cLine := by have := hr.un; omega
  have pz := L2.passes_of (X := cxOf (L2.CX P w) P w K mg base ["row", "deed"] "show_row" (defScope (topS 15)) fa cdv A outer s H E) rfl
  have tk : Takes (cxOf (L2.CX P w) P w K mg base ["row", "deed"] "show_row" (defScope (topS 15)) fa cdv A outer s H E) (fun c d _ H' => E c d H') := takes_of rfl rfl rfl rfl
  exact (sss_one (ss_ret (se_call (ok_listed T) tk (hr.mono (by decide)) hgd rfl (sa_cons (se_own (so_lc rfl nd (si_seq (se_var (pv 0))) (blkOk_by (own := [("deed", 1)]) (N := ["row", "deed"]) (sc := defScope (topS 15)) (by decide +kernel)) (ng_name (i := 1) (by simp)) (fun _ _ _ _ _ => (pg_name (i := 1) nd rfl (Or.inl rfl))) (fun _ _ _ _ _ => sts_nil) (fun _ _ _ _ _ => (se_call (ok_step_shown T) takes0 (hr.mono (by decide)) hgd rfl (sa_cons (se_var (pv 1)) sa_nil) rfl (aCons_len aNil_len))))) sa_nil) rfl (aCons_len aNil_len))))
theorem ok_show_row (T : Txt K mg xa) : Callee P w K mg base (exOf mg) "show_row" 1 s_show_row 3 := by
  obtain ⟨fa, fd, F, hm, hb⟩ := T.f_show_row
  exact ⟨fa, fd, _, fn_show_row T F, hm, F.kp, hb⟩
theorem sc_show_pushes : FnScope ["pushes", "push"] ["pushes"] (defScope (topS 17)) := ⟨rfl, rfl, rfl, by decide +kernel, rfl, by decide +kernel, by decide +kernel⟩
set_option linter.unusedVariables false in
theorem fn_show_pushes (T : Txt K mg xa) {fa : Addr} {fd : FuncData} (F : Fun K "show_pushes" "show_pushes" (topS 17) fa fd) : FnG P w K mg base 3 fa fd ["pushes"] (CT.spF K (exOf mg) 1 s_show_pushes) := by
  have nd : (["pushes", "push"] : List Str).Nodup := sc_show_pushes.nd
  refine def_fn (k := 2) (N := ["pushes", "push"]) (ps := ["pushes"]) F sc_show_pushes fun cdv A outer s H E F0 hr hgd => ?_
  have hu64 : (A.deeper (envOfC "show_pushes" (defScope (topS 17)) s.heap.objs.size fa cdv)).units + 64 < cLine := hr.units
  have hu65 : (A.deeper (envOfC "show_pushes" (defScope (topS 17)) s.heap.objs.size fa cdv)).units + 65 < cLine := by have := hr.un; omega
  have pz := L2.passes_of (X := cxOf (L2.CX P w) P w K mg base ["pushes", "push"] "show_pushes" (defScope (topS 17)) fa cdv A outer s H E) rfl
  have tk : Takes (cxOf (L2.CX P w) P w K mg base ["pushes", "push"] "show_pushes" (defScope (topS 17)) fa cdv A outer s H E) (fun c d _ H' => E c d H') := takes_of rfl rfl rfl rfl
  exact (sss_one (ss_ret (se_call (ok_listed T) tk (hr.mono (by decide)) hgd rfl (sa_cons (se_own (so_lc rfl nd (si_seq (se_var (pv 0))) (blkOk_by (own := [("push", 1)]) (N := ["pushes", "push"]) (sc := defScope (topS 17)) (by decide +kernel)) (ng_name (i := 1) (by simp)) (fun _ _ _ _ _ => (pg_name (i := 1) nd rfl (Or.inl rfl))) (fun _ _ _ _ _ => sts_nil) (fun _ _ _ _ _ => (se_call (ok_step_shown T) takes0 (hr.mono (by decide)) hgd rfl (sa_cons (se_var (pv 1)) sa_nil) rfl (aCons_len aNil_len))))) sa_nil) rfl (aCons_len aNil_len))))
theorem ok_show_pushes (T : Txt K mg xa) : Callee P w K mg base (exOf mg) "show_pushes" 1 s_show_pushes 3 := by
  obtain ⟨fa, fd, F, hm, hb⟩ := T.f_show_pushes
  exact ⟨fa, fd, _, fn_show_pushes T F, hm, F.kp, hb⟩
theorem sc_show_shown : FnScope ["shown", "i", "way", "told"] ["shown"] (defScope (topS 20)) := ⟨rfl, rfl, rfl, by decide +kernel, rfl, by decide +kernel, by decide +kernel⟩
set_option linter.unusedVariables false in
theorem fn_show_shown (T : Txt K mg xa) {fa : Addr} {fd : FuncData} (F : Fun K "show_shown" "show_shown" (topS 20) fa fd) : FnG P w K mg base 2 fa fd ["shown"] (CT.spF K (exOf mg) 1 s_show_shown) := by
  have nd : (["shown", "i", "way", "told"] : List Str).Nodup := sc_show_shown.nd
  refine def_fn (k := 1) (N := ["shown", "i", "way", "told"]) (ps := ["shown"]) F sc_show_shown fun cdv A outer s H E F0 hr hgd => ?_
  have hu64 : (A.deeper (envOfC "show_shown" (defScope (topS 20)) s.heap.objs.size fa cdv)).units + 64 < cLine := hr.units
  have hu65 : (A.deeper (envOfC "show_shown" (defScope (topS 20)) s.heap.objs.size fa cdv)).units + 65 < cLine := by have := hr.un; omega
  have pz := L2.passes_of (X := cxOf (L2.CX P w) P w K mg base ["shown", "i", "way", "told"] "show_shown" (defScope (topS 20)) fa cdv A outer s H E) rfl
  have tk : Takes (cxOf (L2.CX P w) P w K mg base ["shown", "i", "way", "told"] "show_shown" (defScope (topS 20)) fa cdv A outer s H E) (fun c d _ H' => E c d H') := takes_of rfl rfl rfl rfl
  exact (sss_one (ss_ret (se_call (ok_listed T) tk (hr.mono (by decide)) hgd rfl (sa_cons (se_own (so_lc rfl nd (si_seq (se_var (pv 0))) (blkOk_by (own := [("i", 1), ("way", 2), ("told", 3)]) (N := ["shown", "i", "way", "told"]) (sc := defScope (topS 20)) (by decide +kernel)) (ng_tup (ngs_cons (ng_name (i := 1) (by simp)) (ngs_cons (ng_name (i := 2) (by simp)) (ngs_cons (ng_name (i := 3) (by simp)) ngs_nil)))) (fun _ _ _ _ _ => (pg_tup rfl (pgs_cons (pg_name (i := 1) nd rfl (Or.inl rfl)) (pgs_cons (pg_name (i := 2) nd rfl (Or.inl rfl)) (pgs_cons (pg_name (i := 3) nd rfl (Or.inl rfl)) pgs_nil))))) (fun _ _ _ _ _ => sts_nil) (fun _ _ _ _ _ => (se_bin o_add (se_bin o_add (se_bin o_add (se_callTy (c_str hu65 hgd) rfl T.b_str PyProof.Rows.boot_str (sa_cons (se_var (pv 1)) sa_nil)) (se_call (ok_way_shown T) takes0 (hr.mono (by decide)) hgd rfl (sa_cons (se_var (pv 2)) sa_nil) rfl (aCons_len aNil_len))) se_str) (se_callTy (c_str hu65 hgd) rfl T.b_str PyProof.Rows.boot_str (sa_cons (se_var (pv 3)) sa_nil)))))) sa_nil) rfl (aCons_len aNil_len))))
theorem ok_show_shown (T : Txt K mg xa) : Callee P w K mg base (exOf mg) "show_shown" 1 s_show_shown 2 := by
  obtain ⟨fa, fd, F, hm, hb⟩ := T.f_show_shown
  exact ⟨fa, fd, _, fn_show_shown T F, hm, F.kp, hb⟩
theorem sc_show_shows : FnScope ["shows", "way", "told"] ["shows"] (defScope (topS 22)) := ⟨rfl, rfl, rfl, by decide +kernel, rfl, by decide +kernel, by decide +kernel⟩
set_option linter.unusedVariables false in
theorem fn_show_shows (T : Txt K mg xa) {fa : Addr} {fd : FuncData} (F : Fun K "show_shows" "show_shows" (topS 22) fa fd) : FnG P w K mg base 2 fa fd ["shows"] (CT.spF K (exOf mg) 1 s_show_shows) := by
  have nd : (["shows", "way", "told"] : List Str).Nodup := sc_show_shows.nd
  refine def_fn (k := 1) (N := ["shows", "way", "told"]) (ps := ["shows"]) F sc_show_shows fun cdv A outer s H E F0 hr hgd => ?_
  have hu64 : (A.deeper (envOfC "show_shows" (defScope (topS 22)) s.heap.objs.size fa cdv)).units + 64 < cLine := hr.units
  have hu65 : (A.deeper (envOfC "show_shows" (defScope (topS 22)) s.heap.objs.size fa cdv)).units + 65 < cLine := by have := hr.un; omega
  have pz := L2.passes_of (X := cxOf (L2.CX P w) P w K mg base ["shows", "way", "told"] "show_shows" (defScope (topS 22)) fa cdv A outer s H E) rfl
  have tk : Takes (cxOf (L2.CX P w) P w K mg base ["shows", "way", "told"] "show_shows" (defScope (topS 22)) fa cdv A outer s H E) (fun c d _ H' => E c d H') := takes_of rfl rfl rfl rfl
  exact (sss_one (ss_ret (se_call (ok_listed T) tk (hr.mono (by decide)) hgd rfl (sa_cons (se_own (so_lc rfl nd (si_seq (se_var (pv 0))) (blkOk_by (own := [("way", 1), ("told", 2)]) (N := ["shows", "way", "told"]) (sc := defScope (topS 22)) (by decide +kernel)) (ng_tup (ngs_cons (ng_name (i := 1) (by simp)) (ngs_cons (ng_name (i := 2) (by simp)) ngs_nil))) (fun _ _ _ _ _ => (pg_tup rfl (pgs_cons (pg_name (i := 1) nd rfl (Or.inl rfl)) (pgs_cons (pg_name (i := 2) nd rfl (Or.inl rfl)) pgs_nil)))) (fun _ _ _ _ _ => sts_nil) (fun _ _ _ _ _ => (se_bin o_add (se_bin o_add (se_call (ok_way_shown T) takes0 (hr.mono (by decide)) hgd rfl (sa_cons (se_var (pv 1)) sa_nil) rfl (aCons_len aNil_len)) se_str) (se_callTy (c_str hu65 hgd) rfl T.b_str PyProof.Rows.boot_str (sa_cons (se_var (pv 2)) sa_nil)))))) sa_nil) rfl (aCons_len aNil_len))))
theorem ok_show_shows (T : Txt K mg xa) : Callee P w K mg base (exOf mg) "show_shows" 1 s_show_shows 2 := by
  obtain ⟨fa, fd, F, hm, hb⟩ := T.f_show_shows
  exact ⟨fa, fd, _, fn_show_shows T F, hm, F.kp, hb⟩
theorem sc_law_whole : FnScope ["_law_found"] ["_law_found"] (defScope (topS 27)) := ⟨rfl, rfl, rfl, by decide +kernel, rfl, by decide +kernel, by decide +kernel⟩
set_option linter.unusedVariables false in
theorem fn_law_whole (T : Txt K mg xa) {fa : Addr} {fd : FuncData} (F : Fun K "_law_whole" "_law_whole" (topS 27) fa fd) : FnG P w K mg base 1 fa fd ["_law_found"] (CT.spF K (exOf mg) 1 s_law_whole) := by
  have nd : (["_law_found"] : List Str).Nodup := sc_law_whole.nd
  refine def_fn (k := 0) (N := ["_law_found"]) (ps := ["_law_found"]) F sc_law_whole fun cdv A outer s H E F0 hr hgd => ?_
  have hu64 : (A.deeper (envOfC "_law_whole" (defScope (topS 27)) s.heap.objs.size fa cdv)).units + 64 < cLine := hr.units
  have hu65 : (A.deeper (envOfC "_law_whole" (defScope (topS 27)) s.heap.objs.size fa cdv)).units + 65 < cLine := by have := hr.un; omega
  have pz := L2.passes_of (X := cxOf (L2.CX P w) P w K mg base ["_law_found"] "_law_whole" (defScope (topS 27)) fa cdv A outer s H E) rfl
  have tk : Takes (cxOf (L2.CX P w) P w K mg base ["_law_found"] "_law_whole" (defScope (topS 27)) fa cdv A outer s H E) (fun c d _ H' => E c d H') := takes_of rfl rfl rfl rfl
  exact (sss_one (ss_ret (se_and (se_isi (T := "int") rfl T.b_isinstance rfl T.b_int PyProof.Rows.boot_int (se_var (pv 0))) (se_one (se_not (se_isi (T := "bool") rfl T.b_isinstance rfl T.b_bool (by decide +kernel) (se_var (pv 0))))))))
theorem ok_law_whole (T : Txt K mg xa) : Callee P w K mg base (exOf mg) "_law_whole" 1 s_law_whole 1 := by
  obtain ⟨fa, fd, F, hm, hb⟩ := T.f_law_whole
  exact ⟨fa, fd, _, fn_law_whole T F, hm, F.kp, hb⟩
theorem sc_law_well : FnScope ["_law_way", "_law_some", "_law_handed", "_law_text", "_law_found", "_law_turn", "_law_told", "_law_one", "_law_number_here"] ["_law_way", "_law_some"] (defScope (topS 39)) := ⟨rfl, rfl, rfl, by decide +kernel, rfl, by decide +kernel, by decide +kernel⟩
set_option linter.unusedVariables false in
theorem fn_law_well (T : Txt K mg xa) {fa : Addr} {fd : FuncData} (F : Fun K "_law_well" "_law_well" (topS 39) fa fd) : FnG P w K mg base 6 fa fd ["_law_way", "_law_some"] (CT.spF K (exOf mg) 2 s_law_well_2) := by
  have nd : (["_law_way", "_law_some", "_law_handed", "_law_text", "_law_found", "_law_turn", "_law_told", "_law_one", "_law_number_here"] : List Str).Nodup := sc_law_well.nd
  refine def_fn (k := 5) (N := ["_law_way", "_law_some", "_law_handed", "_law_text", "_law_found", "_law_turn", "_law_told", "_law_one", "_law_number_here"]) (ps := ["_law_way", "_law_some"]) F sc_law_well fun cdv A outer s H E F0 hr hgd => ?_
  have hu64 : (A.deeper (envOfC "_law_well" (defScope (topS 39)) s.heap.objs.size fa cdv)).units + 64 < cLine := hr.units
  have hu65 : (A.deeper (envOfC "_law_well" (defScope (topS 39)) s.heap.objs.size fa cdv)).units + 65 < cLine := by have := hr.un; omega
  have pz := L2.passes_of (X := cxOf (L2.CX P w) P w K mg base ["_law_way", "_law_some", "_law_handed", "_law_text", "_law_found", "_law_turn", "_law_told", "_law_one", "_law_number_here"] "_law_well" (defScope (topS 39)) fa cdv A outer s H E) rfl
  have tk : Takes (cxOf (L2.CX P w) P w K mg base ["_law_way", "_law_some", "_law_handed", "_law_text", "_law_found", "_law_turn", "_law_told", "_law_one", "_law_number_here"] "_law_well" (defScope (topS 39)) fa cdv A outer s H E) (fun c d _ H' => E c d H') := takes_of rfl rfl rfl rfl
  exact (sss_cons (ss_set (i := 2) nd rfl (by first | exact Or.inl rfl | exact Or.inr rfl) (se_own (so_list rfl T.b_list (sa_cons (se_var (pv 1)) sa_nil))))
      (sss_cons (ss_set (i := 3) nd rfl (by first | exact Or.inl rfl | exact Or.inr rfl) (se_callE (k := 2) (se_ix (se_own (so_lst (sa_cons (se_fn (x := "_law_steps_text") rfl T.n_law_steps_text) (sa_cons (se_fn (x := "_law_steps_text") rfl T.n_law_steps_text) (sa_cons (se_fn (x := "_law_seen_text") rfl T.n_law_seen_text) (sa_cons (se_fn (x := "_law_shows_text") rfl T.n_law_shows_text) sa_nil)))))) (se_var (pv 0))) (tab_cons (ok_law_steps_text T) T.n_law_steps_text (tab_cons (ok_law_steps_text T) T.n_law_steps_text (tab_cons (ok_law_seen_text T) T.n_law_seen_text (tab_cons (ok_law_shows_text T) T.n_law_shows_text tab_nil)))) tk (hr.mono (by decide)) hgd (sa_cons (se_var (pv 1)) sa_nil) rfl (aCons_len aNil_len)))
      (sss_cons (ss_set (i := 4) nd rfl (by first | exact Or.inl rfl | exact Or.inr rfl) (se_callE (k := 3) (se_ix (se_own (so_lst (sa_cons (se_fn (x := "show_row") rfl T.n_show_row) (sa_cons (se_fn (x := "show_pushes") rfl T.n_show_pushes) (sa_cons (se_fn (x := "show_shown") rfl T.n_show_shown) (sa_cons (se_fn (x := "show_shows") rfl T.n_show_shows) sa_nil)))))) (se_var (pv 0))) (tab_cons (ok_show_row T) T.n_show_row (tab_cons (ok_show_pushes T) T.n_show_pushes (tab_cons (ok_show_shown T) T.n_show_shown (tab_cons (ok_show_shows T) T.n_show_shows tab_nil)))) tk (hr.mono (by decide)) hgd (sa_cons (se_var (pv 2)) sa_nil) rfl (aCons_len aNil_len)))
      (sss_cons (ss_if (st_w (sw_or (st_not (st_of (se_isi (T := "str") rfl T.b_isinstance rfl T.b_str PyProof.Rows.boot_str (se_var (pv 4))))) (sw_or (st_cmp (o_ne hu64) (se_var (pv 4)) (se_var (pv 3)) (nomark _)) (sw_or1 (st_cmp (o_ne hu64) (se_var (pv 2)) (se_var (pv 1)) (nomark _)))))) (sss_one (ss_ret se_bl)) sss_nil)
      (sss_cons (ss_for (vs := [5]) pz rfl (si_rng1 rfl T.b_range (sa_cons se_int sa_nil)) (pg_name (i := 5) nd rfl (by first | exact Or.inl rfl | exact Or.inr rfl)) (ng_name (i := 5) (by simp)) (sss_cons (ss_setO (i := 6) nd rfl (by first | exact Or.inl rfl | exact Or.inr rfl) (so_callE (k := 5) (se_ix (se_own (so_lst (sa_cons (se_fn (x := "read_row") rfl T.n_read_row) (sa_cons (se_fn (x := "read_pushes") rfl T.n_read_pushes) (sa_cons (se_fn (x := "read_shown") rfl T.n_read_shown) (sa_cons (se_fn (x := "read_shows") rfl T.n_read_shows) sa_nil)))))) (se_var (pv 0))) (tab_cons (ok_read_row T) T.n_read_row (tab_cons (ok_read_pushes T) T.n_read_pushes (tab_cons (ok_read_shown T) T.n_read_shown (tab_cons (ok_read_shows T) T.n_read_shows tab_nil)))) tk (hr.mono (by decide)) hgd (sa_cons (se_var (pv 3)) sa_nil) rfl (aCons_len aNil_len)))
      (sss_cons (ss_if (st_w (sw_or (st_not (st_of (se_isi (T := "list") rfl T.b_isinstance rfl T.b_list PyProof.Rows.boot_list (se_var (pv 6))))) (sw_or1 (st_cmp (o_ne hu64) (se_var (pv 6)) (se_var (pv 1)) (nomark _))))) (sss_one (ss_ret se_bl)) sss_nil)
      (sss_cons (ss_if (st_not (st_of (se_callB (c_all rfl) rfl T.b_all PyProof.Rows.boot_all (sa_cons (se_own (so_lc rfl nd (si_seq (se_var (pv 6))) (blkOk_by (own := [("_law_one", 7)]) (N := ["_law_way", "_law_some", "_law_handed", "_law_text", "_law_found", "_law_turn", "_law_told", "_law_one", "_law_number_here"]) (sc := defScope (topS 39)) (by decide +kernel)) (ng_name (i := 7) (by simp)) (fun _ _ _ _ _ => (pg_name (i := 7) nd rfl (Or.inl rfl))) (fun _ _ _ _ _ => sts_nil) (fun _ _ _ _ _ => (se_and (se_isi (T := "tuple") rfl T.b_isinstance rfl T.b_tuple PyProof.Rows.boot_tuple (se_var (pv 7))) (se_one (se_callB (c_all rfl) rfl T.b_all PyProof.Rows.boot_all (sa_cons (se_own (so_lc rfl nd (si_seq (se_var (pv 7))) (blkOk_nf (own := [("_law_number_here", 8)]) (N := ["_law_way", "_law_some", "_law_handed", "_law_text", "_law_found", "_law_turn", "_law_told", "_law_one", "_law_number_here"]) (by decide +kernel)) (ng_name (i := 8) (by simp)) (fun _ _ _ _ _ => (pg_name (i := 8) nd rfl (Or.inl rfl))) (fun _ _ _ _ _ => sts_nil) (fun _ _ _ _ _ => (se_call (ok_law_whole T) takes0 (hr.mono (by decide)) hgd rfl (sa_cons (se_var (pv 8)) sa_nil) rfl (aCons_len aNil_len))))) sa_nil))))))) sa_nil)))) (sss_one (ss_ret se_bl)) sss_nil)
      (sss_one (ss_app (pv 6) se_non))))))
      (sss_one (ss_ret se_bl)))))))
theorem ok_law_well (T : Txt K mg xa) : Callee P w K mg base (exOf mg) "_law_well" 2 s_law_well_2 6 := by
  obtain ⟨fa, fd, F, hm, hb⟩ := T.f_law_well
  exact ⟨fa, fd, _, fn_law_well T F, hm, F.kp, hb⟩
theorem sc_law : FnScope ["_law_script", "_law_draws_here", "_law_long", "_law_way", "_law_cell", "_law_some", "_law_k", "_law_first", "_law_lists"] ["_law_script"] (defScope (topS 40)) := ⟨rfl, rfl, rfl, by decide +kernel, rfl, by decide +kernel, by decide +kernel⟩
set_option linter.unusedVariables false in
theorem fn_law (T : Txt K mg xa) {fa : Addr} {fd : FuncData} (F : Fun K "law" "law" (topS 40) fa fd) : FnG P w K mg base 7 fa fd ["_law_script"] (CT.spF K (exOf mg) 1 s_law_42) := by
  have nd : (["_law_script", "_law_draws_here", "_law_long", "_law_way", "_law_cell", "_law_some", "_law_k", "_law_first", "_law_lists"] : List Str).Nodup := sc_law.nd
  refine def_fn (k := 6) (N := ["_law_script", "_law_draws_here", "_law_long", "_law_way", "_law_cell", "_law_some", "_law_k", "_law_first", "_law_lists"]) (ps := ["_law_script"]) F sc_law fun cdv A outer s H E F0 hr hgd => ?_
  have hu64 : (A.deeper (envOfC "law" (defScope (topS 40)) s.heap.objs.size fa cdv)).units + 64 < cLine := hr.units
  have hu65 : (A.deeper (envOfC "law" (defScope (topS 40)) s.heap.objs.size fa cdv)).units + 65 < cLine := by have := hr.un; omega
  have pz := L2.passes_of (X := cxOf (L2.CX P w) P w K mg base ["_law_script", "_law_draws_here", "_law_long", "_law_way", "_law_cell", "_law_some", "_law_k", "_law_first", "_law_lists"] "law" (defScope (topS 40)) fa cdv A outer s H E) rfl
  have tk : Takes (cxOf (L2.CX P w) P w K mg base ["_law_script", "_law_draws_here", "_law_long", "_law_way", "_law_cell", "_law_some", "_law_k", "_law_first", "_law_lists"] "law" (defScope (topS 40)) fa cdv A outer s H E) (fun c d _ H' => E c d H') := takes_of rfl rfl rfl rfl
  exact (sss_newLR (i := 1) nd rfl (by first | exact Or.inl rfl | exact Or.inr rfl) (so_call (ok_law_draws T) tk (hr.mono (by decide)) hgd rfl (sa_cons (se_ix (se_bin o_addF (se_var (pv 0)) (se_own (so_lst (sa_cons se_int sa_nil)))) se_int) sa_nil) rfl (aCons_len aNil_len))
      (sss_cons (ss_setX (i := 2) nd rfl (by first | exact Or.inl rfl | exact Or.inr rfl) (sx_lst (sxa_cons (sx_cut (sx_bin (W := WF) o_rep (sx_callL (i := 1) (ok_law_row T) tk (hr.mono (by decide)) hgd rfl (pv 1) (sxa_cons (sx_of (W := fun c d _ H' => E c d H') se_int) sxa_nil) (xaCons_len xaNil_len)) (sx_of (W := fun c d _ H' => E c d H') se_int)) sxp_no (sxp_so (sx_of (W := fun c d _ H' => E c d H') se_int))) (sxa_cons (sx_cut (sx_bin (W := WF) o_rep (sx_callL (i := 1) (ok_law_pushes T) tk (hr.mono (by decide)) hgd rfl (pv 1) (sxa_cons (sx_of (W := fun c d _ H' => E c d H') se_int) sxa_nil) (xaCons_len xaNil_len)) (sx_of (W := fun c d _ H' => E c d H') se_int)) sxp_no (sxp_so (sx_of (W := fun c d _ H' => E c d H') se_int))) sxa_nil))))
      (sss_cons (ss_setX (i := 2) nd rfl (by first | exact Or.inl rfl | exact Or.inr rfl) (sx_bin (W := WF) o_add (sx_of (W := fun c d _ H' => E c d H') (se_var (pv 2))) (sx_lst (sxa_cons (sx_cut (sx_bin (W := WF) o_rep (sx_callL (i := 1) (ok_law_seen T) tk (hr.mono (by decide)) hgd rfl (pv 1) (sxa_cons (sx_of (W := fun c d _ H' => E c d H') se_int) sxa_nil) (xaCons_len xaNil_len)) (sx_of (W := fun c d _ H' => E c d H') se_int)) sxp_no (sxp_so (sx_of (W := fun c d _ H' => E c d H') se_int))) (sxa_cons (sx_cut (sx_bin (W := WF) o_rep (sx_callL (i := 1) (ok_law_shows T) tk (hr.mono (by decide)) hgd rfl (pv 1) (sxa_cons (sx_of (W := fun c d _ H' => E c d H') se_int) sxa_nil) (xaCons_len xaNil_len)) (sx_of (W := fun c d _ H' => E c d H') se_int)) sxp_no (sxp_so (sx_of (W := fun c d _ H' => E c d H') se_int))) sxa_nil)))))
      (sss_cons (ss_for (vs := [3]) pz rfl (si_rng1 rfl T.b_range (sa_cons se_int sa_nil)) (pg_name (i := 3) nd rfl (by first | exact Or.inl rfl | exact Or.inr rfl)) (ng_name (i := 3) (by simp)) (sss_one (ss_if (st_not (st_of (se_call (ok_law_well T) tk (hr.mono (by decide)) hgd rfl (sa_cons (se_var (pv 3)) (sa_cons (se_ix (se_var (pv 2)) (se_var (pv 3))) sa_nil)) rfl (aCons_len (aCons_len aNil_len))))) (sss_one (ss_ret se_bl)) sss_nil)))
      (sss_cons (ss_for (vs := [4]) pz rfl (si_seq (se_bin o_add (se_cut (se_var (pv 0)) sp_no (sp_so se_int)) (se_own (so_lst (sa_cons se_int sa_nil))))) (pg_name (i := 4) nd rfl (by first | exact Or.inl rfl | exact Or.inr rfl)) (ng_name (i := 4) (by simp)) (sss_newL (i := 1) nd rfl (by first | exact Or.inl rfl | exact Or.inr rfl) (so_call (ok_law_draws T) tk (hr.mono (by decide)) hgd rfl (sa_cons (se_var (pv 4)) sa_nil) rfl (aCons_len aNil_len))
      (sss_cons (ss_setO (i := 5) nd rfl (by first | exact Or.inl rfl | exact Or.inr rfl) (so_lst sa_nil))
      (sss_cons (ss_for (vs := [6]) pz rfl (si_rng1 rfl T.b_range (sa_cons se_int sa_nil)) (pg_name (i := 6) nd rfl (by first | exact Or.inl rfl | exact Or.inr rfl)) (ng_name (i := 6) (by simp)) (sss_one (ss_appX (pv 5) (sx_lst (sxa_cons (sx_callL (i := 1) (ok_law_row T) tk (hr.mono (by decide)) hgd rfl (pv 1) (sxa_cons (sx_of (W := fun c d _ H' => E c d H') se_int) sxa_nil) (xaCons_len xaNil_len)) (sxa_cons (sx_callL (i := 1) (ok_law_pushes T) tk (hr.mono (by decide)) hgd rfl (pv 1) (sxa_cons (sx_of (W := fun c d _ H' => E c d H') se_int) sxa_nil) (xaCons_len xaNil_len)) (sxa_cons (sx_callL (i := 1) (ok_law_seen T) tk (hr.mono (by decide)) hgd rfl (pv 1) (sxa_cons (sx_of (W := fun c d _ H' => E c d H') se_int) sxa_nil) (xaCons_len xaNil_len)) (sxa_cons (sx_callL (i := 1) (ok_law_shows T) tk (hr.mono (by decide)) hgd rfl (pv 1) (sxa_cons (sx_of (W := fun c d _ H' => E c d H') se_int) sxa_nil) (xaCons_len xaNil_len)) sxa_nil))))))))
      (sss_cons (ss_set (i := 7) nd rfl (by first | exact Or.inl rfl | exact Or.inr rfl) (se_own (so_lst (sa_cons (se_call (ok_read_row T) tk (hr.mono (by decide)) hgd rfl (sa_cons (se_call (ok_law_steps_text T) tk (hr.mono (by decide)) hgd rfl (sa_cons (se_ix (se_ix (se_var (pv 5)) se_int) se_int) sa_nil) rfl (aCons_len aNil_len)) sa_nil) rfl (aCons_len aNil_len)) (sa_cons (se_call (ok_read_pushes T) tk (hr.mono (by decide)) hgd rfl (sa_cons (se_call (ok_law_steps_text T) tk (hr.mono (by decide)) hgd rfl (sa_cons (se_ix (se_ix (se_var (pv 5)) se_int) se_int) sa_nil) rfl (aCons_len aNil_len)) sa_nil) rfl (aCons_len aNil_len)) sa_nil)))))
      (sss_cons (ss_set (i := 7) nd rfl (by first | exact Or.inl rfl | exact Or.inr rfl) (se_bin o_add (se_var (pv 7)) (se_own (so_lst (sa_cons (se_call (ok_read_shown T) tk (hr.mono (by decide)) hgd rfl (sa_cons (se_call (ok_law_seen_text T) tk (hr.mono (by decide)) hgd rfl (sa_cons (se_ix (se_ix (se_var (pv 5)) se_int) se_int) sa_nil) rfl (aCons_len aNil_len)) sa_nil) rfl (aCons_len aNil_len)) (sa_cons (se_call (ok_read_shows T) tk (hr.mono (by decide)) hgd rfl (sa_cons (se_call (ok_law_shows_text T) tk (hr.mono (by decide)) hgd rfl (sa_cons (se_ix (se_ix (se_var (pv 5)) se_int) se_int) sa_nil) rfl (aCons_len aNil_len)) sa_nil) rfl (aCons_len aNil_len)) sa_nil))))))
      (sss_cons (ss_freeze (i := 5) (ss_for (vs := [8]) pz rfl (si_seq (se_own (so_lst (sa_cons (se_ix (se_var (pv 5)) se_int) (sa_cons (se_ix (se_var (pv 5)) se_int) sa_nil))))) (pg_name (i := 8) nd rfl (by first | exact Or.inl rfl | exact Or.inr rfl)) (ng_name (i := 8) (by simp)) (sss_one (ss_for (vs := [3]) pz rfl (si_rng1 rfl T.b_range (sa_cons se_int sa_nil)) (pg_name (i := 3) nd rfl (by first | exact Or.inl rfl | exact Or.inr rfl)) (ng_name (i := 3) (by simp)) (sss_one (ss_if (st_not (st_of (se_call (ok_law_well T) tk (hr.mono (by decide)) hgd rfl (sa_cons (se_var (pv 3)) (sa_cons (se_ix (se_var (pv 8)) (se_var (pv 3))) sa_nil)) rfl (aCons_len (aCons_len aNil_len))))) (sss_one (ss_ret se_bl)) sss_nil))))))
      (sss_one (ss_if (st_cmp (o_ne hu64) (se_var (pv 7)) (se_ix (se_var (pv 5)) se_int) (nomark _)) (sss_one (ss_ret se_bl)) sss_nil)))))))))
      (sss_one (ss_ret se_bl)))))))
end
theorem all_mk {l : PySem.W.OpenLaw} {w : World} {K : PySem.W.Frag} {h : Heap} {mg : Str → Option Value} {fa : Addr} (X : K.In h) (G : h.Ns mainGlobals mg) (hfa : mg "law" = some (.ref fa))
    {f0 : Addr} {od0 an0 : Option Addr} {sl0 : Array (Option Value)} {oc0 kV0 dc0 pm0 cd0 ct0 : Value}
    (a0 : PySem.W.nsIn K mainGlobals "words_in" = some (some (.ref f0))) (l0 : K.lookup f0 = some ⟨oc0, od0, .func (PySem.W.fnOf "words_in" "words_in" (defArgs (topS 11)) (defBody (topS 11)) (defScope (topS 11)) .none kV0 dc0 pm0 an0 cd0 ct0), sl0⟩) (c0 : PySem.W.codeIn K cd0 "words_in" = true) (k0 : PySem.W.keepIn K (.ref f0) = true)
    {f1 : Addr} {od1 an1 : Option Addr} {sl1 : Array (Option Value)} {oc1 kV1 dc1 pm1 cd1 ct1 : Value}
    (a1 : PySem.W.nsIn K mainGlobals "sure" = some (some (.ref f1))) (l1 : K.lookup f1 = some ⟨oc1, od1, .func (PySem.W.fnOf "sure" "sure" (defArgs (topS 6)) (defBody (topS 6)) (defScope (topS 6)) .none kV1 dc1 pm1 an1 cd1 ct1), sl1⟩) (c1 : PySem.W.codeIn K cd1 "sure" = true) (k1 : PySem.W.keepIn K (.ref f1) = true)
    {f2 : Addr} {od2 an2 : Option Addr} {sl2 : Array (Option Value)} {oc2 kV2 dc2 pm2 cd2 ct2 : Value}
    (a2 : PySem.W.nsIn K mainGlobals "count_in" = some (some (.ref f2))) (l2 : K.lookup f2 = some ⟨oc2, od2, .func (PySem.W.fnOf "count_in" "count_in" (defArgs (topS 7)) (defBody (topS 7)) (defScope (topS 7)) .none kV2 dc2 pm2 an2 cd2 ct2), sl2⟩) (c2 : PySem.W.codeIn K cd2 "count_in" = true) (k2 : PySem.W.keepIn K (.ref f2) = true)
    {f3 : Addr} {od3 an3 : Option Addr} {sl3 : Array (Option Value)} {oc3 kV3 dc3 pm3 cd3 ct3 : Value}
    (a3 : PySem.W.nsIn K mainGlobals "way_in" = some (some (.ref f3))) (l3 : K.lookup f3 = some ⟨oc3, od3, .func (PySem.W.fnOf "way_in" "way_in" (defArgs (topS 8)) (defBody (topS 8)) (defScope (topS 8)) .none kV3 dc3 pm3 an3 cd3 ct3), sl3⟩) (c3 : PySem.W.codeIn K cd3 "way_in" = true) (k3 : PySem.W.keepIn K (.ref f3) = true)
    {f4 : Addr} {od4 an4 : Option Addr} {sl4 : Array (Option Value)} {oc4 kV4 dc4 pm4 cd4 ct4 : Value}
    (a4 : PySem.W.nsIn K mainGlobals "push_in" = some (some (.ref f4))) (l4 : K.lookup f4 = some ⟨oc4, od4, .func (PySem.W.fnOf "push_in" "push_in" (defArgs (topS 13)) (defBody (topS 13)) (defScope (topS 13)) .none kV4 dc4 pm4 an4 cd4 ct4), sl4⟩) (c4 : PySem.W.codeIn K cd4 "push_in" = true) (k4 : PySem.W.keepIn K (.ref f4) = true)
    {f5 : Addr} {od5 an5 : Option Addr} {sl5 : Array (Option Value)} {oc5 kV5 dc5 pm5 cd5 ct5 : Value}
    (a5 : PySem.W.nsIn K mainGlobals "deed_in" = some (some (.ref f5))) (l5 : K.lookup f5 = some ⟨oc5, od5, .func (PySem.W.fnOf "deed_in" "deed_in" (defArgs (topS 14)) (defBody (topS 14)) (defScope (topS 14)) .none kV5 dc5 pm5 an5 cd5 ct5), sl5⟩) (c5 : PySem.W.codeIn K cd5 "deed_in" = true) (k5 : PySem.W.keepIn K (.ref f5) = true)
    {f6 : Addr} {od6 an6 : Option Addr} {sl6 : Array (Option Value)} {oc6 kV6 dc6 pm6 cd6 ct6 : Value}
    (a6 : PySem.W.nsIn K mainGlobals "read_row" = some (some (.ref f6))) (l6 : K.lookup f6 = some ⟨oc6, od6, .func (PySem.W.fnOf "read_row" "read_row" (defArgs (topS 16)) (defBody (topS 16)) (defScope (topS 16)) .none kV6 dc6 pm6 an6 cd6 ct6), sl6⟩) (c6 : PySem.W.codeIn K cd6 "read_row" = true) (k6 : PySem.W.keepIn K (.ref f6) = true)
    {f7 : Addr} {od7 an7 : Option Addr} {sl7 : Array (Option Value)} {oc7 kV7 dc7 pm7 cd7 ct7 : Value}
    (a7 : PySem.W.nsIn K mainGlobals "read_pushes" = some (some (.ref f7))) (l7 : K.lookup f7 = some ⟨oc7, od7, .func (PySem.W.fnOf "read_pushes" "read_pushes" (defArgs (topS 18)) (defBody (topS 18)) (defScope (topS 18)) .none kV7 dc7 pm7 an7 cd7 ct7), sl7⟩) (c7 : PySem.W.codeIn K cd7 "read_pushes" = true) (k7 : PySem.W.keepIn K (.ref f7) = true)
    {f8 : Addr} {od8 an8 : Option Addr} {sl8 : Array (Option Value)} {oc8 kV8 dc8 pm8 cd8 ct8 : Value}
    (a8 : PySem.W.nsIn K mainGlobals "shown_in" = some (some (.ref f8))) (l8 : K.lookup f8 = some ⟨oc8, od8, .func (PySem.W.fnOf "shown_in" "shown_in" (defArgs (topS 19)) (defBody (topS 19)) (defScope (topS 19)) .none kV8 dc8 pm8 an8 cd8 ct8), sl8⟩) (c8 : PySem.W.codeIn K cd8 "shown_in" = true) (k8 : PySem.W.keepIn K (.ref f8) = true)
    {f9 : Addr} {od9 an9 : Option Addr} {sl9 : Array (Option Value)} {oc9 kV9 dc9 pm9 cd9 ct9 : Value}
    (a9 : PySem.W.nsIn K mainGlobals "read_shown" = some (some (.ref f9))) (l9 : K.lookup f9 = some ⟨oc9, od9, .func (PySem.W.fnOf "read_shown" "read_shown" (defArgs (topS 21)) (defBody (topS 21)) (defScope (topS 21)) .none kV9 dc9 pm9 an9 cd9 ct9), sl9⟩) (c9 : PySem.W.codeIn K cd9 "read_shown" = true) (k9 : PySem.W.keepIn K (.ref f9) = true)
    {f10 : Addr} {od10 an10 : Option Addr} {sl10 : Array (Option Value)} {oc10 kV10 dc10 pm10 cd10 ct10 : Value}
    (a10 : PySem.W.nsIn K mainGlobals "read_shows" = some (some (.ref f10))) (l10 : K.lookup f10 = some ⟨oc10, od10, .func (PySem.W.fnOf "read_shows" "read_shows" (defArgs (topS 23)) (defBody (topS 23)) (defScope (topS 23)) .none kV10 dc10 pm10 an10 cd10 ct10), sl10⟩) (c10 : PySem.W.codeIn K cd10 "read_shows" = true) (k10 : PySem.W.keepIn K (.ref f10) = true)
    {f11 : Addr} {od11 an11 : Option Addr} {sl11 : Array (Option Value)} {oc11 kV11 dc11 pm11 cd11 ct11 : Value}
    (a11 : PySem.W.nsIn K mainGlobals "_law_draws" = some (some (.ref f11))) (l11 : K.lookup f11 = some ⟨oc11, od11, .func (PySem.W.fnOf "_law_draws" "_law_draws" (defArgs (topS 25)) (defBody (topS 25)) (defScope (topS 25)) .none kV11 dc11 pm11 an11 cd11 ct11), sl11⟩) (c11 : PySem.W.codeIn K cd11 "_law_draws" = true) (k11 : PySem.W.keepIn K (.ref f11) = true)
    {f12 : Addr} {od12 an12 : Option Addr} {sl12 : Array (Option Value)} {oc12 kV12 dc12 pm12 cd12 ct12 : Value}
    (a12 : PySem.W.nsIn K mainGlobals "_law_next" = some (some (.ref f12))) (l12 : K.lookup f12 = some ⟨oc12, od12, .func (PySem.W.fnOf "_law_next" "_law_next" (defArgs (topS 26)) (defBody (topS 26)) (defScope (topS 26)) .none kV12 dc12 pm12 an12 cd12 ct12), sl12⟩) (c12 : PySem.W.codeIn K cd12 "_law_next" = true) (k12 : PySem.W.keepIn K (.ref f12) = true)
    {f13 : Addr} {od13 an13 : Option Addr} {sl13 : Array (Option Value)} {oc13 kV13 dc13 pm13 cd13 ct13 : Value}
    (a13 : PySem.W.nsIn K mainGlobals "_law_number" = some (some (.ref f13))) (l13 : K.lookup f13 = some ⟨oc13, od13, .func (PySem.W.fnOf "_law_number" "_law_number" (defArgs (topS 28)) (defBody (topS 28)) (defScope (topS 28)) .none kV13 dc13 pm13 an13 cd13 ct13), sl13⟩) (c13 : PySem.W.codeIn K cd13 "_law_number" = true) (k13 : PySem.W.keepIn K (.ref f13) = true)
    {f14 : Addr} {od14 an14 : Option Addr} {sl14 : Array (Option Value)} {oc14 kV14 dc14 pm14 cd14 ct14 : Value}
    (a14 : PySem.W.nsIn K mainGlobals "_law_ways" = some (some (.ref f14))) (l14 : K.lookup f14 = some ⟨oc14, od14, .func (PySem.W.fnOf "_law_ways" "_law_ways" (defArgs (topS 29)) (defBody (topS 29)) (defScope (topS 29)) .none kV14 dc14 pm14 an14 cd14 ct14), sl14⟩) (c14 : PySem.W.codeIn K cd14 "_law_ways" = true) (k14 : PySem.W.keepIn K (.ref f14) = true)
    {f15 : Addr} {od15 an15 : Option Addr} {sl15 : Array (Option Value)} {oc15 kV15 dc15 pm15 cd15 ct15 : Value}
    (a15 : PySem.W.nsIn K mainGlobals "_law_row" = some (some (.ref f15))) (l15 : K.lookup f15 = some ⟨oc15, od15, .func (PySem.W.fnOf "_law_row" "_law_row" (defArgs (topS 30)) (defBody (topS 30)) (defScope (topS 30)) .none kV15 dc15 pm15 an15 cd15 ct15), sl15⟩) (c15 : PySem.W.codeIn K cd15 "_law_row" = true) (k15 : PySem.W.keepIn K (.ref f15) = true)
    {f16 : Addr} {od16 an16 : Option Addr} {sl16 : Array (Option Value)} {oc16 kV16 dc16 pm16 cd16 ct16 : Value}
    (a16 : PySem.W.nsIn K mainGlobals "_law_pushes" = some (some (.ref f16))) (l16 : K.lookup f16 = some ⟨oc16, od16, .func (PySem.W.fnOf "_law_pushes" "_law_pushes" (defArgs (topS 31)) (defBody (topS 31)) (defScope (topS 31)) .none kV16 dc16 pm16 an16 cd16 ct16), sl16⟩) (c16 : PySem.W.codeIn K cd16 "_law_pushes" = true) (k16 : PySem.W.keepIn K (.ref f16) = true)
    {f17 : Addr} {od17 an17 : Option Addr} {sl17 : Array (Option Value)} {oc17 kV17 dc17 pm17 cd17 ct17 : Value}
    (a17 : PySem.W.nsIn K mainGlobals "_law_seen" = some (some (.ref f17))) (l17 : K.lookup f17 = some ⟨oc17, od17, .func (PySem.W.fnOf "_law_seen" "_law_seen" (defArgs (topS 32)) (defBody (topS 32)) (defScope (topS 32)) .none kV17 dc17 pm17 an17 cd17 ct17), sl17⟩) (c17 : PySem.W.codeIn K cd17 "_law_seen" = true) (k17 : PySem.W.keepIn K (.ref f17) = true)
    {f18 : Addr} {od18 an18 : Option Addr} {sl18 : Array (Option Value)} {oc18 kV18 dc18 pm18 cd18 ct18 : Value}
    (a18 : PySem.W.nsIn K mainGlobals "_law_shows" = some (some (.ref f18))) (l18 : K.lookup f18 = some ⟨oc18, od18, .func (PySem.W.fnOf "_law_shows" "_law_shows" (defArgs (topS 33)) (defBody (topS 33)) (defScope (topS 33)) .none kV18 dc18 pm18 an18 cd18 ct18), sl18⟩) (c18 : PySem.W.codeIn K cd18 "_law_shows" = true) (k18 : PySem.W.keepIn K (.ref f18) = true)
    {f19 : Addr} {od19 an19 : Option Addr} {sl19 : Array (Option Value)} {oc19 kV19 dc19 pm19 cd19 ct19 : Value}
    (a19 : PySem.W.nsIn K mainGlobals "_law_list_text" = some (some (.ref f19))) (l19 : K.lookup f19 = some ⟨oc19, od19, .func (PySem.W.fnOf "_law_list_text" "_law_list_text" (defArgs (topS 34)) (defBody (topS 34)) (defScope (topS 34)) .none kV19 dc19 pm19 an19 cd19 ct19), sl19⟩) (c19 : PySem.W.codeIn K cd19 "_law_list_text" = true) (k19 : PySem.W.keepIn K (.ref f19) = true)
    {f20 : Addr} {od20 an20 : Option Addr} {sl20 : Array (Option Value)} {oc20 kV20 dc20 pm20 cd20 ct20 : Value}
    (a20 : PySem.W.nsIn K mainGlobals "_law_step_text" = some (some (.ref f20))) (l20 : K.lookup f20 = some ⟨oc20, od20, .func (PySem.W.fnOf "_law_step_text" "_law_step_text" (defArgs (topS 35)) (defBody (topS 35)) (defScope (topS 35)) .none kV20 dc20 pm20 an20 cd20 ct20), sl20⟩) (c20 : PySem.W.codeIn K cd20 "_law_step_text" = true) (k20 : PySem.W.keepIn K (.ref f20) = true)
    {f21 : Addr} {od21 an21 : Option Addr} {sl21 : Array (Option Value)} {oc21 kV21 dc21 pm21 cd21 ct21 : Value}
    (a21 : PySem.W.nsIn K mainGlobals "_law_steps_text" = some (some (.ref f21))) (l21 : K.lookup f21 = some ⟨oc21, od21, .func (PySem.W.fnOf "_law_steps_text" "_law_steps_text" (defArgs (topS 36)) (defBody (topS 36)) (defScope (topS 36)) .none kV21 dc21 pm21 an21 cd21 ct21), sl21⟩) (c21 : PySem.W.codeIn K cd21 "_law_steps_text" = true) (k21 : PySem.W.keepIn K (.ref f21) = true)
    {f22 : Addr} {od22 an22 : Option Addr} {sl22 : Array (Option Value)} {oc22 kV22 dc22 pm22 cd22 ct22 : Value}
    (a22 : PySem.W.nsIn K mainGlobals "_law_seen_text" = some (some (.ref f22))) (l22 : K.lookup f22 = some ⟨oc22, od22, .func (PySem.W.fnOf "_law_seen_text" "_law_seen_text" (defArgs (topS 37)) (defBody (topS 37)) (defScope (topS 37)) .none kV22 dc22 pm22 an22 cd22 ct22), sl22⟩) (c22 : PySem.W.codeIn K cd22 "_law_seen_text" = true) (k22 : PySem.W.keepIn K (.ref f22) = true)
    {f23 : Addr} {od23 an23 : Option Addr} {sl23 : Array (Option Value)} {oc23 kV23 dc23 pm23 cd23 ct23 : Value}
    (a23 : PySem.W.nsIn K mainGlobals "_law_shows_text" = some (some (.ref f23))) (l23 : K.lookup f23 = some ⟨oc23, od23, .func (PySem.W.fnOf "_law_shows_text" "_law_shows_text" (defArgs (topS 38)) (defBody (topS 38)) (defScope (topS 38)) .none kV23 dc23 pm23 an23 cd23 ct23), sl23⟩) (c23 : PySem.W.codeIn K cd23 "_law_shows_text" = true) (k23 : PySem.W.keepIn K (.ref f23) = true)
    {f24 : Addr} {od24 an24 : Option Addr} {sl24 : Array (Option Value)} {oc24 kV24 dc24 pm24 cd24 ct24 : Value}
    (a24 : PySem.W.nsIn K mainGlobals "listed" = some (some (.ref f24))) (l24 : K.lookup f24 = some ⟨oc24, od24, .func (PySem.W.fnOf "listed" "listed" (defArgs (topS 10)) (defBody (topS 10)) (defScope (topS 10)) .none kV24 dc24 pm24 an24 cd24 ct24), sl24⟩) (c24 : PySem.W.codeIn K cd24 "listed" = true) (k24 : PySem.W.keepIn K (.ref f24) = true)
    {f25 : Addr} {od25 an25 : Option Addr} {sl25 : Array (Option Value)} {oc25 kV25 dc25 pm25 cd25 ct25 : Value}
    (a25 : PySem.W.nsIn K mainGlobals "way_shown" = some (some (.ref f25))) (l25 : K.lookup f25 = some ⟨oc25, od25, .func (PySem.W.fnOf "way_shown" "way_shown" (defArgs (topS 9)) (defBody (topS 9)) (defScope (topS 9)) .none kV25 dc25 pm25 an25 cd25 ct25), sl25⟩) (c25 : PySem.W.codeIn K cd25 "way_shown" = true) (k25 : PySem.W.keepIn K (.ref f25) = true)
    {f26 : Addr} {od26 an26 : Option Addr} {sl26 : Array (Option Value)} {oc26 kV26 dc26 pm26 cd26 ct26 : Value}
    (a26 : PySem.W.nsIn K mainGlobals "step_shown" = some (some (.ref f26))) (l26 : K.lookup f26 = some ⟨oc26, od26, .func (PySem.W.fnOf "step_shown" "step_shown" (defArgs (topS 12)) (defBody (topS 12)) (defScope (topS 12)) .none kV26 dc26 pm26 an26 cd26 ct26), sl26⟩) (c26 : PySem.W.codeIn K cd26 "step_shown" = true) (k26 : PySem.W.keepIn K (.ref f26) = true)
    {f27 : Addr} {od27 an27 : Option Addr} {sl27 : Array (Option Value)} {oc27 kV27 dc27 pm27 cd27 ct27 : Value}
    (a27 : PySem.W.nsIn K mainGlobals "show_row" = some (some (.ref f27))) (l27 : K.lookup f27 = some ⟨oc27, od27, .func (PySem.W.fnOf "show_row" "show_row" (defArgs (topS 15)) (defBody (topS 15)) (defScope (topS 15)) .none kV27 dc27 pm27 an27 cd27 ct27), sl27⟩) (c27 : PySem.W.codeIn K cd27 "show_row" = true) (k27 : PySem.W.keepIn K (.ref f27) = true)
    {f28 : Addr} {od28 an28 : Option Addr} {sl28 : Array (Option Value)} {oc28 kV28 dc28 pm28 cd28 ct28 : Value}
    (a28 : PySem.W.nsIn K mainGlobals "show_pushes" = some (some (.ref f28))) (l28 : K.lookup f28 = some ⟨oc28, od28, .func (PySem.W.fnOf "show_pushes" "show_pushes" (defArgs (topS 17)) (defBody (topS 17)) (defScope (topS 17)) .none kV28 dc28 pm28 an28 cd28 ct28), sl28⟩) (c28 : PySem.W.codeIn K cd28 "show_pushes" = true) (k28 : PySem.W.keepIn K (.ref f28) = true)
    {f29 : Addr} {od29 an29 : Option Addr} {sl29 : Array (Option Value)} {oc29 kV29 dc29 pm29 cd29 ct29 : Value}
    (a29 : PySem.W.nsIn K mainGlobals "show_shown" = some (some (.ref f29))) (l29 : K.lookup f29 = some ⟨oc29, od29, .func (PySem.W.fnOf "show_shown" "show_shown" (defArgs (topS 20)) (defBody (topS 20)) (defScope (topS 20)) .none kV29 dc29 pm29 an29 cd29 ct29), sl29⟩) (c29 : PySem.W.codeIn K cd29 "show_shown" = true) (k29 : PySem.W.keepIn K (.ref f29) = true)
    {f30 : Addr} {od30 an30 : Option Addr} {sl30 : Array (Option Value)} {oc30 kV30 dc30 pm30 cd30 ct30 : Value}
    (a30 : PySem.W.nsIn K mainGlobals "show_shows" = some (some (.ref f30))) (l30 : K.lookup f30 = some ⟨oc30, od30, .func (PySem.W.fnOf "show_shows" "show_shows" (defArgs (topS 22)) (defBody (topS 22)) (defScope (topS 22)) .none kV30 dc30 pm30 an30 cd30 ct30), sl30⟩) (c30 : PySem.W.codeIn K cd30 "show_shows" = true) (k30 : PySem.W.keepIn K (.ref f30) = true)
    {f31 : Addr} {od31 an31 : Option Addr} {sl31 : Array (Option Value)} {oc31 kV31 dc31 pm31 cd31 ct31 : Value}
    (a31 : PySem.W.nsIn K mainGlobals "_law_whole" = some (some (.ref f31))) (l31 : K.lookup f31 = some ⟨oc31, od31, .func (PySem.W.fnOf "_law_whole" "_law_whole" (defArgs (topS 27)) (defBody (topS 27)) (defScope (topS 27)) .none kV31 dc31 pm31 an31 cd31 ct31), sl31⟩) (c31 : PySem.W.codeIn K cd31 "_law_whole" = true) (k31 : PySem.W.keepIn K (.ref f31) = true)
    {f32 : Addr} {od32 an32 : Option Addr} {sl32 : Array (Option Value)} {oc32 kV32 dc32 pm32 cd32 ct32 : Value}
    (a32 : PySem.W.nsIn K mainGlobals "_law_well" = some (some (.ref f32))) (l32 : K.lookup f32 = some ⟨oc32, od32, .func (PySem.W.fnOf "_law_well" "_law_well" (defArgs (topS 39)) (defBody (topS 39)) (defScope (topS 39)) .none kV32 dc32 pm32 an32 cd32 ct32), sl32⟩) (c32 : PySem.W.codeIn K cd32 "_law_well" = true) (k32 : PySem.W.keepIn K (.ref f32) = true)
    {f33 : Addr} {od33 an33 : Option Addr} {sl33 : Array (Option Value)} {oc33 kV33 dc33 pm33 cd33 ct33 : Value}
    (a33 : PySem.W.nsIn K mainGlobals "law" = some (some (.ref f33))) (l33 : K.lookup f33 = some ⟨oc33, od33, .func (PySem.W.fnOf "law" "law" (defArgs (topS 40)) (defBody (topS 40)) (defScope (topS 40)) .none kV33 dc33 pm33 an33 cd33 ct33), sl33⟩) (c33 : PySem.W.codeIn K cd33 "law" = true) (k33 : PySem.W.keepIn K (.ref f33) = true)
    (z_all : PySem.W.nsIn K mainGlobals "all" = some none)
    (z_bool : PySem.W.nsIn K mainGlobals "bool" = some none)
    (z_int : PySem.W.nsIn K mainGlobals "int" = some none)
    (z_isinstance : PySem.W.nsIn K mainGlobals "isinstance" = some none)
    (z_len : PySem.W.nsIn K mainGlobals "len" = some none)
    (z_list : PySem.W.nsIn K mainGlobals "list" = some none)
    (z_range : PySem.W.nsIn K mainGlobals "range" = some none)
    (z_str : PySem.W.nsIn K mainGlobals "str" = some none)
    (z_tuple : PySem.W.nsIn K mainGlobals "tuple" = some none)
    {t_FIGURES : Tok} (y_FIGURES : PySem.W.nsIn K mainGlobals "FIGURES" = some (some (.str "0123456789" t_FIGURES)))
    {t_LONGEST : Tok} (y_LONGEST : PySem.W.nsIn K mainGlobals "LONGEST" = some (some (.int 40 t_LONGEST)))
    {e_NoText : Addr} (ea_NoText : PySem.W.nsIn K mainGlobals "NoText" = some (some (.ref e_NoText))) (eb_NoText : PySem.W.excIn K e_NoText [.type "ValueError", .type "Exception", .type "BaseException", .type "object"] "ValueError.__new__" = true) (ek_NoText : PySem.W.keepIn K (.ref e_NoText) = true) (es_NoText : PySem.W.subIn K (.ref e_NoText) (.type "BaseException") = some true) (et_NoText : PySem.W.typeIn K (.ref e_NoText) = some (.type "type"))
    : ∃ fd : FuncData, (∀ (s : Shared) (v : Value), BindsTo s fd ⟨[v], []⟩ [("_law_script", v)]) ∧ ∀ base : Heap, K.In base → base.Ns mainGlobals mg → FnG l.prog w K mg base 7 fa fd ["_law_script"] (spLaw K) := by
  have e := hfa.symm.trans (PySem.W.mg_of X G a33)
  cases e
  have T : Txt K mg (fun n => [].getD n 0) := ⟨⟨_, _, fun_mk (st := topS 11) l0 c0 k0, PySem.W.mg_of X G a0, (fun_mk (st := topS 11) l0 c0 k0).binds (ps := ["text"]) fun _ _ _ _ _ _ us hl => match us, hl with | [_], _ => rfl⟩,
    ⟨_, _, fun_mk (st := topS 6) l1 c1 k1, PySem.W.mg_of X G a1, (fun_mk (st := topS 6) l1 c1 k1).binds (ps := ["good"]) fun _ _ _ _ _ _ us hl => match us, hl with | [_], _ => rfl⟩,
    ⟨_, _, fun_mk (st := topS 7) l2 c2 k2, PySem.W.mg_of X G a2, (fun_mk (st := topS 7) l2 c2 k2).binds (ps := ["word"]) fun _ _ _ _ _ _ us hl => match us, hl with | [_], _ => rfl⟩,
    ⟨_, _, fun_mk (st := topS 8) l3 c3 k3, PySem.W.mg_of X G a3, (fun_mk (st := topS 8) l3 c3 k3).binds (ps := ["word"]) fun _ _ _ _ _ _ us hl => match us, hl with | [_], _ => rfl⟩,
    ⟨_, _, fun_mk (st := topS 13) l4 c4 k4, PySem.W.mg_of X G a4, (fun_mk (st := topS 13) l4 c4 k4).binds (ps := ["word"]) fun _ _ _ _ _ _ us hl => match us, hl with | [_], _ => rfl⟩,
    ⟨_, _, fun_mk (st := topS 14) l5 c5 k5, PySem.W.mg_of X G a5, (fun_mk (st := topS 14) l5 c5 k5).binds (ps := ["word"]) fun _ _ _ _ _ _ us hl => match us, hl with | [_], _ => rfl⟩,
    ⟨_, _, fun_mk (st := topS 16) l6 c6 k6, PySem.W.mg_of X G a6, (fun_mk (st := topS 16) l6 c6 k6).binds (ps := ["text"]) fun _ _ _ _ _ _ us hl => match us, hl with | [_], _ => rfl⟩,
    ⟨_, _, fun_mk (st := topS 18) l7 c7 k7, PySem.W.mg_of X G a7, (fun_mk (st := topS 18) l7 c7 k7).binds (ps := ["text"]) fun _ _ _ _ _ _ us hl => match us, hl with | [_], _ => rfl⟩,
    ⟨_, _, fun_mk (st := topS 19) l8 c8 k8, PySem.W.mg_of X G a8, (fun_mk (st := topS 19) l8 c8 k8).binds (ps := ["word"]) fun _ _ _ _ _ _ us hl => match us, hl with | [_], _ => rfl⟩,
    ⟨_, _, fun_mk (st := topS 21) l9 c9 k9, PySem.W.mg_of X G a9, (fun_mk (st := topS 21) l9 c9 k9).binds (ps := ["text"]) fun _ _ _ _ _ _ us hl => match us, hl with | [_], _ => rfl⟩,
    ⟨_, _, fun_mk (st := topS 23) l10 c10 k10, PySem.W.mg_of X G a10, (fun_mk (st := topS 23) l10 c10 k10).binds (ps := ["text"]) fun _ _ _ _ _ _ us hl => match us, hl with | [_], _ => rfl⟩,
    ⟨_, _, fun_mk (st := topS 25) l11 c11 k11, PySem.W.mg_of X G a11, (fun_mk (st := topS 25) l11 c11 k11).binds (ps := ["_law_cell"]) fun _ _ _ _ _ _ us hl => match us, hl with | [_], _ => rfl⟩,
    ⟨_, _, fun_mk (st := topS 26) l12 c12 k12, PySem.W.mg_of X G a12, (fun_mk (st := topS 26) l12 c12 k12).binds (ps := ["_law_draws_here"]) fun _ _ _ _ _ _ us hl => match us, hl with | [_], _ => rfl⟩,
    ⟨_, _, fun_mk (st := topS 28) l13 c13 k13, PySem.W.mg_of X G a13, (fun_mk (st := topS 28) l13 c13 k13).binds (ps := ["_law_draws_here"]) fun _ _ _ _ _ _ us hl => match us, hl with | [_], _ => rfl⟩,
    ⟨_, _, fun_mk (st := topS 29) l14 c14 k14, PySem.W.mg_of X G a14, (fun_mk (st := topS 29) l14 c14 k14).binds (ps := ["_law_draws_here", "_law_many"]) fun _ _ _ _ _ _ us hl => match us, hl with | [_, _], _ => rfl⟩,
    ⟨_, _, fun_mk (st := topS 30) l15 c15 k15, PySem.W.mg_of X G a15, (fun_mk (st := topS 30) l15 c15 k15).binds (ps := ["_law_draws_here", "_law_many"]) fun _ _ _ _ _ _ us hl => match us, hl with | [_, _], _ => rfl⟩,
    ⟨_, _, fun_mk (st := topS 31) l16 c16 k16, PySem.W.mg_of X G a16, (fun_mk (st := topS 31) l16 c16 k16).binds (ps := ["_law_draws_here", "_law_many"]) fun _ _ _ _ _ _ us hl => match us, hl with | [_, _], _ => rfl⟩,
    ⟨_, _, fun_mk (st := topS 32) l17 c17 k17, PySem.W.mg_of X G a17, (fun_mk (st := topS 32) l17 c17 k17).binds (ps := ["_law_draws_here", "_law_many"]) fun _ _ _ _ _ _ us hl => match us, hl with | [_, _], _ => rfl⟩,
    ⟨_, _, fun_mk (st := topS 33) l18 c18 k18, PySem.W.mg_of X G a18, (fun_mk (st := topS 33) l18 c18 k18).binds (ps := ["_law_draws_here", "_law_many"]) fun _ _ _ _ _ _ us hl => match us, hl with | [_, _], _ => rfl⟩,
    ⟨_, _, fun_mk (st := topS 34) l19 c19 k19, PySem.W.mg_of X G a19, (fun_mk (st := topS 34) l19 c19 k19).binds (ps := ["_law_words"]) fun _ _ _ _ _ _ us hl => match us, hl with | [_], _ => rfl⟩,
    ⟨_, _, fun_mk (st := topS 35) l20 c20 k20, PySem.W.mg_of X G a20, (fun_mk (st := topS 35) l20 c20 k20).binds (ps := ["_law_step"]) fun _ _ _ _ _ _ us hl => match us, hl with | [_], _ => rfl⟩,
    ⟨_, _, fun_mk (st := topS 36) l21 c21 k21, PySem.W.mg_of X G a21, (fun_mk (st := topS 36) l21 c21 k21).binds (ps := ["_law_steps"]) fun _ _ _ _ _ _ us hl => match us, hl with | [_], _ => rfl⟩,
    ⟨_, _, fun_mk (st := topS 37) l22 c22 k22, PySem.W.mg_of X G a22, (fun_mk (st := topS 37) l22 c22 k22).binds (ps := ["_law_seen_here"]) fun _ _ _ _ _ _ us hl => match us, hl with | [_], _ => rfl⟩,
    ⟨_, _, fun_mk (st := topS 38) l23 c23 k23, PySem.W.mg_of X G a23, (fun_mk (st := topS 38) l23 c23 k23).binds (ps := ["_law_shows_here"]) fun _ _ _ _ _ _ us hl => match us, hl with | [_], _ => rfl⟩,
    ⟨_, _, fun_mk (st := topS 10) l24 c24 k24, PySem.W.mg_of X G a24, (fun_mk (st := topS 10) l24 c24 k24).binds (ps := ["words"]) fun _ _ _ _ _ _ us hl => match us, hl with | [_], _ => rfl⟩,
    ⟨_, _, fun_mk (st := topS 9) l25 c25 k25, PySem.W.mg_of X G a25, (fun_mk (st := topS 9) l25 c25 k25).binds (ps := ["way"]) fun _ _ _ _ _ _ us hl => match us, hl with | [_], _ => rfl⟩,
    ⟨_, _, fun_mk (st := topS 12) l26 c26 k26, PySem.W.mg_of X G a26, (fun_mk (st := topS 12) l26 c26 k26).binds (ps := ["step"]) fun _ _ _ _ _ _ us hl => match us, hl with | [_], _ => rfl⟩,
    ⟨_, _, fun_mk (st := topS 15) l27 c27 k27, PySem.W.mg_of X G a27, (fun_mk (st := topS 15) l27 c27 k27).binds (ps := ["row"]) fun _ _ _ _ _ _ us hl => match us, hl with | [_], _ => rfl⟩,
    ⟨_, _, fun_mk (st := topS 17) l28 c28 k28, PySem.W.mg_of X G a28, (fun_mk (st := topS 17) l28 c28 k28).binds (ps := ["pushes"]) fun _ _ _ _ _ _ us hl => match us, hl with | [_], _ => rfl⟩,
    ⟨_, _, fun_mk (st := topS 20) l29 c29 k29, PySem.W.mg_of X G a29, (fun_mk (st := topS 20) l29 c29 k29).binds (ps := ["shown"]) fun _ _ _ _ _ _ us hl => match us, hl with | [_], _ => rfl⟩,
    ⟨_, _, fun_mk (st := topS 22) l30 c30 k30, PySem.W.mg_of X G a30, (fun_mk (st := topS 22) l30 c30 k30).binds (ps := ["shows"]) fun _ _ _ _ _ _ us hl => match us, hl with | [_], _ => rfl⟩,
    ⟨_, _, fun_mk (st := topS 27) l31 c31 k31, PySem.W.mg_of X G a31, (fun_mk (st := topS 27) l31 c31 k31).binds (ps := ["_law_found"]) fun _ _ _ _ _ _ us hl => match us, hl with | [_], _ => rfl⟩,
    ⟨_, _, fun_mk (st := topS 39) l32 c32 k32, PySem.W.mg_of X G a32, (fun_mk (st := topS 39) l32 c32 k32).binds (ps := ["_law_way", "_law_some"]) fun _ _ _ _ _ _ us hl => match us, hl with | [_, _], _ => rfl⟩,
    PySem.W.mg_none_of X G z_all,
    PySem.W.mg_none_of X G z_bool,
    PySem.W.mg_none_of X G z_int,
    PySem.W.mg_none_of X G z_isinstance,
    PySem.W.mg_none_of X G z_len,
    PySem.W.mg_none_of X G z_list,
    PySem.W.mg_none_of X G z_range,
    PySem.W.mg_none_of X G z_str,
    PySem.W.mg_none_of X G z_tuple,
    ⟨_, PySem.W.mg_of X G a22, exK_of a22⟩,
    ⟨_, PySem.W.mg_of X G a23, exK_of a23⟩,
    ⟨_, PySem.W.mg_of X G a21, exK_of a21⟩,
    ⟨_, PySem.W.mg_of X G a7, exK_of a7⟩,
    ⟨_, PySem.W.mg_of X G a6, exK_of a6⟩,
    ⟨_, PySem.W.mg_of X G a9, exK_of a9⟩,
    ⟨_, PySem.W.mg_of X G a10, exK_of a10⟩,
    ⟨_, PySem.W.mg_of X G a28, exK_of a28⟩,
    ⟨_, PySem.W.mg_of X G a27, exK_of a27⟩,
    ⟨_, PySem.W.mg_of X G a29, exK_of a29⟩,
    ⟨_, PySem.W.mg_of X G a30, exK_of a30⟩,
    ⟨_, PySem.W.mg_of X G y_FIGURES, ⟨_, rfl⟩⟩,
    ⟨_, PySem.W.mg_of X G y_LONGEST, ⟨_, rfl⟩⟩,
    ⟨_, PySem.W.mg_of X G ea_NoText, eb_NoText, ek_NoText, es_NoText, et_NoText⟩⟩
  exact ⟨PySem.W.fnOf "law" "law" (defArgs (topS 40)) (defBody (topS 40)) (defScope (topS 40)) .none kV33 dc33 pm33 an33 cd33 ct33, fun s v => .of_eq rfl, fun base _ _ => (fn_law T (fun_mk (st := topS 40) l33 c33 k33)).imp (law_sp law_true)⟩
end CK
open PySem PySem.W PyProof.Rows
set_option maxRecDepth 100000 in
set_option maxHeartbeats 0 in
theorem PySem.Challenge.cw_clicktrain_k72_rows_and_shows_as_texts_holds : PySem.Challenge.rw_clicktrain_k72_rows_and_shows_as_texts.Holds := by
  w_on; o_law; k_head; (case hw => w_witness2)
  k_fill
  refine CT.walk_ofG (l := PySem.Challenge.rw_clicktrain_k72_rows_and_shows_as_texts) (n := 63) (k := 7) (x := "_law_script") (sp := fun w => CT.spLaw _) rfl (by decide) rfl ⟨rfl, by decide, by decide⟩ (fun w h Y => PySem.W.kIn_of Y) ?F (fun _ _ a ns hl _ hS => ⟨a, ns, rfl, hS, hl, fun _ => rfl⟩) (fun _ _ _ _ _ h => CT.cx_no h)
  case F =>
    intro w mg fa h KX G hmg
    refine' CK.all_mk KX G hmg ?a0 ?l0 ?c0 ?k0 ?a1 ?l1 ?c1 ?k1 ?a2 ?l2 ?c2 ?k2 ?a3 ?l3 ?c3 ?k3 ?a4 ?l4 ?c4 ?k4 ?a5 ?l5 ?c5 ?k5 ?a6 ?l6 ?c6 ?k6 ?a7 ?l7 ?c7 ?k7 ?a8 ?l8 ?c8 ?k8 ?a9 ?l9 ?c9 ?k9 ?a10 ?l10 ?c10 ?k10 ?a11 ?l11 ?c11 ?k11 ?a12 ?l12 ?c12 ?k12 ?a13 ?l13 ?c13 ?k13 ?a14 ?l14 ?c14 ?k14 ?a15 ?l15 ?c15 ?k15 ?a16 ?l16 ?c16 ?k16 ?a17 ?l17 ?c17 ?k17 ?a18 ?l18 ?c18 ?k18 ?a19 ?l19 ?c19 ?k19 ?a20 ?l20 ?c20 ?k20 ?a21 ?l21 ?c21 ?k21 ?a22 ?l22 ?c22 ?k22 ?a23 ?l23 ?c23 ?k23 ?a24 ?l24 ?c24 ?k24 ?a25 ?l25 ?c25 ?k25 ?a26 ?l26 ?c26 ?k26 ?a27 ?l27 ?c27 ?k27 ?a28 ?l28 ?c28 ?k28 ?a29 ?l29 ?c29 ?k29 ?a30 ?l30 ?c30 ?k30 ?a31 ?l31 ?c31 ?k31 ?a32 ?l32 ?c32 ?k32 ?a33 ?l33 ?c33 ?k33 ?z_all ?z_bool ?z_int ?z_isinstance ?z_len ?z_list ?z_range ?z_str ?z_tuple ?y_FIGURES ?y_LONGEST ?ea_NoText ?eb_NoText ?ek_NoText ?es_NoText ?et_NoText
    (case a0 => k_is); (case l0 => k_is); (case c0 => k_is); (case k0 => k_is); (case a1 => k_is); (case l1 => k_is); (case c1 => k_is); (case k1 => k_is); (case a2 => k_is); (case l2 => k_is); (case c2 => k_is); (case k2 => k_is); (case a3 => k_is); (case l3 => k_is); (case c3 => k_is); (case k3 => k_is); (case a4 => k_is); (case l4 => k_is); (case c4 => k_is); (case k4 => k_is); (case a5 => k_is); (case l5 => k_is); (case c5 => k_is); (case k5 => k_is); (case a6 => k_is); (case l6 => k_is); (case c6 => k_is); (case k6 => k_is); (case a7 => k_is); (case l7 => k_is); (case c7 => k_is); (case k7 => k_is); (case a8 => k_is); (case l8 => k_is); (case c8 => k_is); (case k8 => k_is); (case a9 => k_is); (case l9 => k_is); (case c9 => k_is); (case k9 => k_is); (case a10 => k_is); (case l10 => k_is); (case c10 => k_is); (case k10 => k_is); (case a11 => k_is); (case l11 => k_is); (case c11 => k_is); (case k11 => k_is); (case a12 => k_is); (case l12 => k_is); (case c12 => k_is); (case k12 => k_is); (case a13 => k_is); (case l13 => k_is); (case c13 => k_is); (case k13 => k_is); (case a14 => k_is); (case l14 => k_is); (case c14 => k_is); (case k14 => k_is); (case a15 => k_is); (case l15 => k_is); (case c15 => k_is); (case k15 => k_is); (case a16 => k_is); (case l16 => k_is); (case c16 => k_is); (case k16 => k_is); (case a17 => k_is); (case l17 => k_is); (case c17 => k_is); (case k17 => k_is); (case a18 => k_is); (case l18 => k_is); (case c18 => k_is); (case k18 => k_is); (case a19 => k_is); (case l19 => k_is); (case c19 => k_is); (case k19 => k_is); (case a20 => k_is); (case l20 => k_is); (case c20 => k_is); (case k20 => k_is); (case a21 => k_is); (case l21 => k_is); (case c21 => k_is); (case k21 => k_is); (case a22 => k_is); (case l22 => k_is); (case c22 => k_is); (case k22 => k_is); (case a23 => k_is); (case l23 => k_is); (case c23 => k_is); (case k23 => k_is); (case a24 => k_is); (case l24 => k_is); (case c24 => k_is); (case k24 => k_is); (case a25 => k_is); (case l25 => k_is); (case c25 => k_is); (case k25 => k_is); (case a26 => k_is); (case l26 => k_is); (case c26 => k_is); (case k26 => k_is); (case a27 => k_is); (case l27 => k_is); (case c27 => k_is); (case k27 => k_is); (case a28 => k_is); (case l28 => k_is); (case c28 => k_is); (case k28 => k_is); (case a29 => k_is); (case l29 => k_is); (case c29 => k_is); (case k29 => k_is); (case a30 => k_is); (case l30 => k_is); (case c30 => k_is); (case k30 => k_is); (case a31 => k_is); (case l31 => k_is); (case c31 => k_is); (case k31 => k_is); (case a32 => k_is); (case l32 => k_is); (case c32 => k_is); (case k32 => k_is); (case a33 => k_is); (case l33 => k_is); (case c33 => k_is); (case k33 => k_is); (case z_all => k_is); (case z_bool => k_is); (case z_int => k_is); (case z_isinstance => k_is); (case z_len => k_is); (case z_list => k_is); (case z_range => k_is); (case z_str => k_is); (case z_tuple => k_is); (case y_FIGURES => k_is); (case y_LONGEST => k_is); (case ea_NoText => k_is); (case eb_NoText => k_exc); (case ek_NoText => k_is); (case es_NoText => k_is); (case et_NoText => k_is)
