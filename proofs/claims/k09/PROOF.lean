import PyProof.Rows.All
import Wide.All
import OpenK.AllK
import Wide.FinOn
import HandS.ForMost
import HandS.Exc
import HandS.TryOnly
import HandS.ExcOwn
import HandS.WordsExc
import HandS.TupAny
import HandS.Deep
import HandS.Dict
import KE.KDictKeyed
import KE.KDictCopyH
import HandS.IsInst
import HandS.Wide
import PyProof.ReprRoads
import HandS.Walk
import HandS.Rev
import KE.GoesMore
import HandS.Style
import HandS.Conv
import HandS.TupLen
import HandS.DictTup
import HandS.ExcIs
import KE.KDictDisplayH
import HandS.SortRule
import KE.SortCalls
import KE.DataCmp
import HandS.TupLe
import KE.KDictSum
import KE.KDictWalk
import HandS.ExcValue
import HandS.TupMul
import HandS.RaiseMore
import PyProof.CallStr
import HandS.More
import HandS.SetFor
import HandS.SetKeys
import KE.GoesEnum
import HandS.TupSets
import PyProof.ReprLen
import PySem.Challenge.RW_clicktrain_k09_whole_wheels_go_by_net_pu
set_option Elab.async false
set_option linter.all false
set_option maxRecDepth 100000
set_option maxHeartbeats 4000000

namespace CT
open PySem PySem.Spec PyProof.Rows L2
theorem nr {α : Sort _} {a b : α} (h : a = b) : a = b := h
def KxO (cls : Value) (a : Addr) : HO := .ext fun h => ∃ (oe : Obj) (vs : Array Value), h.get? a = some oe ∧ Zc cls none oe ∧ oe.data = .fields vs
def toN (k : List (List Int)) : NestedKey := .tup (k.map fun l => .tup (l.map .num))
abbrev Kas := List (List (List Int) × Addr × V)
def DnP (a : Addr) (kas : Kas) (h : Heap) : Prop := kas.length ≤ sizeLine ∧ (a == sysModules) = false ∧ ∃ (w : World) (xs : List (NestedKey × Addr × Value)), Paired (fun (p : List (List Int) × Addr × V) (q : NestedKey × Addr × Value) => toN p.1 = q.1 ∧ p.2.1 = q.2.1 ∧ RelV p.2.2 q.2.2) kas xs ∧
  ∃ (o : Obj) (es : Array DictEntry) (ep : Nat), h.get? a = some o ∧ o.ExactDict ∧ o.data = .dict es ep ∧ es.toList = xs.map (fun x => (⟨x.1.hash w, .ref x.2.1, x.2.2⟩ : DictEntry)) ∧ (xs.map (·.1)).Nodup
def DnO (a : Addr) (kas : Kas) : HO := .ext (DnP a kas)
abbrev Kls := List (Option Int × V)
def lfOf : Option Int → Leaf
  | none => .none
  | some i => .num i
def lfK : Option Int → List Key
  | none => []
  | some i => [Sum.inl i]
def LfP (a : Addr) (kls : Kls) (h : Heap) : Prop := kls.length ≤ sizeLine ∧ (a == sysModules) = false ∧ ∃ (P : Program) (w : World) (xs : List (Leaf × Value)), Paired (fun (p : Option Int × V) (q : Leaf × Value) => lfOf p.1 = q.1 ∧ RelV p.2 q.2) kls xs ∧ h.DictOf (leafKind P w) a xs
def LfO (a : Addr) (kls : Kls) : HO := .ext (LfP a kls)
def NoL : HO → Prop
  | .lst _ => False
  | .dT _ => False
  | .dK _ => False
  | .ext φ => ∃ c a, HO.ext φ = KxO c a
  | _ => True
def NK (H : Hp) (k : List (List Int)) (b : Addr) : Prop := ∃ as : List Addr, H b = some (.tup (as.map V.ref)) ∧ Paired (fun (l : List Int) (a : Addr) => H a = some (.tup (l.map V.int))) k as
theorem NK.keep {H H' : Hp} (t : ∀ b xs, H b = some (.tup xs) → H' b = some (.tup xs)) {k : List (List Int)} {b : Addr} (h : NK H k b) : NK H' k b := by
  obtain ⟨as, h1, h2⟩ := h
  exact ⟨as, t _ _ h1, Paired.mapP h2 fun _ _ z => t _ _ z⟩
def encN (k : List (List Int)) : List Int := k.flatMap fun l => (l.length : Int) :: l
inductive R (α : Type) where
  | ok (a : α) | exc (c : String) | stuck
def R.bind {α β : Type} (r : R α) (k : α → R β) : R β := match r with
  | .ok a => k a
  | .exc c => .exc c
  | .stuck => .stuck
@[simp] theorem R.bind_ok {α β : Type} (a : α) (k : α → R β) : (R.ok a).bind k = k a := nr rfl
@[simp] theorem R.bind_exc {α β : Type} (c : String) (k : α → R β) : (R.exc c).bind k = .exc c := nr rfl
@[simp] theorem R.bind_stuck {α β : Type} (k : α → R β) : R.stuck.bind k = .stuck := nr rfl
structure DT where
  o : Option Nat
  l : Bool
  n : Bool
inductive D where
  | non | bl (b : Bool) | int (i : Int) | str (x : Str)
  | tup (xs : List D) | lst (t : Bool) (xs : List D) | fr (xs : List D)
  | unk | ex (c : String) | fn (x : String) | dic (ks : List (List Int)) (ds : List D) | dct (q : DT) (ks : List (List Int)) (vs : List D)
instance : Inhabited D := ⟨.non⟩
mutual
def hasT : D → Bool
  | .tup xs => hasTL xs
  | .lst t xs => t || hasTL xs
  | .fr xs => hasTL xs
  | .dic _ xs => hasTL xs
  | .non => false
  | .bl _ => false
  | .int _ => false
  | .str _ => false
  | .unk => false
  | .ex _ => false
  | .fn _ => false
  | .dct _ _ _ => true
def hasTL : List D → Bool
  | [] => false
  | x :: xs => hasT x || hasTL xs
end
mutual
def still : D → D
  | .tup xs => .tup (stillL xs)
  | .lst _ xs => .lst false (stillL xs)
  | .fr xs => .fr (stillL xs)
  | .dic ks xs => .dic ks (stillL xs)
  | .non => .non
  | .bl b => .bl b
  | .int i => .int i
  | .str x => .str x
  | .unk => .unk
  | .ex c => .ex c
  | .fn x => .fn x
  | .dct _ _ _ => .unk
def stillL : List D → List D
  | [] => []
  | x :: xs => still x :: stillL xs
end
mutual
def isFlat : D → Bool
  | .tup xs => isFlatL xs
  | .lst _ _ => false
  | .fr _ => false
  | .dic _ _ => false
  | .non => true
  | .bl _ => true
  | .int _ => true
  | .str _ => true
  | .unk => false
  | .ex _ => true
  | .fn _ => true
  | .dct _ _ _ => false
def isFlatL : List D → Bool
  | [] => true
  | x :: xs => isFlat x && isFlatL xs
end
def farPy : PyData := (List.replicate 70 ()).foldr (fun _ d => .list [d]) .none
mutual
def py : D → PyData
  | .tup xs => .tuple (pyL xs)
  | .lst _ xs => .list (pyL xs)
  | .fr xs => .list (pyL xs)
  | .dic _ _ => farPy
  | .non => .none
  | .bl b => .bool b
  | .int i => .int i
  | .str x => .str x
  | .unk => farPy
  | .ex _ => farPy
  | .fn _ => farPy
  | .dct _ _ _ => farPy
def pyL : List D → List PyData
  | [] => []
  | x :: xs => py x :: pyL xs
end
mutual
theorem hasT_still : ∀ d, hasT (still d) = false
  | .tup xs => by simp only [still, hasT]; exact hasTL_still xs
  | .lst _ xs => by simp only [still, hasT, Bool.false_or]; exact hasTL_still xs
  | .fr xs => by simp only [still, hasT]; exact hasTL_still xs
  | .dic _ xs => by simp only [still, hasT]; exact hasTL_still xs
  | .non => rfl
  | .bl _ => rfl
  | .int _ => rfl
  | .str _ => rfl
  | .unk => rfl
  | .ex _ => rfl
  | .fn _ => rfl
  | .dct _ _ _ => rfl
theorem hasTL_still : ∀ ds, hasTL (stillL ds) = false
  | [] => rfl
  | x :: xs => by simp only [stillL, hasTL, hasT_still x, hasTL_still xs, Bool.or_self]
end
mutual
theorem still_of : ∀ d, hasT d = false → still d = d
  | .tup xs, h => by simp only [hasT] at h; simp only [still, stillL_of xs h]
  | .fr xs, h => by simp only [hasT] at h; simp only [still, stillL_of xs h]
  | .dic _ xs, h => by simp only [hasT] at h; simp only [still, stillL_of xs h]
  | .lst t xs, h => by
    simp only [hasT, Bool.or_eq_false_iff] at h
    simp only [still, stillL_of xs h.2, h.1]
  | .non, _ => rfl
  | .bl _, _ => rfl
  | .int _, _ => rfl
  | .str _, _ => rfl
  | .unk, _ => rfl
  | .ex _, _ => rfl
  | .fn _, _ => rfl
  | .dct _ _ _, h => by simp [hasT] at h
theorem stillL_of : ∀ ds, hasTL ds = false → stillL ds = ds
  | [], _ => rfl
  | x :: xs, h => by
    simp only [hasTL, Bool.or_eq_false_iff] at h
    simp only [stillL, still_of x h.1, stillL_of xs h.2]
end
mutual
theorem flat_noT : ∀ d, isFlat d = true → hasT d = false
  | .tup xs, h => by simp only [isFlat] at h; simp only [hasT]; exact flatL_noT xs h
  | .lst _ _, h => by simp [isFlat] at h
  | .fr _, h => by simp [isFlat] at h
  | .dic _ _, h => by simp [isFlat] at h
  | .non, _ => rfl
  | .bl _, _ => rfl
  | .int _, _ => rfl
  | .str _, _ => rfl
  | .unk, h => by simp [isFlat] at h
  | .ex _, _ => rfl
  | .fn _, _ => rfl
  | .dct _ _ _, h => by simp [isFlat] at h
theorem flatL_noT : ∀ ds, isFlatL ds = true → hasTL ds = false
  | [], _ => rfl
  | x :: xs, h => by
    simp only [isFlatL, Bool.and_eq_true] at h
    simp only [hasTL, flat_noT x h.1, flatL_noT xs h.2, Bool.or_self]
end
theorem hasTL_append : ∀ xs ys : List D, hasTL (xs ++ ys) = (hasTL xs || hasTL ys)
  | [], ys => by simp [hasTL]
  | x :: xs, ys => by simp [hasTL, hasTL_append xs ys, Bool.or_assoc]
theorem hasTL_get : ∀ {xs : List D} {i : Nat} {d : D}, hasTL xs = false → xs[i]? = some d → hasT d = false
  | [], _, _, _, e => by simp at e
  | x :: xs, 0, d, h, e => by
    simp only [hasTL, Bool.or_eq_false_iff] at h
    simp at e; subst e; exact h.1
  | x :: xs, i + 1, d, h, e => by
    simp only [hasTL, Bool.or_eq_false_iff] at h
    exact hasTL_get (i := i) h.2 (by simpa using e)
theorem hasTL_set {d : D} (hd : hasT d = false) : ∀ {xs : List D} (i : Nat), hasTL xs = false → hasTL (xs.set i d) = false
  | [], _, _ => rfl
  | x :: xs, 0, h => by
    simp only [hasTL, Bool.or_eq_false_iff] at h
    simp only [List.set, hasTL, hd, h.2, Bool.or_self]
  | x :: xs, i + 1, h => by
    simp only [hasTL, Bool.or_eq_false_iff] at h
    simp only [List.set, hasTL, h.1, hasTL_set hd i h.2, Bool.or_self]
theorem stillL_length : ∀ ds, (stillL ds).length = ds.length
  | [] => rfl
  | x :: xs => by simp only [stillL, List.length_cons, stillL_length xs]
structure Grow (F H F' H' : Hp) : Prop where
  same : Same H H'
  sub : Same F F'
  subH : Same F' H'
  new : ∀ a o, F' a = some o → F a = some o ∨ H a = none
theorem Grow.refl {F H : Hp} (s : Same F H) : Grow F H F H := ⟨Same.refl _, Same.refl _, s, fun _ _ e => .inl e⟩
theorem Grow.trans {F H F1 H1 F2 H2 : Hp} (g : Grow F H F1 H1) (k : Grow F1 H1 F2 H2) : Grow F H F2 H2 :=
  ⟨g.same.trans k.same, g.sub.trans k.sub, k.subH, fun a o e => by
    rcases k.new a o e with z | z
    · exact g.new a o z
    · exact .inr (g.same.free z)⟩
theorem same_upd {H : Hp} {p : Addr} {o : HO} (h : H p = none) : Same H (upd H p o) := fun b x e => by
  rw [upd_ne (ne_of_none e h)]
  exact e
theorem Grow.still {F H : Hp} {p : Addr} {o : HO} (s : Same F H) (h : H p = none) : Grow F H (upd F p o) (upd H p o) :=
  ⟨same_upd h, same_upd (s.free h), fun b x e => by
    by_cases hb : b = p
    · subst hb; rw [upd_same] at e ⊢; exact e
    · rw [upd_ne hb] at e ⊢; exact s _ _ e, fun b x e => by
    by_cases hb : b = p
    · subst hb; exact .inr h
    · rw [upd_ne hb] at e; exact .inl e⟩
theorem Grow.loose {F H : Hp} {p : Addr} {o : HO} (s : Same F H) (h : H p = none) : Grow F H F (upd H p o) :=
  ⟨same_upd h, Same.refl _, s.trans (same_upd h), fun b x e => .inl e⟩
def exK (K : PySem.W.Frag) (c : String) : Value := match PySem.W.nsIn K mainGlobals (Str.ofString c) with
  | some (some v) => v
  | _ => .none
mutual
inductive Rp (K : PySem.W.Frag) (F H0 H : Hp) : D → V → Prop
  | non : Rp K F H0 H .non .non
  | bl (b : Bool) : Rp K F H0 H (.bl b) (.bl b)
  | int (i : Int) : Rp K F H0 H (.int i) (.int i)
  | str (x : Str) : Rp K F H0 H (.str x) (.str x)
  | tup {a : Addr} {xs : List V} {ds : List D} : H a = some (.tup xs) → RpL K F H0 H ds xs → Rp K F H0 H (.tup ds) (.ref a)
  | fr {a : Addr} {xs : List V} {ds : List D} : SqL K F a xs → RpL K F H0 H ds xs → Rp K F H0 H (.fr ds) (.ref a)
  | dic {a : Addr} {kvs : List (List Key × V)} {ks : List (List Int)} {ds : List D} : F a = some (.dT kvs) → kvs.map (·.1) = ks.map (·.map Sum.inl) → RpL K F H0 H ds (kvs.map (·.2)) → Rp K F H0 H (.dic ks ds) (.ref a)
  | lst {a : Addr} {xs : List V} {ds : List D} : F a = some (.lst xs) → RpL K F H0 H ds xs → Rp K F H0 H (.lst false ds) (.ref a)
  | tmF {a : Addr} {xs : List V} {ds : List D} : F a = some (.lst xs) → RpL K F H0 H ds xs → Rp K F H0 H (.lst true ds) (.ref a)
  | tmN {a : Addr} {xs : List V} {ds : List D} : H0 a = none → H a = some (.lst xs) → RpL K F H0 H ds xs → Rp K F H0 H (.lst true ds) (.ref a)
  | unk {a : Addr} : Rp K F H0 H .unk (.ref a)
  | ex {a : Addr} {c : String} : H a = some (KxO (exK K c) a) → Rp K F H0 H (.ex c) (.ref a)
  | fn {a : Addr} {x : String} : exK K x = .ref a → Rp K F H0 H (.fn x) (.ref a)
  | dct {a : Addr} {q : DT} {ks : List (List Int)} {vs : List D} : Rp K F H0 H (.dct q ks vs) (.ref a)
inductive RpL (K : PySem.W.Frag) (F H0 H : Hp) : List D → List V → Prop
  | nil : RpL K F H0 H [] []
  | cons {d : D} {ds : List D} {v : V} {vs : List V} : Rp K F H0 H d v → RpL K F H0 H ds vs → RpL K F H0 H (d :: ds) (v :: vs)
end
section
variable {K : PySem.W.Frag} {F F' H0 H H' : Hp}
mutual
theorem Rp.mono (s : Same F F') (t : Same H H') : ∀ (d : D) (v : V), Rp K F H0 H d v → Rp K F' H0 H' d v
  | .non, _, h => by cases h; exact .non
  | .bl _, _, h => by cases h; exact .bl _
  | .int _, _, h => by cases h; exact .int _
  | .str _, _, h => by cases h; exact .str _
  | .unk, _, h => by cases h; exact .unk
  | .ex _, _, h => by
    cases h with
    | ex a => exact .ex (t _ _ a)
  | .fn _, _, h => by
    cases h with
    | fn a => exact .fn a
  | .dct _ _ _, _, h => by cases h; exact .dct
  | .tup ds, _, h => by
    cases h with
    | tup a b => exact .tup (t _ _ a) (RpL.mono s t ds _ b)
  | .fr ds, _, h => by
    cases h with
    | fr a b => exact .fr (s.seq a) (RpL.mono s t ds _ b)
  | .dic ks ds, _, h => by
    cases h with
    | dic a b c => exact .dic (s _ _ a) b (RpL.mono s t ds _ c)
  | .lst true ds, _, h => by
    cases h with
    | tmF a b => exact .tmF (s _ _ a) (RpL.mono s t ds _ b)
    | tmN a b c => exact .tmN a (t _ _ b) (RpL.mono s t ds _ c)
  | .lst false ds, _, h => by
    cases h with
    | lst a b => exact .lst (s _ _ a) (RpL.mono s t ds _ b)
theorem RpL.mono (s : Same F F') (t : Same H H') : ∀ (ds : List D) (vs : List V), RpL K F H0 H ds vs → RpL K F' H0 H' ds vs
  | [], _, h => by cases h; exact .nil
  | d :: ds, _, h => by
    cases h with
    | cons a b => exact .cons (Rp.mono s t d _ a) (RpL.mono s t ds _ b)
end
theorem Rp.grow {F1 H1 : Hp} {d : D} {v : V} (g : Grow F H F1 H1) (r : Rp K F H0 H d v) : Rp K F1 H0 H1 d v := r.mono g.sub g.same
theorem RpL.grow {F1 H1 : Hp} {ds : List D} {vs : List V} (g : Grow F H F1 H1) (r : RpL K F H0 H ds vs) : RpL K F1 H0 H1 ds vs := r.mono g.sub g.same
theorem RpL.length : ∀ {ds : List D} {vs : List V}, RpL K F H0 H ds vs → ds.length = vs.length
  | _, _, .nil => rfl
  | _, _, .cons _ t => by simp [RpL.length t]
theorem RpL.get : ∀ {ds : List D} {vs : List V} {i : Nat} {d : D}, RpL K F H0 H ds vs → ds[i]? = some d → ∃ v, vs[i]? = some v ∧ Rp K F H0 H d v
  | _, _, _, _, .nil, e => by simp at e
  | _, _, 0, _, .cons r _, e => by simp at e; subst e; exact ⟨_, rfl, r⟩
  | _, _, i + 1, d, .cons _ t, e => by
    obtain ⟨u, h1, h2⟩ := RpL.get (i := i) (d := d) t (by simpa using e)
    exact ⟨u, by simpa using h1, h2⟩
theorem RpL.app : ∀ {ds es : List D} {vs us : List V}, RpL K F H0 H ds vs → RpL K F H0 H es us → RpL K F H0 H (ds ++ es) (vs ++ us)
  | _, _, _, _, .nil, s => s
  | _, _, _, _, .cons r t, s => .cons r (RpL.app t s)
theorem RpL.take : ∀ {ds : List D} {vs : List V} (n : Nat), RpL K F H0 H ds vs → RpL K F H0 H (ds.take n) (vs.take n)
  | _, _, 0, _ => .nil
  | _, _, _ + 1, .nil => .nil
  | _, _, n + 1, .cons r t => .cons r (RpL.take n t)
theorem RpL.drop : ∀ {ds : List D} {vs : List V} (n : Nat), RpL K F H0 H ds vs → RpL K F H0 H (ds.drop n) (vs.drop n)
  | _, _, 0, r => r
  | _, _, _ + 1, .nil => .nil
  | _, _, n + 1, .cons _ t => RpL.drop n t
theorem RpL.set {d : D} {v : V} (r : Rp K F H0 H d v) : ∀ {ds : List D} {vs : List V} (i : Nat), RpL K F H0 H ds vs → RpL K F H0 H (ds.set i d) (vs.set i v)
  | _, _, _, .nil => .nil
  | _, _, 0, .cons _ t => .cons r t
  | _, _, i + 1, .cons q t => .cons q (RpL.set r i t)
theorem RpL.rev : ∀ {ds : List D} {vs : List V}, RpL K F H0 H ds vs → RpL K F H0 H ds.reverse vs.reverse
  | _, _, .nil => .nil
  | _, _, .cons r t => by rw [List.reverse_cons, List.reverse_cons]; exact (RpL.rev t).app (.cons r .nil)
mutual
theorem Rp.keep (t : ∀ b o, H b = some o → NoL o → H' b = some o) : ∀ (d : D) (v : V), hasT d = false → Rp K F H0 H d v → Rp K F H0 H' d v
  | .non, _, _, h => by cases h; exact .non
  | .bl _, _, _, h => by cases h; exact .bl _
  | .int _, _, _, h => by cases h; exact .int _
  | .str _, _, _, h => by cases h; exact .str _
  | .unk, _, _, h => by cases h; exact .unk
  | .ex _, _, _, h => by
    cases h with
    | ex a => exact .ex (t _ _ a ⟨_, _, rfl⟩)
  | .fn _, _, _, h => by
    cases h with
    | fn a => exact .fn a
  | .dct _ _ _, _, _, h => by cases h; exact .dct
  | .tup ds, _, n, h => by
    cases h with
    | tup a b => exact .tup (t _ _ a trivial) (RpL.keep t ds _ n b)
  | .lst true ds, _, n, _ => by simp [hasT] at n
  | .lst false ds, _, n, h => by
    simp only [hasT, Bool.false_or] at n
    cases h with
    | lst a b => exact .lst a (RpL.keep t ds _ n b)
  | .fr ds, _, n, h => by
    simp only [hasT] at n
    cases h with
    | fr a b => exact .fr a (RpL.keep t ds _ n b)
  | .dic ks ds, _, n, h => by
    simp only [hasT] at n
    cases h with
    | dic a b c => exact .dic a b (RpL.keep t ds _ n c)
theorem RpL.keep (t : ∀ b o, H b = some o → NoL o → H' b = some o) : ∀ (ds : List D) (vs : List V), hasTL ds = false → RpL K F H0 H ds vs → RpL K F H0 H' ds vs
  | [], _, _, h => by cases h; exact .nil
  | d :: ds, _, n, h => by
    simp only [hasTL, Bool.or_eq_false_iff] at n
    cases h with
    | cons a b => exact .cons (Rp.keep t d _ n.1 a) (RpL.keep t ds _ n.2 b)
end
mutual
theorem Rp.base {H1 : Hp} : ∀ (d : D) (v : V), hasT d = false → Rp K F H0 H d v → Rp K F H1 H d v
  | .non, _, _, h => by cases h; exact .non
  | .bl _, _, _, h => by cases h; exact .bl _
  | .int _, _, _, h => by cases h; exact .int _
  | .str _, _, _, h => by cases h; exact .str _
  | .unk, _, _, h => by cases h; exact .unk
  | .ex _, _, _, h => by
    cases h with
    | ex a => exact .ex a
  | .fn _, _, _, h => by
    cases h with
    | fn a => exact .fn a
  | .dct _ _ _, _, _, h => by cases h; exact .dct
  | .tup ds, _, n, h => by
    cases h with
    | tup a b => exact .tup a (RpL.base ds _ n b)
  | .lst true ds, _, n, _ => by simp [hasT] at n
  | .lst false ds, _, n, h => by
    simp only [hasT, Bool.false_or] at n
    cases h with
    | lst a b => exact .lst a (RpL.base ds _ n b)
  | .fr ds, _, n, h => by
    simp only [hasT] at n
    cases h with
    | fr a b => exact .fr a (RpL.base ds _ n b)
  | .dic ks ds, _, n, h => by
    simp only [hasT] at n
    cases h with
    | dic a b c => exact .dic a b (RpL.base ds _ n c)
theorem RpL.base {H1 : Hp} : ∀ (ds : List D) (vs : List V), hasTL ds = false → RpL K F H0 H ds vs → RpL K F H1 H ds vs
  | [], _, _, h => by cases h; exact .nil
  | d :: ds, _, n, h => by
    simp only [hasTL, Bool.or_eq_false_iff] at n
    cases h with
    | cons a b => exact .cons (Rp.base d _ n.1 a) (RpL.base ds _ n.2 b)
end
def vis (F H0 H : Hp) : Hp := fun a => if (H0 a).isNone then H a else F a
theorem vis_old {a : Addr} {o : HO} (h : H0 a = some o) : vis F H0 H a = F a := by unfold vis; rw [h]; rfl
theorem vis_new {a : Addr} (h : H0 a = none) : vis F H0 H a = H a := by unfold vis; rw [h]; rfl
theorem vis_sub (s : Same F H) : Same F (vis F H0 H) := fun a o e => by
  cases h : H0 a with
  | none => rw [vis_new h]; exact s _ _ e
  | some z => rw [vis_old h]; exact e
theorem vis_subH (s : Same F H) : Same (vis F H0 H) H := fun a o e => by
  cases h : H0 a with
  | none => rw [vis_new h] at e; exact e
  | some z => rw [vis_old h] at e; exact s _ _ e
mutual
theorem Rp.vis (s : Same F H) {H1 : Hp} : ∀ (d : D) (v : V), Rp K F H0 H d v → Rp K (vis F H0 H) H1 H (CT.still d) v
  | .non, _, h => by cases h; exact .non
  | .bl _, _, h => by cases h; exact .bl _
  | .int _, _, h => by cases h; exact .int _
  | .str _, _, h => by cases h; exact .str _
  | .unk, _, h => by cases h; exact .unk
  | .ex _, _, h => by
    cases h with
    | ex a => exact .ex a
  | .fn _, _, h => by
    cases h with
    | fn a => exact .fn a
  | .dct _ _ _, _, h => by cases h; exact .unk
  | .tup ds, _, h => by
    cases h with
    | tup a b => exact .tup a (RpL.vis s ds _ b)
  | .lst true ds, _, h => by
    cases h with
    | tmF a b => exact .lst (vis_sub s _ _ a) (RpL.vis s ds _ b)
    | tmN a b c => exact .lst (by rw [vis_new a]; exact b) (RpL.vis s ds _ c)
  | .lst false ds, _, h => by
    cases h with
    | lst a b => exact .lst (vis_sub s _ _ a) (RpL.vis s ds _ b)
  | .fr ds, _, h => by
    cases h with
    | fr a b => exact .fr ((vis_sub s).seq a) (RpL.vis s ds _ b)
  | .dic ks ds, _, h => by
    cases h with
    | dic a b c => exact .dic (vis_sub s _ _ a) b (RpL.vis s ds _ c)
theorem RpL.vis (s : Same F H) {H1 : Hp} : ∀ (ds : List D) (vs : List V), RpL K F H0 H ds vs → RpL K (vis F H0 H) H1 H (stillL ds) vs
  | [], _, h => by cases h; exact .nil
  | d :: ds, _, h => by
    cases h with
    | cons a b => exact .cons (Rp.vis s d _ a) (RpL.vis s ds _ b)
end
mutual
theorem Rp.flat {F1 H1 H' : Hp} (t : ∀ a xs, H a = some (.tup xs) → H' a = some (.tup xs)) (tx : ∀ a cls, H a = some (KxO cls a) → H' a = some (KxO cls a)) : ∀ (d : D) (v : V), isFlat d = true → Rp K F H0 H d v → Rp K F1 H1 H' d v
  | .non, _, _, h => by cases h; exact .non
  | .bl _, _, _, h => by cases h; exact .bl _
  | .int _, _, _, h => by cases h; exact .int _
  | .str _, _, _, h => by cases h; exact .str _
  | .unk, _, n, _ => by simp [isFlat] at n
  | .ex _, _, _, h => by
    cases h with
    | ex a => exact .ex (tx _ _ a)
  | .fn _, _, _, h => by
    cases h with
    | fn a => exact .fn a
  | .dct _ _ _, _, n, _ => by simp [isFlat] at n
  | .tup ds, _, n, h => by
    cases h with
    | tup a b => exact .tup (t _ _ a) (RpL.flat t tx ds _ n b)
  | .lst _ ds, _, n, _ => by simp [isFlat] at n
  | .fr ds, _, n, _ => by simp [isFlat] at n
  | .dic _ _, _, n, _ => by simp [isFlat] at n
theorem RpL.flat {F1 H1 H' : Hp} (t : ∀ a xs, H a = some (.tup xs) → H' a = some (.tup xs)) (tx : ∀ a cls, H a = some (KxO cls a) → H' a = some (KxO cls a)) : ∀ (ds : List D) (vs : List V), isFlatL ds = true → RpL K F H0 H ds vs → RpL K F1 H1 H' ds vs
  | [], _, _, h => by cases h; exact .nil
  | d :: ds, _, n, h => by
    simp only [isFlatL, Bool.and_eq_true] at n
    cases h with
    | cons a b => exact .cons (Rp.flat t tx d _ n.1 a) (RpL.flat t tx ds _ n.2 b)
end
mutual
def okP : D → Bool
  | .tup xs => okPL xs
  | .lst _ xs => okPL xs
  | .fr xs => okPL xs
  | .dic _ _ => false
  | .non => true
  | .bl _ => true
  | .int _ => true
  | .str _ => true
  | .unk => false
  | .ex _ => false
  | .fn _ => false
  | .dct _ _ _ => false
def okPL : List D → Bool
  | [] => true
  | x :: xs => okP x && okPL xs
end
theorem far_depth : ¬ PyData.depth farPy ≤ 69 := by decide +kernel
mutual
theorem okP_of : ∀ d, PyData.depth (py d) ≤ 69 → okP d = true
  | .tup xs, h => by simp only [py, PyData.depth] at h; exact okPL_of xs (by omega)
  | .lst _ xs, h => by simp only [py, PyData.depth] at h; exact okPL_of xs (by omega)
  | .fr xs, h => by simp only [py, PyData.depth] at h; exact okPL_of xs (by omega)
  | .dic _ _, h => absurd h far_depth
  | .non, _ => rfl
  | .bl _, _ => rfl
  | .int _, _ => rfl
  | .str _, _ => rfl
  | .unk, h => absurd h far_depth
  | .ex _, h => absurd h far_depth
  | .fn _, h => absurd h far_depth
  | .dct _ _ _, h => absurd h far_depth
theorem okPL_of : ∀ ds, PyData.depthAll (pyL ds) ≤ 69 → okPL ds = true
  | [], _ => rfl
  | x :: xs, h => by
    simp only [pyL, PyData.depthAll] at h
    simp only [okPL, Bool.and_eq_true]
    exact ⟨okP_of x (by omega), okPL_of xs (by omega)⟩
end
theorem okP_sh {d : D} (h : SeqAt.shaped (py d) = true) : okP d = true := okP_of d (Nat.le_trans (SeqAt.depth_of_shaped h) (by decide))
theorem okPL_sh {ds : List D} (h : SeqAt.shaped (.list (pyL ds)) = true) : okPL ds = true := okP_sh (d := .fr ds) h
mutual
theorem Rp.dp (s : Same F H) : ∀ (d : D) (v : V), okP d = true → Rp K F H0 H d v → Dp K H v (py d)
  | .non, _, n, h => by cases h; exact .non
  | .bl _, _, n, h => by cases h; exact .bl _
  | .int _, _, n, h => by cases h; exact .int _
  | .str _, _, n, h => by cases h; exact .str _
  | .unk, _, n, _ => by simp [okP] at n
  | .ex _, _, n, _ => by simp [okP] at n
  | .fn _, _, n, _ => by simp [okP] at n
  | .dic _ _, _, n, _ => by simp [okP] at n
  | .dct _ _ _, _, n, _ => by simp [okP] at n
  | .tup ds, _, n, h => by
    cases h with
    | tup a b => exact .tup (.inl (.inl a)) (RpL.dp s ds _ (by simpa only [okP] using n) b)
  | .lst true ds, _, n, h => by
    cases h with
    | tmF a b => exact .lst (.inl (.inl (s _ _ a))) (RpL.dp s ds _ (by simpa only [okP] using n) b)
    | tmN a b c => exact .lst (.inl (.inl b)) (RpL.dp s ds _ (by simpa only [okP] using n) c)
  | .lst false ds, _, n, h => by
    cases h with
    | lst a b => exact .lst (.inl (.inl (s _ _ a))) (RpL.dp s ds _ (by simpa only [okP] using n) b)
  | .fr ds, _, n, h => by
    cases h with
    | fr a b => exact .lst (s.seq a) (RpL.dp s ds _ (by simpa only [okP] using n) b)
theorem RpL.dp (s : Same F H) : ∀ (ds : List D) (vs : List V), okPL ds = true → RpL K F H0 H ds vs → DpAll K H vs (pyL ds)
  | [], _, _, h => by cases h; exact .nil
  | d :: ds, _, n, h => by
    cases h with
    | cons a b =>
      simp only [okPL, Bool.and_eq_true] at n
      exact .cons (Rp.dp s d _ n.1 a) (RpL.dp s ds _ n.2 b)
end
theorem Rp.list {t : Bool} {ds : List D} {v : V} (s : Same F H) (h : Rp K F H0 H (.lst t ds) v) : ∃ a xs, v = .ref a ∧ H a = some (.lst xs) ∧ RpL K F H0 H ds xs := by
  cases h with
  | lst a b => exact ⟨_, _, rfl, s _ _ a, b⟩
  | tmF a b => exact ⟨_, _, rfl, s _ _ a, b⟩
  | tmN a b c => exact ⟨_, _, rfl, b, c⟩
theorem Rp.frl {ds : List D} {v : V} (s : Same F H) (h : Rp K F H0 H (.fr ds) v) : ∃ a xs, v = .ref a ∧ SqL K H a xs ∧ RpL K F H0 H ds xs := by
  cases h with
  | fr a b => exact ⟨_, _, rfl, s.seq a, b⟩
theorem Rp.tuple {ds : List D} {v : V} (h : Rp K F H0 H (.tup ds) v) : ∃ a xs, v = .ref a ∧ SqT K H a xs ∧ RpL K F H0 H ds xs := by
  cases h with
  | tup a b => exact ⟨_, _, rfl, .inl (.inl a), b⟩
theorem Rp.tuple' {ds : List D} {v : V} (h : Rp K F H0 H (.tup ds) v) : ∃ a xs, v = .ref a ∧ H a = some (.tup xs) ∧ RpL K F H0 H ds xs := by
  cases h with
  | tup a b => exact ⟨_, _, rfl, a, b⟩
end
end CT

namespace CT
open PySem PySem.Spec PyProof.Rows L2
abbrev Sl := List (Option D)
structure Bs where
  ex : String → Value
  F0 : Hp
  H0 : Hp
inductive Own (H : Hp) : D → V → Addr → Prop
  | lst {ds : List D} {a : Addr} : Own H (.lst true ds) (.ref a) a
  | inL {ds : List D} {a : Addr} {xs : List V} {k : Nat} {d : D} {v : V} {c : Addr} : H a = some (.lst xs) → ds[k]? = some d → xs[k]? = some v → Own H d v c → Own H (.lst true ds) (.ref a) c
  | inF {ds : List D} {a : Addr} {xs : List V} {k : Nat} {d : D} {v : V} {c : Addr} : H a = some (.lst xs) → ds[k]? = some d → xs[k]? = some v → Own H d v c → Own H (.lst false ds) (.ref a) c
  | inT {ds : List D} {a : Addr} {xs : List V} {k : Nat} {d : D} {v : V} {c : Addr} : H a = some (.tup xs) → ds[k]? = some d → xs[k]? = some v → Own H d v c → Own H (.tup ds) (.ref a) c
def Owns (H : Hp) (d : D) (v : V) (a : Addr) : Prop := (∃ ds, d = .lst true ds ∧ v = .ref a) ∨ (∃ q ks ds, d = .dct q ks ds ∧ v = .ref a) ∨ Own H d v a
def nest : D → Bool
  | .lst _ ds => hasTL ds
  | .tup ds => hasTL ds
  | _ => false
theorem one_nodup (a : Addr) : [a].Nodup := by simp
mutual
inductive Ow (K : PySem.W.Frag) (F H0 H : Hp) : D → V → List Addr → Prop
  | st {d : D} {v : V} : hasT d = false → Rp K F H0 H d v → Ow K F H0 H d v []
  | lst {a : Addr} {xs : List V} {ds : List D} {as : List Addr} : H a = some (.lst xs) → F a = none → H0 a = none → OwL K F H0 H ds xs as → Ow K F H0 H (.lst true ds) (.ref a) (a :: as)
  | fl {a : Addr} {xs : List V} {ds : List D} {as : List Addr} : F a = some (.lst xs) → H a = some (.lst xs) → OwL K F H0 H ds xs as → Ow K F H0 H (.lst false ds) (.ref a) as
  | tup {a : Addr} {xs : List V} {ds : List D} {as : List Addr} : H a = some (.tup xs) → OwL K F H0 H ds xs as → Ow K F H0 H (.tup ds) (.ref a) as
inductive OwL (K : PySem.W.Frag) (F H0 H : Hp) : List D → List V → List Addr → Prop
  | nil : OwL K F H0 H [] [] []
  | cons {d : D} {ds : List D} {v : V} {vs : List V} {as bs : List Addr} : Ow K F H0 H d v as → OwL K F H0 H ds vs bs → OwL K F H0 H (d :: ds) (v :: vs) (as ++ bs)
end
section
variable {K : PySem.W.Frag} {F H F1 H1 H0 H0' : Hp}
theorem Own.of {d : D} {v : V} {a : Addr} (o : Own H d v a) : hasT d = true := by
  induction o with
  | lst => simp [hasT]
  | inL => simp [hasT]
  | inF _ e _ _ ih =>
    cases q : hasTL _ with
    | true => simp only [hasT, Bool.false_or]; exact q
    | false => rw [hasTL_get q e] at ih; cases ih
  | inT _ e _ _ ih =>
    cases q : hasTL _ with
    | true => simp only [hasT]; exact q
    | false => rw [hasTL_get q e] at ih; cases ih
theorem OwL.st : ∀ {ds : List D} {vs : List V}, hasTL ds = false → RpL K F H0 H ds vs → OwL K F H0 H ds vs []
  | _, _, _, .nil => .nil
  | _, _, n, .cons a b => by
    simp only [hasTL, Bool.or_eq_false_iff] at n
    exact .cons (.st n.1 a) (OwL.st n.2 b)
mutual
theorem Ow.rp : ∀ (d : D) (v : V) (as : List Addr), Ow K F H0 H d v as → Rp K F H0 H d v
  | .lst t ds, _, _, h => by
    cases h with
    | st _ r => exact r
    | lst a _ c w => exact .tmN c a (OwL.rp ds _ _ w)
    | fl a _ w => exact .lst a (OwL.rp ds _ _ w)
  | .tup ds, _, _, h => by
    cases h with
    | st _ r => exact r
    | tup a w => exact .tup a (OwL.rp ds _ _ w)
  | .non, _, _, h => by cases h with | st _ r => exact r
  | .bl _, _, _, h => by cases h with | st _ r => exact r
  | .int _, _, _, h => by cases h with | st _ r => exact r
  | .str _, _, _, h => by cases h with | st _ r => exact r
  | .fr _, _, _, h => by cases h with | st _ r => exact r
  | .unk, _, _, h => by cases h with | st _ r => exact r
  | .ex _, _, _, h => by cases h with | st _ r => exact r
  | .fn _, _, _, h => by cases h with | st _ r => exact r
  | .dic _ _, _, _, h => by cases h with | st _ r => exact r
  | .dct _ _ _, _, _, h => by cases h with | st _ r => exact r
theorem OwL.rp : ∀ (ds : List D) (vs : List V) (as : List Addr), OwL K F H0 H ds vs as → RpL K F H0 H ds vs
  | [], _, _, h => by cases h; exact .nil
  | d :: ds, _, _, h => by
    cases h with
    | cons a b => exact .cons (Ow.rp d _ _ a) (OwL.rp ds _ _ b)
end
section
variable (hs : ∀ (d : D) (v : V), hasT d = false → Rp K F H0 H d v → Rp K F1 H0 H1 d v) (ht : ∀ a xs, H a = some (.tup xs) → H1 a = some (.tup xs)) (hfl : ∀ a xs, F a = some (.lst xs) → F1 a = some (.lst xs) ∧ H1 a = some (.lst xs))
include hs ht hfl
mutual
theorem Ow.keepG : ∀ (d : D) (v : V) (as : List Addr), Ow K F H0 H d v as → (∀ a ∈ as, ∀ xs, H a = some (.lst xs) → H1 a = some (.lst xs)) → (∀ a ∈ as, ∀ xs, H a = some (.lst xs) → F a = none → F1 a = none) → Ow K F1 H0 H1 d v as
  | .lst t' ds, _, _, h, k, f => by
    cases h with
    | st n r => exact .st n (hs _ _ n r)
    | lst a b c w => exact .lst (k _ List.mem_cons_self _ a) (f _ List.mem_cons_self _ a b) c (OwL.keepG ds _ _ w (fun x hx => k x (List.mem_cons_of_mem _ hx)) fun x hx => f x (List.mem_cons_of_mem _ hx))
    | fl a b w => exact .fl (hfl _ _ a).1 (hfl _ _ a).2 (OwL.keepG ds _ _ w k f)
  | .tup ds, _, _, h, k, f => by
    cases h with
    | st n r => exact .st n (hs _ _ n r)
    | tup a w => exact .tup (ht _ _ a) (OwL.keepG ds _ _ w k f)
  | .non, _, _, h, _, _ => by cases h with | st n r => exact .st n (hs _ _ n r)
  | .bl _, _, _, h, _, _ => by cases h with | st n r => exact .st n (hs _ _ n r)
  | .int _, _, _, h, _, _ => by cases h with | st n r => exact .st n (hs _ _ n r)
  | .str _, _, _, h, _, _ => by cases h with | st n r => exact .st n (hs _ _ n r)
  | .fr _, _, _, h, _, _ => by cases h with | st n r => exact .st n (hs _ _ n r)
  | .unk, _, _, h, _, _ => by cases h with | st n r => exact .st n (hs _ _ n r)
  | .ex _, _, _, h, _, _ => by cases h with | st n r => exact .st n (hs _ _ n r)
  | .fn _, _, _, h, _, _ => by cases h with | st n r => exact .st n (hs _ _ n r)
  | .dic _ _, _, _, h, _, _ => by cases h with | st n r => exact .st n (hs _ _ n r)
  | .dct _ _ _, _, _, h, _, _ => by cases h with | st n r => exact .st n (hs _ _ n r)
theorem OwL.keepG : ∀ (ds : List D) (vs : List V) (as : List Addr), OwL K F H0 H ds vs as → (∀ a ∈ as, ∀ xs, H a = some (.lst xs) → H1 a = some (.lst xs)) → (∀ a ∈ as, ∀ xs, H a = some (.lst xs) → F a = none → F1 a = none) → OwL K F1 H0 H1 ds vs as
  | [], _, _, h, _, _ => by cases h; exact .nil
  | d :: ds, _, _, h, k, f => by
    cases h with
    | cons a b => exact .cons (Ow.keepG d _ _ a (fun x hx => k x (List.mem_append_left _ hx)) fun x hx => f x (List.mem_append_left _ hx)) (OwL.keepG ds _ _ b (fun x hx => k x (List.mem_append_right _ hx)) fun x hx => f x (List.mem_append_right _ hx))
end
end
theorem Ow.keep (t : ∀ b o, H b = some o → NoL o → H1 b = some o) (s : Same F F1) (sH : Same F1 H1) (d : D) (v : V) (as : List Addr) (w : Ow K F H0 H d v as) (k : ∀ a ∈ as, ∀ xs, H a = some (.lst xs) → H1 a = some (.lst xs)) (f : ∀ a ∈ as, F1 a = none) : Ow K F1 H0 H1 d v as :=
  Ow.keepG (fun d v n r => (Rp.keep t _ _ n r).mono s (Same.refl _)) (fun a xs e => t _ _ e trivial) (fun a xs e => ⟨s _ _ e, sH _ _ (s _ _ e)⟩) d v as w k fun a ha _ _ _ => f a ha
theorem OwL.keep (t : ∀ b o, H b = some o → NoL o → H1 b = some o) (s : Same F F1) (sH : Same F1 H1) (d : List D) (v : List V) (as : List Addr) (w : OwL K F H0 H d v as) (k : ∀ a ∈ as, ∀ xs, H a = some (.lst xs) → H1 a = some (.lst xs)) (f : ∀ a ∈ as, F1 a = none) : OwL K F1 H0 H1 d v as :=
  OwL.keepG (fun d v n r => (Rp.keep t _ _ n r).mono s (Same.refl _)) (fun a xs e => t _ _ e trivial) (fun a xs e => ⟨s _ _ e, sH _ _ (s _ _ e)⟩) d v as w k fun a ha _ _ _ => f a ha
mutual
theorem Ow.base (z : ∀ a, H0 a = none → H0' a = none) : ∀ (d : D) (v : V) (as : List Addr), Ow K F H0 H d v as → Ow K F H0' H d v as
  | .lst t' ds, _, _, h => by
    cases h with
    | st n r => exact .st n (Rp.base _ _ n r)
    | lst a b c w => exact .lst a b (z _ c) (OwL.base z ds _ _ w)
    | fl a b w => exact .fl a b (OwL.base z ds _ _ w)
  | .tup ds, _, _, h => by
    cases h with
    | st n r => exact .st n (Rp.base _ _ n r)
    | tup a w => exact .tup a (OwL.base z ds _ _ w)
  | .non, _, _, h => by cases h with | st n r => exact .st n (Rp.base _ _ n r)
  | .bl _, _, _, h => by cases h with | st n r => exact .st n (Rp.base _ _ n r)
  | .int _, _, _, h => by cases h with | st n r => exact .st n (Rp.base _ _ n r)
  | .str _, _, _, h => by cases h with | st n r => exact .st n (Rp.base _ _ n r)
  | .fr _, _, _, h => by cases h with | st n r => exact .st n (Rp.base _ _ n r)
  | .unk, _, _, h => by cases h with | st n r => exact .st n (Rp.base _ _ n r)
  | .ex _, _, _, h => by cases h with | st n r => exact .st n (Rp.base _ _ n r)
  | .fn _, _, _, h => by cases h with | st n r => exact .st n (Rp.base _ _ n r)
  | .dic _ _, _, _, h => by cases h with | st n r => exact .st n (Rp.base _ _ n r)
  | .dct _ _ _, _, _, h => by cases h with | st n r => exact .st n (Rp.base _ _ n r)
theorem OwL.base (z : ∀ a, H0 a = none → H0' a = none) : ∀ (ds : List D) (vs : List V) (as : List Addr), OwL K F H0 H ds vs as → OwL K F H0' H ds vs as
  | [], _, _, h => by cases h; exact .nil
  | d :: ds, _, _, h => by
    cases h with
    | cons a b => exact .cons (Ow.base z d _ _ a) (OwL.base z ds _ _ b)
end
mutual
theorem Ow.mem {c : Addr} : ∀ (d : D) (v : V) (as : List Addr), Ow K F H0 H d v as → c ∈ as → Own H d v c ∧ (∃ xs, H c = some (.lst xs)) ∧ F c = none ∧ H0 c = none
  | .lst t' ds, _, _, h, m => by
    cases h with
    | st n r => cases m
    | lst a b e w =>
      rcases List.mem_cons.mp m with rfl | m
      · exact ⟨.lst, ⟨_, a⟩, b, e⟩
      · obtain ⟨k, d, v, h1, h2, h3, h4⟩ := OwL.mem ds _ _ w m
        exact ⟨.inL a h1 h2 h3, h4⟩
    | fl a b w =>
      obtain ⟨k, d, v, h1, h2, h3, h4⟩ := OwL.mem ds _ _ w m
      exact ⟨.inF b h1 h2 h3, h4⟩
  | .tup ds, _, _, h, m => by
    cases h with
    | st n r => cases m
    | tup a w =>
      obtain ⟨k, d, v, h1, h2, h3, h4⟩ := OwL.mem ds _ _ w m
      exact ⟨.inT a h1 h2 h3, h4⟩
  | .non, _, _, h, m => by cases h with | st n r => cases m
  | .bl _, _, _, h, m => by cases h with | st n r => cases m
  | .int _, _, _, h, m => by cases h with | st n r => cases m
  | .str _, _, _, h, m => by cases h with | st n r => cases m
  | .fr _, _, _, h, m => by cases h with | st n r => cases m
  | .unk, _, _, h, m => by cases h with | st n r => cases m
  | .ex _, _, _, h, m => by cases h with | st n r => cases m
  | .fn _, _, _, h, m => by cases h with | st n r => cases m
  | .dic _ _, _, _, h, m => by cases h with | st n r => cases m
  | .dct _ _ _, _, _, h, m => by cases h with | st n r => cases m
theorem OwL.mem {c : Addr} : ∀ (ds : List D) (vs : List V) (as : List Addr), OwL K F H0 H ds vs as → c ∈ as → ∃ (k : Nat) (d : D) (v : V), ds[k]? = some d ∧ vs[k]? = some v ∧ Own H d v c ∧ (∃ xs, H c = some (.lst xs)) ∧ F c = none ∧ H0 c = none
  | [], _, _, h, m => by cases h; cases m
  | d :: ds, _, _, h, m => by
    cases h with
    | cons a b =>
      rcases List.mem_append.mp m with m | m
      · exact ⟨0, d, _, rfl, rfl, Ow.mem d _ _ a m⟩
      · obtain ⟨k, d, v, h1, h2, h3⟩ := OwL.mem ds _ _ b m
        exact ⟨k + 1, d, v, by simpa using h1, by simpa using h2, h3⟩
end
theorem OwL.at : ∀ {ds : List D} {vs : List V} {as : List Addr} {k : Nat} {d : D} {v : V}, OwL K F H0 H ds vs as → ds[k]? = some d → vs[k]? = some v → ∃ ak, Ow K F H0 H d v ak ∧ ∀ c ∈ ak, c ∈ as
  | _, _, _, _, _, _, .nil, e, _ => by simp at e
  | _, _, _, 0, _, _, .cons a b, e, e2 => by simp at e e2; subst e e2; exact ⟨_, a, fun c h => List.mem_append_left _ h⟩
  | _, _, _, k + 1, d, v, .cons a b, e, e2 => by
    obtain ⟨ak, h1, h2⟩ := OwL.at (k := k) (d := d) (v := v) b (by simpa using e) (by simpa using e2)
    exact ⟨ak, h1, fun c h => List.mem_append_right _ (h2 c h)⟩
theorem Ow.of {d : D} {v : V} {c : Addr} (o : Own H d v c) : ∀ {as : List Addr}, Ow K F H0 H d v as → c ∈ as := by
  induction o with
  | lst =>
    intro as w
    cases w with
    | st n _ => simp [hasT] at n
    | lst => exact List.mem_cons_self
  | inL e1 e2 e3 _ ih =>
    intro as w
    cases w with
    | st n _ => simp [hasT] at n
    | lst a _ _ w =>
      rw [a] at e1; cases e1
      obtain ⟨ak, h1, h2⟩ := w.at e2 e3
      exact List.mem_cons_of_mem _ (h2 _ (ih h1))
  | inF e1 e2 e3 o ih =>
    intro as w
    cases w with
    | st n _ =>
      have := hasTL_get (by simpa only [hasT, Bool.false_or] using n) e2
      rw [o.of] at this; cases this
    | fl _ a w =>
      rw [a] at e1; cases e1
      obtain ⟨ak, h1, h2⟩ := w.at e2 e3
      exact h2 _ (ih h1)
  | inT e1 e2 e3 o ih =>
    intro as w
    cases w with
    | st n _ =>
      have := hasTL_get (by simpa only [hasT] using n) e2
      rw [o.of] at this; cases this
    | tup a w =>
      rw [a] at e1; cases e1
      obtain ⟨ak, h1, h2⟩ := w.at e2 e3
      exact h2 _ (ih h1)
theorem Ow.iff {d : D} {v : V} {c : Addr} {as : List Addr} (w : Ow K F H0 H d v as) : Own H d v c ↔ c ∈ as := ⟨fun o => Ow.of o w, fun m => (Ow.mem d v as w m).1⟩
theorem OwL.app : ∀ {ds es : List D} {vs us : List V} {as bs : List Addr}, OwL K F H0 H ds vs as → OwL K F H0 H es us bs → OwL K F H0 H (ds ++ es) (vs ++ us) (as ++ bs)
  | _, _, _, _, _, _, .nil, s => s
  | _, _, _, _, _, _, .cons r t, s => by rw [List.append_assoc]; exact .cons r (OwL.app t s)
theorem OwL.split : ∀ {ds es : List D} {vs : List V} {as : List Addr}, OwL K F H0 H (ds ++ es) vs as → ∃ v1 v2 a1 a2, vs = v1 ++ v2 ∧ as = a1 ++ a2 ∧ OwL K F H0 H ds v1 a1 ∧ OwL K F H0 H es v2 a2
  | [], _, _, _, w => ⟨[], _, [], _, rfl, rfl, .nil, w⟩
  | d :: ds, es, _, _, .cons r t => by
    obtain ⟨v1, v2, a1, a2, rfl, rfl, h1, h2⟩ := OwL.split (ds := ds) t
    exact ⟨_ :: v1, v2, _ ++ a1, a2, rfl, by rw [List.append_assoc], .cons r h1, h2⟩
theorem OwL.length {ds : List D} {vs : List V} {as : List Addr} (w : OwL K F H0 H ds vs as) : ds.length = vs.length := (OwL.rp _ _ _ w).length
theorem OwL.sub1 {d : D} {v : V} (n : hasT d = false) (r : Rp K F H0 H d v) : ∀ {ds : List D} {vs : List V} {as : List Addr} (i : Nat), OwL K F H0 H ds vs as → ∃ bs, List.Sublist bs as ∧ OwL K F H0 H (ds.set i d) (vs.set i v) bs
  | _, _, _, _, .nil => ⟨[], List.Sublist.refl _, .nil⟩
  | _, _, _, 0, .cons (as := as) (bs := bs) a b => ⟨[] ++ bs, List.sublist_append_right as bs, .cons (.st n r) b⟩
  | _, _, _, i + 1, .cons a b => by
    obtain ⟨bs, h1, h2⟩ := OwL.sub1 n r i b
    exact ⟨_, List.Sublist.append (List.Sublist.refl _) h1, .cons a h2⟩
theorem OwL.ins {es : List D} {us : List V} (n : hasTL es = false) (r : RpL K F H0 H es us) {ds : List D} {vs : List V} {as : List Addr} (k : Nat) (w : OwL K F H0 H ds vs as) : OwL K F H0 H ((ds.take k ++ es) ++ ds.drop k) ((vs.take k ++ us) ++ vs.drop k) as := by
  have hl := w.length
  rw [← List.take_append_drop k ds] at w
  obtain ⟨v1, v2, a1, a2, rfl, rfl, h1, h2⟩ := OwL.split w
  have l1 : v1.length = min k ds.length := by rw [← h1.length, List.length_take]
  have e1 : (v1 ++ v2).take k = v1 := by
    by_cases c : k ≤ ds.length
    · have l2 : v1.length = k := by omega
      rw [← l2]; exact List.take_left' rfl
    · have : (v1 ++ v2).length ≤ k := by omega
      rw [List.take_of_length_le this]
      have : v2.length = 0 := by rw [List.length_append] at hl; omega
      rw [List.length_eq_zero_iff.mp this, List.append_nil]
  have e2 : (v1 ++ v2).drop k = v2 := by
    have := List.take_append_drop k (v1 ++ v2)
    rw [e1] at this
    exact List.append_cancel_left this
  rw [e1, e2]
  have := (h1.app (OwL.st n r)).app h2
  rwa [List.append_nil] at this
end
def NU (H : Hp) (a : Addr) (kvs : List (List Key × V)) (u : HO) : Prop := ∃ kas : Kas, u = DnO a kas ∧ kas.map (fun x => ((encN x.1).map (Sum.inl : Int → Key), x.2.2)) = kvs ∧ ∀ x ∈ kas, NK H x.1 x.2.1
theorem NU.keep {H H' : Hp} {a : Addr} {kvs : List (List Key × V)} {u : HO} (t : ∀ b xs, H b = some (.tup xs) → H' b = some (.tup xs)) (h : NU H a kvs u) : NU H' a kvs u := by
  obtain ⟨kas, h1, h2, h3⟩ := h
  exact ⟨kas, h1, h2, fun x hx => (h3 x hx).keep t⟩
def IU (kvs : List (List Key × V)) (u : HO) : Prop := ∃ kis : List (Key × V), kvs = kis.map (fun x => ([x.1], x.2)) ∧ u = .dK kis
def LU (a : Addr) (kvs : List (List Key × V)) (u : HO) : Prop := ∃ kls : Kls, u = LfO a kls ∧ kls.map (fun x => (lfK x.1, x.2)) = kvs
def DU (q : DT) (H : Hp) (a : Addr) (kvs : List (List Key × V)) (u : HO) : Prop := if q.n = true then (if q.l = true then (if q.o.isSome = true then u = .lst (kvs.map (·.2)) else IU kvs u) else if q.o.isSome = true then LU a kvs u else NU H a kvs u) else if q.l = true then ∃ od, u = .frz od (.dT kvs) else u = .dT kvs
theorem DU.keep {q : DT} {H H' : Hp} {a : Addr} {kvs : List (List Key × V)} {u : HO} (t : ∀ b xs, H b = some (.tup xs) → H' b = some (.tup xs)) (h : DU q H a kvs u) : DU q H' a kvs u := by
  unfold DU at h ⊢
  split
  · rename_i hn
    rw [if_pos hn] at h
    split
    · rename_i hl; rw [if_pos hl] at h; exact h
    · rename_i hl
      rw [if_neg hl] at h
      split
      · rename_i ho; rw [if_pos ho] at h; exact h
      · rename_i ho; rw [if_neg ho] at h; exact h.keep t
  · rename_i hn; rw [if_neg hn] at h; exact h
structure DctOk (K : PySem.W.Frag) (F H0 H : Hp) (q : DT) (ks : List (List Int)) (ds : List D) (v : V) (a : Addr) (kvs : List (List Key × V)) : Prop where
  v : v = .ref a
  o : ∀ b, q.o = some b → (q.n && !q.l) = true ∨ a = b
  al : ∃ u, H a = some u ∧ DU q H a kvs u
  fa : F a = none
  ha : H0 a = none
  k : kvs.map (·.1) = ks.map (·.map Sum.inl)
  x : RpL K F H0 H ds (kvs.map (·.2))
  nx : hasTL ds = false
def SlotOk (K : PySem.W.Frag) (F H0 H : Hp) (d : D) (v : V) : Prop :=
  (∃ ds a xs, d = .lst true ds ∧ v = .ref a ∧ H a = some (.lst xs) ∧ F a = none ∧ H0 a = none ∧ RpL K F H0 H ds xs ∧ hasTL ds = false) ∨ (hasT d = false ∧ Rp K F H0 H d v)
    ∨ (∃ as, nest d = true ∧ Ow K F H0 H d v as ∧ as.Nodup) ∨ ∃ q ks ds a kvs, d = .dct q ks ds ∧ DctOk K F H0 H q ks ds v a kvs
structure Rel (K : PySem.W.Frag) (b : Bs) (F : Hp) (m : Sl) (σ : L2.St) (H : Hp) : Prop where
  len : m.length = σ.length
  grow : Grow b.F0 b.H0 F H
  slot : ∀ (i : Nat) (d : D), m[i]? = some (some d) → ∃ v, σ[i]? = some (some v) ∧ SlotOk K F b.H0 H d v
  apart : ∀ (i j : Nat) (d e : D) (v w : V) (a : Addr), m[i]? = some (some d) → m[j]? = some (some e) → σ[i]? = some (some v) → σ[j]? = some (some w) → Owns H d v a → Owns H e w a → i = j
section
variable {K : PySem.W.Frag} {b : Bs} {F H F1 H1 H0 : Hp} {m : Sl} {σ : L2.St}
theorem set_self_eq {α : Type} {l : List α} {i : Nat} {x y : α} (h : l[i]? = some x) : (l.set i y).set i x = l := by
  rw [List.set_set]
  apply List.ext_getElem?
  intro j
  by_cases hj : j = i
  · subst hj
    rw [List.getElem?_set_self ((List.getElem?_eq_some_iff.1 h).1), h]
  · rw [List.getElem?_set_ne (Ne.symm hj)]
theorem Rel.sub (r : Rel K b F m σ H) : Same F H := r.grow.subH
theorem SlotOk.rp {d : D} {v : V} (s : SlotOk K F H0 H d v) : Rp K F H0 H d v := by
  rcases s with ⟨ds, a, xs, rfl, rfl, h1, h2, h3, h4, _⟩ | ⟨_, h⟩ | ⟨as, _, p, _⟩ | ⟨qq, ks, ds, a, kvs, rfl, p⟩
  · exact .tmN h3 h1 h4
  · exact h
  · exact Ow.rp _ _ _ p
  · rw [p.v]; exact .dct
theorem SlotOk.ow {d : D} {v : V} (s : SlotOk K F H0 H d v) : (∃ as, Ow K F H0 H d v as ∧ as.Nodup) ∨ ∃ q ks ds a kvs, d = .dct q ks ds ∧ DctOk K F H0 H q ks ds v a kvs := by
  rcases s with ⟨ds, a, xs, rfl, rfl, h1, h2, h3, h4, h5⟩ | ⟨h, h'⟩ | ⟨as, _, p⟩ | p
  · exact .inl ⟨_, .lst h1 h2 h3 (OwL.st h5 h4), one_nodup a⟩
  · exact .inl ⟨_, .st h h', List.nodup_nil⟩
  · exact .inl ⟨as, p⟩
  · exact .inr p
theorem SlotOk.of {d : D} {v : V} {as : List Addr} (w : Ow K F H0 H d v as) (n : as.Nodup) : SlotOk K F H0 H d v := by
  cases w with
  | st h r => exact .inr (.inl ⟨h, r⟩)
  | lst a b c w =>
    rename_i a' xs ds as'
    cases q : hasTL ds with
    | false => exact .inl ⟨_, _, _, rfl, rfl, a, b, c, OwL.rp _ _ _ w, q⟩
    | true => exact .inr (.inr (.inl ⟨_, q, .lst a b c w, n⟩))
  | fl a b w =>
    rename_i a' xs ds
    cases q : hasTL ds with
    | false => exact .inr (.inl ⟨by simpa only [hasT, Bool.false_or] using q, .lst a (OwL.rp _ _ _ w)⟩)
    | true => exact .inr (.inr (.inl ⟨_, q, .fl a b w, n⟩))
  | tup a w =>
    rename_i a' xs ds
    cases q : hasTL ds with
    | false => exact .inr (.inl ⟨by simpa only [hasT] using q, .tup a (OwL.rp _ _ _ w)⟩)
    | true => exact .inr (.inr (.inl ⟨_, q, .tup a w, n⟩))
theorem SlotOk.mutW {ds : List D} {v : V} (s : SlotOk K F H0 H (.lst true ds) v) : ∃ a xs as, v = .ref a ∧ H a = some (.lst xs) ∧ F a = none ∧ H0 a = none ∧ OwL K F H0 H ds xs as ∧ (a :: as).Nodup := by
  rcases s.ow with ⟨as, w, n⟩ | ⟨_, _, _, _, _, e, _⟩
  · cases w with
    | st h _ => simp [hasT] at h
    | lst a b c w => exact ⟨_, _, _, rfl, a, b, c, w, n⟩
  · cases e
theorem grow_free {a : Addr} {o1 : HO} (g : Grow F H F1 H1) (h1 : H a = some o1) (h2 : F a = none) : F1 a = none := by
  cases q : F1 a with
  | none => rfl
  | some o =>
    rcases g.new a o q with z | z
    · rw [h2] at z; cases z
    · rw [h1] at z; cases z
theorem SlotOk.grow {d : D} {v : V} (g : Grow F H F1 H1) (s : SlotOk K F H0 H d v) : SlotOk K F1 H0 H1 d v := by
  rcases s.ow with ⟨as, w, n⟩ | ⟨qq, ks, ds, a, kvs, rfl, p⟩
  · refine .of (Ow.keep (fun b o e _ => g.same b o e) g.sub g.subH d v as w (fun a _ xs e => g.same _ _ e) fun a ha => ?_) n
    obtain ⟨_, ⟨xs, h1⟩, h2, _⟩ := Ow.mem d v as w ha
    exact grow_free g h1 h2
  · exact .inr (.inr (.inr ⟨qq, ks, ds, a, kvs, rfl, p.v, p.o, p.al.imp fun u h => ⟨g.same _ _ h.1, h.2.keep fun _ _ z => g.same _ _ z⟩, p.al.elim fun u h => grow_free g h.1 p.fa, p.ha, p.k, p.x.grow g, p.nx⟩))
theorem Owns.iff {d : D} {v : V} {c : Addr} {as : List Addr} (w : Ow K F H0 H d v as) : Owns H d v c ↔ c ∈ as := by
  refine ⟨fun o => ?_, fun m => .inr (.inr (w.iff.mpr m))⟩
  rcases o with ⟨ds, rfl, rfl⟩ | ⟨q, ks, ds, rfl, rfl⟩ | o
  · exact w.iff.mp .lst
  · cases w with
    | st n _ => simp [hasT] at n
  · exact w.iff.mp o
theorem Owns.dct {q : DT} {ks : List (List Int)} {ds : List D} {v : V} {a : Addr} (o : Owns H (.dct q ks ds) v a) : v = .ref a := by
  rcases o with ⟨_, e, _⟩ | ⟨_, _, _, _, e⟩ | o
  · cases e
  · exact e
  · cases o
mutual
theorem Own.backO (t : ∀ b xs, H b = some (.tup xs) → H1 b = some (.tup xs)) (sH : ∀ b xs, F b = some (.lst xs) → H1 b = some (.lst xs)) {c : Addr} : ∀ (d : D) (v : V) (as : List Addr), Ow K F H0 H d v as → (∀ a ∈ as, ∀ xs, H a = some (.lst xs) → H1 a = some (.lst xs)) → Own H1 d v c → c ∈ as
  | .lst t' ds, _, _, h, k, o => by
    cases h with
    | st n _ => rw [o.of] at n; cases n
    | lst a _ _ w =>
      cases o with
      | lst => exact List.mem_cons_self
      | inL e e1 e2 o =>
        rw [k _ List.mem_cons_self _ a] at e; cases e
        exact List.mem_cons_of_mem _ (OwL.backO t sH ds _ _ w (fun x hx => k x (List.mem_cons_of_mem _ hx)) e1 e2 o)
    | fl a b w =>
      cases o with
      | inF e e1 e2 o =>
        rw [sH _ _ a] at e; cases e
        exact OwL.backO t sH ds _ _ w k e1 e2 o
  | .tup ds, _, _, h, k, o => by
    cases h with
    | st n _ => rw [o.of] at n; cases n
    | tup a w =>
      cases o with
      | inT e e1 e2 o =>
        rw [t _ _ a] at e; cases e
        exact OwL.backO t sH ds _ _ w k e1 e2 o
  | .non, _, _, _, _, o => nomatch o
  | .bl _, _, _, _, _, o => nomatch o
  | .int _, _, _, _, _, o => nomatch o
  | .str _, _, _, _, _, o => nomatch o
  | .fr _, _, _, _, _, o => nomatch o
  | .unk, _, _, _, _, o => nomatch o
  | .ex _, _, _, _, _, o => nomatch o
  | .fn _, _, _, _, _, o => nomatch o
  | .dic _ _, _, _, _, _, o => nomatch o
  | .dct _ _ _, _, _, _, _, o => nomatch o
theorem OwL.backO (t : ∀ b xs, H b = some (.tup xs) → H1 b = some (.tup xs)) (sH : ∀ b xs, F b = some (.lst xs) → H1 b = some (.lst xs)) {c : Addr} : ∀ (ds : List D) (vs : List V) (as : List Addr), OwL K F H0 H ds vs as → (∀ a ∈ as, ∀ xs, H a = some (.lst xs) → H1 a = some (.lst xs)) → ∀ {k : Nat} {d : D} {v : V}, ds[k]? = some d → vs[k]? = some v → Own H1 d v c → c ∈ as
  | [], _, _, _, _, _, _, _, e, _, _ => by simp at e
  | d :: ds, _, _, h, k, 0, _, _, e, e2, o => by
    cases h with
    | cons a b =>
      simp at e e2; subst e e2
      exact List.mem_append_left _ (Own.backO t sH d _ _ a (fun x hx => k x (List.mem_append_left _ hx)) o)
  | d :: ds, _, _, h, k, j + 1, _, _, e, e2, o => by
    cases h with
    | cons a b => exact List.mem_append_right _ (OwL.backO t sH ds _ _ b (fun x hx => k x (List.mem_append_right _ hx)) (k := j) (by simpa using e) (by simpa using e2) o)
end
theorem Owns.back {d : D} {v : V} {a : Addr} (tt : ∀ b xs, H b = some (.tup xs) → H1 b = some (.tup xs)) (sH : ∀ b xs, F b = some (.lst xs) → H1 b = some (.lst xs)) (kk : ∀ c xs, Owns H d v c → H c = some (.lst xs) → H1 c = some (.lst xs)) (s : SlotOk K F H0 H d v) (o : Owns H1 d v a) : Owns H d v a := by
  rcases s.ow with ⟨as, w, n⟩ | ⟨qq, ks, ds, c, kvs, rfl, p⟩
  · refine (Owns.iff w).mpr ?_
    rcases o with ⟨ds, rfl, rfl⟩ | ⟨q, ks, ds, rfl, rfl⟩ | o
    · exact w.iff.mp .lst
    · cases w with
      | st n' _ => simp [hasT] at n'
    · exact Own.backO tt sH d v as w (fun a ha xs e => kk a xs ((Owns.iff w).mpr ha) e) o
  · have := o.dct
    exact .inr (.inl ⟨_, _, _, rfl, this⟩)
theorem Owns.backS {d : D} {v : V} {a : Addr} (sF : Same F H) (e : Same H H1) (s : SlotOk K F H0 H d v) (o : Owns H1 d v a) : Owns H d v a := o.back (fun b o z => e _ _ z) (fun b xs z => e _ _ (sF _ _ z)) (fun c xs _ z => e _ _ z) s
theorem Owns.here {d : D} {v : V} {a : Addr} (s : SlotOk K F H0 H d v) (o : Owns H d v a) : ∃ u, H a = some u ∧ H0 a = none := by
  rcases s.ow with ⟨as, w, n⟩ | ⟨qq, ks, ds, c, kvs, rfl, p⟩
  · obtain ⟨_, ⟨xs, h1⟩, _, h2⟩ := Ow.mem d v as w ((Owns.iff w).mp o)
    exact ⟨_, h1, h2⟩
  · have e := o.dct
    rw [p.v] at e; cases e
    obtain ⟨u, h1, _⟩ := p.al
    exact ⟨u, h1, p.ha⟩
theorem Owns.free {d : D} {v : V} {a : Addr} (s : SlotOk K F H0 H d v) (o : Owns H d v a) : F a = none := by
  rcases s.ow with ⟨as, w, n⟩ | ⟨qq, ks, ds, c, kvs, rfl, p⟩
  · exact (Ow.mem d v as w ((Owns.iff w).mp o)).2.2.1
  · have e := o.dct
    rw [p.v] at e; cases e
    exact p.fa
theorem Owns.of {d : D} {v : V} {a : Addr} (o : Owns H d v a) (n : hasT d = false) : False := by
  rcases o with ⟨es, rfl, rfl⟩ | ⟨_, _, _, rfl, rfl⟩ | o
  · simp [hasT] at n
  · simp [hasT] at n
  · rw [o.of] at n; cases n
theorem Rel.step (r : Rel K b F m σ H) (g : Grow F H F1 H1) : Rel K b F1 m σ H1 :=
  ⟨r.len, r.grow.trans g, fun i d e => by
    obtain ⟨v, h1, h2⟩ := r.slot i d e
    exact ⟨v, h1, h2.grow g⟩, fun i j d e v w a h1 h2 h3 h4 o1 o2 => by
    obtain ⟨v', k1, k2⟩ := r.slot i d h1
    obtain ⟨w', k3, k4⟩ := r.slot j e h2
    rw [h3] at k1; cases k1
    rw [h4] at k3; cases k3
    exact r.apart i j d e v w a h1 h2 h3 h4 (o1.backS r.sub g.same k2) (o2.backS r.sub g.same k4)⟩
theorem SlotOk.mut {ds : List D} {v : V} (s : SlotOk K F H0 H (.lst true ds) v) (n : hasTL ds = false) : ∃ a xs, v = .ref a ∧ H a = some (.lst xs) ∧ F a = none ∧ H0 a = none ∧ RpL K F H0 H ds xs ∧ hasTL ds = false := by
  obtain ⟨a, xs, as, h1, h2, h3, h4, h5, _⟩ := s.mutW
  exact ⟨a, xs, h1, h2, h3, h4, OwL.rp _ _ _ h5, n⟩
theorem SlotOk.dct {q : DT} {ks : List (List Int)} {ds : List D} {v : V} (s : SlotOk K F H0 H (.dct q ks ds) v) : ∃ a kvs, DctOk K F H0 H q ks ds v a kvs := by
  rcases s with ⟨_, _, _, e, _⟩ | ⟨h, _⟩ | ⟨_, e, _⟩ | ⟨_, _, _, a, kvs, e, p⟩
  · cases e
  · simp [hasT] at h
  · cases e
  · cases e; exact ⟨a, kvs, p⟩
theorem set_some {α : Type} {l : List (Option α)} {i j : Nat} {d e : α} (h : (l.set i (some d))[j]? = some (some e)) : (j = i ∧ i < l.length ∧ e = d) ∨ (j ≠ i ∧ l[j]? = some (some e)) := by
  by_cases hj : j = i
  · subst hj
    by_cases hl : j < l.length
    · rw [List.getElem?_set_self hl] at h; cases h; exact .inl ⟨rfl, hl, rfl⟩
    · rw [List.getElem?_eq_none (by simpa using hl)] at h; cases h
  · rw [List.getElem?_set_ne (Ne.symm hj)] at h; exact .inr ⟨hj, h⟩
theorem Rel.putW {i : Nat} {d : D} {v : V} (r : Rel K b F m σ H) (h : SlotOk K F b.H0 H d v) (far : ∀ (j : Nat) (e : D) (w : V) (a : Addr), j ≠ i → m[j]? = some (some e) → σ[j]? = some (some w) → Owns H d v a → Owns H e w a → False) :
    Rel K b F (m.set i (some d)) (σ.set i (some v)) H :=
  ⟨by rw [List.length_set, List.length_set]; exact r.len, r.grow, fun j e q => by
    rcases set_some q with ⟨rfl, hl, rfl⟩ | ⟨hj, q⟩
    · exact ⟨v, by rw [List.getElem?_set_self (by rw [← r.len]; exact hl)], h⟩
    · obtain ⟨w, h1, h2⟩ := r.slot j e q
      exact ⟨w, by rw [List.getElem?_set_ne (Ne.symm hj)]; exact h1, h2⟩, fun p q d' e v' w' a e1 e2 e3 e4 o1 o2 => by
    rcases set_some e1 with ⟨hp, hl, rfl⟩ | ⟨hp, k1⟩
    · rcases set_some e2 with ⟨hq, _, _⟩ | ⟨hq, k2⟩
      · rw [hp, hq]
      · rw [hp, List.getElem?_set_self (by rw [← r.len]; exact hl)] at e3
        cases e3
        rw [List.getElem?_set_ne (Ne.symm hq)] at e4
        exact (far q _ _ a hq k2 e4 o1 o2).elim
    · rw [List.getElem?_set_ne (Ne.symm hp)] at e3
      rcases set_some e2 with ⟨hq, hl, rfl⟩ | ⟨hq, k2⟩
      · rw [hq, List.getElem?_set_self (by rw [← r.len]; exact hl)] at e4
        cases e4
        exact (far p _ _ a hp k1 e3 o2 o1).elim
      · rw [List.getElem?_set_ne (Ne.symm hq)] at e4
        exact r.apart p q _ _ _ _ a k1 k2 e3 e4 o1 o2⟩
theorem Rel.put {i : Nat} {d : D} {v : V} (r : Rel K b F m σ H) (n : hasT d = false) (h : Rp K F b.H0 H d v) : Rel K b F (m.set i (some d)) (σ.set i (some v)) H :=
  r.putW (.inr (.inl ⟨n, h⟩)) fun _ _ _ _ _ _ _ o _ => o.of n
theorem SlotOk.base {H0' : Hp} {d : D} {v : V} (s : Same H0 H0') (h : SlotOk K F H0' H d v) : SlotOk K F H0 H d v := by
  rcases h.ow with ⟨as, w, n⟩ | ⟨qq, ks, ds, a, kvs, rfl, p⟩
  · exact .of (Ow.base (fun _ z => s.free z) d v as w) n
  · exact .inr (.inr (.inr ⟨qq, ks, ds, a, kvs, rfl, p.v, p.o, p.al, p.fa, s.free p.ha, p.k, RpL.base _ _ p.nx p.x, p.nx⟩))
theorem Rel.putN {i : Nat} {d : D} {v : V} (r : Rel K b F m σ H) (g : Grow F H F1 H1) (h : SlotOk K F1 H H1 d v) : Rel K b F1 (m.set i (some d)) (σ.set i (some v)) H1 := by
  have r1 := r.step g
  refine r1.putW (h.base r.grow.same) fun j e w a _ h1 h2 o1 o2 => ?_
  obtain ⟨w', k1, k2⟩ := r.slot j e h1
  rw [h2] at k1; cases k1
  obtain ⟨ys, hy, _⟩ := Owns.here k2 (o2.backS r.sub g.same k2)
  obtain ⟨_, _, hn⟩ := Owns.here h o1
  rw [hn] at hy; cases hy
theorem Rel.own {i : Nat} {ds : List D} {a : Addr} {xs : List V} (r : Rel K b F m σ H) (g : Grow F H F1 H1) (hn : H a = none) (h1 : H1 a = some (.lst xs)) (h2 : F1 a = none) (h : RpL K F1 b.H0 H1 ds xs) (n : hasTL ds = false) :
    Rel K b F1 (m.set i (some (.lst true ds))) (σ.set i (some (.ref a))) H1 :=
  r.putN g (.inl ⟨ds, a, xs, rfl, rfl, h1, h2, hn, RpL.base ds xs n h, n⟩)
theorem Rel.chgW {i : Nat} {d e : D} {v : V} {a : Addr} {o1 o2 : HO} (r : Rel K b F m σ H) (q : m[i]? = some (some d)) (hs : σ[i]? = some (some v)) (o : Owns H d v a) (h1 : H a = some o1) (hn : ¬ NoL o1) (h2 : F a = none) (h3 : b.H0 a = none)
    (h : SlotOk K F b.H0 (upd H a o2) e v) (ow : ∀ c, Owns (upd H a o2) e v c → Owns H d v c) : Rel K b F (m.set i (some e)) σ (upd H a o2) := by
  have t : ∀ c o, H c = some o → NoL o → (upd H a o2) c = some o := fun c o hc ho => by
    rw [upd_ne (fun z => by subst z; rw [h1] at hc; cases hc; exact hn ho)]; exact hc
  have na : ∀ c o, F c = some o → c ≠ a := fun c o hc z => by subst z; rw [h2] at hc; cases hc
  have sH1 : Same F (upd H a o2) := fun c o hc => by rw [upd_ne (na _ _ hc)]; exact r.sub _ _ hc
  have far : ∀ (j : Nat) (d' : D) (w : V) (c : Addr), j ≠ i → m[j]? = some (some d') → σ[j]? = some (some w) → Owns H d' w c → c ≠ a := fun j d' w c hj q' k1 o' z => by
    subst z; exact hj (r.apart j i _ _ _ _ c q' q k1 hs o' o)
  refine ⟨by rw [List.length_set]; exact r.len, ⟨fun c o hc => ?_, r.grow.sub, fun c o hc => ?_, r.grow.new⟩, fun j d' q' => ?_, fun p p' x y v1 v2 c e1 e2 e3 e4 w1 w2 => ?_⟩
  · rw [upd_ne (fun z => by subst z; rw [h3] at hc; cases hc)]; exact r.grow.same _ _ hc
  · rw [upd_ne (na _ _ hc)]; exact r.sub _ _ hc
  · rcases set_some q' with ⟨rfl, hl, rfl⟩ | ⟨hj, q'⟩
    · exact ⟨v, hs, h⟩
    · obtain ⟨w, k1, k2⟩ := r.slot j d' q'
      refine ⟨w, k1, ?_⟩
      rcases k2.ow with ⟨as, z, n⟩ | ⟨qq, ks, ds', c, kvs, rfl, pp⟩
      · exact .of (Ow.keep t (Same.refl F) sH1 _ _ _ z (fun c hc ys e => by rw [upd_ne (far j _ _ c hj q' k1 ((Owns.iff z).mpr hc))]; exact e) fun c hc => (Ow.mem _ _ _ z hc).2.2.1) n
      · have hc : c ≠ a := far j _ _ c hj q' k1 (.inr (.inl ⟨_, _, _, rfl, pp.v⟩))
        exact .inr (.inr (.inr ⟨qq, ks, ds', c, kvs, rfl, pp.v, pp.o, pp.al.imp fun u h => ⟨by rw [upd_ne hc]; exact h.1, h.2.keep fun _ _ z => t _ _ z trivial⟩, pp.fa, pp.ha, pp.k, RpL.keep t ds' _ pp.nx pp.x, pp.nx⟩))
  · have old : ∀ (k : Nat) (z : D) (u : V), (m.set i (some e))[k]? = some (some z) → σ[k]? = some (some u) → Owns (upd H a o2) z u c → ∃ z' : D, m[k]? = some (some z') ∧ Owns H z' u c := fun k z u ek es oz => by
      rcases set_some ek with ⟨rfl, _, rfl⟩ | ⟨hk, ek⟩
      · rw [hs] at es; cases es
        exact ⟨d, q, ow c oz⟩
      · obtain ⟨u', k1, k2⟩ := r.slot k z ek
        rw [es] at k1; cases k1
        exact ⟨z, ek, oz.back (fun b xs e => t _ _ e trivial) (fun b xs e => sH1 _ _ e) (fun c xs o' z' => by rw [upd_ne (far k _ _ c hk ek es o')]; exact z') k2⟩
    obtain ⟨x', e1', o1'⟩ := old p x v1 e1 e3 w1
    obtain ⟨y', e2', o2'⟩ := old p' y v2 e2 e4 w2
    exact r.apart p p' x' y' v1 v2 c e1' e2' e3 e4 o1' o2'
theorem Rel.chgO {i : Nat} {ds es : List D} {a : Addr} {xs ys : List V} {as bs : List Addr} (r : Rel K b F m σ H) (e : m[i]? = some (some (.lst true ds))) (hs : σ[i]? = some (some (.ref a))) (h1 : H a = some (.lst xs)) (h2 : F a = none) (h3 : b.H0 a = none) (w : OwL K F b.H0 H ds xs as) (n : (a :: as).Nodup)
    (h : OwL K F b.H0 H es ys bs) (sub : ∀ c ∈ bs, c ∈ as) (nb : bs.Nodup) :
    Rel K b F (m.set i (some (.lst true es))) σ (upd H a (.lst ys)) := by
  have t : ∀ c o, H c = some o → NoL o → (upd H a (.lst ys)) c = some o := fun c o hc ho => by
    rw [upd_ne (fun z => by subst z; rw [h1] at hc; cases hc; exact False.elim ho)]; exact hc
  have na : a ∉ bs := fun z => (List.nodup_cons.mp n).1 (sub _ z)
  have w1 : OwL K F b.H0 (upd H a (.lst ys)) es ys bs := OwL.keep t (Same.refl F) (fun c o hc => by rw [upd_ne (fun z => by subst z; rw [h2] at hc; cases hc)]; exact r.sub _ _ hc) _ _ _ h (fun c hc xs e => by rw [upd_ne (fun z => by subst z; exact na hc)]; exact e) fun c hc => by
    obtain ⟨_, _, _, _, _, _, _, z, _⟩ := OwL.mem _ _ _ h hc
    exact z
  have W : Ow K F b.H0 (upd H a (.lst ys)) (.lst true es) (.ref a) (a :: bs) := .lst upd_same h2 h3 w1
  refine r.chgW e hs (.inl ⟨_, rfl, rfl⟩) h1 (fun z => z) h2 h3 (.of W (List.nodup_cons.mpr ⟨na, nb⟩)) fun c o => ?_
  rcases List.mem_cons.mp ((Owns.iff W).mp o) with rfl | z
  · exact .inl ⟨_, rfl, rfl⟩
  · exact (Owns.iff (.lst h1 h2 h3 w)).mpr (List.mem_cons_of_mem _ (sub _ z))
theorem Rel.chgD {i : Nat} {o : Option Nat} {ks ks' : List (List Int)} {ds es : List D} {v : V} {a : Addr} {kvs kvs' : List (List Key × V)} (r : Rel K b F m σ H) (e : m[i]? = some (some (.dct ⟨o, false, false⟩ ks ds))) (hs : σ[i]? = some (some v)) (p : DctOk K F b.H0 H ⟨o, false, false⟩ ks ds v a kvs)
    (hk : kvs'.map (·.1) = ks'.map (·.map Sum.inl)) (h : RpL K F b.H0 H es (kvs'.map (·.2))) (n : hasTL es = false) : Rel K b F (m.set i (some (.dct ⟨o, false, false⟩ ks' es))) σ (upd H a (.dT kvs')) := by
  have pal : H a = some (.dT kvs) := by
    obtain ⟨u, h1, h2⟩ := p.al
    rw [h1]; exact congrArg _ h2
  have t : ∀ c o, H c = some o → NoL o → (upd H a (.dT kvs')) c = some o := fun c o hc ho => by
    rw [upd_ne (fun z => by subst z; rw [pal] at hc; cases hc; exact False.elim ho)]; exact hc
  refine r.chgW e hs (.inr (.inl ⟨_, _, _, rfl, p.v⟩)) pal (fun z => z) p.fa p.ha (.inr (.inr (.inr ⟨_, ks', es, a, kvs', rfl, p.v, p.o, ⟨_, upd_same, rfl⟩, p.fa, p.ha, hk, RpL.keep t es _ n h, n⟩))) fun c o => ?_
  exact .inr (.inl ⟨_, _, _, rfl, o.dct⟩)
theorem Rel.drop {i : Nat} (r : Rel K b F m σ H) : Rel K b F (m.set i none) (σ.set i none) H := by
  have old : ∀ {j : Nat} {d : D}, (m.set i none)[j]? = some (some d) → j ≠ i ∧ m[j]? = some (some d) := fun {j d} h => by
    by_cases hj : j = i
    · subst hj
      by_cases hl : j < m.length
      · rw [List.getElem?_set_self hl] at h; cases h
      · rw [List.getElem?_eq_none (by simpa using hl)] at h; cases h
    · rw [List.getElem?_set_ne (Ne.symm hj)] at h; exact ⟨hj, h⟩
  refine ⟨by rw [List.length_set, List.length_set]; exact r.len, r.grow, fun j d q => ?_, fun p q x y v w c e1 e2 e3 e4 => ?_⟩
  · obtain ⟨hj, q⟩ := old q
    obtain ⟨v, k1, k2⟩ := r.slot j d q
    exact ⟨v, by rw [List.getElem?_set_ne (Ne.symm hj)]; exact k1, k2⟩
  · obtain ⟨h1, e1⟩ := old e1
    obtain ⟨h2, e2⟩ := old e2
    rw [List.getElem?_set_ne (Ne.symm h1)] at e3
    rw [List.getElem?_set_ne (Ne.symm h2)] at e4
    exact r.apart p q x y v w c e1 e2 e3 e4
theorem Rel.mineW {i : Nat} {ds : List D} (r : Rel K b F m σ H) (e : m[i]? = some (some (.lst true ds))) : ∃ a xs as, σ[i]? = some (some (.ref a)) ∧ H a = some (.lst xs) ∧ F a = none ∧ b.H0 a = none ∧ OwL K F b.H0 H ds xs as ∧ (a :: as).Nodup := by
  obtain ⟨v, q1, q2⟩ := r.slot i _ e
  obtain ⟨a, xs, as, rfl, h⟩ := q2.mutW
  exact ⟨a, xs, as, q1, h⟩
theorem Rel.chgL {i : Nat} {ds es : List D} {a : Addr} {xs ys : List V} (r : Rel K b F m σ H) (e : m[i]? = some (some (.lst true ds))) (hs : σ[i]? = some (some (.ref a))) (h1 : H a = some (.lst xs))
    (h : ∀ as, OwL K F b.H0 H ds xs as → ∃ bs, List.Sublist bs as ∧ OwL K F b.H0 H es ys bs) : Rel K b F (m.set i (some (.lst true es))) σ (upd H a (.lst ys)) := by
  obtain ⟨a', xs', as, q1, h1', h2, h3, h4, h5⟩ := r.mineW e
  rw [hs] at q1; cases q1
  rw [h1] at h1'; cases h1'
  obtain ⟨bs, sb, w⟩ := h as h4
  exact r.chgO e hs h1 h2 h3 h4 h5 w (fun c hc => sb.subset hc) ((List.nodup_cons.mp h5).2.sublist sb)
theorem Rel.chgApp {i : Nat} {ds es : List D} {a : Addr} {xs us : List V} (r : Rel K b F m σ H) (e : m[i]? = some (some (.lst true ds))) (hs : σ[i]? = some (some (.ref a))) (h1 : H a = some (.lst xs)) (h : RpL K F b.H0 H es us) (n : hasTL es = false) :
    Rel K b F (m.set i (some (.lst true (ds ++ es)))) σ (upd H a (.lst (xs ++ us))) := r.chgL e hs h1 fun as w => ⟨as ++ [], by rw [List.append_nil]; exact List.Sublist.refl _, w.app (OwL.st n h)⟩
theorem Rel.freeze' {i : Nat} {ds : List D} (r : Rel K b F m σ H) (e : m[i]? = some (some (.lst true ds))) : ∃ F', Same F F' ∧ Rel K b F' (m.set i (some (.lst false ds))) σ H := by
  obtain ⟨a, xs, as, q1, h1, h2, h3, h4, h5⟩ := r.mineW e
  have sF : Same F (upd F a (.lst xs)) := same_upd h2
  have sH : Same (upd F a (.lst xs)) H := fun c o hc => by
    by_cases hb : c = a
    · subst hb; rw [upd_same] at hc; rw [h1]; exact hc
    · rw [upd_ne hb] at hc; exact r.sub _ _ hc
  have far : ∀ (j : Nat) (d' : D) (w : V) (c : Addr), j ≠ i → m[j]? = some (some d') → σ[j]? = some (some w) → Owns H d' w c → c ≠ a := fun j d' w c hj q' k1 o' z => by
    subst z; exact hj (r.apart j i _ _ _ _ c q' e k1 q1 o' (.inl ⟨_, rfl, rfl⟩))
  have na : a ∉ as := (List.nodup_cons.mp h5).1
  have W : Ow K (upd F a (.lst xs)) b.H0 H (.lst false ds) (.ref a) as := .fl upd_same h1 (OwL.keep (fun _ _ z _ => z) sF sH _ _ _ h4 (fun _ _ _ z => z) fun c hc => by
    rw [upd_ne (fun z => by subst z; exact na hc)]
    obtain ⟨_, _, _, _, _, _, _, z, _⟩ := OwL.mem _ _ _ h4 hc
    exact z)
  have W0 : Ow K F b.H0 H (.lst true ds) (.ref a) (a :: as) := .lst h1 h2 h3 h4
  refine ⟨upd F a (.lst xs), sF, by rw [List.length_set]; exact r.len, ⟨r.grow.same, r.grow.sub.trans sF, sH, fun c o hc => ?_⟩, fun j d q => ?_, fun p q x y v w c e1 e2 e3 e4 o1 o2 => ?_⟩
  · by_cases hb : c = a
    · subst hb; exact .inr h3
    · rw [upd_ne hb] at hc; exact r.grow.new _ _ hc
  · rcases set_some q with ⟨rfl, hl, rfl⟩ | ⟨hj, q⟩
    · exact ⟨_, q1, .of W (List.nodup_cons.mp h5).2⟩
    · obtain ⟨w, k1, k2⟩ := r.slot j d q
      refine ⟨w, k1, ?_⟩
      rcases k2.ow with ⟨as, z, n⟩ | ⟨qq, ks, ds', c, kvs, rfl, pp⟩
      · refine .of (Ow.keep (fun _ _ z _ => z) sF sH _ _ _ z (fun _ _ _ z => z) fun c hc => ?_) n
        rw [upd_ne (far j _ _ c hj q k1 ((Owns.iff z).mpr hc))]
        exact (Ow.mem _ _ _ z hc).2.2.1
      · have hc : c ≠ a := far j _ _ c hj q k1 (.inr (.inl ⟨_, _, _, rfl, pp.v⟩))
        exact .inr (.inr (.inr ⟨qq, ks, ds', c, kvs, rfl, pp.v, pp.o, pp.al, by rw [upd_ne hc]; exact pp.fa, pp.ha, pp.k, pp.x.mono sF (Same.refl _), pp.nx⟩))
  · have old : ∀ (k : Nat) (z : D) (u : V), (m.set i (some (.lst false ds)))[k]? = some (some z) → σ[k]? = some (some u) → Owns H z u c → ∃ z' : D, m[k]? = some (some z') ∧ Owns H z' u c := fun k z u ek es oz => by
      rcases set_some ek with ⟨rfl, _, rfl⟩ | ⟨hk, ek⟩
      · rw [q1] at es; cases es
        exact ⟨_, e, (Owns.iff W0).mpr (List.mem_cons_of_mem _ ((Owns.iff W).mp oz))⟩
      · exact ⟨z, ek, oz⟩
    obtain ⟨x', e1', o1'⟩ := old p x v e1 e3 o1
    obtain ⟨y', e2', o2'⟩ := old q y w e2 e4 o2
    exact r.apart p q x' y' v w c e1' e2' e3 e4 o1' o2'
end
def Pst {α : Type} (b : Bs) (W : WX) (σ : L2.St) (F H : Hp) (C : α → Hp → Hp → Prop) : R α → Prop
  | .ok a => ∀ F' H', Grow F H F' H' → C a F' H'
  | .exc c => ∀ F' H', Grow F H F' H' → W (b.ex c) none σ H'
  | .stuck => False
section
variable {α β : Type} {b : Bs} {W : WX} {σ : L2.St} {F H F1 H1 : Hp}
theorem Pst.grow {C : α → Hp → Hp → Prop} {r : R α} (g : Grow F H F1 H1) (p : Pst b W σ F H C r) : Pst b W σ F1 H1 C r := by
  cases r with
  | ok a => exact fun F' H' k => p F' H' (g.trans k)
  | exc c => exact fun F' H' k => p F' H' (g.trans k)
  | stuck => exact p
theorem Pst.bind {C : β → Hp → Hp → Prop} {r : R α} {k : α → R β} (p : Pst b W σ F H C (r.bind k)) : Pst b W σ F H (fun a F' H' => Pst b W σ F' H' C (k a)) r := by
  cases r with
  | ok a => exact fun F' H' g => Pst.grow g p
  | exc c => exact p
  | stuck => exact p
theorem Pst.imp {C C' : α → Hp → Hp → Prop} {r : R α} (p : Pst b W σ F H C r) (h : ∀ a F' H', r = .ok a → Grow F H F' H' → C a F' H' → C' a F' H') : Pst b W σ F H C' r := by
  cases r with
  | ok a => exact fun F' H' g => h a F' H' rfl g (p F' H' g)
  | exc c => exact p
  | stuck => exact p
theorem Pst.here {C : α → Hp → Hp → Prop} {a : α} (p : Pst b W σ F H C (.ok a)) (s : Same F H) : C a F H := p F H (Grow.refl s)
end
abbrev SemE := Sl → R D
abbrev SemT := Sl → R Bool
abbrev SemA := Sl → R (List D)
section
variable (K : PySem.W.Frag) (b : Bs) (W : WX)
def CV (Q : VK) : D → Hp → Hp → Prop := fun d F' H' => ∀ v, Rp K F' b.H0 H' d v → Q v H'
def CVs (Q : List V → Hp → Prop) : List D → Hp → Hp → Prop := fun d F' H' => ∀ v, RpL K F' b.H0 H' d v → Q v H'
def tSE (f : SemE) : TE := fun σ H Q => ∃ F m, Rel K b F m σ H ∧ Pst b W σ F H (CV K b Q) (f m)
def tST (f : SemT) : TT := fun σ H Q => ∃ F m, Rel K b F m σ H ∧ Pst b W σ F H (fun c _ H' => Q c H') (f m)
def tSA (f : SemA) : TA := fun σ H Q => ∃ F m, Rel K b F m σ H ∧ Pst b W σ F H (CVs K b Q) (f m)
def CO (H : Hp) (Q : VK) : List D → Hp → Hp → Prop := fun ds F' H' => ∀ a xs, H a = none → F' a = none → H' a = some (.lst xs) → RpL K F' b.H0 H' ds xs → Q (.ref a) H'
def tSO (f : SemA) : TE := fun σ H Q => ∃ F m, Rel K b F m σ H ∧ Pst b W σ F H (CO K b H Q) (f m)
end
abbrev SE (X : Cx) (b : Bs) (W : WX) (e : Expr) (f : SemE) : Prop := PE X e (tSE X.K b W f)
abbrev ST (X : Cx) (b : Bs) (W : WX) (e : Expr) (f : SemT) : Prop := PT X e (tST X.K b W f)
abbrev SW (X : Cx) (b : Bs) (W : WX) (e : Expr) (f : SemT) : Prop := PW X e (tST X.K b W f)
abbrev SA (X : Cx) (b : Bs) (W : WX) (es : List Expr) (f : SemA) : Prop := PA X es (tSA X.K b W f)
abbrev SO (X : Cx) (b : Bs) (W : WX) (e : Expr) (f : SemA) : Prop := PE X e (tSO X.K b W f)
theorem PE.weak {X : Cx} {e : Expr} {t t' : TE} (h : PE X e t) (w : ∀ σ H Q, t' σ H Q → t σ H Q) : PE X e t' := ⟨fun pins s σ H Q I q => h.run pins s σ H Q I (w _ _ _ q)⟩
theorem PT.weak {X : Cx} {e : Expr} {t t' : TT} (h : PT X e t) (w : ∀ σ H Q, t' σ H Q → t σ H Q) : PT X e t' := ⟨fun pins s σ H Q I q => h.run pins s σ H Q I (w _ _ _ q)⟩
theorem PW.weak {X : Cx} {e : Expr} {t t' : TT} (h : PW X e t) (w : ∀ σ H Q, t' σ H Q → t σ H Q) : PW X e t' := ⟨fun wh pins s σ H Q I q => h.run wh pins s σ H Q I (w _ _ _ q)⟩
theorem PA.weak {X : Cx} {e : List Expr} {t t' : TA} (h : PA X e t) (w : ∀ σ H Q, t' σ H Q → t σ H Q) : PA X e t' := ⟨fun pos pins s σ H Q I q => h.run pos pins s σ H Q I (w _ _ _ q)⟩
theorem PS.weak {X : Cx} {e : Stmt} {t t' : TS} (h : PS X e t) (w : ∀ D σ H, t' D σ H → t D σ H) : PS X e t' := ⟨fun pins s σ H D I q => h.run pins s σ H D I (w _ _ _ q)⟩
theorem PSs.weak {X : Cx} {e : List Stmt} {t t' : TS} (h : PSs X e t) (w : ∀ D σ H, t' D σ H → t D σ H) : PSs X e t' := ⟨fun pins s σ H D I q => h.run pins s σ H D I (w _ _ _ q)⟩
theorem PO.weak {X : Cx} {e : Option Expr} {t t' : TO} (h : PO X e t) (w : ∀ σ H Q, t' σ H Q → t σ H Q) : PO X e t' := ⟨fun pins s σ H Q I q => h.run pins s σ H Q I (w _ _ _ q)⟩
def eVar (i : Nat) : SemE := fun m => match m[i]? with
  | some (some d) => .ok d
  | _ => .stuck
def eC (d : D) : SemE := fun _ => .ok d
def e2 (op : D → D → R D) (f g : SemE) : SemE := fun m => (f m).bind fun x => (g m).bind fun y => op x y
def e1 (op : D → R D) (f : SemE) : SemE := fun m => (f m).bind op
def eA (op : List D → R D) (f : SemA) : SemE := fun m => (f m).bind op
def aNil : SemA := fun _ => .ok []
def aCons (f : SemE) (g : SemA) : SemA := fun m => (f m).bind fun x => (g m).bind fun xs => .ok (x :: xs)
def asB : D → R Bool
  | .bl c => .ok c
  | _ => .stuck
def tOf (f : SemE) : SemT := fun m => (f m).bind asB
def tNot (f : SemT) : SemT := fun m => (f m).bind fun c => .ok (!c)
def tAnd (f g : SemT) : SemT := fun m => (f m).bind fun c => if c = true then g m else .ok false
def tOr (f g : SemT) : SemT := fun m => (f m).bind fun c => if c = true then .ok true else g m
def eAnd (f g : SemE) : SemE := fun m => (f m).bind fun x => (asB x).bind fun c => if c = true then g m else .ok (.bl false)
def eNot (f : SemE) : SemE := fun m => (f m).bind fun x => (asB x).bind fun c => .ok (.bl (!c))
section
variable {X : Cx} {b : Bs} {W : WX} {e a c : Expr} {f g : SemE} {t u : SemT} {pos : Pos}
theorem se_var {i : Nat} (h : PE X e (tVar i)) : SE X b W e (eVar i) := PE.weak h fun σ H Q ⟨F, m, r, p⟩ => by
  unfold eVar at p
  split at p
  · rename_i d hd
    obtain ⟨v, h1, h2⟩ := r.slot i d hd
    exact ⟨v, h1, p.here r.sub v h2.rp⟩
  · exact p.elim
theorem se_c {v : V} {d : D} (h : PE X e (tC v)) (hr : ∀ K F H0 H, Rp K F H0 H d v) : SE X b W e (eC d) := PE.weak h fun σ H Q ⟨F, m, r, p⟩ => p.here r.sub v (hr _ _ _ _)
theorem se_int {i : Int} {j : Nat} : SE X b W (.Constant (.int i) j pos) (eC (.int i)) := se_c pe_int fun _ _ _ _ => .int _
theorem se_str {x : Str} {j : Nat} : SE X b W (.Constant (.str x) j pos) (eC (.str x)) := se_c pe_str fun _ _ _ _ => .str _
theorem se_bl {x : Bool} {j : Nat} : SE X b W (.Constant (.bool x) j pos) (eC (.bl x)) := se_c pe_bl fun _ _ _ _ => .bl _
theorem seq {R' : V → Hp → Prop} {σ : L2.St} {H : Hp} {α : Type} {k : D → R α} {C : α → Hp → Hp → Prop} {F : Hp} {m : Sl} (r : Rel X.K b F m σ H) (p : Pst b W σ F H C ((f m).bind k))
    (h : ∀ x F1 H1 v, Rel X.K b F1 m σ H1 → Grow F H F1 H1 → Rp X.K F1 b.H0 H1 x v → Pst b W σ F1 H1 C (k x) → R' v H1) : tSE X.K b W f σ H R' :=
  ⟨F, m, r, p.bind.imp fun x F1 H1 _ G q v hv => h x F1 H1 v (r.step G) G hv q⟩
def Op2 (X : Cx) (b : Bs) (W : WX) (fn : Value → Value → Sem Value) (op : D → D → R D) : Prop := ∃ r : R2, OpR X fn r ∧ ∀ (σ : L2.St) (F H : Hp) (Q : VK) (x y : D) (v u : V), Same F H → Rp X.K F b.H0 H x v → Rp X.K F b.H0 H y u →
  Pst b W σ F H (CV X.K b Q) (op x y) → r v u H Q
theorem se_bin {o : Operator} {op : D → D → R D} (ho : Op2 X b W (binaryOp o) op) (hf : SE X b W a f) (hg : SE X b W c g) : SE X b W (.BinOp a o c pos) (e2 op f g) := by
  obtain ⟨r, h1, h2⟩ := ho
  refine PE.weak (pe_op h1 hf hg) fun σ H Q ⟨F, m, R, p⟩ => ?_
  exact seq R p fun x F1 H1 v R1 G1 hv p1 => seq R1 p1 fun y F2 H2 u R2 G2 hu p2 => h2 σ F2 H2 Q x y v u R2.sub (hv.grow G2) hu p2
theorem se_cmp {o : CmpOp} {op : D → D → R D} (ho : Op2 X b W (compareOp o) op) (hf : SE X b W a f) (hg : SE X b W c g) (hm : behindInMarks o c = false) : SE X b W (.Compare a [o] [c] pos) (e2 op f g) := by
  obtain ⟨r, h1, h2⟩ := ho
  refine PE.weak (pe_cmpR h1 hf hg hm) fun σ H Q ⟨F, m, R, p⟩ => ?_
  exact seq R p fun x F1 H1 v R1 G1 hv p1 => seq R1 p1 fun y F2 H2 u R2 G2 hu p2 => h2 σ F2 H2 Q x y v u R2.sub (hv.grow G2) hu p2
theorem asB_pst {σ : L2.St} {F H : Hp} {α : Type} {k : Bool → R α} {C : α → Hp → Hp → Prop} {x : D} {v : V} {K : PySem.W.Frag} {H0 : Hp} (hv : Rp K F H0 H x v) (p : Pst b W σ F H C ((asB x).bind k)) : ∃ c, v = .bl c ∧ x = .bl c ∧ Pst b W σ F H C (k c) := by
  cases x <;> first | exact p.elim | skip
  rename_i c
  cases hv
  exact ⟨c, rfl, rfl, p⟩
theorem st_cmp {o : CmpOp} {op : D → D → R D} (ho : Op2 X b W (compareOp o) op) (hf : SE X b W a f) (hg : SE X b W c g) (hm : behindInMarks o c = false) : ST X b W (.Compare a [o] [c] pos) (tOf (e2 op f g)) := by
  obtain ⟨r, h1, h2⟩ := ho
  refine PT.weak (pt_cmpR h1 hf hg hm) fun σ H Q ⟨F, m, R, p⟩ => ?_
  have p' : Pst b W σ F H (fun c _ H' => Q c H') ((f m).bind fun x => (g m).bind fun y => (op x y).bind asB) := by
    unfold tOf e2 at p
    cases hf : f m <;> rw [hf] at p
    · cases hg : g m <;> rw [hg] at p <;> exact p
    · exact p
    · exact p
  refine seq R p' fun x F1 H1 v R1 G1 hv p1 => seq R1 p1 fun y F2 H2 u R2 G2 hu p2 => h2 σ F2 H2 _ x y v u R2.sub (hv.grow G2) hu ?_
  refine p2.bind.imp fun d F3 H3 _ G3 q w hw => ?_
  have q' : Pst b W σ F3 H3 (fun c _ H' => Q c H') ((asB d).bind fun c => .ok c) := by
    cases h : asB d <;> rw [h] at q <;> exact q
  obtain ⟨c, rfl, rfl, z⟩ := asB_pst hw q'
  exact ⟨c, rfl, z.here (R2.step G3).sub⟩
theorem st_val (hf : SE X b W e f) (he : ∀ whole, isTrue e X.env whole = (do let v ← whole; standAt e.pos; holding [v] (truthy v)) := by intro _; rfl) : ST X b W e (tOf f) := by
  refine PT.weak (L2.pt_val hf he) fun σ H Q ⟨F, m, R, p⟩ => ?_
  refine ⟨F, m, R, p.bind.imp fun x F1 H1 _ G q v hv => ?_⟩
  have q' : Pst b W σ F1 H1 (fun c _ H' => Q c H') ((asB x).bind fun c => .ok c) := by
    cases h : asB x <;> rw [h] at q <;> exact q
  obtain ⟨c, rfl, rfl, z⟩ := asB_pst hv q'
  exact ⟨c, rfl, z.here (R.step G).sub⟩
theorem st_not (h : ST X b W a t) : ST X b W (.UnaryOp .Not a pos) (tNot t) := by
  refine PT.weak (L2.pt_not h) fun σ H Q ⟨F, m, R, p⟩ => ?_
  exact ⟨F, m, R, p.bind.imp fun x F1 H1 _ G q => q.here (R.step G).sub⟩
theorem sw_and1 (h : ST X b W a t) : SW X b W (.BoolOp .And [a] pos) t := L2.pw_and1 h
theorem sw_or1 (h : ST X b W a t) : SW X b W (.BoolOp .Or [a] pos) t := L2.pw_or1 h
theorem sw_and {rest : List Expr} (h : ST X b W a t) (k : SW X b W (.BoolOp .And (c :: rest) pos) u) : SW X b W (.BoolOp .And (a :: c :: rest) pos) (tAnd t u) := by
  refine PW.weak (L2.pw_and h k) fun σ H Q ⟨F, m, R, p⟩ => ?_
  refine ⟨F, m, R, p.bind.imp fun x F1 H1 _ G q => ?_⟩
  cases x with
  | true => exact ⟨F1, m, R.step G, q⟩
  | false => exact q.here (R.step G).sub
theorem sw_or {rest : List Expr} (h : ST X b W a t) (k : SW X b W (.BoolOp .Or (c :: rest) pos) u) : SW X b W (.BoolOp .Or (a :: c :: rest) pos) (tOr t u) := by
  refine PW.weak (L2.pw_or h k) fun σ H Q ⟨F, m, R, p⟩ => ?_
  refine ⟨F, m, R, p.bind.imp fun x F1 H1 _ G q => ?_⟩
  cases x with
  | true => exact q.here (R.step G).sub
  | false => exact ⟨F1, m, R.step G, q⟩
theorem st_w (h : SW X b W e t) : ST X b W e t := PW.pt h
theorem se_one {op : BoolOp} (h : SE X b W a f) : SE X b W (.BoolOp op [a] pos) f := L2.pe_one h
theorem se_and {rest : List Expr} (h : SE X b W a f) (k : SE X b W (.BoolOp .And (c :: rest) pos) g) : SE X b W (.BoolOp .And (a :: c :: rest) pos) (eAnd f g) := by
  refine PE.weak (L2.pe_and h k) fun σ H Q ⟨F, m, R, p⟩ => ?_
  refine ⟨F, m, R, p.bind.imp fun x F1 H1 _ G q v hv => ?_⟩
  obtain ⟨c, rfl, rfl, z⟩ := asB_pst hv q
  refine ⟨c, rfl, ?_⟩
  cases c with
  | true => exact ⟨F1, m, R.step G, z⟩
  | false => exact z.here (R.step G).sub _ (.bl _)
theorem se_not (h : SE X b W a f) : SE X b W (.UnaryOp .Not a pos) (eNot f) := by
  refine PE.weak (L2.pe_not h) fun σ H Q ⟨F, m, R, p⟩ => ?_
  refine ⟨F, m, R, p.bind.imp fun x F1 H1 _ G q v hv => ?_⟩
  obtain ⟨c, rfl, rfl, z⟩ := asB_pst hv q
  exact ⟨c, rfl, z.here (R.step G).sub _ (.bl _)⟩
theorem sa_nil : SA X b W [] aNil := PA.weak pa_nil fun σ H Q ⟨F, m, R, p⟩ => p.here R.sub [] .nil
theorem sa_cons {es : List Expr} {h : SemA} (he : SE X b W e f) (hr : SA X b W es h) (hs : starEach (e :: es) X.env = (false, eval e X.env) :: starEach es X.env := by rfl) : SA X b W (e :: es) (aCons f h) := by
  refine PA.weak (pa_cons he hr hs) fun σ H Q ⟨F, m, R, p⟩ => ?_
  refine seq R p fun x F1 H1 v R1 G1 hv p1 => ⟨F1, m, R1, p1.bind.imp fun xs F2 H2 _ G2 q vs hvs => ?_⟩
  exact q.here (R1.step G2).sub _ (.cons (hv.grow G2) hvs)
theorem seqA {R' : List V → Hp → Prop} {σ : L2.St} {H : Hp} {α : Type} {h : SemA} {k : List D → R α} {C : α → Hp → Hp → Prop} {F : Hp} {m : Sl} (r : Rel X.K b F m σ H) (p : Pst b W σ F H C ((h m).bind k))
    (q : ∀ x F1 H1 v, Rel X.K b F1 m σ H1 → Grow F H F1 H1 → RpL X.K F1 b.H0 H1 x v → Pst b W σ F1 H1 C (k x) → R' v H1) : tSA X.K b W h σ H R' :=
  ⟨F, m, r, p.bind.imp fun x F1 H1 _ G z v hv => q x F1 H1 v (r.step G) G hv z⟩
def mkTup (xs : List D) : R D := if xs.length ≤ sizeLine then .ok (.tup xs) else .stuck
theorem se_tup {es : List Expr} {h : SemA} {k : Nat} (ha : SA X b W es h) : SE X b W (.Tuple es k pos) (eA mkTup h) := by
  refine PE.weak (pe_tup ha) fun σ H Q ⟨F, m, R, p⟩ => ?_
  refine seqA R p fun xs F1 H1 vs R1 G1 hv p1 => ?_
  unfold mkTup at p1
  split at p1
  · rename_i hl
    refine ⟨by rw [← hv.length]; exact hl, fun q hq => ?_⟩
    have G := Grow.still (o := .tup vs) R1.sub hq
    exact (p1 _ _ G) _ (.tup upd_same (hv.grow G))
  · exact p1.elim
def mkLst (xs : List D) : R (List D) := if xs.length ≤ sizeLine then .ok xs else .stuck
def aThen (h : SemA) (k : List D → R (List D)) : SemA := fun m => (h m).bind k
theorem so_lst {es : List Expr} {h : SemA} (ha : SA X b W es h) : SO X b W (.List es pos) (aThen h mkLst) := by
  refine PE.weak (pe_lst ha) fun σ H Q ⟨F, m, R, p⟩ => ?_
  refine seqA R p fun xs F1 H1 vs R1 G1 hv p1 => ?_
  unfold mkLst at p1
  split at p1
  · rename_i hl
    refine ⟨by rw [← hv.length]; exact hl, fun q hq => ?_⟩
    have G := Grow.loose (o := .lst vs) R1.sub hq
    exact (p1 _ _ G) q vs (G1.same.free hq) (R1.sub.free hq) upd_same (hv.grow G)
  · exact p1.elim
def eOwn (h : SemA) : SemE := fun m => (h m).bind fun xs => .ok (.lst false xs)
theorem se_own {h : SemA} (ho : SO X b W e h) : SE X b W e (eOwn h) := by
  refine PE.weak ho fun σ H Q ⟨F, m, R, p⟩ => ?_
  refine ⟨F, m, R, ?_⟩
  unfold eOwn at p
  cases hm : h m with
  | exc c => rw [hm] at p; exact p
  | stuck => rw [hm] at p; exact p.elim
  | ok xs =>
    rw [hm] at p
    refine fun F1 H1 G1 a vs h0 h1 h2 hv => ?_
    have s1 := (R.step G1).sub
    have sF : Same F1 (upd F1 a (.lst vs)) := same_upd h1
    have sH : Same (upd F1 a (.lst vs)) H1 := fun c o hc => by
      by_cases hb : c = a
      · subst hb; rw [upd_same] at hc; rw [h2]; exact hc
      · rw [upd_ne hb] at hc; exact s1 _ _ hc
    refine p (upd F1 a (.lst vs)) H1 ⟨G1.same, G1.sub.trans sF, sH, fun c o hc => ?_⟩ _ (.lst upd_same (hv.mono sF (Same.refl _)))
    by_cases hb : c = a
    · subst hb; exact .inr h0
    · rw [upd_ne hb] at hc; exact G1.new _ _ hc
end
end CT

namespace CT
open PySem PySem.Spec PyProof.Rows L2
def addD : D → D → R D
  | .int i, .int j => .ok (.int (i + j))
  | .str x, .str y => if x.length + y.length ≤ sizeLine then .ok (.str (x ++ y)) else .stuck
  | .tup xs, .tup ys => if xs.length + ys.length ≤ sizeLine then .ok (.tup (xs ++ ys)) else .stuck
  | .lst _ xs, .lst _ ys => if xs.length + ys.length ≤ sizeLine then .ok (.lst false (xs ++ ys)) else .stuck
  | _, _ => .stuck
def subD : D → D → R D
  | .int i, .int j => .ok (.int (i - j))
  | _, _ => .stuck
def mulOk (i j : Int) : Prop := (-(2 ^ 64) < i ∧ i < 2 ^ 64) ∨ (-(2 ^ 64) < j ∧ j < 2 ^ 64) ∨ i.natAbs.log2 + j.natAbs.log2 < 1000000
instance (i j : Int) : Decidable (mulOk i j) := by unfold mulOk; infer_instance
def mulD : D → D → R D
  | .int i, .int j => if mulOk i j then .ok (.int (i * j)) else .stuck
  | _, _ => .stuck
def modD : D → D → R D
  | .int i, .int j => if j ≠ 0 then .ok (.int (i.fmod j)) else .stuck
  | _, _ => .stuck
def divOk (j : Int) : Prop := (j ≠ 0 ∧ j.natAbs < 1073741824) ∨ (0 < j ∧ j.natAbs.log2 < 9000)
instance (j : Int) : Decidable (divOk j) := by unfold divOk; infer_instance
def divD : D → D → R D
  | .int i, .int j => if divOk j then .ok (.int (i.fdiv j)) else .stuck
  | _, _ => .stuck
def powD : D → D → R D
  | .int i, .int j => if 0 ≤ j ∧ (Builtin.Int.intBits i : Int) * j ≤ 2 ^ 27 then .ok (.int (i ^ j.toNat)) else .stuck
  | _, _ => .stuck
section
variable {X : Cx} {b : Bs} {W : WX}
theorem o_add : Op2 X b W (binaryOp .Add) addD := by
  refine ⟨_, (op_add (X := X)).or ((op_add_str (X := X)).or ((op_catA (X := X)).or (op_cat (X := X)))), fun σ F H Q x y v u s hx hy p => ?_⟩
  cases x with
  | int i =>
    cases y <;> first | exact p.elim | skip
    rename_i j
    cases hx; cases hy
    exact .inl ⟨i, j, rfl, rfl, p.here s _ (.int _)⟩
  | str i =>
    cases y <;> first | exact p.elim | skip
    rename_i j
    cases hx; cases hy
    simp only [addD] at p
    split at p
    · rename_i hl
      exact .inr (.inl ⟨i, j, rfl, rfl, hl, p.here s _ (.str _)⟩)
    · exact p.elim
  | tup ds =>
    cases y <;> first | exact p.elim | skip
    rename_i es
    obtain ⟨a, xs, rfl, h1', h2⟩ := hx.tuple'
    obtain ⟨c, ys, rfl, k1', k2⟩ := hy.tuple'
    have h1 : SqT X.K H a xs := .inl (.inl h1')
    have k1 : SqT X.K H c ys := .inl (.inl k1')
    simp only [addD] at p
    split at p
    · rename_i hl
      refine .inr (.inr (.inl ⟨a, c, xs, ys, rfl, rfl, h1, k1, by rw [← h2.length, ← k2.length]; exact hl, fun e => ?_, fun e1 e2 => ?_, fun e1 e2 q hq => ?_⟩))
      · subst e
        cases h2
        exact p.here s _ (.tup k1' k2)
      · subst e2
        cases k2
        rw [List.append_nil] at p
        exact p.here s _ (.tup h1' h2)
      · have G := Grow.still (o := .tup (xs ++ ys)) s hq
        exact (p _ _ G) _ (.tup upd_same ((h2.grow G).app (k2.grow G)))
    · exact p.elim
  | lst t ds =>
    cases y <;> first | exact p.elim | skip
    rename_i t' es
    obtain ⟨a, xs, rfl, h1, h2⟩ := hx.list s
    obtain ⟨c, ys, rfl, k1, k2⟩ := hy.list s
    simp only [addD] at p
    split at p
    · rename_i hl
      refine .inr (.inr (.inr ⟨a, c, xs, ys, rfl, rfl, h1, k1, by rw [← h2.length, ← k2.length]; exact hl, fun q hq => ?_⟩))
      have G := Grow.still (o := .lst (xs ++ ys)) s hq
      exact (p _ _ G) _ (.lst upd_same ((h2.grow G).app (k2.grow G)))
    · exact p.elim
  | unk => exact p.elim
  | ex _ => exact p.elim
  | fn _ => exact p.elim
  | dic _ _ => exact p.elim
  | dct _ _ _ => exact p.elim
  | non => exact p.elim
  | bl _ => exact p.elim
  | fr _ => exact p.elim
def a2 (op : D → D → R (List D)) (f g : SemE) : SemA := fun m => (f m).bind fun x => (g m).bind fun y => op x y
theorem o_int2 {fn : Value → Value → Sem Value} {op : D → D → R D} {r : R2} (h : OpR X fn r) (hs : ∀ x y, (∃ i j, x = .int i ∧ y = .int j) ∨ op x y = .stuck)
    (hr : ∀ (i j : Int) (H : Hp) (Q : VK), (∃ d, op (.int i) (.int j) = .ok d) → (∀ d v, op (.int i) (.int j) = .ok d → (∀ K F H0, Rp K F H0 H d v) → Q v H) → r (.int i) (.int j) H Q)
    (hx : ∀ (i j : Int) c, op (.int i) (.int j) ≠ .exc c) : Op2 X b W fn op := by
  refine ⟨r, h, fun σ F H Q x y v u s vx vy p => ?_⟩
  rcases hs x y with ⟨i, j, rfl, rfl⟩ | e
  · cases vx; cases vy
    refine hr i j H Q ?_ fun d v e hv => ?_
    · cases e : op (.int i) (.int j) with
      | ok d => exact ⟨d, rfl⟩
      | exc c => exact absurd e (hx i j c)
      | stuck => rw [e] at p; exact p.elim
    · rw [e] at p
      exact p.here s v (hv _ _ _)
  · rw [e] at p; exact p.elim
theorem o_sub : Op2 X b W (binaryOp .Sub) subD := o_int2 op_sub (fun x y => by cases x <;> cases y <;> first | exact .inr rfl | exact .inl ⟨_, _, rfl, rfl⟩)
  (fun i j H Q _ q => ⟨i, j, rfl, rfl, q _ _ rfl fun _ _ _ => .int _⟩) (fun _ _ _ e => nomatch e)
theorem o_mul : Op2 X b W (binaryOp .Mult) mulD := o_int2 ((op_mul (X := X)).or (op_mulW (X := X))) (fun x y => by cases x <;> cases y <;> first | exact .inr rfl | exact .inl ⟨_, _, rfl, rfl⟩)
  (fun i j H Q ⟨d, e⟩ q => by
    have e' := e
    simp only [mulD] at e
    split at e
    · rename_i hc
      have e2 : mulD (.int i) (.int j) = .ok (.int (i * j)) := by simp only [mulD]; rw [if_pos hc]
      rcases hc with hc | hc | hc
      · exact .inl ⟨i, j, rfl, rfl, .inl hc, q _ _ e2 fun _ _ _ => .int _⟩
      · exact .inl ⟨i, j, rfl, rfl, .inr hc, q _ _ e2 fun _ _ _ => .int _⟩
      · exact .inr ⟨i, j, rfl, rfl, hc, q _ _ e2 fun _ _ _ => .int _⟩
    · cases e) (fun i j c e => by simp only [mulD] at e; split at e <;> cases e)
theorem o_mod : Op2 X b W (binaryOp .Mod) modD := o_int2 op_modN (fun x y => by cases x <;> cases y <;> first | exact .inr rfl | exact .inl ⟨_, _, rfl, rfl⟩)
  (fun i j H Q ⟨d, e⟩ q => by
    simp only [modD] at e
    split at e
    · rename_i hc
      exact ⟨i, j, rfl, rfl, hc, q _ _ (by simp only [modD]; rw [if_pos hc]) fun _ _ _ => .int _⟩
    · cases e) (fun i j c e => by simp only [modD] at e; split at e <;> cases e)
theorem o_div : Op2 X b W (binaryOp .FloorDiv) divD := o_int2 ((op_fdivN (X := X)).or (op_fdivW (X := X))) (fun x y => by cases x <;> cases y <;> first | exact .inr rfl | exact .inl ⟨_, _, rfl, rfl⟩)
  (fun i j H Q ⟨d, e⟩ q => by
    simp only [divD] at e
    split at e
    · rename_i hc
      have e2 : divD (.int i) (.int j) = .ok (.int (i.fdiv j)) := by simp only [divD]; rw [if_pos hc]
      rcases hc with hc | hc
      · exact .inl ⟨i, j, rfl, rfl, hc, q _ _ e2 fun _ _ _ => .int _⟩
      · refine .inr ⟨i, j, rfl, rfl, hc, q _ _ e2 fun _ _ _ => ?_⟩
        rw [Int.fdiv_eq_ediv_of_nonneg i (by have := hc.1; omega)]
        exact .int _
    · cases e) (fun i j c e => by simp only [divD] at e; split at e <;> cases e)
theorem op_powB : OpR X (binaryOp .Pow) (rI (fun i j => 0 ≤ j ∧ (Builtin.Int.intBits i : Int) * j ≤ 2 ^ 27) fun i j => .int (i ^ j.toNat)) := opI fun _ _ _ _ _ _ _ hc q => pow_int hc.1 hc.2 q
theorem o_pow : Op2 X b W (binaryOp .Pow) powD := o_int2 op_powB (fun x y => by cases x <;> cases y <;> first | exact .inr rfl | exact .inl ⟨_, _, rfl, rfl⟩)
  (fun i j H Q ⟨d, e⟩ q => by
    simp only [powD] at e
    split at e
    · rename_i hc
      exact ⟨i, j, rfl, rfl, hc, q _ _ (by simp only [powD]; rw [if_pos hc]) fun _ _ _ => .int _⟩
    · cases e) (fun i j c e => by simp only [powD] at e; split at e <;> cases e)
def eqvD (x y : D) : Bool := PyData.eqv (py x) (py y)
def strs2 : D → D → Bool
  | .str _, .str _ => true
  | _, _ => false
def eqD (x y : D) : R D := if (SeqAt.shaped (py x) && SeqAt.shaped (py y) || strs2 x y) = true then .ok (.bl (eqvD x y)) else .stuck
def neD (x y : D) : R D := if (SeqAt.shaped (py x) && SeqAt.shaped (py y) || strs2 x y) = true then .ok (.bl (!eqvD x y)) else .stuck
theorem o_eq (hu : X.A.units + 64 < cLine) : Op2 X b W (compareOp .Eq) eqD := ⟨_, (op_eqD hu).or op_eq, fun σ F H Q x y v u s hx hy p => by
  unfold eqD at p
  split at p
  · rename_i h
    rw [Bool.or_eq_true, Bool.and_eq_true] at h
    rcases h with h | h
    · exact .inl ⟨_, _, Rp.dp s _ _ (okP_sh h.1) hx, Rp.dp s _ _ (okP_sh h.2) hy, h.1, h.2, p.here s _ (.bl _)⟩
    · refine .inr ?_
      cases x <;> first | (cases h; done) | skip
      cases y <;> first | (cases h; done) | skip
      cases hx
      cases hy
      rename_i a c
      refine ⟨rfl, ?_⟩
      have e : decide (V.str a = V.str c) = eqvD (.str a) (.str c) := by rw [dec_str]; simp [eqvD, py, PyData.eqv]
      rw [e]
      exact p.here s _ (.bl _)
  · exact p.elim⟩
theorem o_ne (hu : X.A.units + 64 < cLine) : Op2 X b W (compareOp .NotEq) neD := ⟨_, (op_neD hu).or op_ne, fun σ F H Q x y v u s hx hy p => by
  unfold neD at p
  split at p
  · rename_i h
    rw [Bool.or_eq_true, Bool.and_eq_true] at h
    rcases h with h | h
    · exact .inl ⟨_, _, Rp.dp s _ _ (okP_sh h.1) hx, Rp.dp s _ _ (okP_sh h.2) hy, h.1, h.2, p.here s _ (.bl _)⟩
    · refine .inr ?_
      cases x <;> first | (cases h; done) | skip
      cases y <;> first | (cases h; done) | skip
      cases hx
      cases hy
      rename_i a c
      refine ⟨rfl, ?_⟩
      have e : decide (V.str a = V.str c) = eqvD (.str a) (.str c) := by rw [dec_str]; simp [eqvD, py, PyData.eqv]
      rw [e]
      exact p.here s _ (.bl _)
  · exact p.elim⟩
def ltD : D → D → R D
  | .int i, .int j => .ok (.bl (decide (i < j)))
  | _, _ => .stuck
def leD : D → D → R D
  | .int i, .int j => .ok (.bl (decide (i ≤ j)))
  | _, _ => .stuck
def gtD : D → D → R D
  | .int i, .int j => .ok (.bl (decide (j < i)))
  | _, _ => .stuck
def geD : D → D → R D
  | .int i, .int j => .ok (.bl (decide (j ≤ i)))
  | _, _ => .stuck
theorem o_lt : Op2 X b W (compareOp .Lt) ltD := o_int2 op_lt (fun x y => by cases x <;> cases y <;> first | exact .inr rfl | exact .inl ⟨_, _, rfl, rfl⟩)
  (fun i j H Q _ q => ⟨i, j, rfl, rfl, q _ _ rfl fun _ _ _ => .bl _⟩) (fun _ _ _ e => nomatch e)
theorem o_le : Op2 X b W (compareOp .LtE) leD := o_int2 op_le (fun x y => by cases x <;> cases y <;> first | exact .inr rfl | exact .inl ⟨_, _, rfl, rfl⟩)
  (fun i j H Q _ q => ⟨i, j, rfl, rfl, q _ _ rfl fun _ _ _ => .bl _⟩) (fun _ _ _ e => nomatch e)
theorem o_gt : Op2 X b W (compareOp .Gt) gtD := o_int2 op_gt (fun x y => by cases x <;> cases y <;> first | exact .inr rfl | exact .inl ⟨_, _, rfl, rfl⟩)
  (fun i j H Q _ q => ⟨i, j, rfl, rfl, q _ _ rfl fun _ _ _ => .bl _⟩) (fun _ _ _ e => nomatch e)
theorem o_ge : Op2 X b W (compareOp .GtE) geD := o_int2 op_ge (fun x y => by cases x <;> cases y <;> first | exact .inr rfl | exact .inl ⟨_, _, rfl, rfl⟩)
  (fun i j H Q _ q => ⟨i, j, rfl, rfl, q _ _ rfl fun _ _ _ => .bl _⟩) (fun _ _ _ e => nomatch e)
def eChain (p q : D → D → R D) (f g h : SemE) : SemE := fun m => (f m).bind fun x => (g m).bind fun y => (p x y).bind fun z => (asB z).bind fun c => if c = true then (h m).bind fun w => q y w else .ok (.bl false)
theorem se_chain {a c e : Expr} {f g h : SemE} {o o' : CmpOp} {p q : D → D → R D} {pos : Pos} (ho : Op2 X b W (compareOp o) p) (ho' : Op2 X b W (compareOp o') q) (hf : SE X b W a f) (hg : SE X b W c g) (hh : SE X b W e h)
    (hm : lastMarks [o, o'] [c, e] = false := by rfl) : SE X b W (.Compare a [o, o'] [c, e] pos) (eChain p q f g h) := by
  obtain ⟨r, h1, h2⟩ := ho
  obtain ⟨r', k1, k2⟩ := ho'
  refine PE.weak (pe_chain h1 k1 hf hg hh hm) fun σ H Q ⟨F, m, R, P⟩ => ?_
  refine seq R P fun x F1 H1 v R1 G1 hv p1 => seq R1 p1 fun y F2 H2 u R2 G2 hu p2 => h2 σ F2 H2 _ x y v u R2.sub (hv.grow G2) hu ?_
  refine p2.bind.imp fun z F3 H3 _ G3 p3 w hw => ?_
  obtain ⟨c, rfl, rfl, p4⟩ := asB_pst hw p3
  refine ⟨c, rfl, ?_⟩
  cases c with
  | false => exact p4.here (R2.step G3).sub _ (.bl _)
  | true => exact seq (R2.step G3) p4 fun t F4 H4 w' R4 G4 hw' p5 => k2 σ F4 H4 Q y t u w' R4.sub ((hu.grow G3).grow G4) hw' p5
theorem st_of {e : Expr} {f : SemE} (hf : SE X b W e f) (he : ∀ whole, isTrue e X.env whole = (do let v ← whole; standAt e.pos; holding [v] (truthy v)) := by intro _; rfl) : ST X b W e (tOf f) := st_val hf he
theorem st_chain {a c e : Expr} {f g h : SemE} {o o' : CmpOp} {p q : D → D → R D} {pos : Pos} (ho : Op2 X b W (compareOp o) p) (ho' : Op2 X b W (compareOp o') q) (hf : SE X b W a f) (hg : SE X b W c g) (hh : SE X b W e h)
    (hm : lastMarks [o, o'] [c, e] = false := by rfl) : ST X b W (.Compare a [o, o'] [c, e] pos) (tOf (eChain p q f g h)) := by
  obtain ⟨r, h1, h2⟩ := ho
  obtain ⟨r', k1, k2⟩ := ho'
  refine PT.weak (pt_chain h1 k1 hf hg hh hm) fun σ H Q ⟨F, m, R, P⟩ => ?_
  have P' : Pst b W σ F H (fun c _ H' => Q c H') ((f m).bind fun x => (g m).bind fun y => (p x y).bind fun z => (asB z).bind fun c => if c = true then (h m).bind fun w => (q y w).bind asB else .ok false) := by
    unfold tOf eChain at P
    cases hf : f m with
    | exc _ => rw [hf] at P; exact P
    | stuck => rw [hf] at P; exact P
    | ok x =>
      rw [hf] at P
      simp only [CT.R.bind_ok] at P ⊢
      cases hg : g m with
      | exc _ => rw [hg] at P; exact P
      | stuck => rw [hg] at P; exact P
      | ok y =>
        rw [hg] at P
        simp only [CT.R.bind_ok] at P ⊢
        cases hp : p x y with
        | exc _ => rw [hp] at P; exact P
        | stuck => rw [hp] at P; exact P
        | ok z =>
          rw [hp] at P
          simp only [CT.R.bind_ok] at P ⊢
          cases hz : asB z with
          | exc _ => rw [hz] at P; exact P
          | stuck => rw [hz] at P; exact P
          | ok c =>
            rw [hz] at P
            simp only [CT.R.bind_ok] at P ⊢
            cases c with
            | false => exact P
            | true =>
              simp only [if_true] at P ⊢
              cases hh : h m with
              | exc _ => rw [hh] at P; exact P
              | stuck => rw [hh] at P; exact P
              | ok w => rw [hh] at P; exact P
  refine seq R P' fun x F1 H1 v R1 G1 hv p1 => seq R1 p1 fun y F2 H2 u R2 G2 hu p2 => h2 σ F2 H2 _ x y v u R2.sub (hv.grow G2) hu ?_
  refine p2.bind.imp fun z F3 H3 _ G3 p3 w hw => ?_
  obtain ⟨c, rfl, rfl, p4⟩ := asB_pst hw p3
  refine ⟨c, rfl, ?_⟩
  cases c with
  | false => exact ⟨false, rfl, p4.here (R2.step G3).sub⟩
  | true => 
    refine seq (R2.step G3) p4 fun t F4 H4 w' R4 G4 hw' p5 => k2 σ F4 H4 _ y t u w' R4.sub ((hu.grow G3).grow G4) hw' ?_
    refine p5.bind.imp fun d F5 H5 _ G5 q5 w5 hw5 => ?_
    have q' : Pst b W σ F5 H5 (fun c _ H' => Q c H') ((asB d).bind fun c => .ok c) := by
      cases h : asB d <;> rw [h] at q5 <;> exact q5
    obtain ⟨c, rfl, rfl, z⟩ := asB_pst hw5 q'
    exact ⟨c, rfl, z.here (R4.step G5).sub⟩
def isSc : D → Bool
  | .non => true
  | .bl _ => true
  | .int _ => true
  | .str _ => true
  | _ => false
def memD (x : D) (ys : List D) : Bool := ys.any fun z => eqvD z x
def inD (x : D) : D → R D
  | .lst _ ys => if (SeqAt.shaped (py x) && SeqAt.shaped (.list (pyL ys))) = true then .ok (.bl (memD x ys)) else .stuck
  | .fr ys => if (SeqAt.shaped (py x) && SeqAt.shaped (.list (pyL ys))) = true then .ok (.bl (memD x ys)) else .stuck
  | .tup ys => if (isSc x && ys.all isSc) = true then .ok (.bl (memD x ys)) else .stuck
  | .str y => match x with
    | .str z => .ok (.bl (!(Builtin.Str.occurrences y z 0 y.length 1).isEmpty))
    | _ => .stuck
  | _ => .stuck
theorem pyL_map : ∀ ys : List D, pyL ys = ys.map py
  | [] => rfl
  | y :: ys => by rw [pyL, pyL_map ys]; rfl
theorem memD_py (x : D) (ys : List D) : (pyL ys).any (fun z => PyData.eqv z (py x)) = memD x ys := by
  rw [pyL_map, List.any_map]; rfl
theorem sc_flat {K : PySem.W.Frag} {F H0 H : Hp} {x : D} {v : V} (h : isSc x = true) (r : Rp K F H0 H x v) : flatV v = true := by
  cases x <;> first | (simp [isSc] at h; done) | (cases r; rfl)
theorem sc_eq {K : PySem.W.Frag} {F H0 H : Hp} {x y : D} {v u : V} (h : isSc x = true) (h' : isSc y = true) (r : Rp K F H0 H x v) (r' : Rp K F H0 H y u) : eqV v u = eqvD x y := by
  cases x <;> first | (simp [isSc] at h; done) | (cases r; cases y <;> first | (simp [isSc] at h'; done) | (cases r'; simp [eqV, eqvD, py, PyData.eqv]))
theorem sc_all {K : PySem.W.Frag} {F H0 H : Hp} : ∀ {ys : List D} {us : List V}, ys.all isSc = true → RpL K F H0 H ys us → us.all flatV = true
  | _, _, _, .nil => rfl
  | _, _, h, .cons r t => by
    rw [List.all_cons, Bool.and_eq_true] at h ⊢
    exact ⟨sc_flat h.1 r, sc_all h.2 t⟩
theorem sc_mem {K : PySem.W.Frag} {F H0 H : Hp} {x : D} {v : V} (hx : isSc x = true) (rx : Rp K F H0 H x v) : ∀ {ys : List D} {us : List V}, ys.all isSc = true → RpL K F H0 H ys us → inV v us = memD x ys
  | _, _, _, .nil => rfl
  | _, _, h, .cons r t => by
    rw [List.all_cons, Bool.and_eq_true] at h
    unfold inV memD
    rw [List.any_cons, List.any_cons, sc_eq h.1 hx r rx]
    have := sc_mem hx rx h.2 t
    unfold inV memD at this
    rw [this]
theorem o_in (hu : X.A.units + 65 < cLine) : Op2 X b W (compareOp .In) inD := by
  refine ⟨_, (op_inD hu).or ((op_in_seq (X := X)).or (op_in_str (X := X))), fun σ F H Q x y v u s hx hy p => ?_⟩
  cases y with
  | lst t ys =>
    simp only [inD] at p
    split at p
    · rename_i h
      rw [Bool.and_eq_true] at h
      have hy' := Rp.dp s _ _ (by rw [okP]; exact okPL_sh h.2) hy
      rw [py] at hy'
      exact .inl ⟨_, _, Rp.dp s _ _ (okP_sh h.1) hx, hy', h.1, h.2, by rw [memD_py]; exact p.here s _ (.bl _)⟩
    · exact p.elim
  | fr ys =>
    simp only [inD] at p
    split at p
    · rename_i h
      rw [Bool.and_eq_true] at h
      have hy' := Rp.dp s _ _ (by rw [okP]; exact okPL_sh h.2) hy
      rw [py] at hy'
      exact .inl ⟨_, _, Rp.dp s _ _ (okP_sh h.1) hx, hy', h.1, h.2, by rw [memD_py]; exact p.here s _ (.bl _)⟩
    · exact p.elim
  | tup ys =>
    simp only [inD] at p
    split at p
    · rename_i h
      rw [Bool.and_eq_true] at h
      obtain ⟨a, us, rfl, h1, h2⟩ := hy.tuple
      refine .inr (.inl ⟨a, us, rfl, .inr h1, sc_flat h.1 hx, sc_all h.2 h2, ?_⟩)
      rw [sc_mem h.1 hx h.2 h2]
      exact p.here s _ (.bl _)
    · exact p.elim
  | str y =>
    cases x <;> first | exact p.elim | skip
    cases hx; cases hy
    exact .inr (.inr ⟨_, _, rfl, rfl, p.here s _ (.bl _)⟩)
  | non => exact p.elim
  | bl _ => exact p.elim
  | int _ => exact p.elim
  | unk => exact p.elim
  | ex _ => exact p.elim
  | fn _ => exact p.elim
  | dic _ _ => exact p.elim
  | dct _ _ _ => exact p.elim
def ixD : D → D → R D
  | .lst _ xs, .int i => match atI xs i with
    | some d => .ok d
    | none => .stuck
  | .fr xs, .int i => match atI xs i with
    | some d => .ok d
    | none => .stuck
  | .tup xs, .int i => match atI xs i with
    | some d => .ok d
    | none => .stuck
  | .str z, .int i => if z.length ≤ sizeLine then (match atI z.cps.toList i with
    | some c => .ok (.str ⟨#[c]⟩)
    | none => .stuck) else .stuck
  | _, _ => .stuck
theorem atI_rp {K : PySem.W.Frag} {F H0 H : Hp} {ds : List D} {vs : List V} {i : Int} {d : D} (r : RpL K F H0 H ds vs) (e : atI ds i = some d) : ∃ v, atI vs i = some v ∧ Rp K F H0 H d v := by
  unfold atI at e ⊢
  rw [← r.length]
  cases h : ixN ds.length i with
  | none => rw [h] at e; cases e
  | some j => rw [h] at e; exact r.get e
theorem se_ix {a c : Expr} {f g : SemE} {pos : Pos} (hf : SE X b W a f) (hg : SE X b W c g) (hs : PlainIx c := by exact fun _ _ => rfl) : SE X b W (.Subscript a c pos) (e2 ixD f g) := by
  refine PE.weak (pe_ix ix_seq hf hg hs) fun σ H Q ⟨F, m, R, p⟩ => ?_
  refine seq R p fun x F1 H1 v R1 G1 hv p1 => seq R1 p1 fun y F2 H2 u R2 G2 hu p2 => ?_
  have hv := hv.grow G2
  cases x <;> first | exact p2.elim | skip
  · -- a text
    cases y <;> first | exact p2.elim | skip
    cases hv; cases hu
    simp only [ixD] at p2
    split at p2
    · rename_i hz
      split at p2
      · rename_i c hc
        exact .inr (.inr ⟨_, _, c, rfl, rfl, hz, hc, p2.here R2.sub _ (.str _)⟩)
      · exact p2.elim
    · exact p2.elim
  · cases y <;> first | exact p2.elim | skip
    obtain ⟨a, xs, rfl, h1, h2⟩ := hv.tuple
    cases hu
    simp only [ixD] at p2
    split at p2
    · rename_i d hd
      obtain ⟨w, k1, k2⟩ := atI_rp h2 hd
      exact .inr (.inl ⟨a, xs, _, w, rfl, rfl, h1, k1, p2.here R2.sub _ k2⟩)
    · exact p2.elim
  · cases y <;> first | exact p2.elim | skip
    obtain ⟨a, xs, rfl, h1, h2⟩ := hv.list R2.sub
    cases hu
    simp only [ixD] at p2
    split at p2
    · rename_i d hd
      obtain ⟨w, k1, k2⟩ := atI_rp h2 hd
      exact .inl ⟨a, xs, _, w, rfl, rfl, .inl (.inl h1), k1, p2.here R2.sub _ k2⟩
    · exact p2.elim
  · cases y <;> first | exact p2.elim | skip
    obtain ⟨a, xs, rfl, h1, h2⟩ := hv.frl R2.sub
    cases hu
    simp only [ixD] at p2
    split at p2
    · rename_i d hd
      obtain ⟨w, k1, k2⟩ := atI_rp h2 hd
      exact .inl ⟨a, xs, _, w, rfl, rfl, h1, k1, p2.here R2.sub _ k2⟩
    · exact p2.elim
end
end CT

namespace CT
open PySem PySem.Spec PyProof.Rows L2
abbrev SemP := Sl → R (Option Int)
def tSP (K : PySem.W.Frag) (b : Bs) (W : WX) (f : SemP) : TO := fun σ H Q => ∃ F m, Rel K b F m σ H ∧ Pst b W σ F H (fun o _ H' => Q o H') (f m)
abbrev SP (X : Cx) (b : Bs) (W : WX) (e : Option Expr) (f : SemP) : Prop := PO X e (tSP X.K b W f)
def pNo : SemP := fun _ => .ok none
def asI : D → R Int
  | .int i => .ok i
  | _ => .stuck
def pSo (f : SemE) : SemP := fun m => (f m).bind fun d => (asI d).bind fun i => .ok (some i)
def cutA {α : Type} (xs : List α) (lo hi : Option Int) : List α := (xs.drop (HT.sIx xs.length 0 lo)).take (HT.sIx xs.length xs.length hi - HT.sIx xs.length 0 lo)
def cutD (x : D) (lo hi : Option Int) : R D := match x with
  | .lst _ xs => .ok (.lst false (cutA xs lo hi))
  | .fr xs => .ok (.lst false (cutA xs lo hi))
  | .tup xs => .ok (.tup (cutA xs lo hi))
  | .str z => if z.length ≤ sizeLine then .ok (.str (cutS z lo hi)) else .stuck
  | _ => .stuck
def eCut (f : SemE) (p q : SemP) : SemE := fun m => (f m).bind fun x => (p m).bind fun lo => (q m).bind fun hi => cutD x lo hi
section
variable {X : Cx} {b : Bs} {W : WX} {e : Expr} {f g : SemE} {pos p2 : Pos} {lo hi : Option Expr} {p q : SemP}
theorem sp_no : SP X b W none pNo := PO.weak po_none fun σ H Q ⟨F, m, R, z⟩ => z.here R.sub
theorem sp_so (h : SE X b W e f) : SP X b W (some e) (pSo f) := PO.weak (po_some h) fun σ H Q ⟨F, m, R, z⟩ => by
  refine ⟨F, m, R, z.bind.imp fun x F1 H1 _ G z1 v hv => ?_⟩
  cases x <;> first | exact z1.elim | skip
  cases hv
  exact ⟨_, rfl, z1.here (R.step G).sub⟩
theorem cutA_rp {K : PySem.W.Frag} {F H0 H : Hp} {ds : List D} {vs : List V} (r : RpL K F H0 H ds vs) (lo hi : Option Int) : RpL K F H0 H (cutA ds lo hi) (cutV vs lo hi) := by
  unfold cutA cutV
  rw [r.length]
  exact (r.drop _).take _
theorem cutA_all {α : Type} {xs : List α} {lo hi : Option Int} (h1 : HT.sIx xs.length 0 lo = 0) (h2 : HT.sIx xs.length xs.length hi = xs.length) : cutA xs lo hi = xs := by
  unfold cutA
  rw [h1, h2, List.drop_zero, Nat.sub_zero, List.take_length]
theorem seqP {R' : Option Int → Hp → Prop} {σ : L2.St} {H : Hp} {α : Type} {h : SemP} {k : Option Int → R α} {C : α → Hp → Hp → Prop} {F : Hp} {m : Sl} (r : Rel X.K b F m σ H) (p : Pst b W σ F H C ((h m).bind k))
    (q : ∀ x F1 H1, Rel X.K b F1 m σ H1 → Grow F H F1 H1 → Pst b W σ F1 H1 C (k x) → R' x H1) : tSP X.K b W h σ H R' :=
  ⟨F, m, r, p.bind.imp fun x F1 H1 _ G z => q x F1 H1 (r.step G) G z⟩
theorem se_cut (hf : SE X b W e f) (hp : SP X b W lo p) (hq : SP X b W hi q) : SE X b W (.Subscript e (.Slice lo hi none p2) pos) (eCut f p q) := by
  refine PE.weak (pe_slice ((sl_list (X := X)).or ((sl_tupA (X := X)).or (sl_str (X := X)))) hf hp hq) fun σ H Q ⟨F, m, R, z⟩ => ?_
  refine seq R z fun x F1 H1 v R1 G1 hv z1 => seqP R1 z1 fun lo F2 H2 R2 G2 z2 => seqP R2 z2 fun hi F3 H3 R3 G3 z3 => ?_
  have hv := (hv.grow G2).grow G3
  have s := R3.sub
  cases x <;> first | exact z3.elim | skip
  · -- a text
    cases hv
    simp only [cutD] at z3
    split at z3
    · rename_i hl
      exact .inr (.inr ⟨_, rfl, hl, z3.here s _ (.str _)⟩)
    · exact z3.elim
  · obtain ⟨a, xs, rfl, h1', h2⟩ := hv.tuple'
    have h1 : SqT X.K H3 a xs := .inl (.inl h1')
    refine .inr (.inl ⟨a, xs, rfl, h1, fun hw => ?_, fun hw q hq => ?_⟩)
    · rw [← h2.length] at hw
      have z4 := z3.here s
      simp only [CV] at z4
      rw [cutA_all hw.1 hw.2] at z4
      exact z4 _ (.tup h1' h2)
    · have G := Grow.still (o := .tup (cutV xs lo hi)) s hq
      exact (z3 _ _ G) _ (.tup upd_same (cutA_rp (h2.grow G) lo hi))
  · obtain ⟨a, xs, rfl, h1, h2⟩ := hv.list s
    refine .inl ⟨a, xs, rfl, .inl (.inl h1), fun q hq => ?_⟩
    have G := Grow.still (o := .lst (cutV xs lo hi)) s hq
    exact (z3 _ _ G) _ (.lst upd_same (cutA_rp (h2.grow G) lo hi))
  · obtain ⟨a, xs, rfl, h1, h2⟩ := hv.frl s
    refine .inl ⟨a, xs, rfl, h1, fun q hq => ?_⟩
    have G := Grow.still (o := .lst (cutV xs lo hi)) s hq
    exact (z3 _ _ G) _ (.lst upd_same (cutA_rp (h2.grow G) lo hi))
end
def CallD (X : Cx) (b : Bs) (W : WX) (fn : Value) (op : List D → R D) : Prop := ∃ r : List V → Hp → VK → Prop, CallR X fn r ∧ ∀ (σ : L2.St) (F H : Hp) (Q : VK) (xs : List D) (vs : List V), Same F H → RpL X.K F b.H0 H xs vs →
  Pst b W σ F H (CV X.K b Q) (op xs) → r vs H Q
def lenD : List D → R D
  | [.lst _ xs] => .ok (.int xs.length)
  | [.fr xs] => .ok (.int xs.length)
  | [.tup xs] => .ok (.int xs.length)
  | [.str z] => if z.length ≤ sizeLine then .ok (.int z.length) else .stuck
  | _ => .stuck
def tyD : D → String
  | .non => "NoneType"
  | .bl _ => "bool"
  | .int _ => "int"
  | .str _ => "str"
  | .tup _ => "tuple"
  | .lst _ _ => "list"
  | .fr _ => "list"
  | .unk => "?"
  | .ex _ => "?"
  | .fn _ => "?"
  | .dic _ _ => "?"
  | .dct _ _ _ => "?"
def isiD (T : String) : D → R D := fun d => match kitB (tyD d) T with
  | some c => .ok (.bl c)
  | none => .stuck
def bools : List D → Option (List Bool)
  | [] => some []
  | .bl c :: ds => (bools ds).map (c :: ·)
  | _ => none
def allD : List D → R D
  | [.lst _ ds] => match bools ds with
    | some bs => .ok (.bl (bs.all id))
    | none => .stuck
  | _ => .stuck
def intD : List D → R D
  | [.int i] => .ok (.int i)
  | [.bl c] => .ok (.int (if c then 1 else 0))
  | _ => .stuck
def maxD : List D → R D
  | [.int i, .int j] => .ok (.int (if j > i then j else i))
  | _ => .stuck
def minD : List D → R D
  | [.int i, .int j] => .ok (.int (if j < i then j else i))
  | _ => .stuck
def absD : List D → R D
  | [.int i] => .ok (.int (if i < 0 then -i else i))
  | _ => .stuck
def tupleD : List D → R D
  | [.lst _ xs] => .ok (.tup xs)
  | [.tup xs] => .ok (.tup xs)
  | _ => .stuck
def listO : List D → R (List D)
  | [.lst _ xs] => .ok xs
  | [.tup xs] => .ok xs
  | [.fr xs] => .ok xs
  | _ => .stuck
section
variable {X : Cx} {b : Bs} {W : WX} {K : PySem.W.Frag} {F H0 H : Hp}
theorem RpL.one {d : D} {vs : List V} (h : RpL K F H0 H [d] vs) : ∃ v, vs = [v] ∧ Rp K F H0 H d v := by
  cases h with
  | cons a t => cases t; exact ⟨_, rfl, a⟩
theorem RpL.two {d e : D} {vs : List V} (h : RpL K F H0 H [d, e] vs) : ∃ v u, vs = [v, u] ∧ Rp K F H0 H d v ∧ Rp K F H0 H e u := by
  cases h with
  | cons a t => 
    obtain ⟨u, rfl, c⟩ := t.one
    exact ⟨_, _, rfl, a, c⟩
theorem bools_rp : ∀ {ds : List D} {bs : List Bool} {vs : List V}, bools ds = some bs → RpL K F H0 H ds vs → vs = bs.map V.bl
  | [], bs, vs, e, r => by cases r; simp only [bools, Option.some.injEq] at e; subst e; rfl
  | d :: ds, bs, vs, e, r => by
    cases d <;> first | (simp [bools] at e; done) | skip
    rename_i c
    simp only [bools, Option.map_eq_some_iff] at e
    obtain ⟨cs, h1, rfl⟩ := e
    cases r with
    | cons a t => cases a; rw [bools_rp h1 t]; rfl
theorem c_len : CallD X b W (.builtin "len") lenD := by
  refine ⟨_, call_len, fun σ F H Q xs vs s r p => ?_⟩
  unfold lenD at p
  split at p
  · obtain ⟨v, rfl, h⟩ := r.one
    obtain ⟨a, us, rfl, h1, h2⟩ := h.list s
    exact ⟨_, _, rfl, .inl ⟨us, .inl (.inl h1), h2.length⟩, p.here s _ (.int _)⟩
  · obtain ⟨v, rfl, h⟩ := r.one
    obtain ⟨a, us, rfl, h1, h2⟩ := h.frl s
    exact ⟨_, _, rfl, .inl ⟨us, h1, h2.length⟩, p.here s _ (.int _)⟩
  · obtain ⟨v, rfl, h⟩ := r.one
    obtain ⟨a, us, rfl, h1, h2⟩ := h.tuple
    exact ⟨_, _, rfl, .inr ⟨us, h1, h2.length⟩, p.here s _ (.int _)⟩
  · obtain ⟨v, rfl, h⟩ := r.one
    cases h
    split at p
    · rename_i hl
      exact ⟨_, _, rfl, ⟨hl, rfl⟩, p.here s _ (.int _)⟩
    · exact p.elim
  · exact p.elim
theorem kitB_no {T : String} (h : T ≠ "?") : kitB "?" T = none := by
  unfold kitB
  rw [if_neg (by intro z; rw [beq_iff_eq] at z; injection z with z; exact h z.symm)]
  split
  · rw [show PySem.fastBuiltinMro "?" = none from by decide +kernel]; rfl
  · rfl
theorem ty_rp {d : D} {v : V} (s : Same F H) (r : Rp K F H0 H d v) (hd : tyD d ≠ "?") : TyX K H v (.type (tyD d)) := by
  cases d with
  | non => cases r; exact .base .non
  | bl _ => cases r; exact .base (.bl _)
  | int _ => cases r; exact .base (.int _)
  | str _ => cases r; exact .base (.str _)
  | tup _ =>
    obtain ⟨a, xs, rfl, h, _⟩ := r.tuple
    rcases h with (h | ⟨o, h⟩) | ⟨o, its, n, h1, h2, _⟩
    · exact .base (.tup h)
    · exact .fTuple h
    · exact .kTuple h1 h2
  | lst _ _ =>
    obtain ⟨a, xs, rfl, h, _⟩ := r.list s
    exact .base (.lst h)
  | fr _ =>
    obtain ⟨a, xs, rfl, h, _⟩ := r.frl s
    rcases h with (h | ⟨o, h⟩) | ⟨o, its, n, h1, h2, _⟩
    · exact .base (.lst h)
    · exact .base (.frz h)
    · exact .kList h1 h2
  | unk => exact absurd rfl hd
  | ex _ => exact absurd rfl hd
  | fn _ => exact absurd rfl hd
  | dic _ _ => exact absurd rfl hd
  | dct _ _ _ => exact absurd rfl hd
theorem se_isi {T : String} {x : Str} {a : Expr} {f : SemE} {p q pos : Pos} (hg : Gl X "isinstance") (hm : X.mg "isinstance" = none) (hg' : Gl X x) (hm' : X.mg x = none) (hv : bootBuiltins x = some (.type T)) (hf : SE X b W a f) (hn : x ≠ "__name__" := by decide) (hd : (x == ("__debug__" : Str)) = false := by decide)
    (he : starEach [a, .Name x q] X.env = (false, eval a X.env) :: starEach [.Name x q] X.env := by rfl) (hpl : (backTo pos (starEach [.Name x q] X.env)).any (·.1) = false := by rfl)
    (hs : starEach [.Name x q] X.env = (false, eval (.Name x q) X.env) :: starEach [] X.env := by rfl) (hT : T ≠ "?" := by decide) :
    SE X b W (.Call (.Name "isinstance" p) [a, .Name x q] [] pos) (e1 (isiD T) f) := by
  refine PE.weak (pe_callB call_isi hg hm boot_isinstance (pa_cons hf (pa_cons (pe_bltn hg' hm' hv (v := .ty T) rfl hn hd) pa_nil hs) he) (by decide) (by decide) he hpl) fun σ H Q ⟨F, m, R, p⟩ => ?_
  refine ⟨F, m, R, p.bind.imp fun x F1 H1 _ G z v hv => ?_⟩
  have s := (R.step G).sub
  unfold isiD at z
  split at z
  · rename_i c hc
    exact ⟨v, .ty T, .type (tyD x), .type T, c, rfl, .ty T, ty_rp s hv (fun z => by rw [z, kitB_no hT] at hc; cases hc), kit_ty hc, z.here s _ (.bl _)⟩
  · exact z.elim
theorem c_all (hc : X.calm = true) : CallD X b W (.builtin "all") allD := by
  refine ⟨_, cr_all hc, fun σ F H Q xs vs s r p => ?_⟩
  unfold allD at p
  split at p
  · obtain ⟨v, rfl, h⟩ := r.one
    obtain ⟨a, us, rfl, h1, h2⟩ := h.list s
    split at p
    · rename_i bs hb
      exact ⟨a, bs, rfl, .inl (.inl (by rw [← bools_rp hb h2]; exact h1)), p.here s _ (.bl _)⟩
    · exact p.elim
  · exact p.elim
theorem c_int : CallD X b W (.type "int") intD := by
  refine ⟨_, call_int1, fun σ F H Q xs vs s r p => ?_⟩
  unfold intD at p
  split at p
  · obtain ⟨v, rfl, h⟩ := r.one
    cases h
    exact .inl ⟨_, rfl, p.here s _ (.int _)⟩
  · obtain ⟨v, rfl, h⟩ := r.one
    cases h
    exact .inr ⟨_, rfl, p.here s _ (.int _)⟩
  · exact p.elim
theorem c_max (hc : X.calm = true) : CallD X b W (.builtin "max") maxD := by
  refine ⟨_, call_max2 hc, fun σ F H Q xs vs s r p => ?_⟩
  unfold maxD at p
  split at p
  · obtain ⟨v, u, rfl, h, h'⟩ := r.two
    cases h; cases h'
    exact ⟨_, _, rfl, p.here s _ (.int _)⟩
  · exact p.elim
theorem c_min (hc : X.calm = true) : CallD X b W (.builtin "min") minD := by
  refine ⟨_, call_min2 hc, fun σ F H Q xs vs s r p => ?_⟩
  unfold minD at p
  split at p
  · obtain ⟨v, u, rfl, h, h'⟩ := r.two
    cases h; cases h'
    exact ⟨_, _, rfl, p.here s _ (.int _)⟩
  · exact p.elim
theorem c_abs : CallD X b W (.builtin "abs") absD := by
  refine ⟨_, call_abs, fun σ F H Q xs vs s r p => ?_⟩
  unfold absD at p
  split at p
  · obtain ⟨v, rfl, h⟩ := r.one
    cases h
    exact ⟨_, rfl, p.here s _ (.int _)⟩
  · exact p.elim
theorem c_tuple : CallD X b W (.type "tuple") tupleD := by
  refine ⟨_, call_tuple_of, fun σ F H Q xs vs s r p => ?_⟩
  unfold tupleD at p
  split at p
  · obtain ⟨v, rfl, h⟩ := r.one
    obtain ⟨a, us, rfl, h1, h2⟩ := h.list s
    refine ⟨a, us, rfl, .inl ⟨.inl (.inl h1), fun q hq => ?_⟩⟩
    have G := Grow.still (o := .tup us) s hq
    exact (p _ _ G) _ (.tup upd_same (h2.grow G))
  · obtain ⟨v, rfl, h⟩ := r.one
    obtain ⟨a, us, rfl, h1, h2⟩ := h.tuple'
    exact ⟨a, us, rfl, .inr ⟨.inl (.inl h1), p.here s _ (.tup h1 h2)⟩⟩
  · exact p.elim
variable {x : Str} {id T : String} {e : Expr} {es : List Expr} {h : SemA} {op : List D → R D} {p pos : Pos}
theorem se_callB (hc : CallD X b W (.builtin id) op) (hg : Gl X x) (hm : X.mg x = none) (hv : bootBuiltins x = some (.builtin id)) (ha : SA X b W (e :: es) h) (hn : x ≠ "__name__" := by decide) (hdb : (x == ("__debug__" : Str)) = false := by decide)
    (he : starEach (e :: es) X.env = (false, eval e X.env) :: starEach es X.env := by rfl) (hpl : (backTo pos (starEach es X.env)).any (·.1) = false := by rfl) : SE X b W (.Call (.Name x p) (e :: es) [] pos) (eA op h) := by
  obtain ⟨r, h1, h2⟩ := hc
  refine PE.weak (pe_callB h1 hg hm hv ha hn hdb he hpl) fun σ H Q ⟨F, m, R, p⟩ => ?_
  exact seqA R p fun xs F1 H1 vs R1 G1 hv p1 => h2 σ F1 H1 Q xs vs R1.sub hv p1
theorem se_callTy (hc : CallD X b W (.type T) op) (hg : Gl X x) (hm : X.mg x = none) (hv : bootBuiltins x = some (.type T)) (ha : SA X b W (e :: es) h) (hn : x ≠ "__name__" := by decide) (hdb : (x == ("__debug__" : Str)) = false := by decide)
    (he : starEach (e :: es) X.env = (false, eval e X.env) :: starEach es X.env := by rfl) (hpl : (backTo pos (starEach es X.env)).any (·.1) = false := by rfl) : SE X b W (.Call (.Name x p) (e :: es) [] pos) (eA op h) := by
  obtain ⟨r, h1, h2⟩ := hc
  refine PE.weak (pe_callTy h1 hg hm hv ha hn hdb he hpl) fun σ H Q ⟨F, m, R, p⟩ => ?_
  exact seqA R p fun xs F1 H1 vs R1 G1 hv p1 => h2 σ F1 H1 Q xs vs R1.sub hv p1
theorem so_list (hg : Gl X "list") (hm : X.mg "list" = none) (ha : SA X b W (e :: es) h)
    (he : starEach (e :: es) X.env = (false, eval e X.env) :: starEach es X.env := by rfl) (hpl : (backTo pos (starEach es X.env)).any (·.1) = false := by rfl) : SO X b W (.Call (.Name "list" p) (e :: es) [] pos) (aThen h listO) := by
  refine PE.weak (pe_callTy call_list_of hg hm PyProof.Rows.boot_list ha (by decide) (by decide) he hpl) fun σ H Q ⟨F, m, R, p⟩ => ?_
  refine seqA R p fun xs F1 H1 vs R1 G1 hv p1 => ?_
  have s := R1.sub
  unfold listO at p1
  split at p1
  · obtain ⟨v, rfl, h⟩ := hv.one
    obtain ⟨a, us, rfl, k1, k2⟩ := h.list s
    refine ⟨a, us, rfl, .inl (.inl (.inl k1)), fun q hq => ?_⟩
    have G := Grow.loose (o := .lst us) s hq
    exact (p1 _ _ G) q us (G1.same.free hq) (s.free hq) upd_same (k2.grow G)
  · obtain ⟨v, rfl, h⟩ := hv.one
    obtain ⟨a, us, rfl, k1, k2⟩ := h.tuple
    refine ⟨a, us, rfl, .inr k1, fun q hq => ?_⟩
    have G := Grow.loose (o := .lst us) s hq
    exact (p1 _ _ G) q us (G1.same.free hq) (s.free hq) upd_same (k2.grow G)
  · obtain ⟨v, rfl, h⟩ := hv.one
    obtain ⟨a, us, rfl, k1, k2⟩ := h.frl s
    refine ⟨a, us, rfl, .inl k1, fun q hq => ?_⟩
    have G := Grow.loose (o := .lst us) s hq
    exact (p1 _ _ G) q us (G1.same.free hq) (s.free hq) upd_same (k2.grow G)
  · exact p1.elim
end
end CT

namespace CT
open PySem PySem.Spec PyProof.Rows L2
structure FnG (P : Program) (w : World) (K : PySem.W.Frag) (mg : Str → Option Value) (base : Heap) (k : Nat) (f : Addr) (fd : FuncData) (ps : List Str) (sp : Sp) : Prop where
  len : ∀ vs H Q E, sp vs H Q E → vs.length = ps.length
  run : ∀ (A : Around) (outer : List Env) (s : Shared) (H : Hp) (args : Args) (us : List Value) (vs : List V) (Q : VK) (E : XK), Room k A → A.guards = some [] → Env0 P w K mg base A outer s H → BindsTo s fd args (ps.zip us) → Vals vs us → sp vs H Q E →
    codeAny (model P w) A (.call (.ref f) args) (CR (L2.CX P w) outer P w H s Q E) s
theorem FnG.imp {P : Program} {w : World} {K : PySem.W.Frag} {mg : Str → Option Value} {base : Heap} {k : Nat} {f : Addr} {fd : FuncData} {ps : List Str} {sp sp' : Sp} (F : FnG P w K mg base k f fd ps sp) (h : ∀ vs H Q E, sp' vs H Q E → sp vs H Q E) : FnG P w K mg base k f fd ps sp' :=
  ⟨fun vs H Q E q => F.len vs H Q E (h _ _ _ _ q), fun A outer s H args us vs Q E hr hg he hb hv hs => F.run A outer s H args us vs Q E hr hg he hb hv (h _ _ _ _ hs)⟩
section
variable {P : Program} {w : World} {K : PySem.W.Frag} {mg : Str → Option Value} {base : Heap}
theorem Fun.okG {x qual : Str} {st : Stmt} {f : Addr} {fd : FuncData} {N ps : List Str} {k : Nat} {sp : Sp} (F : Fun K x qual st f fd) (S : FnScope N ps (defScope st)) (len : ∀ vs H Q E, sp vs H Q E → vs.length = ps.length)
    (hbody : ∀ (cdv : Value) (A : Around) (outer : List Env) (s : Shared) (H : Hp) (vs : List V) (Q : VK) (E : XK), Room k (A.deeper (envOfC qual (defScope st) s.heap.objs.size f cdv)) → (A.deeper (envOfC qual (defScope st) s.heap.objs.size f cdv)).guards = some [] → sp vs H Q E →
      ∃ t, PSs (cxOf (L2.CX P w) P w K mg base N qual (defScope st) f cdv A outer s H E) (defBody st) t ∧ t { nx := fun _ H' => Q .non H', rt := Q } (start N vs) H) : FnG P w K mg base (k + 1) f fd ps sp := by
  obtain ⟨oc, od, kV, doc, pm, an, cdv, ct, osl, rfl, lk, hcd⟩ := F.ex
  refine ⟨len, fun A outer s H args us vs Q E hr hgd e0 hb r hsp => ?_⟩
  have hl := len _ _ _ _ hsp
  have kept : ∀ b o, base.get? b = some o → s.heap.get? b = some o := fun b o e => (e0.bs b o e).1
  have KX : K.In s.heap := e0.mod.kin.keeps kept
  refine codeAny_call_function hr.depth (KX _ _ lk) rfl S.co S.gen rfl (PySem.W.codeRec_of KX hcd) (hb _ _ _ _ ?_)
  refine wpAny_newFunctionEnv_cells S.kind (fun ⟨n, v⟩ hy => (S.par n (List.of_mem_zip hy).1).imp id fun q => ⟨q, PySem.W.cellsFrom_some _ _ _ (.inl q)⟩) fun env he s1 x => ?_
  subst he
  refine ⟨(e0.mod.nolimit.keeps kept).keeps x.toInCall.keep, codeAny_func ?_⟩
  obtain ⟨t, ht, hq⟩ := hbody cdv A outer s H vs Q E (hr.deeper _) hgd hsp
  have I := inv_start (CX := L2.CX P w) (E := E) S hr.hd e0 hl r x
  refine wpAny_mono (ht.run [] s1 (start N vs) H _ I hq) (fun fl s' hs => ?_) fun e s' hs => hs
  rcases fl with _ | u | _ | _
  all_goals first
    | (obtain ⟨_, _, _, z⟩ := hs; exact z.elim)
    | (obtain ⟨v, σ', H', J, rv, z⟩ := hs; exact ⟨v, H', J.os, J.bare, J.base, J.hok, rv, z⟩)
    | (obtain ⟨σ', H', J, z⟩ := hs; exact ⟨V.non, H', J.os, J.bare, J.base, J.hok, rfl, z⟩)
end
section
variable {X : Cx} {k : Nat} {f : Addr} {fd : FuncData} {ps : List Str} {sp : Sp} {E : L2.St → XK} {x : Str} {p pos : Pos} {e : Expr} {es : List Expr} {t : TA}
theorem pe_callG (F : FnG X.prog X.w X.K X.mg X.base k f fd ps sp) (hr : Room k X.A) (hgd : X.A.guards = some []) (hg : Gl X x) (hm : X.mg x = some (.ref f)) (hk : PySem.W.keepIn X.K (.ref f) = true) (hb : L2.Binds X.K fd ps []) (hx : ∀ σ, PassesAt (L2.CX X.prog X.w) X σ (E σ))
    (ha : PA X (e :: es) t) (hdb : (x == ("__debug__" : Str)) = false := by decide) (he : starEach (e :: es) X.env = (false, eval e X.env) :: starEach es X.env := by rfl) (hpl : (backTo pos (starEach es X.env)).any (·.1) = false := by rfl) :
    PE X (.Call (.Name x p) (e :: es) [] pos) (tCallS sp E t) := by
  refine ⟨fun pins s σ H Q I h => wpAny_Call_Name_kw (ld_glob I hg hm ?_ hdb)⟩
  refine PySem.W.callWith_K (h₀ := X.base) I.ok.mod.kin hk (thn (ha.run pos pins s σ H _ I h) fun us s1 ⟨vs, H1, I1, r, q⟩ => ⟨I1.kIn, ?_⟩) he hpl
  have b := hb s1 us I1.kIn (by rw [List.append_nil, ← r.length]; exact F.len _ _ _ _ q)
  rw [List.append_nil] at b
  refine wpAny_call (codeAny_mono (F.run X.A X.stack s1 H1 ⟨us, []⟩ us vs Q (E σ) hr hgd I1.env0 b r q) fun r s' hq => ?_)
  rcases r with er | fl
  · exact hx σ pins H1 s1 er s' I1 hq
  · rcases fl with _ | _ | _ | u
    all_goals first | exact I1.after hq | exact False.elim hq
end
theorem law_callG {P : Program} {w : World} {K : PySem.W.Frag} {mg mb : Str → Option Value} {k : Nat} {fa a : Addr} {fd : FuncData} {x : Str} {sp : Sp} {s₁ : Shared} {vs : List Value} {ns : List Int}
    (KX : K.In s₁.heap) (hns : s₁.heap.Ns mainGlobals mg) (hb : s₁.heap.Ns builtinsNs mb) (hbb : ∀ x : Str, x ≠ "__name__" → mb x = bootBuiltins x) (hlim : s₁.heap.NoLimit) (hg : s₁.gens = #[])
    (ha : s₁.heap.get? a = some { cls := .type "list", data := .seq vs.toArray }) (hi : IntsAre vs ns) (hl : ns.length ≤ sizeLine) (hr : Room k callerA)
    (F : ∀ base : Heap, K.In base → base.Ns mainGlobals mg → FnG P w K mg base k fa fd [x] sp) (hbind : ∀ (s : Shared) (u : Value), BindsTo s fd ⟨[u], []⟩ [(x, u)])
    (hsp : ∀ H : Hp, Only H → SqL K H a (ns.map V.int) → sp [.ref a] H (fun v _ => v = .bl true) fun _ _ _ => False)
    (hCX : ∀ H e s', L2.CX P w [] H s₁ (fun _ _ _ => False) e s' → False) :
    codeAny (model P w) callerA (.call (.ref fa) ⟨[.ref a], []⟩) (fun r s' => r = .ok (.ret (.bool true)) ∧ OldK s₁.heap s'.heap ∧ s'.os = s₁.os ∧ AllBare s'.gens) s₁ := by
  have rv := vals_ints hi
  -- a heap in which at most the script is tracked does
  have core : ∀ H : Hp, Only H → SqL K H a (ns.map V.int) → HOk P w H s₁.heap → (∀ b, H b ≠ none → b = a ∧ K.lookup b = none) →
      codeAny (model P w) callerA (.call (.ref fa) ⟨[.ref a], []⟩) (fun r s' => r = .ok (.ret (.bool true)) ∧ OldK s₁.heap s'.heap ∧ s'.os = s₁.os ∧ AllBare s'.gens) s₁ := by
    intro H hO hS hok hA
    have noDict : ∀ {b : Addr} {o : Obj} {es : Array DictEntry} {ep : Nat}, s₁.heap.get? b = some o → o.data = .dict es ep → H b = none := fun {b o es ep} e d => by
      by_cases q : H b = none
      · exact q
      · obtain ⟨rfl, _⟩ := hA b q
        rw [ha] at e; cases e
        exact nomatch (show Data.seq vs.toArray _ = Data.dict es ep from d)
    have nsK : ∀ {b : Addr} {m : Str → Option Value}, s₁.heap.Ns b m → (hidT s₁.heap H).Ns b m := fun {b m} ⟨o, es, ep, e, d, r⟩ => ⟨o, es, ep, hidT_get e (noDict e d), d, r⟩
    have hKb : K.In (hidT s₁.heap H) := fun b o e => hidT_get (KX b o e) (by
      by_cases q : H b = none
      · exact q
      · have := (hA b q).2; rw [e] at this; cases this)
    have hM : Mod K mg (hidT s₁.heap H) := ⟨hKb, nsK hns, ⟨mb, nsK hb, hbb⟩, let ⟨mc, h1, h2⟩ := hlim; ⟨mc, nsK h1, h2⟩⟩
    have e0 : Env0 P w K mg (hidT s₁.heap H) callerA [] s₁ H := ⟨rfl, hM, fun b o e => of_hidT e, Nat.le_of_eq (hidT_size _ _), trivial, fun b hb => (nomatch (show b ∈ ([] : List Addr) from hb)), hok, .of_eq hg⟩
    refine codeAny_mono ((F _ hKb (nsK hns)).run callerA [] s₁ H ⟨[.ref a], []⟩ [.ref a] [.ref a] _ _ hr rfl e0 (hbind s₁ (.ref a)) (.cons rfl .nil) (hsp H hO hS)) fun r s' h => ?_
    rcases r with er | fl
    · exact (hCX H er s' h).elim
    · rcases fl with _ | _ | _ | u
      all_goals first
        | exact False.elim h
        | skip
      obtain ⟨v, H', os, bare, un, hok', r', q⟩ := h
      obtain rfl : v = V.bl true := q
      obtain rfl : u = Value.bool true := r'
      refine ⟨rfl, OldK.of_keep fun b o e => ?_, os, bare⟩
      rcases hO b with z | ⟨ob, xs, z⟩
      · exact un.keep b o e z (fun z => nomatch (show b ∈ ([] : List Addr) from z)) (fun z => nomatch (show b ∈ ([] : List Addr) from z))
      · obtain ⟨e1, _⟩ := hok b _ z
        obtain ⟨e2, _⟩ := hok' b _ (un.frzs b ob _ z)
        rw [e] at e1; cases e1
        exact e2
  cases hk : K.lookup a with
  | some o =>
    have e := KX a o hk
    rw [ha] at e
    cases e
    exact core (fun _ => none) (fun _ => .inl rfl) (.inr ⟨_, vs.toArray, _, hk, rfl, rfl, rfl, by rw [List.size_toArray, hi.length]; exact hl, by simpa using rv⟩) (fun b u z => nomatch (show (none : Option HO) = some u from z)) fun b z => absurd rfl z
  | none =>
    obtain ⟨S, hS⟩ : ∃ S : HO, S = .frz { cls := .type "list", data := .seq vs.toArray } (.lst (ns.map V.int)) := ⟨_, rfl⟩
    refine core (fun b => if b = a then some S else none) (fun b => ?_) (.inl (.inr ⟨{ cls := .type "list", data := .seq vs.toArray }, by show (if a = a then some S else none) = _; rw [if_pos rfl, hS]⟩)) (fun b u z => ?_) (fun b z => ?_)
    · by_cases hb : b = a
      · exact .inr ⟨_, _, by show (if b = a then some S else none) = _; rw [if_pos hb, hS]⟩
      · exact .inl (if_neg hb)
    · by_cases hb : b = a
      · simp only [if_pos hb] at z
        cases z
        rw [hb, hS]
        exact ⟨ha, by rw [List.length_map]; exact hl, vs, _, rv, ha⟩
      · simp only [if_neg hb] at z
        cases z
    · by_cases hb : b = a
      · exact ⟨hb, by rw [hb]; exact hk⟩
      · exact absurd (if_neg hb) z
theorem walk_ofG {l : PySem.W.OpenLaw} {n k : Nat} {q : Program} {loose : List Str} {XP : (Str → Option Value) → Heap → Prop} {YP : World → Heap → Prop} {d : DefRec} {K : Params → PySem.W.Frag} {sp : World → Sp} {x : Str}
    (hn : l.most = some n) (hn2 : n ≤ sizeLine) (hdf : d.params.defaults = []) (hr : Room k callerA)
    (hY : ∀ (w : World) (h : Heap), YP w h → (K w.params).In h)
    (F : ∀ (w : World) (mg : Str → Option Value) (fa : Addr) (h : Heap), (K w.params).In h → h.Ns mainGlobals mg → mg d.name = some (.ref fa) →
      ∃ fd : FuncData, (∀ (s : Shared) (u : Value), BindsTo s fd ⟨[u], []⟩ [(x, u)]) ∧
        ∀ base : Heap, (K w.params).In base → base.Ns mainGlobals mg → FnG l.prog w (K w.params) mg base k fa fd [x] (sp w))
    (hsp : ∀ (w : World) (H : Hp) (a : Addr) (ns : List Int), ns.length ≤ n → Only H → SqL (K w.params) H a (ns.map V.int) → sp w [.ref a] H (fun v _ => v = .bl true) fun _ _ _ => False)
    (hCX : ∀ (w : World) (H : Hp) (s : Shared) (e : Value) (s' : Shared), L2.CX l.prog w [] H s (fun _ _ _ => False) e s' → False) :
    PySem.W.WalkO q loose XP YP l.row.toRowW d [] (fun f vs => PySem.call f vs) := by
  refine Att.attach_call hn hdf fun w s₀ s₁ mg mb fa o pm cd doc a vs ns G Y ho hd hcd hmg hobj hints hlen hg => ?_
  obtain ⟨fd, hb, hF⟩ := F w mg fa _ (hY w _ Y) G.T.g hmg
  exact law_callG (hY w _ Y) G.T.g G.T.b G.T.builtins G.T.nolimit hg hobj hints (Nat.le_trans hlen hn2) hr hF hb (fun H hO hS => hsp w H a ns hlen hO hS) fun H e s' => hCX w H s₁ e s'
end CT

namespace CT
open PySem PySem.Spec PyProof.Rows L2
def spF (K : PySem.W.Frag) (ex : String → Value) (n : Nat) (f : List D → R D) : Sp := fun vs H Q E => ∃ F0 ds, Same F0 H ∧ RpL K F0 H H ds vs ∧ hasTL ds = false ∧ ds.length = n ∧
  match f ds with
  | .ok d => ∀ F' H' v, Grow F0 H F' H' → SlotOk K F' H H' d v → Q v H'
  | .exc c => ∀ F' H', Grow F0 H F' H' → E (ex c) none H'
  | .stuck => False
mutual
theorem flat_of_still : ∀ d, isFlat (still d) = true → isFlat d = true
  | .tup xs, h => by simp only [still, isFlat] at h ⊢; exact flatL_of_still xs h
  | .lst _ _, h => by simp [still, isFlat] at h
  | .fr _, h => by simp [still, isFlat] at h
  | .non, _ => rfl
  | .bl _, _ => rfl
  | .int _, _ => rfl
  | .str _, _ => rfl
  | .unk, h => by simp [still, isFlat] at h
  | .ex _, _ => rfl
  | .fn _, _ => rfl
  | .dic _ _, h => by simp [still, isFlat] at h
  | .dct _ _ _, h => by simp [still, isFlat] at h
theorem flatL_of_still : ∀ ds, isFlatL (stillL ds) = true → isFlatL ds = true
  | [], _ => rfl
  | x :: xs, h => by
    simp only [stillL, isFlatL, Bool.and_eq_true] at h ⊢
    exact ⟨flat_of_still x h.1, flatL_of_still xs h.2⟩
end
theorem flat_still (d : D) (h : isFlat (still d) = true) : isFlat d = true ∧ still d = d := ⟨flat_of_still d h, still_of _ (flat_noT _ (flat_of_still d h))⟩
def callF (f : List D → R D) : List D → R D := fun ds => (f (stillL ds)).bind fun d => if hasTL ds = true then (if isFlat (still d) = true then .ok (still d) else .stuck) else .ok (still d)
def callO (f : List D → R D) : List D → R (List D) := fun ds => if hasTL ds = true then .stuck else (f ds).bind fun d => match d with
  | .lst true es => .ok es
  | _ => .stuck
structure Callee (P : Program) (w : World) (K : PySem.W.Frag) (mg : Str → Option Value) (base : Heap) (ex : String → Value) (x : Str) (n : Nat) (f : List D → R D) (k : Nat) : Prop where
  ok : ∃ fa fd ps, FnG P w K mg base k fa fd ps (spF K ex n f) ∧ mg x = some (.ref fa) ∧ PySem.W.keepIn K (.ref fa) = true ∧ Binds K fd ps []
section
variable {X : Cx} {b : Bs} {W : WX} {x : Str} {e : Expr} {es : List Expr} {h : SemA} {n k : Nat} {f : List D → R D} {p pos : Pos}
theorem spF_call {σ : L2.St} {F H : Hp} {Q : VK} {xs : List D} {vs : List V} (s : Same F H) (r : RpL X.K F b.H0 H xs vs) (sz : Same b.H0 H) (hl : xs.length = n) (p : Pst b W σ F H (CV X.K b Q) (callF f xs)) : spF X.K b.ex n f vs H Q (WE W σ) := by
  unfold callF at p
  cases ht : hasTL xs with
  | false =>
    rw [stillL_of xs ht] at p
    refine ⟨F, xs, s, RpL.base xs vs ht r, ht, hl, ?_⟩
    cases hf : f xs with
    | stuck => rw [hf] at p; exact p.elim
    | exc c =>
      rw [hf] at p
      exact fun F' H' G => p F' H' G
    | ok d =>
      rw [hf] at p
      simp only [CT.R.bind_ok, ht, Bool.false_eq_true, if_false] at p
      refine fun F' H' v G so => ?_
      refine p (vis F' H H') H' ⟨G.same, G.sub.trans (vis_sub G.subH), vis_subH G.subH, fun c o hc => ?_⟩ v (Rp.vis G.subH d v so.rp)
      cases hc' : H c with
      | none => exact .inr rfl
      | some z =>
        rw [vis_old hc'] at hc
        rcases G.new c o hc with q | q
        · exact .inl q
        · rw [hc'] at q; cases q
  | true =>
    refine ⟨vis F b.H0 H, stillL xs, vis_subH s, RpL.vis s xs vs r, hasTL_still xs, by rw [stillL_length]; exact hl, ?_⟩
    cases hf : f (stillL xs) with
    | stuck => rw [hf] at p; exact p.elim
    | exc c =>
      rw [hf] at p
      exact fun F' H' G => p F H' ⟨G.same, Same.refl _, s.trans G.same, fun _ _ z => .inl z⟩
    | ok d =>
      rw [hf] at p
      simp only [CT.R.bind_ok, ht, if_true] at p
      split at p
      · rename_i hfl
        refine fun F' H' v G so => ?_
        obtain ⟨h1, h2⟩ := flat_still d hfl
        refine p F H' ⟨G.same, Same.refl _, s.trans G.same, fun _ _ z => .inl z⟩ v ?_
        rw [h2]
        exact Rp.flat (fun _ _ z => z) (fun _ _ z => z) d v h1 so.rp
      · exact p.elim
theorem se_call (C : Callee X.prog X.w X.K X.mg X.base b.ex x n f k) (tk : Takes X W) (hr : Room k X.A) (hgd : X.A.guards = some []) (hg : Gl X x) (ha : SA X b W (e :: es) h) (hl : (e :: es).length = n) (hlen : ∀ m xs, h m = .ok xs → xs.length = (e :: es).length) (hdb : (x == ("__debug__" : Str)) = false := by decide)
    (he : starEach (e :: es) X.env = (false, eval e X.env) :: starEach es X.env := by rfl) (hpl : (backTo pos (starEach es X.env)).any (·.1) = false := by rfl) : SE X b W (.Call (.Name x p) (e :: es) [] pos) (eA (callF f) h) := by
  obtain ⟨fa, fd, ps, F1, hm, hk, hb⟩ := C.ok
  refine PE.weak (pe_callG F1 hr hgd hg hm hk hb (fun σ => passAt tk σ) ha hdb he hpl) fun σ H Q ⟨F, m, R, p⟩ => ?_
  refine ⟨F, m, R, ?_⟩
  unfold eA at p
  cases hm : h m with
  | stuck => rw [hm] at p; exact p.elim
  | exc c => rw [hm] at p; exact p
  | ok xs =>
    rw [hm] at p
    refine fun F1 H1 G vs hv => ?_
    exact spF_call (R.step G).sub hv (R.step G).grow.same (by rw [← hl]; exact hlen m xs hm) (Pst.grow G p)
theorem so_call (C : Callee X.prog X.w X.K X.mg X.base b.ex x n f k) (tk : Takes X W) (hr : Room k X.A) (hgd : X.A.guards = some []) (hg : Gl X x) (ha : SA X b W (e :: es) h) (hl : (e :: es).length = n) (hlen : ∀ m xs, h m = .ok xs → xs.length = (e :: es).length) (hdb : (x == ("__debug__" : Str)) = false := by decide)
    (he : starEach (e :: es) X.env = (false, eval e X.env) :: starEach es X.env := by rfl) (hpl : (backTo pos (starEach es X.env)).any (·.1) = false := by rfl) : SO X b W (.Call (.Name x p) (e :: es) [] pos) (aThen h (callO f)) := by
  obtain ⟨fa, fd, ps, F1, hm, hk, hb⟩ := C.ok
  refine PE.weak (pe_callG F1 hr hgd hg hm hk hb (fun σ => passAt tk σ) ha hdb he hpl) fun σ H Q ⟨F, m, R, p⟩ => ?_
  refine ⟨F, m, R, ?_⟩
  unfold aThen at p
  cases hm : h m with
  | stuck => rw [hm] at p; exact p.elim
  | exc c => rw [hm] at p; exact p
  | ok xs =>
    rw [hm] at p
    refine fun F1 H1 G vs hv => ?_
    have p := Pst.grow G p
    simp only [CT.R.bind_ok, callO] at p
    split at p
    · exact p.elim
    · rename_i ht
      have ht : hasTL xs = false := by simpa using ht
      refine ⟨F1, xs, (R.step G).sub, RpL.base xs vs ht hv, ht, by rw [← hl]; exact hlen m xs hm, ?_⟩
      cases hf : f xs with
      | stuck => rw [hf] at p; exact p.elim
      | exc c => rw [hf] at p; exact fun F' H' G' => p F' H' G'
      | ok d =>
        rw [hf] at p
        simp only [CT.R.bind_ok] at p
        split at p
        · rename_i es
          refine fun F' H' v G' so => ?_
          obtain ⟨a, us, as, rfl, h1, h2, h3, h4, h5⟩ := so.mutW
          exact p F' H' G' a us (G.same.free h3) h2 h1 (OwL.rp _ _ _ (OwL.base (fun _ z => (R.step G).grow.same.free z) _ _ _ h4))
        · exact p.elim
theorem aNil_len : ∀ (m : Sl) xs, aNil m = .ok xs → xs.length = 0 := fun m xs h => by cases h; rfl
theorem aCons_len {f : SemE} {g : SemA} {n : Nat} (hg : ∀ m xs, g m = .ok xs → xs.length = n) : ∀ m xs, aCons f g m = .ok xs → xs.length = n + 1 := fun m xs h => by
  unfold aCons at h
  cases hf : f m with
  | stuck => rw [hf] at h; cases h
  | exc c => rw [hf] at h; cases h
  | ok d =>
    rw [hf] at h
    simp only [CT.R.bind_ok] at h
    cases hgm : g m with
    | stuck => rw [hgm] at h; cases h
    | exc c => rw [hgm] at h; cases h
    | ok ds =>
      rw [hgm] at h
      cases h
      rw [List.length_cons, hg m ds hgm]
end
inductive RS where
  | nx (m : Sl) | rt (d : D) | bk (m : Sl) | ct (m : Sl) | exc (c : String) (m : Sl) | stuck
abbrev SemS := Sl → RS
structure Prog (F H F' H' : Hp) : Prop where
  sub : Same F F'
  tups : ∀ c o, H c = some o → NoL o → H' c = some o
theorem Prog.refl (F H : Hp) : Prog F H F H := ⟨Same.refl _, fun _ _ h _ => h⟩
theorem Prog.trans {F H F1 H1 F2 H2 : Hp} (p : Prog F H F1 H1) (q : Prog F1 H1 F2 H2) : Prog F H F2 H2 := ⟨p.sub.trans q.sub, fun c o h n => q.tups c o (p.tups c o h n) n⟩
theorem Grow.prog {F H F1 H1 : Hp} (g : Grow F H F1 H1) : Prog F H F1 H1 := ⟨g.sub, fun c o h _ => g.same c o h⟩
def Sst (K : PySem.W.Frag) (b : Bs) (W : WX) (F H : Hp) (D' : Ends) : RS → Prop
  | .nx m' => ∀ σ' F' H', Rel K b F' m' σ' H' → Prog F H F' H' → D'.nx σ' H'
  | .bk m' => ∀ σ' F' H', Rel K b F' m' σ' H' → Prog F H F' H' → D'.bk σ' H'
  | .ct m' => ∀ σ' F' H', Rel K b F' m' σ' H' → Prog F H F' H' → D'.ct σ' H'
  | .rt d => ∀ F' H' v, Grow b.F0 b.H0 F' H' → SlotOk K F' b.H0 H' d v → D'.rt v H'
  | .exc c m' => ∀ σ' F' H', Rel K b F' m' σ' H' → Prog F H F' H' → W (b.ex c) none σ' H'
  | .stuck => False
theorem Sst.prog {K : PySem.W.Frag} {b : Bs} {W : WX} {F H F1 H1 : Hp} {D' : Ends} {r : RS} (g : Prog F H F1 H1) (p : Sst K b W F H D' r) : Sst K b W F1 H1 D' r := by
  cases r with
  | nx m => exact fun σ' F' H' R q => p σ' F' H' R (g.trans q)
  | bk m => exact fun σ' F' H' R q => p σ' F' H' R (g.trans q)
  | ct m => exact fun σ' F' H' R q => p σ' F' H' R (g.trans q)
  | rt d => exact p
  | exc c m => exact fun σ' F' H' R q => p σ' F' H' R (g.trans q)
  | stuck => exact p
def tSS (K : PySem.W.Frag) (b : Bs) (W : WX) (g : SemS) : TS := fun D' σ H => ∃ F m, Rel K b F m σ H ∧ Sst K b W F H D' (g m)
abbrev SS (X : Cx) (b : Bs) (W : WX) (st : Stmt) (g : SemS) : Prop := PS X st (tSS X.K b W g)
abbrev SSs (X : Cx) (b : Bs) (W : WX) (st : List Stmt) (g : SemS) : Prop := PSs X st (tSS X.K b W g)
def ofR {α : Type} (m : Sl) (r : R α) (k : α → RS) : RS := match r with
  | .ok a => k a
  | .exc c => .exc c m
  | .stuck => .stuck
@[simp] theorem ofR_ok {α : Type} (m : Sl) (a : α) (k : α → RS) : ofR m (.ok a) k = k a := nr rfl
def sThen (r : RS) (k : Sl → RS) : RS := match r with
  | .nx m => k m
  | r => r
@[simp] theorem sThen_nx (m : Sl) (k : Sl → RS) : sThen (.nx m) k = k m := nr rfl
@[simp] theorem sThen_rt (d : D) (k : Sl → RS) : sThen (.rt d) k = .rt d := nr rfl
@[simp] theorem sThen_exc (c : String) (m : Sl) (k : Sl → RS) : sThen (.exc c m) k = .exc c m := nr rfl
def sNop : SemS := fun m => .nx m
def sSeq (g h : SemS) : SemS := fun m => sThen (g m) h
def sExp (f : SemE) : SemS := fun m => ofR m (f m) fun _ => .nx m
def sRet (f : SemE) : SemS := fun m => ofR m (f m) fun d => .rt (still d)
def sRetO (h : SemA) : SemS := fun m => ofR m (h m) fun ds => if hasTL ds = true then .stuck else .rt (.lst true ds)
def sRetV (i : Nat) : SemS := fun m => match m[i]? with
  | some (some (.lst true ds)) => .rt (.lst true ds)
  | _ => .stuck
def sIf (t : SemT) (g h : SemS) : SemS := fun m => ofR m (t m) fun c => if c = true then g m else h m
def putR (i : Nat) (d : D) (m : Sl) : R Sl := if hasT d = true then .stuck else .ok (m.set i (some d))
def sSet (i : Nat) (f : SemE) : SemS := fun m => ofR m (f m) fun d => ofR m (putR i d m) fun m' => .nx m'
def sSetO (i : Nat) (h : SemA) : SemS := fun m => ofR m (h m) fun ds => if hasTL ds = true then .stuck else .nx (m.set i (some (.lst true ds)))
section
variable {X : Cx} {b : Bs} {W : WX} {st : Stmt} {rest : List Stmt} {g h : SemS} {e : Expr} {f : SemE} {t : SemT} {pos : Pos}
theorem seqS {R' : V → Hp → Prop} {σ : L2.St} {H F : Hp} {k : D → RS} {D' : Ends} {m : Sl} (r : Rel X.K b F m σ H) (p : Sst X.K b W F H D' (ofR m (f m) k))
    (q : ∀ d F1 H1 v, Rel X.K b F1 m σ H1 → Grow F H F1 H1 → Rp X.K F1 b.H0 H1 d v → Sst X.K b W F1 H1 D' (k d) → R' v H1) : tSE X.K b W f σ H R' := by
  refine ⟨F, m, r, ?_⟩
  cases hf : f m with
  | stuck => rw [hf] at p; exact p.elim
  | exc c => rw [hf] at p; exact fun F1 H1 G => p σ F1 H1 (r.step G) G.prog
  | ok d => rw [hf] at p; exact fun F1 H1 G v hv => q d F1 H1 v (r.step G) G hv (Sst.prog G.prog p)
theorem seqO {R' : V → Hp → Prop} {σ : L2.St} {H F : Hp} {k : List D → RS} {D' : Ends} {m : Sl} {f : SemA} (r : Rel X.K b F m σ H) (p : Sst X.K b W F H D' (ofR m (f m) k))
    (q : ∀ ds F1 H1 a xs, Rel X.K b F1 m σ H1 → Grow F H F1 H1 → H a = none → F1 a = none → H1 a = some (.lst xs) → RpL X.K F1 b.H0 H1 ds xs → Sst X.K b W F1 H1 D' (k ds) → R' (.ref a) H1) : tSO X.K b W f σ H R' := by
  refine ⟨F, m, r, ?_⟩
  cases hf : f m with
  | stuck => rw [hf] at p; exact p.elim
  | exc c => rw [hf] at p; exact fun F1 H1 G => p σ F1 H1 (r.step G) G.prog
  | ok d => rw [hf] at p; exact fun F1 H1 G a xs h0 h1 h2 hv => q d F1 H1 a xs (r.step G) G h0 h1 h2 hv (Sst.prog G.prog p)
theorem sss_nil : SSs X b W [] sNop := PSs.weak pss_nil fun D' σ H ⟨F, m, R, p⟩ => p σ F H R (Prog.refl _ _)
theorem sss_cons (h1 : SS X b W st g) (h2 : SSs X b W rest h) : SSs X b W (st :: rest) (sSeq g h) := by
  refine PSs.weak (pss_cons h1 h2) fun D' σ H ⟨F, m, R, p⟩ => ⟨F, m, R, ?_⟩
  unfold sSeq at p
  cases hg : g m with
  | nx m' => rw [hg] at p; exact fun σ' F' H' R' q => ⟨F', m', R', Sst.prog q p⟩
  | bk m' => rw [hg] at p; exact p
  | ct m' => rw [hg] at p; exact p
  | rt d => rw [hg] at p; exact p
  | exc c m' => rw [hg] at p; exact p
  | stuck => rw [hg] at p; exact p
theorem sss_one (h1 : SS X b W st g) : SSs X b W [st] g := PSs.weak (pss_one h1) fun _ _ _ z => z
theorem ss_exp (hf : SE X b W e f) (hs : swapsWith e none pos.line X.env = pure false := by rfl) : SS X b W (.Expr e pos) (sExp f) :=
  PS.weak (ps_expr hf hs) fun D' σ H ⟨F, m, R, p⟩ => seqS R p fun d F1 H1 v R1 G _ q => q σ F1 H1 R1 (Prog.refl _ _)
theorem Rel.tell {K : PySem.W.Frag} {F H : Hp} {m : Sl} {σ : L2.St} {d : D} {v : V} (R : Rel K b F m σ H) (hv : Rp K F b.H0 H d v) : ∃ F', Grow b.F0 b.H0 F' H ∧ SlotOk K F' b.H0 H (still d) v := by
  refine ⟨vis F b.H0 H, ⟨R.grow.same, R.grow.sub.trans (vis_sub R.sub), vis_subH R.sub, fun a o e => ?_⟩, .inr (.inl ⟨hasT_still d, Rp.vis R.sub d v hv⟩)⟩
  cases h : b.H0 a with
  | none => exact .inr rfl
  | some z =>
    rw [vis_old h] at e
    rcases R.grow.new a o e with q | q
    · exact .inl q
    · rw [h] at q; cases q
theorem ss_ret (hf : SE X b W e f) : SS X b W (.Return (some e) pos) (sRet f) :=
  PS.weak (ps_ret hf) fun D' σ H ⟨F, m, R, p⟩ => seqS R p fun d F1 H1 v R1 G hv q => by
    obtain ⟨F', h1, h2⟩ := R1.tell hv
    exact q F' H1 v h1 h2
theorem ss_retO {k : SemA} (hf : SO X b W e k) : SS X b W (.Return (some e) pos) (sRetO k) :=
  PS.weak (ps_ret hf) fun D' σ H ⟨F, m, R, p⟩ => seqO R p fun ds F1 H1 a xs R1 G h0 h1 h2 hv q => by
    split at q
    · exact q.elim
    · rename_i ht
      exact q F1 H1 _ R1.grow (.inl ⟨ds, a, xs, rfl, rfl, h2, h1, R.grow.same.free h0, hv, by simpa using ht⟩)
theorem ss_retV {i : Nat} (hf : PE X e (tVar i)) : SS X b W (.Return (some e) pos) (sRetV i) :=
  PS.weak (ps_ret hf) fun D' σ H ⟨F, m, R, p⟩ => by
    unfold sRetV at p
    split at p
    · rename_i ds hd
      obtain ⟨v, h1, h2⟩ := R.slot i _ hd
      exact ⟨v, h1, p F H v R.grow h2⟩
    · exact p.elim
theorem ss_if {c : Expr} {a d : List Stmt} (hc : ST X b W c t) (ha : SSs X b W a g) (hb : SSs X b W d h) : SS X b W (.If c a d pos) (sIf t g h) :=
  PS.weak (ps_if hc ha hb) fun D' σ H ⟨F, m, R, p⟩ => by
    refine ⟨F, m, R, ?_⟩
    unfold sIf at p
    cases ht : t m with
    | stuck => rw [ht] at p; exact p.elim
    | exc c => rw [ht] at p; exact fun F1 H1 G => p σ F1 H1 (R.step G) G.prog
    | ok c =>
      rw [ht] at p
      refine fun F1 H1 G => ?_
      cases c with
      | true => exact ⟨F1, m, R.step G, Sst.prog G.prog p⟩
      | false => exact ⟨F1, m, R.step G, Sst.prog G.prog p⟩
variable {i : Nat} {x : Str} {px : Pos}
theorem ss_set (hN : X.N.Nodup) (hi : X.N[i]? = some x) (hx : Loc X.env.scope x) (hf : SE X b W e f) (hfn : X.fn x = true ∨ X.env.scope.names.lookup x = some .local := by first | exact .inl rfl | exact .inr rfl)
    (hs : swapsWithSole [.Name x px] e pos.line X.env = pure false := by rfl) (hw : swappedStores [.Name x px] e X.env = pure none := by rfl) : SS X b W (.Assign [.Name x px] e pos) (sSet i f) :=
  PS.weak (ps_asg hf (pg_name hN hi hx hfn) hs hw) fun D' σ H ⟨F, m, R, p⟩ => seqS R p fun d F1 H1 v R1 G hv q => by
    unfold putR at q
    split at q
    · exact q.elim
    · rename_i ht
      exact q _ F1 H1 (R1.put (by simpa using ht) hv) (Prog.refl _ _)
theorem ss_setO {k : SemA} (hN : X.N.Nodup) (hi : X.N[i]? = some x) (hx : Loc X.env.scope x) (hf : SO X b W e k) (hfn : X.fn x = true ∨ X.env.scope.names.lookup x = some .local := by first | exact .inl rfl | exact .inr rfl)
    (hs : swapsWithSole [.Name x px] e pos.line X.env = pure false := by rfl) (hw : swappedStores [.Name x px] e X.env = pure none := by rfl) : SS X b W (.Assign [.Name x px] e pos) (sSetO i k) :=
  PS.weak (ps_asg hf (pg_name hN hi hx hfn) hs hw) fun D' σ H ⟨F, m, R, p⟩ => by
    refine ⟨F, m, R, ?_⟩
    unfold sSetO at p
    cases hk : k m with
    | stuck => rw [hk] at p; exact p.elim
    | exc c => rw [hk] at p; exact fun F1 H1 G => p σ F1 H1 (R.step G) G.prog
    | ok ds =>
      rw [hk] at p
      simp only [ofR_ok] at p
      split at p
      · exact p.elim
      · rename_i ht
        exact fun F1 H1 G a xs h0 h1 h2 hv => p _ F1 H1 (R.own G h0 h2 h1 hv (by simpa using ht)) G.prog
end
end CT

namespace CT
open PySem PySem.Spec PyProof.Rows L2
abbrev SemG := D → Sl → R Sl
def NGok (K : PySem.W.Frag) (t : TG) (g : SemG) (vs : List Nat) : Prop := ∀ (b : Bs) (F : Hp) (m : Sl) (σ : L2.St) (H : Hp) (d : D) (v : V) (m' : Sl) (Q : L2.St → Hp → Prop), Rel K b F m σ H → Rp K F b.H0 H d v → g d m = .ok m' →
  (∀ σ', Rel K b F m' σ' H → wipe σ' vs = wipe σ vs → Q σ' H) → t v σ H Q
abbrev SemGs := List D → Sl → R Sl
def NGsOk (K : PySem.W.Frag) (t : TGs) (g : SemGs) (vs : List Nat) : Prop := ∀ (b : Bs) (F : Hp) (m : Sl) (σ : L2.St) (H : Hp) (ds : List D) (us : List V) (m' : Sl) (Q : L2.St → Hp → Prop), Rel K b F m σ H → RpL K F b.H0 H ds us → g ds m = .ok m' →
  (∀ σ', Rel K b F m' σ' H → wipe σ' vs = wipe σ vs → Q σ' H) → t us σ H Q
theorem wipe_set {i : Nat} {v : V} : ∀ {vs : List Nat} {σ : L2.St}, i ∈ vs → wipe (σ.set i (some v)) vs = wipe σ vs
  | [], _, h => nomatch h
  | j :: vs, σ, h => by
    show (wipe (σ.set i (some v)) vs).set j none = (wipe σ vs).set j none
    by_cases hj : i ∈ vs
    · rw [wipe_set hj]
    · have e : i = j := (List.mem_cons.mp h).resolve_right hj
      subst e
      have : ∀ (vs : List Nat) (σ : L2.St), i ∉ vs → wipe (σ.set i (some v)) vs = (wipe σ vs).set i (some v) := fun vs => by
        induction vs with
        | nil => intro σ _; rfl
        | cons k r ih =>
          intro σ hn
          have h1 : i ≠ k := fun e => hn (by rw [e]; exact List.mem_cons_self)
          have h2 : i ∉ r := fun e => hn (List.mem_cons_of_mem _ e)
          show (wipe (σ.set i (some v)) r).set k none = ((wipe σ r).set k none).set i (some v)
          rw [ih σ h2, List.set_comm _ _ h1]
      rw [this vs σ hj, List.set_set]
theorem ng_name {K : PySem.W.Frag} {i : Nat} {vs : List Nat} (hi : i ∈ vs) : NGok K (gName i) (putR i) vs := fun b F m σ H d v m' Q R hv e q => by
  unfold putR at e
  split at e
  · cases e
  · rename_i ht
    cases e
    exact q _ (R.put (by simpa using ht) hv) (wipe_set hi)
def gsNil : SemGs := fun ds m => match ds with
  | [] => .ok m
  | _ => .stuck
def gsCons (g : SemG) (h : SemGs) : SemGs := fun ds m => match ds with
  | d :: r => (g d m).bind fun m1 => h r m1
  | [] => .stuck
def gTupR (n : Nat) (g : SemGs) : SemG := fun d m => match d with
  | .tup ds => if ds.length = n then g ds m else .stuck
  | _ => .stuck
theorem ngs_nil {K : PySem.W.Frag} {vs : List Nat} : NGsOk K gNil gsNil vs := fun b F m σ H ds us m' Q R hv e q => by
  cases ds with
  | nil => cases hv; cases e; exact ⟨rfl, q σ R rfl⟩
  | cons _ _ => cases e
theorem ngs_cons {K : PySem.W.Frag} {vs : List Nat} {t : TG} {ts : TGs} {g : SemG} {h : SemGs} (h1 : NGok K t g vs) (h2 : NGsOk K ts h vs) : NGsOk K (gCons t ts) (gsCons g h) vs := fun b F m σ H ds us m' Q R hv e q => by
  cases ds with
  | nil => cases e
  | cons d r =>
    cases hv with
    | cons a c =>
      simp only [gsCons] at e
      cases hg : g d m with
      | stuck => rw [hg] at e; cases e
      | exc c => rw [hg] at e; cases e
      | ok m1 =>
        rw [hg] at e
        simp only [CT.R.bind_ok] at e
        exact ⟨_, _, rfl, h1 b F m σ H d _ m1 _ R a hg fun σ1 R1 w1 => h2 b F m1 σ1 H r _ m' _ R1 c e fun σ2 R2 w2 => q σ2 R2 (w2.trans w1)⟩
theorem ng_tup {K : PySem.W.Frag} {vs : List Nat} {ts : TGs} {h : SemGs} {n : Nat} (h2 : NGsOk K ts h vs) : NGok K (gTup K n ts) (gTupR n h) vs := fun b F m σ H d v m' Q R hv e q => by
  cases d <;> first | (cases e; done) | skip
  rename_i ds
  simp only [gTupR] at e
  split at e
  · rename_i hl
    obtain ⟨a, xs, rfl, k1, k2⟩ := hv.tuple
    exact ⟨a, xs, rfl, k1, by rw [← k2.length]; exact hl, h2 b F m σ H ds xs m' Q R k2 e q⟩
  · cases e
def Ltr (strict : Bool) (F H F' H' : Hp) : Prop := Same F F' ∧ Same F' H' ∧ (∀ c o, H c = some o → NoL o → H' c = some o) ∧ (strict = false → Same H H')
structure Wk (K : PySem.W.Frag) (H0 : Hp) (strict : Bool) (J : It) (F H : Hp) (ds : List D) : Prop where
  go : ∀ i F' H', Ltr strict F H F' H' → i < ds.length → J.go i H'
  yld : ∀ (i : Nat) F' H' x H'', Ltr strict F H F' H' → i < ds.length → J.yld i H' x H'' → ∃ F'' d, Grow F' H' F'' H'' ∧ ds[i]? = some d ∧ Rp K F'' H0 H'' d x
  stop : ∀ F' H', Ltr strict F H F' H' → J.stop ds.length H'
def tSI (K : PySem.W.Frag) (b : Bs) (W : WX) (strict : Bool) (f : SemA) : TI := fun σ H Rw => ∃ F m, Rel K b F m σ H ∧ Pst b W σ F H (fun ds F' H' => ∀ J, Wk K b.H0 strict J F' H' ds → Rw J H') (f m)
abbrev SI (X : Cx) (b : Bs) (W : WX) (strict : Bool) (tg e : Expr) (f : SemA) : Prop := PI X tg e (tSI X.K b W strict f)
theorem PI.weak {X : Cx} {tg e : Expr} {t t' : TI} (h : PI X tg e t) (w : ∀ σ H Rw, t' σ H Rw → t σ H Rw) : PI X tg e t' := ⟨fun pins s σ H Q I q => h.run pins s σ H Q I (w _ _ _ q)⟩
theorem PI.or {X : Cx} {tg e : Expr} {t t' : TI} (h : PI X tg e t) (h' : PI X tg e t') : PI X tg e (fun σ H Rw => t σ H Rw ∨ t' σ H Rw) := ⟨fun pins s σ H Q I q => by
  rcases q with q | q
  · exact h.run pins s σ H Q I q
  · exact h'.run pins s σ H Q I q⟩
def items (strict : Bool) : D → R (List D)
  | .lst t xs => if (strict && t) = true then .stuck else .ok xs
  | .fr xs => .ok xs
  | .tup xs => .ok xs
  | .str z => .ok (z.cps.toList.map fun c => .str ⟨#[c]⟩)
  | _ => .stuck
section
variable {K : PySem.W.Frag} {F H H0 : Hp} {a : Addr} {xs : List V} {ds : List D} {strict : Bool}
theorem Ltr.tup {F' H' : Hp} (l : Ltr strict F H F' H') (h : SqT K H a xs) : SqT K H' a xs := by
  rcases h with (h | ⟨o, h⟩) | h
  · exact .inl (.inl (l.2.2.1 _ _ h trivial))
  · exact .inl (.inr ⟨o, l.2.2.1 _ _ h trivial⟩)
  · exact .inr h
theorem RpL.ltr {F' H' : Hp} (n : hasTL ds = false ∨ strict = false) (l : Ltr strict F H F' H') (r : RpL K F H0 H ds xs) : RpL K F' H0 H' ds xs := by
  rcases n with n | n
  · exact (RpL.keep l.2.2.1 ds xs n r).mono l.1 (Same.refl _)
  · exact r.mono l.1 (l.2.2.2 n)
theorem Wk.of {J : It} (n : hasTL ds = false ∨ strict = false) (r : RpL K F H0 H ds xs) (P : Hp → Prop) (hP : ∀ F' H', Ltr strict F H F' H' → P H') (h1 : ∀ (i : Nat) x H', P H' → xs[i]? = some x → J.go i H')
    (h2 : ∀ (i : Nat) H' x H'', P H' → J.yld i H' x H'' → H'' = H' ∧ ∀ y, xs[i]? = some y → y = x) (h3 : ∀ H', P H' → J.stop xs.length H') : Wk K H0 strict J F H ds where
  go := fun i F' H' l hi => h1 i (xs[i]'(by rw [← r.length]; exact hi)) H' (hP F' H' l) (by simp)
  yld := fun i F' H' x H'' l hi y => by
    obtain ⟨e, q⟩ := h2 i H' x H'' (hP F' H' l) y
    subst e
    obtain ⟨v, k1, k2⟩ := (RpL.ltr n l r).get (i := i) (d := ds[i]) (by simp [hi])
    rw [q v k1] at k2
    exact ⟨F', ds[i], Grow.refl l.2.1, by simp [hi], k2⟩
  stop := fun F' H' l => by rw [r.length]; exact h3 H' (hP F' H' l)
theorem wk_list (n : hasTL ds = false ∨ strict = false) (r : RpL K F H0 H ds xs) (hP : ∀ F' H', Ltr strict F H F' H' → SqL K H' a xs) : Wk K H0 strict (Itl K a) F H ds :=
  Wk.of n r (fun H' => SqL K H' a xs) hP (fun i x H' p e => ⟨xs, x, p, e⟩) (fun i H' x H'' p y => ⟨y.1, fun z e => Option.some.inj (e.symm.trans (y.2 xs p))⟩) (fun H' p => ⟨xs, p, Nat.le_refl _⟩)
theorem wk_tup (n : hasTL ds = false ∨ strict = false) (r : RpL K F H0 H ds xs) (hP : ∀ F' H', Ltr strict F H F' H' → SqT K H' a xs) : Wk K H0 strict (Itt K a) F H ds :=
  Wk.of n r (fun H' => SqT K H' a xs) hP (fun i x H' p e => ⟨xs, x, p, e⟩) (fun i H' x H'' p y => ⟨y.1, fun z e => Option.some.inj (e.symm.trans (y.2 xs p))⟩) (fun H' p => ⟨xs, p, Nat.le_refl _⟩)
theorem Rp.lasts {t : Bool} {v : V} (s : Same F H) (h : Rp K F H0 H (.lst t ds) v) (c : (strict && t) = false) : ∃ a xs, v = .ref a ∧ RpL K F H0 H ds xs ∧ ∀ F' H', Ltr strict F H F' H' → SqL K H' a xs := by
  cases h with
  | lst p q => exact ⟨_, _, rfl, q, fun F' H' l => .inl (.inl (l.2.1 _ _ (l.1 _ _ p)))⟩
  | tmF p q => exact ⟨_, _, rfl, q, fun F' H' l => .inl (.inl (l.2.1 _ _ (l.1 _ _ p)))⟩
  | tmN p q z =>
    rw [Bool.and_true] at c
    exact ⟨_, _, rfl, z, fun F' H' l => .inl (.inl (l.2.2.2 c _ _ q))⟩
end
theorem chars_rp {K : PySem.W.Frag} {F H H0 : Hp} : ∀ cs : List Nat, RpL K F H0 H (cs.map fun c => .str ⟨#[c]⟩) (cs.map fun c => .str ⟨#[c]⟩)
  | [] => .nil
  | c :: cs => .cons (.str _) (chars_rp cs)
theorem chars_noT : ∀ cs : List Nat, hasTL (cs.map fun c => D.str ⟨#[c]⟩) = false
  | [] => rfl
  | c :: cs => by rw [List.map_cons, hasTL, chars_noT cs]; rfl
section
variable {X : Cx} {b : Bs} {W : WX} {strict : Bool} {e tg : Expr} {f : SemE} {h : SemA} {p pos : Pos}
def itemsN (strict : Bool) (x : D) : R (List D) := (items strict x).bind fun ds => if (strict && hasTL ds) = true then .stuck else .ok ds
def aItN (strict : Bool) (f : SemE) : SemA := fun m => (f m).bind (itemsN strict)
theorem noT_of {ds : List D} (h : ¬ (strict && hasTL ds) = true) : hasTL ds = false ∨ strict = false := by
  cases strict <;> simp_all
theorem si_seq (hf : SE X b W e f) : SI X b W strict tg e (aItN strict f) := by
  refine PI.weak (PI.or (pi_list hf) (PI.or (pi_tup hf) (pi_str hf))) fun σ H Rw ⟨F, m, R, p⟩ => ?_
  unfold aItN itemsN at p
  cases hm : f m with
  | stuck => rw [hm] at p; exact p.elim
  | exc c =>
    rw [hm] at p
    exact .inl ⟨F, m, R, by rw [hm]; exact p⟩
  | ok x =>
    rw [hm] at p
    simp only [CT.R.bind_ok] at p
    cases x with
    | non => exact p.elim
    | bl _ => exact p.elim
    | int _ => exact p.elim
    | unk => exact p.elim
    | ex _ => exact p.elim
    | fn _ => exact p.elim
    | dic _ _ => exact p.elim
    | dct _ _ _ => exact p.elim
    | lst t ds =>
      refine .inl ⟨F, m, R, ?_⟩
      rw [hm]
      refine fun F1 H1 G v hv => ?_
      have s := (R.step G).sub
      simp only [items] at p
      split at p
      · exact p.elim
      · rename_i c
        simp only [CT.R.bind_ok] at p
        split at p
        · exact p.elim
        · rename_i c2
          obtain ⟨a, xs, rfl, k1, k2⟩ := hv.lasts (strict := strict) s (by simpa using c)
          exact ⟨a, rfl, ⟨xs, k2 F1 H1 ⟨Same.refl _, s, fun _ _ z _ => z, fun _ => Same.refl _⟩⟩, p F1 H1 G _ (wk_list (noT_of c2) k1 k2)⟩
    | fr ds =>
      refine .inl ⟨F, m, R, ?_⟩
      rw [hm]
      refine fun F1 H1 G v hv => ?_
      have s := (R.step G).sub
      simp only [items, CT.R.bind_ok] at p
      split at p
      · exact p.elim
      · rename_i c2
        cases hv with
        | fr k1 k2 =>
          exact ⟨_, rfl, ⟨_, s.seq k1⟩, p F1 H1 G _ (wk_list (noT_of c2) k2 fun F' H' l => l.2.1.seq (l.1.seq k1))⟩
    | tup ds =>
      refine .inr (.inl ⟨F, m, R, ?_⟩)
      rw [hm]
      refine fun F1 H1 G v hv => ?_
      have s := (R.step G).sub
      simp only [items, CT.R.bind_ok] at p
      split at p
      · exact p.elim
      · rename_i c2
        obtain ⟨a, xs, rfl, k1, k2⟩ := hv.tuple
        exact ⟨a, rfl, ⟨xs, k1⟩, p F1 H1 G _ (wk_tup (noT_of c2) k2 fun F' H' l => l.tup k1)⟩
    | str z =>
      refine .inr (.inr ⟨F, m, R, ?_⟩)
      rw [hm]
      refine fun F1 H1 G v hv => ?_
      cases hv
      simp only [items, CT.R.bind_ok, chars_noT, Bool.and_false, Bool.false_eq_true, if_false] at p
      refine ⟨z, rfl, p F1 H1 G _ ?_⟩
      refine Wk.of (xs := z.cps.toList.map fun c => .str ⟨#[c]⟩) (.inl (chars_noT _)) (chars_rp _) (fun _ => True) (fun _ _ _ => trivial) (fun i x H' _ e => ?_) (fun i H' x H'' _ y => ?_) (fun H' _ => ?_)
      · obtain ⟨h1, _⟩ := List.getElem?_eq_some_iff.mp e
        show i < z.cps.size
        simpa using h1
      · obtain ⟨e1, c, hc, rfl⟩ := y
        refine ⟨e1, fun y hy => ?_⟩
        rw [List.getElem?_map] at hy
        rw [← Array.getElem?_toList] at hc
        rw [hc] at hy
        exact (Option.some.inj hy).symm
      · show z.cps.size ≤ _
        simp
def rng (lo : Int) (n : Nat) : List D := (List.range n).map fun i => D.int (lo + (i : Nat))
def rng1 : List D → R (List D)
  | [.int j] => if -(2 ^ 62) ≤ j ∧ j < 2 ^ 62 then .ok (rng 0 j.toNat) else .stuck
  | _ => .stuck
def rng2 : List D → R (List D)
  | [.int i, .int j] => if -(2 ^ 62) ≤ i ∧ i < 2 ^ 62 ∧ -(2 ^ 62) ≤ j ∧ j < 2 ^ 62 then .ok (rng i (j - i).toNat) else .stuck
  | _ => .stuck
theorem rng_length (lo : Int) (n : Nat) : (rng lo n).length = n := by simp [rng]
theorem rng_get (lo : Int) (n i : Nat) (h : i < n) : (rng lo n)[i]? = some (.int (lo + (i : Nat))) := by simp [rng, h]
theorem wk_rng {K : PySem.W.Frag} {F H H0 : Hp} {lo : Int} {n : Nat} : Wk K H0 strict (Itr lo n) F H (rng lo n) where
  go := fun i F' H' l hi => by rw [rng_length] at hi; exact hi
  yld := fun i F' H' x H'' l hi y => by
    rw [rng_length] at hi
    obtain ⟨e, rfl⟩ := y
    subst e
    exact ⟨F', _, Grow.refl l.2.1, rng_get lo n i hi, .int _⟩
  stop := fun F' H' l => by rw [rng_length]; exact Nat.le_refl _
theorem si_rng2 {a c : Expr} (hg : Gl X "range") (hm : X.mg "range" = none) (ha : SA X b W [a, c] h) (hs : starEach [a, c] X.env = [(false, eval a X.env), (false, eval c X.env)] := by rfl) (hs2 : starEach [c] X.env = [(false, eval c X.env)] := by rfl) :
    SI X b W strict tg (.Call (.Name "range" p) [a, c] [] pos) (aThen h rng2) := by
  refine PI.weak (pi_range2 hg hm ha hs hs2) fun σ H Rw ⟨F, m, R, p⟩ => ?_
  refine seqA R p fun xs F1 H1 vs R1 G1 hv p1 => ?_
  unfold rng2 at p1
  split at p1
  · obtain ⟨v, u, rfl, h, h'⟩ := hv.two
    cases h; cases h'
    split at p1
    · rename_i c
      exact ⟨_, _, rfl, c, p1.here R1.sub _ wk_rng⟩
    · exact p1.elim
  · exact p1.elim
theorem Wk.pairs {K : PySem.W.Frag} {F H H0 : Hp} {J : It} {ds es : List D} {xs ys : List V} (n1 : hasTL ds = false ∨ strict = false) (n2 : hasTL es = false ∨ strict = false) (r : RpL K F H0 H ds xs) (q : RpL K F H0 H es ys) (P : Hp → Prop) (hP : ∀ F' H', Ltr strict F H F' H' → P H')
    (h1 : ∀ (i : Nat) x y H', P H' → xs[i]? = some x → ys[i]? = some y → J.go i H')
    (h2 : ∀ (i : Nat) H' v H'', P H' → J.yld i H' v H'' → ∃ T x y, v = .ref T ∧ H' T = none ∧ H'' = upd H' T (.tup [x, y]) ∧ (∀ z, xs[i]? = some z → z = x) ∧ ∀ z, ys[i]? = some z → z = y)
    (h3 : ∀ H', P H' → J.stop (min xs.length ys.length) H') : Wk K H0 strict J F H ((ds.zip es).map fun p => .tup [p.1, p.2]) where
  go := fun i F' H' l hi => by
    have hi : i < min xs.length ys.length := by simpa [r.length, q.length] using hi
    exact h1 i (xs[i]'(by omega)) (ys[i]'(by omega)) H' (hP F' H' l) (by simp) (by simp)
  yld := fun i F' H' x H'' l hi y => by
    have hi : i < min ds.length es.length := by simpa using hi
    obtain ⟨T, a, c, rfl, k1, rfl, k2, k3⟩ := h2 i H' x H'' (hP F' H' l) y
    obtain ⟨v, k4, k5⟩ := (RpL.ltr n1 l r).get (i := i) (d := ds[i]'(by omega)) (by simp)
    obtain ⟨u, k6, k7⟩ := (RpL.ltr n2 l q).get (i := i) (d := es[i]'(by omega)) (by simp)
    have e1 := k2 v k4
    have e2 := k3 u k6
    subst e1 e2
    have G := Grow.still (o := .tup [v, u]) l.2.1 k1
    refine ⟨_, .tup [ds[i]'(by omega), es[i]'(by omega)], G, ?_, .tup upd_same (.cons (k5.grow G) (.cons (k7.grow G) .nil))⟩
    have e1 : ds[i]? = some (ds[i]'(by omega)) := List.getElem?_eq_getElem _
    have e2 : es[i]? = some (es[i]'(by omega)) := List.getElem?_eq_getElem _
    have e3 : (ds.zip es)[i]? = some (ds[i]'(by omega), es[i]'(by omega)) := List.getElem?_zip_eq_some.mpr ⟨e1, e2⟩
    rw [List.getElem?_map, e3]
    rfl
  stop := fun F' H' l => by
    have := h3 H' (hP F' H' l)
    rw [← r.length, ← q.length] at this
    simpa using this
def enumL (ds : List D) : List D := ((rng 0 ds.length).zip ds).map fun p => .tup [p.1, p.2]
def enumI (strict : Bool) (x : D) : R (List D) := match x with
  | .lst t ds => if (strict && (t || hasTL ds)) = true then .stuck else .ok (enumL ds)
  | _ => .stuck
theorem rng_rp {K : PySem.W.Frag} {F H H0 : Hp} (lo : Int) : ∀ l : List Nat, RpL K F H0 H (l.map fun i => .int (lo + (i : Nat))) (l.map fun i => .int (lo + (i : Nat)))
  | [] => .nil
  | i :: l => .cons (.int _) (rng_rp lo l)
theorem rng_noT (lo : Int) (n : Nat) : hasTL (rng lo n) = false := by
  unfold rng
  induction List.range n with
  | nil => rfl
  | cons i l ih => rw [List.map_cons, hasTL, ih]; rfl
def aEnum (strict : Bool) (f : SemE) : SemA := fun m => (f m).bind (enumI strict)
theorem si_enum {elts : List Expr} {kk : Nat} {tpos : Pos} (hg : Gl X "enumerate") (hm : X.mg "enumerate" = none) (hf : SE X b W e f) (hs : starEach [e] X.env = [(false, eval e X.env)] := by rfl) : SI X b W strict (.Tuple elts kk tpos) (.Call (.Name "enumerate" p) [e] [] pos) (aEnum strict f) := by
  refine PI.weak (pi_enum hg hm (pa_cons hf pa_nil hs) hs) fun σ H Rw ⟨F, m, R, p⟩ => ?_
  refine ⟨F, m, R, p.bind.imp fun x F1 H1 hx G z v hv => ?_⟩
  have s := (R.step G).sub
  cases x <;> first | exact z.elim | skip
  · rename_i t ds
    simp only [enumI] at z
    split at z
    · exact z.elim
    · rename_i c
      obtain ⟨a, xs, rfl, k1, k2⟩ := hv.lasts (strict := strict) s (by revert c; cases strict <;> cases t <;> simp)
      refine ⟨a, xs, rfl, k2 F1 H1 ⟨Same.refl _, s, fun _ _ z _ => z, fun _ => Same.refl _⟩, z.here s _ ?_⟩
      have hl := k1.length
      refine Wk.pairs (xs := (List.range ds.length).map fun i => .int (0 + (i : Nat))) (.inl (rng_noT 0 ds.length)) (by revert c; cases strict <;> cases t <;> simp) (rng_rp 0 _) k1 (fun H' => SqL X.K H' a xs) k2 (fun i x y H' q e1 e2 => ⟨xs, y, q, e2⟩) (fun i H' v H'' q y => ?_) (fun H' q => ⟨xs, q, by simp; omega⟩)
      obtain ⟨T, x, rfl, h1, h2, h3⟩ := y
      refine ⟨T, _, x, rfl, h1, h2, fun z e => ?_, fun z e => Option.some.inj (e.symm.trans (h3 xs q))⟩
      rw [List.getElem?_map] at e
      cases hr : (List.range ds.length)[i]? with
      | none => rw [hr] at e; cases e
      | some j =>
        rw [hr] at e
        obtain ⟨h5, h6⟩ := List.getElem?_eq_some_iff.mp hr
        rw [List.getElem_range] at h6
        subst h6
        have := (Option.some.inj e).symm
        rw [this]
        simp
end
def forGo (g : SemG) (body : SemS) : List D → Sl → RS
  | [], m => .nx m
  | d :: ds, m => match g d m with
    | .ok m1 => match body m1 with
      | .nx m2 => forGo g body ds m2
      | .ct m2 => forGo g body ds m2
      | .bk m2 => .nx m2
      | .rt d => .rt d
      | .exc c m2 => .exc c m2
      | .stuck => .stuck
    | _ => .stuck
def sFor (h : SemA) (g : SemG) (body : SemS) : SemS := fun m => ofR m (h m) fun ds => forGo g body ds m
def whN (t : SemT) (body : SemS) : Nat → Sl → RS
  | 0, _ => .stuck
  | n + 1, m => ofR m (t m) fun c => if c = true then (match body m with
      | .nx m2 => whN t body n m2
      | .ct m2 => whN t body n m2
      | .bk m2 => .nx m2
      | .rt d => .rt d
      | .exc c m2 => .exc c m2
      | .stuck => .stuck) else .nx m
open Classical in
noncomputable def sWhile (t : SemT) (body : SemS) : SemS := fun m => if h : ∃ n, whN t body n m ≠ .stuck then whN t body (Classical.choose h) m else .stuck
theorem whN_mono {t : SemT} {body : SemS} : ∀ {n : Nat} {m : Sl}, whN t body n m ≠ .stuck → ∀ k, n ≤ k → whN t body k m = whN t body n m
  | 0, m, h, k, _ => absurd rfl h
  | n + 1, m, h, 0, hk => absurd hk (by omega)
  | n + 1, m, h, k + 1, hk => by
    simp only [whN] at h ⊢
    cases ht : t m with
    | stuck => rfl
    | exc c => rfl
    | ok c =>
      rw [ht] at h
      simp only [ofR_ok] at h ⊢
      cases c with
      | false => rfl
      | true =>
        simp only [if_true] at h ⊢
        cases hb : body m with
        | nx m2 => rw [hb] at h; exact whN_mono (n := n) (m := m2) h k (by omega)
        | ct m2 => rw [hb] at h; exact whN_mono (n := n) (m := m2) h k (by omega)
        | bk m2 => rfl
        | rt d => rfl
        | exc c m2 => rfl
        | stuck => rfl
theorem sWhile_of {t : SemT} {body : SemS} {n : Nat} {m : Sl} {r : RS} (h : whN t body n m = r) (hr : r ≠ .stuck) : sWhile t body m = r := by
  have ex : ∃ n, whN t body n m ≠ .stuck := ⟨n, by rw [h]; exact hr⟩
  unfold sWhile
  rw [dif_pos ex]
  have h1 := Classical.choose_spec ex
  have h2 : whN t body n m ≠ .stuck := by rw [h]; exact hr
  rw [← h]
  rcases Nat.le_total n (Classical.choose ex) with q | q
  · exact whN_mono h2 _ q
  · exact (whN_mono h1 _ q).symm
section
variable {X : Cx} {b : Bs} {W : WX} {e tg : Expr} {body : List Stmt} {h : SemA} {g : SemG} {k : SemS} {t : TG} {vs : List Nat} {pos : Pos} {tst : SemT}
theorem ss_for (hp : PassesOwn (model X.prog X.w) X.A X.env X.xe) (hc : X.calm = true) (hi : SI X b W true tg e h) (hg : PG X tg t) (hn : NGok X.K t g vs) (hb : SSs X b W body k) (hs : ∀ x, foldedSetIterable e X.env x = pure x := by intro _; rfl) :
    SS X b W (.For tg e body [] pos) (sFor h g k) := by
  refine PS.weak (ps_for hp hc hi hg hb hs) fun D' σ H ⟨F, m, R, p⟩ => ?_
  refine ⟨F, m, R, ?_⟩
  unfold sFor at p
  cases hh : h m with
  | stuck => rw [hh] at p; exact p.elim
  | exc c => rw [hh] at p; exact fun F1 H1 G => p σ F1 H1 (R.step G) G.prog
  | ok ds =>
    rw [hh] at p
    simp only [ofR_ok] at p
    refine fun F1 H1 G J wk => ?_
    refine ⟨fun i n σ' H' => n = ds.length - i ∧ i ≤ ds.length ∧ ∃ F' m', Rel X.K b F' m' σ' H' ∧ Prog F1 H1 F' H' ∧ Sst X.K b W F' H' D' (forGo g k (ds.drop i) m'), ⟨_, rfl, Nat.zero_le _, F1, m, R.step G, Prog.refl _ _, by rw [List.drop_zero]; exact Sst.prog G.prog p⟩, ?_⟩
    rintro i n σ' H' ⟨rfl, hi, F', m', R', P', p'⟩
    have l : Ltr true F1 H1 F' H' := ⟨P'.sub, R'.sub, P'.tups, fun z => by cases z⟩
    by_cases hlt : i < ds.length
    · refine .inr ⟨wk.go i F' H' l hlt, fun σ2 H2 => (ds.length - (i + 1) = ds.length - (i + 1) ∧ i + 1 ≤ ds.length ∧ ∃ F2 m2, Rel X.K b F2 m2 σ2 H2 ∧ Prog F1 H1 F2 H2 ∧ Sst X.K b W F2 H2 D' (forGo g k (ds.drop (i + 1)) m2)), fun σ2 H2 z => ⟨_, by omega, z⟩, fun x H2 y => ?_⟩
      obtain ⟨F2, d, G2, e2, r2⟩ := wk.yld i F' H' x H2 l hlt y
      have hd : ds.drop i = d :: ds.drop (i + 1) := by
        obtain ⟨h1, h2⟩ := List.getElem?_eq_some_iff.mp e2
        rw [← h2]
        exact List.drop_eq_getElem_cons h1
      rw [hd] at p'
      simp only [forGo] at p'
      cases hgd : g d m' with
      | stuck => rw [hgd] at p'; exact p'.elim
      | exc c => rw [hgd] at p'; exact p'.elim
      | ok m1 =>
        rw [hgd] at p'
        simp only at p'
        have R2 := R'.step G2
        refine hn b F2 m' σ' H2 d x m1 _ R2 r2 hgd fun σ3 R3 _ => ⟨F2, m1, R3, ?_⟩
        have P2 : Prog F1 H1 F2 H2 := P'.trans G2.prog
        have p2 := Sst.prog G2.prog p'
        cases hk : k m1 with
        | nx m2 => rw [hk] at p2; exact fun σ4 F4 H4 R4 q => ⟨rfl, hlt, F4, m2, R4, P2.trans q, Sst.prog q p2⟩
        | ct m2 => rw [hk] at p2; exact fun σ4 F4 H4 R4 q => ⟨rfl, hlt, F4, m2, R4, P2.trans q, Sst.prog q p2⟩
        | bk m2 => rw [hk] at p2; exact p2
        | rt d => rw [hk] at p2; exact p2
        | exc c m2 => rw [hk] at p2; exact p2
        | stuck => rw [hk] at p2; exact p2.elim
    · have e : i = ds.length := by omega
      subst e
      rw [List.drop_length] at p'
      exact .inl ⟨wk.stop F' H' l, p' σ' F' H' R' (Prog.refl _ _)⟩
theorem ss_while (hp : PassesOwn (model X.prog X.w) X.A X.env X.xe) (hc : ST X b W e tst) (hb : SSs X b W body k) : SS X b W (.While e body [] pos) (sWhile tst k) := by
  refine PS.weak (ps_while hp hc hb) fun D' σ H ⟨F, m, R, p⟩ => ?_
  have ex : ∃ n, whN tst k n m ≠ .stuck := by
    by_cases hx : ∃ n, whN tst k n m ≠ .stuck
    · exact hx
    · unfold sWhile at p
      rw [dif_neg hx] at p
      exact p.elim
  unfold sWhile at p
  rw [dif_pos ex] at p
  refine ⟨fun n σ' H' => ∃ F' m', Rel X.K b F' m' σ' H' ∧ Prog F H F' H' ∧ Sst X.K b W F' H' D' (whN tst k n m'), ⟨_, F, m, R, Prog.refl _ _, p⟩, ?_⟩
  rintro n σ' H' ⟨F', m', R', P', p'⟩
  cases n with
  | zero => exact p'.elim
  | succ n =>
    refine ⟨F', m', R', ?_⟩
    simp only [whN] at p'
    cases ht : tst m' with
    | stuck => rw [ht] at p'; exact p'.elim
    | exc c => rw [ht] at p'; exact fun F2 H2 G2 => p' σ' F2 H2 (R'.step G2) G2.prog
    | ok c =>
      rw [ht] at p'
      simp only [ofR_ok] at p'
      refine fun F2 H2 G2 => ?_
      cases c with
      | false => exact p' σ' F2 H2 (R'.step G2) G2.prog
      | true =>
        refine ⟨fun σ3 H3 => ∃ F3 m3, Rel X.K b F3 m3 σ3 H3 ∧ Prog F H F3 H3 ∧ Sst X.K b W F3 H3 D' (whN tst k n m3), fun σ3 H3 z => ⟨n, Nat.lt_succ_self n, z⟩, F2, m', R'.step G2, ?_⟩
        simp only [if_true] at p'
        have P2 : Prog F H F2 H2 := P'.trans G2.prog
        have p2 := Sst.prog G2.prog p'
        cases hk : k m' with
        | nx m2 => rw [hk] at p2; exact fun σ4 F4 H4 R4 q => ⟨F4, m2, R4, P2.trans q, Sst.prog q p2⟩
        | ct m2 => rw [hk] at p2; exact fun σ4 F4 H4 R4 q => ⟨F4, m2, R4, P2.trans q, Sst.prog q p2⟩
        | bk m2 => rw [hk] at p2; exact p2
        | rt d => rw [hk] at p2; exact p2
        | exc c m2 => rw [hk] at p2; exact p2
        | stuck => rw [hk] at p2; exact p2.elim
end
end CT

namespace CT
open PySem PySem.Spec PyProof.Rows L2
def nox {α : Type} : R α → R α
  | .ok a => .ok a
  | _ => .stuck
def lcGo (g : SemG) (t : SemT) (f : SemE) (m : Sl) : List D → R (List D)
  | [] => .ok []
  | d :: ds => (nox (g d m)).bind fun m1 => (nox (t m1)).bind fun c => if c = true then
      (nox (f m1)).bind fun x => if hasT x = true then .stuck else (lcGo g t f m ds).bind fun r => .ok (x :: r)
    else lcGo g t f m ds
def wipeM : Sl → List Nat → Sl
  | m, [] => m
  | m, v :: vs => (wipeM m vs).set v none
def aLc (h : SemA) (g : SemG) (t : SemT) (f : SemE) (vs : List Nat) : SemA := fun m => (h m).bind fun ds => (lcGo g t f (wipeM m vs) ds).bind fun r => if r.length ≤ sizeLine then .ok r else .stuck
def tYesM : SemT := fun _ => .ok true
abbrev WF : WX := fun _ _ _ _ => False
abbrev STs (X : Cx) (b : Bs) (W : WX) (es : List Expr) (f : SemT) : Prop := PTs X es (tST X.K b W f)
theorem PTs.weak {X : Cx} {e : List Expr} {t t' : TT} (h : PTs X e t) (w : ∀ σ H Q, t' σ H Q → t σ H Q) : PTs X e t' := ⟨fun pins s σ H Q I q => h.run pins s σ H Q I (w _ _ _ q)⟩
theorem sts_nil {X : Cx} {b : Bs} {W : WX} : STs X b W [] tYesM := PTs.weak pts_nil fun σ H Q ⟨F, m, R, p⟩ => p.here R.sub
theorem sts_one {X : Cx} {b : Bs} {W : WX} {e : Expr} {t : SemT} (h : ST X b W e t) : STs X b W [e] t := pts_one h
theorem nox_noexc {α : Type} (r : R α) (c : String) : nox r ≠ .exc c := by cases r <;> intro h <;> cases h
theorem bind_noexc {α β : Type} {r : R α} {k : α → R β} {c : String} (h : ∀ c, r ≠ .exc c) (hk : ∀ a, k a ≠ .exc c) : r.bind k ≠ .exc c := by
  cases r with
  | ok a => exact hk a
  | exc d => exact absurd rfl (h d)
  | stuck => intro z; cases z
theorem lcGo_noexc {g : SemG} {t : SemT} {f : SemE} {m : Sl} : ∀ (ds : List D) (c : String), lcGo g t f m ds ≠ .exc c
  | [], _ => fun h => by cases h
  | d :: ds, c => by
    unfold lcGo
    refine bind_noexc (nox_noexc _) fun m1 => bind_noexc (nox_noexc _) fun q => ?_
    split
    · refine bind_noexc (nox_noexc _) fun x => ?_
      split
      · intro z; cases z
      · exact bind_noexc (lcGo_noexc ds) fun r => fun z => by cases z
    · exact lcGo_noexc ds c
theorem wipe_none {i : Nat} : ∀ {vs : List Nat} {σ : L2.St}, wipe (σ.set i none) vs = (wipe σ vs).set i none
  | [], _ => rfl
  | v :: vs, σ => by
    show (wipe (σ.set i none) vs).set v none = ((wipe σ vs).set v none).set i none
    rw [wipe_none]
    by_cases h : i = v
    · subst h; rfl
    · rw [List.set_comm _ _ h]
theorem wipe_wipe : ∀ (vs : List Nat) (σ : L2.St), wipe (wipe σ vs) vs = wipe σ vs
  | [], _ => rfl
  | v :: vs, σ => by
    show (wipe ((wipe σ vs).set v none) vs).set v none = (wipe σ vs).set v none
    rw [wipe_none, wipe_wipe vs σ, List.set_set]
section
variable {K : PySem.W.Frag} {b : Bs} {F H : Hp} {m : Sl} {σ : L2.St}
theorem Rel.wipe (r : Rel K b F m σ H) : ∀ vs : List Nat, Rel K b F (wipeM m vs) (wipe σ vs) H
  | [] => r
  | v :: vs => (Rel.wipe r vs).drop
theorem lc_ok {wi : TI} {t : TG} {tt : TT} {te : TE} {g : SemG} {tq : SemT} {f : SemE} {h : SemA} {vs : List Nat} {W : WX} {Q : VK} {k : List D → Prop}
    (hn : NGok K t g vs) (hi : ∀ σ H Rw, tSI K b W false h σ H Rw → wi σ H Rw) (ht : ∀ σ H Q, tST K b WF tq σ H Q → tt σ H Q) (he : ∀ σ H Q, tSE K b WF f σ H Q → te σ H Q)
    (r : Rel K b F m σ H) (p : Pst b W σ F H (CO K b H Q) (aLc h g tq f vs m)) : tLc wi t tt te vs σ H Q := by
  refine hi _ _ _ ⟨F, m, r, ?_⟩
  unfold aLc at p
  cases hh : h m with
  | stuck => rw [hh] at p; exact p.elim
  | exc c => rw [hh] at p; exact p
  | ok ds =>
    rw [hh] at p
    simp only [CT.R.bind_ok] at p
    refine fun F1 H1 G J wk D hD => ?_
    cases hl : lcGo g tq f (wipeM m vs) ds with
    | stuck => rw [hl] at p; exact p.elim
    | exc c => exact absurd hl (lcGo_noexc ds c)
    | ok res =>
      rw [hl] at p
      simp only [CT.R.bind_ok] at p
      split at p
      rotate_left
      · exact p.elim
      rename_i hsz
      have r1 := r.step G
      have r1w := r1.wipe vs
      have d0 : b.H0 D = none := r1.grow.same.free hD
      have f1 : F1 D = none := r1.sub.free hD
      refine ⟨fun i n H' => n = ds.length - i ∧ i ≤ ds.length ∧ ∃ F' acc vacc rest, Grow F1 H1 F' H' ∧ F' D = none ∧ H' D = some (.lst vacc) ∧ RpL K F' b.H0 H' acc vacc ∧ hasTL acc = false ∧ lcGo g tq f (wipeM m vs) (ds.drop i) = .ok rest ∧ acc ++ rest = res,
        ⟨_, rfl, Nat.zero_le _, F1, [], [], res, Grow.loose r1.sub hD, f1, upd_same, .nil, rfl, by rw [List.drop_zero]; exact hl, rfl⟩, ?_⟩
      rintro i n H' ⟨rfl, hi', F', acc, vacc, rest, G', e1, e2, e3, e4, e5, e6⟩
      have l : Ltr false F1 H1 F' H' := ⟨G'.sub, G'.subH, fun c o z _ => G'.same c o z, fun _ => G'.same⟩
      by_cases hlt : i < ds.length
      · refine .inr ⟨wk.go i F' H' l hlt, fun H2 => (i + 1 ≤ ds.length ∧ ∃ F' acc vacc rest, Grow F1 H1 F' H2 ∧ F' D = none ∧ H2 D = some (.lst vacc) ∧ RpL K F' b.H0 H2 acc vacc ∧ hasTL acc = false ∧ lcGo g tq f (wipeM m vs) (ds.drop (i + 1)) = .ok rest ∧ acc ++ rest = res),
          fun H2 z => ⟨ds.length - (i + 1), by omega, rfl, z⟩, fun x H2 y => ?_⟩
        obtain ⟨F2, d, G2, k2, r2⟩ := wk.yld i F' H' x H2 l hlt y
        have hd : ds.drop i = d :: ds.drop (i + 1) := by
          obtain ⟨h1, h2⟩ := List.getElem?_eq_some_iff.mp k2
          rw [← h2]
          exact List.drop_eq_getElem_cons h1
        rw [hd] at e5
        simp only [lcGo] at e5
        cases h1 : nox (g d (wipeM m vs)) with
        | stuck => rw [h1] at e5; cases e5
        | exc c' => cases hg : g d (wipeM m vs) <;> rw [hg] at h1 <;> cases h1
        | ok m1 =>
          rw [h1] at e5
          simp only [CT.R.bind_ok] at e5
          have hg : g d (wipeM m vs) = .ok m1 := by cases hg : g d (wipeM m vs) <;> rw [hg] at h1 <;> first | exact h1 | cases h1
          have G12 := G'.trans G2
          have R2 := r1w.step G12
          refine hn b F2 _ _ H2 d x m1 _ R2 r2 hg fun σ3 R3 w3 => ⟨w3.trans (wipe_wipe vs σ), ?_⟩
          refine ht _ _ _ ⟨F2, m1, R3, ?_⟩
          cases h2 : nox (tq m1) with
          | stuck => rw [h2] at e5; cases e5
          | exc c' => cases hg : tq m1 <;> rw [hg] at h2 <;> cases h2
          | ok c' =>
            have ht' : tq m1 = .ok c' := by cases hg : tq m1 <;> rw [hg] at h2 <;> first | exact h2 | cases h2
            rw [ht']
            rw [h2] at e5
            simp only [CT.R.bind_ok] at e5
            refine fun F3 H3 G3 => ?_
            have G13 := G12.trans G3
            have fD3 : F3 D = none := by
              cases q : F3 D with
              | none => rfl
              | some o =>
                rcases G2.trans G3 |>.new D o q with z | z
                · rw [e1] at z; cases z
                · rw [e2] at z; cases z
            have hD3 : H3 D = some (.lst vacc) := (G2.trans G3).same _ _ e2
            cases c' with
            | false =>
              simp only [Bool.false_eq_true, if_false] at e5 ⊢
              exact ⟨hlt, F3, acc, vacc, rest, G13, fD3, hD3, (e3.grow G2).grow G3, e4, e5, e6⟩
            | true =>
              simp only [if_true] at e5 ⊢
              refine he _ _ _ ⟨F3, m1, R3.step G3, ?_⟩
              cases h3 : nox (f m1) with
              | stuck => rw [h3] at e5; cases e5
              | exc c' => cases hg : f m1 <;> rw [hg] at h3 <;> cases h3
              | ok z =>
                have hf' : f m1 = .ok z := by cases hg : f m1 <;> rw [hg] at h3 <;> first | exact h3 | cases h3
                rw [hf']
                rw [h3] at e5
                simp only [CT.R.bind_ok] at e5
                split at e5
                · cases e5
                rename_i hz
                have hz : hasT z = false := by simpa using hz
                refine fun F4 H4 G4 v4 r4 => ?_
                have G14 := G13.trans G4
                have hD4 : H4 D = some (.lst vacc) := G4.same _ _ hD3
                have fD4 : F4 D = none := by
                  cases q : F4 D with
                  | none => rfl
                  | some o =>
                    rcases G4.new D o q with z | z
                    · rw [fD3] at z; cases z
                    · rw [hD3] at z; cases z
                cases h4 : lcGo g tq f (wipeM m vs) (ds.drop (i + 1)) with
                | stuck => rw [h4] at e5; cases e5
                | exc c' => rw [h4] at e5; cases e5
                | ok rest' =>
                  rw [h4] at e5
                  simp only [CT.R.bind_ok] at e5
                  cases e5
                  have keep : ∀ c o, H4 c = some o → NoL o → (upd H4 D (.lst (vacc ++ [v4]))) c = some o := fun c o hc ho => by
                    rw [upd_ne (fun q => by subst q; rw [hD4] at hc; cases hc; exact False.elim ho)]; exact hc
                  have hlen := e3.length
                  have hres : acc.length < sizeLine := by
                    rw [← e6, List.length_append, List.length_cons] at hsz
                    omega
                  refine ⟨vacc, hD4, by rw [← hlen]; exact hres, hlt, F4, acc ++ [z], vacc ++ [v4], rest', ⟨fun c o hc => ?_, G14.sub, fun c o hc => ?_, G14.new⟩, fD4, upd_same, ?_, ?_, rfl, ?_⟩
                  · rw [upd_ne (fun q => by subst q; rw [hD] at hc; cases hc)]; exact G14.same _ _ hc
                  · rw [upd_ne (fun q => by subst q; rw [fD4] at hc; cases hc)]; exact G14.subH _ _ hc
                  · exact (RpL.keep keep acc vacc e4 (((e3.grow G2).grow G3).grow G4)).app (.cons (Rp.keep keep z v4 hz r4) .nil)
                  · rw [hasTL_append, e4, hasTL, hz]; rfl
                  · rw [← e6, List.append_assoc]; rfl
      · have e : i = ds.length := by omega
        subst e
        rw [List.drop_length] at e5
        cases e5
        rw [List.append_nil] at e6
        subst e6
        exact .inl ⟨wk.stop F' H' l, p F' H' (G.trans G') D vacc (G.same.free hD) e1 e2 e3⟩
end
section
variable {X : Cx} {b : Bs} {W : WX} {elt tg iter : Expr} {ifs : List Expr} {scope : Scope} {own : List (Str × Nat)} {pos spos : Pos} {t : TG} {g : SemG} {tq : SemT} {f : SemE} {h : SemA} {vs : List Nat}
theorem so_lc (hc : X.calm = true) (hN : X.N.Nodup) (hi : SI X b W false tg iter h) (ok : BlkOk X.N X.env.scope scope own) (hn : NGok X.K t g vs)
    (hg : ∀ (s : Shared) (H : Hp) (C : Addr) (cl : List (Str × Addr)) (fp : List Addr), PG (X.blk s H scope (compEnvC scope cl C X.env) fp) tg t) (ht : ∀ (s : Shared) (H : Hp) (C : Addr) (cl : List (Str × Addr)) (fp : List Addr), STs (X.blk s H scope (compEnvC scope cl C X.env) fp) b WF ifs tq)
    (he : ∀ (s : Shared) (H : Hp) (C : Addr) (cl : List (Str × Addr)) (fp : List Addr), SE (X.blk s H scope (compEnvC scope cl C X.env) fp) b WF elt f) (hs : ∀ x, foldedSetIterable iter X.env x = pure x := by intro _; rfl) (hv : own.map (·.2) = vs := by rfl) :
    SO X b W (.ListComp elt [⟨tg, iter, ifs, 0⟩] scope pos) (aLc h g tq f vs) :=
  by subst hv; exact PE.weak (pe_lc hc hN hi ok hg ht he hs) fun σ H Q ⟨F, m, R, p⟩ => lc_ok hn (fun _ _ _ z => z) (fun _ _ _ z => z) (fun _ _ _ z => z) (k := fun _ => True) R p
variable {i : Nat} {y : Str} {py : Pos}
theorem ss_setLcO (hc : X.calm = true) (hN : X.N.Nodup) (hy : X.N[i]? = some y) (hyl : X.env.scope.names.lookup y = some .local) (hsw : swapsWith (.ListComp elt [⟨tg, iter, ifs, 0⟩] scope pos) (some (.Name y py)) spos.line X.env = pure true)
    (hi : SI X b W false tg iter h) (ok : BlkOk X.N X.env.scope scope own) (hn : NGok X.K t g vs)
    (hg : ∀ (s : Shared) (H : Hp) (C : Addr) (cl : List (Str × Addr)) (fp : List Addr), PG (X.blk s H scope (compEnvC scope cl C X.env) fp) tg t) (ht : ∀ (s : Shared) (H : Hp) (C : Addr) (cl : List (Str × Addr)) (fp : List Addr), STs (X.blk s H scope (compEnvC scope cl C X.env) fp) b WF ifs tq)
    (he : ∀ (s : Shared) (H : Hp) (C : Addr) (cl : List (Str × Addr)) (fp : List Addr), SE (X.blk s H scope (compEnvC scope cl C X.env) fp) b WF elt f) (hs : ∀ x, foldedSetIterable iter X.env x = pure x := by intro _; rfl) (hv : own.map (·.2) = vs := by rfl) :
    SS X b W (.Assign [.Name y py] (.ListComp elt [⟨tg, iter, ifs, 0⟩] scope pos) spos) (sSetO i (aLc h g tq f vs)) :=
  by
  subst hv
  refine PS.weak (ps_setLc (tt := tST X.K b WF tq) (te := tSE X.K b WF f) hc hN hy hyl hsw hi ok hg ht he hs) fun D' σ H ⟨F, m, R, p⟩ => ?_
  · 
    refine lc_ok (Q := fun x H1 => gName i x σ H1 D'.nx) (h := h) (g := g) (tq := tq) (f := f) hn (fun _ _ _ z => z) (fun _ _ _ z => z) (fun _ _ _ z => z) (k := fun _ => True) R ?_
    unfold sSetO at p
    cases hk : aLc h g tq f (own.map (·.2)) m with
    | stuck => rw [hk] at p; exact p.elim
    | exc c => rw [hk] at p; exact fun F1 H1 G => p σ F1 H1 (R.step G) G.prog
    | ok ds =>
      rw [hk] at p
      simp only [ofR_ok] at p
      split at p
      · exact p.elim
      · rename_i ht
        exact fun F1 H1 G a xs h0 h1 h2 hv => p _ F1 H1 (R.own G h0 h2 h1 hv (by simpa using ht)) G.prog
theorem ss_setLc (hc : X.calm = true) (hN : X.N.Nodup) (hy : X.N[i]? = some y) (hyl : X.env.scope.names.lookup y = some .local) (hsw : swapsWith (.ListComp elt [⟨tg, iter, ifs, 0⟩] scope pos) (some (.Name y py)) spos.line X.env = pure true)
    (hi : SI X b W false tg iter h) (ok : BlkOk X.N X.env.scope scope own) (hn : NGok X.K t g vs)
    (hg : ∀ (s : Shared) (H : Hp) (C : Addr) (cl : List (Str × Addr)) (fp : List Addr), PG (X.blk s H scope (compEnvC scope cl C X.env) fp) tg t) (ht : ∀ (s : Shared) (H : Hp) (C : Addr) (cl : List (Str × Addr)) (fp : List Addr), STs (X.blk s H scope (compEnvC scope cl C X.env) fp) b WF ifs tq)
    (he : ∀ (s : Shared) (H : Hp) (C : Addr) (cl : List (Str × Addr)) (fp : List Addr), SE (X.blk s H scope (compEnvC scope cl C X.env) fp) b WF elt f) (hs : ∀ x, foldedSetIterable iter X.env x = pure x := by intro _; rfl) (hv : own.map (·.2) = vs := by rfl) :
    SS X b W (.Assign [.Name y py] (.ListComp elt [⟨tg, iter, ifs, 0⟩] scope pos) spos) (sSet i (eOwn (aLc h g tq f vs))) :=
  PS.weak (ss_setLcO hc hN hy hyl hsw hi ok hn hg ht he hs hv) fun D' σ H ⟨F, m, R, p⟩ => by
    refine ⟨F, m, R, ?_⟩
    unfold sSet eOwn at p
    unfold sSetO
    cases hk : aLc h g tq f vs m with
    | stuck => rw [hk] at p; exact p
    | exc c => rw [hk] at p; exact p
    | ok ds =>
      rw [hk] at p
      simp only [CT.R.bind_ok, ofR_ok, putR, hasT, Bool.false_or] at p ⊢
      split at p
      · exact p.elim
      · rename_i ht
        rw [if_neg ht]
        simp only [ofR_ok] at p
        intro σ' F' H' R' P'
        by_cases hil : i < m.length
        · obtain ⟨F2, s2, R2⟩ := R'.freeze' (i := i) (ds := ds) (by rw [List.getElem?_set_self hil])
          rw [List.set_set] at R2
          exact p σ' F2 H' R2 ⟨P'.sub.trans s2, P'.tups⟩
        · have e : ∀ z, m.set i z = m := fun z => List.set_eq_of_length_le (by omega)
          rw [e] at R' p
          exact p σ' F' H' R' P'
end
end CT

namespace CT
open PySem PySem.Spec PyProof.Rows L2
def mine (i : Nat) (m : Sl) (k : List D → RS) : RS := match m[i]? with
  | some (some (.lst true xs)) => k xs
  | _ => .stuck
def sApp (i : Nat) (f : SemE) : SemS := fun m => mine i m fun xs => ofR m (f m) fun d => if hasT d = true then .stuck else if xs.length < sizeLine then .nx (m.set i (some (.lst true (xs ++ [d])))) else .stuck
theorem mine_sst {K : PySem.W.Frag} {b : Bs} {W : WX} {F H : Hp} {D' : Ends} {i : Nat} {m : Sl} {σ : L2.St} {k : List D → RS} (R : Rel K b F m σ H) (p : Sst K b W F H D' (mine i m k)) :
    ∃ xs a vs, m[i]? = some (some (.lst true xs)) ∧ σ[i]? = some (some (.ref a)) ∧ H a = some (.lst vs) ∧ RpL K F b.H0 H xs vs ∧ Sst K b W F H D' (k xs) := by
  unfold mine at p
  split at p
  · rename_i xs h
    obtain ⟨a, vs, as, h1, k1, _, _, k4, _⟩ := R.mineW h
    exact ⟨xs, a, vs, h, h1, k1, OwL.rp _ _ _ k4, p⟩
  · exact p.elim
theorem chg_prog {F H : Hp} {a : Addr} {xs ys : List V} (h : H a = some (.lst xs)) : Prog F H F (upd H a (.lst ys)) :=
  ⟨Same.refl _, fun c o hc ho => by rw [upd_ne (fun z => by subst z; rw [h] at hc; cases hc; exact False.elim ho)]; exact hc⟩
section
variable {X : Cx} {b : Bs} {W : WX} {e : Expr} {f : SemE} {i : Nat} {x : Str} {px apos cpos pos : Pos} {o : Expr}
theorem ss_app (ho : PE X o (tVar i)) (hf : SE X b W e f)
    (hbase : attributeBase o "append" X.env (eval o X.env) = eval o X.env := by rfl)
    (hfew : ((backTo cpos (starEach [e] X.env)).all (fun x => !x.1) && (backToKw cpos (keywordEach [] X.env)).all (fun x => x.1.isSome)
      && decide ([e].length + ([] : List Keyword).length + (if ([] : List Keyword).isEmpty then 0 else 1) < 30)) = true := by rfl)
    (hline : (apos.endLine == cpos.line) = true := by rfl) (hs : starEach [e] X.env = (false, eval e X.env) :: starEach [] X.env := by rfl) (hplain : (backTo cpos (starEach [] X.env)).any (·.1) = false := by rfl)
    (hsw : swapsWith (.Call (.Attribute o "append" apos) [e] [] cpos) none pos.line X.env = pure false := by rfl) : SS X b W (.Expr (.Call (.Attribute o "append" apos) [e] [] cpos) pos) (sApp i f) := by
  refine PS.weak (ps_expr (pe_bm PySem.F.plainAttrs_list PySem.F.slot_list_append PySem.F.type_list_append mt_append ho (pa_cons hf pa_nil hs) hbase hfew hline hs hplain) hsw) fun D' σ H ⟨F, m, R, p⟩ => ?_
  obtain ⟨xs, a, vs, h1, h2, h3, h4, p⟩ := mine_sst R p
  refine ⟨.ref a, h2, .inl ⟨rfl, vs, .inl (.inl h3)⟩, seqS R p fun d F1 H1 v R1 G hv q => ?_⟩
  split at q
  · exact q.elim
  rename_i hd
  split at q
  · rename_i hz
    have h3 := G.same _ _ h3
    have h4 := h4.grow G
    refine ⟨a, vs, v, rfl, rfl, h3, by rw [← h4.length]; exact hz, q σ F1 _ (R1.chgApp h1 h2 h3 (.cons hv .nil) ?_) (chg_prog h3)⟩
    simp only [Bool.not_eq_true] at hd
    rw [hasTL, hd]; rfl
  · exact q.elim
def TGok (X : Cx) (b : Bs) (t : TG) (g : SemG) : Prop := ∀ (F : Hp) (m : Sl) (σ : L2.St) (H : Hp) (d : D) (v : V) (m' : Sl) (Q : L2.St → Hp → Prop), Rel X.K b F m σ H → hasT d = false → Rp X.K F b.H0 H d v → g d m = .ok m' →
  (∀ σ' F' H', Rel X.K b F' m' σ' H' → Prog F H F' H' → Q σ' H') → t v σ H Q
def TGsOk (X : Cx) (b : Bs) (t : TGs) (g : SemGs) : Prop := ∀ (F : Hp) (m : Sl) (σ : L2.St) (H : Hp) (ds : List D) (us : List V) (m' : Sl) (Q : L2.St → Hp → Prop), Rel X.K b F m σ H → hasTL ds = false → RpL X.K F b.H0 H ds us → g ds m = .ok m' →
  (∀ σ' F' H', Rel X.K b F' m' σ' H' → Prog F H F' H' → Q σ' H') → t us σ H Q
theorem tg_name : TGok X b (gName i) (putR i) := fun F m σ H d v m' Q R n hv e q => by
  unfold putR at e
  split at e
  · cases e
  · cases e
    exact q _ F H (R.put n hv) (Prog.refl _ _)
theorem tgs_nil : TGsOk X b gNil gsNil := fun F m σ H ds us m' Q R n hv e q => by
  cases ds with
  | nil => cases hv; cases e; exact ⟨rfl, q σ F H R (Prog.refl _ _)⟩
  | cons _ _ => cases e
theorem tgs_cons {t : TG} {ts : TGs} {g : SemG} {h : SemGs} (h1 : TGok X b t g) (h2 : TGsOk X b ts h) : TGsOk X b (gCons t ts) (gsCons g h) := fun F m σ H ds us m' Q R n hv e q => by
  cases ds with
  | nil => cases e
  | cons d r =>
    simp only [hasTL, Bool.or_eq_false_iff] at n
    cases hv with
    | cons a c =>
      simp only [gsCons] at e
      cases hg : g d m with
      | stuck => rw [hg] at e; cases e
      | exc c => rw [hg] at e; cases e
      | ok m1 =>
        rw [hg] at e
        simp only [CT.R.bind_ok] at e
        exact ⟨_, _, rfl, h1 F m σ H d _ m1 _ R n.1 a hg fun σ1 F1 H1 R1 P1 => h2 F1 m1 σ1 H1 r _ m' _ R1 n.2 ((RpL.keep P1.tups r _ n.2 c).mono P1.sub (Same.refl _)) e fun σ2 F2 H2 R2 P2 => q σ2 F2 H2 R2 (P1.trans P2)⟩
theorem tg_tup {ts : TGs} {h : SemGs} {n : Nat} (h2 : TGsOk X b ts h) : TGok X b (gTup X.K n ts) (gTupR n h) := fun F m σ H d v m' Q R nt hv e q => by
  cases d <;> first | (cases e; done) | skip
  rename_i ds
  simp only [gTupR] at e
  split at e
  · rename_i hl
    obtain ⟨a, xs, rfl, k1, k2⟩ := hv.tuple
    exact ⟨a, xs, rfl, k1, by rw [← k2.length]; exact hl, h2 F m σ H ds xs m' Q R nt k2 e q⟩
  · cases e
def subR (i : Nat) (f : SemE) : SemG := fun d m => if hasT d = true then .stuck else match m[i]? with
  | some (some (.lst true xs)) => match f m with
    | .ok (.int k) => match ixN xs.length k with
      | some j => .ok (m.set i (some (.lst true (xs.set j d))))
      | none => .stuck
    | _ => .stuck
  | _ => .stuck
theorem tg_sub {W : WX} : TGok X b (gSub (tVar i) (tSE X.K b W f) rSetL) (subR i f) := fun F m σ H d v m' Q R n hv e q => by
  unfold subR at e
  split at e
  · cases e
  split at e
  · rename_i xs hx
    split at e
    · rename_i k hf
      split at e
      · rename_i j hj
        cases e
        obtain ⟨a, vs, as, h1, k1, k2, k3, k4, k5⟩ := R.mineW hx
        refine ⟨.ref a, h1, F, m, R, ?_⟩
        rw [hf]
        refine fun F1 H1 G u hu => ?_
        cases hu
        exact ⟨a, vs, k, j, rfl, rfl, G.same _ _ k1, by rw [← k4.length]; exact hj, q σ F1 _ ((R.step G).chgL hx h1 (G.same _ _ k1) fun as w => OwL.sub1 n (hv.grow G) j w) (G.prog.trans (chg_prog (G.same _ _ k1)))⟩
      · cases e
    · cases e
  · cases e
def sAsg (f : SemE) (g : SemG) : SemS := fun m => ofR m (f m) fun d => if hasT d = true then .stuck else match g d m with
  | .ok m' => .nx m'
  | _ => .stuck
theorem ss_asg {tg : Expr} {t : TG} {g : SemG} (hf : SE X b W e f) (hg : PG X tg t) (hn : TGok X b t g) (hs : swapsWithSole [tg] e pos.line X.env = pure false := by rfl) (hw : swappedStores [tg] e X.env = pure none := by rfl)
    (h1 : (assignEach [tg] X.env).map (·.2) = [assign tg X.env] := by rfl) : SS X b W (.Assign [tg] e pos) (sAsg f g) :=
  PS.weak (ps_asg hf hg hs hw h1) fun D' σ H ⟨F, m, R, p⟩ => seqS R p fun d F1 H1 v R1 G hv q => by
    split at q
    · exact q.elim
    · rename_i hd
      split at q
      · rename_i m' hg
        exact hn F1 m σ H1 d v m' _ R1 (by simpa using hd) hv hg fun σ' F' H' R' P' => q σ' F' H' R' P'
      · exact q.elim
def sAug (i : Nat) (op : D → D → R D) (f : SemE) : SemS := fun m => match m[i]? with
  | some (some z) => ofR m (f m) fun d => ofR m (op z d) fun r => if (hasT z || hasT r) = true then .stuck else .nx (m.set i (some r))
  | _ => .stuck
def augD : D → D → R D
  | .int i, .int j => .ok (.int (i + j))
  | .str x, .str y => if x.length + y.length ≤ sizeLine then .ok (.str (x ++ y)) else .stuck
  | _, _ => .stuck
theorem ss_aug (hN : X.N.Nodup) (hi : X.N[i]? = some x) (hx : Loc X.env.scope x) (hf : SE X b W e f) (hfn : X.fn x = true ∨ X.env.scope.names.lookup x = some .local := by first | exact .inl rfl | exact .inr rfl) : SS X b W (.AugAssign (.Name x px) .Add e pos) (sAug i augD f) :=
  PS.weak (ps_aug hN hi hx hf ((iop_add (X := X)).or (iop_add_str (X := X))) hfn) fun D' σ H ⟨F, m, R, p⟩ => by
    unfold sAug at p
    split at p
    · rename_i z hz
      obtain ⟨v, h1, h2⟩ := R.slot i _ hz
      refine ⟨v, h1, seqS R p fun d F1 H1 u R1 G hu q => ?_⟩
      have h2 := h2.rp.grow G
      cases z <;> first | exact q.elim | skip
      · cases d <;> first | exact q.elim | skip
        cases h2; cases hu
        simp only [augD, ofR_ok, hasT, Bool.or_self, Bool.false_eq_true, if_false] at q
        exact .inl ⟨_, _, rfl, rfl, q _ F1 H1 (R1.put rfl (.int _)) (Prog.refl _ _)⟩
      · cases d <;> first | exact q.elim | skip
        cases h2; cases hu
        simp only [augD] at q
        split at q
        · rename_i hl
          simp only [ofR_ok, hasT, Bool.or_self, Bool.false_eq_true, if_false] at q
          exact .inr ⟨_, _, rfl, rfl, hl, q _ F1 H1 (R1.put rfl (.str _)) (Prog.refl _ _)⟩
        · exact q.elim
    · exact p.elim
end
def bodyF (n : Nat) (g : SemS) : List D → R D := fun ds => if ds.length = n then (match g (ds.map some) with
  | .nx _ => .ok .non
  | .rt d => .ok d
  | .exc c _ => .exc c
  | _ => .stuck) else .stuck
def startM (n : Nat) (g : SemS) : SemS := fun m => g (m ++ List.replicate (n - m.length) none)
def defF (n k : Nat) (g : SemS) : List D → R D := bodyF n (startM k g)
section
variable {P : Program} {w : World} {K : PySem.W.Frag} {mg : Str → Option Value} {base : Heap}
theorem def_fn {x : Str} {st : Stmt} {f : Addr} {fd : FuncData} {N ps : List Str} {k : Nat} {ex : String → Value} {g : SemS} (F : Fun K x x st f fd) (S : FnScope N ps (defScope st))
    (hbody : ∀ (cdv : Value) (A : Around) (outer : List Env) (s : Shared) (H : Hp) (E : XK) (F0 : Hp), Room k (A.deeper (envOfC x (defScope st) s.heap.objs.size f cdv)) → (A.deeper (envOfC x (defScope st) s.heap.objs.size f cdv)).guards = some [] →
      SSs (cxOf (L2.CX P w) P w K mg base N x (defScope st) f cdv A outer s H E) ⟨ex, F0, H⟩ (fun c d _ H' => E c d H') (defBody st) g) :
    FnG P w K mg base (k + 1) f fd ps (spF K ex ps.length (defF ps.length N.length g)) := by
  refine Fun.okG F S (fun vs H Q E h => ?_) (fun cdv A outer s H vs Q E hr hgd h => ?_)
  · obtain ⟨F0, ds, _, r, _, hl, _⟩ := h
    rw [← r.length, hl]
  · obtain ⟨F0, ds, s0, r, ht, hn, q⟩ := h
    refine ⟨_, hbody cdv A outer s H E F0 hr hgd, ?_⟩
    have hlv := r.length
    refine ⟨F0, ds.map some ++ List.replicate (N.length - (ds.map some).length) none, ⟨?_, Grow.refl s0, fun i d e => ?_, fun i j x y v w a e1 e2 e3 e4 o1 o2 => ?_⟩, ?_⟩
    · unfold L2.start
      simp [hlv]
    · have e' : ds[i]? = some d := by
        by_cases hi : i < ds.length
        · rw [List.getElem?_append_left (by simpa using hi)] at e
          simpa using e
        · rw [List.getElem?_append_right (by simpa using hi)] at e
          rw [List.getElem?_replicate] at e
          split at e <;> cases e
      obtain ⟨v, h1, h2⟩ := r.get e'
      refine ⟨v, ?_, .inr (.inl ⟨hasTL_get ht e', h2⟩)⟩
      unfold L2.start
      obtain ⟨h3, _⟩ := List.getElem?_eq_some_iff.mp h1
      rw [List.getElem?_append_left (by simpa using h3), List.getElem?_map, h1]
      rfl
    · exfalso
      have e' : ds[i]? = some x := by
        by_cases hi : i < ds.length
        · rw [List.getElem?_append_left (by simpa using hi)] at e1
          simpa using e1
        · rw [List.getElem?_append_right (by simpa using hi)] at e1
          rw [List.getElem?_replicate] at e1
          split at e1 <;> cases e1
      exact o1.of (hasTL_get ht e')
    · have hn' : (ds.map some).length = ds.length := by simp
      unfold defF bodyF startM at q
      rw [if_pos hn] at q
      cases hg : g (ds.map some ++ List.replicate (N.length - (ds.map some).length) none) with
      | nx m => 
        rw [hg] at q
        exact fun σ' F' H' R' _ => q F' H' .non R'.grow (.inr (.inl ⟨rfl, .non⟩))
      | rt d =>
        rw [hg] at q
        exact fun F' H' v G so => q F' H' v G so
      | exc c m =>
        rw [hg] at q
        exact fun σ' F' H' R' _ => q F' H' R'.grow
      | bk m => rw [hg] at q; exact q.elim
      | ct m => rw [hg] at q; exact q.elim
      | stuck => rw [hg] at q; exact q.elim
end
end CT
namespace CT
open PySem PySem.Spec PyProof.Rows L2
def exOf (mg : Str → Option Value) : String → Value := fun c => (mg (Str.ofString c)).getD .none
def spLaw (K : PySem.W.Frag) : Sp := fun vs H Q _ => ∃ (a : Addr) (ns : List Int), vs = [.ref a] ∧ SqL K H a (ns.map V.int) ∧ ns.length ≤ 63 ∧ ∀ H', Q (.bl true) H'
theorem ints_rp {K : PySem.W.Frag} {F H0 H : Hp} : ∀ ns : List Int, RpL K F H0 H (ns.map D.int) (ns.map V.int)
  | [] => .nil
  | n :: ns => .cons (.int n) (ints_rp ns)
theorem ints_noT : ∀ ns : List Int, hasTL (ns.map D.int) = false
  | [] => rfl
  | n :: ns => by rw [List.map_cons, hasTL, ints_noT ns]; rfl
theorem law_sp {K : PySem.W.Frag} {ex : String → Value} {f : List D → R D} (h : ∀ ns : List Int, ns.length ≤ 63 → f [.fr (ns.map D.int)] = .ok (.bl true)) (vs : List V) (H : Hp) (Q : VK) (E : XK) (q : spLaw K vs H Q E) : spF K ex 1 f vs H Q E := by
  obtain ⟨a, ns, rfl, hS, hl, q⟩ := q
  refine ⟨H, [.fr (ns.map D.int)], Same.refl _, .cons (.fr hS (ints_rp ns)) .nil, by simp [hasTL, hasT, ints_noT], rfl, ?_⟩
  rw [h ns hl]
  intro F' H' v _ so
  cases so.rp
  exact q H'
theorem cx_no {P : Program} {w : World} {H : Hp} {s : Shared} {e : Value} {s' : Shared} (h : L2.CX P w [] H s (fun _ _ _ => False) e s') : False := by
  obtain ⟨_, _, _, _, _, _, _, _, _, _, _, _, z⟩ := h
  exact z
end CT

namespace CT
open PySem PySem.Spec PyProof.Rows L2
inductive Zk where
  | L (a : Addr) | T (a : Addr) | S (z : Str) (t : Tok)
def Zk.at (K : PySem.W.Frag) (H : Hp) (xs : List V) : Zk → Prop
  | .L a => SqL K H a xs
  | .T a => SqT K H a xs
  | .S z _ => xs = z.cps.toList.map fun c => V.str ⟨#[c]⟩
def Zk.addr : Zk → List Addr
  | .L a => [a]
  | .T a => [a]
  | .S _ _ => []
def Zk.it (it : Addr) (i : Nat) (h : Heap) : Zk → Prop
  | .L a => h.IsListIter it a i
  | .T a => h.IsTupleIter it a i
  | .S z t => h.IsStrIter it (strIterType z) z t i
def Zk.val : Zk → Value
  | .L a => .ref a
  | .T a => .ref a
  | .S z t => .str z t
def Zk.obj : Zk → Obj
  | .L a => { cls := .type "list_iterator", data := .fields #[.ref a, .int 0 0] }
  | .T a => { cls := .type "tuple_iterator", data := .fields #[.ref a, .int 0 0] }
  | .S z t => { cls := .type (strIterType z), data := .fields #[.str z t, .int 0 0] }
theorem Zk.it_at {k : Zk} {it : Addr} {i : Nat} {h h' : Heap} (x : k.it it i h) (e : ∀ o, h.get? it = some o → h'.get? it = some o) : k.it it i h' := by
  cases k with
  | L a => exact Heap.IsListIter.at x e
  | T a => exact Heap.IsTupleIter.at x e
  | S z t => obtain ⟨o, h1, h2⟩ := x; exact ⟨o, e o h1, h2⟩
theorem Zk.it_live {k : Zk} {it : Addr} {i : Nat} {h : Heap} (x : k.it it i h) : ∃ o, h.get? it = some o ∧ ∀ v, o.data ≠ .cell v := by
  cases k with
  | L a => obtain ⟨o, h1, _, h3⟩ := x; exact ⟨o, h1, fun v q => by rw [h3] at q; cases q⟩
  | T a => obtain ⟨o, h1, _, h3⟩ := x; exact ⟨o, h1, fun v q => by rw [h3] at q; cases q⟩
  | S z t => obtain ⟨o, h1, _, h3⟩ := x; exact ⟨o, h1, fun v q => by rw [h3] at q; cases q⟩
section
variable {X : Cx} {pins : List (Addr × Obj)} {σ : L2.St} {H : Hp} {s : Shared} {k : Zk} {xs : List V}
theorem Zk.draw {prog : Program} {w : World} {A : Around} (I : Inv X pins σ H s) (hk : k.at X.K H xs) (hh : A.handled = none) {it : Addr} (ha : ∀ a ∈ k.addr, a ≠ it) :
    ∃ P St, Draws prog w A it (it :: k.addr) xs.length P St ∧ (∀ i, k.it it i s.heap → St i s.heap) ∧ (∀ i h, St i h → k.it it i h) ∧ ∀ i v, P i v → ∃ y, xs[i]? = some y ∧ RelV y v := by
  cases k with
  | L a =>
    obtain ⟨its, rv, p, _⟩ := I.list hk
    refine ⟨fun i v => its.toArray[i]? = some v, fun i h => h.IsListIter it a i ∧ h.IsList a its.toArray, (by have := Draws.list (prog := prog) (w := w) hh it a (ha a (by simp [Zk.addr])) its.toArray; rwa [show its.toArray.size = xs.length by simp [rv.length]] at this), fun i q => ⟨q, p.isList⟩, fun i h q => q.1, fun i v q => ?_⟩
    have q : its[i]? = some v := by simpa using q
    have hl := rv.length
    obtain ⟨hi, _⟩ := List.getElem?_eq_some_iff.mp q
    obtain ⟨u, hu, ru⟩ := rv.get (i := i) (x := xs[i]'(by omega)) (by simp)
    rw [q] at hu; cases hu
    exact ⟨xs[i]'(by omega), by simp, ru⟩
  | T a =>
    obtain ⟨its, rv, p, _⟩ := I.tuple hk
    refine ⟨fun i v => its.toArray[i]? = some v, fun i h => h.IsTupleIter it a i ∧ h.IsTuple a its.toArray, (by have := Draws.tuple (prog := prog) (w := w) hh it a (ha a (by simp [Zk.addr])) its.toArray; rwa [show its.toArray.size = xs.length by simp [rv.length]] at this), fun i q => ⟨q, show s.heap.IsTuple a its.toArray from p⟩, fun i h q => q.1, fun i v q => ?_⟩
    have q : its[i]? = some v := by simpa using q
    have hl := rv.length
    obtain ⟨hi, _⟩ := List.getElem?_eq_some_iff.mp q
    obtain ⟨u, hu, ru⟩ := rv.get (i := i) (x := xs[i]'(by omega)) (by simp)
    rw [q] at hu; cases hu
    exact ⟨xs[i]'(by omega), by simp, ru⟩
  | S z t =>
    have hk : xs = z.cps.toList.map fun c => V.str ⟨#[c]⟩ := hk
    subst hk
    refine ⟨_, _, (by have := Draws.text (prog := prog) (w := w) hh it z t; rwa [show z.cps.size = (z.cps.toList.map fun c => V.str ⟨#[c]⟩).length by simp] at this), fun i q => q, fun i h q => q, fun i v q => ?_⟩
    obtain ⟨c, u, h1, rfl⟩ := q
    exact ⟨V.str ⟨#[c]⟩, by rw [← Array.getElem?_toList] at h1; rw [List.getElem?_map, h1]; rfl, ⟨u, rfl⟩⟩
theorem Zk.begins (I : Inv X pins σ H s) (hk : k.at X.K H xs) : ∃ G, Begins k.val k.obj G ∧ G s.heap := by
  cases k with
  | L a => obtain ⟨its, rv, p, _⟩ := I.list hk; exact ⟨_, begins_list a its.toArray, p.isList⟩
  | T a => obtain ⟨its, rv, p, _⟩ := I.tuple hk; exact ⟨_, begins_tuple a its.toArray, p⟩
  | S z t => exact ⟨_, begins_text z t, trivial⟩
theorem Zk.lt (I : Inv X pins σ H s) (hk : k.at X.K H xs) : ∀ a ∈ k.addr, a < s.heap.objs.size := fun b hb => by
  cases k with
  | L a =>
    obtain ⟨its, rv, p, _⟩ := I.list hk
    obtain rfl : b = a := by simpa [Zk.addr] using hb
    exact p.lt
  | T a =>
    obtain ⟨its, rv, p, _⟩ := I.tuple hk
    obtain rfl : b = a := by simpa [Zk.addr] using hb
    obtain ⟨o, ho, _⟩ := id p
    exact Heap.lt_size ho
  | S z t => simp [Zk.addr] at hb
theorem Zk.inj {ys : List V} (I : Inv X pins σ H s) (hk : k.at X.K H xs) (hk' : k.at X.K H ys) : xs = ys := by
  cases k with
  | L a => exact I.list_inj hk hk'
  | T a => exact I.tuple_inj hk hk'
  | S z t => exact (show xs = _ from hk).trans (show ys = _ from hk').symm
theorem Zk.new {n : Nat} {h' : Heap} (e : h'.get? n = some k.obj) : k.it n 0 h' := by
  cases k with
  | L a => exact ⟨_, e, rfl, rfl⟩
  | T a => exact ⟨_, e, rfl, rfl⟩
  | S z t => exact ⟨_, e, rfl, rfl⟩
end
def ItZ (K : PySem.W.Frag) (k l : Zk) : It :=
  ⟨fun i H => ∃ xs ys : List V, k.at K H xs ∧ l.at K H ys ∧ i < xs.length ∧ i < ys.length,
    fun i H v H' => ∃ T x y, v = .ref T ∧ H T = none ∧ H' = upd H T (.tup [x, y]) ∧ (∀ xs, k.at K H xs → xs[i]? = some x) ∧ ∀ ys, l.at K H ys → ys[i]? = some y,
    fun i H => ∃ xs ys : List V, k.at K H xs ∧ l.at K H ys ∧ i ≤ xs.length ∧ i ≤ ys.length ∧ (i = xs.length ∨ i = ys.length)⟩
theorem ad_ne {a b : Nat} (h : a ≠ b) : @Ne Addr a b := h
theorem ad_in {a n : Nat} {l : List Addr} (h : ∀ c ∈ l, @LT.lt Nat _ c n) (g : n ≤ a) (q : a ∈ l) : False := by have := h a q; omega
theorem ad_cons {a b n : Nat} {l : List Addr} (h : ∀ c ∈ l, @LT.lt Nat _ c n) (g : n ≤ a) (e : a ≠ b) : (a : Addr) ∉ ((b : Addr) :: l) := fun q => by
  rcases List.mem_cons.mp q with q | q
  · exact e q
  · exact ad_in h g q
theorem zsep {n : Nat} {k l : Zk} (h1 : ∀ a ∈ k.addr, @LT.lt Nat _ a n) (h2 : ∀ a ∈ l.addr, @LT.lt Nat _ a n) : ZipSep2 (n + 4) (n + 2) (n + 3) n (n + 1) (n :: k.addr) ((n + 1) :: l.addr) :=
  have g : ∀ j : Nat, n ≤ n + j := fun j => by omega
  ⟨ad_ne (by omega), ad_ne (by omega), ad_ne (by omega), ad_ne (by omega), by simp, ad_cons h1 (g 4) (by omega), ad_cons h1 (g 3) (by omega), ad_ne (by omega), by simp, ad_cons h2 (g 4) (by omega), ad_cons h2 (g 3) (by omega), ad_cons h2 (g 0) (by omega), ad_cons h1 (g 1) (by omega)⟩
abbrev zfp (n : Nat) : List Addr := [n + 4, n + 2, n + 3, n, n + 1]
theorem turn_z {P : Program} {w : World} {K : PySem.W.Frag} {elts : List Expr} {kk : Nat} {tpos : Pos} {n : Nat} {k l : Zk} (h1 : ∀ a ∈ k.addr, @LT.lt Nat _ a n) (h2 : ∀ a ∈ l.addr, @LT.lt Nat _ a n) :
    Turn P w K (.Tuple elts kk tpos) (ItZ K k l) (zfp n) (n + 4) (fun i h => IsZip h (n + 4) (n + 2) (n + 3) .none ∧ IsTupOf2 h (n + 2) (.ref n) (.ref (n + 1)) ∧ (∃ x y, IsTupOf2 h (n + 3) x y) ∧ k.it n i h ∧ l.it (n + 1) i h) where
  mem := by simp
  obj := fun i h st c hc => by
    obtain ⟨q1, q2, ⟨x, y, q3⟩, q4, q5⟩ := st
    simp only [List.mem_cons, List.not_mem_nil, or_false] at hc
    rcases hc with e | e | e | e | e <;> subst e
    · exact ⟨_, q1, fun v z => by cases z⟩
    · exact ⟨_, q2, fun v z => by cases z⟩
    · exact ⟨_, q3, fun v z => by cases z⟩
    · exact Zk.it_live q4
    · exact Zk.it_live q5
  keep := fun i h h' st e => by
    obtain ⟨q1, q2, ⟨x, y, q3⟩, q4, q5⟩ := st
    exact ⟨e _ (by simp) _ q1, e _ (by simp) _ q2, ⟨x, y, e _ (by simp) _ q3⟩, Zk.it_at q4 fun o => e n (by simp) o, Zk.it_at q5 fun o => e (n + 1) (by simp) o⟩
  item := by
    intro X hP hw hK hc i pins s σ H E I hf st hg
    subst hP hw hK
    obtain ⟨q1, q2, ⟨x0, y0, q3⟩, q4, q5⟩ := st
    obtain ⟨xs, ys, hx, hy, hi, hj⟩ := hg
    obtain ⟨P1, S1, D1, a1, b1, c1⟩ := Zk.draw (prog := X.prog) (w := X.w) (A := X.A.in1) I hx (I.ok.hd hc) (it := n) (fun a ha => ad_ne (by have := h1 a ha; omega))
    obtain ⟨P2, S2, D2, a2, b2, c2⟩ := Zk.draw (prog := X.prog) (w := X.w) (A := X.A.in1) I hy (I.ok.hd hc) (it := n + 1) (fun a ha => ad_ne (by have := h2 a ha; omega))
    have zl : @LT.lt Nat _ (n + 4) s.heap.objs.size := Heap.lt_size q1
    refine wpAny_pyNext_zipD2_item (zsep h1 h2) D1 D2 q1 q2 q3 (a1 i q4) (a2 i q5) hi hj fun u1 u2 g tk p1 p2 z1 z2 s1 s2 z3 z4 z5 => ?_
    refine ⟨_, rfl, wpAny_letOwnedTupleGo_zip (s := { s with heap := g, toks := tk }) z1 fun g' z6 sb => ?_⟩
    obtain ⟨x, ex, rx⟩ := c1 i u1 p1
    obtain ⟨y, ey, ry⟩ := c2 i u2 p2
    have gT : g'.get? s.heap.objs.size = some { cls := .type "tuple", data := .seq #[u1, u2] } := (sb.2 _ (ad_ne (by omega))).trans z3
    have ob : ObjOk X.prog X.w (upd H s.heap.objs.size (.tup [x, y])) g' s.heap.objs.size (.tup [x, y]) := ⟨by show 2 ≤ sizeLine; decide, [u1, u2], .cons rx (.cons ry .nil), ⟨_, gT, rfl, _, rfl⟩⟩
    have up : ∀ c o, c ∉ zfp n → s.heap.get? c = some o → g'.get? c = some o := fun c o hc e => by
      simp only [List.mem_cons, List.not_mem_nil, or_false, not_or] at hc
      exact (sb.2 c hc.1).trans (z5 c o hc.1 hc.2.2.1 hc.2.2.2.1 hc.2.2.2.2 e)
    have J := I.turnedNew (t' := tk) (ch := zfp n) up hf (Nat.le_refl _) ob
    refine ⟨.ref s.heap.objs.size, _, J, rfl, ⟨_, x, y, rfl, I.hok.fresh (Nat.le_refl _), rfl, fun l hl => by rw [Zk.inj I hl hx]; exact ex, fun l hl => by rw [Zk.inj I hl hy]; exact ey⟩, ⟨z6, ?_, ⟨u1, u2, ?_⟩, ?_, ?_⟩, fun c hcm => ?_⟩
    · exact (sb.2 _ (ad_ne (by omega))).trans (z5 _ _ (ad_ne (by omega)) (ad_ne (by omega)) (ad_ne (by omega)) (ad_ne (by omega)) q2)
    · exact (sb.2 _ (ad_ne (by omega))).trans z2
    · exact Zk.it_at (b1 _ _ s1) fun o q => (sb.2 _ (ad_ne (by omega))).trans q
    · exact Zk.it_at (b2 _ _ s2) fun o q => (sb.2 _ (ad_ne (by omega))).trans q
    · have : @LT.lt Nat _ c s.heap.objs.size := by
        simp only [List.mem_cons, List.not_mem_nil, or_false] at hcm
        rcases hcm with e | e | e | e | e <;> (rw [e]; omega)
      rw [upd_ne (ad_ne (by omega))]
      exact (hf c hcm).1
  done := by
    intro X hP hw hK hc i pins s σ H E I hf st hg
    subst hP hw hK
    obtain ⟨q1, q2, ⟨x0, y0, q3⟩, q4, q5⟩ := st
    obtain ⟨xs, ys, hx, hy, hi, hj, he⟩ := hg
    obtain ⟨P1, S1, D1, a1, b1, c1⟩ := Zk.draw (prog := X.prog) (w := X.w) (A := X.A.in1) I hx (I.ok.hd hc) (it := n) (fun a ha => ad_ne (by have := h1 a ha; omega))
    obtain ⟨P2, S2, D2, a2, b2, c2⟩ := Zk.draw (prog := X.prog) (w := X.w) (A := X.A.in1) I hy (I.ok.hd hc) (it := n + 1) (fun a ha => ad_ne (by have := h2 a ha; omega))
    refine wpAny_pyNext_zipD2_end (zsep h1 h2) D1 D2 q1 q2 q3 (a1 i q4) (a2 i q5) hi hj he fun g tk e => ⟨rfl, I.turnedL (t' := tk) (ch := zfp n) (fun c o hc' q => ?_) hf⟩
    simp only [List.mem_cons, List.not_mem_nil, or_false, not_or] at hc'
    exact e c o hc'.1 hc'.2.2.1 hc'.2.2.2.1 hc'.2.2.2.2 q
  self := fun A i s Q E st h => wpAny_pyIter_zip st.1 h
theorem fresh_fp {X : Cx} {pins : List (Addr × Obj)} {σ : L2.St} {H : Hp} {s : Shared} (I : Inv X pins σ H s) : ∀ c, s.heap.objs.size ≤ c → FpOk X pins H c := fun c h => I.fpOk h (I.hok.fresh h)
def KV (K : PySem.W.Frag) (H : Hp) (v : V) (k : Zk → Prop) : Prop := (∃ a xs, v = .ref a ∧ SqL K H a xs ∧ k (.L a)) ∨ (∃ a xs, v = .ref a ∧ SqT K H a xs ∧ k (.T a)) ∨ ∃ z, v = .str z ∧ ∀ t, k (.S z t)
theorem kv_of {X : Cx} {H : Hp} {v : V} {u : Value} {k : Zk → Prop} (r : RelV v u) (h : KV X.K H v k) : ∃ z xs, z.at X.K H xs ∧ z.val = u ∧ k z := by
  rcases h with ⟨a, xs, rfl, h1, h2⟩ | ⟨a, xs, rfl, h1, h2⟩ | ⟨z, rfl, h2⟩
  · cases r; exact ⟨.L a, xs, h1, rfl, h2⟩
  · cases r; exact ⟨.T a, xs, h1, rfl, h2⟩
  · obtain ⟨t, rfl⟩ := r
    exact ⟨.S z t, _, rfl, rfl, h2 t⟩
def iZ2 (K : PySem.W.Frag) (ta : TA) : TI := fun σ H R => ta σ H fun vs H1 => ∃ v u, vs = [v, u] ∧ KV K H1 v fun k => KV K H1 u fun l => R (ItZ K k l) H1
theorem pi_z2 {X : Cx} {e e2 : Expr} {ta : TA} {p pos tpos : Pos} {elts : List Expr} {kk : Nat} (hg : Gl X "zip") (hm : X.mg "zip" = none) (ha : PA X [e, e2] ta)
    (hs : starEach [e, e2] X.env = (false, eval e X.env) :: starEach [e2] X.env := by rfl) (hpl : (backTo pos (starEach [e2] X.env)).any (·.1) = false := by rfl) :
    PI X (.Tuple elts kk tpos) (.Call (.Name "zip" p) [e, e2] [] pos) (iZ2 X.K ta) := ⟨fun pins s σ H R I h => by
  refine Call_ (ld_blt I hg hm PyProof.Rows.boot_zip (PyProof.Rows.callWith_type1 (thn (ha.run pos pins s σ H _ I h) fun us s1 hh => ?_) hs hpl))
  obtain ⟨vs, H1, I1, r1, v, u, rfl, q⟩ := hh
  cases r1 with
  | cons r rr =>
    cases rr with
    | cons r' rr =>
      cases rr
      obtain ⟨k, xs, k1, rfl, q⟩ := kv_of r q
      obtain ⟨l, ys, l1, rfl, q⟩ := kv_of r' q
      obtain ⟨G1, B1, g1⟩ := Zk.begins I1 k1
      obtain ⟨G2, B2, g2⟩ := Zk.begins I1 l1
      refine zip_begins2 B1 B2 g1 g2 fun h' z1 z2 z3 z4 z5 hsz up => wpAny_pyIter_zip z1 ?_
      have I2 : Inv X pins σ H1 { s1 with heap := h' } := I1.kept (t' := s1.toks) up
      refine ⟨s1.heap.objs.size + 4, zfp s1.heap.objs.size, _, _, H1, rfl, I2, turn_z (Zk.lt I1 k1) (Zk.lt I1 l1), ⟨z1, z2, ⟨_, _, z3⟩, Zk.new z4, Zk.new z5⟩, fun c hc => ?_, q⟩
      refine fresh_fp I1 c ?_
      simp only [List.mem_cons, List.not_mem_nil, or_false] at hc
      rcases hc with e | e | e | e | e <;> (rw [e]; first | exact Nat.le_add_right _ _ | exact Nat.le_refl _)⟩
def zipL (ds es : List D) : List D := (ds.zip es).map fun p => .tup [p.1, p.2]
def zipOk (strict : Bool) : D → R (List D)
  | .lst t ds => if (strict && (t || hasTL ds)) = true then .stuck else .ok ds
  | .fr ds => if (strict && hasTL ds) = true then .stuck else .ok ds
  | .tup ds => if (strict && hasTL ds) = true then .stuck else .ok ds
  | .str z => .ok (z.cps.toList.map fun c => .str ⟨#[c]⟩)
  | _ => .stuck
def zipI (strict : Bool) : List D → R (List D)
  | [x, y] => (zipOk strict x).bind fun ds => (zipOk strict y).bind fun es => .ok (zipL ds es)
  | _ => .stuck
def aZip (strict : Bool) (h : SemA) : SemA := fun m => (h m).bind (zipI strict)
theorem kv_rp {K : PySem.W.Frag} {F H0 H : Hp} {strict : Bool} {x : D} {v : V} {ds : List D} (s : Same F H) (r : Rp K F H0 H x v) (e : zipOk strict x = .ok ds) (k : Zk → Prop)
    (q : ∀ z xs, (hasTL ds = false ∨ strict = false) → RpL K F H0 H ds xs → (∀ F' H', Ltr strict F H F' H' → z.at K H' xs) → k z) : KV K H v k := by
  cases x with
  | lst t es =>
    simp only [zipOk] at e
    split at e
    · cases e
    · rename_i c
      cases e
      obtain ⟨a, xs, rfl, k1, k2⟩ := r.lasts (strict := strict) s (by revert c; cases strict <;> cases t <;> simp)
      exact .inl ⟨a, xs, rfl, k2 F H ⟨Same.refl _, s, fun _ _ z _ => z, fun _ => Same.refl _⟩, q (.L a) xs (by revert c; cases strict <;> cases t <;> simp) k1 k2⟩
  | fr es =>
    simp only [zipOk] at e
    split at e
    · cases e
    · rename_i c
      cases e
      cases r with
      | fr k1 k2 => exact .inl ⟨_, _, rfl, s.seq k1, q (.L _) _ (by revert c; cases strict <;> simp) k2 fun F' H' l => l.2.1.seq (l.1.seq k1)⟩
  | tup es =>
    simp only [zipOk] at e
    split at e
    · cases e
    · rename_i c
      cases e
      obtain ⟨a, xs, rfl, k1, k2⟩ := r.tuple
      exact .inr (.inl ⟨a, xs, rfl, k1, q (.T a) xs (by revert c; cases strict <;> simp) k2 fun F' H' l => l.tup k1⟩)
  | str z =>
    cases e
    cases r
    exact .inr (.inr ⟨z, rfl, fun t => q (.S z t) (z.cps.toList.map fun c => .str ⟨#[c]⟩) (.inl (chars_noT _)) (chars_rp _) fun _ _ _ => rfl⟩)
  | non => cases e
  | bl _ => cases e
  | int _ => cases e
  | unk => cases e
  | ex _ => cases e
  | fn _ => cases e
  | dic _ _ => cases e
  | dct _ _ _ => cases e
section
variable {X : Cx} {b : Bs} {W : WX} {strict : Bool} {h : SemA} {p pos : Pos}
theorem si_zip {a c : Expr} {elts : List Expr} {kk : Nat} {tpos : Pos} (hg : Gl X "zip") (hm : X.mg "zip" = none) (ha : SA X b W [a, c] h)
    (hs : starEach [a, c] X.env = (false, eval a X.env) :: starEach [c] X.env := by rfl) (hpl : (backTo pos (starEach [c] X.env)).any (·.1) = false := by rfl) :
    SI X b W strict (.Tuple elts kk tpos) (.Call (.Name "zip" p) [a, c] [] pos) (aZip strict h) := by
  refine PI.weak (pi_z2 hg hm ha hs hpl) fun σ H Rw ⟨F, m, R, p⟩ => ?_
  refine seqA R p fun xs F1 H1 vs R1 G1 hv p1 => ?_
  unfold zipI at p1
  split at p1
  · rename_i x y
    obtain ⟨v, u, rfl, h1, h2⟩ := hv.two
    refine ⟨v, u, rfl, ?_⟩
    cases e1 : zipOk strict x with
    | stuck => rw [e1] at p1; exact p1.elim
    | exc c => cases x <;> simp only [zipOk] at e1 <;> (try split at e1) <;> cases e1
    | ok ds =>
      rw [e1] at p1
      cases e2 : zipOk strict y with
      | stuck => rw [e2] at p1; exact p1.elim
      | exc c => cases y <;> simp only [zipOk] at e2 <;> (try split at e2) <;> cases e2
      | ok es =>
        rw [e2] at p1
        refine kv_rp R1.sub h1 e1 _ fun k xs n1 r1 k1 => kv_rp R1.sub h2 e2 _ fun l ys n2 r2 k2 => ?_
        refine p1.here R1.sub _ ?_
        exact Wk.pairs n1 n2 r1 r2 (fun H' => k.at X.K H' xs ∧ l.at X.K H' ys) (fun F' H' q => ⟨k1 F' H' q, k2 F' H' q⟩) (fun i x y H' q e1 e2 => ⟨xs, ys, q.1, q.2, (List.getElem?_eq_some_iff.mp e1).1, (List.getElem?_eq_some_iff.mp e2).1⟩)
          (fun i H' v H'' q z => by
            obtain ⟨T, x, y, rfl, h1, h2, h3, h4⟩ := z
            exact ⟨T, x, y, rfl, h1, h2, fun w e => Option.some.inj (e.symm.trans (h3 xs q.1)), fun w e => Option.some.inj (e.symm.trans (h4 ys q.2))⟩)
          (fun H' q => ⟨xs, ys, q.1, q.2, by omega, by omega, by omega⟩)
  · exact p1.elim
end
end CT

namespace CT
open PySem PySem.Spec PyProof.Rows L2
def ExcOk (K : PySem.W.Frag) (mg : Str → Option Value) (x : Str) : Prop := ∃ C, mg x = some (.ref C) ∧ PySem.W.excIn K C [.type "ValueError", .type "Exception", .type "BaseException", .type "object"] "ValueError.__new__" = true ∧
  PySem.W.keepIn K (.ref C) = true ∧ PySem.W.subIn K (.ref C) (.type "BaseException") = some true ∧ PySem.W.typeIn K (.ref C) = some (.type "type")
def sRaise (c : String) : SemS := fun m => .exc c m
section
variable {X : Cx} {b : Bs} {W : WX}
theorem ss_raise {x m : Str} {c : String} {j : Nat} {p p2 pos pos' : Pos} (hc : X.calm = true) (tk : Takes X W) (h : ExcOk X.K X.mg x) (hg : Gl X x) (hx : x = Str.ofString c := by rfl) (hb : b.ex = exOf X.mg := by rfl)
    (hdb : (x == ("__debug__" : Str)) = false := by decide) : SS X b W (.Raise (some (.Call (.Name x p) [.Constant (.str m) j p2] [] pos)) none pos') (sRaise c) := by
  obtain ⟨C, h1, h2, h3, h4, h5⟩ := h
  refine PS.weak (ps_raise hc tk (pmk_own PySem.F.excBase_ValueError h2 h1 h3 (raises_own h4 h5) hg hdb)) fun D' σ H ⟨F, m, R, z⟩ => ?_
  have z := z σ F H R (Prog.refl _ _)
  rw [hb] at z
  unfold exOf at z
  rw [← hx, h1] at z
  exact z
end
end CT

namespace CT
open PySem PySem.Spec PyProof.Rows L2
section
variable {X : Cx} {b : Bs} {W : WX}
theorem RpL.rep {K : PySem.W.Frag} {F H0 H : Hp} {ds : List D} {vs : List V} (h : RpL K F H0 H ds vs) : ∀ n : Nat, RpL K F H0 H (List.replicate n ds).flatten (List.replicate n vs).flatten
  | 0 => .nil
  | n + 1 => by
    rw [List.replicate_succ, List.replicate_succ, List.flatten_cons, List.flatten_cons]
    exact h.app (RpL.rep h n)
theorem adjust_back (n : Nat) : Builtin.Slice.sliceAdjust none none (-1) (n : Int) = ((n : Int) - 1, -1) := by
  unfold Builtin.Slice.sliceAdjust
  rfl
theorem places_back (n : Nat) : Builtin.Slice.slicePlaces ((n : Int) - 1) (-1) (-1) = n := by
  unfold Builtin.Slice.slicePlaces
  have h1 : ¬ ((-1 : Int) > 0) := by decide
  simp only [h1, if_false]
  rw [show (- -1 : Int) = 1 by decide, Int.ediv_one]
  split <;> omega
theorem pick_back (xs : Array Value) : ((List.range xs.size).filterMap fun (k : Nat) => xs[(((xs.size : Int) - 1) + (k : Int) * (-1)).toNat]?).toArray = xs.toList.reverse.toArray := by
  have e : (List.range xs.size).filterMap (fun (k : Nat) => xs[(((xs.size : Int) - 1) + (k : Int) * (-1)).toNat]?) = ((List.range xs.size).map (fun k => xs.size - 1 - k)).filterMap (xs[·]?) := by
    rw [List.filterMap_map]
    apply congrFun
    apply congrArg
    funext k
    show xs[(((xs.size : Int) - 1) + (k : Int) * (-1)).toNat]? = xs[xs.size - 1 - k]?
    have : (((xs.size : Int) - 1) + (k : Int) * (-1)).toNat = xs.size - 1 - k := by omega
    rw [this]
  rw [e, PySem.W.krv_range, List.filterMap_reverse, PySem.W.krv_all]
section
variable {prog : Program} {w : World} {A : Around} {E : Value → Shared → Prop} {s : Shared}
theorem sliceApplied_back {sl : Addr} {vl vu vs : Value} {n : Nat} {Q : Int × Int × Nat → Shared → Prop} (hs : s.heap.IsSliceOf sl vl vu vs) (pl : IsPart vl none) (pu : IsPart vu none) (ps : IsPart vs (some (-1)))
    (h : Q ((n : Int) - 1, -1, n) s) : wpAny (model prog w) A (Builtin.Slice.sliceApplied (.ref sl) (pure (n : Int))) Q E s := by
  obtain ⟨os, hos, hcs, hds⟩ := id hs
  unfold Builtin.Slice.sliceApplied Builtin.Slice.sliceFields
  refine wpAny_bind (wpAny_bind (wpAny_field hos hds (x := vl) rfl (wpAny_bind (wpAny_field hos hds (x := vu) rfl (wpAny_bind (wpAny_field hos hds (x := vs) rfl (wpAny_pure ?_)))))))
  refine wpAny_bind (HT.slicePart_ ps ?_)
  show wpAny _ _ (if ((-1 : Int) == 0) = true then _ else _) _ _ s
  rw [if_neg (by decide)]
  refine wpAny_bind (HT.slicePart_ pl (wpAny_bind (HT.slicePart_ pu (wpAny_bind (wpAny_pure ?_)))))
  show wpAny _ _ (match Builtin.Slice.sliceAdjust none none (-1) (n : Int) with | (lo, hi) => pure (lo, (-1 : Int), Builtin.Slice.slicePlaces lo hi (-1))) _ _ s
  rw [adjust_back n]
  show wpAny _ _ (pure ((n : Int) - 1, (-1 : Int), Builtin.Slice.slicePlaces ((n : Int) - 1) (-1) (-1))) _ _ s
  rw [places_back]
  exact wpAny_pure h
theorem getItem_tuple_back {t sl : Addr} {items : Array Value} {vl vu vs : Value} {Q : Value → Shared → Prop} (ht : IsTup s.heap t items) (hs : s.heap.IsSliceOf sl vl vu vs) (pl : IsPart vl none) (pu : IsPart vu none) (ps : IsPart vs (some (-1)))
    (h : Q (.ref s.heap.objs.size) { s with heap := s.heap.push { cls := .type "tuple", data := .seq items.toList.reverse.toArray } })
    (hsz : items.size ≤ sizeLine) : wpAny (model prog w) A (getItem (.ref t) (.ref sl)) Q E s := by
  have htake : sizeOk (.seq items.toList.reverse.toArray) := by
    show items.toList.reverse.toArray.size ≤ sizeLine
    rw [List.size_toArray, List.length_reverse, Array.length_toList]
    exact hsz
  obtain ⟨os, hos, hcs, hds⟩ := id hs
  have hTs : s.TypeIs (.ref sl) "slice" := ⟨os, hos, hcs⟩
  unfold getItem
  try with_reducible refine wpAny_holding ?_
  first | refine wpAny_bind (wpAny_pure ?_) | skip
  refine wpAny_bind (wpAny_sequenceKey ht.typeIs (by decide) ?_)
  refine wpAny_bind (wpAny_callSpecial?_slot (name := Str.ofString "__getitem__") ht.typeIs PyProof.Rows.slot_tuple_getitem
    (wpAny_call_entry PyProof.Rows.slot_tuple_getitem ht.typeIs entry_tuple_getitem ?_ (args_tuple_getitem _ _)))
  show wpAny _ _ (Builtin.Tuple.tupleItemsOf (.ref t) >>= _) _ _ s
  refine wpAny_bind (tupleItemsOf_ ht ?_)
  refine wpAny_bind (wpAny_typeOf hTs ?_)
  rw [if_pos (by decide)]
  refine wpAny_bind (sliceApplied_back hs pl pu ps ?_)
  have hno : ¬ ((((items.size : Int) - 1) == 0 && (-1 : Int) == 1 && items.size == items.size) = true) := by
    intro q
    rw [Bool.and_eq_true, Bool.and_eq_true] at q
    exact absurd q.1.2 (by decide)
  show wpAny _ _ (if (((items.size : Int) - 1) == 0 && (-1 : Int) == 1 && items.size == items.size) = true then _ else _) _ _ s
  rw [if_neg hno, pick_back]
  first
    | exact wpAny_bind (m := Builtin.Tuple.tupleExact _) (wpAny_newObj_type (wpAny_pure ⟨_, rfl, wpAny_pure h⟩) htake)
    | exact wpAny_bind (m := Builtin.Tuple.tupleExact _) (wpAny_newObj_type (wpAny_bind (wpAny_pure (wpAny_pure ⟨_, rfl, wpAny_pure h⟩))) htake)
    | exact wpAny_bind (wpAny_bind (m := Builtin.Tuple.tupleExact _) (wpAny_newObj_type (wpAny_pure (wpAny_pure ⟨_, rfl, wpAny_pure h⟩)) htake))
    | exact wpAny_bind (wpAny_bind (m := Builtin.Tuple.tupleExact _) (wpAny_newObj_type (wpAny_pure ⟨_, rfl, wpAny_pure h⟩) htake))
end
def tRevT (K : PySem.W.Frag) (te : TE) : TE := fun σ H Q => te σ H fun x H1 => ∃ a xs, x = .ref a ∧ ((SqL K H1 a xs ∧ ∀ p, H1 p = none → Q (.ref p) (upd H1 p (.lst xs.reverse))) ∨ (SqT K H1 a xs ∧ ∀ p, H1 p = none → Q (.ref p) (upd H1 p (.tup xs.reverse))))
section
variable {X : Cx}
theorem pe_revT {e : Expr} {te : TE} {k : Nat} {p1 p2 p3 pos : Pos} (he : PE X e te) : PE X (.Subscript e (.Slice none none (some (.UnaryOp .USub (.Constant (.int 1) k p1) p2)) p3) pos) (tRevT X.K te) := by
  refine ⟨fun pins s σ H Q I h => ?_⟩
  refine Subscript_ (thn (he.run pins s σ H _ I h) fun v s1 ⟨x, H1, I1, r1, q1⟩ => ?_)
  obtain ⟨a, xs, ex, hq⟩ := q1
  subst ex
  cases r1
  have hst : PO X (some (.UnaryOp .USub (.Constant (.int 1) k p1) p2)) (tPart (tUn (rU fun i => .int (-i)) (tC (.int 1)))) := po_some (pe_un un_neg pe_int)
  refine wpAny_Slice (thn (po_none.run pins s1 σ H1 (fun o H2 => o = none ∧ H2 = H1) I1 ⟨rfl, rfl⟩) fun vl s2 ⟨l, H2, I2, pl, el, e2⟩ => ?_)
  subst el e2
  refine thn (po_none.run pins s2 σ H2 (fun o H3 => o = none ∧ H3 = H2) I2 ⟨rfl, rfl⟩) fun vu s3 ⟨u, H3, I3, pu, eu, e3⟩ => ?_
  subst eu e3
  refine thn (hst.run pins s3 σ H3 (fun o H4 => o = some (-1) ∧ H4 = H3) I3 ⟨1, rfl, -1, rfl, rfl, rfl⟩) fun vs s4 ⟨o, H4, I4, ps, eo, e4⟩ => ?_
  subst eo e4
  have I5 : Inv X pins σ H4 { s4 with heap := s4.heap.push { cls := .type "slice", data := .fields #[vl, vu, vs] } } := I4.kept (t' := s4.toks) fun b ob q => Heap.get?_push_of_some _ q
  show wpAny (model X.prog X.w) X.A (subscriptTail e (.Slice none none (some (.UnaryOp .USub (.Constant (.int 1) k p1) p2)) p3) (.ref a) (.ref s4.heap.objs.size)) (EP X pins σ Q) X.xe { s4 with heap := s4.heap.push { cls := .type "slice", data := .fields #[vl, vu, vs] } }
  rcases hq with ⟨hx, q⟩ | ⟨hx, q⟩
  · obtain ⟨its, r, ht, hz⟩ := I5.list hx
    have hlen := r.length
    refine tail_any (ops := [.ref a, .ref s4.heap.objs.size]) ht.isList.typeIs (PySem.slot_list_getitem.lookup) ?_ (by with_unfolding_all rfl)
    refine wpAny_getItem_list_slice ht.isList (Heap.IsSliceOf.new _ vl vu vs) pl pu ps (by decide) ?_ (by rw [List.size_toArray]; omega)
    rw [PySem.W.krv_pick]
    refine ⟨.ref _, _, I5.laid (t' := s4.toks) (o := .lst xs.reverse) (fun b ob q => Heap.get?_push_of_some _ q) (Nat.le_refl _) ?_, rfl, q _ (I5.hok.fresh (Nat.le_refl _))⟩
    exact ⟨by rw [List.length_reverse]; exact hz, _, 0, r.reverse, Heap.get?_push_size _ rfl⟩
  · obtain ⟨its, r, ht, hz⟩ := I5.tuple hx
    have hlen := r.length
    refine tail_any (ops := [.ref a, .ref s4.heap.objs.size]) ht.typeIs (PyProof.Rows.slot_tuple_getitem.lookup) ?_ (by with_unfolding_all rfl)
    refine getItem_tuple_back ht (Heap.IsSliceOf.new _ vl vu vs) pl pu ps ?_ (by rw [List.size_toArray]; omega)
    refine ⟨.ref _, _, I5.laid (t' := s4.toks) (o := .tup xs.reverse) (fun b ob q => Heap.get?_push_of_some _ q) (Nat.le_refl _) ?_, rfl, q _ (I5.hok.fresh (Nat.le_refl _))⟩
    exact ⟨by rw [List.length_reverse]; exact hz, _, r.reverse, IsTup.new _ _⟩
end
def revD : D → R D
  | .lst _ xs => .ok (.lst false xs.reverse)
  | .tup xs => .ok (.tup xs.reverse)
  | _ => .stuck
theorem se_rev {e : Expr} {f : SemE} {k : Nat} {p1 p2 p3 pos : Pos} (hf : SE X b W e f) : SE X b W (.Subscript e (.Slice none none (some (.UnaryOp .USub (.Constant (.int 1) k p1) p2)) p3) pos) (e1 revD f) := by
  refine PE.weak (pe_revT hf) fun σ H Q ⟨F, m, R, p⟩ => ?_
  refine seq R p fun x F1 H1 v R1 G1 hv p1 => ?_
  cases x <;> first | exact p1.elim | skip
  · obtain ⟨a, xs, rfl, h1', h2⟩ := hv.tuple'
    refine ⟨a, xs, rfl, .inr ⟨.inl (.inl h1'), fun q hq => ?_⟩⟩
    have G := Grow.still (o := .tup xs.reverse) R1.sub hq
    exact (p1 _ _ G) _ (.tup upd_same (h2.grow G).rev)
  · obtain ⟨a, xs, rfl, h1, h2⟩ := hv.list R1.sub
    refine ⟨a, xs, rfl, .inl ⟨.inl (.inl h1), fun q hq => ?_⟩⟩
    have G := Grow.still (o := .lst xs.reverse) R1.sub hq
    exact (p1 _ _ G) _ (.lst upd_same (h2.grow G).rev)
theorem Rel.forget {K : PySem.W.Frag} {b : Bs} {F H : Hp} {m : Sl} {σ : L2.St} (j : Nat) (r : Rel K b F m σ H) : Rel K b F (m.set j none) σ H := by
  have old : ∀ {k : Nat} {d : D}, (m.set j none)[k]? = some (some d) → k ≠ j ∧ m[k]? = some (some d) := fun {k d} h => by
    by_cases c : k = j
    · subst c
      rw [List.getElem?_set_self'] at h
      cases q : m[k]? <;> rw [q] at h <;> simp at h
    · rw [List.getElem?_set_ne (fun z => c z.symm)] at h
      exact ⟨c, h⟩
  exact ⟨by simp [r.len], r.grow, fun k d q => r.slot k d (old q).2, fun p q x y v w c e1 e2 e3 e4 => r.apart p q x y v w c (old e1).2 (old e2).2 e3 e4⟩
theorem Rel.tmp {K : PySem.W.Frag} {b : Bs} {F H : Hp} {m : Sl} {σ : L2.St} {a : Addr} {xs ys : List V} (r : Rel K b F m σ H) (h1 : H a = some (.lst xs)) (h2 : F a = none) (h3 : b.H0 a = none)
    (far : ∀ (j : Nat) (d : D) (v : V), m[j]? = some (some d) → σ[j]? = some (some v) → Owns H d v a → False) : Rel K b F m σ (upd H a (.lst ys)) := by
  have t : ∀ c o, H c = some o → NoL o → (upd H a (.lst ys)) c = some o := fun c o hc ho => by
    rw [upd_ne (fun z => by subst z; rw [h1] at hc; cases hc; exact False.elim ho)]; exact hc
  have na : ∀ c o, F c = some o → c ≠ a := fun c o hc z => by subst z; rw [h2] at hc; cases hc
  have sH : Same F (upd H a (.lst ys)) := fun c o hc => by rw [upd_ne (na _ _ hc)]; exact r.sub _ _ hc
  have bk : ∀ {j : Nat} {d : D} {v : V} {c : Addr}, m[j]? = some (some d) → σ[j]? = some (some v) → SlotOk K F b.H0 H d v → Owns (upd H a (.lst ys)) d v c → Owns H d v c := fun {j d v c} e1 e3 k o => o.back (fun b xs e => t _ _ e trivial) (fun b xs e => sH _ _ e) (fun c xs o' z => by rw [upd_ne (fun y => by subst y; exact far j _ _ e1 e3 o')]; exact z) k
  refine ⟨r.len, ⟨fun c o hc => ?_, r.grow.sub, fun c o hc => ?_, r.grow.new⟩, fun j d q => ?_, fun p q x y v w c e1 e2 e3 e4 o1 o2 => ?_⟩
  · rw [upd_ne (fun z => by subst z; rw [h3] at hc; cases hc)]; exact r.grow.same _ _ hc
  · rw [upd_ne (na _ _ hc)]; exact r.sub _ _ hc
  · obtain ⟨w, k1, k2⟩ := r.slot j d q
    refine ⟨w, k1, ?_⟩
    rcases k2.ow with ⟨as, z, n⟩ | ⟨qq, ks, ds', c, kvs, rfl, pp⟩
    · exact .of (Ow.keep t (Same.refl F) sH _ _ _ z (fun c hc xs e => by rw [upd_ne (fun y => by subst y; exact far j _ _ q k1 ((Owns.iff z).mpr hc))]; exact e) fun c hc => (Ow.mem _ _ _ z hc).2.2.1) n
    · have hc : c ≠ a := fun z => by subst z; exact far j _ _ q k1 (.inr (.inl ⟨_, _, _, rfl, pp.v⟩))
      exact .inr (.inr (.inr ⟨qq, ks, ds', c, kvs, rfl, pp.v, pp.o, pp.al.imp fun u h => ⟨by rw [upd_ne hc]; exact h.1, h.2.keep fun _ _ z => t _ _ z trivial⟩, pp.fa, pp.ha, pp.k, RpL.keep t ds' _ pp.nx pp.x, pp.nx⟩))
  · obtain ⟨v', k1, k2⟩ := r.slot p x e1
    obtain ⟨w', k3, k4⟩ := r.slot q y e2
    rw [e3] at k1; cases k1
    rw [e4] at k3; cases k3
    exact r.apart p q x y v w c e1 e2 e3 e4 (bk e1 e3 k2 o1) (bk e2 e4 k4 o2)
end
end CT

namespace CT
open PySem PySem.Spec PyProof.Rows L2
def intsOf : List D → Option (List Int)
  | [] => some []
  | .int i :: ds => (intsOf ds).map (i :: ·)
  | _ => none
def keyOf : D → Option (List Int)
  | .tup xs => intsOf xs
  | _ => none
theorem intsOf_map : ∀ l : List Int, intsOf (l.map .int) = some l
  | [] => rfl
  | i :: l => by simp [intsOf, intsOf_map l]
theorem intsOf_rp {K : PySem.W.Frag} {F H0 H : Hp} : ∀ {ds : List D} {l : List Int} {vs : List V}, intsOf ds = some l → RpL K F H0 H ds vs → vs = l.map V.int
  | [], l, _, h, .nil => by cases h; rfl
  | d :: ds, l, _, h, .cons r t => by
    cases d <;> first | (simp [intsOf] at h; done) | skip
    rename_i i
    simp only [intsOf] at h
    cases q : intsOf ds with
    | none => rw [q] at h; cases h
    | some l' =>
      rw [q] at h; cases h
      cases r
      rw [intsOf_rp q t]; rfl
theorem keyOf_rp {K : PySem.W.Frag} {F H0 H : Hp} {d : D} {l : List Int} {v : V} (h : keyOf d = some l) (r : Rp K F H0 H d v) : ∃ a, v = .ref a ∧ H a = some (.tup ((l.map (Sum.inl : Int → Key)).map kV)) := by
  cases d <;> first | (simp [keyOf] at h; done) | skip
  obtain ⟨a, xs, rfl, h1, h2⟩ := r.tuple'
  refine ⟨a, rfl, ?_⟩
  rw [h1, intsOf_rp h h2, List.map_map]
  rfl
def dAt (ks : List (List Int)) (ds : List D) (k : List Int) : Option D := match ks, ds with
  | q :: ks, d :: ds => if q = k then some d else dAt ks ds k
  | _, _ => none
def dHas (ks : List (List Int)) (k : List Int) : Bool := ks.any fun q => decide (q = k)
def dPutK (ks : List (List Int)) (k : List Int) : List (List Int) := if dHas ks k = true then ks else ks ++ [k]
def dSetV (ks : List (List Int)) (ds : List D) (k : List Int) (d : D) : List D := match ks, ds with
  | q :: ks, e :: ds => (if q = k then d else e) :: dSetV ks ds k d
  | _, _ => []
def dPutV (ks : List (List Int)) (ds : List D) (k : List Int) (d : D) : List D := if dHas ks k = true then dSetV ks ds k d else ds ++ [d]
theorem inl_inj {k l : List Int} (h : k.map (Sum.inl : Int → Key) = l.map Sum.inl) : k = l := List.map_inj_right (fun _ _ e => Sum.inl.inj e) |>.mp h
section
variable {K : PySem.W.Frag} {F H0 H : Hp}
theorem dAt_val : ∀ {ks : List (List Int)} {ds : List D} {kvs : List (List Key × V)} (k : List Int), kvs.map (·.1) = ks.map (·.map Sum.inl) → RpL K F H0 H ds (kvs.map (·.2)) →
    (∀ d, dAt ks ds k = some d → ∃ v, valV kvs (k.map Sum.inl) = some v ∧ Rp K F H0 H d v) ∧ (valV kvs (k.map Sum.inl)).isSome = dHas ks k
  | [], ds, [], k, _, _ => ⟨fun d h => by simp [dAt] at h, rfl⟩
  | q :: ks, d :: ds, p :: kvs, k, hk, .cons r t => by
    simp only [List.map_cons, List.cons.injEq] at hk
    obtain ⟨h1, h2⟩ := dAt_val k hk.2 t
    by_cases e : q = k
    · have e' : p.1 = k.map Sum.inl := by rw [hk.1, e]
      rw [valV_pos e']
      refine ⟨fun x hx => ?_, by simp [dHas, e]⟩
      simp only [dAt, if_pos e] at hx
      cases hx
      exact ⟨_, rfl, r⟩
    · have e' : ¬ p.1 = k.map Sum.inl := fun z => e (inl_inj (by rw [← hk.1]; exact z))
      rw [valV_neg e']
      refine ⟨fun x hx => ?_, by rw [h2]; simp [dHas, e]⟩
      simp only [dAt, if_neg e] at hx
      exact h1 x hx
  | [], _, _ :: _, _, hk, _ => by simp at hk
  | _ :: _, _, [], _, hk, _ => by simp at hk
theorem dSet_val : ∀ {ks : List (List Int)} {ds : List D} {kvs : List (List Key × V)} (k : List Int) {d : D} {v : V}, kvs.map (·.1) = ks.map (·.map Sum.inl) → RpL K F H0 H ds (kvs.map (·.2)) → Rp K F H0 H d v →
    RpL K F H0 H (dSetV ks ds k d) ((kvs.map fun kv => if kv.1 = k.map Sum.inl then (kv.1, v) else kv).map (·.2))
  | [], ds, [], k, _, _, _, _, _ => by simp only [dSetV]; exact .nil
  | q :: ks, d0 :: ds, p :: kvs, k, d, v, hk, .cons r t, hv => by
    simp only [List.map_cons, List.cons.injEq] at hk
    have ih := dSet_val k hk.2 t hv
    by_cases e : q = k
    · have e' : p.1 = k.map Sum.inl := by rw [hk.1, e]
      simp only [dSetV, List.map_cons, if_pos e, if_pos e']
      exact .cons hv ih
    · have e' : ¬ p.1 = k.map Sum.inl := fun z => e (inl_inj (by rw [← hk.1]; exact z))
      simp only [dSetV, List.map_cons, if_neg e, if_neg e']
      exact .cons r ih
  | [], _, _ :: _, _, _, _, hk, _, _ => by simp at hk
  | _ :: _, _, [], _, _, _, hk, _, _ => by simp at hk
theorem dPut_val {ks : List (List Int)} {ds : List D} {kvs : List (List Key × V)} {k : List Int} {d : D} {v : V} (hk : kvs.map (·.1) = ks.map (·.map Sum.inl)) (h : RpL K F H0 H ds (kvs.map (·.2))) (hv : Rp K F H0 H d v) :
    (putK kvs (k.map Sum.inl) v).map (·.1) = (dPutK ks k).map (·.map Sum.inl) ∧ RpL K F H0 H (dPutV ks ds k d) ((putK kvs (k.map Sum.inl) v).map (·.2)) := by
  have e := (dAt_val (ds := ds) k hk h).2
  rw [← valV_any] at e
  unfold putK dPutK dPutV
  by_cases c : dHas ks k = true
  · rw [if_pos (by rw [e]; exact c), if_pos c, if_pos c]
    refine ⟨?_, dSet_val k hk h hv⟩
    rw [← hk, List.map_map]
    apply List.map_congr_left
    intro p _
    simp only [Function.comp]
    split <;> rfl
  · rw [if_neg (by rw [e]; exact c), if_neg c, if_neg c]
    simp only [List.map_append, List.map_cons, List.map_nil, hk]
    exact ⟨trivial, h.app (.cons hv .nil)⟩
end
theorem hasTL_dSet {d : D} (hd : hasT d = false) : ∀ (ks : List (List Int)) (ds : List D) (k : List Int), hasTL ds = false → hasTL (dSetV ks ds k d) = false
  | [], ds, _, _ => by cases ds <;> rfl
  | _ :: _, [], _, _ => rfl
  | q :: ks, e :: ds, k, h => by
    simp only [hasTL, Bool.or_eq_false_iff] at h
    simp only [dSetV, hasTL, hasTL_dSet hd ks ds k h.2, Bool.or_false]
    split
    · exact hd
    · exact h.1
theorem hasTL_dPut {d : D} (hd : hasT d = false) {ks : List (List Int)} {ds : List D} {k : List Int} (h : hasTL ds = false) : hasTL (dPutV ks ds k d) = false := by
  unfold dPutV
  split
  · exact hasTL_dSet hd _ _ _ h
  · rw [hasTL_append, h]; simp [hasTL, hd]
def sNewD (i : Nat) : SemS := fun m => .nx (m.set i (some (.dct ⟨none, false, false⟩ [] [])))
def dctAt (i : Nat) (m : Sl) (k : DT → List (List Int) → List D → RS) : RS := match m[i]? with
  | some (some (.dct q ks ds)) => k q ks ds
  | _ => .stuck
def eDct {α : Type} (i : Nat) (m : Sl) (k : List (List Int) → List D → R α) : R α := match m[i]? with
  | some (some (.dct q ks ds)) => if q.n = true then .stuck else k ks ds
  | _ => .stuck
def keyR (d : D) : R (List Int) := match keyOf d with
  | some k => .ok k
  | none => .stuck
def atR (ks : List (List Int)) (ds : List D) (y : D) : R D := (keyR y).bind fun k => match dAt ks ds k with
  | some d => .ok d
  | none => .stuck
def hasR (c : Bool) (ks : List (List Int)) (y : D) : R D := (keyR y).bind fun k => .ok (.bl (dHas ks k == c))
def eGetD (i : Nat) (f : SemE) : SemE := fun m => eDct i m fun ks ds => (f m).bind fun y => atR ks ds y
def eInD (c : Bool) (i : Nat) (f : SemE) : SemE := fun m => (f m).bind fun y => eDct i m fun ks ds => hasR c ks y
def sPutD (i : Nat) (f g : SemE) : SemS := fun m => ofR m (g m) fun d => dctAt i m fun q ks ds => ofR m (f m) fun y => ofR m (keyR y) fun k => if hasT d = true then .stuck else if (q.l || q.n) = true then .stuck else if ks.length < sizeLine then .nx (m.set i (some (.dct q (dPutK ks k) (dPutV ks ds k d)))) else .stuck
section
variable {X : Cx} {b : Bs} {W : WX} {o e : Expr} {f g : SemE} {i : Nat} {x : Str} {px pos pos' : Pos}
theorem ss_newD (hN : X.N.Nodup) (hi : X.N[i]? = some x) (hx : Loc X.env.scope x) (hfn : X.fn x = true ∨ X.env.scope.names.lookup x = some .local := by first | exact .inl rfl | exact .inr rfl)
    (hs : swapsWithSole [.Name x px] (.Dict [] [] pos') pos.line X.env = pure false := by rfl) (hw : swappedStores [.Name x px] (.Dict [] [] pos') X.env = pure none := by rfl) : SS X b W (.Assign [.Name x px] (.Dict [] [] pos') pos) (sNewD i) :=
  PS.weak (ps_asg pe_dnewT (pg_name hN hi hx hfn) hs hw) fun D' σ H ⟨F, m, R, p⟩ => by
    intro q hq
    have G := Grow.loose (o := .dT []) R.sub hq
    exact p _ F _ (R.putN G (.inr (.inr (.inr ⟨⟨none, false, false⟩, [], [], q, [], rfl, rfl, (fun _ z => nomatch z), ⟨_, upd_same, rfl⟩, R.sub.free hq, hq, rfl, .nil, rfl⟩)))) G.prog
theorem dct_slot {F H : Hp} {m : Sl} {σ : L2.St} {qt : DT} {ks : List (List Int)} {ds : List D} (R : Rel X.K b F m σ H) (h : m[i]? = some (some (.dct qt ks ds))) : ∃ a kvs, σ[i]? = some (some (.ref a)) ∧ DctOk X.K F b.H0 H qt ks ds (.ref a) a kvs := by
  obtain ⟨v, h1, h2⟩ := R.slot i _ h
  obtain ⟨a, kvs, p⟩ := h2.dct
  have := p.v
  subst this
  exact ⟨a, kvs, h1, p⟩
theorem DctOk.rd {F H0 H : Hp} {qt : DT} {ks : List (List Int)} {ds : List D} {v : V} {a : Addr} {kvs : List (List Key × V)} (p : DctOk X.K F H0 H qt ks ds v a kvs) (hn : ¬ qt.n = true) : Rd H a (.dT kvs) := by
  obtain ⟨u, h1, h2⟩ := p.al
  unfold DU at h2
  rw [if_neg hn] at h2
  split at h2
  · obtain ⟨od, rfl⟩ := h2; exact .inr ⟨od, h1⟩
  · rw [h2] at h1; exact .inl h1
theorem ln_no {q : DT} (h : ¬ (q.l || q.n) = true) : q.l = false ∧ q.n = false := by
  cases a : q.l <;> cases b : q.n <;> simp_all
theorem DctOk.un {F H0 H : Hp} {qt : DT} {ks : List (List Int)} {ds : List D} {v : V} {a : Addr} {kvs : List (List Key × V)} (p : DctOk X.K F H0 H qt ks ds v a kvs) (hl : qt.l = false) (hn : qt.n = false) : H a = some (.dT kvs) := by
  obtain ⟨u, h1, h2⟩ := p.al
  unfold DU at h2
  rw [hn, hl] at h2
  rw [h1]; exact congrArg _ h2
theorem DctOk.len {F H0 H : Hp} {qt : DT} {ks : List (List Int)} {ds : List D} {v : V} {a : Addr} {kvs : List (List Key × V)} (p : DctOk X.K F H0 H qt ks ds v a kvs) : kvs.length = ks.length := by
  have := congrArg List.length p.k
  simpa using this
theorem keyR_rp {F H0 H : Hp} {d : D} {k : List Int} {v : V} (h : keyR d = .ok k) (r : Rp X.K F H0 H d v) : ∃ a, v = .ref a ∧ H a = some (.tup ((k.map (Sum.inl : Int → Key)).map kV)) := by
  unfold keyR at h
  cases q : keyOf d with
  | none => rw [q] at h; cases h
  | some l => rw [q] at h; cases h; exact keyOf_rp q r
theorem dget_t {H : Hp} {a b : Addr} {kvs : List (List Key × V)} {k : List Key} (e : Rd H a (.dT kvs)) (eb : H b = some (.tup (k.map kV))) : DGet H a (.ref b) (valV kvs k) := .inr ⟨kvs, k, b, e, rfl, eb, rfl⟩
theorem se_getD (hu : X.A.units + 65 < cLine) (ho : PE X o (tVar i)) (hf : SE X b W e f) (hs : NoSl e := by exact fun _ _ => rfl) : SE X b W (.Subscript o e pos) (eGetD i f) := by
  refine PE.weak (pe_dget (by omega) ho hf hs) fun σ H Q ⟨F, m, R, p⟩ => ?_
  unfold eGetD eDct at p
  split at p
  · rename_i qt ks ds hm
    split at p
    · exact p.elim
    rename_i hqn
    obtain ⟨a, kvs, h1, _⟩ := dct_slot R hm
    refine ⟨.ref a, h1, seq R p fun y F1 H1 v R1 G1 hv p1 => ?_⟩
    obtain ⟨a', kvs, h2, P⟩ := dct_slot R1 hm
    rw [h1] at h2; cases h2
    unfold atR at p1
    cases hk : keyR y with
    | exc c => unfold keyR at hk; split at hk <;> cases hk
    | stuck => rw [hk] at p1; exact p1.elim
    | ok k =>
      rw [hk] at p1
      simp only [CT.R.bind_ok] at p1
      obtain ⟨c, rfl, hc⟩ := keyR_rp hk hv
      split at p1
      · rename_i d hd
        obtain ⟨w, k1, k2⟩ := (dAt_val k P.k P.x).1 d hd
        exact ⟨a, w, rfl, by rw [← k1]; exact dget_t (P.rd hqn) hc, p1.here R1.sub _ k2⟩
      · exact p1.elim
  · exact p.elim
theorem st_notInD (hu : X.A.units + 65 < cLine) (ho : PE X o (tVar i)) (hf : SE X b W e f) (hb : behindInMarks .NotIn o = false := by rfl) : ST X b W (.Compare e [.NotIn] [o] pos) (tOf (eInD false i f)) := by
  refine PT.weak (L2.pt_cmp (pc_dnotin (by omega) hf ho) hb) fun σ H Q ⟨F, m, R, p⟩ => ?_
  have e1 : tOf (eInD false i f) m = (f m).bind fun y => eDct i m fun ks ds => (keyR y).bind fun k => .ok (dHas ks k == false) := by
    unfold tOf eInD eDct hasR
    cases f m with
    | ok y =>
      simp only [CT.R.bind_ok]
      split
      · split
        · rfl
        · cases keyR y <;> rfl
      · rfl
    | exc c => rfl
    | stuck => rfl
  rw [e1] at p
  refine seq R p fun y F1 H1 v R1 G1 hv p1 => ?_
  unfold eDct at p1
  split at p1
  · rename_i qt ks ds hm
    split at p1
    · exact p1.elim
    rename_i hqn
    obtain ⟨a, kvs, h1, P⟩ := dct_slot R1 hm
    cases hk : keyR y with
    | exc c => unfold keyR at hk; split at hk <;> cases hk
    | stuck => rw [hk] at p1; exact p1.elim
    | ok k =>
      rw [hk] at p1
      simp only [CT.R.bind_ok] at p1
      obtain ⟨c, rfl, hc⟩ := keyR_rp hk hv
      refine ⟨.ref a, h1, a, _, rfl, dget_t (P.rd hqn) hc, _, rfl, ?_⟩
      rw [(dAt_val (ds := ds) k P.k P.x).2]
      have := p1.here R1.sub
      rwa [show (dHas ks k == false) = !dHas ks k from by cases dHas ks k <;> rfl] at this
  · exact p1.elim
theorem ss_putD {v : Expr} (hu : X.A.units + 65 < cLine) (ho : PE X o (tVar i)) (hf : SE X b W e f) (hg : SE X b W v g) (hs : swapsWith v (some (.Subscript o e pos')) pos.line X.env = pure false := by rfl) :
    SS X b W (.Assign [.Subscript o e pos'] v pos) (sPutD i f g) := by
  refine PS.weak (ps_dput (by omega) ho hf hg hs) fun D' σ H ⟨F, m, R, p⟩ => ?_
  refine seqS R p fun d F1 H1 w R1 G1 hw p1 => ?_
  unfold dctAt at p1
  split at p1
  · rename_i qt ks ds hm
    obtain ⟨a, _, h1, _⟩ := dct_slot R1 hm
    refine ⟨.ref a, h1, seqS R1 p1 fun y F2 H2 u R2 G2 hu p2 => ?_⟩
    obtain ⟨a', kvs, h2, P⟩ := dct_slot R2 hm
    rw [h1] at h2; cases h2
    cases hk : keyR y with
    | exc c => unfold keyR at hk; split at hk <;> cases hk
    | stuck => rw [hk] at p2; exact p2.elim
    | ok k =>
      rw [hk] at p2
      simp only [ofR_ok] at p2
      obtain ⟨c, rfl, hc⟩ := keyR_rp hk hu
      split at p2
      · exact p2.elim
      · rename_i hd
        have hd : hasT d = false := by simpa using hd
        split at p2
        · exact p2.elim
        rename_i hql
        obtain ⟨qo, ql, qn⟩ := qt
        obtain ⟨e1, e2⟩ := ln_no hql
        obtain rfl : ql = false := e1
        obtain rfl : qn = false := e2
        split at p2
        · rename_i hl
          obtain ⟨q1, q2⟩ := dPut_val (k := k) P.k P.x (hw.grow G2)
          refine ⟨a, _, rfl, DPut.t (P.un rfl rfl) hc (by rw [P.len]; exact hl), p2 σ F2 _ (R2.chgD hm h1 P q1 q2 (hasTL_dPut hd P.nx)) ⟨Same.refl _, fun c' o' hc' ho => ?_⟩⟩
          rw [upd_ne (fun z => by subst z; rw [P.un rfl rfl] at hc'; cases hc'; exact False.elim ho)]; exact hc'
        · exact p2.elim
  · exact p1.elim
end
end CT

namespace CT
open PySem PySem.Spec PyProof.Rows L2
def Itit (d : Addr) (o : Obj) (kvs : List (List Key × V)) : It :=
  ⟨fun i H => H d = some (.frz o (.dT kvs)) ∧ i < kvs.length, fun i H x H' => ∃ T k v q, kvs[i]? = some (k, v) ∧ x = .ref T ∧ H T = none ∧ H q = some (.tup (k.map kV)) ∧ H' = upd H T (.tup [.ref q, v]), fun i H => H d = some (.frz o (.dT kvs)) ∧ kvs.length ≤ i⟩
theorem frzT' {X : Cx} {pins : List (Addr × Obj)} {σ : L2.St} {H : Hp} {s : Shared} {d : Addr} {o : Obj} {kvs : List (List Key × V)} (I : Inv X pins σ H s) (h : H d = some (.frz o (.dT kvs))) :
    (d == sysModules) = false ∧ s.heap.get? d = some o ∧ o.ExactDict ∧ ∃ (es : Array DictEntry) (ep : Nat), o.data = .dict es ep ∧ es.size = kvs.length ∧
      ∀ (i : Nat) (k : List Key) (v : V), kvs[i]? = some (k, v) → ∃ (en : DictEntry) (q : Addr), es[i]? = some en ∧ en.key = .ref q ∧ H q = some (.tup (k.map kV)) ∧ RelV v en.val := by
  obtain ⟨hd, z, hs, xs, pr, o', es, ep, ho, hx, hdt, he, _⟩ := I.hok d _ h
  rw [hd] at ho
  cases ho
  refine ⟨hs, hd, hx, es, ep, hdt, ?_, fun i k v e => ?_⟩
  · have l1 : es.size = xs.length := size_of_entries he
    have l2 : kvs.length = xs.length := Paired.length pr
    omega
  · obtain ⟨b, hb, e1, e2, e3⟩ := paired_get pr e
    have q := entry_at he i
    rw [hb] at q
    exact ⟨_, b.2.1, q, rfl, e2, e3⟩
theorem turn_itemsT {P : Program} {w : World} {K : PySem.W.Frag} {d : Addr} {o : Obj} {es : Array DictEntry} {ep : Nat} {kvs : List (List Key × V)} {elts : List Expr} {kk : Nat} {tpos : Pos} (it : Addr) (hod : o.data = .dict es ep) :
    Turn P w K (.Tuple elts kk tpos) (Itit d o kvs) [it] it (fun i h => ∃ ok ov, IsItemIter h it d i kvs.length ep ok ov) where
  mem := by simp
  obj := fun i h st b hb => by
    have e : b = it := by simpa using hb
    subst e
    obtain ⟨ok, ov, e⟩ := st
    exact ⟨_, e, fun v z => nomatch z⟩
  keep := fun i h h' st k => let ⟨ok, ov, e⟩ := st; ⟨ok, ov, k it (by simp) _ e⟩
  item := by
    intro X hP hw hK hc i pins s σ H E I hf st hg
    subst hP hw hK
    obtain ⟨hd, hi⟩ := hg
    obtain ⟨hs, hgd, hx, es', ep', hdt, hsz, ent⟩ := frzT' I hd
    obtain ⟨rfl, rfl⟩ := dict_ep hod hdt
    obtain ⟨⟨k, v⟩, hkv⟩ : ∃ p, kvs[i]? = some p := ⟨kvs[i], List.getElem?_eq_getElem hi⟩
    obtain ⟨en, q, hen, hkey, hq, hval⟩ := ent i k v hkv
    obtain ⟨ok, ov, he⟩ := st
    rw [← hsz] at he
    have hlt : it < s.heap.objs.size := Heap.lt_size he
    have hi' : i < es'.size := by omega
    have een : es'[i] = en := by rw [Array.getElem?_eq_getElem hi'] at hen; exact Option.some.inj hen
    refine DT.nextI he ⟨o, hgd, hx, hdt⟩ hi' fun h' ho hT hz hk => ?_
    refine ⟨_, rfl, wpAny_letOwnedTupleGo_items (s := { s with heap := h' }) ho fun h'' he' sb => ?_⟩
    have hT2 : h''.get? s.heap.objs.size = some { cls := .type "tuple", data := .seq #[es'[i].key, es'[i].val] } := (sb.2 _ (Nat.ne_of_gt hlt)).trans hT
    rw [een, hkey] at hT2
    have new : ObjOk X.prog X.w (upd H s.heap.objs.size (.tup [.ref q, v])) h'' s.heap.objs.size (.tup [.ref q, v]) :=
      ⟨by show 2 ≤ sizeLine; decide, [.ref q, en.val], .cons rfl (.cons hval .nil), ⟨_, hT2, rfl, _, rfl⟩⟩
    have I1 : Inv X pins σ (upd H s.heap.objs.size (.tup [.ref q, v])) { s with heap := h'' } :=
      I.turnedNew (t' := s.toks) (ch := [it]) (fun b ob hb e => (sb.2 b (by simpa using hb)).trans (hk b ob (by simpa using hb) e)) hf (Nat.le_refl _) new
    refine ⟨.ref s.heap.objs.size, _, I1, rfl, ⟨_, k, v, q, hkv, rfl, I.hok.fresh (Nat.le_refl _), hq, rfl⟩, ⟨es'[i].key, es'[i].val, ?_⟩, fun b hb => ?_⟩
    · rw [← hsz]; exact he'
    · have e : b = it := by simpa using hb
      rw [e, upd_ne (Nat.ne_of_lt hlt)]
      exact (hf it (by simp)).1
  done := by
    intro X hP hw hK hc i pins s σ H E I hf st hg
    subst hP hw hK
    obtain ⟨hd, hi⟩ := hg
    obtain ⟨f0, f1, f2, f3, f4, f5⟩ := hf it (by simp)
    obtain ⟨hs, hgd, hx, es', ep', hdt, hsz, _⟩ := frzT' I hd
    obtain ⟨rfl, rfl⟩ := dict_ep hod hdt
    obtain ⟨ok, ov, he⟩ := st
    rw [← hsz] at he
    exact DT.endI (I.ok.hd hc) he ⟨o, hgd, hx, hdt⟩ (by omega) fun h' eb => ⟨rfl, I.turned (t' := s.toks) (fun b ob hb e => eb b ob hb e) f0 f1 f3 f4 f5⟩
  self := fun A i s Q E st h => let ⟨_, _, e⟩ := st; PySem.W.kcp_self e h
def iItemsT (td : TE) : TI := fun σ H R => td σ H fun x H1 => ∃ d o kvs, x = .ref d ∧ H1 d = some (.frz o (.dT kvs)) ∧ R (Itit d o kvs) H1
theorem pi_itemsT {X : Cx} {e : Expr} {td : TE} {apos cpos : Pos} {elts : List Expr} {kk : Nat} {tpos : Pos} (he : PE X e td) (hbase : attributeBase e "items" X.env (eval e X.env) = eval e X.env := by rfl) (hline : (apos.endLine == cpos.line) = true := by rfl) :
    PI X (.Tuple elts kk tpos) (.Call (.Attribute e "items" apos) [] [] cpos) (iItemsT td) := by
  refine ⟨fun pins s σ H R I h => ?_⟩
  refine wpAny_Call_method (T := "dict") (id := "dict.items") hbase rfl hline PySem.F.plainAttrs_dict PySem.F.slot_dict_items PySem.F.type_dict_items (thn (he.run pins s σ H _ I h) fun u s1 ⟨x, H1, I1, rx, d, o, kvs, ex, hd, q⟩ => ?_)
  subst ex
  obtain rfl : u = Value.ref d := rx
  obtain ⟨hs, hgd, hx, es, ep, hdt, hsz, _⟩ := frzT' I1 hd
  have hm : DT.Raw s1.heap d es ep := ⟨o, hgd, hx, hdt⟩
  refine ⟨hm.typeIs, fun b eb => ?_, ?_⟩
  · cases eb; exact ⟨o, hgd, hx.2.1⟩
  have I2 : Inv X pins σ H1 { s1 with heap := s1.heap.push { cls := .type "dict_items", data := .fields #[.ref d] } } := I1.kept (t' := s1.toks) fun b ob q => Heap.get?_push_of_some _ q
  have fin : wpAny (model X.prog X.w) X.A (pyIter (.ref s1.heap.objs.size)) (PIE X pins σ (.Tuple elts kk tpos) R) X.xe { s1 with heap := s1.heap.push { cls := .type "dict_items", data := .fields #[.ref d] } } := by
    refine DT.iterI (d := d) ⟨_, Heap.get?_push_size _ rfl, rfl, rfl⟩ (hm.push _) (pi_one (tk := s1.toks) I2 _ (turn_itemsT _ hdt) ⟨.none, .none, ?_⟩ q)
    rw [← hsz]
    exact Heap.get?_push_size _ rfl
  show wpAny _ _ (callWith cpos (.builtin "dict.items") [.ref d] [] []) _ X.xe s1
  exact method_meetsIn PySem.F.slot_dict_items PySem.F.entry_dict_items rfl (PySem.evalArgs_none ⟨rfl, hm.typeIs, PySem.F.args_dict_items_1 _, _, DT.meetsItems (es := es) (ep := ep) hs, hm, fin⟩)
end CT

namespace CT
open PySem PySem.Spec PyProof.Rows L2
section
variable {K : PySem.W.Frag} {F F2 H0 H H2 : Hp}
structure Stays (K : PySem.W.Frag) (F H F2 H2 : Hp) : Prop where
  fl : ∀ a xs, F a = some (.lst xs) → F2 a = some (.lst xs)
  fs : ∀ a xs, SqL K F a xs → SqL K F2 a xs
  ht : ∀ a xs, H a = some (.tup xs) → H2 a = some (.tup xs)
  hl : ∀ a xs, H a = some (.lst xs) → H2 a = some (.lst xs)
  fd : ∀ a kvs, F a = some (.dT kvs) → F2 a = some (.dT kvs)
  hx : ∀ a c, H a = some (KxO c a) → H2 a = some (KxO c a)
mutual
theorem Rp.stays (t : Stays K F H F2 H2) : ∀ (d : D) (v : V), Rp K F H0 H d v → Rp K F2 H0 H2 d v
  | .non, _, h => by cases h; exact .non
  | .bl _, _, h => by cases h; exact .bl _
  | .int _, _, h => by cases h; exact .int _
  | .str _, _, h => by cases h; exact .str _
  | .unk, _, h => by cases h; exact .unk
  | .ex _, _, h => by
    cases h with
    | ex a => exact .ex (t.hx _ _ a)
  | .fn _, _, h => by
    cases h with
    | fn a => exact .fn a
  | .dct _ _ _, _, h => by cases h; exact .dct
  | .tup ds, _, h => by
    cases h with
    | tup a b => exact .tup (t.ht _ _ a) (RpL.stays t ds _ b)
  | .lst true ds, _, h => by
    cases h with
    | tmF a b => exact .tmF (t.fl _ _ a) (RpL.stays t ds _ b)
    | tmN a b c => exact .tmN a (t.hl _ _ b) (RpL.stays t ds _ c)
  | .lst false ds, _, h => by
    cases h with
    | lst a b => exact .lst (t.fl _ _ a) (RpL.stays t ds _ b)
  | .fr ds, _, h => by
    cases h with
    | fr a b => exact .fr (t.fs _ _ a) (RpL.stays t ds _ b)
  | .dic ks ds, _, h => by
    cases h with
    | dic a b c => exact .dic (t.fd _ _ a) b (RpL.stays t ds _ c)
theorem RpL.stays (t : Stays K F H F2 H2) : ∀ (ds : List D) (vs : List V), RpL K F H0 H ds vs → RpL K F2 H0 H2 ds vs
  | [], _, h => by cases h; exact .nil
  | d :: ds, _, h => by
    cases h with
    | cons a b => exact .cons (Rp.stays t d _ a) (RpL.stays t ds _ b)
end
def Odd (o : HO) : Prop := (∃ kvs, o = .dT kvs) ∨ ∃ od kvs, o = .frz od (.dT kvs)
theorem Odd.lst {o : HO} (h : Odd o) (xs : List V) : o ≠ .lst xs := by rcases h with ⟨_, rfl⟩ | ⟨_, _, rfl⟩ <;> intro z <;> cases z
theorem Odd.tup {o : HO} (h : Odd o) (xs : List V) : o ≠ .tup xs := by rcases h with ⟨_, rfl⟩ | ⟨_, _, rfl⟩ <;> intro z <;> cases z
theorem Odd.fl {o : HO} (h : Odd o) (od : Obj) (xs : List V) : o ≠ .frz od (.lst xs) := by rcases h with ⟨_, rfl⟩ | ⟨_, _, rfl⟩ <;> intro z <;> cases z
theorem Odd.kx {o : HO} (h : Odd o) (c : Value) (a : Addr) : o ≠ KxO c a := by rcases h with ⟨_, rfl⟩ | ⟨_, _, rfl⟩ <;> (unfold KxO; intro z; cases z)
theorem stays_at {d : Addr} {o1 o2 : HO} (s : Same F H) (h1 : H d = some o1) (od : Odd o1) (nf : ∀ kvs, F d ≠ some (.dT kvs)) (f : ∀ c, c ≠ d → F2 c = F c) : Stays K F H F2 (upd H d o2) where
  fl := fun a xs e => by rw [f a (fun z => by subst z; have := s _ _ e; rw [h1] at this; exact od.lst _ (Option.some.inj this))]; exact e
  fs := fun a xs e => by
    rcases e with (e | ⟨o, e⟩) | e
    · exact .inl (.inl (by rw [f a (fun z => by subst z; have := s _ _ e; rw [h1] at this; exact od.lst _ (Option.some.inj this))]; exact e))
    · exact .inl (.inr ⟨o, by rw [f a (fun z => by subst z; have := s _ _ e; rw [h1] at this; exact od.fl _ _ (Option.some.inj this))]; exact e⟩)
    · exact .inr e
  ht := fun a xs e => by rw [upd_ne (fun z => by subst z; rw [h1] at e; exact od.tup _ (Option.some.inj e))]; exact e
  hl := fun a xs e => by rw [upd_ne (fun z => by subst z; rw [h1] at e; exact od.lst _ (Option.some.inj e))]; exact e
  fd := fun a kvs e => by rw [f a (fun z => by subst z; exact nf _ e)]; exact e
  hx := fun a c e => by rw [upd_ne (fun z => by subst z; rw [h1] at e; exact od.kx _ _ (Option.some.inj e))]; exact e
end
section
variable {K : PySem.W.Frag} {b : Bs} {F F2 H : Hp} {m : Sl} {σ : L2.St} {d : Addr} {o1 o2 : HO}
theorem Rel.swap (r : Rel K b F m σ H) (h1 : H d = some o1) (od : Odd o1) (nf : ∀ kvs, F d ≠ some (.dT kvs)) (h0 : b.H0 d = none) (f0 : b.F0 d = none) (f : ∀ c, c ≠ d → F2 c = F c) (f2 : F2 d = none ∨ F2 d = some o2)
    (far : ∀ (j : Nat) (e : D) (v : V), m[j]? = some (some e) → σ[j]? = some (some v) → Owns H e v d → False) : Rel K b F2 m σ (upd H d o2) := by
  have t := stays_at (K := K) (o2 := o2) r.sub h1 od nf f
  have back : ∀ (j : Nat) (e : D) (v : V) (a : Addr), m[j]? = some (some e) → σ[j]? = some (some v) → Owns (upd H d o2) e v a → Owns H e v a := fun j e v a q1 q2 o => by
    obtain ⟨w, k1, k2⟩ := r.slot j e q1
    rw [q2] at k1; cases k1
    exact o.back t.ht (fun x xs z => t.hl _ _ (r.sub _ _ z)) (fun c xs _ z => t.hl _ _ z) k2
  refine ⟨r.len, ⟨fun c o e => ?_, fun c o e => ?_, fun c o e => ?_, fun c o e => ?_⟩, fun j e q => ?_, fun p q x y v w c e1 e2 e3 e4 o1' o2' => r.apart p q x y v w c e1 e2 e3 e4 (back _ _ _ _ e1 e3 o1') (back _ _ _ _ e2 e4 o2')⟩
  · rw [upd_ne (fun z => by subst z; rw [h0] at e; cases e)]; exact r.grow.same _ _ e
  · rw [f c (fun z => by subst z; rw [f0] at e; cases e)]; exact r.grow.sub _ _ e
  · by_cases hc : c = d
    · subst hc
      rcases f2 with f2 | f2
      · rw [f2] at e; cases e
      · rw [upd_same, ← f2]; exact e
    · rw [f c hc] at e; rw [upd_ne hc]; exact r.sub _ _ e
  · by_cases hc : c = d
    · subst hc; exact .inr h0
    · rw [f c hc] at e; exact r.grow.new _ _ e
  · obtain ⟨v, k1, k2⟩ := r.slot j e q
    refine ⟨v, k1, ?_⟩
    rcases k2.ow with ⟨as, z, n⟩ | ⟨qq, ks, ds, a, kvs, rfl, p⟩
    · exact .of (Ow.keepG (fun d v _ h => Rp.stays t d v h) t.ht (fun a xs e => ⟨t.fl _ _ e, t.hl _ _ (r.sub _ _ e)⟩) _ _ _ z (fun a _ xs e => t.hl _ _ e) fun a ha xs _ e => by rw [f a (fun z' => by subst z'; exact far j _ _ q k1 ((Owns.iff z).mpr ha))]; exact e) n
    · have hc : a ≠ d := fun z => far j _ _ q k1 (.inr (.inl ⟨qq, ks, ds, rfl, by rw [← z]; exact p.v⟩))
      exact .inr (.inr (.inr ⟨qq, ks, ds, a, kvs, rfl, p.v, p.o, p.al.imp fun u h => ⟨by rw [upd_ne hc]; exact h.1, h.2.keep t.ht⟩, by rw [f a hc]; exact p.fa, p.ha, p.k, RpL.stays t _ _ p.x, p.nx⟩))
theorem Owns.fa {H0 : Hp} {e : D} {v : V} {a : Addr} (s : SlotOk K F H0 H e v) (o : Owns H e v a) : F a = none := o.free s
end
def dPairs : List (List Int) → List D → List D
  | k :: ks, d :: ds => .tup [.tup (k.map .int), d] :: dPairs ks ds
  | _, _ => []
theorem dPairs_get : ∀ {ks : List (List Int)} {ds : List D} {i : Nat} {k : List Int} {d : D}, ks[i]? = some k → ds[i]? = some d → (dPairs ks ds)[i]? = some (.tup [.tup (k.map .int), d])
  | k :: ks, d :: ds, 0, _, _, h, h' => by simp at h h'; subst h h'; rfl
  | k :: ks, d :: ds, i + 1, _, _, h, h' => by simp only [dPairs, List.getElem?_cons_succ] at h h' ⊢; exact dPairs_get h h'
  | [], _, _, _, _, h, _ => by simp at h
  | _ :: _, [], _, _, _, _, h => by simp at h
theorem dPairs_len : ∀ {ks : List (List Int)} {ds : List D}, ks.length = ds.length → (dPairs ks ds).length = ks.length
  | [], [], _ => rfl
  | k :: ks, d :: ds, h => by simp only [dPairs, List.length_cons] at h ⊢; rw [dPairs_len (by omega)]
  | [], _ :: _, h => by simp at h
  | _ :: _, [], h => by simp at h
theorem wk_items {K : PySem.W.Frag} {F H0 H : Hp} {a : Addr} {od : Obj} {kvs : List (List Key × V)} {ks : List (List Int)} {ds : List D} (hd : H a = some (.frz od (.dT kvs))) (hk : kvs.map (·.1) = ks.map (·.map Sum.inl)) (hx : RpL K F H0 H ds (kvs.map (·.2))) (n : hasTL ds = false) :
    Wk K H0 true (Itit a od kvs) F H (dPairs ks ds) := by
  have l1 : kvs.length = ks.length := by simpa using congrArg List.length hk
  have l2 : ds.length = kvs.length := by simpa using hx.length
  have l3 := dPairs_len (ks := ks) (ds := ds) (by omega)
  refine ⟨fun i F' H' l hi => ⟨l.2.2.1 _ _ hd trivial, by omega⟩, fun i F' H' x H'' l hi y => ?_, fun F' H' l => ⟨l.2.2.1 _ _ hd trivial, by omega⟩⟩
  obtain ⟨T, k, v, q, e1, rfl, hT, hq, rfl⟩ := y
  have ek : (ks.map (·.map (Sum.inl : Int → Key)))[i]? = some k := by rw [← hk, List.getElem?_map, e1]; rfl
  rw [List.getElem?_map] at ek
  obtain ⟨k', hk', rfl⟩ : ∃ k', ks[i]? = some k' ∧ k'.map Sum.inl = k := by
    cases z : ks[i]? with
    | none => rw [z] at ek; cases ek
    | some k' => rw [z] at ek; exact ⟨k', rfl, Option.some.inj ek⟩
  have hl : i < ds.length := by omega
  have G := Grow.still (o := .tup [.ref q, v]) l.2.1 hT
  obtain ⟨w, k1, k2⟩ := hx.get (i := i) (d := ds[i]) (by simp [hl])
  rw [List.getElem?_map, e1] at k1
  cases k1
  have k3 : Rp K F' H0 H' ds[i] v := (Rp.keep l.2.2.1 _ _ (hasTL_get (i := i) n (by simp [hl])) k2).mono l.1 (Same.refl _)
  refine ⟨_, .tup [.tup (k'.map .int), ds[i]], G, dPairs_get hk' (by simp [hl]), .tup upd_same (.cons ?_ (.cons (k3.grow G) .nil))⟩
  refine .tup (G.same _ _ hq) ?_
  rw [List.map_map]
  exact ints_rp' k'
where
  ints_rp' {K : PySem.W.Frag} {F H0 H : Hp} : ∀ ns : List Int, RpL K F H0 H (ns.map D.int) (ns.map (kV ∘ Sum.inl))
    | [] => .nil
    | n :: ns => .cons (.int n) (ints_rp' ns)
def noRet : RS → RS
  | .nx m => .nx m
  | .exc c m => .exc c m
  | _ => .stuck
def sItemsD (i : Nat) (g : SemG) (k : SemS) : SemS := fun m => dctAt i m fun q ks ds => if (q.l || q.n) = true then .stuck else noRet (forGo g k (dPairs ks ds) (m.set i none))
section
variable {X : Cx} {b : Bs} {W : WX} {e tg : Expr} {body : List Stmt} {h : SemA} {g : SemG} {k : SemS} {t : TG} {vs : List Nat} {pos apos cpos tpos : Pos} {tst : SemT} {i : Nat} {elts : List Expr} {kk : Nat}
theorem for_core {F F1 H1 : Hp} {m : Sl} {σ : L2.St} {D' : Ends} {ds : List D} {J : It} (hn : NGok X.K t g vs) (R : Rel X.K b F1 m σ H1) (p : Sst X.K b W F1 H1 D' (forGo g k ds m)) (wk : Wk X.K b.H0 true J F1 H1 ds) :
    ∃ W' : Nat → Nat → L2.St → Hp → Prop, (∃ m, W' 0 m σ H1) ∧ ∀ i m σ H, W' i m σ H →
      (J.stop i H ∧ D'.nx σ H) ∨ (J.go i H ∧ ∃ N : L2.St → Hp → Prop, (∀ σ' H', N σ' H' → ∃ m', m' < m ∧ W' (i + 1) m' σ' H') ∧ ∀ x H', J.yld i H x H' → t x σ H' fun σ2 H2 => tSS X.K b W k { D' with nx := N, ct := N, bk := D'.nx } σ2 H2) := by
  refine ⟨fun i n σ' H' => n = ds.length - i ∧ i ≤ ds.length ∧ ∃ F' m', Rel X.K b F' m' σ' H' ∧ Prog F1 H1 F' H' ∧ Sst X.K b W F' H' D' (forGo g k (ds.drop i) m'), ⟨_, rfl, Nat.zero_le _, F1, m, R, Prog.refl _ _, by rw [List.drop_zero]; exact p⟩, ?_⟩
  rintro i n σ' H' ⟨rfl, hi, F', m', R', P', p'⟩
  have l : Ltr true F1 H1 F' H' := ⟨P'.sub, R'.sub, P'.tups, fun z => by cases z⟩
  by_cases hlt : i < ds.length
  · refine .inr ⟨wk.go i F' H' l hlt, fun σ2 H2 => (ds.length - (i + 1) = ds.length - (i + 1) ∧ i + 1 ≤ ds.length ∧ ∃ F2 m2, Rel X.K b F2 m2 σ2 H2 ∧ Prog F1 H1 F2 H2 ∧ Sst X.K b W F2 H2 D' (forGo g k (ds.drop (i + 1)) m2)), fun σ2 H2 z => ⟨_, by omega, z⟩, fun x H2 y => ?_⟩
    obtain ⟨F2, d, G2, e2, r2⟩ := wk.yld i F' H' x H2 l hlt y
    have hd : ds.drop i = d :: ds.drop (i + 1) := by
      obtain ⟨h1, h2⟩ := List.getElem?_eq_some_iff.mp e2
      rw [← h2]
      exact List.drop_eq_getElem_cons h1
    rw [hd] at p'
    simp only [forGo] at p'
    cases hgd : g d m' with
    | stuck => rw [hgd] at p'; exact p'.elim
    | exc c => rw [hgd] at p'; exact p'.elim
    | ok m1 =>
      rw [hgd] at p'
      simp only at p'
      have R2 := R'.step G2
      refine hn b F2 m' σ' H2 d x m1 _ R2 r2 hgd fun σ3 R3 _ => ⟨F2, m1, R3, ?_⟩
      have P2 : Prog F1 H1 F2 H2 := P'.trans G2.prog
      have p2 := Sst.prog G2.prog p'
      cases hk : k m1 with
      | nx m2 => rw [hk] at p2; exact fun σ4 F4 H4 R4 q => ⟨rfl, hlt, F4, m2, R4, P2.trans q, Sst.prog q p2⟩
      | ct m2 => rw [hk] at p2; exact fun σ4 F4 H4 R4 q => ⟨rfl, hlt, F4, m2, R4, P2.trans q, Sst.prog q p2⟩
      | bk m2 => rw [hk] at p2; exact p2
      | rt d => rw [hk] at p2; exact p2
      | exc c m2 => rw [hk] at p2; exact p2
      | stuck => rw [hk] at p2; exact p2.elim
  · have e : i = ds.length := by omega
    subst e
    rw [List.drop_length] at p'
    exact .inl ⟨wk.stop F' H' l, p' σ' F' H' R' (Prog.refl _ _)⟩
theorem ss_itemsD (hp : PassesOwn (model X.prog X.w) X.A X.env X.xe) (hc : X.calm = true) (ho : PE X e (tVar i)) (hg : PG X (.Tuple elts kk tpos) t) (hn : NGok X.K t g vs) (hb : SSs X b W body k)
    (hbase : attributeBase e "items" X.env (eval e X.env) = eval e X.env := by rfl) (hline : (apos.endLine == cpos.line) = true := by rfl) (hs : ∀ x, foldedSetIterable (.Call (.Attribute e "items" apos) [] [] cpos) X.env x = pure x := by intro _; rfl) :
    SS X b W (.For (.Tuple elts kk tpos) (.Call (.Attribute e "items" apos) [] [] cpos) body [] pos) (sItemsD i g k) := by
  refine PS.weak (ps_lock (ps_for hp hc (pi_itemsT (apos := apos) (cpos := cpos) ho hbase hline) hg hb hs)) fun D' σ H ⟨F, m, R, p⟩ => ?_
  unfold sItemsD dctAt at p
  split at p
  · rename_i qt ks ds hm
    simp only at p
    split at p
    · exact p.elim
    rename_i hql
    obtain ⟨a, kvs, hσ, P⟩ := dct_slot R hm
    have pal := P.un (ln_no hql).1 (ln_no hql).2
    refine ⟨a, .dT kvs, pal, trivial, fun od => ?_⟩
    have f0 : b.F0 a = none := by
      cases z : b.F0 a with
      | none => rfl
      | some o => have := R.grow.sub _ _ z; rw [P.fa] at this; cases this
    have far : ∀ (j : Nat) (x : D) (v : V), (m.set i none)[j]? = some (some x) → σ[j]? = some (some v) → Owns H x v a → False := fun j x v q1 q2 o => by
      by_cases c : j = i
      · subst c
        rw [List.getElem?_set_self'] at q1
        cases z : m[j]? <;> rw [z] at q1 <;> simp at q1
      · rw [List.getElem?_set_ne (fun z => c z.symm)] at q1
        exact c (R.apart j i _ _ _ _ a q1 hm q2 hσ o (.inr (.inl ⟨_, _, _, rfl, rfl⟩)))
    have R1 : Rel X.K b (upd F a (.frz od (.dT kvs))) (m.set i none) σ (upd H a (.frz od (.dT kvs))) := (R.forget i).swap pal (.inl ⟨kvs, rfl⟩) (fun _ z => by rw [P.fa] at z; cases z) P.ha f0 (fun _ h => upd_ne h) (.inr upd_same) far
    have sF : Same F (upd F a (.frz od (.dT kvs))) := same_upd P.fa
    have hH1 : (upd H a (.frz od (.dT kvs))) a = some (.frz od (.dT kvs)) := upd_same
    have x1 : RpL X.K (upd F a (.frz od (.dT kvs))) b.H0 (upd H a (.frz od (.dT kvs))) ds (kvs.map (·.2)) := RpL.stays (stays_at R.sub pal (.inl ⟨kvs, rfl⟩) (fun _ z => by rw [P.fa] at z; cases z) (fun _ h => upd_ne h)) _ _ P.x
    refine ⟨.ref a, hσ, a, od, kvs, rfl, hH1, ?_⟩
    refine for_core (F := upd F a (.frz od (.dT kvs))) hn R1 ?_ (wk_items hH1 P.k x1 P.nx)
    -- the ends
    have pr : ∀ {F' H' : Hp}, Prog (upd F a (.frz od (.dT kvs))) (upd H a (.frz od (.dT kvs))) F' H' → H' a = some (.frz od (.dT kvs)) := fun q => q.tups _ _ hH1 trivial
    have prg : ∀ {F' H' : Hp}, Prog (upd F a (.frz od (.dT kvs))) (upd H a (.frz od (.dT kvs))) F' H' → Prog F H F' H' := fun q => ⟨sF.trans q.sub, fun c o hc ho => q.tups c o (by rw [upd_ne (fun z => by subst z; rw [pal] at hc; cases hc; exact False.elim ho)]; exact hc) ho⟩
    cases hr : forGo g k (dPairs ks ds) (m.set i none) with
    | nx m' =>
      rw [hr] at p
      intro σ' F' H' R' q
      have hf := pr q
      refine ⟨hf, p σ' (fun c => if c = a then none else F' c) _ (R'.swap hf (.inr ⟨od, kvs, rfl⟩) (fun _ z => by have := R'.sub _ _ z; rw [hf] at this; cases this) P.ha f0 (fun c hc => by simp [hc]) (.inl (by simp)) fun j x v q1 q2 o => ?_) ⟨fun c o hc => ?_, fun c o hc ho => ?_⟩⟩
      · obtain ⟨w, k1, k2⟩ := R'.slot j x q1
        rw [q2] at k1; cases k1
        have z := o.fa k2
        rw [q.sub _ _ upd_same] at z; cases z
      · have hca : c ≠ a := fun z => by subst z; rw [P.fa] at hc; cases hc
        simp only [if_neg hca]
        exact q.sub _ _ (sF _ _ hc)
      · have hca : c ≠ a := fun z => by subst z; rw [pal] at hc; cases hc; exact False.elim ho
        rw [upd_ne hca]
        exact q.tups _ _ (by rw [upd_ne hca]; exact hc) ho
    | exc c m' =>
      rw [hr] at p
      exact fun σ' F' H' R' q => p σ' F' H' R' (prg q)
    | bk m' => rw [hr] at p; exact p.elim
    | ct m' => rw [hr] at p; exact p.elim
    | rt d => rw [hr] at p; exact p.elim
    | stuck => rw [hr] at p; exact p.elim
  · exact p.elim
end
end CT

namespace CT
open PySem PySem.Spec PyProof.Rows L2
end CT

namespace CT
open PySem PySem.Spec PyProof.Rows L2
end CT

namespace CT
open PySem PySem.Spec PyProof.Rows L2
theorem set_self_eq' {α : Type} {l : List α} {i : Nat} {x : α} (h : l[i]? = some x) : l.set i x = l := by
  have := set_self_eq (y := x) h
  rwa [List.set_set] at this
section
variable {K : PySem.W.Frag} {b : Bs} {F F' H H' : Hp} {m : Sl} {σ : L2.St} {a c : Addr} {u1 u2 : HO}
theorem dct_owns {q : DT} {ks : List (List Int)} {ds : List D} {a d : Addr} (o : Owns H (.dct q ks ds) (.ref a) d) : d = a := by
  have := o.dct
  cases this; rfl
end
end CT

namespace CT
open PySem PySem.Spec PyProof.Rows L2
inductive RB where
  | rt (d : D) (m : Sl) | stuck
abbrev SemB := Sl → RB
def SstB (K : PySem.W.Frag) (b : Bs) (F H : Hp) (D' : Ends) : RB → Prop
  | .rt d m' => ∀ σ' F' H' v, Rel K b F' m' σ' H' → Prog F H F' H' → Rp K F' b.H0 H' d v → hasT d = false → D'.rt v H'
  | .stuck => False
theorem SstB.prog {K : PySem.W.Frag} {b : Bs} {F H F1 H1 : Hp} {D' : Ends} {r : RB} (g : Prog F H F1 H1) (p : SstB K b F H D' r) : SstB K b F1 H1 D' r := by
  cases r with
  | rt d m => exact fun σ' F' H' v R q => p σ' F' H' v R (g.trans q)
  | stuck => exact p
def tSB (K : PySem.W.Frag) (b : Bs) (g : SemB) : TS := fun D' σ H => ∃ F m, Rel K b F m σ H ∧ SstB K b F H D' (g m)
abbrev SB (X : Cx) (b : Bs) (st : List Stmt) (g : SemB) : Prop := PSs X st (tSB X.K b g)
def bRet (f : SemE) : SemB := fun m => match f m with
  | .ok d => if hasT d = true then .stuck else .rt d m
  | _ => .stuck
def bSeq (g : SemS) (h : SemB) : SemB := fun m => match g m with
  | .nx m' => h m'
  | _ => .stuck
section
variable {X : Cx} {b : Bs} {W : WX} {st : Stmt} {rest : List Stmt} {g : SemS} {h : SemB} {e : Expr} {f : SemE} {pos : Pos}
theorem sb_ret (hf : SE X b W e f) : SB X b [.Return (some e) pos] (bRet f) := by
  refine PSs.weak (pss_one (ps_ret hf)) fun D' σ H ⟨F, m, R, p⟩ => ⟨F, m, R, ?_⟩
  unfold bRet at p
  cases hm : f m with
  | stuck => rw [hm] at p; exact p.elim
  | exc c => rw [hm] at p; exact p.elim
  | ok d =>
    rw [hm] at p
    simp only at p
    split at p
    · exact p.elim
    · rename_i hd
      exact fun F1 H1 G v hv => p σ F1 H1 v (R.step G) G.prog hv (by simpa using hd)
theorem sb_cons (h1 : SS X b W st g) (h2 : SB X b rest h) : SB X b (st :: rest) (bSeq g h) := by
  refine PSs.weak (pss_cons h1 h2) fun D' σ H ⟨F, m, R, p⟩ => ⟨F, m, R, ?_⟩
  unfold bSeq at p
  cases hg : g m with
  | nx m' => rw [hg] at p; exact fun σ' F' H' R' q => ⟨F', m', R', SstB.prog q p⟩
  | bk m' => rw [hg] at p; exact p.elim
  | ct m' => rw [hg] at p; exact p.elim
  | rt d => rw [hg] at p; exact p.elim
  | exc c m' => rw [hg] at p; exact p.elim
  | stuck => rw [hg] at p; exact p.elim
end
theorem join_some {α : Type} {o : Option (Option α)} {x : α} (h : o.join = some x) : o = some (some x) := by
  cases o with
  | none => cases h
  | some y => cases y with
    | none => cases h
    | some z => cases h; rfl
end CT

namespace CT
open PySem PySem.Spec PyProof.Rows L2
abbrev PA (kas : Kas) (xs : List (NestedKey × Addr × Value)) : Prop := Paired (fun (p : List (List Int) × Addr × V) (q : NestedKey × Addr × Value) => toN p.1 = q.1 ∧ p.2.1 = q.2.1 ∧ RelV p.2.2 q.2.2) kas xs
end CT

namespace CT
open PySem PySem.Spec PyProof.Rows L2
def tupB : PyData → Bool
  | .tuple (_ :: _) => true
  | _ => false
def notB : PyData → Bool
  | .none => false
  | .tuple _ => false
  | _ => true
def sortableB (ds : List PyData) : Bool := ds.all (fun d => ds.all (PySem.W.alike d)) && (ds.all tupB || ds.all notB) && ds.all (fun d => decide (d.depth ≤ 60))
theorem sortable_of {ds : List PyData} (h : sortableB ds = true) : PySem.W.AllAlike ds ∧ PySem.W.Sortable ds ∧ ∀ d ∈ ds, d.depth ≤ 60 := by
  unfold sortableB at h
  rw [Bool.and_eq_true, Bool.and_eq_true, Bool.or_eq_true] at h
  obtain ⟨⟨h1, h2⟩, h3⟩ := h
  refine ⟨fun d hd d' hd' => ?_, ?_, fun d hd => ?_⟩
  · rw [List.all_eq_true] at h1
    have := h1 d hd
    rw [List.all_eq_true] at this
    exact this d' hd'
  · rcases h2 with h2 | h2
    · refine .inl fun d hd => ?_
      rw [List.all_eq_true] at h2
      have := h2 d hd
      unfold tupB at this
      split at this
      · exact ⟨_, _, rfl⟩
      · cases this
    · refine .inr fun d hd => ?_
      rw [List.all_eq_true] at h2
      have := h2 d hd
      unfold notB at this
      refine ⟨fun e => by subst e; simp at this, fun xs e => by subst e; simp at this⟩
  · rw [List.all_eq_true] at h3
    simpa using h3 d hd
abbrev leP {β : Type} (k : β → PyData) : β → β → Bool := PySem.W.sortLe (listOrd itemOrd) false fun b => PySem.W.keyToks (k b)
def rSortG (K : PySem.W.Frag) : List V → Hp → VK → Prop := fun vs H Q => ∃ (a : Addr) (ps : List (V × PyData)), vs = [.ref a] ∧ SqL K H a (ps.map (·.1)) ∧ (∀ p ∈ ps, Dp K H p.1 p.2) ∧ sortableB (ps.map (·.2)) = true ∧
  ∀ p, H p = none → Q (.ref p) (upd H p (.lst ((ps.mergeSort (leP (·.2))).map (·.1))))
theorem each_vals {ps : List (V × PyData)} : ∀ {us : List Value}, Vals (ps.map (·.1)) us → PySem.W.EachIs (fun u (p : V × PyData) => RelV p.1 u ∧ p ∈ ps) us ps := by
  have go : ∀ (qs : List (V × PyData)) {us : List Value}, (∀ q ∈ qs, q ∈ ps) → Vals (qs.map (·.1)) us → PySem.W.EachIs (fun u (p : V × PyData) => RelV p.1 u ∧ p ∈ ps) us qs := by
    intro qs
    induction qs with
    | nil => intro us _ r; cases r; exact .nil
    | cons q qs ih =>
      intro us hq r
      rw [List.map_cons] at r
      cases r with
      | cons r1 r2 => exact .cons ⟨r1, hq q List.mem_cons_self⟩ (ih (fun x hx => hq x (List.mem_cons_of_mem _ hx)) r2)
  intro us r; exact go ps (fun _ h => h) r
theorem vals_each {ps : List (V × PyData)} : ∀ {us : List Value}, PySem.W.EachIs (fun u (p : V × PyData) => RelV p.1 u) us ps → Vals (ps.map (·.1)) us := by
  intro us h
  induction h with
  | nil => exact .nil
  | cons h _ ih => exact .cons h ih
theorem each_map {α β γ : Type} {R : α → β → Prop} {S : α → γ → Prop} (f : β → γ) : ∀ {as : List α} {bs : List β}, PySem.W.EachIs R as bs → (∀ a b, R a b → S a (f b)) → PySem.W.EachIs S as (bs.map f)
  | _, _, .nil, _ => .nil
  | _, _, .cons h t, k => .cons (k _ _ h) (each_map f t k)
theorem each_imp {α β : Type} {R S : α → β → Prop} : ∀ {as : List α} {bs : List β}, PySem.W.EachIs R as bs → (∀ a b, R a b → S a b) → PySem.W.EachIs S as bs
  | _, _, .nil, _ => .nil
  | _, _, .cons h t, k => .cons (k _ _ h) (each_imp t k)
section
variable {X : Cx} {b : Bs} {W : WX}
theorem call_sortG (hu : X.A.units + 65 < cLine) : CallR X (.builtin "sorted") (rSortG X.K) := by
  intro pins s σ H vs us Q I r h
  obtain ⟨a, ps, rfl, hs, hx, ok, q⟩ := h
  obtain ⟨its, rv, hl, hz⟩ := I.list hs
  obtain ⟨u, rfl, ru⟩ := vals1 r
  obtain rfl : u = Value.ref a := ru
  obtain ⟨h1, h2, h3⟩ := sortable_of ok
  have E := each_vals rv
  have hlen : its.length = ps.length := E.length
  have I' : Inv X pins σ H { s with heap := PySem.W.sortingHeap (PySem.W.copyHeap s.heap its) (s.heap.objs.size + 1) its } := I.kept (t' := s.toks) fun b u e => PySem.W.sorting_copy_old e
  have rd : ∀ u (p : V × PyData), (RelV p.1 u ∧ p ∈ ps) → ∃ as, Reads (PySem.W.sortingHeap (PySem.W.copyHeap s.heap its) (s.heap.objs.size + 1) its) u p.2 as := fun u p hp => Dp.reads I' p.2 p.1 u (hx p hp.2) hp.1
  have S := PySem.W.SortsAt.data (prog := X.prog) (w := X.w) (A := X.A.in1.in1) (s := { s with heap := PySem.W.sortingHeap (PySem.W.copyHeap s.heap its) (s.heap.objs.size + 1) its }) (vs := its) (ds := ps.map (·.2)) (each_map (·.2) E rd) h1 h2 fun d hd => by
    have := h3 d hd
    rw [Around.in1_units, Around.in1_units]; omega
  refine PySem.W.sorted_vals hl.isList S (by rw [hlen, ← List.length_map (f := (·.1))]; exact hz) ?_
  have O := PySem.W.sortVals_each (κ := PySem.W.dataKind (PySem.W.sortingHeap (PySem.W.copyHeap s.heap its) (s.heap.objs.size + 1) its) (ps.map (·.2))) (R := fun u (p : V × PyData) => RelV p.1 u) (rev := false) (ks := its) (vs := its) (bs := ps) (fun p => PySem.W.keyToks p.2) (each_imp E fun _ _ h => h.1) (each_imp E fun u p h => by
    obtain ⟨as, r⟩ := rd u p h
    exact PySem.W.dataKind_some h1 (List.mem_map.mpr ⟨p, h.2, rfl⟩) r)
  obtain ⟨n, hn⟩ := sortedAll_at s.heap its (PySem.W.sortVals (PySem.W.dataKind (PySem.W.sortingHeap (PySem.W.copyHeap s.heap its) (s.heap.objs.size + 1) its) (ps.map (·.2))) false its its).toArray
  refine ⟨.ref (s.heap.objs.size + 1), _, I.laid (a := s.heap.objs.size + 1) (o := .lst ((ps.mergeSort (leP (·.2))).map (·.1))) (t' := s.toks) (fun b o e => sortedAll_old e) (Nat.le_succ _) ⟨?_, _, n, vals_each O, hn⟩, rfl, q _ (I.hok.fresh (Nat.le_succ _))⟩
  rw [List.length_map, (List.mergeSort_perm _ _).length_eq, ← List.length_map (f := (·.1))]; exact hz
def sortD (xs : List D) : List D := xs.mergeSort (leP py)
def sortR (xs : List D) : R D := if (okPL xs && sortableB (pyL xs)) = true then .ok (.lst false (sortD xs)) else .stuck
def sortedD : List D → R D
  | [.lst _ xs] => sortR xs
  | [.fr xs] => sortR xs
  | _ => .stuck
theorem rpl_zip {K : PySem.W.Frag} {F H0 H : Hp} : ∀ {ds : List D} {us : List V}, RpL K F H0 H ds us → ∀ z ∈ us.zip ds, Rp K F H0 H z.2 z.1
  | _, _, .nil, z, h => by simp at h
  | _, _, .cons r t, z, h => by
    rw [List.zip_cons_cons] at h
    rcases List.mem_cons.mp h with e | h
    · subst e; exact r
    · exact rpl_zip t z h
theorem rpl_of {K : PySem.W.Frag} {F H0 H : Hp} : ∀ {zs : List (V × D)}, (∀ z ∈ zs, Rp K F H0 H z.2 z.1) → RpL K F H0 H (zs.map (·.2)) (zs.map (·.1))
  | [], _ => .nil
  | z :: zs, h => .cons (h z List.mem_cons_self) (rpl_of fun y hy => h y (List.mem_cons_of_mem _ hy))
theorem okPL_mem : ∀ {ds : List D}, okPL ds = true → ∀ d ∈ ds, okP d = true
  | [], _, d, h => nomatch h
  | x :: xs, h, d, hd => by
    simp only [okPL, Bool.and_eq_true] at h
    rcases List.mem_cons.mp hd with e | hd
    · subst e; exact h.1
    · exact okPL_mem h.2 d hd
theorem sort_core {F H : Hp} {σ : L2.St} {Q : VK} {a : Addr} {us : List V} {ds : List D} (s : Same F H) (hq : SqL X.K H a us) (r : RpL X.K F b.H0 H ds us) (p : Pst b W σ F H (CV X.K b Q) (sortR ds)) : rSortG X.K [.ref a] H Q := by
  unfold sortR at p
  split at p
  · rename_i c
    rw [Bool.and_eq_true] at c
    have hl := r.length
    have e1 : (us.zip ds).map (·.1) = us := List.map_fst_zip (by omega)
    have e2 : (us.zip ds).map (·.2) = ds := List.map_snd_zip (by omega)
    have hz := rpl_zip r
    refine ⟨a, (us.zip ds).map (fun z => (z.1, py z.2)), rfl, ?_, ?_, ?_, fun q hq => ?_⟩
    · rw [List.map_map]
      show SqL X.K H a ((us.zip ds).map (·.1))
      rw [e1]; exact hq
    · intro x hx
      obtain ⟨z, hz', rfl⟩ := List.mem_map.mp hx
      exact Rp.dp s _ _ (okPL_mem c.1 _ (List.of_mem_zip hz').2) (hz z hz')
    · rw [List.map_map]
      show sortableB ((us.zip ds).map (py ∘ (·.2))) = true
      rw [← List.map_map, e2, ← pyL_map]; exact c.2
    · have G := Grow.still (o := .lst (((us.zip ds).mergeSort (leP fun z => py z.2)).map (·.1))) s hq
      have m1 : (((us.zip ds).map fun z => (z.1, py z.2)).mergeSort (leP (·.2))).map (·.1) = ((us.zip ds).mergeSort (leP fun z => py z.2)).map (·.1) := by
        rw [← PySem.W.sort_maps (r := leP fun z : V × D => py z.2) (s := leP (·.2)) (fun z : V × D => (z.1, py z.2)) (fun _ _ _ _ => rfl), List.map_map]
        rfl
      have m2 : ((us.zip ds).mergeSort (leP fun z => py z.2)).map (·.2) = sortD ds := by
        rw [PySem.W.sort_maps (r := leP fun z : V × D => py z.2) (s := leP py) (fun z : V × D => z.2) (fun _ _ _ _ => rfl), e2]
        rfl
      rw [m1]
      refine (p _ _ G) _ (.lst upd_same ?_)
      rw [← m2]
      exact (rpl_of fun z h => hz z ((List.mergeSort_perm _ _).mem_iff.mp h)).grow G
  · exact p.elim
theorem c_sorted (hu : X.A.units + 65 < cLine) : CallD X b W (.builtin "sorted") sortedD := by
  refine ⟨_, call_sortG hu, fun σ F H Q xs vs s r p => ?_⟩
  unfold sortedD at p
  split at p
  · obtain ⟨v, rfl, h⟩ := r.one
    obtain ⟨a, us, rfl, h1, h2⟩ := h.list s
    exact sort_core s (.inl (.inl h1)) h2 p
  · obtain ⟨v, rfl, h⟩ := r.one
    obtain ⟨a, us, rfl, h1, h2⟩ := h.frl s
    exact sort_core s h1 h2 p
  · exact p.elim
end
end CT

namespace CT
open PySem PySem.Spec PyProof.Rows L2
end CT

namespace CT
open PySem PySem.Spec PyProof.Rows L2
end CT

namespace CT
open PySem PySem.Spec PyProof.Rows L2
theorem obj_there {P : Program} {w : World} {H : Hp} {h : Heap} {a : Addr} {o : HO} (x : ObjOk P w H h a o) : ∃ u, h.get? a = some u := by
  cases o with
  | lst xs => obtain ⟨_, _, _, _, e⟩ := x; exact ⟨_, e⟩
  | tup xs => obtain ⟨_, _, _, u, e, _⟩ := x; exact ⟨_, e⟩
  | dK kvs => obtain ⟨_, _, _, _, o, _, _, e, _⟩ := x; exact ⟨_, e⟩
  | dT kvs => obtain ⟨_, _, _, _, o, _, _, e, _⟩ := x; exact ⟨_, e⟩
  | set S n => obtain ⟨o, _, _, _, e, _⟩ := x; exact ⟨_, e⟩
  | ins C dx fs => obtain ⟨_, _, _, e, _⟩ := x; exact ⟨_, e⟩
  | own y => obtain ⟨_, e⟩ := x; exact ⟨_, e⟩
  | xd fs => obtain ⟨_, ⟨_, _, _, e, _⟩, _⟩ := x; exact ⟨_, e⟩
  | rng lo hi => obtain ⟨_, _, _, e⟩ := x; exact ⟨_, e⟩
  | frz ob u => obtain ⟨e, _⟩ := x; exact ⟨_, e⟩
  | tbl ps => exact ⟨_, (show h.get? a = some _ from x)⟩
  | met f y => exact ⟨_, (show h.get? a = some _ from x)⟩
  | ext φ => obtain ⟨_, ⟨_, e⟩, _⟩ := x; exact ⟨_, e⟩
end CT

namespace CT
open PySem PySem.Spec PyProof.Rows L2
end CT

namespace CT
open PySem PySem.Spec PyProof.Rows L2
end CT

namespace CT
open PySem PySem.Spec PyProof.Rows L2
end CT

namespace CT
open PySem PySem.Spec PyProof.Rows L2
def Owned (σ : L2.St) (m : Sl) (H : Hp) (c : Addr) : Prop := ∃ (i : Nat) (d : D) (v : V), m[i]? = some (some d) ∧ σ[i]? = some (some v) ∧ Owns H d v c
structure Step (σ : L2.St) (F H : Hp) (m : Sl) (F1 H1 : Hp) (m1 : Sl) : Prop where
  p : Prog F H F1 H1
  fr : ∀ c o, H c = some o → ¬ Owned σ m H c → H1 c = some o
  ow : ∀ c, Owned σ m1 H1 c → Owned σ m H c ∨ H c = none
  nw : ∀ c o, F1 c = some o → F c = some o ∨ H c = none ∨ Owned σ m H c
  ex : ∀ c, H1 c = none → H c = none ∨ Owned σ m H c
section
variable {K : PySem.W.Frag} {b : Bs} {σ : L2.St} {F H F1 H1 F2 H2 : Hp} {m m1 m2 : Sl}
theorem Step.refl (F H : Hp) (m : Sl) : Step σ F H m F H m := ⟨Prog.refl _ _, fun _ _ h _ => h, fun _ h => .inl h, fun _ _ h => .inl h, fun _ h => .inl h⟩
theorem Step.trans (s : Step σ F H m F1 H1 m1) (t : Step σ F1 H1 m1 F2 H2 m2) : Step σ F H m F2 H2 m2 := by
  refine ⟨s.p.trans t.p, fun c o h n => t.fr c o (s.fr c o h n) fun z => ?_, fun c z => ?_, fun c o z => ?_, fun c z => (t.ex c z).elim (s.ex c) fun y => (s.ow c y).symm⟩
  · rcases s.ow c z with z | z
    · exact n z
    · rw [z] at h; cases h
  · by_cases n : Owned σ m H c
    · exact .inl n
    · cases h : H c with
      | none => exact .inr rfl
      | some o =>
        have h1 := s.fr c o h n
        rcases t.ow c z with z | z
        · rcases s.ow c z with z | z
          · exact absurd z n
          · rw [z] at h; cases h
        · rw [z] at h1; cases h1
  · by_cases n : Owned σ m H c
    · exact .inr (.inr n)
    rcases t.nw c o z with z | z | z
    · exact s.nw c o z
    · cases h : H c with
      | none => exact .inr (.inl rfl)
      | some o' => rw [s.fr c o' h n] at z; cases z
    · rcases s.ow c z with z | z
      · exact absurd z n
      · exact .inr (.inl z)
theorem Rel.stepG (R : Rel K b F m σ H) (G : Grow F H F1 H1) : Step σ F H m F1 H1 m := ⟨G.prog, fun c o h _ => G.same c o h, fun c ⟨i, d, v, h1, h2, h3⟩ => by
  obtain ⟨w, k1, k2⟩ := R.slot i d h1
  rw [h2] at k1; cases k1
  exact .inl ⟨i, d, v, h1, h2, h3.backS R.sub G.same k2⟩, fun c o h => (G.new c o h).imp id .inl, fun c z => .inl (G.same.free z)⟩
theorem Rel.fresh (R : Rel K b F m σ H) {c : Addr} (h : H c = none ∨ Owned σ m H c) : b.H0 c = none := by
  rcases h with h | ⟨i, d, v, h1, h2, h3⟩
  · exact R.grow.same.free h
  · obtain ⟨w, k1, k2⟩ := R.slot i d h1
    rw [h2] at k1; cases k1
    obtain ⟨_, _, q⟩ := Owns.here k2 h3
    exact q
end
def Yst {α : Type} (K : PySem.W.Frag) (b : Bs) (σ : L2.St) (F H : Hp) (m : Sl) (C : α → Hp → Hp → Sl → Prop) : R (α × Sl) → Prop
  | .ok (a, m') => ∀ F' H', Rel K b F' m' σ H' → Step σ F H m F' H' m' → C a F' H' m'
  | _ => False
abbrev SemX := Sl → R (D × Sl)
abbrev SemXT := Sl → R (Bool × Sl)
abbrev SemXA := Sl → R (List D × Sl)
section
variable {α β : Type} {K : PySem.W.Frag} {b : Bs} {σ : L2.St} {F H F1 H1 : Hp} {m m1 : Sl}
theorem Yst.step {C : α → Hp → Hp → Sl → Prop} {r : R (α × Sl)} (g : Step σ F H m F1 H1 m1) (p : Yst K b σ F H m C r) : Yst K b σ F1 H1 m1 C r := by
  cases r with
  | ok a => exact fun F' H' R q => p F' H' R (g.trans q)
  | exc c => exact p
  | stuck => exact p
theorem Rp.prog {H0 : Hp} {d : D} {v : V} (g : Prog F H F1 H1) (n : hasT d = false) (h : Rp K F H0 H d v) : Rp K F1 H0 H1 d v := (Rp.keep g.tups d v n h).mono g.sub (Same.refl _)
theorem RpL.prog {H0 : Hp} {d : List D} {v : List V} (g : Prog F H F1 H1) (n : hasTL d = false) (h : RpL K F H0 H d v) : RpL K F1 H0 H1 d v := (RpL.keep g.tups d v n h).mono g.sub (Same.refl _)
end
def bindX {α β : Type} (r : R (α × Sl)) (k : α → Sl → R (β × Sl)) : R (β × Sl) := match r with
  | .ok (a, m) => k a m
  | .exc _ => .stuck
  | .stuck => .stuck
def okX (r : R D) (m : Sl) : R (D × Sl) := match r with
  | .ok d => if hasT d = true then .stuck else .ok (d, m)
  | _ => .stuck
section
variable (K : PySem.W.Frag) (b : Bs)
def CX (Q : VK) : D → Hp → Hp → Sl → Prop := fun d F' H' _ => ∀ v, Rp K F' b.H0 H' d v → hasT d = false → Q v H'
def CXs (Q : List V → Hp → Prop) : List D → Hp → Hp → Sl → Prop := fun d F' H' _ => ∀ v, RpL K F' b.H0 H' d v → hasTL d = false → Q v H'
def tSX (f : SemX) : TE := fun σ H Q => ∃ F m, Rel K b F m σ H ∧ Yst K b σ F H m (CX K b Q) (f m)
def tSXT (f : SemXT) : TT := fun σ H Q => ∃ F m, Rel K b F m σ H ∧ Yst K b σ F H m (fun c _ H' _ => Q c H') (f m)
def tSXA (f : SemXA) : TA := fun σ H Q => ∃ F m, Rel K b F m σ H ∧ Yst K b σ F H m (CXs K b Q) (f m)
end
abbrev SX (X : Cx) (b : Bs) (e : Expr) (f : SemX) : Prop := PE X e (tSX X.K b f)
abbrev SXT (X : Cx) (b : Bs) (e : Expr) (f : SemXT) : Prop := PT X e (tSXT X.K b f)
abbrev SXA (X : Cx) (b : Bs) (es : List Expr) (f : SemXA) : Prop := L2.PA X es (tSXA X.K b f)
def xOf (f : SemE) : SemX := fun m => okX (f m) m
def x2 (op : D → D → R D) (f g : SemX) : SemX := fun m => bindX (f m) fun x m1 => bindX (g m1) fun y m2 => okX (op x y) m2
def xA (op : List D → R D) (f : SemXA) : SemX := fun m => bindX (f m) fun xs m1 => okX (op xs) m1
def xaNil : SemXA := fun m => .ok ([], m)
def xaCons (f : SemX) (g : SemXA) : SemXA := fun m => bindX (f m) fun x m1 => bindX (g m1) fun xs m2 => .ok (x :: xs, m2)
def xtOf (f : SemX) : SemXT := fun m => bindX (f m) fun x m1 => match x with
  | .bl c => .ok (c, m1)
  | _ => .stuck
section
variable {X : Cx} {b : Bs} {W : WX} {e a c : Expr} {f g : SemX} {pos : Pos}
theorem seqX {R' : V → Hp → Prop} {σ : L2.St} {H : Hp} {α : Type} {k : D → Sl → R (α × Sl)} {C : α → Hp → Hp → Sl → Prop} {F : Hp} {m : Sl} (r : Rel X.K b F m σ H) (p : Yst X.K b σ F H m C (bindX (f m) k))
    (h : ∀ x m1 F1 H1 v, Rel X.K b F1 m1 σ H1 → Step σ F H m F1 H1 m1 → Rp X.K F1 b.H0 H1 x v → hasT x = false → Yst X.K b σ F1 H1 m1 C (k x m1) → R' v H1) : tSX X.K b f σ H R' := by
  refine ⟨F, m, r, ?_⟩
  cases hf : f m with
  | stuck => rw [hf] at p; exact p.elim
  | exc c => rw [hf] at p; exact p.elim
  | ok d =>
    rw [hf] at p
    exact fun F1 H1 R1 G v hv hn => h d.1 d.2 F1 H1 v R1 G hv hn (Yst.step G p)
theorem seqXA {h : SemXA} {R' : List V → Hp → Prop} {σ : L2.St} {H : Hp} {α : Type} {k : List D → Sl → R (α × Sl)} {C : α → Hp → Hp → Sl → Prop} {F : Hp} {m : Sl} (r : Rel X.K b F m σ H) (p : Yst X.K b σ F H m C (bindX (h m) k))
    (q : ∀ x m1 F1 H1 v, Rel X.K b F1 m1 σ H1 → Step σ F H m F1 H1 m1 → RpL X.K F1 b.H0 H1 x v → hasTL x = false → Yst X.K b σ F1 H1 m1 C (k x m1) → R' v H1) : tSXA X.K b h σ H R' := by
  refine ⟨F, m, r, ?_⟩
  cases hf : h m with
  | stuck => rw [hf] at p; exact p.elim
  | exc c => rw [hf] at p; exact p.elim
  | ok d =>
    rw [hf] at p
    exact fun F1 H1 R1 G v hv hn => q d.1 d.2 F1 H1 v R1 G hv hn (Yst.step G p)
theorem Yst.here {σ : L2.St} {F H : Hp} {Q : VK} {r : R D} {m : Sl} (R : Rel X.K b F m σ H) (p : Yst X.K b σ F H m (CX X.K b Q) (okX r m)) : Pst b W σ F H (CV X.K b Q) r := by
  cases r with
  | stuck => exact p.elim
  | exc c => exact p.elim
  | ok d =>
    simp only [okX] at p
    split at p
    · exact p.elim
    · rename_i hd
      exact fun F' H' G v hv => p F' H' (R.step G) (R.stepG G) v hv (by simpa using hd)
theorem sx_of {f : SemE} (h : SE X b W e f) : SX X b e (xOf f) := PE.weak h fun σ H Q ⟨F, m, R, p⟩ => ⟨F, m, R, Yst.here R p⟩
theorem sx_bin {o : Operator} {op : D → D → R D} (ho : Op2 X b W (binaryOp o) op) (hf : SX X b a f) (hg : SX X b c g) : SX X b (.BinOp a o c pos) (x2 op f g) := by
  obtain ⟨r, h1, h2⟩ := ho
  refine PE.weak (pe_op h1 hf hg) fun σ H Q ⟨F, m, R, p⟩ => ?_
  exact seqX R p fun x m1 F1 H1 v R1 G1 hv n1 p1 => seqX R1 p1 fun y m2 F2 H2 u R2 G2 hu n2 p2 => h2 σ F2 H2 Q x y v u R2.sub (hv.prog G2.p n1) hu (Yst.here R2 p2)
theorem sxt_val (hf : SX X b e f) (he : ∀ whole, isTrue e X.env whole = (do let v ← whole; standAt e.pos; holding [v] (truthy v)) := by intro _; rfl) : SXT X b e (xtOf f) := by
  refine PT.weak (L2.pt_val hf he) fun σ H Q ⟨F, m, R, p⟩ => ?_
  refine seqX R p fun x m1 F1 H1 v R1 G1 hv n1 p1 => ?_
  cases x <;> first | exact p1.elim | skip
  cases hv
  exact ⟨_, rfl, p1 F1 H1 R1 (Step.refl _ _ _)⟩
theorem sxa_nil : SXA X b [] xaNil := PA.weak pa_nil fun σ H Q ⟨F, m, R, p⟩ => p F H R (Step.refl _ _ _) [] .nil rfl
theorem sxa_cons {es : List Expr} {h : SemXA} (he : SX X b e f) (hr : SXA X b es h) (hs : starEach (e :: es) X.env = (false, eval e X.env) :: starEach es X.env := by rfl) : SXA X b (e :: es) (xaCons f h) := by
  refine PA.weak (pa_cons he hr hs) fun σ H Q ⟨F, m, R, p⟩ => ?_
  refine seqX R p fun x m1 F1 H1 v R1 G1 hv n1 p1 => seqXA R1 p1 fun xs m2 F2 H2 vs R2 G2 hvs n2 p2 => ?_
  exact p2 F2 H2 R2 (Step.refl _ _ _) _ (.cons (hv.prog G2.p n1) hvs) (by simp [hasTL, n1, n2])
theorem sx_tup {es : List Expr} {h : SemXA} {k : Nat} (ha : SXA X b es h) : SX X b (.Tuple es k pos) (xA mkTup h) := by
  refine PE.weak (pe_tup ha) fun σ H Q ⟨F, m, R, p⟩ => ?_
  refine seqXA R p fun xs m1 F1 H1 vs R1 G1 hv n1 p1 => ?_
  have p1 := Yst.here (W := fun _ _ _ _ => True) R1 p1
  unfold mkTup at p1
  split at p1
  · rename_i hl
    refine ⟨by rw [← hv.length]; exact hl, fun q hq => ?_⟩
    have G := Grow.still (o := .tup vs) R1.sub hq
    exact (p1 _ _ G) _ (.tup upd_same (hv.grow G))
  · exact p1.elim
def mkLstF (xs : List D) : R D := if xs.length ≤ sizeLine then .ok (.lst false xs) else .stuck
theorem sx_lst {es : List Expr} {h : SemXA} (ha : SXA X b es h) : SX X b (.List es pos) (xA mkLstF h) := by
  refine PE.weak (pe_lst ha) fun σ H Q ⟨F, m, R, p⟩ => ?_
  refine seqXA R p fun xs m1 F1 H1 vs R1 G1 hv n1 p1 => ?_
  have p1 := Yst.here (W := fun _ _ _ _ => True) R1 p1
  unfold mkLstF at p1
  split at p1
  · rename_i hl
    refine ⟨by rw [← hv.length]; exact hl, fun q hq => ?_⟩
    have G := Grow.still (o := .lst vs) R1.sub hq
    exact (p1 _ _ G) _ (.lst upd_same (hv.grow G))
  · exact p1.elim
theorem sx_ix (hf : SX X b a f) (hg : SX X b c g) (hs : PlainIx c := by exact fun _ _ => rfl) : SX X b (.Subscript a c pos) (x2 ixD f g) := by
  refine PE.weak (pe_ix ix_seq hf hg hs) fun σ H Q ⟨F, m, R, p⟩ => ?_
  refine seqX R p fun x m1 F1 H1 v R1 G1 hv n1 p1 => seqX R1 p1 fun y m2 F2 H2 u R2 G2 hu n2 p2 => ?_
  have hv := hv.prog G2.p n1
  have p2 := Yst.here (W := fun _ _ _ _ => True) R2 p2
  cases x <;> first | exact p2.elim | skip
  · cases y <;> first | exact p2.elim | skip
    cases hv; cases hu
    simp only [ixD] at p2
    split at p2
    · rename_i hz
      split at p2
      · rename_i c hc
        exact .inr (.inr ⟨_, _, c, rfl, rfl, hz, hc, p2.here R2.sub _ (.str _)⟩)
      · exact p2.elim
    · exact p2.elim
  · cases y <;> first | exact p2.elim | skip
    obtain ⟨a, xs, rfl, h1, h2⟩ := hv.tuple
    cases hu
    simp only [ixD] at p2
    split at p2
    · rename_i d hd
      obtain ⟨w, k1, k2⟩ := atI_rp h2 hd
      exact .inr (.inl ⟨a, xs, _, w, rfl, rfl, h1, k1, p2.here R2.sub _ k2⟩)
    · exact p2.elim
  · cases y <;> first | exact p2.elim | skip
    obtain ⟨a, xs, rfl, h1, h2⟩ := hv.list R2.sub
    cases hu
    simp only [ixD] at p2
    split at p2
    · rename_i d hd
      obtain ⟨w, k1, k2⟩ := atI_rp h2 hd
      exact .inl ⟨a, xs, _, w, rfl, rfl, .inl (.inl h1), k1, p2.here R2.sub _ k2⟩
    · exact p2.elim
  · cases y <;> first | exact p2.elim | skip
    obtain ⟨a, xs, rfl, h1, h2⟩ := hv.frl R2.sub
    cases hu
    simp only [ixD] at p2
    split at p2
    · rename_i d hd
      obtain ⟨w, k1, k2⟩ := atI_rp h2 hd
      exact .inl ⟨a, xs, _, w, rfl, rfl, h1, k1, p2.here R2.sub _ k2⟩
    · exact p2.elim
variable {x : Str} {id T : String} {es : List Expr} {h : SemXA} {op : List D → R D} {p : Pos}
theorem sx_callB (hc : CallD X b W (.builtin id) op) (hg : Gl X x) (hm : X.mg x = none) (hv : bootBuiltins x = some (.builtin id)) (ha : SXA X b (e :: es) h) (hn : x ≠ "__name__" := by decide) (hdb : (x == ("__debug__" : Str)) = false := by decide)
    (he : starEach (e :: es) X.env = (false, eval e X.env) :: starEach es X.env := by rfl) (hpl : (backTo pos (starEach es X.env)).any (·.1) = false := by rfl) : SX X b (.Call (.Name x p) (e :: es) [] pos) (xA op h) := by
  obtain ⟨r, h1, h2⟩ := hc
  refine PE.weak (pe_callB h1 hg hm hv ha hn hdb he hpl) fun σ H Q ⟨F, m, R, p⟩ => ?_
  exact seqXA R p fun xs m1 F1 H1 vs R1 G1 hv n1 p1 => h2 σ F1 H1 Q xs vs R1.sub hv (Yst.here R1 p1)
theorem sx_callTy (hc : CallD X b W (.type T) op) (hg : Gl X x) (hm : X.mg x = none) (hv : bootBuiltins x = some (.type T)) (ha : SXA X b (e :: es) h) (hn : x ≠ "__name__" := by decide) (hdb : (x == ("__debug__" : Str)) = false := by decide)
    (he : starEach (e :: es) X.env = (false, eval e X.env) :: starEach es X.env := by rfl) (hpl : (backTo pos (starEach es X.env)).any (·.1) = false := by rfl) : SX X b (.Call (.Name x p) (e :: es) [] pos) (xA op h) := by
  obtain ⟨r, h1, h2⟩ := hc
  refine PE.weak (pe_callTy h1 hg hm hv ha hn hdb he hpl) fun σ H Q ⟨F, m, R, p⟩ => ?_
  exact seqXA R p fun xs m1 F1 H1 vs R1 G1 hv n1 p1 => h2 σ F1 H1 Q xs vs R1.sub hv (Yst.here R1 p1)
theorem sx_call {n k : Nat} {fn : List D → R D} (C : Callee X.prog X.w X.K X.mg X.base b.ex x n fn k) (tk : Takes X W) (hr : Room k X.A) (hgd : X.A.guards = some []) (hg : Gl X x) (ha : SXA X b (e :: es) h) (hl : (e :: es).length = n) (hlen : ∀ m xs m1, h m = .ok (xs, m1) → xs.length = (e :: es).length) (hdb : (x == ("__debug__" : Str)) = false := by decide)
    (he : starEach (e :: es) X.env = (false, eval e X.env) :: starEach es X.env := by rfl) (hpl : (backTo pos (starEach es X.env)).any (·.1) = false := by rfl) : SX X b (.Call (.Name x p) (e :: es) [] pos) (xA (callF fn) h) := by
  obtain ⟨fa, fd, ps, F1, hm, hk, hb⟩ := C.ok
  refine PE.weak (pe_callG F1 hr hgd hg hm hk hb (fun σ => passAt tk σ) ha hdb he hpl) fun σ H Q ⟨F, m, R, p⟩ => ?_
  refine ⟨F, m, R, ?_⟩
  unfold xA at p
  cases hm : h m with
  | stuck => rw [hm] at p; exact p.elim
  | exc c => rw [hm] at p; exact p.elim
  | ok xs =>
    rw [hm] at p
    refine fun F1 H1 R1 G vs hv hn => ?_
    exact spF_call R1.sub hv R1.grow.same (by rw [← hl]; exact hlen m xs.1 xs.2 hm) (Yst.here R1 (Yst.step G p))
end
end CT

namespace CT
open PySem PySem.Spec PyProof.Rows L2
def noK (ds : List D) : List (List Int) := ds.map fun _ => []
def lentD (o : Option Addr) (ds : List D) : D := .dct ⟨o, true, true⟩ (noK ds) ds
def less1 (H : Hp) (a : Addr) : Hp := fun x => if x = a then none else H x
theorem less1_ne {H : Hp} {a x : Addr} (h1 : x ≠ a) : less1 H a x = H x := by unfold less1; rw [if_neg h1]
theorem less1_a {H : Hp} {a : Addr} : less1 H a a = none := by unfold less1; rw [if_pos rfl]
theorem less1_same {H : Hp} {a : Addr} : Same (less1 H a) H := fun x o e => by
  unfold less1 at e
  split at e
  · cases e
  · exact e
section
variable {K : PySem.W.Frag} {b : Bs} {F F' H H' H0 : Hp} {m : Sl} {σ : L2.St} {a : Addr}
theorem DctOk.lst {q : DT} {ks : List (List Int)} {ds : List D} {v : V} {kvs : List (List Key × V)} (p : DctOk K F H0 H q ks ds v a kvs) (hl : q.l = true) (hn : q.n = true) (ho : q.o.isSome = true) : H a = some (.lst (kvs.map (·.2))) := by
  obtain ⟨u, h1, h2⟩ := p.al
  unfold DU at h2
  rw [if_pos hn, if_pos hl, if_pos ho] at h2
  rw [h1, h2]
def mkKv (vs : List V) : List (List Key × V) := vs.map fun v => ([], v)
theorem mkKv_v (vs : List V) : (mkKv vs).map (·.2) = vs := by simp [mkKv, Function.comp_def]
theorem mkKv_k {ds : List D} {vs : List V} (h : ds.length = vs.length) : (mkKv vs).map (·.1) = (noK ds).map (·.map Sum.inl) := by
  simp only [mkKv, noK, List.map_map, Function.comp_def, List.map_nil]
  rw [List.map_const', List.map_const', h]
theorem lent_ok {o : Option Addr} {ds : List D} {vs : List V} (hs : o.isSome = true) (ho : ∀ c, o = some c → a = c) (h1 : H a = some (.lst vs)) (fa : F a = none) (ha : H0 a = none) (x : RpL K F H0 H ds vs) (n : hasTL ds = false) : DctOk K F H0 H ⟨o, true, true⟩ (noK ds) ds (.ref a) a (mkKv vs) :=
  ⟨rfl, fun c z => .inr (ho c z), ⟨_, h1, by unfold DU; rw [if_pos rfl, if_pos rfl, if_pos hs, mkKv_v]⟩, fa, ha, mkKv_k x.length, by rw [mkKv_v]; exact x, n⟩
theorem Rel.lendL {vs : List V} (r : Rel K b F m σ H) (ha : H a = some (.lst vs)) (h0a : b.H0 a = none) (fa' : F' a = none)
    (g : Grow F (less1 H a) F' H') (far : ∀ (j : Nat) (e : D) (v : V) (d : Addr), m[j]? = some (some e) → σ[j]? = some (some v) → Owns H e v d → d ≠ a) : Rel K b F' m σ H' := by
  have st : ∀ x o, H x = some o → x ≠ a → H' x = some o := fun x o e h1 => g.same _ _ (by rw [less1_ne h1]; exact e)
  have tt : ∀ x o, H x = some o → NoL o → H' x = some o := fun x o e ho => st x o e fun z => by subst z; rw [ha] at e; cases e; exact False.elim ho
  have gf : ∀ x o, H x = some o → x ≠ a → F x = none → F' x = none := fun x o e h1 hf => grow_free g (by rw [less1_ne h1]; exact e) hf
  have kp : ∀ {ds : List D} {us : List V}, hasTL ds = false → RpL K F b.H0 H ds us → RpL K F' b.H0 H' ds us := fun n h => (RpL.keep tt _ _ n h).mono g.sub (Same.refl _)
  have back : ∀ (j : Nat) (e : D) (v : V) (x : Addr), m[j]? = some (some e) → σ[j]? = some (some v) → Owns H' e v x → Owns H e v x := fun j e v x q1 q2 o => by
    obtain ⟨w, k1, k2⟩ := r.slot j e q1
    rw [q2] at k1; cases k1
    exact o.back (fun b xs e => tt _ _ e trivial) (fun b xs e => g.subH _ _ (g.sub _ _ e)) (fun c xs o' e => st _ _ e (far j _ _ c q1 q2 o')) k2
  refine ⟨r.len, ⟨fun x o e => ?_, r.grow.sub.trans g.sub, g.subH, fun x o e => ?_⟩, fun j e q => ?_, fun p q x y v w z e1 e2 e3 e4 o1 o2 => r.apart p q x y v w z e1 e2 e3 e4 (back _ _ _ _ e1 e3 o1) (back _ _ _ _ e2 e4 o2)⟩
  · exact st _ _ (r.grow.same _ _ e) (fun z => by subst z; rw [h0a] at e; cases e)
  · rcases g.new x o e with z | z
    · exact r.grow.new _ _ z
    · by_cases h1 : x = a
      · subst h1; rw [fa'] at e; cases e
      rw [less1_ne h1] at z
      exact .inr (r.grow.same.free z)
  · obtain ⟨v, k1, k2⟩ := r.slot j e q
    refine ⟨v, k1, ?_⟩
    rcases k2.ow with ⟨as, z, n⟩ | ⟨qq, ks, ds, x, kvs, rfl, p⟩
    · exact .of (Ow.keepG (fun d v n h => (Rp.keep tt d v n h).mono g.sub (Same.refl _)) (fun x xs e => tt _ _ e trivial) (fun x xs e => ⟨g.sub _ _ e, g.subH _ _ (g.sub _ _ e)⟩) _ _ _ z (fun x hx xs e => st _ _ e (far j _ _ x q k1 ((Owns.iff z).mpr hx))) fun x hx xs e hf => gf _ _ e (far j _ _ x q k1 ((Owns.iff z).mpr hx)) hf) n
    · have h1 := far j _ _ x q k1 (.inr (.inl ⟨qq, ks, ds, rfl, p.v⟩))
      obtain ⟨u, h3, h4⟩ := p.al
      exact .inr (.inr (.inr ⟨qq, ks, ds, x, kvs, rfl, p.v, p.o, ⟨u, st _ _ h3 h1, h4.keep fun b xs z => tt _ _ z trivial⟩, gf _ _ h3 h1 p.fa, p.ha, p.k, kp p.nx p.x, p.nx⟩))
end
def spL (K : PySem.W.Frag) (n : Nat) (f : List D → R (D × Option D)) : Sp := fun vs H Q E => ∃ (F0 : Hp) (a : Addr) (xs : List D) (kv : List (List Key × V)) (ds : List D) (us : List V),
  vs = .ref a :: us ∧ Same F0 H ∧ DctOk K F0 (less1 H a) H ⟨some a, true, true⟩ (noK xs) xs (.ref a) a kv ∧ RpL K F0 H H ds us ∧ hasTL ds = false ∧ ds.length = n ∧
  ∃ (d : D) (ys : List D), f (lentD (some a) xs :: ds) = .ok (d, some (lentD (some a) ys)) ∧ hasT d = false ∧
    ∀ F' H' v kw, Grow F0 (less1 H a) F' H' → Prog F0 H F' H' → Rp K F' (less1 H a) H' d v → DctOk K F' (less1 H a) H' ⟨some a, true, true⟩ (noK ys) ys (.ref a) a kw → Q v H'
structure CalleeL (P : Program) (w : World) (K : PySem.W.Frag) (mg : Str → Option Value) (base : Heap) (x : Str) (n : Nat) (f : List D → R (D × Option D)) (k : Nat) : Prop where
  ok : ∃ fa fd ps, FnG P w K mg base k fa fd ps (spL K n f) ∧ mg x = some (.ref fa) ∧ PySem.W.keepIn K (.ref fa) = true ∧ Binds K fd ps []
def xCallL (i : Nat) (f : List D → R (D × Option D)) (h : SemXA) : SemX := fun m => match m[i]? with
  | some (some (.dct _ _ _)) => bindX (h m) fun ds m1 => (match m1[i]? with
    | some (some (.dct ⟨some a, true, true⟩ _ xs)) => (match f (lentD (some a) xs :: ds) with
      | .ok (d, some (.dct ⟨some c, true, true⟩ ks ys)) => if hasT d = false ∧ c = a ∧ ks = noK ys then .ok (d, m1.set i (some (lentD (some a) ys))) else .stuck
      | _ => .stuck)
    | _ => .stuck)
  | _ => .stuck
section
variable {X : Cx} {b : Bs} {W : WX} {x : Str} {e1 : Expr} {es : List Expr} {h : SemXA} {n k i : Nat} {f : List D → R (D × Option D)} {p pos : Pos}
theorem sx_callL (C : CalleeL X.prog X.w X.K X.mg X.base x n f k) (tk : Takes X W) (hr : Room k X.A) (hgd : X.A.guards = some []) (hg : Gl X x) (h1 : PE X e1 (tVar i)) (ha : SXA X b es h) (hl : ∀ m xs m1, h m = .ok (xs, m1) → xs.length = n) (hdb : (x == ("__debug__" : Str)) = false := by decide)
    (he : starEach (e1 :: es) X.env = (false, eval e1 X.env) :: starEach es X.env := by rfl) (hpl : (backTo pos (starEach es X.env)).any (·.1) = false := by rfl) : SX X b (.Call (.Name x p) (e1 :: es) [] pos) (xCallL i f h) := by
  obtain ⟨fa, fd, ps, F1, hm, hk, hb⟩ := C.ok
  refine PE.weak (pe_callG F1 hr hgd hg hm hk hb (fun σ => passAt tk σ) (pa_cons h1 ha he) hdb he hpl) fun σ H Q ⟨F, m, R, q⟩ => ?_
  unfold xCallL at q
  split at q
  rotate_left
  · exact q.elim
  rename_i q0 k0 x0 hq0
  obtain ⟨a, kv0, s1, _⟩ := dct_slot R hq0
  refine ⟨.ref a, s1, F, m, R, ?_⟩
  cases hh : h m with
  | stuck => rw [hh] at q; exact q.elim
  | exc c => rw [hh] at q; exact q.elim
  | ok ds =>
    obtain ⟨ds, m1⟩ := ds
    simp only [hh, bindX] at q
    split at q
    rotate_left
    · exact q.elim
    rename_i a0 ks xs hq
    split at q
    rotate_left
    · exact q.elim
    rename_i d c ks' ys hf
    split at q
    rotate_left
    · exact q.elim
    rename_i hcc
    obtain ⟨hd, hca, hks⟩ := hcc
    subst hca hks
    intro F1 H1 R1 G us hus hds
    obtain ⟨a', kv, s2, P⟩ := dct_slot R1 hq
    rw [s1] at s2; cases s2
    have ea := (P.o _ rfl).resolve_left (by simp)
    subst ea
    have al := P.lst rfl rfl rfl
    refine ⟨F1, a, xs, _, ds, us, rfl, R1.sub, lent_ok rfl (fun _ z => Option.some.inj z) al P.fa less1_a (RpL.base _ _ P.nx P.x) P.nx, RpL.base _ _ hds hus, hds, hl m ds m1 hh, d, ys, hf, hd, ?_⟩
    intro F2 H2 v kw G2 PG2 hv D1
    have al2 := D1.lst rfl rfl rfl
    have nob : ∀ (jj : Nat) (e : D) (w : V) (dd : Addr), (m1.set i none)[jj]? = some (some e) → σ[jj]? = some (some w) → Owns H1 e w dd → jj ≠ i ∧ m1[jj]? = some (some e) ∧ dd ≠ a := fun jj e w dd w1 w2 w3 => by
      have hi : jj ≠ i := fun z => by
        subst z
        rw [List.getElem?_set_self'] at w1
        cases z : m1[jj]? <;> rw [z] at w1 <;> simp at w1
      rw [List.getElem?_set_ne (Ne.symm hi)] at w1
      exact ⟨hi, w1, fun z => by subst z; exact hi (R1.apart jj i _ _ _ _ _ w1 hq w2 s1 w3 (.inr (.inl ⟨_, _, _, rfl, rfl⟩)))⟩
    have tt : ∀ x o, H1 x = some o → NoL o → H2 x = some o := PG2.tups
    have RR : Rel X.K b F2 (m1.set i none) σ H2 := (R1.forget i).lendL al P.ha D1.fa G2 fun jj e w dd w1 w2 w3 => (nob jj e w dd w1 w2 w3).2.2
    have back : ∀ (jj : Nat) (e : D) (w : V) (dd : Addr), (m1.set i none)[jj]? = some (some e) → σ[jj]? = some (some w) → Owns H2 e w dd → Owns H1 e w dd := fun jj e w dd w1 w2 w3 => by
      obtain ⟨w', z1, z2⟩ := (R1.forget i).slot jj e w1
      rw [w2] at z1; cases z1
      exact w3.back (fun b xs e => tt _ _ e trivial) (fun b xs e => G2.subH _ _ (G2.sub _ _ e)) (fun c xs o' e => G2.same _ _ (by rw [less1_ne (nob jj _ w c w1 w2 o').2.2]; exact e)) z2
    have E1 : DctOk X.K F2 b.H0 H2 ⟨some a, true, true⟩ (noK ys) ys (.ref a) a kw := ⟨rfl, fun _ z => .inr (Option.some.inj z), ⟨_, al2, by unfold DU; rw [if_pos rfl, if_pos rfl, if_pos (show (some a).isSome = true from rfl)]⟩, D1.fa, P.ha, D1.k, RpL.base _ _ D1.nx D1.x, D1.nx⟩
    have RA := RR.putW (i := i) (d := lentD (some a) ys) (v := .ref a) (.inr (.inr (.inr ⟨_, _, _, a, kw, rfl, E1⟩))) fun jj e w dd hne w1 w2 w3 w4 => by
      have := dct_owns w3
      subst this
      exact (nob jj e w _ w1 w2 (back jj e w _ w1 w2 w4)).2.2 rfl
    rw [set_self_eq' s1, List.set_set] at RA
    refine q F2 H2 RA (G.trans ⟨PG2, fun c o hc hno => ?_, fun c hc => ?_, fun c o hc => ?_, fun c hc => ?_⟩) v (Rp.base d v hd hv) hd
    · exact G2.same _ _ (by rw [less1_ne (fun z => by subst z; exact hno ⟨i, _, _, hq, s1, .inr (.inl ⟨_, _, _, rfl, rfl⟩)⟩)]; exact hc)
    · obtain ⟨j, e, w, c1, c2, c3⟩ := hc
      by_cases hj : j = i
      · subst hj
        rw [s1] at c2; cases c2
        rw [List.getElem?_set_self ((List.getElem?_eq_some_iff.mp hq).1)] at c1
        cases c1
        have := dct_owns c3
        subst this
        exact .inl ⟨j, _, _, hq, s1, .inr (.inl ⟨_, _, _, rfl, rfl⟩)⟩
      · rw [List.getElem?_set_ne (Ne.symm hj)] at c1
        have c1' : (m1.set i none)[j]? = some (some e) := by rw [List.getElem?_set_ne (Ne.symm hj)]; exact c1
        exact .inl ⟨j, e, w, c1, c2, back j e w c c1' c2 c3⟩
    · rcases G2.new c o hc with z | z
      · exact .inl z
      · by_cases hca : c = a
        · subst hca; exact .inr (.inr ⟨i, _, _, hq, s1, .inr (.inl ⟨_, _, _, rfl, rfl⟩)⟩)
        · rw [less1_ne hca] at z; exact .inr (.inl z)
    · by_cases hca : c = a
      · subst hca; rw [al2] at hc; cases hc
      · have := G2.same.free hc
        rw [less1_ne hca] at this
        exact .inl this
end
end CT

namespace CT
open PySem PySem.Spec PyProof.Rows L2
def bRetX (f : SemX) : SemB := fun m => match f m with
  | .ok (d, m1) => .rt d m1
  | _ => .stuck
def bRetV (i : Nat) : SemB := fun m => match m[i]? with
  | some (some (.lst true ds)) => if hasTL ds = true then .stuck else .rt (.lst false ds) (m.set i (some (.lst false ds)))
  | _ => .stuck
def bIf (t : SemT) (g h : SemB) : SemB := fun m => match t m with
  | .ok true => g m
  | .ok false => h m
  | _ => .stuck
def bIfX (t : SemXT) (g h : SemB) : SemB := fun m => match t m with
  | .ok (true, m1) => g m1
  | .ok (false, m1) => h m1
  | _ => .stuck
section
variable {X : Cx} {b : Bs} {W : WX} {st : Stmt} {rest A : List Stmt} {g : SemS} {h k : SemB} {e c : Expr} {f : SemX} {t : SemT} {tx : SemXT} {pos : Pos} {i : Nat}
theorem sb_retX (hf : SX X b e f) : SB X b [.Return (some e) pos] (bRetX f) := by
  refine PSs.weak (pss_one (ps_ret hf)) fun D' σ H ⟨F, m, R, p⟩ => ⟨F, m, R, ?_⟩
  unfold bRetX at p
  cases hm : f m with
  | stuck => rw [hm] at p; exact p.elim
  | exc c => rw [hm] at p; exact p.elim
  | ok d =>
    obtain ⟨d, m1⟩ := d
    rw [hm] at p
    exact fun F1 H1 R1 G v hv hd => p σ F1 H1 v R1 G.p hv hd
theorem sb_retV (hf : PE X e (tVar i)) : SB X b [.Return (some e) pos] (bRetV i) := by
  refine PSs.weak (pss_one (ps_ret hf)) fun D' σ H ⟨F, m, R, p⟩ => ?_
  unfold bRetV at p
  split at p
  · rename_i ds hd
    split at p
    · exact p.elim
    rename_i hn
    have hn : hasTL ds = false := by simpa using hn
    obtain ⟨v, h1, h2⟩ := R.slot i _ hd
    obtain ⟨F', sF, R'⟩ := R.freeze' hd
    refine ⟨v, h1, ?_⟩
    obtain ⟨v', k1, k2⟩ := R'.slot i (.lst false ds) (by rw [List.getElem?_set_self ((List.getElem?_eq_some_iff.mp hd).1)])
    rw [h1] at k1; cases k1
    obtain ⟨a, xs, rfl, q1, q2, q3, q4, q5⟩ := h2.mut hn
    exact p σ F' H _ R' ⟨sF, fun _ _ z _ => z⟩ k2.rp (by simp only [hasT, Bool.false_or]; exact q5)
  · exact p.elim
theorem sb_if (hc : ST X b W c t) (ha : SB X b A h) (hr : SB X b rest k) : SB X b (.If c A [] pos :: rest) (bIf t h k) := by
  refine PSs.weak (pss_cons (ps_if hc ha pss_nil) hr) fun D' σ H ⟨F, m, R, p⟩ => ⟨F, m, R, ?_⟩
  unfold bIf at p
  cases ht : t m with
  | stuck => rw [ht] at p; exact p.elim
  | exc c => rw [ht] at p; exact p.elim
  | ok c =>
    rw [ht] at p
    refine fun F1 H1 G => ?_
    cases c with
    | true => exact ⟨F1, m, R.step G, SstB.prog G.prog p⟩
    | false => exact ⟨F1, m, R.step G, SstB.prog G.prog p⟩
theorem sb_ifX (hc : SXT X b c tx) (ha : SB X b A h) (hr : SB X b rest k) : SB X b (.If c A [] pos :: rest) (bIfX tx h k) := by
  refine PSs.weak (pss_cons (ps_if hc ha pss_nil) hr) fun D' σ H ⟨F, m, R, p⟩ => ⟨F, m, R, ?_⟩
  unfold bIfX at p
  cases ht : tx m with
  | stuck => rw [ht] at p; exact p.elim
  | exc c => rw [ht] at p; exact p.elim
  | ok c =>
    obtain ⟨c, m1⟩ := c
    rw [ht] at p
    refine fun F1 H1 R1 G => ?_
    cases c with
    | true => exact ⟨F1, m1, R1, SstB.prog G.p p⟩
    | false => exact ⟨F1, m1, R1, SstB.prog G.p p⟩
end
def defL (n k : Nat) (g : SemB) : List D → R (D × Option D) := fun ds => if ds.length = n then (match g (ds.map some ++ List.replicate (k - n) none) with
  | .rt d m => .ok (d, (m[0]?).join)
  | .stuck => .stuck) else .stuck
section
variable {P : Program} {w : World} {K : PySem.W.Frag} {mg : Str → Option Value} {base : Heap}
theorem def_fnL {x : Str} {st : Stmt} {f : Addr} {fd : FuncData} {N ps : List Str} {k n : Nat} {ex : String → Value} {g : SemB} (F : Fun K x x st f fd) (S : FnScope N ps (defScope st)) (hps : ps.length = n + 1)
    (hbody : ∀ (cdv : Value) (A : Around) (outer : List Env) (s : Shared) (H : Hp) (E : XK) (F0 H0 : Hp), Room k (A.deeper (envOfC x (defScope st) s.heap.objs.size f cdv)) → (A.deeper (envOfC x (defScope st) s.heap.objs.size f cdv)).guards = some [] →
      SB (cxOf (L2.CX P w) P w K mg base N x (defScope st) f cdv A outer s H E) ⟨ex, F0, H0⟩ (defBody st) g) :
    FnG P w K mg base (k + 1) f fd ps (spL K n (defL (n + 1) N.length g)) := by
  refine Fun.okG F S (fun vs H Q E h => ?_) (fun cdv A outer s H vs Q E hr hgd h => ?_)
  · obtain ⟨F0, a, xs, kv, ds, us, rfl, _, _, r, _, hl, _⟩ := h
    rw [hps, List.length_cons, ← r.length, hl]
  · obtain ⟨F0, a, xs, kv, ds, us, rfl, s0, P1, r, ht, hn, d, ys, hf, hd, q⟩ := h
    refine ⟨_, hbody cdv A outer s H E F0 (less1 H a) hr hgd, ?_⟩
    have hlv := r.length
    have all : ∀ (i : Nat) (x : D), ((lentD (some a) xs :: ds).map some ++ List.replicate (N.length - (n + 1)) none)[i]? = some (some x) → (lentD (some a) xs :: ds)[i]? = some x := fun i x e => by
      by_cases hi : i < (lentD (some a) xs :: ds).length
      · rw [List.getElem?_append_left (by simpa using hi)] at e
        rw [List.getElem?_map] at e
        cases z : (lentD (some a) xs :: ds)[i]? with
        | none => rw [z] at e; cases e
        | some y => rw [z] at e; cases e; rfl
      · rw [List.getElem?_append_right (by simpa using hi)] at e
        rw [List.getElem?_replicate] at e
        split at e <;> cases e
    have vat : ∀ (i : Nat) (v : V), (V.ref a :: us)[i]? = some v → (L2.start N (V.ref a :: us))[i]? = some (some v) := fun i v h1 => by
      unfold L2.start
      obtain ⟨h3, _⟩ := List.getElem?_eq_some_iff.mp h1
      rw [List.getElem?_append_left (by simpa using h3), List.getElem?_map, h1]
      rfl
    have own : ∀ (i : Nat) (x : D) (v : V) (z : Addr), (lentD (some a) xs :: ds)[i]? = some x → (L2.start N (V.ref a :: us))[i]? = some (some v) → Owns H x v z → i = 0 := fun i x v z e1 e2 o => by
      match i, e1 with
      | 0, e1 => rfl
      | i + 1, e1 => exact (o.of (hasTL_get ht e1)).elim
    refine ⟨F0, (lentD (some a) xs :: ds).map some ++ List.replicate (N.length - (n + 1)) none, ⟨?_, ⟨less1_same, Same.refl _, s0, fun _ _ e => .inl e⟩, fun i x e => ?_, fun i j x y v w z e1 e2 e3 e4 o1 o2 => ?_⟩, ?_⟩
    · unfold L2.start
      simp [hlv]
      omega
    · have e' := all i x e
      match i, e' with
      | 0, e' => cases e'; exact ⟨_, vat 0 _ rfl, .inr (.inr (.inr ⟨_, _, _, a, kv, rfl, P1⟩))⟩
      | i + 1, e' =>
        obtain ⟨v, h1, h2⟩ := r.get (i := i) e'
        exact ⟨v, vat (i + 1) v h1, .inr (.inl ⟨hasTL_get (i := i) ht e', Rp.base _ _ (hasTL_get (i := i) ht e') h2⟩)⟩
    · rw [own i x v z (all i x e1) e3 o1, own j y w z (all j y e2) e4 o2]
    · unfold defL at hf
      rw [if_pos (by simp [hn])] at hf
      cases hg : g ((lentD (some a) xs :: ds).map some ++ List.replicate (N.length - (n + 1)) none) with
      | stuck => rw [hg] at hf; cases hf
      | rt d' m' =>
        rw [hg] at hf
        simp only [CT.R.ok.injEq, Prod.mk.injEq] at hf
        obtain ⟨rfl, f1⟩ := hf
        have f1 := join_some f1
        intro σ' F' H' v R' PG hv _
        obtain ⟨v1, _, k1⟩ := R'.slot 0 _ f1
        obtain ⟨a', kw1, D1⟩ := k1.dct
        have ea := (D1.o a rfl).resolve_left (by first | decide | simp)
        subst ea
        have ev := D1.v
        subst ev
        exact q F' H' v kw1 R'.grow PG hv D1
end
end CT

namespace CT
open PySem PySem.Spec PyProof.Rows L2
def ofX {α : Type} (r : R (α × Sl)) (k : α → Sl → RS) : RS := match r with
  | .ok (a, m) => k a m
  | _ => .stuck
def sSetX (i : Nat) (f : SemX) : SemS := fun m => ofX (f m) fun d m1 => .nx (m1.set i (some d))
def sAsgX (f : SemX) (g : SemG) : SemS := fun m => ofX (f m) fun d m1 => match g d m1 with
  | .ok m' => .nx m'
  | _ => .stuck
def sIfX (t : SemXT) (g h : SemS) : SemS := fun m => ofX (t m) fun c m1 => if c = true then g m1 else h m1
def sForX (h : SemXA) (g : SemG) (body : SemS) : SemS := fun m => ofX (h m) fun ds m1 => forGo g body ds m1
section
variable {X : Cx} {b : Bs} {W : WX} {st : Stmt} {rest A : List Stmt} {g h : SemS} {e c : Expr} {f : SemX} {tx : SemXT} {pos : Pos} {i : Nat} {x : Str} {px : Pos}
theorem seqSX {R' : V → Hp → Prop} {σ : L2.St} {H F : Hp} {k : D → Sl → RS} {D' : Ends} {m : Sl} (r : Rel X.K b F m σ H) (p : Sst X.K b W F H D' (ofX (f m) k))
    (q : ∀ d m1 F1 H1 v, Rel X.K b F1 m1 σ H1 → Prog F H F1 H1 → Rp X.K F1 b.H0 H1 d v → hasT d = false → Sst X.K b W F1 H1 D' (k d m1) → R' v H1) : tSX X.K b f σ H R' := by
  refine ⟨F, m, r, ?_⟩
  cases hf : f m with
  | stuck => rw [hf] at p; exact p.elim
  | exc c => rw [hf] at p; exact p.elim
  | ok d => rw [hf] at p; exact fun F1 H1 R1 G v hv hd => q d.1 d.2 F1 H1 v R1 G.p hv hd (Sst.prog G.p p)
theorem ss_setX (hN : X.N.Nodup) (hi : X.N[i]? = some x) (hx : Loc X.env.scope x) (hf : SX X b e f) (hfn : X.fn x = true ∨ X.env.scope.names.lookup x = some .local := by first | exact .inl rfl | exact .inr rfl)
    (hs : swapsWithSole [.Name x px] e pos.line X.env = pure false := by rfl) (hw : swappedStores [.Name x px] e X.env = pure none := by rfl) : SS X b W (.Assign [.Name x px] e pos) (sSetX i f) :=
  PS.weak (ps_asg hf (pg_name hN hi hx hfn) hs hw) fun D' σ H ⟨F, m, R, p⟩ => seqSX R p fun d m1 F1 H1 v R1 G hv hd q => q _ F1 H1 (R1.put hd hv) (Prog.refl _ _)
theorem ss_asgX {tg : Expr} {t : TG} {gg : SemG} (hf : SX X b e f) (hg : PG X tg t) (hn : TGok X b t gg) (hs : swapsWithSole [tg] e pos.line X.env = pure false := by rfl) (hw : swappedStores [tg] e X.env = pure none := by rfl)
    (h1 : (assignEach [tg] X.env).map (·.2) = [assign tg X.env] := by rfl) : SS X b W (.Assign [tg] e pos) (sAsgX f gg) :=
  PS.weak (ps_asg hf hg hs hw h1) fun D' σ H ⟨F, m, R, p⟩ => seqSX R p fun d m1 F1 H1 v R1 G hv hd q => by
    split at q
    · rename_i m' hg
      exact hn F1 m1 σ H1 d v m' _ R1 hd hv hg fun σ' F' H' R' P' => q σ' F' H' R' P'
    · exact q.elim
theorem ss_ifX {a d : List Stmt} (hc : SXT X b c tx) (ha : SSs X b W a g) (hb : SSs X b W d h) : SS X b W (.If c a d pos) (sIfX tx g h) :=
  PS.weak (ps_if hc ha hb) fun D' σ H ⟨F, m, R, p⟩ => by
    refine ⟨F, m, R, ?_⟩
    unfold sIfX at p
    cases ht : tx m with
    | stuck => rw [ht] at p; exact p.elim
    | exc c => rw [ht] at p; exact p.elim
    | ok c =>
      obtain ⟨c, m1⟩ := c
      rw [ht] at p
      refine fun F1 H1 R1 G => ?_
      cases c with
      | true => exact ⟨F1, m1, R1, Sst.prog G.p p⟩
      | false => exact ⟨F1, m1, R1, Sst.prog G.p p⟩
def tSIX (K : PySem.W.Frag) (b : Bs) (strict : Bool) (f : SemXA) : TI := fun σ H Rw => ∃ F m, Rel K b F m σ H ∧ Yst K b σ F H m (fun ds F' H' _ => ∀ J, Wk K b.H0 strict J F' H' ds → Rw J H') (f m)
abbrev SIX (X : Cx) (b : Bs) (strict : Bool) (tg e : Expr) (f : SemXA) : Prop := PI X tg e (tSIX X.K b strict f)
def xThen (h : SemXA) (k : List D → R (List D)) : SemXA := fun m => bindX (h m) fun xs m1 => match k xs with
  | .ok ys => .ok (ys, m1)
  | _ => .stuck
theorem six_rng1 {a tg : Expr} {h : SemXA} {strict : Bool} {p : Pos} (hg : Gl X "range") (hm : X.mg "range" = none) (ha : SXA X b [a] h) (hs : starEach [a] X.env = [(false, eval a X.env)] := by rfl) : SIX X b strict tg (.Call (.Name "range" p) [a] [] pos) (xThen h rng1) := by
  refine PI.weak (pi_range1 hg hm ha hs) fun σ H Rw ⟨F, m, R, p⟩ => ?_
  refine seqXA R p fun xs m1 F1 H1 vs R1 G1 hv n1 p1 => ?_
  unfold rng1 at p1
  split at p1
  · rename_i ys hy
    split at hy
    · obtain ⟨v, rfl, h⟩ := hv.one
      cases h
      split at hy
      · rename_i c
        cases hy
        exact ⟨_, rfl, c.1, c.2, p1 F1 H1 R1 (Step.refl _ _ _) _ wk_rng⟩
      · cases hy
    · cases hy
  · exact p1.elim
theorem ss_forX {tg : Expr} {h : SemXA} {t : TG} {gg : SemG} {vs : List Nat} {body : List Stmt} {k : SemS} (hp : PassesOwn (model X.prog X.w) X.A X.env X.xe) (hc : X.calm = true) (hi : SIX X b true tg e h) (hg : PG X tg t) (hn : NGok X.K t gg vs) (hb : SSs X b W body k) (hs : ∀ x, foldedSetIterable e X.env x = pure x := by intro _; rfl) :
    SS X b W (.For tg e body [] pos) (sForX h gg k) := by
  refine PS.weak (ps_for hp hc hi hg hb hs) fun D' σ H ⟨F, m, R, p⟩ => ?_
  refine ⟨F, m, R, ?_⟩
  unfold sForX at p
  cases hh : h m with
  | stuck => rw [hh] at p; exact p.elim
  | exc c => rw [hh] at p; exact p.elim
  | ok dm =>
    obtain ⟨ds, m0⟩ := dm
    rw [hh] at p
    simp only [ofX] at p
    refine fun F1 H1 R1 G J wk => ?_
    exact for_core (F := F1) hn R1 (Sst.prog G.p p) wk
end
end CT

namespace CT
open PySem PySem.Spec PyProof.Rows L2
def eLk (i k : Nat) : SemE := fun m => match m[i]? with
  | some (some (.dct q _ xs)) => if (q.l && q.n && q.o.isSome) = true then (match xs[k]? with
    | some d => .ok d
    | none => .stuck) else .stuck
  | _ => .stuck
def subLR (i k : Nat) : SemG := fun d m => if hasT d = true then .stuck else match m[i]? with
  | some (some (.dct q _ xs)) => if (q.l && q.n && q.o.isSome) = true then (if k < xs.length then .ok (m.set i (some (.dct q (noK (xs.set k d)) (xs.set k d)))) else .stuck) else .stuck
  | _ => .stuck
section
variable {X : Cx} {b : Bs} {W : WX} {e o : Expr} {pos : Pos} {i k j : Nat} {x : Str} {px npos spos : Pos}
theorem se_lk (ho : PE X o (tVar i)) : SE X b W (.Subscript o (.Constant (.int k) j npos) spos) (eLk i k) := by
  have hix : PE X (.Subscript o (.Constant (.int k) j npos) spos) _ := pe_ix ix_seq ho pe_int (fun _ _ => rfl)
  refine PE.weak hix fun σ H Q ⟨F, m, R, p⟩ => ?_
  unfold eLk at p
  split at p
  rotate_left
  · exact p.elim
  rename_i q ks xs hq
  split at p
  rotate_left
  · exact p.elim
  rename_i hln
  have hl1 : q.l = true := by cases a : q.l <;> simp_all
  have hn1 : q.n = true := by cases a : q.n <;> simp_all
  have ho1 : q.o.isSome = true := by cases a : q.o <;> simp_all
  split at p
  rotate_left
  · exact p.elim
  rename_i d hd
  obtain ⟨a, kv, s1, P⟩ := dct_slot R hq
  have al := P.lst hl1 hn1 ho1
  obtain ⟨v, k1, k2⟩ := P.x.get hd
  exact ⟨.ref a, s1, .inl ⟨a, _, (k : Int), v, rfl, rfl, .inl (.inl al), atI_nat k1, p.here R.sub v k2⟩⟩
theorem tg_subL {f : SemE} (hf : ∀ m, f m = .ok (.int (k : Int))) : TGok X b (gSub (tVar i) (tSE X.K b W f) rSetL) (subLR i k) := fun F m σ H d v m' Q R n hv e q => by
  unfold subLR at e
  split at e
  · cases e
  split at e
  rotate_left
  · cases e
  rename_i qt ks xs hq
  split at e
  rotate_left
  · cases e
  rename_i hln
  have hl1 : qt.l = true := by cases a : qt.l <;> simp_all
  have hn1 : qt.n = true := by cases a : qt.n <;> simp_all
  have ho1 : qt.o.isSome = true := by cases a : qt.o <;> simp_all
  split at e
  rotate_left
  · cases e
  rename_i hkl
  cases e
  obtain ⟨a, kv, s1, P⟩ := dct_slot R hq
  have al := P.lst hl1 hn1 ho1
  refine ⟨.ref a, s1, F, m, R, ?_⟩
  rw [hf]
  refine fun F1 H1 G u hu => ?_
  cases hu
  have R1 := R.step G
  have al1 := G.same _ _ al
  have x1 := P.x.grow G
  have fa1 := grow_free G al P.fa
  have x2 := RpL.set (hv.grow G) k x1
  have hT : hasTL (xs.set k d) = false := hasTL_set n k P.nx
  have keep : ∀ c o, H1 c = some o → NoL o → (upd H1 a (.lst ((kv.map (·.2)).set k v))) c = some o := fun c o hc ho => by
    rw [upd_ne (fun z => by subst z; rw [al1] at hc; cases hc; exact False.elim ho)]; exact hc
  have hidx : ixN (kv.map (·.2)).length (k : Int) = some k := by
    have hl := x1.length
    unfold ixN
    rw [if_pos (by omega), if_pos (by omega)]
    simp
  refine ⟨a, _, (k : Int), k, rfl, rfl, al1, hidx, q σ F1 _ (R1.chgW hq s1 (.inr (.inl ⟨_, _, _, rfl, rfl⟩)) al1 (fun z => z) fa1 P.ha ?_ fun c o => ?_) (G.prog.trans (chg_prog al1))⟩
  · exact .inr (.inr (.inr ⟨qt, _, _, a, mkKv ((kv.map (·.2)).set k v), rfl, rfl, P.o, ⟨_, upd_same, by unfold DU; rw [if_pos hn1, if_pos hl1, if_pos ho1, mkKv_v]⟩, fa1, P.ha, mkKv_k x2.length, by rw [mkKv_v]; exact RpL.keep keep _ _ hT x2, hT⟩))
  · exact .inr (.inl ⟨_, _, _, rfl, o.dct⟩)
end
end CT

namespace CT
open PySem PySem.Spec PyProof.Rows L2
def lcX (i : Nat) (t : SemXT) (f : SemX) : List D → SemXA
  | [], m => .ok ([], m)
  | d :: ds, m => if hasT d = true then .stuck else bindX (t (m.set i (some d))) fun c m2 => if c = true then bindX (f m2) fun x m3 => bindX (lcX i t f ds (m3.set i none)) fun r m4 => .ok (x :: r, m4) else lcX i t f ds (m2.set i none)
def aLcX (h : SemXA) (i : Nat) (t : SemXT) (f : SemX) : SemXA := fun m => bindX (h m) fun ds m1 => bindX (lcX i t f ds (m1.set i none)) fun r m2 => if r.length ≤ sizeLine then .ok (r, m2) else .stuck
def xtYes : SemXT := fun m => .ok (true, m)
def tSOX (K : PySem.W.Frag) (b : Bs) (f : SemXA) : TE := fun σ H Q => ∃ F m, Rel K b F m σ H ∧ match f m with
  | .ok (ds, m') => ∀ F' H' a xs, Rel K b F' m' σ H' → Step σ F H m F' H' m' → (H a = none ∨ Owned σ m H a) → ¬ Owned σ m' H' a → F' a = none → H' a = some (.lst xs) → RpL K F' b.H0 H' ds xs → hasTL ds = false → Q (.ref a) H'
  | _ => False
abbrev SOX (X : Cx) (b : Bs) (e : Expr) (f : SemXA) : Prop := PE X e (tSOX X.K b f)
def xOwn (f : SemXA) : SemX := fun m => match f m with
  | .ok (ds, m') => .ok (.lst false ds, m')
  | _ => .stuck
section
variable {K : PySem.W.Frag} {b : Bs} {F F1 H H1 : Hp} {m m1 : Sl} {σ : L2.St} {i : Nat} {a : Addr}
theorem Rel.addF {xs : List V} (r : Rel K b F m σ H) (h1 : H a = some (.lst xs)) (h2 : F a = none) (h3 : b.H0 a = none) (no : ¬ Owned σ m H a) : Same F (upd F a (.lst xs)) ∧ Rel K b (upd F a (.lst xs)) m σ H := by
  have sF : Same F (upd F a (.lst xs)) := same_upd h2
  have sH : Same (upd F a (.lst xs)) H := fun c o hc => by
    by_cases hb : c = a
    · subst hb; rw [upd_same] at hc; rw [h1]; exact hc
    · rw [upd_ne hb] at hc; exact r.sub _ _ hc
  refine ⟨sF, r.len, ⟨r.grow.same, r.grow.sub.trans sF, sH, fun c o hc => ?_⟩, fun j d q => ?_, r.apart⟩
  · by_cases hb : c = a
    · subst hb; exact .inr h3
    · rw [upd_ne hb] at hc; exact r.grow.new _ _ hc
  · obtain ⟨v, k1, k2⟩ := r.slot j d q
    refine ⟨v, k1, ?_⟩
    have hn : ∀ c, Owns H d v c → c ≠ a := fun c o z => by subst z; exact no ⟨j, d, v, q, k1, o⟩
    rcases k2.ow with ⟨as, z, n⟩ | ⟨qq, ks, ds', c, kvs, rfl, pp⟩
    · exact .of (Ow.keep (fun _ _ z _ => z) sF sH _ _ _ z (fun _ _ _ z => z) fun c hc => by rw [upd_ne (hn c ((Owns.iff z).mpr hc))]; exact (Ow.mem _ _ _ z hc).2.2.1) n
    · have hc := hn c (.inr (.inl ⟨_, _, _, rfl, pp.v⟩))
      exact .inr (.inr (.inr ⟨qq, ks, ds', c, kvs, rfl, pp.v, pp.o, pp.al, by rw [upd_ne hc]; exact pp.fa, pp.ha, pp.k, pp.x.mono sF (Same.refl _), pp.nx⟩))
theorem Rel.unset (r : Rel K b F (m.set i none) (σ.set i none) H) : Rel K b F (m.set i none) σ H := by
  have ne : ∀ {j : Nat} {d : D}, (m.set i none)[j]? = some (some d) → j ≠ i := fun {j d} h z => by
    subst z
    by_cases hl : j < m.length
    · rw [List.getElem?_set_self hl] at h; cases h
    · rw [List.getElem?_eq_none (by simpa using hl)] at h; cases h
  refine ⟨by have := r.len; simpa using this, r.grow, fun j d q => ?_, fun p q x y v w c e1 e2 e3 e4 => ?_⟩
  · obtain ⟨v, k1, k2⟩ := r.slot j d q
    exact ⟨v, by rw [List.getElem?_set_ne (Ne.symm (ne q))] at k1; exact k1, k2⟩
  · exact r.apart p q x y v w c e1 e2 (by rw [List.getElem?_set_ne (Ne.symm (ne e1))]; exact e3) (by rw [List.getElem?_set_ne (Ne.symm (ne e2))]; exact e4)
theorem Owned.off {x : Option V} {d : D} (n : hasT d = false) {c : Addr} (o : Owned (σ.set i x) (m.set i (some d)) H c) : Owned σ (m.set i none) H c := by
  obtain ⟨j, e, v, h1, h2, h3⟩ := o
  by_cases hj : j = i
  · subst hj
    rcases set_some h1 with ⟨_, _, rfl⟩ | ⟨z, _⟩
    · exact (h3.of n).elim
    · exact absurd rfl z
  · rw [List.getElem?_set_ne (Ne.symm hj)] at h1 h2
    exact ⟨j, e, v, by rw [List.getElem?_set_ne (Ne.symm hj)]; exact h1, h2, h3⟩
theorem Owned.on {x : Option V} {c : Addr} (o : Owned σ (m.set i none) H c) : Owned (σ.set i x) m H c := by
  obtain ⟨j, e, v, h1, h2, h3⟩ := o
  have hj : j ≠ i := fun z => by
    subst z
    by_cases hl : j < m.length
    · rw [List.getElem?_set_self hl] at h1; cases h1
    · rw [List.getElem?_eq_none (by simpa using hl)] at h1; cases h1
  rw [List.getElem?_set_ne (Ne.symm hj)] at h1
  exact ⟨j, e, v, h1, by rw [List.getElem?_set_ne (Ne.symm hj)]; exact h2, h3⟩
theorem Step.off {x : Option V} {d : D} (n : hasT d = false) (s : Step (σ.set i x) F H (m.set i (some d)) F1 H1 m1) : Step σ F H (m.set i none) F1 H1 (m1.set i none) :=
  ⟨s.p, fun c o h no => s.fr c o h fun z => no (z.off n), fun c o => (s.ow c o.on).imp (fun z => z.off n) id, fun c o h => (s.nw c o h).imp id fun z => z.imp id fun z => z.off n, fun c z => (s.ex c z).imp id fun y => y.off n⟩
theorem Step.drop0 (R : Rel K b F m σ H) : Step σ F H m F H (m.set i none) := ⟨Prog.refl _ _, fun _ _ h _ => h, fun c ⟨j, e, v, h1, h2, h3⟩ => by
  have hj : j ≠ i := fun z => by
    subst z
    by_cases hl : j < m.length
    · rw [List.getElem?_set_self hl] at h1; cases h1
    · rw [List.getElem?_eq_none (by simpa using hl)] at h1; cases h1
  rw [List.getElem?_set_ne (Ne.symm hj)] at h1
  exact .inl ⟨j, e, v, h1, h2, h3⟩, fun _ _ h => .inl h, fun _ h => .inl h⟩
end
section
variable {X : Cx} {b : Bs} {W : WX} {e : Expr} {f : SemXA}
theorem sx_own (h : SOX X b e f) : SX X b e (xOwn f) := PE.weak h fun σ H Q ⟨F, m, R, p⟩ => by
  refine ⟨F, m, R, ?_⟩
  unfold xOwn at p
  cases hm : f m with
  | stuck => rw [hm] at p; exact p.elim
  | exc c => rw [hm] at p; exact p.elim
  | ok d =>
    obtain ⟨ds, m'⟩ := d
    rw [hm] at p
    intro F' H' a xs R' S h0 no h1 h2 hv hn
    obtain ⟨sF, R2⟩ := R'.addF h2 h1 (R.fresh h0) no
    have S2 : Step σ F H m (upd F' a (.lst xs)) H' m' := ⟨⟨S.p.sub.trans sF, S.p.tups⟩, S.fr, S.ow, fun c o z => by
      by_cases hc : c = a
      · subst hc; exact .inr h0
      · rw [upd_ne hc] at z; exact S.nw c o z, S.ex⟩
    exact p _ H' R2 S2 _ (.lst upd_same (hv.mono sF (Same.refl _))) (by simp [hasT, hn])
end
end CT

namespace CT
open PySem PySem.Spec PyProof.Rows L2
section
variable {K : PySem.W.Frag} {b : Bs} {F H : Hp} {m : Sl} {σ : L2.St}
theorem bindX_ok {α β : Type} {r : R (α × Sl)} {k : α → Sl → R (β × Sl)} {z : β × Sl} (h : bindX r k = .ok z) : ∃ a m1, r = .ok (a, m1) ∧ k a m1 = .ok z := by
  cases r with
  | ok a => exact ⟨a.1, a.2, rfl, h⟩
  | exc c => cases h
  | stuck => cases h
theorem lcX_ok {i : Nat} {wi : TI} {tt : TT} {te : TE} {t : SemXT} {f : SemX} {h : SemXA} {Q : VK} {res : List D} {m' : Sl}
    (hi : ∀ σ H Rw, tSIX K b true h σ H Rw → wi σ H Rw) (ht : ∀ σ H Q, tSXT K b t σ H Q → tt σ H Q) (he : ∀ σ H Q, tSX K b f σ H Q → te σ H Q)
    (r : Rel K b F m σ H) (hm : aLcX h i t f m = .ok (res, m'))
    (p : ∀ F' H' a xs, Rel K b F' m' σ H' → Step σ F H m F' H' m' → (H a = none ∨ Owned σ m H a) → ¬ Owned σ m' H' a → F' a = none → H' a = some (.lst xs) → RpL K F' b.H0 H' res xs → hasTL res = false → Q (.ref a) H') : tLc wi (gName i) tt te [i] σ H Q := by
  unfold aLcX at hm
  obtain ⟨ds, m0, hh, hm⟩ := bindX_ok hm
  obtain ⟨res', m2, hl, hm⟩ := bindX_ok hm
  split at hm
  rotate_left
  · cases hm
  rename_i hsz
  cases hm
  refine hi _ _ _ ⟨F, m, r, ?_⟩
  rw [hh]
  intro F1 H1 R1 S1 J wk D hD
  have f1 : F1 D = none := R1.sub.free hD
  have d0 : b.H0 D = none := R1.grow.same.free hD
  have GA : Grow F1 H1 F1 (upd H1 D (.lst [])) := Grow.loose R1.sub hD
  have RA := R1.step GA
  have R0 : Rel K b F1 (m0.set i none) σ (upd H1 D (.lst [])) := by
    have := RA.drop (i := i)
    exact this.unset
  have SA : Step σ F1 H1 m0 F1 (upd H1 D (.lst [])) (m0.set i none) := (R1.stepG GA).trans (Step.drop0 RA)
  have no0 : ¬ Owned σ (m0.set i none) (upd H1 D (.lst [])) D := fun z => by
    obtain ⟨j, e, v, q1, q2, q3⟩ := z
    have hj : j ≠ i := fun z => by
      subst z
      by_cases hl : j < m0.length
      · rw [List.getElem?_set_self hl] at q1; cases q1
      · rw [List.getElem?_eq_none (by simpa using hl)] at q1; cases q1
    rw [List.getElem?_set_ne (Ne.symm hj)] at q1
    obtain ⟨w', z1, z2⟩ := R1.slot j e q1
    rw [q2] at z1; cases z1
    obtain ⟨u, hu, _⟩ := Owns.here z2 (q3.backS R1.sub GA.same z2)
    rw [hD] at hu; cases hu
  refine ⟨fun j n H' => n = ds.length - j ∧ j ≤ ds.length ∧ ∃ F' mj acc vacc rest, Rel K b F' mj σ H' ∧ mj.set i none = mj ∧ Step σ F1 H1 m0 F' H' mj ∧ F' D = none ∧ H' D = some (.lst vacc) ∧ ¬ Owned σ mj H' D ∧ RpL K F' b.H0 H' acc vacc ∧ hasTL acc = false ∧ lcX i t f (ds.drop j) mj = .ok (rest, m') ∧ acc ++ rest = res,
    ⟨_, rfl, Nat.zero_le _, F1, _, [], [], res, R0, by rw [List.set_set], SA, f1, upd_same, no0, .nil, rfl, by rw [List.drop_zero]; exact hl, rfl⟩, ?_⟩
  rintro j n H' ⟨rfl, hj', F', mj, acc, vacc, rest, R', hmj, S', e1, e2, no', e3, e4, e5, e6⟩
  have PP : Prog F1 H1 F' H' := S'.p
  have l : Ltr true F1 H1 F' H' := ⟨PP.sub, R'.sub, PP.tups, fun z => by cases z⟩
  by_cases hlt : j < ds.length
  · refine .inr ⟨wk.go j F' H' l hlt, fun H2 => (j + 1 ≤ ds.length ∧ ∃ F' mj acc vacc rest, Rel K b F' mj σ H2 ∧ mj.set i none = mj ∧ Step σ F1 H1 m0 F' H2 mj ∧ F' D = none ∧ H2 D = some (.lst vacc) ∧ ¬ Owned σ mj H2 D ∧ RpL K F' b.H0 H2 acc vacc ∧ hasTL acc = false ∧ lcX i t f (ds.drop (j + 1)) mj = .ok (rest, m') ∧ acc ++ rest = res),
      fun H2 z => ⟨ds.length - (j + 1), by omega, rfl, z⟩, fun x H2 y => ?_⟩
    obtain ⟨F2, d, G2, k2, r2⟩ := wk.yld j F' H' x H2 l hlt y
    have hd : ds.drop j = d :: ds.drop (j + 1) := by
      obtain ⟨h1, h2⟩ := List.getElem?_eq_some_iff.mp k2
      rw [← h2]
      exact List.drop_eq_getElem_cons h1
    rw [hd] at e5
    simp only [lcX] at e5
    split at e5
    · cases e5
    rename_i hdT
    have hdT : hasT d = false := by simpa using hdT
    obtain ⟨c', m2, ht', e5⟩ := bindX_ok e5
    have R2 := R'.step G2
    have S2 : Step σ F1 H1 m0 F2 H2 mj := S'.trans (R'.stepG G2)
    have hD2 : H2 D = some (.lst vacc) := G2.same _ _ e2
    have fD2 : F2 D = none := grow_free G2 e2 e1
    have no2 : ¬ Owned σ mj H2 D := fun z => by
      rcases (R'.stepG G2).ow D z with z | z
      · exact no' z
      · rw [e2] at z; cases z
    have R2w : Rel K b F2 (mj.set i (some d)) ((σ.set i none).set i (some x)) H2 := by
      have := (R2.drop (i := i)).put (i := i) hdT r2
      rw [List.set_set] at this
      exact this
    refine ⟨by show ((σ.set i none).set i (some x)).set i none = σ.set i none; rw [List.set_set, List.set_set], ht _ _ _ ⟨F2, _, R2w, ?_⟩⟩
    rw [ht']
    intro F3 H3 R3 S3
    have R3 : Rel K b F3 m2 ((σ.set i none).set i (some x)) H3 := R3
    have S3 : Step ((σ.set i none).set i (some x)) F2 H2 (mj.set i (some d)) F3 H3 m2 := S3
    have S3' : Step σ F2 H2 mj F3 H3 (m2.set i none) := by
      have := S3
      rw [List.set_set] at this
      have := this.off hdT
      rw [hmj] at this
      exact this
    have hD3 : H3 D = some (.lst vacc) := S3'.fr _ _ hD2 no2
    have fD3 : F3 D = none := by
      cases q : F3 D with
      | none => rfl
      | some o =>
        rcases S3'.nw D o q with z | z | z
        · rw [fD2] at z; cases z
        · rw [hD2] at z; cases z
        · exact absurd z no2
    have no3 : ¬ Owned σ (m2.set i none) H3 D := fun z => by
      rcases S3'.ow D z with z | z
      · exact no2 z
      · rw [hD2] at z; cases z
    have R3' : Rel K b F3 (m2.set i none) σ H3 := by
      have := R3.drop (i := i)
      rw [List.set_set, List.set_set] at this
      exact this.unset
    have acc3 : RpL K F3 b.H0 H3 acc vacc := (e3.grow G2).prog S3'.p e4
    cases c' with
    | false =>
      simp only [Bool.false_eq_true, if_false] at e5 ⊢
      exact ⟨hlt, F3, _, acc, vacc, rest, R3', by rw [List.set_set], S2.trans S3', fD3, hD3, no3, acc3, e4, e5, e6⟩
    | true =>
      simp only [if_true] at e5 ⊢
      obtain ⟨z, m3, hf', e5⟩ := bindX_ok e5
      obtain ⟨rest', m4, hr', e5⟩ := bindX_ok e5
      cases e5
      refine he _ _ _ ⟨F3, m2, R3, ?_⟩
      rw [hf']
      intro F4 H4 R4 S4 v4 r4 hz
      have R4 : Rel K b F4 m3 ((σ.set i none).set i (some x)) H4 := R4
      have S4 : Step ((σ.set i none).set i (some x)) F3 H3 m2 F4 H4 m3 := S4
      have S34' : Step σ F2 H2 mj F4 H4 (m3.set i none) := by
        have := S3.trans S4
        rw [List.set_set] at this
        have := this.off hdT
        rw [hmj] at this
        exact this
      have hD4 : H4 D = some (.lst vacc) := S34'.fr _ _ hD2 no2
      have fD4 : F4 D = none := by
        cases q : F4 D with
        | none => rfl
        | some o =>
          rcases S34'.nw D o q with z | z | z
          · rw [fD2] at z; cases z
          · rw [hD2] at z; cases z
          · exact absurd z no2
      have no4 : ¬ Owned σ (m3.set i none) H4 D := fun z => by
        rcases S34'.ow D z with z | z
        · exact no2 z
        · rw [hD2] at z; cases z
      have R4' : Rel K b F4 (m3.set i none) σ H4 := by
        have := R4.drop (i := i)
        rw [List.set_set, List.set_set] at this
        exact this.unset
      have acc4 : RpL K F4 b.H0 H4 acc vacc := (e3.grow G2).prog S34'.p e4
      have hlen := e3.length
      have hres : acc.length < sizeLine := by
        rw [← e6, List.length_append, List.length_cons] at hsz
        omega
      have keep : ∀ c o, H4 c = some o → NoL o → (upd H4 D (.lst (vacc ++ [v4]))) c = some o := fun c o hc ho => by
        rw [upd_ne (fun q => by subst q; rw [hD4] at hc; cases hc; exact False.elim ho)]; exact hc
      have d0' : b.H0 D = none := d0
      -- the list under way grows
      have R5 : Rel K b F4 (m3.set i none) σ (upd H4 D (.lst (vacc ++ [v4]))) := R4'.tmp hD4 fD4 d0' fun j e v q1 q2 o => no4 ⟨j, e, v, q1, q2, o⟩
      have back5 : ∀ c, Owned σ (m3.set i none) (upd H4 D (.lst (vacc ++ [v4]))) c → Owned σ (m3.set i none) H4 c := fun c ⟨j, e, v, q1, q2, q3⟩ => by
        obtain ⟨w, k1, k2⟩ := R4'.slot j e q1
        rw [q2] at k1; cases k1
        exact ⟨j, e, v, q1, q2, q3.back (fun b xs e => keep _ _ e trivial) (fun b xs e => by rw [upd_ne (fun y => by subst y; rw [fD4] at e; cases e)]; exact R4'.sub _ _ e) (fun c xs o' z => by rw [upd_ne (fun y => by subst y; exact no4 ⟨j, _, v, q1, q2, o'⟩)]; exact z) k2⟩
      have S24 := S2.trans S34'
      refine ⟨vacc, hD4, by rw [← hlen]; exact hres, hlt, F4, _, acc ++ [z], vacc ++ [v4], rest', R5, by rw [List.set_set], ?_, fD4, upd_same, fun z => no4 (back5 D z), ?_, ?_, hr', ?_⟩
      · exact ⟨⟨S24.p.sub, fun c o hc ho => keep c o (S24.p.tups c o hc ho) ho⟩, fun c o hc hno => by
          rw [upd_ne (fun z => by subst z; rw [hD] at hc; cases hc)]; exact S24.fr c o hc hno, fun c hc => S24.ow c (back5 c hc), S24.nw, fun c hc => by
          by_cases q : c = D
          · subst q; exact .inl hD
          · rw [upd_ne q] at hc; exact S24.ex c hc⟩
      · exact (RpL.keep keep acc vacc e4 acc4).app (.cons (Rp.keep keep z v4 hz r4) .nil)
      · rw [hasTL_append, e4, hasTL, hz]; rfl
      · rw [← e6, List.append_assoc]; rfl
  · have e : j = ds.length := by omega
    subst e
    rw [List.drop_length] at e5
    cases e5
    rw [List.append_nil] at e6
    subst e6
    refine .inl ⟨wk.stop F' H' l, p F' H' D vacc R' (S1.trans S') ?_ no' e1 e2 e3 e4⟩
    exact S1.ex D hD
end
end CT

namespace CT
open PySem PySem.Spec PyProof.Rows L2
abbrev STXs (X : Cx) (b : Bs) (es : List Expr) (f : SemXT) : Prop := PTs X es (tSXT X.K b f)
def xiOf (h : SemA) : SemXA := fun m => match h m with
  | .ok ds => .ok (ds, m)
  | _ => .stuck
def xtPure (t : SemT) : SemXT := fun m => match t m with
  | .ok c => .ok (c, m)
  | _ => .stuck
section
variable {X : Cx} {b : Bs} {W : WX} {elt tg iter e : Expr} {es ifs : List Expr} {scope : Scope} {own : List (Str × Nat)} {pos spos : Pos} {t : SemXT} {f : SemX} {h : SemXA} {i : Nat}
theorem stxs_nil : STXs X b [] xtYes := PTs.weak pts_nil fun σ H Q ⟨F, m, R, p⟩ => p F H R (Step.refl _ _ _)
theorem sxt_of {t : SemT} (h : ST X b W e t) : SXT X b e (xtPure t) := PT.weak h fun σ H Q ⟨F, m, R, p⟩ => by
  refine ⟨F, m, R, ?_⟩
  unfold xtPure at p
  cases hm : t m with
  | stuck => rw [hm] at p; exact p.elim
  | exc c => rw [hm] at p; exact p.elim
  | ok c => rw [hm] at p; exact fun F' H' G => p F' H' (R.step G) (R.stepG G)
theorem six_of {h : SemA} {strict : Bool} (hi : SI X b W strict tg iter h) : SIX X b strict tg iter (xiOf h) := PI.weak hi fun σ H Rw ⟨F, m, R, p⟩ => by
  refine ⟨F, m, R, ?_⟩
  unfold xiOf at p
  cases hm : h m with
  | stuck => rw [hm] at p; exact p.elim
  | exc c => rw [hm] at p; exact p.elim
  | ok ds => rw [hm] at p; exact fun F' H' G J wk => p F' H' (R.step G) (R.stepG G) J wk
theorem sox_lc (hc : X.calm = true) (hN : X.N.Nodup) (hi : SIX X b true tg iter h) (ok : BlkOk X.N X.env.scope scope own)
    (hg : ∀ (s : Shared) (H : Hp) (C : Addr) (cl : List (Str × Addr)) (fp : List Addr), PG (X.blk s H scope (compEnvC scope cl C X.env) fp) tg (gName i)) (ht : ∀ (s : Shared) (H : Hp) (C : Addr) (cl : List (Str × Addr)) (fp : List Addr), STXs (X.blk s H scope (compEnvC scope cl C X.env) fp) b ifs t)
    (he : ∀ (s : Shared) (H : Hp) (C : Addr) (cl : List (Str × Addr)) (fp : List Addr), SX (X.blk s H scope (compEnvC scope cl C X.env) fp) b elt f) (hs : ∀ x, foldedSetIterable iter X.env x = pure x := by intro _; rfl) (hv : own.map (·.2) = [i] := by rfl) :
    SOX X b (.ListComp elt [⟨tg, iter, ifs, 0⟩] scope pos) (aLcX h i t f) := by
  have z := pe_lc (pos := pos) (tt := tSXT X.K b t) (te := tSX X.K b f) (wi := tSIX X.K b true h) hc hN hi ok hg ht he hs
  rw [hv] at z
  refine PE.weak z fun σ H Q ⟨F, m, R, p⟩ => ?_
  cases hm : aLcX h i t f m with
  | stuck => rw [hm] at p; exact p.elim
  | exc c => rw [hm] at p; exact p.elim
  | ok r =>
    obtain ⟨ds, m'⟩ := r
    rw [hm] at p
    exact lcX_ok (fun _ _ _ z => z) (fun _ _ _ z => z) (fun _ _ _ z => z) R hm p
variable {j : Nat} {y : Str} {py : Pos}
theorem ss_setLcX (hc : X.calm = true) (hN : X.N.Nodup) (hy : X.N[j]? = some y) (hyl : X.env.scope.names.lookup y = some .local) (hsw : swapsWith (.ListComp elt [⟨tg, iter, ifs, 0⟩] scope pos) (some (.Name y py)) spos.line X.env = pure true)
    (hi : SIX X b true tg iter h) (ok : BlkOk X.N X.env.scope scope own)
    (hg : ∀ (s : Shared) (H : Hp) (C : Addr) (cl : List (Str × Addr)) (fp : List Addr), PG (X.blk s H scope (compEnvC scope cl C X.env) fp) tg (gName i)) (ht : ∀ (s : Shared) (H : Hp) (C : Addr) (cl : List (Str × Addr)) (fp : List Addr), STXs (X.blk s H scope (compEnvC scope cl C X.env) fp) b ifs t)
    (he : ∀ (s : Shared) (H : Hp) (C : Addr) (cl : List (Str × Addr)) (fp : List Addr), SX (X.blk s H scope (compEnvC scope cl C X.env) fp) b elt f) (hs : ∀ x, foldedSetIterable iter X.env x = pure x := by intro _; rfl) (hv : own.map (·.2) = [i] := by rfl) :
    SS X b W (.Assign [.Name y py] (.ListComp elt [⟨tg, iter, ifs, 0⟩] scope pos) spos) (sSetX j (xOwn (aLcX h i t f))) := by
  have z := ps_setLc (pos := pos) (spos := spos) (py := py) (tt := tSXT X.K b t) (te := tSX X.K b f) (wi := tSIX X.K b true h) hc hN hy hyl hsw hi ok hg ht he hs
  rw [hv] at z
  refine PS.weak z fun D' σ H ⟨F, m, R, p⟩ => ?_
  unfold sSetX xOwn at p
  cases hm : aLcX h i t f m with
  | stuck => rw [hm] at p; exact p.elim
  | exc c => rw [hm] at p; exact p.elim
  | ok r =>
    obtain ⟨ds, m'⟩ := r
    rw [hm] at p
    refine lcX_ok (Q := fun x H1 => gName j x σ H1 D'.nx) (fun _ _ _ z => z) (fun _ _ _ z => z) (fun _ _ _ z => z) R hm fun F' H' a xs R' S h0 no h1 h2 hv hn => ?_
    obtain ⟨sF, R2⟩ := R'.addF h2 h1 (R.fresh h0) no
    exact p _ _ H' (R2.put (by simp [hasT, hn]) (.lst upd_same (hv.mono sF (Same.refl _)))) ⟨S.p.sub.trans sF, S.p.tups⟩
end
end CT

namespace CT
open PySem PySem.Spec PyProof.Rows L2
section
variable {X : Cx} {b : Bs} {W : WX} {a c : Expr} {f g : SemX} {pos : Pos}
theorem sxt_cmp {o : CmpOp} {op : D → D → R D} (ho : Op2 X b WF (compareOp o) op) (hf : SX X b a f) (hg : SX X b c g) (hm : behindInMarks o c = false) : SXT X b (.Compare a [o] [c] pos) (xtOf (x2 op f g)) := by
  obtain ⟨r, h1, h2⟩ := ho
  refine PT.weak (pt_cmpR h1 hf hg hm) fun σ H Q ⟨F, m, R, p⟩ => ?_
  have p' : Yst X.K b σ F H m (fun c _ H' _ => Q c H') (bindX (f m) fun x m1 => bindX (g m1) fun y m2 => match op x y with
      | .ok (.bl c) => .ok (c, m2)
      | _ => .stuck) := by
    unfold xtOf x2 at p
    cases hf : f m with
    | stuck => rw [hf] at p; exact p
    | exc c => rw [hf] at p; exact p
    | ok x =>
      obtain ⟨x, m1⟩ := x
      rw [hf] at p
      simp only [bindX] at p ⊢
      cases hg : g m1 with
      | stuck => rw [hg] at p; exact p
      | exc c => rw [hg] at p; exact p
      | ok y =>
        obtain ⟨y, m2⟩ := y
        rw [hg] at p
        simp only at p ⊢
        cases ho : op x y with
        | stuck => rw [ho] at p; exact p
        | exc c => rw [ho] at p; exact p
        | ok d =>
          rw [ho] at p
          simp only [okX] at p
          cases hd : hasT d with
          | true => rw [hd] at p; exact False.elim p
          | false =>
            rw [hd] at p
            cases d <;> first | exact p | exact False.elim p
  refine seqX R p' fun x m1 F1 H1 v R1 G1 hv n1 p1 => seqX R1 p1 fun y m2 F2 H2 u R2 G2 hu n2 p2 => h2 σ F2 H2 _ x y v u R2.sub (hv.prog G2.p n1) hu ?_
  cases ho : op x y with
  | stuck => rw [ho] at p2; exact p2.elim
  | exc c => rw [ho] at p2; exact p2.elim
  | ok d =>
    rw [ho] at p2
    cases d <;> first | exact p2.elim | skip
    rename_i c
    intro F3 H3 G3 w hw
    cases hw
    exact ⟨c, rfl, p2 F3 H3 (R2.step G3) (R2.stepG G3)⟩
end
def xtAnd (t u : SemXT) : SemXT := fun m => bindX (t m) fun c m1 => if c = true then u m1 else .ok (false, m1)
def xtNot (t : SemXT) : SemXT := fun m => bindX (t m) fun c m1 => .ok (!c, m1)
abbrev SWX (X : Cx) (b : Bs) (e : Expr) (f : SemXT) : Prop := PW X e (tSXT X.K b f)
section
variable {X : Cx} {b : Bs} {W : WX} {e a c : Expr} {f g : SemX} {t u : SemXT} {pos : Pos}
theorem seqXT {R' : Bool → Hp → Prop} {σ : L2.St} {H : Hp} {α : Type} {k : Bool → Sl → R (α × Sl)} {C : α → Hp → Hp → Sl → Prop} {F : Hp} {m : Sl} (r : Rel X.K b F m σ H) (p : Yst X.K b σ F H m C (bindX (t m) k))
    (q : ∀ x m1 F1 H1, Rel X.K b F1 m1 σ H1 → Step σ F H m F1 H1 m1 → Yst X.K b σ F1 H1 m1 C (k x m1) → R' x H1) : tSXT X.K b t σ H R' := by
  refine ⟨F, m, r, ?_⟩
  cases hf : t m with
  | stuck => rw [hf] at p; exact p.elim
  | exc c => rw [hf] at p; exact p.elim
  | ok d =>
    rw [hf] at p
    exact fun F1 H1 R1 G => q d.1 d.2 F1 H1 R1 G (Yst.step G p)
theorem sxw_and1 (h : SXT X b a t) : SWX X b (.BoolOp .And [a] pos) t := L2.pw_and1 h
theorem sxw_and {rest : List Expr} (h : SXT X b a t) (k : SWX X b (.BoolOp .And (c :: rest) pos) u) : SWX X b (.BoolOp .And (a :: c :: rest) pos) (xtAnd t u) := by
  refine PW.weak (L2.pw_and h k) fun σ H Q ⟨F, m, R, p⟩ => ?_
  refine seqXT R p fun x m1 F1 H1 R1 G q => ?_
  cases x with
  | true => exact ⟨F1, m1, R1, q⟩
  | false => exact q F1 H1 R1 (Step.refl _ _ _)
theorem sxt_w (h : SWX X b e t) : SXT X b e t := PW.pt h
theorem sxt_not (h : SXT X b a t) : SXT X b (.UnaryOp .Not a pos) (xtNot t) := by
  refine PT.weak (L2.pt_not h) fun σ H Q ⟨F, m, R, p⟩ => ?_
  exact seqXT R p fun x m1 F1 H1 R1 G q => q F1 H1 R1 (Step.refl _ _ _)
end
theorem xaNil_len : ∀ (m : Sl) xs m1, xaNil m = .ok (xs, m1) → xs.length = 0 := fun m xs m1 h => by cases h; rfl
theorem xaCons_len {f : SemX} {g : SemXA} {n : Nat} (hg : ∀ m xs m1, g m = .ok (xs, m1) → xs.length = n) : ∀ m xs m1, xaCons f g m = .ok (xs, m1) → xs.length = n + 1 := fun m xs m1 h => by
  unfold xaCons at h
  obtain ⟨x, m2, _, h⟩ := bindX_ok h
  obtain ⟨ys, m3, h2, h⟩ := bindX_ok h
  cases h
  rw [List.length_cons, hg m2 ys m1 h2]
end CT

namespace CT
open PySem PySem.Spec PyProof.Rows L2
def sInsX (i : Nat) (h : SemXA) : SemS := fun m => mine i m fun _ => match h m with
  | .ok ([.int k, d], m1) => mine i m1 fun xs => if 0 ≤ k ∧ k < 2 ^ 63 ∧ xs.length < sizeLine then .nx (m1.set i (some (.lst true (xs.take k.toNat ++ [d] ++ xs.drop k.toNat)))) else .stuck
  | _ => .stuck
section
variable {X : Cx} {b : Bs} {W : WX} {o e1 e2 : Expr} {h : SemXA} {i : Nat} {apos cpos pos : Pos}
theorem ss_insX (ho : PE X o (tVar i)) (hf : SXA X b [e1, e2] h)
    (hbase : attributeBase o "insert" X.env (eval o X.env) = eval o X.env := by rfl)
    (hfew : ((backTo cpos (starEach [e1, e2] X.env)).all (fun x => !x.1) && (backToKw cpos (keywordEach [] X.env)).all (fun x => x.1.isSome)
      && decide ([e1, e2].length + ([] : List Keyword).length + (if ([] : List Keyword).isEmpty then 0 else 1) < 30)) = true := by rfl)
    (hline : (apos.endLine == cpos.line) = true := by rfl) (hs : starEach [e1, e2] X.env = (false, eval e1 X.env) :: starEach [e2] X.env := by rfl) (hplain : (backTo cpos (starEach [e2] X.env)).any (·.1) = false := by rfl)
    (hsw : swapsWith (.Call (.Attribute o "insert" apos) [e1, e2] [] cpos) none pos.line X.env = pure false := by rfl) : SS X b W (.Expr (.Call (.Attribute o "insert" apos) [e1, e2] [] cpos) pos) (sInsX i h) := by
  refine PS.weak (ps_expr (pe_bm PySem.F.plainAttrs_list PySem.F.slot_list_insert PySem.F.type_list_insert mt_insert ho hf hbase hfew hline hs hplain) hsw) fun D' σ H ⟨F, m, R, p⟩ => ?_
  obtain ⟨xs, a, vs, h1, h2, h3, h4, p⟩ := mine_sst R p
  refine ⟨.ref a, h2, .inl ⟨rfl, vs, .inl (.inl h3)⟩, F, m, R, ?_⟩
  cases hm : h m with
  | stuck => rw [hm] at p; exact p.elim
  | exc c => rw [hm] at p; exact p.elim
  | ok r =>
    obtain ⟨ds, m1⟩ := r
    rw [hm] at p
    intro F1 H1 R1 S1 us hus hn
    split at p
    rotate_left
    · exact p.elim
    rename_i k d m1' hr
    cases hr
    have p := Sst.prog S1.p p
    obtain ⟨ys, a', ws, k1, k2, k3, k4, p⟩ := mine_sst R1 p
    rw [h2] at k2; cases k2
    obtain ⟨v1, v2, rfl, r1, r2⟩ := hus.two
    cases r1
    split at p
    rotate_left
    · exact p.elim
    rename_i hz
    simp only [hasTL, hasT, Bool.or_false, Bool.false_or] at hn
    refine ⟨a, ws, k, v2, rfl, rfl, k3, by rw [← k4.length]; exact hz.2.2, hz.1, hz.2.1, p σ F1 _ (R1.chgL k1 h2 k3 fun as w => ⟨as, List.Sublist.refl _, w.ins (by rw [hasTL, hn]; rfl) (.cons r2 .nil) k.toNat⟩) (chg_prog k3)⟩
end
end CT

namespace CT
open PySem PySem.Spec PyProof.Rows L2
open Classical in
noncomputable def sNewL (i : Nat) (h : SemA) (g : SemS) : SemS := fun m => ofR m (h m) fun ds => if hasTL ds = true then .stuck else
  if ∀ a : Addr, ∃ m', g (m.set i (some (lentD (some a) ds))) = .nx m' ∧ m'.length = m.length then .nx (List.replicate m.length none) else .stuck
theorem Rel.forgetAll {K : PySem.W.Frag} {b : Bs} {F H : Hp} {m : Sl} {σ : L2.St} (r : Rel K b F m σ H) {n : Nat} (hn : m.length = n) : Rel K b F (List.replicate n none) σ H := by
  have no : ∀ {j : Nat} {d : D}, (List.replicate n (none : Option D))[j]? = some (some d) → False := fun {j d} h => by
    rw [List.getElem?_replicate] at h
    split at h <;> cases h
  exact ⟨by rw [List.length_replicate, ← hn]; exact r.len, r.grow, fun j d q => (no q).elim, fun p q x y v w c e1 e2 e3 e4 o1 o2 => (no e1).elim⟩
section
variable {X : Cx} {b : Bs} {W : WX} {e : Expr} {rest : List Stmt} {pos : Pos} {i : Nat} {x : Str} {px : Pos}
theorem sss_newL {h : SemA} {g : SemS} (hN : X.N.Nodup) (hi : X.N[i]? = some x) (hx : Loc X.env.scope x) (hf : SO X b W e h) (hr : SSs X b W rest g) (hfn : X.fn x = true ∨ X.env.scope.names.lookup x = some .local := by first | exact .inl rfl | exact .inr rfl)
    (hs : swapsWithSole [.Name x px] e pos.line X.env = pure false := by rfl) (hw : swappedStores [.Name x px] e X.env = pure none := by rfl) : SSs X b W (.Assign [.Name x px] e pos :: rest) (sNewL i h g) :=
  PSs.weak (pss_cons (ps_asg hf (pg_name hN hi hx hfn) hs hw) hr) fun D' σ H ⟨F, m, R, p⟩ => by
    refine ⟨F, m, R, ?_⟩
    unfold sNewL at p
    cases hk : h m with
    | stuck => rw [hk] at p; exact p.elim
    | exc c => rw [hk] at p; exact fun F1 H1 G => p σ F1 H1 (R.step G) G.prog
    | ok ds =>
      rw [hk] at p
      simp only [ofR_ok] at p
      split at p
      · exact p.elim
      rename_i ht
      have ht : hasTL ds = false := by simpa using ht
      split at p
      rotate_left
      · exact p.elim
      rename_i hall
      intro F1 H1 G a xs h0 h1 h2 hv
      obtain ⟨m', hg, hl⟩ := hall a
      have R1 : Rel X.K b F1 (m.set i (some (lentD (some a) ds))) (σ.set i (some (.ref a))) H1 :=
        R.putN G (.inr (.inr (.inr ⟨_, _, _, a, mkKv xs, rfl, lent_ok rfl (fun c z => Option.some.inj z) h2 h1 h0 (RpL.base ds xs ht hv) ht⟩)))
      refine ⟨F1, _, R1, ?_⟩
      rw [hg]
      exact fun σ' F' H' R' P' => p σ' F' H' (R'.forgetAll hl) (G.prog.trans P')
end
end CT

namespace CT
open PySem PySem.Spec PyProof.Rows L2
end CT

namespace CT
open PySem PySem.Spec PyProof.Rows L2
end CT

namespace CT
open PySem PySem.Spec PyProof.Rows L2
end CT

namespace CT
open PySem PySem.Spec PyProof.Rows L2
end CT

namespace CT
open PySem PySem.Spec PyProof.Rows L2
theorem rp_ints {K : PySem.W.Frag} {F H0 H : Hp} : ∀ l : List Int, RpL K F H0 H (l.map D.int) (l.map V.int)
  | [] => .nil
  | i :: l => .cons (.int i) (rp_ints l)
end CT

namespace CT
open PySem PySem.Spec PyProof.Rows L2
end CT

namespace CT
open PySem PySem.Spec PyProof.Rows L2
end CT

namespace CT
open PySem PySem.Spec PyProof.Rows L2
end CT

namespace CT
open PySem PySem.Spec PyProof.Rows L2
theorem hasTL_mem {ds : List D} {ks : List (List Int)} {k : List Int} {d : D} (n : hasTL ds = false) (h : dAt ks ds k = some d) : hasT d = false := by
  induction ks generalizing ds with
  | nil => simp [dAt] at h
  | cons q ks ih =>
    cases ds with
    | nil => simp [dAt] at h
    | cons e ds =>
      simp only [hasTL, Bool.or_eq_false_iff] at n
      simp only [dAt] at h
      split at h
      · cases h; exact n.1
      · exact ih n.2 h
theorem sortable_ints (ks : List Int) : sortableB (ks.map fun x => py (.int x)) = true := by
  unfold sortableB
  simp [py, PySem.W.alike, notB, tupB, PyData.depth]
theorem each_rel {α : Type} {f : Value → α → Prop} : ∀ {ks : List α} {us : List Value}, us.length = ks.length → (∀ (j : Nat) (v : Value), us[j]? = some v → ∃ x, ks[j]? = some x ∧ f v x) → PySem.W.EachIs (fun u x => f u x ∧ x ∈ ks) us ks
  | [], [], _, _ => .nil
  | [], _ :: _, h, _ => by simp at h
  | _ :: _, [], h, _ => by simp at h
  | x :: ks, u :: us, hl, hp => by
    obtain ⟨y, e1, e2⟩ := hp 0 u rfl
    simp only [List.getElem?_cons_zero, Option.some.injEq] at e1
    subst e1
    have := each_rel (f := f) (ks := ks) (us := us) (by simpa using hl) fun j v e => by simpa using hp (j + 1) v (by simpa using e)
    exact .cons ⟨e2, List.mem_cons_self⟩ (each_imp this fun _ _ h => ⟨h.1, List.mem_cons_of_mem _ h.2⟩)
end CT

namespace CT
open PySem PySem.Spec PyProof.Rows L2
abbrev freshS (w : World) : Obj := { cls := .type "set", dict := none, data := .set #[] 0 (.fresh 0 0 (!w.params.followText "set-order")) }
section
variable {P : Program} {w : World} {A : Around} {E : Value → Shared → Prop} {s : Shared}
theorem set_of_list {l : Addr} {items : Array Value} (ns : List Int) {Q : Value → Shared → Prop} (hh : A.handled = none) (hl : s.heap.IsList l items) (hit : IntsAre items.toList ns) (hb : ns.length + 1 < scanBound)
    (h : ∀ (h' : Heap) (tk c : Nat), SetR w h' s.heap.objs.size (fun j => decide (j ∈ ns)) c → c ≤ ns.length → (∀ b o, s.heap.get? b = some o → h'.get? b = some o) → Q (.ref s.heap.objs.size) { s with heap := h', toks := tk }) :
    wpAny (model P w) A (call (.type "set") [.ref l]) Q E s := by
  have hsz : items.size = ns.length := by rw [← Array.length_toList]; exact hit.length
  obtain ⟨cc, tl, hmro⟩ := F.called_set.mro
  have f1 := F.called_set.made
  have f2 := F.called_set.sub
  have f3 := F.called_set.notType
  have f4 := F.called_set.canCreate
  have f5 := F.typeCall_set_1 (.ref l)
  have f6 := F.called_set.init.lookup
  have f7 := F.called_set.init.bind (.ref s.heap.objs.size)
  obtain ⟨ob, hob⟩ : ∃ ob : Obj, ob = { cls := .type "set", dict := none, data := .set #[] 0 (.fresh 0 0 (!w.params.followText "set-order")) } := ⟨_, rfl⟩
  have g0 : (s.heap.push ob).get? s.heap.objs.size = some ob := Heap.get?_push_size _ (by rw [hob]; rfl)
  refine wpAny_call (codeAny_of_tree ?_)
  show wpAny _ _ (callAny (.type "set") _) _ _ _
  refine wpAny_pure ⟨Code.quiet_builtin _ (by decide +kernel), codeAny_builtin F.entry_type_call ?_⟩
  rw [Around.under_plain (weight_type_call_type "set" [.ref l] []) rfl]
  repeat (any_goals (first | assumption | wp_step))
  refine codeAny_mono (code_set_led1 (.ref l) (E := E) (Q₁ := fun v z => v = .ref s.heap.objs.size ∧ z = { s with heap := s.heap.push ob }) ⟨rfl, by rw [hob]⟩) fun r z hr => ?_
  rcases r with e | fl
  · exact hr
  cases fl <;> first | exact hr.elim | skip
  obtain ⟨rfl, rfl⟩ := hr
  have hT : Shared.TypeIs { s with heap := s.heap.push ob } (.ref s.heap.objs.size) "set" := ⟨_, g0, by rw [hob]⟩
  repeat (any_goals (first | assumption | wp_step))
  refine codeAny_mono (codeAny_call_builtin (R := wants (fun v z => v = .none ∧ ∃ h' tk c, z = { s with heap := h', toks := tk } ∧ SetR w h' s.heap.objs.size (fun j => decide (j ∈ ns)) c ∧ c ≤ ns.length ∧ ∀ b o, s.heap.get? b = some o → h'.get? b = some o) E)
    F.called_set.init.plain F.entry_set_init (check_set_init_1 hT ?_)) fun r z hr => ?_
  rotate_left
  · rcases r with e | fl
    · exact hr
    cases fl <;> first | exact hr.elim | skip
    obtain ⟨rfl, h', tk, c, rfl, q1, q2, q3⟩ := hr
    repeat (any_goals (first | assumption | wp_step))
    exact h _ _ _ q1 q2 q3
  obtain ⟨⟨ocls, od, odata, osl⟩, hol, hcl, nl, hdl⟩ := hl
  simp only at hcl hdl
  subst hcl hdl
  have lt : l < s.heap.objs.size := Heap.lt_size hol
  have hol1 : (s.heap.push ob).get? l = some { cls := .type "list", dict := od, data := .seq items nl, slots := osl } := Heap.get?_push_of_some _ hol
  have l1 : (s.heap.push ob).IsList l items := ⟨_, hol1, rfl, nl, rfl⟩
  have f8 := F.sub_list_set
  have f9 := F.sub_list_frozenset
  have hne : (Value.type "list" == Value.type "dict") = false := by decide
  subst hob
  unfold Builtin.«set.__init__» noKeywords Builtin.Frozenset.updateFrom
  generalize hPI : pyIter = PI
  wp_walk
  subst hPI
  refine wpAny_pyIter_list l1 ?_
  refine wpAny_bind (wpAny_runValue ?_)
  have sz1 : (s.heap.push (freshS w)).objs.size = s.heap.objs.size + 1 := Heap.size_push ..
  have a1 : l ≠ (s.heap.push (freshS w)).objs.size := by rw [sz1]; exact Nat.ne_of_lt (Nat.lt_succ_of_lt lt)
  refine set_update_ints ((Walks.list (show A.in1.in1.in1.handled = none by simp [hh]) _ l a1 items).toS) s.heap.objs.size ?_ ns hsz hb (fun i v hv => ?_) (items.size - 0) 0 _ (by omega) (Nat.zero_le _)
    ⟨⟨_, Heap.get?_push_size _ rfl, rfl, rfl⟩, l1.push _⟩ ⟨0, Nat.le_refl 0, setR_new_at (w := w) (Heap.get?_push_of_some _ g0)⟩ fun z c hm hc hS => ?_
  · rw [sz1]
    simp only [List.mem_cons, List.not_mem_nil, or_false, not_or]
    exact ⟨Nat.ne_of_lt (Nat.lt_succ_self _), Nat.ne_of_gt lt⟩
  · have hi : i < ns.length := by rw [← hsz]; exact (Array.getElem?_eq_some_iff.mp hv).1
    obtain ⟨t, e⟩ := PyProof.Rows.IntsAre.int_at hit i v (by rw [Array.getElem?_toList]; exact hv)
    exact ⟨ns[i], t, List.getElem?_eq_getElem hi, by rw [e, List.getD_eq_getElem?_getD, List.getElem?_eq_getElem hi]; rfl⟩
  · obtain ⟨h', g2, d2, t2, o2⟩ := z
    have eg : g2 = s.gens := hm.gens
    have ed : d2 = s.drawn := hm.drawn
    have eo : o2 = s.os := hm.os
    subst eg ed eo
    show wpAny _ _ _ _ _ _
    refine wpAny_pure ?_
    show wpAny _ _ (ret Value.none) _ _ _
    refine wpAny_pure ⟨rfl, h', t2, c, rfl, hS, by rw [← hsz]; exact hc, fun b o e => ?_⟩
    have hb0 : b < s.heap.objs.size := Heap.lt_size e
    refine hm.heap b o ?_ (Heap.get?_push_of_some _ (Heap.get?_push_of_some _ e))
    rw [sz1]
    simp only [List.mem_cons, List.not_mem_nil, or_false, not_or]
    exact ⟨Nat.ne_of_lt hb0, Nat.ne_of_lt (Nat.lt_succ_of_lt hb0)⟩
end
end CT

namespace CT
open PySem PySem.Spec PyProof.Rows L2
theorem leP_int (a b : Int) : leP (fun x => py (.int x)) a b = decide (a ≤ b) := by
  have : leP (fun x => py (.int x)) a b = !PySem.W.dataLt (py (.int b)) (py (.int a)) := rfl
  rw [this]
  show (!PySem.W.dataLt (.int b) (.int a)) = _
  rw [PySem.W.dataLt_int]
  by_cases h : a ≤ b
  · simp [h]
  · simp [h]; omega
def setS (ns : List Int) : List Int := (ns.eraseDups).mergeSort fun a b => decide (a ≤ b)
theorem lt_sort {ns : List Int} (h : ns.Nodup) : (ns.mergeSort fun a b => decide (a ≤ b)).Pairwise (· < ·) := by
  have hp : (ns.mergeSort fun a b => decide (a ≤ b)).Pairwise fun a b => decide (a ≤ b) = true := List.pairwise_mergeSort (fun a b c h1 h2 => by simp at h1 h2 ⊢; omega) (fun a b => by simp; omega) ns
  have hn : (ns.mergeSort fun a b => decide (a ≤ b)).Nodup := (List.mergeSort_perm ns _).nodup_iff.mpr h
  refine (List.Pairwise.and hp hn).imp fun {a b} z => ?_
  obtain ⟨z1, z2⟩ := z
  have : a ≤ b := by simpa using z1
  omega
theorem lt_ext : ∀ {A B : List Int}, A.Pairwise (· < ·) → B.Pairwise (· < ·) → (∀ k, k ∈ A ↔ k ∈ B) → A = B
  | [], [], _, _, _ => rfl
  | [], b :: B, _, _, h => absurd ((h b).mpr (by simp)) (by simp)
  | a :: A, [], _, _, h => absurd ((h a).mp (by simp)) (by simp)
  | a :: A, b :: B, ha, hb, h => by
    have ha := List.pairwise_cons.mp ha
    have hb := List.pairwise_cons.mp hb
    have e : a = b := by
      rcases List.mem_cons.mp ((h a).mp (by simp)) with e | e
      · exact e
      · rcases List.mem_cons.mp ((h b).mpr (by simp)) with e2 | e2
        · exact e2.symm
        · have h1 := ha.1 b e2
          have h2 := hb.1 a e
          omega
    subst e
    congr 1
    refine lt_ext ha.2 hb.2 fun p => ⟨fun hp => ?_, fun hp => ?_⟩
    · rcases List.mem_cons.mp ((h p).mp (by simp [hp])) with e | e
      · have := ha.1 p hp; omega
      · exact e
    · rcases List.mem_cons.mp ((h p).mpr (by simp [hp])) with e | e
      · have := hb.1 p hp; omega
      · exact e
theorem mem_eraseDupsI (k : Int) (ns : List Int) : k ∈ ns.eraseDups ↔ k ∈ ns := by simp
theorem nodup_eraseDupsI : ∀ (n : Nat) (ns : List Int), ns.length ≤ n → ns.eraseDups.Nodup
  | _, [], _ => by simp
  | 0, _ :: _, h => by simp at h
  | n + 1, a :: ns, h => by
    rw [List.eraseDups_cons, List.nodup_cons]
    refine ⟨by simp, nodup_eraseDupsI n _ (by have := List.length_filter_le (fun b => !b == a) ns; simp at h; omega)⟩
theorem setS_lt (ns : List Int) : (setS ns).Pairwise (· < ·) := lt_sort (nodup_eraseDupsI _ ns (Nat.le_refl _))
theorem setS_mem (ns : List Int) (k : Int) : k ∈ setS ns ↔ k ∈ ns := by
  unfold setS
  rw [(List.mergeSort_perm _ _).mem_iff, mem_eraseDupsI]
theorem setS_of {ys ns : List Int} (h : ys.Pairwise (· < ·)) (e : ∀ k, k ∈ ys ↔ k ∈ ns) : ys = setS ns := lt_ext h (setS_lt ns) fun k => (e k).trans (setS_mem ns k).symm
def SetI (w : World) (q : Addr) (ns : List Int) : HO := .ext fun h => ∃ c, SetR w h q (fun j => decide (j ∈ ns)) c ∧ c ≤ ns.length
def rSetI (K : PySem.W.Frag) (w : World) : List V → Hp → VK → Prop := fun xs H Q => ∃ (p : Addr) (ns : List Int), xs = [.ref p] ∧ (SqL K H p (ns.map V.int) ∨ H p = some (.tup (ns.map V.int))) ∧ ns.length + 1 < scanBound ∧ ∀ q, H q = none → Q (.ref q) (upd H q (SetI w q ns))
def rSortSI (w : World) : List V → Hp → VK → Prop := fun xs H Q => ∃ (p : Addr) (ns : List Int), xs = [.ref p] ∧ H p = some (SetI w p ns) ∧ ∀ q, H q = none → Q (.ref q) (upd H q (.lst ((setS ns).map V.int)))
section
variable {X : Cx}
theorem none_size {H : Hp} {s : Shared} {pins : List (Addr × Obj)} {σ : L2.St} (I : L2.Inv X pins σ H s) {q : Addr} (h : s.heap.get? q = none) : H q = none := by
  cases c : H q with
  | none => rfl
  | some o =>
    obtain ⟨u, hu⟩ := obj_there (I.hok _ o c)
    rw [h] at hu; cases hu
theorem call_setI (hc : X.calm = true) : CallR X (.type "set") (rSetI X.K X.w) := by
  intro pins s σ H xs us Q I r h
  obtain ⟨p, ns, rfl, hs, hb, q⟩ := h
  obtain ⟨u, rfl, ru⟩ := vals1 r
  cases ru
  have n1 : s.heap.get? s.heap.objs.size = none := by
    cases c : s.heap.get? s.heap.objs.size with
    | none => rfl
    | some o => exact absurd (Heap.lt_size c) (Nat.lt_irrefl _)
  have n2 := none_size I n1
  have fin : ∀ (h' : Heap) (tk c : Nat), SetR X.w h' s.heap.objs.size (fun j => decide (j ∈ ns)) c → c ≤ ns.length → (∀ b o, s.heap.get? b = some o → h'.get? b = some o) → EP X pins σ Q (.ref s.heap.objs.size) { s with heap := h', toks := tk } := fun h' tk c R hc' k => by
    refine ⟨.ref s.heap.objs.size, _, I.laidN (a := s.heap.objs.size) (o := SetI X.w s.heap.objs.size ns) (t' := tk) k n1 n2 ⟨⟨c, R, hc'⟩, ?_, fun h1 h2 ⟨c2, x, y⟩ kk => ⟨c2, x.at kk, y⟩⟩, rfl, q _ n2⟩
    obtain ⟨o, _, _, _, ho, _⟩ := R
    exact ⟨o, ho⟩
  rcases hs with hs | hs
  · obtain ⟨its, rv, pl, hz⟩ := I.list hs
    exact set_of_list ns (I.ok.hd hc) pl.isList (by simpa using ints_of_vals rv) hb fin
  · obtain ⟨_, its, rv, o, k1, k2, n, k3⟩ := (show ObjOk X.prog X.w H s.heap p (.tup (ns.map V.int)) from I.hok p _ hs)
    exact call_set_tupI ns (I.ok.hd hc) ⟨o, k1, k2, n, k3⟩ (by simpa using ints_of_vals rv) hb fin
theorem inv_at {H : Hp} {s s' : Shared} {pins : List (Addr × Obj)} {σ : L2.St} (I : L2.Inv X pins σ H s) (k : ∀ b o, s.heap.get? b = some o → s'.heap.get? b = some o) (g : s'.gens = s.gens) (o : s'.os = s.os) : L2.Inv X pins σ H s' := by
  have J : L2.Inv X pins σ H { s with heap := s'.heap, gens := s'.gens, drawn := s'.drawn, toks := s'.toks } :=
    I.call (ch := []) (Un.kept k) (I.hok.kept k) (by rw [g]; exact I.bare) (fun _ z => nomatch z)
  have e : s' = { s with heap := s'.heap, gens := s'.gens, drawn := s'.drawn, toks := s'.toks } := by
    cases s'
    cases s
    cases o
    rfl
  rw [e]; exact J
theorem call_sortSI (hc : X.calm = true) (hu : X.A.units + 65 < cLine) : CallR X (.builtin "sorted") (rSortSI X.w) := by
  intro pins s σ H xs us Q I r h
  obtain ⟨p, ns, rfl, hp, q⟩ := h
  obtain ⟨u, rfl, ru⟩ := vals1 r
  cases ru
  obtain ⟨c, R, _⟩ := (show ObjOk X.prog X.w H s.heap p (SetI X.w p ns) from I.hok p _ hp).1
  obtain ⟨o, es, ep, t, ho, hex, hd, g, nd, hm, hb, hf, hn, hr, hl⟩ := R
  refine Calls.call_function_entry kind_sorted plain_sorted entry_sorted (args_sorted1 _) ?_
  unfold Builtin.«sorted»
  refine wpAny_bind (m := checkCount "sorted" 1 1 _) (wpAny_pure ?_)
  refine wpAny_bind (collect_set (A := X.A.in1) (I.ok.hd hc) ⟨o, ho, hex.1, hd⟩ hf hb hr hl fun s1 vs k1 hz g1 o1 pm => ?_)
  have hvl : vs.length = c := by rw [pm.length_eq, List.length_map, Array.length_toList]; exact hn
  obtain ⟨ks, hks⟩ : ∃ ks, ks = vs.map Builtin.Re.reRawOf := ⟨_, rfl⟩
  have hI : IntsAre vs ks := by
    rw [hks]
    refine ints_of vs fun v hv => ?_
    obtain ⟨e, he, q⟩ := List.mem_map.mp (pm.mem_iff.mp hv)
    obtain ⟨k, tk, h1, _⟩ := g e he
    exact ⟨k, tk, by rw [← q]; exact h1⟩
  have pk : ks.Perm (es.toList.map L2.keyOf) := by
    have q := pm.map Builtin.Re.reRawOf
    rw [List.map_map] at q
    rw [hks]
    exact q
  have hl2 : vs.length ≤ sizeLine := by rw [hvl]; unfold scanBound at hb; rw [sizeLine_eq]; omega
  have hkl : ks.length = vs.length := by rw [hks, List.length_map]
  have I1 : L2.Inv X pins σ H s1 := inv_at I k1 g1 o1
  have nk : ks.Nodup := pk.nodup_iff.mpr nd
  have mk : ∀ k, k ∈ ks ↔ k ∈ ns := fun k => by
    rw [pk.mem_iff, ← hm k]; simp
  obtain ⟨h1, h2, h3⟩ := sortable_of (sortable_ints ks)
  refine wpAny_bind (wpAny_newList ?_ hl2)
  have at1 : (s1.heap.push (seqObj "list" vs.toArray 0)).get? s1.heap.objs.size = some (seqObj "list" vs.toArray 0) := Heap.get?_push_size _ rfl
  have E : PySem.W.EachIs (fun u (x : Int) => (∃ t, u = Value.int x t) ∧ x ∈ ks) vs ks := each_rel (f := fun u x => ∃ t, u = Value.int x t) (by omega) fun j v ev => by
    have hj : j < ks.length := by rw [hkl]; exact (List.getElem?_eq_some_iff.mp ev).1
    obtain ⟨t, e⟩ := PyProof.Rows.IntsAre.int_at hI j v ev
    exact ⟨ks[j], List.getElem?_eq_getElem hj, t, by rw [e, List.getD_eq_getElem?_getD, List.getElem?_eq_getElem hj]; rfl⟩
  have I' : L2.Inv X pins σ H { s1 with heap := PySem.W.sortingHeap (s1.heap.push (seqObj "list" vs.toArray 0)) s1.heap.objs.size vs, toks := s1.toks } := I1.kept (t' := s1.toks) fun c u e => PySem.W.sortingHeap_old (Nat.ne_of_lt (Heap.lt_size e)) (Heap.get?_push_of_some _ e)
  have rd : ∀ u (x : Int), ((∃ t, u = Value.int x t) ∧ x ∈ ks) → ∃ as, Reads (PySem.W.sortingHeap (s1.heap.push (seqObj "list" vs.toArray 0)) s1.heap.objs.size vs) u (py (.int x)) as := fun u x hu => by
    have dp := Rp.dp (K := X.K) (F := fun _ => none) (H0 := H) (H := H) (fun _ _ z => nomatch z) (.int x) (.int x) rfl (.int x)
    exact Dp.reads I' _ _ u dp hu.1
  have S := PySem.W.SortsAt.data (prog := X.prog) (w := X.w) (A := X.A.in1.in1) (s := { s1 with heap := PySem.W.sortingHeap (s1.heap.push (seqObj "list" vs.toArray 0)) s1.heap.objs.size vs, toks := s1.toks }) (vs := vs) (ds := ks.map fun x => py (.int x)) (each_map (fun x => py (.int x)) E rd) h1 h2 fun d hd => by
    have := h3 d hd
    rw [Around.in1_units, Around.in1_units]; omega
  have O := PySem.W.sortVals_each (κ := PySem.W.dataKind (PySem.W.sortingHeap (s1.heap.push (seqObj "list" vs.toArray 0)) s1.heap.objs.size vs) (ks.map fun x => py (.int x))) (R := fun u (x : Int) => RelV (V.int x) u) (rev := false) (ks := vs) (vs := vs) (bs := ks) (fun x => PySem.W.keyToks (py (.int x))) (each_imp E fun _ _ h => h.1) (each_imp E fun u x h => by
    obtain ⟨as, r⟩ := rd u x h
    exact PySem.W.dataKind_some h1 (List.mem_map.mpr ⟨x, h.2, rfl⟩) r)
  have es : (ks.mergeSort (leP fun x => py (.int x))) = setS ns := by
    have : (leP fun x : Int => py (.int x)) = fun a b => decide (a ≤ b) := funext fun a => funext fun b => leP_int a b
    rw [this]
    exact setS_of (lt_sort nk) fun k => (List.mergeSort_perm _ _).mem_iff.trans (mk k)
  have Vs : Vals ((setS ns).map V.int) (PySem.W.sortVals (PySem.W.dataKind (PySem.W.sortingHeap (s1.heap.push (seqObj "list" vs.toArray 0)) s1.heap.objs.size vs) (ks.map fun x => py (.int x))) false vs vs) := by
    rw [← es]
    have go : ∀ {us : List Value} {ks : List Int}, PySem.W.EachIs (fun u (x : Int) => RelV (V.int x) u) us ks → Vals (ks.map V.int) us := by
      intro us ks e
      induction e with
      | nil => exact .nil
      | cons h _ ih => exact .cons h ih
    exact go O
  refine wpAny_bind (wpAny_holding (wpAny_call_entry_kw (s := { s1 with heap := s1.heap.push (seqObj "list" vs.toArray 0) }) slot_list_sort ⟨_, at1, rfl⟩ entry_list_sort ?body (args_list_sort _)))
  case body =>
    show wpAny (model X.prog X.w) X.A.in1.in1 (Builtin.«list.sort» ⟨[.ref s1.heap.objs.size], []⟩) _ _ _
    obtain ⟨e0, fin⟩ := sortedHeap_at (h := s1.heap.push (seqObj "list" vs.toArray 0)) (a := s1.heap.objs.size) (vs := vs) (n := 0) (out := (PySem.W.sortVals (PySem.W.dataKind (PySem.W.sortingHeap (s1.heap.push (seqObj "list" vs.toArray 0)) s1.heap.objs.size vs) (ks.map fun x => py (.int x))) false vs vs).toArray) at1
    have n1 : s1.heap.get? s1.heap.objs.size = none := by
      cases c : s1.heap.get? s1.heap.objs.size with
      | none => rfl
      | some o => exact absurd (Heap.lt_size c) (Nat.lt_irrefl _)
    have n2 := none_size I1 n1
    refine PySem.W.list_sort_vals (s := { s1 with heap := s1.heap.push (seqObj "list" vs.toArray 0) }) at1 S hl2 ⟨_, rfl, wpAny_pure ⟨_, rfl, .ref s1.heap.objs.size, _, I1.laidN (a := s1.heap.objs.size) (o := .lst ((setS ns).map V.int)) (t' := s1.toks) (fun c u e => ?_) n1 n2 ⟨?_, _, e0, Vs, fin⟩, rfl, q _ n2⟩⟩
    · rw [sortedHeap_old (Nat.ne_of_lt (Heap.lt_size e)) (by rw [size_push']; exact Nat.lt_succ_of_lt (Heap.lt_size e))]
      exact Heap.get?_push_of_some _ e
    · rw [List.length_map, ← es, (List.mergeSort_perm _ _).length_eq, hkl]; exact hl2
end
def setSortD (d : D) : R (List D) := match d with
  | .lst _ xs => (match intsOf xs with
    | some ns => if ns.length + 1 < scanBound then .ok ((setS ns).map .int) else .stuck
    | none => .stuck)
  | .fr xs => (match intsOf xs with
    | some ns => if ns.length + 1 < scanBound then .ok ((setS ns).map .int) else .stuck
    | none => .stuck)
  | .tup xs => (match intsOf xs with
    | some ns => if ns.length + 1 < scanBound then .ok ((setS ns).map .int) else .stuck
    | none => .stuck)
  | _ => .stuck
def aSetS (f : SemE) : SemA := fun m => (f m).bind setSortD
section
variable {X : Cx} {b : Bs} {W : WX} {e : Expr} {f : SemE} {p p2 pos pos2 : Pos}
theorem so_setS (hc : X.calm = true) (hu : X.A.units + 65 < cLine) (hg : Gl X "sorted") (hm : X.mg "sorted" = none) (hg2 : Gl X "set") (hm2 : X.mg "set" = none) (hf : SE X b W e f)
    (he : starEach [e] X.env = (false, eval e X.env) :: starEach [] X.env := by rfl) (hpl : (backTo pos (starEach [] X.env)).any (·.1) = false := by rfl) (hpl2 : (backTo pos2 (starEach [] X.env)).any (·.1) = false := by rfl)
    (he2 : starEach [.Call (.Name "set" p2) [e] [] pos2] X.env = (false, eval (.Call (.Name "set" p2) [e] [] pos2) X.env) :: starEach [] X.env := by rfl) :
    SO X b W (.Call (.Name "sorted" p) [.Call (.Name "set" p2) [e] [] pos2] [] pos) (aSetS f) := by
  refine PE.weak (pe_callB (call_sortSI hc hu) hg hm boot_sorted (pa_cons (pe_callTy (call_setI hc) hg2 hm2 PyProof.Rows.boot_set (pa_cons hf pa_nil he) (by decide) (by decide) he hpl2) pa_nil he2) (by decide) (by decide) he2 hpl) fun σ H Q ⟨F, m, R, z⟩ => ?_
  show tSE X.K b W f σ H _
  refine ⟨F, m, R, ?_⟩
  unfold aSetS at z
  cases hfm : f m with
  | stuck => rw [hfm] at z; exact z.elim
  | exc c => rw [hfm] at z; exact fun F1 H1 G => z F1 H1 G
  | ok d =>
    rw [hfm] at z
    simp only [CT.R.bind_ok] at z
    refine fun F1 H1 G v hv => ?_
    have R1 := R.step G
    have main : ∀ (ns : List Int) (a : Addr), v = .ref a → (SqL X.K H1 a (ns.map V.int) ∨ H1 a = some (.tup (ns.map V.int))) → ns.length + 1 < scanBound → Pst b W σ F H (CO X.K b H Q) (.ok ((setS ns).map .int)) → rSetI X.K X.w [v] H1 fun x H2 => rSortSI X.w [x] H2 Q := by
      intro ns a ev hs hb k
      refine ⟨a, ns, by rw [ev], hs, hb, fun q hq => ⟨q, ns, rfl, upd_same, fun r hr => ?_⟩⟩
      have G1 : Grow F1 H1 F1 (upd H1 q (SetI X.w q ns)) := Grow.loose (o := SetI X.w q ns) R1.sub hq
      have R2 := R1.step G1
      have G2 : Grow F1 (upd H1 q (SetI X.w q ns)) F1 (upd (upd H1 q (SetI X.w q ns)) r (.lst ((setS ns).map V.int))) := Grow.loose (o := .lst _) R2.sub hr
      have hH : H r = none := (G.trans G1).same.free hr
      exact k _ _ ((G.trans G1).trans G2) r _ hH (R2.sub.free hr) upd_same (rp_ints _)
    show rSetI X.K X.w [v] H1 fun x H2 => rSortSI X.w [x] H2 Q
    unfold setSortD at z
    split at z
    · split at z
      · rename_i ns hn
        split at z
        · rename_i hb
          obtain ⟨a, us, rfl, h1, h2⟩ := hv.list R1.sub
          rw [intsOf_rp hn h2] at h1
          exact main ns a rfl (.inl (.inl (.inl h1))) hb z
        · exact z.elim
      · exact z.elim
    · split at z
      · rename_i ns hn
        split at z
        · rename_i hb
          obtain ⟨a, us, rfl, h1, h2⟩ := hv.frl R1.sub
          rw [intsOf_rp hn h2] at h1
          exact main ns a rfl (.inl h1) hb z
        · exact z.elim
      · exact z.elim
    · split at z
      · rename_i ns hn
        split at z
        · rename_i hb
          obtain ⟨a, us, rfl, h1, h2⟩ := hv.tuple'
          rw [intsOf_rp hn h2] at h1
          exact main ns a rfl (.inr h1) hb z
        · exact z.elim
      · exact z.elim
    · exact z.elim
end
end CT

namespace CT
open PySem PySem.Spec PyProof.Rows L2
def xSeq (strict : Bool) (f : SemX) : SemXA := fun m => bindX (f m) fun x m1 => match x with
  | .lst t ds => if (strict && t) = true then .stuck else if (strict && hasTL ds) = true then .stuck else .ok (ds, m1)
  | _ => .stuck
section
variable {X : Cx} {b : Bs} {W : WX} {strict : Bool} {e tg : Expr} {f : SemX}
theorem six_seq (hf : SX X b e f) : SIX X b strict tg e (xSeq strict f) := by
  refine PI.weak (pi_list hf) fun σ H Rw ⟨F, m, R, p⟩ => ?_
  refine seqX R p fun x m1 F1 H1 v R1 G1 hv n1 p1 => ?_
  cases x <;> first | exact p1.elim | skip
  rename_i t ds
  simp only at p1
  split at p1
  · exact p1.elim
  rename_i c
  split at p1
  · exact p1.elim
  rename_i c2
  obtain ⟨a, xs, rfl, k1, k2⟩ := hv.lasts (strict := strict) R1.sub (by simpa using c)
  exact ⟨a, rfl, ⟨xs, k2 F1 H1 ⟨Same.refl _, R1.sub, fun _ _ z _ => z, fun _ => Same.refl _⟩⟩, p1 F1 H1 R1 (Step.refl _ _ _) _ (wk_list (noT_of c2) k1 k2)⟩
end
end CT

namespace CT
open PySem PySem.Spec PyProof.Rows L2
def ItZ3 (K : PySem.W.Frag) (k l r : Zk) : It :=
  ⟨fun i H => ∃ xs ys zs : List V, k.at K H xs ∧ l.at K H ys ∧ r.at K H zs ∧ i < xs.length ∧ i < ys.length ∧ i < zs.length,
    fun i H v H' => ∃ T x y z, v = .ref T ∧ H T = none ∧ H' = upd H T (.tup [x, y, z]) ∧ (∀ xs, k.at K H xs → xs[i]? = some x) ∧ (∀ ys, l.at K H ys → ys[i]? = some y) ∧ ∀ zs, r.at K H zs → zs[i]? = some z,
    fun i H => ∃ xs ys zs : List V, k.at K H xs ∧ l.at K H ys ∧ r.at K H zs ∧ i ≤ xs.length ∧ i ≤ ys.length ∧ i ≤ zs.length ∧ (i = xs.length ∨ i = ys.length ∨ i = zs.length)⟩
abbrev zfp3 (n : Nat) : List Addr := [n + 5, n + 3, n + 4, n, n + 1, n + 2]
theorem turn_z3 {P : Program} {w : World} {K : PySem.W.Frag} {elts : List Expr} {kk : Nat} {tpos : Pos} {n : Nat} {k l r : Zk} (h1 : ∀ a ∈ k.addr, @LT.lt Nat _ a n) (h2 : ∀ a ∈ l.addr, @LT.lt Nat _ a n) (h3 : ∀ a ∈ r.addr, @LT.lt Nat _ a n) :
    Turn P w K (.Tuple elts kk tpos) (ItZ3 K k l r) (zfp3 n) (n + 5) (fun i h => IsZip h (n + 5) (n + 3) (n + 4) .none ∧ IsTupOf3 h (n + 3) (.ref n) (.ref (n + 1)) (.ref (n + 2)) ∧ (∃ x y z, IsTupOf3 h (n + 4) x y z) ∧ k.it n i h ∧ l.it (n + 1) i h ∧ r.it (n + 2) i h) where
  mem := by simp
  obj := fun i h st c hc => by
    obtain ⟨q1, q2, ⟨x, y, z, q3⟩, q4, q5, q6⟩ := st
    simp only [List.mem_cons, List.not_mem_nil, or_false] at hc
    rcases hc with e | e | e | e | e | e <;> subst e
    · exact ⟨_, q1, fun v z => by cases z⟩
    · exact ⟨_, q2, fun v z => by cases z⟩
    · exact ⟨_, q3, fun v z => by cases z⟩
    · exact Zk.it_live q4
    · exact Zk.it_live q5
    · exact Zk.it_live q6
  keep := fun i h h' st e => by
    obtain ⟨q1, q2, ⟨x, y, z, q3⟩, q4, q5, q6⟩ := st
    exact ⟨e _ (by simp) _ q1, e _ (by simp) _ q2, ⟨x, y, z, e _ (by simp) _ q3⟩, Zk.it_at q4 fun o => e n (by simp) o, Zk.it_at q5 fun o => e (n + 1) (by simp) o, Zk.it_at q6 fun o => e (n + 2) (by simp) o⟩
  item := by
    intro X hP hw hK hc i pins s σ H E I hf st hg
    subst hP hw hK
    obtain ⟨q1, q2, ⟨x0, y0, w0, q3⟩, q4, q5, q6⟩ := st
    obtain ⟨xs, ys, zs, hx, hy, hz, hi, hj, hk⟩ := hg
    obtain ⟨P1, S1, D1, a1, b1, c1⟩ := Zk.draw (prog := X.prog) (w := X.w) (A := X.A.in1) I hx (I.ok.hd hc) (it := n) (fun a ha => ad_ne (by have := h1 a ha; omega))
    obtain ⟨P2, S2, D2, a2, b2, c2⟩ := Zk.draw (prog := X.prog) (w := X.w) (A := X.A.in1) I hy (I.ok.hd hc) (it := n + 1) (fun a ha => ad_ne (by have := h2 a ha; omega))
    obtain ⟨P3, S3, D3, a3, b3, c3⟩ := Zk.draw (prog := X.prog) (w := X.w) (A := X.A.in1) I hz (I.ok.hd hc) (it := n + 2) (fun a ha => ad_ne (by have := h3 a ha; omega))
    have zl : @LT.lt Nat _ (n + 5) s.heap.objs.size := Heap.lt_size q1
    refine wpAny_pyNext_zipD3_item (zip_sep3 h1 h2 h3) D1 D2 D3 q1 q2 q3 (a1 i q4) (a2 i q5) (a3 i q6) hi hj hk fun u1 u2 u3 g tk p1 p2 p3 z1 z2 s1 s2 s3 z3 z4 z5 => ?_
    refine ⟨_, rfl, wpAny_letOwnedTupleGo_zip (s := { s with heap := g, toks := tk }) z1 fun g' z6 sb => ?_⟩
    obtain ⟨x, ex, rx⟩ := c1 i u1 p1
    obtain ⟨y, ey, ry⟩ := c2 i u2 p2
    obtain ⟨z, ez, rz⟩ := c3 i u3 p3
    have gT : g'.get? s.heap.objs.size = some { cls := .type "tuple", data := .seq #[u1, u2, u3] } := (sb.2 _ (ad_ne (by omega))).trans z3
    have ob : ObjOk X.prog X.w (upd H s.heap.objs.size (.tup [x, y, z])) g' s.heap.objs.size (.tup [x, y, z]) := ⟨by show 3 ≤ sizeLine; decide, [u1, u2, u3], .cons rx (.cons ry (.cons rz .nil)), ⟨_, gT, rfl, _, rfl⟩⟩
    have up : ∀ c o, c ∉ zfp3 n → s.heap.get? c = some o → g'.get? c = some o := fun c o hc e => by
      simp only [List.mem_cons, List.not_mem_nil, or_false, not_or] at hc
      exact (sb.2 c hc.1).trans (z5 c o hc.1 hc.2.2.1 hc.2.2.2.1 hc.2.2.2.2.1 hc.2.2.2.2.2 e)
    have J := I.turnedNew (t' := tk) (ch := zfp3 n) up hf (Nat.le_refl _) ob
    refine ⟨.ref s.heap.objs.size, _, J, rfl, ⟨_, x, y, z, rfl, I.hok.fresh (Nat.le_refl _), rfl, fun l hl => by rw [Zk.inj I hl hx]; exact ex, fun l hl => by rw [Zk.inj I hl hy]; exact ey, fun l hl => by rw [Zk.inj I hl hz]; exact ez⟩, ⟨z6, ?_, ⟨u1, u2, u3, ?_⟩, ?_, ?_, ?_⟩, fun c hcm => ?_⟩
    · exact (sb.2 _ (ad_ne (by omega))).trans (z5 _ _ (ad_ne (by omega)) (ad_ne (by omega)) (ad_ne (by omega)) (ad_ne (by omega)) (ad_ne (by omega)) q2)
    · exact (sb.2 _ (ad_ne (by omega))).trans z2
    · exact Zk.it_at (b1 _ _ s1) fun o q => (sb.2 _ (ad_ne (by omega))).trans q
    · exact Zk.it_at (b2 _ _ s2) fun o q => (sb.2 _ (ad_ne (by omega))).trans q
    · exact Zk.it_at (b3 _ _ s3) fun o q => (sb.2 _ (ad_ne (by omega))).trans q
    · have : @LT.lt Nat _ c s.heap.objs.size := by
        simp only [List.mem_cons, List.not_mem_nil, or_false] at hcm
        rcases hcm with e | e | e | e | e | e <;> (rw [e]; omega)
      rw [upd_ne (ad_ne (by omega))]
      exact (hf c hcm).1
  done := by
    intro X hP hw hK hc i pins s σ H E I hf st hg
    subst hP hw hK
    obtain ⟨q1, q2, ⟨x0, y0, w0, q3⟩, q4, q5, q6⟩ := st
    obtain ⟨xs, ys, zs, hx, hy, hz, hi, hj, hk, he⟩ := hg
    obtain ⟨P1, S1, D1, a1, b1, c1⟩ := Zk.draw (prog := X.prog) (w := X.w) (A := X.A.in1) I hx (I.ok.hd hc) (it := n) (fun a ha => ad_ne (by have := h1 a ha; omega))
    obtain ⟨P2, S2, D2, a2, b2, c2⟩ := Zk.draw (prog := X.prog) (w := X.w) (A := X.A.in1) I hy (I.ok.hd hc) (it := n + 1) (fun a ha => ad_ne (by have := h2 a ha; omega))
    obtain ⟨P3, S3, D3, a3, b3, c3⟩ := Zk.draw (prog := X.prog) (w := X.w) (A := X.A.in1) I hz (I.ok.hd hc) (it := n + 2) (fun a ha => ad_ne (by have := h3 a ha; omega))
    refine wpAny_pyNext_zipD3_end (zip_sep3 h1 h2 h3) D1 D2 D3 q1 q2 q3 (a1 i q4) (a2 i q5) (a3 i q6) hi hj hk he fun g tk e => ⟨rfl, I.turnedL (t' := tk) (ch := zfp3 n) (fun c o hc' q => ?_) hf⟩
    simp only [List.mem_cons, List.not_mem_nil, or_false, not_or] at hc'
    exact e c o hc'.1 hc'.2.2.1 hc'.2.2.2.1 hc'.2.2.2.2.1 hc'.2.2.2.2.2 q
  self := fun A i s Q E st h => wpAny_pyIter_zip st.1 h
def iZ3 (K : PySem.W.Frag) (ta : TA) : TI := fun σ H R => ta σ H fun vs H1 => ∃ v u t, vs = [v, u, t] ∧ KV K H1 v fun k => KV K H1 u fun l => KV K H1 t fun r => R (ItZ3 K k l r) H1
theorem pi_z3 {X : Cx} {e e2 e3 : Expr} {ta : TA} {p pos tpos : Pos} {elts : List Expr} {kk : Nat} (hg : Gl X "zip") (hm : X.mg "zip" = none) (ha : L2.PA X [e, e2, e3] ta)
    (hs : starEach [e, e2, e3] X.env = (false, eval e X.env) :: starEach [e2, e3] X.env := by rfl) (hpl : (backTo pos (starEach [e2, e3] X.env)).any (·.1) = false := by rfl) :
    PI X (.Tuple elts kk tpos) (.Call (.Name "zip" p) [e, e2, e3] [] pos) (iZ3 X.K ta) := ⟨fun pins s σ H R I h => by
  refine Call_ (ld_blt I hg hm PyProof.Rows.boot_zip (PyProof.Rows.callWith_type1 (thn (ha.run pos pins s σ H _ I h) fun us s1 hh => ?_) hs hpl))
  obtain ⟨vs, H1, I1, r1, v, u, t, rfl, q⟩ := hh
  cases r1 with
  | cons r rr =>
    cases rr with
    | cons r' rr =>
      cases rr with
      | cons r'' rr =>
        cases rr
        obtain ⟨k, xs, k1, rfl, q⟩ := kv_of r q
        obtain ⟨l, ys, l1, rfl, q⟩ := kv_of r' q
        obtain ⟨m, zs, m1, rfl, q⟩ := kv_of r'' q
        obtain ⟨G1, B1, g1⟩ := Zk.begins I1 k1
        obtain ⟨G2, B2, g2⟩ := Zk.begins I1 l1
        obtain ⟨G3, B3, g3⟩ := Zk.begins I1 m1
        refine zip_begins3 B1 B2 B3 g1 g2 g3 fun h' z1 z2 z3 z4 z5 z6 hsz up => wpAny_pyIter_zip z1 ?_
        have I2 : Inv X pins σ H1 { s1 with heap := h' } := I1.kept (t' := s1.toks) up
        refine ⟨s1.heap.objs.size + 5, zfp3 s1.heap.objs.size, _, _, H1, rfl, I2, turn_z3 (Zk.lt I1 k1) (Zk.lt I1 l1) (Zk.lt I1 m1), ⟨z1, z2, ⟨_, _, _, z3⟩, Zk.new z4, Zk.new z5, Zk.new z6⟩, fun c hc => ?_, q⟩
        refine fresh_fp I1 c ?_
        simp only [List.mem_cons, List.not_mem_nil, or_false] at hc
        rcases hc with e | e | e | e | e | e <;> (rw [e]; first | exact Nat.le_add_right _ _ | exact Nat.le_refl _)⟩
def zipL3 (ds es fs : List D) : List D := ((ds.zip es).zip fs).map fun p => .tup [p.1.1, p.1.2, p.2]
def zipI3 (strict : Bool) : List D → R (List D)
  | [x, y, z] => (zipOk strict x).bind fun ds => (zipOk strict y).bind fun es => (zipOk strict z).bind fun fs => .ok (zipL3 ds es fs)
  | _ => .stuck
def aZip3 (strict : Bool) (h : SemA) : SemA := fun m => (h m).bind (zipI3 strict)
theorem RpL.three {K : PySem.W.Frag} {F H0 H : Hp} {d e f : D} {vs : List V} (h : RpL K F H0 H [d, e, f] vs) : ∃ v u t, vs = [v, u, t] ∧ Rp K F H0 H d v ∧ Rp K F H0 H e u ∧ Rp K F H0 H f t := by
  cases h with
  | cons a h =>
    obtain ⟨u, t, rfl, b, c⟩ := h.two
    exact ⟨_, _, _, rfl, a, b, c⟩
theorem zipOk_exc {strict : Bool} {x : D} {c : String} (e : zipOk strict x = .exc c) : False := by
  cases x <;> simp only [zipOk] at e <;> (try split at e) <;> cases e
section
variable {X : Cx} {b : Bs} {W : WX} {strict : Bool} {h : SemA} {p pos : Pos}
theorem Wk.triples {K : PySem.W.Frag} {F H H0 : Hp} {J : It} {ds es fs : List D} {xs ys zs : List V} (n1 : hasTL ds = false ∨ strict = false) (n2 : hasTL es = false ∨ strict = false) (n3 : hasTL fs = false ∨ strict = false) (r : RpL K F H0 H ds xs) (q : RpL K F H0 H es ys) (t : RpL K F H0 H fs zs) (P : Hp → Prop) (hP : ∀ F' H', Ltr strict F H F' H' → P H')
    (h1 : ∀ (i : Nat) H', P H' → i < xs.length → i < ys.length → i < zs.length → J.go i H')
    (h2 : ∀ (i : Nat) H' v H'', P H' → J.yld i H' v H'' → ∃ T x y z, v = .ref T ∧ H' T = none ∧ H'' = upd H' T (.tup [x, y, z]) ∧ (∀ w, xs[i]? = some w → w = x) ∧ (∀ w, ys[i]? = some w → w = y) ∧ ∀ w, zs[i]? = some w → w = z)
    (h3 : ∀ H', P H' → J.stop (min (min xs.length ys.length) zs.length) H') : Wk K H0 strict J F H (zipL3 ds es fs) where
  go := fun i F' H' l hi => by
    have hi : i < min (min xs.length ys.length) zs.length := by simpa [zipL3, r.length, q.length, t.length] using hi
    exact h1 i H' (hP F' H' l) (by omega) (by omega) (by omega)
  yld := fun i F' H' x H'' l hi y => by
    have hi : i < min (min ds.length es.length) fs.length := by simpa [zipL3] using hi
    obtain ⟨T, a, c, d, rfl, k1, rfl, k2, k3, k4⟩ := h2 i H' x H'' (hP F' H' l) y
    obtain ⟨v, e1, r1⟩ := (RpL.ltr n1 l r).get (i := i) (d := ds[i]'(by omega)) (by simp)
    obtain ⟨u, e2, r2⟩ := (RpL.ltr n2 l q).get (i := i) (d := es[i]'(by omega)) (by simp)
    obtain ⟨w, e3, r3⟩ := (RpL.ltr n3 l t).get (i := i) (d := fs[i]'(by omega)) (by simp)
    have := k2 v e1; subst this
    have := k3 u e2; subst this
    have := k4 w e3; subst this
    have G := Grow.still (o := .tup [v, u, w]) l.2.1 k1
    refine ⟨_, .tup [ds[i]'(by omega), es[i]'(by omega), fs[i]'(by omega)], G, ?_, .tup upd_same (.cons (r1.grow G) (.cons (r2.grow G) (.cons (r3.grow G) .nil)))⟩
    have f1 : ds[i]? = some (ds[i]'(by omega)) := List.getElem?_eq_getElem _
    have f2 : es[i]? = some (es[i]'(by omega)) := List.getElem?_eq_getElem _
    have f3 : fs[i]? = some (fs[i]'(by omega)) := List.getElem?_eq_getElem _
    have f4 : (ds.zip es)[i]? = some (ds[i]'(by omega), es[i]'(by omega)) := List.getElem?_zip_eq_some.mpr ⟨f1, f2⟩
    have f5 : ((ds.zip es).zip fs)[i]? = some ((ds[i]'(by omega), es[i]'(by omega)), fs[i]'(by omega)) := List.getElem?_zip_eq_some.mpr ⟨f4, f3⟩
    unfold zipL3
    rw [List.getElem?_map, f5]
    rfl
  stop := fun F' H' l => by
    have := h3 H' (hP F' H' l)
    rw [← r.length, ← q.length, ← t.length] at this
    simpa [zipL3] using this
theorem si_zip3 {a c d : Expr} {elts : List Expr} {kk : Nat} {tpos : Pos} (hg : Gl X "zip") (hm : X.mg "zip" = none) (ha : SA X b W [a, c, d] h)
    (hs : starEach [a, c, d] X.env = (false, eval a X.env) :: starEach [c, d] X.env := by rfl) (hpl : (backTo pos (starEach [c, d] X.env)).any (·.1) = false := by rfl) :
    SI X b W strict (.Tuple elts kk tpos) (.Call (.Name "zip" p) [a, c, d] [] pos) (aZip3 strict h) := by
  refine PI.weak (pi_z3 hg hm ha hs hpl) fun σ H Rw ⟨F, m, R, p⟩ => ?_
  refine seqA R p fun xs F1 H1 vs R1 G1 hv p1 => ?_
  unfold zipI3 at p1
  split at p1
  · rename_i x y z
    obtain ⟨v, u, t, rfl, h1, h2, h3⟩ := hv.three
    refine ⟨v, u, t, rfl, ?_⟩
    cases e1 : zipOk strict x with
    | stuck => rw [e1] at p1; exact p1.elim
    | exc c => exact (zipOk_exc e1).elim
    | ok ds =>
      rw [e1] at p1
      cases e2 : zipOk strict y with
      | stuck => rw [e2] at p1; exact p1.elim
      | exc c => exact (zipOk_exc e2).elim
      | ok es =>
        rw [e2] at p1
        cases e3 : zipOk strict z with
        | stuck => rw [e3] at p1; exact p1.elim
        | exc c => exact (zipOk_exc e3).elim
        | ok fs =>
          rw [e3] at p1
          refine kv_rp R1.sub h1 e1 _ fun k xs n1 r1 k1 => kv_rp R1.sub h2 e2 _ fun l ys n2 r2 k2 => kv_rp R1.sub h3 e3 _ fun r zs n3 r3 k3 => ?_
          refine p1.here R1.sub _ ?_
          exact Wk.triples n1 n2 n3 r1 r2 r3 (fun H' => k.at X.K H' xs ∧ l.at X.K H' ys ∧ r.at X.K H' zs) (fun F' H' q => ⟨k1 F' H' q, k2 F' H' q, k3 F' H' q⟩) (fun i H' q e1 e2 e3 => ⟨xs, ys, zs, q.1, q.2.1, q.2.2, e1, e2, e3⟩)
            (fun i H' v H'' q z => by
              obtain ⟨T, x, y, w, rfl, h1, h2, h3, h4, h5⟩ := z
              exact ⟨T, x, y, w, rfl, h1, h2, fun w e => Option.some.inj (e.symm.trans (h3 xs q.1)), fun w e => Option.some.inj (e.symm.trans (h4 ys q.2.1)), fun w e => Option.some.inj (e.symm.trans (h5 zs q.2.2))⟩)
            (fun H' q => ⟨xs, ys, zs, q.1, q.2.1, q.2.2, by omega, by omega, by omega, by omega⟩)
  · exact p1.elim
end
end CT

namespace CT
open PySem PySem.Spec PyProof.Rows L2
end CT

namespace CT
open PySem PySem.Spec PyProof.Rows L2
end CT

namespace CT
open PySem PySem.Spec PyProof.Rows L2
def lcXG (g : SemG) (vs : List Nat) (t : SemXT) (f : SemX) : List D → SemXA
  | [], m => .ok ([], m)
  | d :: ds, m => match g d m with
    | .ok m1 => bindX (t m1) fun c m2 => if c = true then bindX (f m2) fun x m3 => bindX (lcXG g vs t f ds (wipeM m3 vs)) fun r m4 => .ok (x :: r, m4) else lcXG g vs t f ds (wipeM m2 vs)
    | _ => .stuck
def aLcXG (h : SemXA) (g : SemG) (t : SemXT) (f : SemX) (vs : List Nat) : SemXA := fun m => bindX (h m) fun ds m1 => bindX (lcXG g vs t f ds (wipeM m1 vs)) fun r m2 => if r.length ≤ sizeLine then .ok (r, m2) else .stuck
def TgOk (g : SemG) (vs : List Nat) : Prop := ∀ d m m1, wipeM m vs = m → g d m = .ok m1 → wipeM m1 vs = m ∧ ∀ j e, m1[j]? = some (some e) → hasT e = true → j ∉ vs
theorem wipeM_len : ∀ (vs : List Nat) (m : Sl), (wipeM m vs).length = m.length
  | [], _ => rfl
  | v :: vs, m => by simp only [wipeM]; rw [List.length_set, wipeM_len vs m]
theorem wipe_len : ∀ (vs : List Nat) (σ : L2.St), (L2.wipe σ vs).length = σ.length
  | [], _ => rfl
  | v :: vs, σ => by show ((L2.wipe σ vs).set v none).length = _; rw [List.length_set, wipe_len vs σ]
theorem wipeM_out {j : Nat} : ∀ {vs : List Nat} {m : Sl}, j ∉ vs → (wipeM m vs)[j]? = m[j]?
  | [], _, _ => rfl
  | v :: vs, m, h => by
    simp only [List.mem_cons, not_or] at h
    simp only [wipeM]
    rw [List.getElem?_set_ne (fun z => h.1 z.symm), wipeM_out h.2]
theorem wipe_out {j : Nat} : ∀ {vs : List Nat} {σ : L2.St}, j ∉ vs → (L2.wipe σ vs)[j]? = σ[j]?
  | [], _, _ => rfl
  | v :: vs, σ, h => by
    simp only [List.mem_cons, not_or] at h
    show ((L2.wipe σ vs).set v none)[j]? = _
    rw [List.getElem?_set_ne (fun z => h.1 z.symm), wipe_out h.2]
theorem wipeM_in {j : Nat} {e : D} : ∀ {vs : List Nat} {m : Sl}, (wipeM m vs)[j]? = some (some e) → j ∉ vs
  | [], _, _ => by simp
  | v :: vs, m, h => by
    simp only [wipeM] at h
    have hv : j ≠ v := fun z => by
      subst z
      rw [List.getElem?_set_self'] at h
      cases q : (wipeM m vs)[j]? <;> rw [q] at h <;> simp at h
    rw [List.getElem?_set_ne (Ne.symm hv)] at h
    simp only [List.mem_cons, not_or]
    exact ⟨hv, wipeM_in h⟩
theorem wipeM_wipeM (m : Sl) (vs : List Nat) : wipeM (wipeM m vs) vs = wipeM m vs := by
  refine List.ext_getElem? fun j => ?_
  by_cases hj : j ∈ vs
  · cases h1 : (wipeM (wipeM m vs) vs)[j]? with
    | none =>
      have := List.getElem?_eq_none_iff.mp h1
      rw [wipeM_len] at this
      rw [List.getElem?_eq_none this]
    | some o =>
      have hl := (List.getElem?_eq_some_iff.mp h1).1
      rw [wipeM_len] at hl
      cases o with
      | some e => exact absurd hj (wipeM_in h1)
      | none =>
        cases h2 : (wipeM m vs)[j]? with
        | none => exact absurd (List.getElem?_eq_none_iff.mp h2) (by omega)
        | some o =>
          cases o with
          | some e => exact absurd hj (wipeM_in h2)
          | none => rfl
  · rw [wipeM_out hj]
section
variable {K : PySem.W.Frag} {b : Bs} {F F1 F2 H H1 H2 : Hp} {m m1 m2 : Sl} {σ σ3 : L2.St} {vs : List Nat} {c : Addr}
theorem Owned.offG (hw : L2.wipe σ3 vs = L2.wipe σ vs) (hn : ∀ j e, m1[j]? = some (some e) → hasT e = true → j ∉ vs) (o : Owned σ3 m1 H c) : Owned σ (wipeM m1 vs) H c := by
  obtain ⟨j, e, v, h1, h2, h3⟩ := o
  have ht : hasT e = true := by
    cases q : hasT e with
    | true => rfl
    | false => exact (h3.of q).elim
  have hj := hn j e h1 ht
  refine ⟨j, e, v, by rw [wipeM_out hj]; exact h1, ?_, h3⟩
  have := congrArg (fun l : L2.St => l[j]?) hw
  simp only [wipe_out hj] at this
  rw [← this]; exact h2
theorem Owned.onG (hw : L2.wipe σ3 vs = L2.wipe σ vs) (o : Owned σ (wipeM m2 vs) H c) : Owned σ3 m2 H c := by
  obtain ⟨j, e, v, h1, h2, h3⟩ := o
  have hj := wipeM_in h1
  rw [wipeM_out hj] at h1
  refine ⟨j, e, v, h1, ?_, h3⟩
  have := congrArg (fun l : L2.St => l[j]?) hw
  simp only [wipe_out hj] at this
  rw [this]; exact h2
theorem Step.offG (hw : L2.wipe σ3 vs = L2.wipe σ vs) (hn : ∀ j e, m1[j]? = some (some e) → hasT e = true → j ∉ vs) (s : Step σ3 F1 H1 m1 F2 H2 m2) : Step σ F1 H1 (wipeM m1 vs) F2 H2 (wipeM m2 vs) :=
  ⟨s.p, fun c o h no => s.fr c o h fun z => no (z.offG hw hn), fun c o => (s.ow c (o.onG hw)).imp (fun z => z.offG hw hn) id, fun c o h => (s.nw c o h).imp id fun z => z.imp id fun z => z.offG hw hn, fun c z => (s.ex c z).imp id fun y => y.offG hw hn⟩
theorem Rel.unsetG (r : Rel K b F (wipeM m vs) (L2.wipe σ vs) H) : Rel K b F (wipeM m vs) σ H := by
  refine ⟨by have := r.len; rw [wipe_len] at this; exact this, r.grow, fun j d q => ?_, fun p q x y v w c e1 e2 e3 e4 => ?_⟩
  · obtain ⟨v, k1, k2⟩ := r.slot j d q
    exact ⟨v, by rw [wipe_out (wipeM_in q)] at k1; exact k1, k2⟩
  · exact r.apart p q x y v w c e1 e2 (by rw [wipe_out (wipeM_in e1)]; exact e3) (by rw [wipe_out (wipeM_in e2)]; exact e4)
theorem Step.dropG (F H : Hp) (m : Sl) : Step σ F H m F H (wipeM m vs) := ⟨Prog.refl _ _, fun _ _ h _ => h, fun c ⟨j, e, v, h1, h2, h3⟩ => .inl ⟨j, e, v, by rw [wipeM_out (wipeM_in h1)] at h1; exact h1, h2, h3⟩, fun _ _ h => .inl h, fun _ h => .inl h⟩
theorem lcXG_ok {wi : TI} {tg : TG} {tt : TT} {te : TE} {g : SemG} {t : SemXT} {f : SemX} {h : SemXA} {Q : VK} {res : List D} {m' : Sl} (hg : NGok K tg g vs) (hgo : TgOk g vs)
    (hi : ∀ σ H Rw, tSIX K b true h σ H Rw → wi σ H Rw) (ht : ∀ σ H Q, tSXT K b t σ H Q → tt σ H Q) (he : ∀ σ H Q, tSX K b f σ H Q → te σ H Q)
    (r : Rel K b F m σ H) (hm : aLcXG h g t f vs m = .ok (res, m'))
    (p : ∀ F' H' a xs, Rel K b F' m' σ H' → Step σ F H m F' H' m' → (H a = none ∨ Owned σ m H a) → ¬ Owned σ m' H' a → F' a = none → H' a = some (.lst xs) → RpL K F' b.H0 H' res xs → hasTL res = false → Q (.ref a) H') : tLc wi tg tt te vs σ H Q := by
  unfold aLcXG at hm
  obtain ⟨ds, m0, hh, hm⟩ := bindX_ok hm
  obtain ⟨res', m2, hl, hm⟩ := bindX_ok hm
  split at hm
  rotate_left
  · cases hm
  rename_i hsz
  cases hm
  refine hi _ _ _ ⟨F, m, r, ?_⟩
  rw [hh]
  intro F1 H1 R1 S1 J wk D hD
  have f1 : F1 D = none := R1.sub.free hD
  have d0 : b.H0 D = none := R1.grow.same.free hD
  have GA : Grow F1 H1 F1 (upd H1 D (.lst [])) := Grow.loose R1.sub hD
  have RA := R1.step GA
  have R0 : Rel K b F1 (wipeM m0 vs) σ (upd H1 D (.lst [])) := (RA.wipe vs).unsetG
  have SA : Step σ F1 H1 m0 F1 (upd H1 D (.lst [])) (wipeM m0 vs) := (R1.stepG GA).trans (Step.dropG _ _ _)
  have no0 : ¬ Owned σ (wipeM m0 vs) (upd H1 D (.lst [])) D := fun z => by
    obtain ⟨j, e, v, q1, q2, q3⟩ := z
    rw [wipeM_out (wipeM_in q1)] at q1
    obtain ⟨w', z1, z2⟩ := R1.slot j e q1
    rw [q2] at z1; cases z1
    obtain ⟨u, hu, _⟩ := Owns.here z2 (q3.backS R1.sub GA.same z2)
    rw [hD] at hu; cases hu
  refine ⟨fun j n H' => n = ds.length - j ∧ j ≤ ds.length ∧ ∃ F' mj acc vacc rest, Rel K b F' mj σ H' ∧ wipeM mj vs = mj ∧ Step σ F1 H1 m0 F' H' mj ∧ F' D = none ∧ H' D = some (.lst vacc) ∧ ¬ Owned σ mj H' D ∧ RpL K F' b.H0 H' acc vacc ∧ hasTL acc = false ∧ lcXG g vs t f (ds.drop j) mj = .ok (rest, m') ∧ acc ++ rest = res,
    ⟨_, rfl, Nat.zero_le _, F1, _, [], [], res, R0, wipeM_wipeM _ _, SA, f1, upd_same, no0, .nil, rfl, by rw [List.drop_zero]; exact hl, rfl⟩, ?_⟩
  rintro j n H' ⟨rfl, hj', F', mj, acc, vacc, rest, R', hmj, S', e1, e2, no', e3, e4, e5, e6⟩
  have PP : Prog F1 H1 F' H' := S'.p
  have l : Ltr true F1 H1 F' H' := ⟨PP.sub, R'.sub, PP.tups, fun z => by cases z⟩
  by_cases hlt : j < ds.length
  · refine .inr ⟨wk.go j F' H' l hlt, fun H2 => (j + 1 ≤ ds.length ∧ ∃ F' mj acc vacc rest, Rel K b F' mj σ H2 ∧ wipeM mj vs = mj ∧ Step σ F1 H1 m0 F' H2 mj ∧ F' D = none ∧ H2 D = some (.lst vacc) ∧ ¬ Owned σ mj H2 D ∧ RpL K F' b.H0 H2 acc vacc ∧ hasTL acc = false ∧ lcXG g vs t f (ds.drop (j + 1)) mj = .ok (rest, m') ∧ acc ++ rest = res),
      fun H2 z => ⟨ds.length - (j + 1), by omega, rfl, z⟩, fun x H2 y => ?_⟩
    obtain ⟨F2, d, G2, k2, r2⟩ := wk.yld j F' H' x H2 l hlt y
    have hd : ds.drop j = d :: ds.drop (j + 1) := by
      obtain ⟨h1, h2⟩ := List.getElem?_eq_some_iff.mp k2
      rw [← h2]
      exact List.drop_eq_getElem_cons h1
    rw [hd] at e5
    simp only [lcXG] at e5
    split at e5
    rotate_left
    · cases e5
    rename_i mg hgd
    obtain ⟨w1, w2⟩ := hgo d mj mg hmj hgd
    obtain ⟨c', m2, ht', e5⟩ := bindX_ok e5
    have R2 := R'.step G2
    have S2 : Step σ F1 H1 m0 F2 H2 mj := S'.trans (R'.stepG G2)
    have hD2 : H2 D = some (.lst vacc) := G2.same _ _ e2
    have fD2 : F2 D = none := grow_free G2 e2 e1
    have no2 : ¬ Owned σ mj H2 D := fun z => by
      rcases (R'.stepG G2).ow D z with z | z
      · exact no' z
      · rw [e2] at z; cases z
    have R2w : Rel K b F2 mj (L2.wipe σ vs) H2 := by
      have := R2.wipe vs
      rw [hmj] at this
      exact this
    refine hg b F2 _ _ H2 d x mg _ R2w r2 hgd fun σ3 Rg wg => ⟨wg.trans (wipe_wipe vs σ), ?_⟩
    have hw : L2.wipe σ3 vs = L2.wipe σ vs := wg.trans (wipe_wipe vs σ)
    refine ht _ _ _ ⟨F2, mg, Rg, ?_⟩
    rw [ht']
    intro F3 H3 R3 S3
    have S3' : Step σ F2 H2 mj F3 H3 (wipeM m2 vs) := by
      have := S3.offG hw w2
      rw [w1] at this
      exact this
    have hD3 : H3 D = some (.lst vacc) := S3'.fr _ _ hD2 no2
    have fD3 : F3 D = none := by
      cases q : F3 D with
      | none => rfl
      | some o =>
        rcases S3'.nw D o q with z | z | z
        · rw [fD2] at z; cases z
        · rw [hD2] at z; cases z
        · exact absurd z no2
    have no3 : ¬ Owned σ (wipeM m2 vs) H3 D := fun z => by
      rcases S3'.ow D z with z | z
      · exact no2 z
      · rw [hD2] at z; cases z
    have R3' : Rel K b F3 (wipeM m2 vs) σ H3 := by
      have := R3.wipe vs
      rw [hw] at this
      exact this.unsetG
    have acc3 : RpL K F3 b.H0 H3 acc vacc := (e3.grow G2).prog S3'.p e4
    cases c' with
    | false =>
      simp only [Bool.false_eq_true, if_false] at e5 ⊢
      exact ⟨hlt, F3, _, acc, vacc, rest, R3', wipeM_wipeM _ _, S2.trans S3', fD3, hD3, no3, acc3, e4, e5, e6⟩
    | true =>
      simp only [if_true] at e5 ⊢
      obtain ⟨z, m3, hf', e5⟩ := bindX_ok e5
      obtain ⟨rest', m4, hr', e5⟩ := bindX_ok e5
      cases e5
      refine he _ _ _ ⟨F3, m2, R3, ?_⟩
      rw [hf']
      intro F4 H4 R4 S4 v4 r4 hz
      have S34' : Step σ F2 H2 mj F4 H4 (wipeM m3 vs) := by
        have := (S3.trans S4).offG hw w2
        rw [w1] at this
        exact this
      have hD4 : H4 D = some (.lst vacc) := S34'.fr _ _ hD2 no2
      have fD4 : F4 D = none := by
        cases q : F4 D with
        | none => rfl
        | some o =>
          rcases S34'.nw D o q with z | z | z
          · rw [fD2] at z; cases z
          · rw [hD2] at z; cases z
          · exact absurd z no2
      have no4 : ¬ Owned σ (wipeM m3 vs) H4 D := fun z => by
        rcases S34'.ow D z with z | z
        · exact no2 z
        · rw [hD2] at z; cases z
      have R4' : Rel K b F4 (wipeM m3 vs) σ H4 := by
        have := R4.wipe vs
        rw [hw] at this
        exact this.unsetG
      have acc4 : RpL K F4 b.H0 H4 acc vacc := (e3.grow G2).prog S34'.p e4
      have hlen := e3.length
      have hres : acc.length < sizeLine := by
        rw [← e6, List.length_append, List.length_cons] at hsz
        omega
      have keep : ∀ c o, H4 c = some o → NoL o → (upd H4 D (.lst (vacc ++ [v4]))) c = some o := fun c o hc ho => by
        rw [upd_ne (fun q => by subst q; rw [hD4] at hc; cases hc; exact False.elim ho)]; exact hc
      have R5 : Rel K b F4 (wipeM m3 vs) σ (upd H4 D (.lst (vacc ++ [v4]))) := R4'.tmp hD4 fD4 d0 fun j e v q1 q2 o => no4 ⟨j, e, v, q1, q2, o⟩
      have back5 : ∀ c, Owned σ (wipeM m3 vs) (upd H4 D (.lst (vacc ++ [v4]))) c → Owned σ (wipeM m3 vs) H4 c := fun c ⟨j, e, v, q1, q2, q3⟩ => by
        obtain ⟨w, k1, k2⟩ := R4'.slot j e q1
        rw [q2] at k1; cases k1
        exact ⟨j, e, v, q1, q2, q3.back (fun b xs e => keep _ _ e trivial) (fun b xs e => by rw [upd_ne (fun y => by subst y; rw [fD4] at e; cases e)]; exact R4'.sub _ _ e) (fun c xs o' z => by rw [upd_ne (fun y => by subst y; exact no4 ⟨j, _, v, q1, q2, o'⟩)]; exact z) k2⟩
      have S24 := S2.trans S34'
      refine ⟨vacc, hD4, by rw [← hlen]; exact hres, hlt, F4, _, acc ++ [z], vacc ++ [v4], rest', R5, wipeM_wipeM _ _, ?_, fD4, upd_same, fun z => no4 (back5 D z), ?_, ?_, hr', ?_⟩
      · exact ⟨⟨S24.p.sub, fun c o hc ho => keep c o (S24.p.tups c o hc ho) ho⟩, fun c o hc hno => by
          rw [upd_ne (fun z => by subst z; rw [hD] at hc; cases hc)]; exact S24.fr c o hc hno, fun c hc => S24.ow c (back5 c hc), S24.nw, fun c hc => by
          by_cases q : c = D
          · subst q; exact .inl hD
          · rw [upd_ne q] at hc; exact S24.ex c hc⟩
      · exact (RpL.keep keep acc vacc e4 acc4).app (.cons (Rp.keep keep z v4 hz r4) .nil)
      · rw [hasTL_append, e4, hasTL, hz]; rfl
      · rw [← e6, List.append_assoc]; rfl
  · have e : j = ds.length := by omega
    subst e
    rw [List.drop_length] at e5
    cases e5
    rw [List.append_nil] at e6
    subst e6
    refine .inl ⟨wk.stop F' H' l, p F' H' D vacc R' (S1.trans S') ?_ no' e1 e2 e3 e4⟩
    exact S1.ex D hD
end
end CT

namespace CT
open PySem PySem.Spec PyProof.Rows L2
end CT

namespace CT
open PySem PySem.Spec PyProof.Rows L2
end CT

namespace CT
open PySem PySem.Spec PyProof.Rows L2
section
variable {X : Cx} {b : Bs} {W : WX}
def bFrz (i : Nat) (g : SemB) : SemB := fun m => match m[i]? with
  | some (some (.lst true ds)) => g (m.set i (some (.lst false ds)))
  | _ => .stuck
theorem sb_frz {rest : List Stmt} {g : SemB} {i : Nat} (h1 : SB X b rest g) : SB X b rest (bFrz i g) := PSs.weak h1 fun D' σ H ⟨F, m, R, p⟩ => by
  unfold bFrz at p
  split at p
  · rename_i ds hd
    obtain ⟨F', sF, R'⟩ := R.freeze' hd
    exact ⟨F', _, R', SstB.prog ⟨sF, fun _ _ z _ => z⟩ p⟩
  · exact p.elim
end
end CT

namespace CT
open PySem PySem.Spec PyProof.Rows L2
end CT

namespace CT
open PySem PySem.Spec PyProof.Rows L2
end CT

namespace CT
open PySem PySem.Spec PyProof.Rows L2
end CT

namespace CT
open PySem PySem.Spec PyProof.Rows L2
abbrev PL (kls : Kls) (xs : List (Leaf × Value)) : Prop := Paired (fun (p : Option Int × V) (q : Leaf × Value) => lfOf p.1 = q.1 ∧ RelV p.2 q.2) kls xs
theorem PL.len {kls : Kls} {xs : List (Leaf × Value)} (r : PL kls xs) : kls.length = xs.length := by
  unfold PL at r
  induction r with
  | nil => rfl
  | cons _ _ ih => simp [ih]
end CT

namespace CT
open PySem PySem.Spec PyProof.Rows L2
end CT

namespace CT
open PySem PySem.Spec PyProof.Rows L2
end CT

namespace CT
open PySem PySem.Spec PyProof.Rows L2
def SstF (K : PySem.W.Frag) (b : Bs) (i : Nat) (t : Addr) (vs : List V) (F H : Hp) (D' : Ends) : RS → Prop
  | .nx m' => ∀ σ' F' H', Rel K b F' m' σ' H' → Prog F H F' H' → σ'[i]? = some (some (.ref t)) → H' t = some (.lst vs) → D'.nx σ' H'
  | _ => False
theorem SstF.prog {K : PySem.W.Frag} {b : Bs} {i : Nat} {t : Addr} {vs : List V} {F H F1 H1 : Hp} {D' : Ends} {r : RS} (g : Prog F H F1 H1) (p : SstF K b i t vs F H D' r) : SstF K b i t vs F1 H1 D' r := by
  cases r <;> first | exact p | exact fun σ' F' H' R q => p σ' F' H' R (g.trans q)
end CT

namespace CT
open PySem PySem.Spec PyProof.Rows L2
end CT

namespace CT
open PySem PySem.Spec PyProof.Rows L2
def repL : D → D → R (List D)
  | .lst _ xs, .int k => if k < 2 ^ 62 ∧ -(2 ^ 62) < k ∧ xs.length * k.toNat ≤ sizeLine then .ok (List.replicate k.toNat xs).flatten else .stuck
  | _, _ => .stuck
section
variable {X : Cx} {b : Bs} {W : WX}
theorem so_rep {a c : Expr} {f g : SemE} {pos : Pos} (hf : SE X b W a f) (hg : SE X b W c g) : SO X b W (.BinOp a .Mult c pos) (a2 repL f g) := by
  refine PE.weak (pe_op (op_rep (X := X)) hf hg) fun σ H Q ⟨F, m, R, p⟩ => ?_
  refine seq R p fun x F1 H1 v R1 G1 hv p1 => seq R1 p1 fun y F2 H2 u R2 G2 hu p2 => ?_
  have hv := hv.grow G2
  cases x <;> first | exact p2.elim | skip
  cases y <;> first | exact p2.elim | skip
  rename_i t ds k
  obtain ⟨a, xs, rfl, h1, h2⟩ := hv.list R2.sub
  cases hu
  simp only [repL] at p2
  split at p2
  · rename_i hl
    refine ⟨a, k, xs, rfl, rfl, h1, by omega, by omega, by rw [← h2.length]; exact hl.2.2, fun q hq => ?_⟩
    have G := Grow.loose (o := .lst (List.replicate k.toNat xs).flatten) R2.sub hq
    exact (p2 _ _ G) q _ ((G1.trans G2).same.free hq) (R2.sub.free hq) upd_same ((h2.grow G).rep _)
  · exact p2.elim
end
theorem tgo_three {i k l : Nat} : TgOk (gTupR 3 (gsCons (putR i) (gsCons (putR k) (gsCons (putR l) gsNil)))) [i, k, l] := fun d m m1 hw e => by
  cases d <;> first | (cases e; done) | skip
  rename_i ds
  simp only [gTupR] at e
  split at e
  rotate_left
  · cases e
  rename_i hl
  match ds, hl with
  | [a, c, x], _ =>
  simp only [gsCons, putR] at e
  cases ha : hasT a with
  | true => simp [ha] at e
  | false =>
  simp only [ha, Bool.false_eq_true, if_false, CT.R.bind_ok] at e
  cases hc : hasT c with
  | true => simp [hc] at e
  | false =>
  simp only [hc, Bool.false_eq_true, if_false, CT.R.bind_ok] at e
  cases hx : hasT x with
  | true => simp [hx] at e
  | false =>
  simp only [hx, Bool.false_eq_true, if_false, CT.R.bind_ok, gsNil] at e
  cases e
  refine ⟨?_, fun j e h1 h2 => ?_⟩
  · refine List.ext_getElem? fun j => ?_
    by_cases hj : j ∈ [i, k, l]
    · have e2 : ∀ m' : Sl, m'.length = m.length → (wipeM m' [i, k, l])[j]? = if j < m.length then some none else none := fun m' hl => by
        cases q : (wipeM m' [i, k, l])[j]? with
        | none => rw [if_neg]; have := List.getElem?_eq_none_iff.mp q; rw [wipeM_len] at this; omega
        | some o =>
          have := (List.getElem?_eq_some_iff.mp q).1
          rw [wipeM_len] at this
          rw [if_pos (by omega)]
          cases o with
          | none => rfl
          | some e => exact absurd hj (wipeM_in q)
      have r := e2 m rfl
      rw [hw] at r
      rw [e2 _ (by simp), r]
    · rw [wipeM_out hj]
      simp only [List.mem_cons, List.not_mem_nil, or_false, not_or] at hj
      rw [List.getElem?_set_ne (fun z => hj.2.2 z.symm), List.getElem?_set_ne (fun z => hj.2.1 z.symm), List.getElem?_set_ne (fun z => hj.1 z.symm)]
  · simp only [List.mem_cons, List.not_mem_nil, or_false, not_or]
    have hl : j ≠ l := fun z => by
      subst z
      rw [List.getElem?_set_self'] at h1
      cases q : ((m.set i (some a)).set k (some c))[j]? <;> rw [q] at h1 <;> simp at h1
      subst h1; rw [hx] at h2; cases h2
    rw [List.getElem?_set_ne (Ne.symm hl)] at h1
    have hk : j ≠ k := fun z => by
      subst z
      rw [List.getElem?_set_self'] at h1
      cases q : (m.set i (some a))[j]? <;> rw [q] at h1 <;> simp at h1
      subst h1; rw [hc] at h2; cases h2
    rw [List.getElem?_set_ne (Ne.symm hk)] at h1
    have hi : j ≠ i := fun z => by
      subst z
      rw [List.getElem?_set_self'] at h1
      cases q : m[j]? <;> rw [q] at h1 <;> simp at h1
      subst h1; rw [ha] at h2; cases h2
    exact ⟨hi, hk, hl⟩
section
variable {X : Cx} {b : Bs} {W : WX} {elt tg iter e : Expr} {es ifs : List Expr} {scope : Scope} {own : List (Str × Nat)} {pos spos : Pos} {t : SemXT} {f : SemX} {h : SemXA} {vs : List Nat} {g : SemG} {tgt : TG} {j : Nat} {y : Str} {py : Pos}
theorem ss_setLcXG (hc : X.calm = true) (hN : X.N.Nodup) (hy : X.N[j]? = some y) (hyl : X.env.scope.names.lookup y = some .local) (hsw : swapsWith (.ListComp elt [⟨tg, iter, ifs, 0⟩] scope pos) (some (.Name y py)) spos.line X.env = pure true)
    (hi : SIX X b true tg iter h) (ok : BlkOk X.N X.env.scope scope own) (hn : NGok X.K tgt g vs) (hgo : TgOk g vs)
    (hg : ∀ (s : Shared) (H : Hp) (C : Addr) (cl : List (Str × Addr)) (fp : List Addr), PG (X.blk s H scope (compEnvC scope cl C X.env) fp) tg tgt) (ht : ∀ (s : Shared) (H : Hp) (C : Addr) (cl : List (Str × Addr)) (fp : List Addr), STXs (X.blk s H scope (compEnvC scope cl C X.env) fp) b ifs t)
    (he : ∀ (s : Shared) (H : Hp) (C : Addr) (cl : List (Str × Addr)) (fp : List Addr), SX (X.blk s H scope (compEnvC scope cl C X.env) fp) b elt f) (hs : ∀ x, foldedSetIterable iter X.env x = pure x := by intro _; rfl) (hv : own.map (·.2) = vs := by rfl) :
    SS X b W (.Assign [.Name y py] (.ListComp elt [⟨tg, iter, ifs, 0⟩] scope pos) spos) (sSetX j (xOwn (aLcXG h g t f vs))) := by
  have z := ps_setLc (pos := pos) (spos := spos) (py := py) (tt := tSXT X.K b t) (te := tSX X.K b f) (wi := tSIX X.K b true h) hc hN hy hyl hsw hi ok hg ht he hs
  rw [hv] at z
  refine PS.weak z fun D' σ H ⟨F, m, R, p⟩ => ?_
  unfold sSetX xOwn at p
  cases hm : aLcXG h g t f vs m with
  | stuck => rw [hm] at p; exact p.elim
  | exc c => rw [hm] at p; exact p.elim
  | ok r =>
    obtain ⟨ds, m'⟩ := r
    rw [hm] at p
    refine lcXG_ok (Q := fun x H1 => gName j x σ H1 D'.nx) hn hgo (fun _ _ _ z => z) (fun _ _ _ z => z) (fun _ _ _ z => z) R hm fun F' H' a xs R' S h0 no h1 h2 hv hn => ?_
    obtain ⟨sF, R2⟩ := R'.addF h2 h1 (R.fresh h0) no
    exact p _ _ H' (R2.put (by simp [hasT, hn]) (.lst upd_same (hv.mono sF (Same.refl _)))) ⟨S.p.sub.trans sF, S.p.tups⟩
end
end CT

namespace CK
open PySem PySem.Spec PyProof.Rows L2 CT
noncomputable section
def s_marks_met : List D → R D := defF 3 7 (
  (sSeq (sSet 3 (e2 ixD (eVar 0) (eC (.int 1))))
  (sSeq (sSet 4 (e2 mulD (e2 divD (eVar 2) (eVar 3)) (eA lenD (aCons (e2 ixD (eVar 0) (eC (.int 2))) aNil))))
  (sSeq (sSet 5 (e2 modD (eVar 2) (eVar 3)))
  (sRet (e2 addD (eVar 4) (eA lenD (aCons (eOwn (aLc (aItN false (e2 ixD (eVar 0) (eC (.int 2)))) (putR 6) (tOf (eChain ltD leD (eC (.int 0)) (e2 addD (e2 modD (e2 subD (e2 subD (eVar 6) (eVar 1)) (eC (.int 1))) (eVar 3)) (eC (.int 1))) (eVar 5))) (eVar 6) [6])) aNil))))))))
def s_marks_left : List D → R D := defF 3 7 (
  (sSeq (sSet 3 (e2 ixD (eVar 0) (eC (.int 1))))
  (sSeq (sSet 4 (e2 mulD (e2 divD (eVar 2) (eVar 3)) (eA lenD (aCons (e2 ixD (eVar 0) (eC (.int 2))) aNil))))
  (sSeq (sSet 5 (e2 modD (eVar 2) (eVar 3)))
  (sRet (e2 addD (eVar 4) (eA lenD (aCons (eOwn (aLc (aItN false (e2 ixD (eVar 0) (eC (.int 2)))) (putR 6) (tOf (e2 ltD (e2 modD (e2 subD (eVar 1) (eVar 6)) (eVar 3)) (eVar 5))) (eVar 6) [6])) aNil))))))))
def s_part_pushed : List D → R D := defF 4 5 (
  (sSeq (sIf (tOf (e2 eqD (e2 ixD (eVar 0) (eC (.int 0))) (eC (.str "wheel")))) (sSeq (sSet 4 (eA (callF s_marks_left) (aCons (eVar 0) (aCons (eVar 1) (aCons (eVar 3) aNil)))))
  (sSeq (sIf (tOf (e2 eqD (eVar 2) (eC (.int 1)))) (sSet 4 (eA (callF s_marks_met) (aCons (eVar 0) (aCons (eVar 1) (aCons (eVar 3) aNil))))) sNop)
  (sRet (eA mkTup (aCons (e2 modD (e2 addD (eVar 1) (e2 mulD (eVar 2) (eVar 3))) (e2 ixD (eVar 0) (eC (.int 1)))) (aCons (eVar 4) aNil)))))) sNop)
  (sSeq (sIf (tOf (e2 eqD (e2 ixD (eVar 0) (eC (.int 0))) (eC (.str "click")))) (sRet (eA mkTup (aCons (eC (.int 0)) (aCons (e2 mulD (eVar 3) (eA intD (aCons (e2 eqD (eVar 2) (eC (.int 1))) aNil))) aNil)))) sNop)
  (sSeq (sIf (tOf (e2 eqD (e2 ixD (eVar 0) (eC (.int 0))) (eC (.str "rocker")))) (sSeq (sIf (tOf (e2 eqD (eVar 3) (eC (.int 0)))) (sRet (eA mkTup (aCons (eVar 1) (aCons (eC (.int 0)) aNil)))) sNop)
  (sRet (eA mkTup (aCons (eA intD (aCons (e2 eqD (eVar 2) (eC (.int 1))) aNil)) (aCons (eA intD (aCons (eAnd (e2 eqD (eVar 2) (eC (.int 1))) (e2 eqD (eVar 1) (eC (.int 0)))) aNil)) aNil))))) sNop)
  (sSeq (sIf (tOf (e2 eqD (eVar 2) (eC (.int 1)))) (sRet (eA mkTup (aCons (e2 modD (e2 addD (eVar 1) (eVar 3)) (e2 ixD (eVar 0) (eC (.int 1)))) (aCons (e2 divD (e2 addD (eVar 1) (eVar 3)) (e2 ixD (eVar 0) (eC (.int 1)))) aNil)))) sNop)
  (sRet (eA mkTup (aCons (eA maxD (aCons (eC (.int 0)) (aCons (e2 subD (eVar 1) (eVar 3)) aNil))) (aCons (eC (.int 0)) aNil)))))))))
def s_pushed_often : List D → R D := defF 5 7 (
  (sSeq (sSetO 5 (aThen (aCons (eVar 1) aNil) listO))
  (sSeq (sFor (aThen (aCons (eVar 2) (aCons (eA lenD (aCons (eVar 0) aNil)) aNil)) rng2) (putR 6) (sAsg (eA (callF s_part_pushed) (aCons (e2 ixD (eVar 0) (eVar 6)) (aCons (e2 ixD (eVar 5) (eVar 6)) (aCons (eVar 3) (aCons (eVar 4) aNil))))) (gTupR 2 (gsCons (subR 5 (eVar 6)) (gsCons (putR 4) gsNil)))))
  (sRet (eA mkTup (aCons (eA tupleD (aCons (eVar 5) aNil)) (aCons (e2 mulD (eVar 3) (eVar 4)) aNil)))))))
def s_is_whole : List D → R D := defF 1 1 (
  (sRet (eAnd (e1 (isiD "int") (eVar 0)) (eNot (e1 (isiD "bool") (eVar 0))))))
def s_is_marks : List D → R D := defF 2 5 (
  (sSeq (sIf (CT.tOr (CT.tNot (tOf (e1 (isiD "tuple") (eVar 1)))) (CT.tNot (tOf (eA allD (aCons (eOwn (aLc (aItN false (eVar 1)) (putR 2) tYesM (eAnd (eA (callF s_is_whole) (aCons (eVar 2) aNil)) (eChain leD ltD (eC (.int 0)) (eVar 2) (eVar 0))) [2])) aNil))))) (sRet (eC (.bl false))) sNop)
  (sRet (eA allD (aCons (eOwn (aLc (aZip false (aCons (eVar 1) (aCons (eCut (eVar 1) (pSo (eC (.int 1))) pNo) aNil))) (gTupR 2 (gsCons (putR 3) (gsCons (putR 4) gsNil))) tYesM (e2 ltD (eVar 3) (eVar 4)) [3, 4])) aNil)))))
def s_is_part : List D → R D := defF 1 1 (
  (sSeq (sIf (CT.tOr (CT.tNot (tOf (e1 (isiD "tuple") (eVar 0)))) (CT.tOr (tOf (e2 eqD (eVar 0) (eA mkTup aNil))) (CT.tNot (tOf (e1 (isiD "str") (e2 ixD (eVar 0) (eC (.int 0)))))))) (sRet (eC (.bl false))) sNop)
  (sSeq (sIf (tOf (e2 inD (e2 ixD (eVar 0) (eC (.int 0))) (eOwn (aThen (aCons (eC (.str "click")) (aCons (eC (.str "rocker")) aNil)) mkLst)))) (sRet (e2 eqD (eA lenD (aCons (eVar 0) aNil)) (eC (.int 1)))) sNop)
  (sSeq (sIf (tOf (e2 eqD (e2 ixD (eVar 0) (eC (.int 0))) (eC (.str "spring")))) (sRet (eAnd (e2 eqD (eA lenD (aCons (eVar 0) aNil)) (eC (.int 2))) (eAnd (eA (callF s_is_whole) (aCons (e2 ixD (eVar 0) (eC (.int 1))) aNil)) (e2 geD (e2 ixD (eVar 0) (eC (.int 1))) (eC (.int 1)))))) sNop)
  (sSeq (sIf (CT.tOr (tOf (e2 neD (e2 ixD (eVar 0) (eC (.int 0))) (eC (.str "wheel")))) (tOf (e2 neD (eA lenD (aCons (eVar 0) aNil)) (eC (.int 3))))) (sRet (eC (.bl false))) sNop)
  (sRet (eAnd (eA (callF s_is_whole) (aCons (e2 ixD (eVar 0) (eC (.int 1))) aNil)) (eAnd (e2 geD (e2 ixD (eVar 0) (eC (.int 1))) (eC (.int 1))) (eA (callF s_is_marks) (aCons (e2 ixD (eVar 0) (eC (.int 1))) (aCons (e2 ixD (eVar 0) (eC (.int 2))) aNil)))))))))))
def s_check_train : List D → R D := defF 1 2 (
  (sIf (CT.tOr (CT.tNot (tOf (e1 (isiD "list") (eVar 0)))) (CT.tOr (tOf (e2 eqD (eVar 0) (eOwn (aThen aNil mkLst)))) (CT.tNot (tOf (eA allD (aCons (eOwn (aLc (aItN false (eVar 0)) (putR 1) tYesM (eA (callF s_is_part) (aCons (eVar 1) aNil)) [1])) aNil)))))) (sRaise "NoTrain") sNop))
def s_places : List D → R D := defF 1 1 (
  (sSeq (sIf (tOf (e2 inD (e2 ixD (eVar 0) (eC (.int 0))) (eOwn (aThen (aCons (eC (.str "wheel")) (aCons (eC (.str "spring")) aNil)) mkLst)))) (sRet (e2 ixD (eVar 0) (eC (.int 1)))) sNop)
  (sRet (e2 addD (eC (.int 1)) (eA intD (aCons (e2 eqD (e2 ixD (eVar 0) (eC (.int 0))) (eC (.str "rocker"))) aNil))))))
def s_is_stand : List D → R D := defF 2 4 (
  (sSeq (sIf (CT.tOr (CT.tNot (tOf (e1 (isiD "tuple") (eVar 1)))) (tOf (e2 neD (eA lenD (aCons (eVar 1) aNil)) (eA lenD (aCons (eVar 0) aNil))))) (sRet (eC (.bl false))) sNop)
  (sRet (eA allD (aCons (eOwn (aLc (aZip false (aCons (eVar 0) (aCons (eVar 1) aNil))) (gTupR 2 (gsCons (putR 2) (gsCons (putR 3) gsNil))) tYesM (eAnd (eA (callF s_is_whole) (aCons (eVar 3) aNil)) (eChain leD ltD (eC (.int 0)) (eVar 3) (eA (callF s_places) (aCons (eVar 2) aNil)))) [2, 3])) aNil)))))
def s_check_stand : List D → R D := defF 2 2 (
  (sSeq (sExp (eA (callF s_check_train) (aCons (eVar 0) aNil)))
  (sIf (CT.tNot (tOf (eA (callF s_is_stand) (aCons (eVar 0) (aCons (eVar 1) aNil))))) (sRaise "NoStand") sNop)))
def s_is_deed : List D → R D := defF 2 6 (
  (sSeq (sIf (CT.tOr (CT.tNot (tOf (e1 (isiD "tuple") (eVar 1)))) (CT.tOr (tOf (e2 neD (eA lenD (aCons (eVar 1) aNil)) (eC (.int 3)))) (CT.tNot (tOf (eA allD (aCons (eOwn (aLc (aItN false (eVar 1)) (putR 5) tYesM (eA (callF s_is_whole) (aCons (eVar 5) aNil)) [5])) aNil)))))) (sRet (eC (.bl false))) sNop)
  (sSeq (sAsg (eVar 1) (gTupR 3 (gsCons (putR 2) (gsCons (putR 3) (gsCons (putR 4) gsNil)))))
  (sRet (eAnd (eChain leD ltD (eC (.int 0)) (eVar 2) (eA lenD (aCons (eVar 0) aNil))) (eAnd (e2 inD (eVar 3) (eOwn (aThen (aCons (eC (.int 1)) (aCons (e2 subD (eC (.int 0)) (eC (.int 1))) aNil)) mkLst))) (e2 geD (eVar 4) (eC (.int 0)))))))))
def s_check_row : List D → R D := defF 2 3 (
  (sIf (CT.tOr (CT.tNot (tOf (e1 (isiD "list") (eVar 1)))) (CT.tNot (tOf (eA allD (aCons (eOwn (aLc (aItN false (eVar 1)) (putR 2) tYesM (eA (callF s_is_deed) (aCons (eVar 0) (aCons (eVar 2) aNil))) [2])) aNil))))) (sRaise "NoRow") sNop))
def s_walked : List D → R D := defF 3 8 (
  (sSeq (sSet 3 (eC (.int 0)))
  (sSeq (sFor (aItN true (eVar 2)) (gTupR 3 (gsCons (putR 4) (gsCons (putR 5) (gsCons (putR 6) gsNil)))) (sSeq (sAsg (eA (callF s_pushed_often) (aCons (eVar 0) (aCons (eVar 1) (aCons (eVar 4) (aCons (eVar 5) (aCons (eVar 6) aNil)))))) (gTupR 2 (gsCons (putR 1) (gsCons (putR 7) gsNil))))
  (sAug 3 augD (eVar 7))))
  (sRet (eA mkTup (aCons (eVar 1) (aCons (eVar 3) aNil)))))))
def s_left : List D → R D := defF 3 3 (
  (sSeq (sExp (eA (callF s_check_stand) (aCons (eVar 0) (aCons (eVar 1) aNil))))
  (sSeq (sExp (eA (callF s_check_row) (aCons (eVar 0) (aCons (eVar 2) aNil))))
  (sRet (eA (callF s_walked) (aCons (eVar 0) (aCons (eVar 1) (aCons (eVar 2) aNil))))))))
def s_left_often : List D → R D := defF 4 15 (
  (sSeq (sExp (eA (callF s_check_stand) (aCons (eVar 0) (aCons (eVar 1) aNil))))
  (sSeq (sExp (eA (callF s_check_row) (aCons (eVar 0) (aCons (eVar 2) aNil))))
  (sSeq (sIf (CT.tOr (CT.tNot (tOf (eA (callF s_is_whole) (aCons (eVar 3) aNil)))) (tOf (e2 ltD (eVar 3) (eC (.int 0))))) (sRaise "NoCount") sNop)
  (sSeq (sNewD 4)
  (sSeq (sSetO 5 (aThen aNil mkLst))
  (sSeq (sSet 6 (eC (.int 0)))
  (sSeq (sWhile (CT.tAnd (tOf (eInD false 4 (eVar 1))) (tOf (e2 ltD (eA lenD (aCons (eVar 5) aNil)) (eVar 3)))) (sSeq (sPutD 4 (eVar 1) (eA lenD (aCons (eVar 5) aNil)))
  (sSeq (sApp 5 (eVar 6))
  (sSeq (sAsg (eA (callF s_walked) (aCons (eVar 0) (aCons (eVar 1) (aCons (eVar 2) aNil)))) (gTupR 2 (gsCons (putR 1) (gsCons (putR 7) gsNil))))
  (sAug 6 augD (eVar 7))))))
  (sSeq (sIf (tOf (eInD false 4 (eVar 1))) (sRet (eA mkTup (aCons (eVar 1) (aCons (eVar 6) aNil)))) sNop)
  (sSeq (sSet 8 (eGetD 4 (eVar 1)))
  (sSeq (sSet 9 (e2 subD (eA lenD (aCons (eVar 5) aNil)) (eVar 8)))
  (sSeq (sSet 10 (e2 subD (eVar 3) (eA lenD (aCons (eVar 5) aNil))))
  (sSeq (sSet 11 (e2 subD (eVar 6) (e2 ixD (eVar 5) (eVar 8))))
  (sSeq (sSet 12 (e2 addD (eVar 8) (e2 modD (eVar 10) (eVar 9))))
  (sSeq (sItemsD 4 (gTupR 2 (gsCons (putR 13) (gsCons (putR 14) gsNil))) (sIf (tOf (e2 eqD (eVar 14) (eVar 12))) (sSet 1 (eVar 13)) sNop))
  (sRet (eA mkTup (aCons (eVar 1) (aCons (e2 subD (e2 addD (e2 addD (eVar 6) (e2 mulD (e2 divD (eVar 10) (eVar 9)) (eVar 11))) (e2 ixD (eVar 5) (eVar 12))) (e2 ixD (eVar 5) (eVar 8))) aNil)))))))))))))))))))
def s_law_draws : List D → R D := defF 1 1 (
  (sSeq (sIf (tOf (e2 ltD (eVar 0) (e2 powD (eC (.int 10)) (eC (.int 18))))) (sRetO (aThen (aCons (eVar 0) (aCons (eC (.int 0)) (aCons (eC (.bl false)) aNil))) mkLst)) sNop)
  (sRetO (aThen (aCons (e2 modD (eVar 0) (e2 powD (e2 powD (e2 powD (eC (.int 10)) (eC (.int 60))) (eC (.int 50))) (eC (.int 3)))) (aCons (eC (.int 0)) (aCons (eC (.bl true)) aNil))) mkLst))))
def s_law_next : List D → R (D × Option D) := defL 1 3 (
  (bSeq (sAsg (e2 addD (eLk 0 1) (eC (.int 1))) (subLR 0 1))
  (bSeq (sSet 1 (eLk 0 1))
  (bIf (tOf (eLk 0 2)) (bSeq (sSet 2 (e2 modD (eLk 0 0) (e2 powD (eC (.int 10)) (eC (.int 6)))))
  (bSeq (sAsg (e2 divD (eLk 0 0) (e2 powD (eC (.int 10)) (eC (.int 6)))) (subLR 0 0))
  (bRet (eVar 2))))
  (bSeq (sSet 2 (e2 modD (e2 mulD (e2 addD (e2 addD (e2 modD (eLk 0 0) (eC (.int 1000003))) (e2 mulD (e2 mulD (eVar 1) (eVar 1)) (eC (.int 7919)))) (eVar 1)) (eC (.int 48271))) (eC (.int 2147483629))))
  (bSeq (sSet 2 (e2 modD (e2 mulD (eVar 2) (eVar 2)) (eC (.int 2147483587))))
  (bRet (e2 divD (e2 modD (e2 mulD (eVar 2) (e2 addD (eVar 2) (eC (.int 2)))) (eC (.int 2147483579))) (eC (.int 7))))))))))
def s_law_far_2 : List D → R (D × Option D) := defL 2 4 (
  (bSeq (sSet 2 (eC (.int 0)))
  (bSeq (sForX (xThen (xaCons (x2 modD (xCallL 0 s_law_next xaNil) (xOf (eC (.int 8)))) xaNil) rng1) (putR 3) (sSetX 2 (x2 addD (xOf (e2 mulD (eVar 2) (e2 powD (eC (.int 10)) (eC (.int 6))))) (x2 modD (xCallL 0 s_law_next xaNil) (xOf (e2 powD (eC (.int 10)) (eC (.int 6))))))))
  (bRet (e2 modD (eVar 2) (eVar 1))))))
def s_law_wheel : List D → R (D × Option D) := defL 1 4 (
  (bSeq (sSetX 1 (x2 addD (xOf (eC (.int 1))) (x2 modD (xCallL 0 s_law_next xaNil) (xOf (eC (.int 7))))))
  (bSeq (sIfX (xtOf (x2 eqD (x2 modD (xCallL 0 s_law_next xaNil) (xOf (eC (.int 3)))) (xOf (eC (.int 1))))) (sSetX 1 (x2 addD (xOf (eC (.int 1))) (xCallL 0 s_law_far_2 (xaCons (xOf (e2 subD (e2 powD (eC (.int 10)) (eC (.int 40))) (eC (.int 1)))) xaNil)))) sNop)
  (bSeq (sSetX 2 (xOwn (aLcX (xThen (xaCons (x2 modD (xCallL 0 s_law_next xaNil) (xOf (eC (.int 5)))) xaNil) rng1) 3 xtYes (xCallL 0 s_law_far_2 (xaCons (xOf (eVar 1)) xaNil)))))
  (bSeq (sIfX (xtOf (x2 eqD (x2 modD (xCallL 0 s_law_next xaNil) (xOf (eC (.int 3)))) (xOf (eC (.int 1))))) (sSet 2 (e2 addD (eVar 2) (eOwn (aThen (aCons (eC (.int 0)) (aCons (e2 subD (eVar 1) (eC (.int 1))) aNil)) mkLst)))) sNop)
  (bRet (eA mkTup (aCons (eC (.str "wheel")) (aCons (eVar 1) (aCons (eA tupleD (aCons (eOwn (aSetS (eVar 2))) aNil)) aNil))))))))))
def s_law_behind : List D → R (D × Option D) := defL 2 5 (
  (bIfX (xtOf (x2 neD (x2 modD (xCallL 0 s_law_next xaNil) (xOf (eC (.int 3)))) (xOf (eC (.int 1))))) (bRet (eOwn (aThen aNil mkLst)))
  (bSeq (sSetO 2 (aThen aNil mkLst))
  (bSeq (sForX (xThen (xaCons (xA minD (xaCons (xOf (eVar 1)) (xaCons (x2 addD (xOf (eC (.int 1))) (x2 modD (xCallL 0 s_law_next xaNil) (xOf (eC (.int 3))))) xaNil))) xaNil) rng1) (putR 3) (sSeq (sSetX 4 (x2 ixD (xA mkLstF (xaCons (xOf (eA mkTup (aCons (eC (.str "click")) aNil))) (xaCons (xOf (eA mkTup (aCons (eC (.str "rocker")) aNil))) (xaCons (xA mkTup (xaCons (xOf (eC (.str "spring"))) (xaCons (x2 addD (xOf (eC (.int 1))) (x2 modD (xCallL 0 s_law_next xaNil) (xOf (eC (.int 9))))) xaNil))) xaNil)))) (x2 modD (xCallL 0 s_law_next xaNil) (xOf (eC (.int 3))))))
  (sSeq (sIfX (xtOf (x2 eqD (x2 modD (xCallL 0 s_law_next xaNil) (xOf (eC (.int 4)))) (xOf (eC (.int 1))))) (sSetX 4 (xCallL 0 s_law_wheel xaNil)) sNop)
  (sApp 2 (eVar 4)))))
  (bRetV 2)))))
def s_law_places_2 : List D → R D := defF 1 1 (
  (sSeq (sIf (tOf (e2 inD (e2 ixD (eVar 0) (eC (.int 0))) (eOwn (aThen (aCons (eC (.str "wheel")) (aCons (eC (.str "spring")) aNil)) mkLst)))) (sRet (e2 ixD (eVar 0) (eC (.int 1)))) sNop)
  (sRet (e2 addD (eC (.int 1)) (eA intD (aCons (e2 eqD (e2 ixD (eVar 0) (eC (.int 0))) (eC (.str "rocker"))) aNil))))))
def s_law_round_holds : List D → R D := defF 4 7 (
  (sSeq (sSet 4 (eC (.int 1)))
  (sSeq (sSet 5 (eVar 3))
  (sSeq (sFor (aItN true (eCut (eVar 0) (pSo (eVar 2)) pNo)) (putR 6) (sSeq (sSet 4 (e2 mulD (eVar 4) (e2 ixD (eVar 6) (eC (.int 1)))))
  (sSet 5 (e2 mulD (eVar 5) (eA lenD (aCons (e2 ixD (eVar 6) (eC (.int 2))) aNil))))))
  (sSeq (sIf (tOf (e2 geD (eVar 4) (e2 powD (eC (.int 10)) (eC (.int 40))))) (sRet (eC (.bl true))) sNop)
  (sRet (e2 eqD (eA (callF s_left) (aCons (eVar 0) (aCons (eVar 1) (aCons (eOwn (aThen (aCons (eA mkTup (aCons (eVar 2) (aCons (eVar 3) (aCons (eVar 4) aNil)))) aNil) mkLst)) aNil)))) (eA mkTup (aCons (eVar 1) (aCons (eVar 5) aNil))))))))))
def s_law_deed : List D → R (D × Option D) := defL 2 3 (
  (bSeq (sSetX 2 (x2 modD (xCallL 0 s_law_next xaNil) (xOf (eA lenD (aCons (eVar 1) aNil)))))
  (bRetX (xA mkTup (xaCons (xOf (eVar 2)) (xaCons (x2 ixD (xOf (eOwn (aThen (aCons (eC (.int 1)) (aCons (e2 subD (eC (.int 0)) (eC (.int 1))) aNil)) mkLst))) (x2 modD (xCallL 0 s_law_next xaNil) (xOf (eC (.int 2))))) (xaCons (xCallL 0 s_law_far_2 (xaCons (xOf (e2 powD (eC (.int 10)) (eC (.int 39)))) xaNil)) xaNil)))))))
def s_law_net : List D → R D := defF 2 6 (
  (sSeq (sSetO 2 (a2 repL (eOwn (aThen (aCons (eC (.int 0)) aNil) mkLst)) (eA lenD (aCons (eVar 0) aNil))))
  (sSeq (sFor (aItN true (eVar 1)) (gTupR 3 (gsCons (putR 3) (gsCons (putR 4) (gsCons (putR 5) gsNil)))) (sAsg (e2 addD (e2 ixD (eVar 2) (eVar 3)) (e2 mulD (eVar 4) (eVar 5))) (subR 2 (eVar 3))))
  (sRetV 2))))
def s_law_due_2 : List D → R D := defF 4 11 (
  (sSeq (sSetO 4 (aThen aNil mkLst))
  (sSeq (sSet 5 (eC (.int 0)))
  (sSeq (sFor (aZip3 true (aCons (eVar 0) (aCons (eVar 1) (aCons (eVar 2) aNil)))) (gTupR 3 (gsCons (putR 6) (gsCons (putR 7) (gsCons (putR 8) gsNil)))) (sSeq (sSet 9 (e2 addD (e2 addD (eVar 7) (e2 mulD (eVar 8) (eVar 3))) (eVar 5)))
  (sSeq (sSet 5 (eC (.int 0)))
  (sSeq (sFor (aItN true (e2 ixD (eVar 6) (eC (.int 2)))) (putR 10) (sSet 5 (e2 subD (e2 addD (eVar 5) (e2 divD (e2 subD (eVar 9) (eVar 10)) (e2 ixD (eVar 6) (eC (.int 1))))) (e2 divD (e2 subD (eVar 7) (eVar 10)) (e2 ixD (eVar 6) (eC (.int 1)))))))
  (sApp 4 (e2 modD (eVar 9) (e2 ixD (eVar 6) (eC (.int 1)))))))))
  (sRet (eA mkTup (aCons (eA tupleD (aCons (eVar 4) aNil)) (aCons (eVar 5) aNil))))))))
def s_law_rows : List D → R (D × Option D) := defL 3 13 (
  (bSeq (sSet 3 (eA (callF s_law_net) (aCons (eVar 1) (aCons (eVar 2) aNil))))
  (bSeq (sSet 4 (eOwn (aLc (aEnum false (eVar 3)) (gTupR 2 (gsCons (putR 6) (gsCons (putR 12) gsNil))) (tOf (e2 neD (eVar 12) (eC (.int 0)))) (eA mkTup (aCons (eVar 6) (aCons (e2 ixD (eOwn (aThen (aCons (eC (.int 1)) (aCons (e2 subD (eC (.int 0)) (eC (.int 1))) aNil)) mkLst)) (eA intD (aCons (e2 ltD (eVar 12) (eC (.int 0))) aNil))) (aCons (eA absD (aCons (eVar 12) aNil)) aNil)))) [6, 12])))
  (bSeq (sSetO 5 (aThen aNil mkLst))
  (bSeq (sFor (aItN true (eVar 2)) (gTupR 3 (gsCons (putR 6) (gsCons (putR 7) (gsCons (putR 8) gsNil)))) (sSeq (sSetX 9 (xCallL 0 s_law_far_2 (xaCons (xOf (e2 addD (eVar 8) (eC (.int 1)))) xaNil)))
  (sFor (aItN true (eOwn (aThen (aCons (eVar 9) (aCons (e2 subD (eVar 8) (eVar 9)) aNil)) mkLst))) (putR 10) (sInsX 5 (xaCons (x2 modD (xCallL 0 s_law_next xaNil) (xOf (e2 addD (eA lenD (aCons (eVar 5) aNil)) (eC (.int 1))))) (xaCons (xOf (eA mkTup (aCons (eVar 6) (aCons (eVar 7) (aCons (eVar 10) aNil))))) xaNil))))))
  (bSeq (sAsgX (xCallL 0 s_law_deed (xaCons (xOf (eVar 1)) xaNil)) (gTupR 3 (gsCons (putR 6) (gsCons (putR 7) (gsCons (putR 8) gsNil)))))
  (bSeq (sSetO 11 (aThen (aCons (eVar 2) aNil) listO))
  (bSeq (sInsX 11 (xaCons (x2 modD (xCallL 0 s_law_next xaNil) (xOf (e2 addD (eA lenD (aCons (eVar 11) aNil)) (eC (.int 1))))) (xaCons (xOf (eA mkTup (aCons (eVar 6) (aCons (eVar 7) (aCons (eVar 8) aNil))))) xaNil)))
  (bSeq (sInsX 11 (xaCons (x2 modD (xCallL 0 s_law_next xaNil) (xOf (e2 addD (eA lenD (aCons (eVar 11) aNil)) (eC (.int 1))))) (xaCons (xOf (eA mkTup (aCons (eVar 6) (aCons (e2 subD (eC (.int 0)) (eVar 7)) (aCons (eVar 8) aNil))))) xaNil)))
  (bFrz 11 (bFrz 5 (bRet (eOwn (aThen (aCons (eVar 2) (aCons (e1 revD (eVar 2)) (aCons (eA sortedD (aCons (eVar 2) aNil)) (aCons (eVar 4) (aCons (e1 revD (eVar 4)) (aCons (eVar 5) (aCons (eVar 11) aNil))))))) mkLst))))))))))))))
def s_law_is_2 : List D → R D := defF 4 5 (
  (sSeq (sIf (CT.tOr (CT.tNot (tOf (e1 (isiD "tuple") (eVar 2)))) (CT.tOr (tOf (e2 neD (eA lenD (aCons (eVar 2) aNil)) (eC (.int 2)))) (CT.tOr (CT.tNot (tOf (e1 (isiD "tuple") (e2 ixD (eVar 2) (eC (.int 0)))))) (tOf (e2 neD (eA lenD (aCons (e2 ixD (eVar 2) (eC (.int 0))) aNil)) (eA lenD (aCons (eVar 0) aNil))))))) (sRet (eC (.bl false))) sNop)
  (sSeq (sFor (aItN true (e2 addD (e2 ixD (eVar 2) (eC (.int 0))) (eA mkTup (aCons (e2 ixD (eVar 2) (eC (.int 1))) aNil)))) (putR 4) (sIf (CT.tOr (CT.tNot (tOf (e1 (isiD "int") (eVar 4)))) (tOf (e1 (isiD "bool") (eVar 4)))) (sRet (eC (.bl false))) sNop))
  (sSeq (sIf (tOf (e2 ltD (eA lenD (aCons (eVar 1) aNil)) (eA lenD (aCons (eVar 0) aNil)))) (sRet (e2 eqD (eCut (e2 ixD (eVar 2) (eC (.int 0))) pNo (pSo (eA lenD (aCons (eVar 1) aNil)))) (e2 ixD (eVar 3) (eC (.int 0))))) sNop)
  (sRet (e2 eqD (eVar 2) (eVar 3)))))))
def s_law_often_holds : List D → R (D × Option D) := defL 5 9 (
  (bSeq (sSet 5 (eC (.int 1)))
  (bSeq (sFor (aItN true (eVar 1)) (putR 6) (sSet 5 (e2 mulD (eVar 5) (eA (callF s_law_places_2) (aCons (eVar 6) aNil)))))
  (bSeq (sSetX 7 (xCallL 0 s_law_far_2 (xaCons (xOf (e2 powD (eC (.int 10)) (eC (.int 30)))) xaNil)))
  (bIf (tOf (e2 gtD (eVar 5) (eC (.int 300)))) (bRet (eC (.bl true)))
  (bSeq (sSet 8 (eA (callF s_law_due_2) (aCons (eVar 2) (aCons (eVar 3) (aCons (eA (callF s_law_net) (aCons (eVar 1) (aCons (eVar 4) aNil))) (aCons (eVar 7) aNil))))))
  (bRet (eA (callF s_law_is_2) (aCons (eVar 1) (aCons (eVar 2) (aCons (eA (callF s_left_often) (aCons (eVar 1) (aCons (eVar 3) (aCons (eVar 4) (aCons (eVar 7) aNil))))) (aCons (eVar 8) aNil))))))))))))
def s_law_right_3 : List D → R (D × Option D) := defL 4 15 (
  (bSeq (sSetX 4 (xOwn (aLcX (xThen (xaCons (x2 modD (xCallL 0 s_law_next xaNil) (xOf (eC (.int 9)))) xaNil) rng1) 11 xtYes (xCallL 0 s_law_deed (xaCons (xOf (eVar 1)) xaNil)))))
  (bSeq (sSet 5 (eA (callF s_law_due_2) (aCons (eVar 2) (aCons (eVar 3) (aCons (eA (callF s_law_net) (aCons (eVar 1) (aCons (eVar 4) aNil))) (aCons (eC (.int 1)) aNil))))))
  (bSeq (sSetX 6 (xCallL 0 s_law_rows (xaCons (xOf (eVar 1)) (xaCons (xOf (eVar 4)) xaNil))))
  (bSeq (sFor (aItN true (eVar 6)) (putR 7) (sSeq (sSet 8 (eA mkTup (aCons (eOwn (aThen (aCons (eVar 1) aNil) listO)) (aCons (eOwn (aThen (aCons (eVar 7) aNil) listO)) aNil))))
  (sSeq (sSet 9 (eA (callF s_left) (aCons (e2 ixD (eVar 8) (eC (.int 0))) (aCons (eVar 3) (aCons (e2 ixD (eVar 8) (eC (.int 1))) aNil)))))
  (sIf (CT.tOr (CT.tNot (tOf (eA (callF s_law_is_2) (aCons (eVar 1) (aCons (eVar 2) (aCons (eVar 9) (aCons (eVar 5) aNil))))))) (tOf (e2 neD (eVar 8) (eA mkTup (aCons (eVar 1) (aCons (eVar 7) aNil)))))) (sRet (eC (.bl false))) sNop))))
  (bSeq (sSetX 10 (xOwn (aLcXG (xSeq true (x2 ixD (xOf (eVar 6)) (x2 modD (xCallL 0 s_law_next xaNil) (xOf (eC (.int 7)))))) (gTupR 3 (gsCons (putR 12) (gsCons (putR 13) (gsCons (putR 14) gsNil)))) xtYes (xOf (eA mkTup (aCons (eVar 12) (aCons (e2 subD (eC (.int 0)) (eVar 13)) (aCons (eVar 14) aNil))))) [12, 13, 14])))
  (bSeq (sSet 9 (eA (callF s_left) (aCons (eVar 1) (aCons (eVar 3) (aCons (eVar 4) aNil)))))
  (bIf (CT.tNot (tOf (eA (callF s_law_is_2) (aCons (eVar 1) (aCons (eVar 2) (aCons (eA (callF s_left) (aCons (eVar 1) (aCons (e2 ixD (eVar 9) (eC (.int 0))) (aCons (eVar 10) aNil)))) (aCons (eA mkTup (aCons (eCut (eVar 3) pNo (pSo (eA lenD (aCons (eVar 2) aNil)))) (aCons (e2 subD (eC (.int 0)) (e2 ixD (eVar 5) (eC (.int 1)))) aNil))) aNil))))))) (bRet (eC (.bl false)))
  (bRetX (xCallL 0 s_law_often_holds (xaCons (xOf (eVar 1)) (xaCons (xOf (eVar 2)) (xaCons (xOf (eVar 3)) (xaCons (xOf (eVar 4)) xaNil))))))))))))))
def s_law_9 : List D → R D := defF 1 9 (
  (sSeq (sFor (aItN true (e2 addD (eCut (eVar 0) pNo (pSo (eC (.int 6)))) (eOwn (aThen (aCons (eC (.int 0)) aNil) mkLst)))) (putR 1) (sNewL 2 (aThen (aCons (eVar 1) aNil) (callO s_law_draws))
  (sSeq (sSetX 3 (xOwn (aLcX (xThen (xaCons (x2 addD (xOf (eC (.int 1))) (x2 modD (xCallL 2 s_law_next xaNil) (xOf (eC (.int 8))))) xaNil) rng1) 7 xtYes (xCallL 2 s_law_wheel xaNil))))
  (sSeq (sSetX 4 (x2 addD (xOf (eVar 3)) (xCallL 2 s_law_behind (xaCons (xOf (e2 subD (eC (.int 8)) (eA lenD (aCons (eVar 3) aNil)))) xaNil))))
  (sSeq (sSetX 5 (xA tupleD (xaCons (xOwn (aLcX (xiOf (aItN true (eVar 4))) 8 xtYes (xCallL 2 s_law_far_2 (xaCons (xOf (eA (callF s_law_places_2) (aCons (eVar 8) aNil))) xaNil)))) xaNil)))
  (sSeq (sIfX (xtNot (xtOf (xCallL 2 s_law_right_3 (xaCons (xOf (eVar 4)) (xaCons (xOf (eVar 3)) (xaCons (xOf (eVar 5)) xaNil)))))) (sRet (eC (.bl false))) sNop)
  (sSeq (sSetX 6 (x2 modD (xCallL 2 s_law_next xaNil) (xOf (eA lenD (aCons (eVar 4) aNil)))))
  (sIfX (xtAnd (xtPure (tOf (e2 eqD (eVar 4) (eVar 3)))) (xtNot (xtOf (xA (callF s_law_round_holds) (xaCons (xOf (eVar 4)) (xaCons (xOf (eVar 5)) (xaCons (xOf (eVar 6)) (xaCons (x2 ixD (xOf (eOwn (aThen (aCons (eC (.int 1)) (aCons (e2 subD (eC (.int 0)) (eC (.int 1))) aNil)) mkLst))) (x2 modD (xCallL 2 s_law_next xaNil) (xOf (eC (.int 2))))) xaNil)))))))) (sRet (eC (.bl false))) sNop))))))))
  (sRet (eC (.bl true)))))
end
end CK

namespace CT
open PySem PySem.Spec PyProof.Rows L2
section
variable (m : Sl) (f g h : SemE) (op : D → D → R D) (a : SemA)
@[simp] theorem eVar_0 {x : D} {r : Sl} : eVar 0 (some x :: r) = .ok x := nr rfl
@[simp] theorem eVar_s {x : Option D} {r : Sl} {i : Nat} : eVar (i + 1) (x :: r) = eVar i r := nr rfl
@[simp] theorem eVar_1 {x y : Option D} {z : D} {r : Sl} : eVar 1 (x :: some z :: r) = .ok z := nr rfl
@[simp] theorem eC_eq (d : D) : eC d m = .ok d := nr rfl
@[simp] theorem e2_eq : e2 op f g m = (f m).bind fun x => (g m).bind fun y => op x y := nr rfl
@[simp] theorem e1_eq (o : D → R D) : e1 o f m = (f m).bind o := nr rfl
@[simp] theorem eA_eq (o : List D → R D) : eA o a m = (a m).bind o := nr rfl
@[simp] theorem aNil_eq : aNil m = .ok [] := nr rfl
@[simp] theorem aCons_eq : aCons f a m = (f m).bind fun x => (a m).bind fun xs => .ok (x :: xs) := nr rfl
@[simp] theorem tOf_eq : tOf f m = (f m).bind asB := nr rfl
@[simp] theorem tNot_eq (t : SemT) : CT.tNot t m = (t m).bind fun c => .ok (!c) := nr rfl
@[simp] theorem tAnd_eq (t u : SemT) : CT.tAnd t u m = (t m).bind fun c => if c = true then u m else .ok false := nr rfl
@[simp] theorem tOr_eq (t u : SemT) : CT.tOr t u m = (t m).bind fun c => if c = true then .ok true else u m := nr rfl
@[simp] theorem eAnd_eq : eAnd f g m = (f m).bind fun x => (asB x).bind fun c => if c = true then g m else .ok (.bl false) := nr rfl
@[simp] theorem eNot_eq : eNot f m = (f m).bind fun x => (asB x).bind fun c => .ok (.bl (!c)) := nr rfl
@[simp] theorem eOwn_eq : eOwn a m = (a m).bind fun xs => .ok (.lst false xs) := nr rfl
@[simp] theorem aThen_eq (k : List D → R (List D)) : aThen a k m = (a m).bind k := nr rfl
@[simp] theorem a2_eq (o : D → D → R (List D)) : a2 o f g m = (f m).bind fun x => (g m).bind fun y => o x y := nr rfl
@[simp] theorem aItN_eq (s : Bool) : aItN s f m = (f m).bind (itemsN s) := nr rfl
@[simp] theorem aEnum_eq (s : Bool) : aEnum s f m = (f m).bind (enumI s) := nr rfl
@[simp] theorem eChain_eq (p q : D → D → R D) : eChain p q f g h m = (f m).bind fun x => (g m).bind fun y => (p x y).bind fun z => (asB z).bind fun c => if c = true then (h m).bind fun w => q y w else .ok (.bl false) := nr rfl
@[simp] theorem pNo_eq : pNo m = .ok none := nr rfl
@[simp] theorem pSo_eq : pSo f m = (f m).bind fun d => (asI d).bind fun i => .ok (some i) := nr rfl
@[simp] theorem eCut_eq (p q : SemP) : eCut f p q m = (f m).bind fun x => (p m).bind fun lo => (q m).bind fun hi => cutD x lo hi := nr rfl
@[simp] theorem aLc_eq (gg : SemG) (t : SemT) (vs : List Nat) : aLc a gg t f vs m = (a m).bind fun ds => (lcGo gg t f (wipeM m vs) ds).bind fun r => if r.length ≤ sizeLine then .ok r else .stuck := nr rfl
@[simp] theorem tYesM_eq : tYesM m = .ok true := nr rfl
@[simp] theorem asB_bl (c : Bool) : asB (.bl c) = .ok c := nr rfl
@[simp] theorem asI_int (i : Int) : asI (.int i) = .ok i := nr rfl
@[simp] theorem wipeM_nil : wipeM m [] = m := nr rfl
@[simp] theorem wipeM_cons (v : Nat) (vs : List Nat) : wipeM m (v :: vs) = (wipeM m vs).set v none := nr rfl
variable (s t : SemS)
@[simp] theorem sNop_eq : sNop m = .nx m := nr rfl
@[simp] theorem sSeq_eq : sSeq s t m = sThen (s m) t := nr rfl
@[simp] theorem sExp_eq : sExp f m = ofR m (f m) fun _ => .nx m := nr rfl
def kRet (d : D) : RS := .rt (still d)
@[simp] theorem kRet_eq (d : D) : kRet d = .rt (still d) := nr rfl
@[simp] theorem sRet_eq : sRet f m = ofR m (f m) kRet := nr rfl
@[simp] theorem sRetO_eq : sRetO a m = ofR m (a m) fun ds => if hasTL ds = true then .stuck else .rt (.lst true ds) := nr rfl
def kIf (s t : SemS) (m : Sl) (c : Bool) : RS := if c = true then s m else t m
@[simp] theorem kIf_t : kIf s t m true = s m := nr rfl
@[simp] theorem kIf_f : kIf s t m false = t m := nr rfl
@[simp] theorem sIf_eq (c : SemT) : sIf c s t m = ofR m (c m) (kIf s t m) := nr rfl
def kSet (i : Nat) (m : Sl) (d : D) : RS := ofR m (putR i d m) fun m' => .nx m'
@[simp] theorem kSet_eq (i : Nat) (d : D) : kSet i m d = if hasT d = true then .stuck else .nx (m.set i (some d)) := by unfold kSet putR; split <;> rfl
@[simp] theorem sSet_eq (i : Nat) : sSet i f m = ofR m (f m) (kSet i m) := nr rfl
@[simp] theorem sSetO_eq (i : Nat) : sSetO i a m = ofR m (a m) fun ds => if hasTL ds = true then .stuck else .nx (m.set i (some (.lst true ds))) := nr rfl
@[simp] theorem putR_eq (i : Nat) (d : D) : putR i d m = if hasT d = true then .stuck else .ok (m.set i (some d)) := nr rfl
@[simp] theorem sApp_eq (i : Nat) : sApp i f m = mine i m fun xs => ofR m (f m) fun d => if hasT d = true then .stuck else if xs.length < sizeLine then .nx (m.set i (some (.lst true (xs ++ [d])))) else .stuck := nr rfl
@[simp] theorem sAsg_eq (gg : SemG) : sAsg f gg m = ofR m (f m) fun d => if hasT d = true then .stuck else match gg d m with
  | .ok m' => .nx m'
  | _ => .stuck := nr rfl
@[simp] theorem sFor_eq (gg : SemG) : sFor a gg s m = ofR m (a m) fun ds => forGo gg s ds m := nr rfl
@[simp] theorem gsNil_nil : gsNil [] m = .ok m := nr rfl
@[simp] theorem gsCons_cons (gg : SemG) (hh : SemGs) (d : D) (r : List D) : gsCons gg hh (d :: r) m = (gg d m).bind fun m1 => hh r m1 := nr rfl
@[simp] theorem gTupR_tup (n : Nat) (hh : SemGs) (ds : List D) : gTupR n hh (.tup ds) m = if ds.length = n then hh ds m else .stuck := nr rfl
end
@[simp] theorem hasT_int (i : Int) : hasT (.int i) = false := nr rfl
@[simp] theorem hasT_bl (b : Bool) : hasT (.bl b) = false := nr rfl
@[simp] theorem hasT_str (x : Str) : hasT (.str x) = false := nr rfl
@[simp] theorem hasT_non : hasT .non = false := nr rfl
@[simp] theorem hasT_tup (xs : List D) : hasT (.tup xs) = hasTL xs := nr rfl
@[simp] theorem hasT_lst (t : Bool) (xs : List D) : hasT (.lst t xs) = (t || hasTL xs) := nr rfl
@[simp] theorem hasT_fr (xs : List D) : hasT (.fr xs) = hasTL xs := nr rfl
@[simp] theorem hasTL_nil : hasTL [] = false := nr rfl
@[simp] theorem hasTL_cons (x : D) (xs : List D) : hasTL (x :: xs) = (hasT x || hasTL xs) := nr rfl
@[simp] theorem still_int (i : Int) : still (.int i) = .int i := nr rfl
@[simp] theorem still_bl (b : Bool) : still (.bl b) = .bl b := nr rfl
@[simp] theorem still_str (x : Str) : still (.str x) = .str x := nr rfl
@[simp] theorem still_non : still .non = .non := nr rfl
@[simp] theorem still_tup (xs : List D) : still (.tup xs) = .tup (stillL xs) := nr rfl
@[simp] theorem still_lst (t : Bool) (xs : List D) : still (.lst t xs) = .lst false (stillL xs) := nr rfl
@[simp] theorem still_fr (xs : List D) : still (.fr xs) = .fr (stillL xs) := nr rfl
@[simp] theorem stillL_nil : stillL [] = [] := nr rfl
@[simp] theorem stillL_cons (x : D) (xs : List D) : stillL (x :: xs) = still x :: stillL xs := nr rfl
@[simp] theorem isFlat_int (i : Int) : isFlat (.int i) = true := nr rfl
@[simp] theorem isFlat_bl (i : Bool) : isFlat (.bl i) = true := nr rfl
@[simp] theorem isFlat_str (i : Str) : isFlat (.str i) = true := nr rfl
@[simp] theorem isFlat_non : isFlat .non = true := nr rfl
@[simp] theorem isFlat_tup (xs : List D) : isFlat (.tup xs) = isFlatL xs := nr rfl
@[simp] theorem isFlatL_nil : isFlatL [] = true := nr rfl
@[simp] theorem isFlatL_cons (x : D) (xs : List D) : isFlatL (x :: xs) = (isFlat x && isFlatL xs) := nr rfl
theorem hasTL_all {xs : List D} (h : ∀ x ∈ xs, hasT x = false) : hasTL xs = false := by
  induction xs with
  | nil => rfl
  | cons x xs ih => rw [hasTL_cons, h x (by simp), ih fun y hy => h y (by simp [hy])]; rfl
theorem hasTL_map {α : Type} {f : α → D} (h : ∀ a, hasT (f a) = false) (l : List α) : hasTL (l.map f) = false := hasTL_all fun x hx => by
  obtain ⟨a, _, rfl⟩ := List.mem_map.mp hx
  exact h a
theorem stillL_map {α : Type} {f : α → D} (h : ∀ a, still (f a) = f a) (l : List α) : stillL (l.map f) = l.map f := by
  induction l with
  | nil => rfl
  | cons a l ih => rw [List.map_cons, stillL_cons, h, ih]
@[simp] theorem hasTL_ints (l : List Int) : hasTL (l.map D.int) = false := hasTL_map (fun _ => rfl) l
@[simp] theorem stillL_ints (l : List Int) : stillL (l.map D.int) = l.map D.int := stillL_map (fun _ => rfl) l
@[simp] theorem addD_int (i j : Int) : addD (.int i) (.int j) = .ok (.int (i + j)) := nr rfl
@[simp] theorem subD_int (i j : Int) : subD (.int i) (.int j) = .ok (.int (i - j)) := nr rfl
@[simp] theorem ltD_int (i j : Int) : ltD (.int i) (.int j) = .ok (.bl (decide (i < j))) := nr rfl
@[simp] theorem leD_int (i j : Int) : leD (.int i) (.int j) = .ok (.bl (decide (i ≤ j))) := nr rfl
@[simp] theorem gtD_int (i j : Int) : gtD (.int i) (.int j) = .ok (.bl (decide (j < i))) := nr rfl
@[simp] theorem geD_int (i j : Int) : geD (.int i) (.int j) = .ok (.bl (decide (j ≤ i))) := nr rfl
theorem mulD_ok {i j : Int} (h : mulOk i j) : mulD (.int i) (.int j) = .ok (.int (i * j)) := by simp only [mulD]; rw [if_pos h]
theorem mulD_l {i j : Int} (h : -(2 ^ 64) < i ∧ i < 2 ^ 64) : mulD (.int i) (.int j) = .ok (.int (i * j)) := mulD_ok (.inl h)
theorem mulD_r {i j : Int} (h : -(2 ^ 64) < j ∧ j < 2 ^ 64) : mulD (.int i) (.int j) = .ok (.int (i * j)) := mulD_ok (.inr (.inl h))
theorem modD_ok {i j : Int} (h : 0 < j) : modD (.int i) (.int j) = .ok (.int (i % j)) := by
  simp only [modD]; rw [if_pos (by omega), Int.fmod_eq_emod_of_nonneg i (by omega)]
theorem divD_ok {i j : Int} (h : 0 < j) (h2 : divOk j) : divD (.int i) (.int j) = .ok (.int (i / j)) := by
  simp only [divD]; rw [if_pos h2, Int.fdiv_eq_ediv_of_nonneg i (by omega)]
theorem divD_s {i j : Int} (h : 0 < j) (h2 : j < 1073741824) : divD (.int i) (.int j) = .ok (.int (i / j)) := divD_ok h (.inl ⟨by omega, by omega⟩)
@[simp] theorem intD_int (i : Int) : intD [.int i] = .ok (.int i) := nr rfl
@[simp] theorem intD_bl (c : Bool) : intD [.bl c] = .ok (.int (if c then 1 else 0)) := nr rfl
@[simp] theorem maxD_int (i j : Int) : maxD [.int i, .int j] = .ok (.int (if j > i then j else i)) := nr rfl
@[simp] theorem minD_int (i j : Int) : minD [.int i, .int j] = .ok (.int (if j < i then j else i)) := nr rfl
@[simp] theorem absD_int (i : Int) : absD [.int i] = .ok (.int (if i < 0 then -i else i)) := nr rfl
@[simp] theorem lenD_lst (t : Bool) (xs : List D) : lenD [.lst t xs] = .ok (.int xs.length) := nr rfl
@[simp] theorem lenD_fr (xs : List D) : lenD [.fr xs] = .ok (.int xs.length) := nr rfl
@[simp] theorem lenD_tup (xs : List D) : lenD [.tup xs] = .ok (.int xs.length) := nr rfl
@[simp] theorem tupleD_lst (t : Bool) (xs : List D) : tupleD [.lst t xs] = .ok (.tup xs) := nr rfl
@[simp] theorem tupleD_tup (xs : List D) : tupleD [.tup xs] = .ok (.tup xs) := nr rfl
@[simp] theorem listO_lst (t : Bool) (xs : List D) : listO [.lst t xs] = .ok xs := nr rfl
@[simp] theorem listO_tup (xs : List D) : listO [.tup xs] = .ok xs := nr rfl
@[simp] theorem listO_fr (xs : List D) : listO [.fr xs] = .ok xs := nr rfl
theorem sizeBig : (sizeLine : Nat) = 16777216 := sizeLine_eq
theorem small {n : Nat} (h : n ≤ 16777216) : n ≤ sizeLine := by rw [sizeBig]; exact h
@[simp] theorem mkTup_0 : mkTup [] = .ok (.tup []) := by unfold mkTup; rw [if_pos (small (by simp))]
@[simp] theorem mkTup_1 (a : D) : mkTup [a] = .ok (.tup [a]) := by unfold mkTup; rw [if_pos (small (by simp))]
@[simp] theorem mkTup_2 (a b : D) : mkTup [a, b] = .ok (.tup [a, b]) := by unfold mkTup; rw [if_pos (small (by simp))]
@[simp] theorem mkTup_3 (a b c : D) : mkTup [a, b, c] = .ok (.tup [a, b, c]) := by unfold mkTup; rw [if_pos (small (by simp))]
theorem mkLst_s {xs : List D} (h : xs.length ≤ 16777216) : mkLst xs = .ok xs := by unfold mkLst; rw [if_pos (small h)]
@[simp] theorem mkLst_0 : mkLst [] = .ok [] := mkLst_s (by simp)
@[simp] theorem mkLst_1 (a : D) : mkLst [a] = .ok [a] := mkLst_s (by simp)
@[simp] theorem mkLst_2 (a b : D) : mkLst [a, b] = .ok [a, b] := mkLst_s (by simp)
@[simp] theorem mkLst_3 (a b c : D) : mkLst [a, b, c] = .ok [a, b, c] := mkLst_s (by simp)
theorem defF_eq (n k : Nat) (g : SemS) (ds : List D) (h : ds.length = n) : defF n k g ds = match g (ds.map some ++ List.replicate (k - n) none) with
  | .nx _ => .ok .non
  | .rt d => .ok d
  | .exc c _ => .exc c
  | _ => .stuck := by
  unfold defF bodyF startM
  rw [if_pos h, List.length_map, h]
  all_goals (cases g (List.map some ds ++ List.replicate (k - n) none) <;> rfl)
@[simp] theorem callF_eq (f : List D → R D) (ds : List D) : callF f ds = (f (stillL ds)).bind fun d => if hasTL ds = true then (if isFlat (still d) = true then .ok (still d) else .stuck) else .ok (still d) := nr rfl
@[simp] theorem mine_0 {xs : List D} {r : Sl} {k : List D → RS} : mine 0 (some (.lst true xs) :: r) k = k xs := nr rfl
@[simp] theorem mine_s {x : Option D} {r : Sl} {i : Nat} {k : List D → RS} : mine (i + 1) (x :: r) k = mine i r k := nr rfl
mutual
def lay : D → Bool
  | .tup xs => layL xs
  | .lst _ xs => layL xs
  | .fr xs => layL xs
  | .str x => PyData.strOk x
  | .non => true
  | .bl _ => true
  | .int _ => true
  | .unk => true
  | .ex _ => true
  | .fn _ => true
  | .dic _ _ => true
  | .dct _ _ _ => true
def layL : List D → Bool
  | [] => true
  | x :: xs => lay x && layL xs
end
mutual
theorem lay_py : ∀ d, PyData.canLay0 (py d) = lay d
  | .tup xs => by simp only [py, PyData.canLay0, lay, layL_py xs]
  | .lst _ xs => by simp only [py, PyData.canLay0, lay, layL_py xs]
  | .fr xs => by simp only [py, PyData.canLay0, lay, layL_py xs]
  | .str _ => by simp only [py, PyData.canLay0, lay]
  | .non => by simp only [py, PyData.canLay0, lay]
  | .bl _ => by simp only [py, PyData.canLay0, lay]
  | .int _ => by simp only [py, PyData.canLay0, lay]
  | .unk => by simp only [py, lay]; decide +kernel
  | .ex _ => by simp only [py, lay]; decide +kernel
  | .fn _ => by simp only [py, lay]; decide +kernel
  | .dic _ _ => by simp only [py, lay]; decide +kernel
  | .dct _ _ _ => by simp only [py, lay]; decide +kernel
theorem layL_py : ∀ ds, PyData.canLayAll0 (pyL ds) = layL ds
  | [] => by simp only [pyL, PyData.canLayAll0, layL]
  | x :: xs => by simp only [pyL, PyData.canLayAll0, layL, lay_py x, layL_py xs]
end
def Sh (n : Nat) (d : D) : Prop := lay d = true ∧ PyData.depth (py d) ≤ n
theorem Sh.mono {n k : Nat} {d : D} (h : Sh n d) (l : n ≤ k) : Sh k d := ⟨h.1, Nat.le_trans h.2 l⟩
theorem sh_int (n : Nat) (i : Int) : Sh n (.int i) := ⟨rfl, by simp [py, PyData.depth]⟩
theorem sh_str {n : Nat} {x : Str} (h : PyData.strOk x = true) : Sh n (.str x) := ⟨h, by simp [py, PyData.depth]⟩
theorem shL {n : Nat} : ∀ {xs : List D}, (∀ x ∈ xs, Sh n x) → layL xs = true ∧ PyData.depthAll (pyL xs) ≤ n
  | [], _ => ⟨rfl, by simp [pyL, PyData.depthAll]⟩
  | x :: xs, h => by
    obtain ⟨h1, h2⟩ := shL (xs := xs) fun y hy => h y (by simp [hy])
    obtain ⟨k1, k2⟩ := h x (by simp)
    refine ⟨by simp [layL, k1, h1], ?_⟩
    simp only [pyL, PyData.depthAll]
    omega
theorem sh_tup {n : Nat} {xs : List D} (h : ∀ x ∈ xs, Sh n x) : Sh (n + 1) (.tup xs) := by
  obtain ⟨h1, h2⟩ := shL h
  exact ⟨h1, by simp only [py, PyData.depth]; omega⟩
theorem sh_lst {n : Nat} {t : Bool} {xs : List D} (h : ∀ x ∈ xs, Sh n x) : Sh (n + 1) (.lst t xs) := by
  obtain ⟨h1, h2⟩ := shL h
  exact ⟨h1, by simp only [py, PyData.depth]; omega⟩
theorem sh_fr {n : Nat} {xs : List D} (h : ∀ x ∈ xs, Sh n x) : Sh (n + 1) (.fr xs) := by
  obtain ⟨h1, h2⟩ := shL h
  exact ⟨h1, by simp only [py, PyData.depth]; omega⟩
theorem sh_shaped {n : Nat} {d : D} (h : Sh n d) (l : n ≤ 64) : SeqAt.shaped (py d) = true := by
  unfold SeqAt.shaped
  rw [lay_py, h.1]
  simp only [Bool.true_and, decide_eq_true_eq]
  exact Nat.le_trans h.2 l
theorem eqD_ok {x y : D} (hx : Sh 64 x) (hy : Sh 64 y) : eqD x y = .ok (.bl (eqvD x y)) := by
  unfold eqD
  rw [sh_shaped hx (by omega), sh_shaped hy (by omega)]
  rfl
theorem neD_ok {x y : D} (hx : Sh 64 x) (hy : Sh 64 y) : neD x y = .ok (.bl (!eqvD x y)) := by
  unfold neD
  rw [sh_shaped hx (by omega), sh_shaped hy (by omega)]
  rfl
theorem eqv_self {x : D} (h : lay x = true) : eqvD x x = true := SeqAt.eqv_refl _ (by rw [lay_py]; exact h)
@[simp] theorem eqD_int (i j : Int) : eqD (.int i) (.int j) = .ok (.bl (decide (i = j))) := by
  rw [eqD_ok (sh_int _ _) (sh_int _ _)]
  simp only [eqvD, py, PyData.eqv]
  rw [Bool.beq_eq_decide_eq]
@[simp] theorem neD_int (i j : Int) : neD (.int i) (.int j) = .ok (.bl (!decide (i = j))) := by
  rw [neD_ok (sh_int _ _) (sh_int _ _)]
  simp only [eqvD, py, PyData.eqv]
  rw [Bool.beq_eq_decide_eq]
theorem eqD_str {x y : Str} (hx : PyData.strOk x = true) (hy : PyData.strOk y = true) : eqD (.str x) (.str y) = .ok (.bl (x == y)) := by
  rw [eqD_ok (sh_str hx) (sh_str hy)]
  simp [eqvD, py, PyData.eqv]
theorem neD_str {x y : Str} (hx : PyData.strOk x = true) (hy : PyData.strOk y = true) : neD (.str x) (.str y) = .ok (.bl (!(x == y))) := by
  rw [neD_ok (sh_str hx) (sh_str hy)]
  simp [eqvD, py, PyData.eqv]
end CT

namespace CT
open PySem PySem.Spec PyProof.Rows L2
structure Po where
  nx : Sl → Prop
  ct : Sl → Prop := fun _ => False
  bk : Sl → Prop := fun _ => False
  rt : D → Prop := fun _ => False
  ex : String → Prop := fun _ => False
def wp (r : RS) (Q : Po) : Prop := match r with
  | .nx m => Q.nx m
  | .ct m => Q.ct m
  | .bk m => Q.bk m
  | .rt d => Q.rt d
  | .exc c _ => Q.ex c
  | .stuck => False
def wpR {α : Type} (r : R α) (Q : α → Prop) (E : String → Prop := fun _ => False) : Prop := match r with
  | .ok a => Q a
  | .exc c => E c
  | .stuck => False
@[simp] theorem wpR_ok {α : Type} (a : α) (Q : α → Prop) (E) : wpR (.ok a) Q E = Q a := nr rfl
@[simp] theorem wpR_exc {α : Type} (c : String) (Q : α → Prop) (E) : wpR (.exc c) Q E = E c := nr rfl
@[simp] theorem wpR_stuck {α : Type} (Q : α → Prop) (E) : wpR .stuck Q E = False := nr rfl
@[simp] theorem wpR_bind {α β : Type} (r : R α) (k : α → R β) (Q : β → Prop) (E) : wpR (r.bind k) Q E = wpR r (fun a => wpR (k a) Q E) E := by cases r <;> rfl
theorem wpR_eq {α : Type} {r : R α} {a : α} (h : wpR r (fun x => x = a)) : r = .ok a := by
  cases r with
  | ok x => exact congrArg _ h
  | exc c => exact h.elim
  | stuck => exact h.elim
theorem wpR_ex {α : Type} {r : R α} {Q : α → Prop} (h : wpR r Q) : ∃ a, r = .ok a ∧ Q a := by
  cases r with
  | ok x => exact ⟨x, rfl, h⟩
  | exc c => exact h.elim
  | stuck => exact h.elim
section
variable {Q : Po}
@[simp] theorem wp_nx (m : Sl) : wp (.nx m) Q = Q.nx m := nr rfl
@[simp] theorem wp_ct (m : Sl) : wp (.ct m) Q = Q.ct m := nr rfl
@[simp] theorem wp_bk (m : Sl) : wp (.bk m) Q = Q.bk m := nr rfl
@[simp] theorem wp_rt (d : D) : wp (.rt d) Q = Q.rt d := nr rfl
@[simp] theorem wp_exc (c : String) (m : Sl) : wp (.exc c m) Q = Q.ex c := nr rfl
@[simp] theorem wp_stuck : wp .stuck Q = False := nr rfl
def thP (k : Sl → RS) (Q : Po) : Po := ⟨fun m => wp (k m) Q, Q.ct, Q.bk, Q.rt, Q.ex⟩
@[simp] theorem thP_nx (k : Sl → RS) (m : Sl) : (thP k Q).nx m = wp (k m) Q := nr rfl
@[simp] theorem thP_ct (k : Sl → RS) : (thP k Q).ct = Q.ct := nr rfl
@[simp] theorem thP_bk (k : Sl → RS) : (thP k Q).bk = Q.bk := nr rfl
@[simp] theorem thP_rt (k : Sl → RS) : (thP k Q).rt = Q.rt := nr rfl
@[simp] theorem thP_ex (k : Sl → RS) : (thP k Q).ex = Q.ex := nr rfl
@[simp] theorem wp_then (r : RS) (k : Sl → RS) : wp (sThen r k) Q = wp r (thP k Q) := by cases r <;> rfl
def kP {α : Type} (k : α → RS) (Q : Po) (a : α) : Prop := wp (k a) Q
@[simp] theorem kP_eq {α : Type} (k : α → RS) (a : α) : kP k Q a = wp (k a) Q := nr rfl
@[simp] theorem wp_ofR {α : Type} (m : Sl) (r : R α) (k : α → RS) : wp (ofR m r k) Q = wpR r (kP k Q) Q.ex := by cases r <;> rfl
theorem wp_imp {r : RS} {Q' : Po} (h : wp r Q) (h1 : ∀ m, Q.nx m → Q'.nx m) (h2 : ∀ m, Q.ct m → Q'.ct m) (h3 : ∀ m, Q.bk m → Q'.bk m) (h4 : ∀ d, Q.rt d → Q'.rt d) (h5 : ∀ c, Q.ex c → Q'.ex c) : wp r Q' := by
  cases r with
  | nx m => exact h1 _ h
  | ct m => exact h2 _ h
  | bk m => exact h3 _ h
  | rt m => exact h4 _ h
  | exc c m => exact h5 _ h
  | stuck => exact h
def wpG (r : R Sl) (Q : Sl → Prop) : Prop := match r with
  | .ok m => Q m
  | _ => False
@[simp] theorem wpG_ok (m : Sl) (Q : Sl → Prop) : wpG (.ok m) Q = Q m := nr rfl
@[simp] theorem wp_matchG (r : R Sl) : wp (match r with | .ok m' => RS.nx m' | _ => .stuck) Q = wpG r Q.nx := by cases r <;> rfl
@[simp] theorem wp_for_nil (g : SemG) (body : SemS) (m : Sl) : wp (forGo g body [] m) Q = Q.nx m := nr rfl
@[simp] theorem wp_for_cons (g : SemG) (body : SemS) (d : D) (ds : List D) (m : Sl) : wp (forGo g body (d :: ds) m) Q = wpG (g d m) fun m1 => wp (body m1) ⟨fun m2 => wp (forGo g body ds m2) Q, fun m2 => wp (forGo g body ds m2) Q, Q.nx, Q.rt, Q.ex⟩ := by
  simp only [forGo]
  cases g d m with
  | ok m1 => simp only [wpG_ok]; cases body m1 <;> rfl
  | exc c => rfl
  | stuck => rfl
theorem wp_for {g : SemG} {body : SemS} {ds : List D} {m : Sl} (I : Nat → Sl → Prop) (h0 : I 0 m)
    (hs : ∀ i d, ds[i]? = some d → ∀ m, I i m → wpG (g d m) fun m1 => wp (body m1) ⟨I (i + 1), I (i + 1), Q.nx, Q.rt, Q.ex⟩) (hk : ∀ m', I ds.length m' → Q.nx m') : wp (forGo g body ds m) Q := by
  have gen : ∀ (n i : Nat) (m : Sl), i + n = ds.length → I i m → wp (forGo g body (ds.drop i) m) Q := by
    intro n
    induction n with
    | zero => intro i m e h; rw [List.drop_eq_nil_of_le (by omega)]; rw [show i = ds.length by omega] at h; exact hk m h
    | succ n ih =>
      intro i m e h
      have hi : i < ds.length := by omega
      rw [List.drop_eq_getElem_cons hi, wp_for_cons]
      have := hs i ds[i] (by simp [hi]) m h
      cases hg : g ds[i] m with
      | ok m1 =>
        rw [hg] at this
        exact wp_imp this (fun m2 z => ih (i + 1) m2 (by omega) z) (fun m2 z => ih (i + 1) m2 (by omega) z) (fun _ z => z) (fun _ z => z) (fun _ z => z)
      | exc c => rw [hg] at this; exact this
      | stuck => rw [hg] at this; exact this
  exact gen ds.length 0 m (by omega) h0
theorem wp_rng {g : SemG} {body : SemS} {lo : Int} {n : Nat} {m : Sl} (I : Nat → Sl → Prop) (h0 : I 0 m)
    (hs : ∀ i, i < n → ∀ m, I i m → wpG (g (.int (lo + (i : Nat))) m) fun m1 => wp (body m1) ⟨I (i + 1), I (i + 1), Q.nx, Q.rt, Q.ex⟩) (hk : ∀ m', I n m' → Q.nx m') : wp (forGo g body (rng lo n) m) Q :=
  wp_for I h0 (fun i d e m h => by
    obtain ⟨h1, h2⟩ := List.getElem?_eq_some_iff.mp e
    rw [rng_length] at h1
    rw [rng_get lo n i h1] at e
    cases e
    exact hs i h1 m h) (fun m' h => hk m' (by rw [rng_length] at h; exact h))
theorem wp_map {α : Type} {enc : α → D} {xs : List α} {g : SemG} {body : SemS} {m : Sl} (I : Nat → Sl → Prop) (h0 : I 0 m)
    (hs : ∀ i a, xs[i]? = some a → ∀ m, I i m → wpG (g (enc a) m) fun m1 => wp (body m1) ⟨I (i + 1), I (i + 1), Q.nx, Q.rt, Q.ex⟩) (hk : ∀ m', I xs.length m' → Q.nx m') : wp (forGo g body (xs.map enc) m) Q :=
  wp_for I h0 (fun i d e m h => by
    rw [List.getElem?_map] at e
    cases hx : xs[i]? with
    | none => rw [hx] at e; cases e
    | some a => rw [hx] at e; cases e; exact hs i a hx m h) (fun m' h => hk m' (by rw [List.length_map] at h; exact h))
theorem wp_each {α : Type} {enc : α → D} {xs : List α} {g : SemG} {body : SemS} {m : Sl} (I : Sl → Prop) (h0 : I m)
    (hs : ∀ a ∈ xs, ∀ m, I m → wpG (g (enc a) m) fun m1 => wp (body m1) ⟨I, I, Q.nx, Q.rt, Q.ex⟩) (hk : ∀ m', I m' → Q.nx m') : wp (forGo g body (xs.map enc) m) Q :=
  wp_map (fun _ => I) h0 (fun i a e m h => hs a (List.mem_of_getElem? e) m h) hk
theorem wp_while {t : SemT} {body : SemS} {m : Sl} (I : Nat → Sl → Prop) (n : Nat) (h0 : I n m)
    (hs : ∀ n m, I n m → ∃ c, t m = .ok c ∧ (c = true → wp (body m) ⟨fun m' => ∃ k, k < n ∧ I k m', fun m' => ∃ k, k < n ∧ I k m', Q.nx, Q.rt, Q.ex⟩) ∧ (c = false → Q.nx m)) : wp (sWhile t body m) Q := by
  have gen : ∀ (n : Nat) (m : Sl), I n m → ∃ k, wp (whN t body k m) Q := by
    intro n
    induction n using Nat.strongRecOn with
    | ind n ih =>
      intro m h
      obtain ⟨c, h1, h2, h3⟩ := hs n m h
      cases c with
      | false => exact ⟨1, by simp only [whN, h1, ofR_ok]; exact h3 rfl⟩
      | true =>
        have h2 := h2 rfl
        cases hb : body m with
        | nx m2 =>
          rw [hb] at h2
          obtain ⟨k, hk, hI⟩ := h2
          obtain ⟨j, hj⟩ := ih k hk m2 hI
          exact ⟨j + 1, by simp only [whN, h1, ofR_ok, if_true, hb]; exact hj⟩
        | ct m2 =>
          rw [hb] at h2
          obtain ⟨k, hk, hI⟩ := h2
          obtain ⟨j, hj⟩ := ih k hk m2 hI
          exact ⟨j + 1, by simp only [whN, h1, ofR_ok, if_true, hb]; exact hj⟩
        | bk m2 => rw [hb] at h2; exact ⟨1, by simp only [whN, h1, ofR_ok, if_true, hb]; exact h2⟩
        | rt d => rw [hb] at h2; exact ⟨1, by simp only [whN, h1, ofR_ok, if_true, hb]; exact h2⟩
        | exc c m2 => rw [hb] at h2; exact ⟨1, by simp only [whN, h1, ofR_ok, if_true, hb]; exact h2⟩
        | stuck => rw [hb] at h2; exact h2.elim
  obtain ⟨k, hk⟩ := gen n m h0
  have hne : whN t body k m ≠ .stuck := fun e => by rw [e] at hk; exact hk
  rw [sWhile_of rfl hne]
  exact hk
end
def fin (r : RS) : R D := match r with
  | .nx _ => .ok .non
  | .rt d => .ok d
  | .exc c _ => .exc c
  | _ => .stuck
theorem def_run {n k : Nat} {g : SemS} {ds : List D} {Q : D → Prop} {E : String → Prop} (h : ds.length = n) (w : wp (g (ds.map some ++ List.replicate (k - n) none)) ⟨fun _ => Q .non, fun _ => False, fun _ => False, Q, E⟩) : wpR (defF n k g ds) Q E := by
  rw [defF_eq _ _ _ _ h]
  cases hg : g (List.map some ds ++ List.replicate (k - n) none) <;> rw [hg] at w <;> exact w
theorem def_ok1 {n k : Nat} {g : SemS} {ds : List D} {d : D} (h : ds.length = n) (w : wp (g (ds.map some ++ List.replicate (k - n) none)) ⟨fun _ => D.non = d, fun _ => False, fun _ => False, fun x => x = d, fun _ => False⟩) : defF n k g ds = .ok d :=
  wpR_eq (def_run h w)
theorem def_ex1 {n k : Nat} {g : SemS} {ds : List D} {c : String} (h : ds.length = n) (w : wp (g (ds.map some ++ List.replicate (k - n) none)) ⟨fun _ => False, fun _ => False, fun _ => False, fun _ => False, fun x => x = c⟩) : defF n k g ds = .exc c := by
  have := def_run (Q := fun _ => False) (E := fun x => x = c) h w
  cases hd : defF n k g ds with
  | ok x => rw [hd] at this; exact this.elim
  | exc e => rw [hd] at this; exact congrArg _ this
  | stuck => rw [hd] at this; exact this.elim
@[simp] theorem rng1_int {j : Int} (h : -(2 ^ 62) ≤ j ∧ j < 2 ^ 62) : rng1 [.int j] = .ok (rng 0 j.toNat) := by simp only [rng1]; rw [if_pos h]
@[simp] theorem rng2_int {i j : Int} (h : -(2 ^ 62) ≤ i ∧ i < 2 ^ 62 ∧ -(2 ^ 62) ≤ j ∧ j < 2 ^ 62) : rng2 [.int i, .int j] = .ok (rng i (j - i).toNat) := by simp only [rng2]; rw [if_pos h]
@[simp] theorem itemsN_lst {xs : List D} {s : Bool} (h : hasTL xs = false) : itemsN s (.lst false xs) = .ok xs := by simp [itemsN, items, h]
@[simp] theorem itemsN_tup {xs : List D} {s : Bool} (h : hasTL xs = false) : itemsN s (.tup xs) = .ok xs := by simp [itemsN, items, h]
@[simp] theorem itemsN_own {xs : List D} {t : Bool} : itemsN false (.lst t xs) = .ok xs := by simp [itemsN, items]
theorem powD_lit {i j : Int} (h : 0 ≤ j ∧ (Builtin.Int.intBits i : Int) * j ≤ 2 ^ 27) : powD (.int i) (.int j) = .ok (.int (i ^ j.toNat)) := by simp only [powD]; rw [if_pos h]
@[simp] theorem pow10_18 : powD (.int 10) (.int 18) = .ok (.int 1000000000000000000) := by rw [powD_lit (by decide +kernel)]; rfl
@[simp] theorem pow10_6 : powD (.int 10) (.int 6) = .ok (.int 1000000) := by rw [powD_lit (by decide +kernel)]; rfl
end CT

namespace CT
open PySem PySem.Spec PyProof.Rows L2
def wpX {α : Type} (r : R (α × Sl)) (P : α → Sl → Prop) : Prop := match r with
  | .ok (a, m) => P a m
  | _ => False
@[simp] theorem wpX_ok {α : Type} (a : α) (m : Sl) (P : α → Sl → Prop) : wpX (.ok (a, m)) P = P a m := nr rfl
@[simp] theorem wpX_stuck {α : Type} (P : α → Sl → Prop) : wpX (.stuck : R (α × Sl)) P = False := nr rfl
@[simp] theorem wpX_bind {α β : Type} (r : R (α × Sl)) (k : α → Sl → R (β × Sl)) (P : β → Sl → Prop) : wpX (bindX r k) P = wpX r fun a m => wpX (k a m) P := by
  cases r with
  | ok a => rfl
  | exc c => rfl
  | stuck => rfl
@[simp] theorem wpX_okX (r : R D) (m : Sl) (P : D → Sl → Prop) : wpX (okX r m) P = wpR r fun d => hasT d = false ∧ P d m := by
  cases r with
  | ok d => simp only [okX, wpR_ok]; cases h : hasT d <;> simp
  | exc c => rfl
  | stuck => rfl
theorem wpX_of {α : Type} {r : R (α × Sl)} {a : α} {m : Sl} {P : α → Sl → Prop} (e : r = .ok (a, m)) (h : P a m) : wpX r P := by subst e; exact h
section
variable {Q : Po} {f g : SemX} {h : SemXA} {t u : SemXT} {m : Sl} {i : Nat}
@[simp] theorem wp_ofX {α : Type} (r : R (α × Sl)) (k : α → Sl → RS) : wp (ofX r k) Q = wpX r fun a m => wp (k a m) Q := by
  cases r with
  | ok a => rfl
  | exc c => rfl
  | stuck => rfl
@[simp] theorem xOf_eq (f : SemE) (m : Sl) : xOf f m = okX (f m) m := nr rfl
@[simp] theorem x2_eq (op : D → D → R D) (f g : SemX) (m : Sl) : x2 op f g m = bindX (f m) fun x m1 => bindX (g m1) fun y m2 => okX (op x y) m2 := nr rfl
@[simp] theorem xA_eq (op : List D → R D) (h : SemXA) (m : Sl) : xA op h m = bindX (h m) fun xs m1 => okX (op xs) m1 := nr rfl
@[simp] theorem xaNil_eq (m : Sl) : xaNil m = .ok ([], m) := nr rfl
@[simp] theorem xaCons_eq (f : SemX) (g : SemXA) (m : Sl) : xaCons f g m = bindX (f m) fun x m1 => bindX (g m1) fun xs m2 => .ok (x :: xs, m2) := nr rfl
@[simp] theorem xtYes_eq (m : Sl) : xtYes m = .ok (true, m) := nr rfl
@[simp] theorem wpX_xtOf (P : Bool → Sl → Prop) : wpX (xtOf f m) P = wpX (f m) fun x m1 => match x with
    | .bl c => P c m1
    | _ => False := by
  unfold xtOf
  rw [wpX_bind]
  congr 1
  funext x m1
  cases x <;> rfl
@[simp] theorem wpX_xtPure (t : SemT) (P : Bool → Sl → Prop) : wpX (xtPure t m) P = wpR (t m) fun c => P c m := by
  unfold xtPure
  cases t m <;> rfl
@[simp] theorem xtAnd_eq (m : Sl) : xtAnd t u m = bindX (t m) fun c m1 => if c = true then u m1 else .ok (false, m1) := nr rfl
@[simp] theorem xtNot_eq (m : Sl) : xtNot t m = bindX (t m) fun c m1 => .ok (!c, m1) := nr rfl
@[simp] theorem wpX_ite {α : Type} {c : Bool} (a b : R (α × Sl)) (P : α → Sl → Prop) : wpX (if c = true then a else b) P = if c = true then wpX a P else wpX b P := by cases c <;> rfl
@[simp] theorem wpX_xiOf (k : SemA) (P : List D → Sl → Prop) : wpX (xiOf k m) P = wpR (k m) fun ds => P ds m := by
  unfold xiOf
  cases k m <;> rfl
@[simp] theorem wpX_xThen (k : List D → R (List D)) (P : List D → Sl → Prop) : wpX (xThen h k m) P = wpX (h m) fun xs m1 => wpR (k xs) fun ys => P ys m1 := by
  unfold xThen
  rw [wpX_bind]
  congr 1
  funext xs m1
  cases k xs <;> rfl
@[simp] theorem sSetX_eq (m : Sl) : sSetX i f m = ofX (f m) fun d m1 => .nx (m1.set i (some d)) := nr rfl
@[simp] theorem sIfX_eq (a b : SemS) (m : Sl) : sIfX t a b m = ofX (t m) fun c m1 => if c = true then a m1 else b m1 := nr rfl
@[simp] theorem sForX_eq (k : SemG) (body : SemS) (m : Sl) : sForX h k body m = ofX (h m) fun ds m1 => forGo k body ds m1 := nr rfl
end
def wpB (r : RB) (P : D → Sl → Prop) : Prop := match r with
  | .rt d m => P d m
  | .stuck => False
section
variable {P : D → Sl → Prop} {m : Sl}
@[simp] theorem wpB_rt (d : D) (m : Sl) : wpB (.rt d m) P = P d m := nr rfl
@[simp] theorem wpB_stuck : wpB .stuck P = False := nr rfl
theorem wpB_seq (g : SemS) (h : SemB) : wpB (bSeq g h m) P = wp (g m) ⟨fun m1 => wpB (h m1) P, fun _ => False, fun _ => False, fun _ => False, fun _ => False⟩ := by
  unfold bSeq
  cases g m <;> rfl
@[simp] theorem wpB_retX (f : SemX) : wpB (bRetX f m) P = wpX (f m) P := by
  unfold bRetX
  cases f m with
  | ok a => rfl
  | exc c => rfl
  | stuck => rfl
@[simp] theorem wpB_ret (f : SemE) : wpB (bRet f m) P = wpR (f m) fun d => hasT d = false ∧ P d m := by
  unfold bRet
  cases f m with
  | ok d => simp only [wpR_ok]; cases hd : hasT d <;> simp
  | exc c => rfl
  | stuck => rfl
theorem wpB_if (t : SemT) (a b : SemB) : wpB (bIf t a b m) P = wpR (t m) fun c => if c = true then wpB (a m) P else wpB (b m) P := by
  unfold bIf
  cases t m with
  | ok c => cases c <;> rfl
  | exc c => rfl
  | stuck => rfl
theorem wpB_ifX (t : SemXT) (a b : SemB) : wpB (bIfX t a b m) P = wpX (t m) fun c m1 => if c = true then wpB (a m1) P else wpB (b m1) P := by
  unfold bIfX
  cases t m with
  | ok c => obtain ⟨c, m1⟩ := c; cases c <;> rfl
  | exc c => rfl
  | stuck => rfl
theorem defL_run {n k : Nat} {g : SemB} {a : Addr} {xs ds : List D} {P : D → List D → Prop} (hn : (lentD (some a) xs :: ds).length = n)
    (h : wpB (g ((lentD (some a) xs :: ds).map some ++ List.replicate (k - n) none)) fun d m => ∃ ys, m[0]? = some (some (lentD (some a) ys)) ∧ P d ys) :
    ∃ d ys, defL n k g (lentD (some a) xs :: ds) = .ok (d, some (lentD (some a) ys)) ∧ P d ys := by
  unfold defL
  rw [if_pos hn]
  cases hg : g ((lentD (some a) xs :: ds).map some ++ List.replicate (k - n) none) with
  | stuck => rw [hg] at h; exact h.elim
  | rt d m =>
    rw [hg] at h
    obtain ⟨ys, h1, h2⟩ := h
    exact ⟨d, ys, by simp only; rw [h1]; rfl, h2⟩
end
end CT

namespace CK
open PySem PySem.Spec PyProof.Rows L2 CT
inductive Part where
  | wheel (z : Int) (ms : List Int) | click | rocker | spring (k : Int)
  deriving DecidableEq
def encP : Part → D
  | .wheel z ms => .tup [.str "wheel", .int z, .tup (ms.map .int)]
  | .click => .tup [.str "click"]
  | .rocker => .tup [.str "rocker"]
  | .spring k => .tup [.str "spring", .int k]
def nplaces : Part → Int
  | .wheel z _ => z
  | .click => 1
  | .rocker => 2
  | .spring k => k
def PartOk : Part → Prop
  | .wheel z ms => 1 ≤ z ∧ z < 2 ^ 2000 ∧ ms.length ≤ 1000000 ∧ (∀ m ∈ ms, 0 ≤ m ∧ m < z) ∧ ms.Pairwise (· < ·)
  | .click => True
  | .rocker => True
  | .spring k => 1 ≤ k ∧ k < 2 ^ 2000
@[simp] theorem s_ww : eqD (.str "wheel") (.str "wheel") = .ok (.bl true) := by rw [eqD_str (by decide +kernel) (by decide +kernel)]; congr 2
@[simp] theorem s_cw : eqD (.str "click") (.str "wheel") = .ok (.bl false) := by rw [eqD_str (by decide +kernel) (by decide +kernel)]; congr 2
@[simp] theorem s_rw : eqD (.str "rocker") (.str "wheel") = .ok (.bl false) := by rw [eqD_str (by decide +kernel) (by decide +kernel)]; congr 2
@[simp] theorem s_sw : eqD (.str "spring") (.str "wheel") = .ok (.bl false) := by rw [eqD_str (by decide +kernel) (by decide +kernel)]; congr 2
@[simp] theorem s_cc : eqD (.str "click") (.str "click") = .ok (.bl true) := by rw [eqD_str (by decide +kernel) (by decide +kernel)]; congr 2
@[simp] theorem s_rc : eqD (.str "rocker") (.str "click") = .ok (.bl false) := by rw [eqD_str (by decide +kernel) (by decide +kernel)]; congr 2
@[simp] theorem s_sc : eqD (.str "spring") (.str "click") = .ok (.bl false) := by rw [eqD_str (by decide +kernel) (by decide +kernel)]; congr 2
@[simp] theorem s_rr : eqD (.str "rocker") (.str "rocker") = .ok (.bl true) := by rw [eqD_str (by decide +kernel) (by decide +kernel)]; congr 2
@[simp] theorem s_sr : eqD (.str "spring") (.str "rocker") = .ok (.bl false) := by rw [eqD_str (by decide +kernel) (by decide +kernel)]; congr 2
@[simp] theorem s_cr : eqD (.str "click") (.str "rocker") = .ok (.bl false) := by rw [eqD_str (by decide +kernel) (by decide +kernel)]; congr 2
@[simp] theorem hasT_encP (q : Part) : hasT (encP q) = false := by cases q <;> simp [encP]
@[simp] theorem still_encP (q : Part) : still (encP q) = encP q := by cases q <;> simp [encP]
@[simp] theorem hasTL_encP (l : List Part) : hasTL (l.map encP) = false := hasTL_map hasT_encP l
@[simp] theorem stillL_encP (l : List Part) : stillL (l.map encP) = l.map encP := stillL_map still_encP l
theorem atI_of {α : Type} {xs : List α} {i : Nat} {x : α} (h : xs[i]? = some x) : atI xs (i : Int) = some x := by
  obtain ⟨h1, _⟩ := List.getElem?_eq_some_iff.mp h
  unfold atI ixN
  rw [if_pos (by omega), if_pos (by omega)]
  simpa using h
theorem ixD_tup {xs : List D} {i : Nat} {x : D} (h : xs[i]? = some x) : ixD (.tup xs) (.int (i : Int)) = .ok x := by
  simp only [ixD]; rw [atI_of h]
theorem ixD_lst {t : Bool} {xs : List D} {i : Nat} {x : D} (h : xs[i]? = some x) : ixD (.lst t xs) (.int (i : Int)) = .ok x := by
  simp only [ixD]; rw [atI_of h]
@[simp] theorem ixD_0 (x : D) (r : List D) : ixD (.tup (x :: r)) (.int 0) = .ok x := ixD_tup (i := 0) rfl
@[simp] theorem ixD_1 (x y : D) (r : List D) : ixD (.tup (x :: y :: r)) (.int 1) = .ok y := ixD_tup (i := 1) rfl
@[simp] theorem ixD_2 (x y z : D) (r : List D) : ixD (.tup (x :: y :: z :: r)) (.int 2) = .ok z := ixD_tup (i := 2) rfl
@[simp] theorem ixD_l0 (t : Bool) (x : D) (r : List D) : ixD (.lst t (x :: r)) (.int 0) = .ok x := ixD_lst (i := 0) rfl
@[simp] theorem ixD_l1 (t : Bool) (x y : D) (r : List D) : ixD (.lst t (x :: y :: r)) (.int 1) = .ok y := ixD_lst (i := 1) rfl
theorem lcGo_map {α : Type} (enc : α → D) {g : SemG} {t : SemT} {f : SemE} {m : Sl} (c : α → Bool) (x : α → D) : ∀ xs : List α,
    (∀ a ∈ xs, ∃ m1, g (enc a) m = .ok m1 ∧ t m1 = .ok (c a) ∧ (c a = true → f m1 = .ok (x a) ∧ hasT (x a) = false)) → lcGo g t f m (xs.map enc) = .ok ((xs.filter c).map x)
  | [], _ => rfl
  | a :: xs, h => by
    obtain ⟨m1, h1, h2, h3⟩ := h a (by simp)
    have ih := lcGo_map enc (g := g) (t := t) (f := f) (m := m) c x xs fun b hb => h b (by simp [hb])
    rw [List.map_cons, lcGo, h1]
    simp only [nox, CT.R.bind_ok, h2]
    cases hc : c a with
    | false => simp [hc, ih]
    | true =>
      obtain ⟨k1, k2⟩ := h3 hc
      simp [hc, k1, k2, ih, nox]
def metN (z p n : Int) (ms : List Int) : Int := n / z * ms.length + ((ms.filter fun m => decide (0 < (m - p - 1) % z + 1) && decide ((m - p - 1) % z + 1 ≤ n % z)).length : Nat)
def leftN (z p n : Int) (ms : List Int) : Int := n / z * ms.length + ((ms.filter fun m => decide ((p - m) % z < n % z)).length : Nat)
theorem divOk_z {z : Int} (h1 : 1 ≤ z) (h2 : z < 2 ^ 2000) : divOk z := by
  refine .inr ⟨by omega, ?_⟩
  have h : z.natAbs < 2 ^ 2000 := by omega
  exact Nat.lt_of_lt_of_le (PySem.Flt.log2_lt_of (by decide) h) (by decide)
theorem filt_small {α : Type} {l : List α} {n : Nat} (c : α → Bool) (x : α → D) (h : l.length ≤ n) (hn : n ≤ 16777216) : ((l.filter c).map x).length ≤ sizeLine := by
  rw [List.length_map]
  exact small (by have := List.length_filter_le c l; omega)
theorem r_marks_met (z p n : Int) (ms : List Int) (h : PartOk (.wheel z ms)) : s_marks_met [encP (.wheel z ms), .int p, .int n] = .ok (.int (metN z p n ms)) := by
  obtain ⟨h1, h2, h3, h4, h5⟩ := h
  have e := lcGo_map D.int (g := putR 6) (t := tOf (eChain ltD leD (eC (.int 0)) (e2 addD (e2 modD (e2 subD (e2 subD (eVar 6) (eVar 1)) (eC (.int 1))) (eVar 3)) (eC (.int 1))) (eVar 5))) (f := eVar 6)
    (m := [some (encP (.wheel z ms)), some (.int p), some (.int n), some (.int z), some (.int (n / z * ms.length)), some (.int (n % z)), none]) (fun m => decide (0 < (m - p - 1) % z + 1) && decide ((m - p - 1) % z + 1 ≤ n % z)) D.int ms
    (fun a _ => by
      refine ⟨[some (encP (.wheel z ms)), some (.int p), some (.int n), some (.int z), some (.int (n / z * ms.length)), some (.int (n % z)), some (.int a)], by simp, ?_, fun _ => by simp⟩
      simp [modD_ok (show 0 < z by omega)]
      by_cases hc : 0 < (a - p - 1) % z + 1 <;> simp [hc])
  unfold s_marks_met
  rw [defF_eq _ _ _ _ (by rfl)]
  simp [encP, divD_ok (show 0 < z by omega) (divOk_z h1 h2), modD_ok (show 0 < z by omega), mulD_r (i := n / z) (j := (ms.length : Int)) (by omega), itemsN, items]
  simp [encP] at e
  rw [e, CT.R.bind_ok, if_pos (filt_small _ _ h3 (by decide))]
  simp [metN]
theorem r_marks_left (z p n : Int) (ms : List Int) (h : PartOk (.wheel z ms)) : s_marks_left [encP (.wheel z ms), .int p, .int n] = .ok (.int (leftN z p n ms)) := by
  obtain ⟨h1, h2, h3, h4, h5⟩ := h
  have e := lcGo_map D.int (g := putR 6) (t := tOf (e2 ltD (e2 modD (e2 subD (eVar 1) (eVar 6)) (eVar 3)) (eVar 5))) (f := eVar 6)
    (m := [some (encP (.wheel z ms)), some (.int p), some (.int n), some (.int z), some (.int (n / z * ms.length)), some (.int (n % z)), none]) (fun m => decide ((p - m) % z < n % z)) D.int ms
    (fun a _ => by
      refine ⟨[some (encP (.wheel z ms)), some (.int p), some (.int n), some (.int z), some (.int (n / z * ms.length)), some (.int (n % z)), some (.int a)], by simp, ?_, fun _ => by simp⟩
      simp [modD_ok (show 0 < z by omega)])
  unfold s_marks_left
  rw [defF_eq _ _ _ _ (by rfl)]
  simp [encP, divD_ok (show 0 < z by omega) (divOk_z h1 h2), modD_ok (show 0 < z by omega), mulD_r (i := n / z) (j := (ms.length : Int)) (by omega), itemsN, items]
  simp [encP] at e
  rw [e, CT.R.bind_ok, if_pos (filt_small _ _ h3 (by decide))]
  simp [leftN]
def pushP : Part → Int → Int → Int → Int × Int
  | .wheel z ms, p, w, n => ((p + w * n) % z, if w = 1 then metN z p n ms else leftN z p n ms)
  | .click, _, w, n => (0, n * if w = 1 then 1 else 0)
  | .rocker, p, w, n => if n = 0 then (p, 0) else (if w = 1 then 1 else 0, if w = 1 ∧ p = 0 then 1 else 0)
  | .spring k, p, w, n => if w = 1 then ((p + n) % k, (p + n) / k) else (if 0 < p - n then p - n else 0, 0)
def encI2 (x : Int × Int) : D := .tup [.int x.1, .int x.2]
theorem r_part_pushed (q : Part) (p w n : Int) (h : PartOk q) (hw : w = 1 ∨ w = -1) : s_part_pushed [encP q, .int p, .int w, .int n] = .ok (encI2 (pushP q p w n)) := by
  unfold s_part_pushed
  rw [defF_eq _ _ _ _ (by rfl)]
  have hm : mulD (.int w) (.int n) = .ok (.int (w * n)) := mulD_l (by omega)
  cases q with
  | wheel z ms =>
    have e1 := r_marks_left z p n ms h
    have e2 := r_marks_met z p n ms h
    obtain ⟨h1, h2, h3, h4, h5⟩ := h
    simp only [encP] at e1 e2
    rcases hw with rfl | rfl
    · simp [encP, e1, e2, hm, modD_ok (show 0 < z by omega), pushP, encI2]
    · simp [encP, e1, e2, hm, modD_ok (show 0 < z by omega), pushP, encI2]
  | click =>
    rcases hw with rfl | rfl
    · simp [encP, mulD_r (i := n) (j := 1) (by omega), pushP, encI2]
    · simp [encP, mulD_r (i := n) (j := 0) (by omega), pushP, encI2]
  | rocker =>
    rcases hw with rfl | rfl
    · by_cases hn : n = 0
      · simp [encP, pushP, encI2, hn]
      · by_cases hp : p = 0 <;> simp [encP, pushP, encI2, hn, hp]
    · by_cases hn : n = 0 <;> simp [encP, pushP, encI2, hn]
  | spring k =>
    obtain ⟨h1, h2⟩ := h
    rcases hw with rfl | rfl
    · simp [encP, modD_ok (show 0 < k by omega), divD_ok (show 0 < k by omega) (divOk_z h1 h2), pushP, encI2]
    · simp [encP, pushP, encI2]
end CK

namespace CK
open PySem PySem.Spec PyProof.Rows L2 CT
@[simp] theorem pow_60 : powD (.int 10) (.int 60) = .ok (.int 1000000000000000000000000000000000000000000000000000000000000) := by rw [powD_lit (by decide +kernel)]; rfl
theorem filt_true {α : Type} (l : List α) : l.filter (fun _ => true) = l := List.filter_eq_self.mpr (fun _ _ => rfl)
theorem lcGo_map1 {α : Type} (enc : α → D) {g : SemG} {f : SemE} {m : Sl} (x : α → D) (xs : List α)
    (h : ∀ a ∈ xs, ∃ m1, g (enc a) m = .ok m1 ∧ f m1 = .ok (x a) ∧ hasT (x a) = false) : lcGo g tYesM f m (xs.map enc) = .ok (xs.map x) := by
  rw [lcGo_map enc (fun _ => true) x xs fun a ha => ?_, filt_true]
  obtain ⟨m1, h1, h2, h3⟩ := h a ha
  exact ⟨m1, h1, rfl, fun _ => ⟨h2, h3⟩⟩
end CK

namespace CK
open PySem PySem.Spec PyProof.Rows L2 CT
def Dr (n : Nat) (xs : List D) : Prop := ∃ (a k : Int) (c : Bool), xs = [.int a, .int k, .bl c] ∧ 0 ≤ k ∧ k ≤ n
theorem eLk0 (o : Nat) (xs : List D) (m : Sl) (k : Nat) : eLk 0 k (some (lentD (some o) xs) :: m) = match xs[k]? with
  | some d => .ok d
  | none => .stuck := rfl
theorem subLR0 (o : Nat) (xs : List D) (m : Sl) (k : Nat) (d : D) : subLR 0 k d (some (lentD (some o) xs) :: m) = if hasT d = true then .stuck else if k < xs.length then .ok (some (lentD (some o) (xs.set k d)) :: m) else .stuck := rfl
theorem r_next {n : Nat} {xs : List D} (h : Dr n xs) (hn : n ≤ 1000000) (a : Nat) :
    ∃ v ys, s_law_next [lentD (some a) xs] = .ok (v, some (lentD (some a) ys)) ∧ (∃ i : Int, v = .int i ∧ 0 ≤ i) ∧ Dr (n + 1) ys := by
  obtain ⟨x, k, c, rfl, hk, hk2⟩ := h
  have p6 : powD (.int 10) (.int 6) = .ok (.int 1000000) := by rw [powD_lit (by decide +kernel)]; rfl
  unfold s_law_next
  refine defL_run rfl ?_
  have e : (List.map some [lentD (some a) [.int x, .int k, .bl c]] ++ List.replicate (3 - 1) none : Sl) = [some (lentD (some a) [.int x, .int k, .bl c]), none, none] := rfl
  rw [e]
  cases c
  · simp (disch := first | omega | (simp; done) | fail) [wpB_seq, wpB_if, eLk0, subLR0, p6, modD_ok, divD_s, mulD_l, mulD_r]
    refine ⟨_, rfl, ?_, ⟨x, k + 1, false, rfl, by omega, by omega⟩⟩
    have := Int.emod_nonneg ((((x % 1000003 + (k + 1) * (k + 1) * 7919 + (k + 1)) * 48271 % 2147483629) * ((x % 1000003 + (k + 1) * (k + 1) * 7919 + (k + 1)) * 48271 % 2147483629) % 2147483587) * ((((x % 1000003 + (k + 1) * (k + 1) * 7919 + (k + 1)) * 48271 % 2147483629) * ((x % 1000003 + (k + 1) * (k + 1) * 7919 + (k + 1)) * 48271 % 2147483629) % 2147483587) + 2)) (show (2147483579 : Int) ≠ 0 by omega)
    omega
  · simp (disch := first | omega | (simp; done) | fail) [wpB_seq, wpB_if, eLk0, subLR0, p6, modD_ok, divD_s]
    exact ⟨_, rfl, by omega, ⟨x / 1000000, k + 1, true, rfl, by omega, by omega⟩⟩
def callX (i : Nat) (f : List D → R (D × Option D)) (ds : List D) (m1 : Sl) : R (D × Sl) := match m1[i]? with
    | some (some (.dct ⟨some a, true, true⟩ _ xs)) => (match f (lentD (some a) xs :: ds) with
      | .ok (d, some (.dct ⟨some c, true, true⟩ ks ys)) => if hasT d = false ∧ c = a ∧ ks = noK ys then .ok (d, m1.set i (some (lentD (some a) ys))) else .stuck
      | _ => .stuck)
    | _ => .stuck
@[simp] theorem xCallL_0 (f : List D → R (D × Option D)) (h : SemXA) (o : Option Nat) (xs : List D) (m : Sl) : xCallL 0 f h (some (lentD o xs) :: m) = bindX (h (some (lentD o xs) :: m)) fun ds m1 => callX 0 f ds m1 := nr rfl
theorem callX_eq {f : List D → R (D × Option D)} {ds xs ys : List D} {m : Sl} {a : Nat} {d : D} (e : f (lentD (some a) xs :: ds) = .ok (d, some (lentD (some a) ys))) (n : hasT d = false) :
    callX 0 f ds (some (lentD (some a) xs) :: m) = .ok (d, some (lentD (some a) ys) :: m) := by
  show (match f (lentD (some a) xs :: ds) with
      | .ok (d, some (.dct ⟨some c, true, true⟩ ks ys)) => if hasT d = false ∧ c = a ∧ ks = noK ys then R.ok (d, (some (lentD (some a) xs) :: m).set 0 (some (lentD (some a) ys))) else .stuck
      | _ => .stuck) = _
  rw [e]
  exact if_pos ⟨n, rfl, rfl⟩
theorem wpX_callX {f : List D → R (D × Option D)} {ds xs : List D} {m : Sl} {a : Nat} {P : D → Sl → Prop} {S : D → List D → Prop} (h : ∃ d ys, f (lentD (some a) xs :: ds) = .ok (d, some (lentD (some a) ys)) ∧ S d ys)
    (k : ∀ d ys, S d ys → hasT d = false ∧ P d (some (lentD (some a) ys) :: m)) : wpX (callX 0 f ds (some (lentD (some a) xs) :: m)) P := by
  obtain ⟨d, ys, e, s⟩ := h
  obtain ⟨k1, k2⟩ := k d ys s
  exact wpX_of (callX_eq e k1) k2
theorem wpX_next {n : Nat} {xs : List D} {m : Sl} {a : Nat} {P : D → Sl → Prop} (h : Dr n xs) (hn : n ≤ 1000000) (k : ∀ (i : Int) ys, 0 ≤ i → Dr (n + 1) ys → P (.int i) (some (lentD (some a) ys) :: m)) : wpX (callX 0 s_law_next [] (some (lentD (some a) xs) :: m)) P :=
  wpX_callX (r_next h hn a) fun d ys ⟨⟨i, e, hi⟩, hd⟩ => by subst e; exact ⟨rfl, k i ys hi hd⟩
theorem r_far_2 {n : Nat} {xs : List D} (h : Dr n xs) (hn : n ≤ 900000) (a : Nat) (most : Int) (hm : 0 < most) :
    ∃ v ys, s_law_far_2 [lentD (some a) xs, .int most] = .ok (v, some (lentD (some a) ys)) ∧ (∃ i : Int, v = .int i ∧ 0 ≤ i ∧ i < most) ∧ Dr (n + 100) ys := by
  have p6 : powD (.int 10) (.int 6) = .ok (.int 1000000) := by rw [powD_lit (by decide +kernel)]; rfl
  unfold s_law_far_2
  refine defL_run rfl ?_
  have e : (List.map some [lentD (some a) xs, .int most] ++ List.replicate (4 - 2) none : Sl) = [some (lentD (some a) xs), some (.int most), none, none] := rfl
  rw [e]
  simp (disch := first | omega | (simp; done) | fail) [wpB_seq]
  refine wpX_next h (by omega) fun i ys hi hd => ?_
  obtain ⟨k, hk⟩ : ∃ k : Nat, i % 8 = (k : Int) := Int.eq_ofNat_of_zero_le (by omega)
  have hk8 : k < 8 := by omega
  have er : rng1 [.int (k : Int)] = .ok (rng 0 k) := by rw [rng1_int ⟨by omega, by omega⟩]; simp
  simp (disch := first | omega | (simp; done) | fail) [modD_ok, hk, er, -rng1_int, -wp_for_cons, -wp_for_nil]
  obtain ⟨J, hJ⟩ : ∃ J : Nat → Sl → Prop, J = fun j m => ∃ (zs : List D) (t : Int) (x3 : Option D), Dr (n + 1 + j) zs ∧ 0 ≤ t ∧ t < 1000000 ^ j ∧ m = [some (lentD (some a) zs), some (.int most), some (.int t), x3] := ⟨_, rfl⟩
  refine wp_rng J ?_ (fun j hj m hm => ?_) (fun m hm => ?_)
  · rw [hJ]; exact ⟨ys, 0, none, hd, by omega, by simp, rfl⟩
  · rw [hJ] at hm
    obtain ⟨zs, t, x3, hz, t0, t1, rfl⟩ := hm
    have mt : mulD (.int t) (.int 1000000) = .ok (.int (t * 1000000)) := mulD_r (by decide)
    simp (disch := first | omega | (simp; done) | fail) [p6, mt]
    refine wpX_next hz (by omega) fun v zs2 hv hz2 => ?_
    simp (disch := first | omega | (simp; done) | fail) [p6, modD_ok]
    rw [hJ]
    refine ⟨zs2, _, _, hz2, ?_, ?_, rfl⟩
    · omega
    · rw [Int.pow_succ]; omega
  · rw [hJ] at hm
    obtain ⟨zs, t, x3, hz, t0, t1, rfl⟩ := hm
    simp (disch := first | omega | (simp; done) | fail) [modD_ok]
    refine ⟨zs, rfl, ⟨Int.emod_nonneg _ (by omega), Int.emod_lt_of_pos _ hm⟩, ?_⟩
    obtain ⟨q1, q2, q3, q4, q5, q6⟩ := hz
    exact ⟨q1, q2, q3, q4, q5, by omega⟩
end CK

namespace CK
open PySem PySem.Spec PyProof.Rows L2 CT
theorem wpX_imp {α : Type} {r : R (α × Sl)} {P Q : α → Sl → Prop} (h : wpX r P) (k : ∀ a m, P a m → Q a m) : wpX r Q := by
  cases r with
  | ok a => exact k _ _ h
  | exc c => exact h.elim
  | stuck => exact h.elim
theorem wpX_lc {α : Type} {enc : α → D} {i : Nat} {t : SemXT} {f : SemX} (I : Nat → List D → Sl → Prop) :
    ∀ (xs : List α) (j : Nat) (acc : List D) (m : Sl) (P : List D → Sl → Prop), I j acc m →
      (∀ k a, xs[k]? = some a → ∀ acc m, I (j + k) acc m → hasT (enc a) = false ∧ wpX (t (m.set i (some (enc a)))) fun c m2 => if c = true then wpX (f m2) fun x m3 => I (j + k + 1) (acc ++ [x]) (m3.set i none) else I (j + k + 1) acc (m2.set i none)) →
      (∀ acc2 m2, I (j + xs.length) acc2 m2 → ∀ r, acc2 = acc ++ r → P r m2) → wpX (lcX i t f (xs.map enc) m) P
  | [], j, acc, m, P, h0, _, hk => by
    simp only [List.map_nil, lcX, wpX_ok]
    exact hk acc m h0 [] (by simp)
  | a :: xs, j, acc, m, P, h0, hs, hk => by
    obtain ⟨n, h1⟩ := hs 0 a rfl acc m h0
    simp only [List.map_cons, lcX]
    rw [if_neg (by rw [n]; decide), wpX_bind]
    refine wpX_imp h1 fun c m2 h2 => ?_
    have next : ∀ acc m, I (j + 0 + 1) acc m → ∀ (P' : List D → Sl → Prop), (∀ acc2 m2, I (j + (a :: xs).length) acc2 m2 → ∀ r, acc2 = acc ++ r → P' r m2) → wpX (lcX i t f (xs.map enc) m) P' := fun acc m h P' hk' =>
      wpX_lc I xs (j + 0 + 1) acc m P' h (fun k b hb acc m h => by
        have := hs (k + 1) b (by simpa using hb) acc m (by rw [show j + (k + 1) = j + 0 + 1 + k by omega]; exact h)
        rw [show j + (k + 1) + 1 = j + 0 + 1 + k + 1 by omega] at this
        exact this) fun acc2 m2 h r e => hk' acc2 m2 (by rw [List.length_cons, show j + (xs.length + 1) = j + 0 + 1 + xs.length by omega]; exact h) r e
    cases c with
    | true =>
      simp only [if_true] at h2 ⊢
      rw [wpX_bind]
      refine wpX_imp h2 fun x m3 h3 => ?_
      rw [wpX_bind]
      refine next _ _ h3 _ fun acc2 m2 h r e => ?_
      exact hk acc2 m2 h (x :: r) (by rw [e]; simp)
    | false =>
      simp only [Bool.false_eq_true, if_false] at h2 ⊢
      exact next _ _ h2 _ fun acc2 m2 h r e => hk acc2 m2 h r e
end CK

namespace CK
open PySem PySem.Spec PyProof.Rows L2 CT
theorem nplaces_pos {q : Part} (h : PartOk q) : 1 ≤ nplaces q := by
  cases q <;> simp only [PartOk, nplaces] at h ⊢ <;> omega
theorem rng_map (n : Nat) : rng 0 n = (List.range n).map fun i : Nat => D.int (i : Int) := by
  unfold rng; congr 1; funext i; rw [Int.zero_add]
end CK

namespace CK
open PySem PySem.Spec PyProof.Rows L2 CT
theorem Dr.mono {n k : Nat} {xs : List D} (h : Dr n xs) (hk : n ≤ k := by omega) : Dr k xs := by
  obtain ⟨a, b, c, e, h1, h2⟩ := h
  exact ⟨a, b, c, e, h1, by omega⟩
theorem wpX_aLcX {h : SemXA} {i : Nat} {t : SemXT} {f : SemX} {m : Sl} {P : List D → Sl → Prop} : wpX (aLcX h i t f m) P = wpX (h m) fun ds m1 => wpX (lcX i t f ds (m1.set i none)) fun r m2 => r.length ≤ sizeLine ∧ P r m2 := by
  unfold aLcX
  rw [wpX_bind]
  congr 1
  funext ds m1
  rw [wpX_bind]
  congr 1
  funext r m2
  by_cases c : r.length ≤ sizeLine
  · rw [if_pos c]; simp [c]
  · rw [if_neg c]; simp [c]
theorem wpX_xOwn {f : SemXA} {m : Sl} {P : D → Sl → Prop} : wpX (xOwn f m) P = wpX (f m) fun ds m' => P (.lst false ds) m' := by
  unfold xOwn
  cases f m with
  | ok a => rfl
  | exc c => rfl
  | stuck => rfl
end CK

namespace CK
open PySem PySem.Spec PyProof.Rows L2 CT
def prodN (l : List Part) : Int := l.foldr (fun q n => nplaces q * n) 1
theorem prodN_app (l : List Part) (q : Part) : prodN (l ++ [q]) = prodN l * nplaces q := by
  induction l with
  | nil => simp [prodN]
  | cons a l ih => simp only [prodN, List.cons_append, List.foldr_cons] at ih ⊢; rw [ih, Int.mul_assoc]
theorem prodN_pos {l : List Part} (h : ∀ q ∈ l, PartOk q) : 1 ≤ prodN l := by
  induction l with
  | nil => simp [prodN]
  | cons a l ih =>
    have h1 := nplaces_pos (h a (by simp))
    have h2 := ih fun q hq => h q (by simp [hq])
    have := Int.mul_le_mul_of_nonneg_right h1 (show 0 ≤ prodN l by omega)
    simp only [prodN, List.foldr_cons] at *
    omega
def TrainOk (l : List Part) : Prop := (∀ q ∈ l, PartOk q) ∧ l.length ≤ 1000
theorem ixD_at {t : Bool} {xs ys : List D} {x : D} {i : Nat} (h : xs.length = i) : ixD (.lst t (xs ++ x :: ys)) (.int (i : Int)) = .ok x := ixD_lst (by subst h; simp)
def StandOk : List Part → List Int → Prop
  | [], [] => True
  | q :: qs, p :: ps => 0 ≤ p ∧ p < nplaces q ∧ StandOk qs ps
  | _, _ => False
theorem StandOk.length : ∀ {l : List Part} {st : List Int}, StandOk l st → st.length = l.length
  | [], [], _ => rfl
  | _ :: _, _ :: _, h => by simp [StandOk.length h.2.2]
def pushT : List Part → List Int → Int → Int → List Int × Int
  | q :: qs, p :: ps, w, n => ((pushP q p w n).1 :: (pushT qs ps w (pushP q p w n).2).1, (pushT qs ps w (pushP q p w n).2).2)
  | _, ps, _, n => (ps, n)
def pushI (l : List Part) (st : List Int) (i : Nat) (w n : Int) : List Int × Int := (st.take i ++ (pushT (l.drop i) (st.drop i) w n).1, w * (pushT (l.drop i) (st.drop i) w n).2)
def encR (x : List Int × Int) : D := .tup [.tup (x.1.map .int), .int x.2]
theorem ixN_nat {n i : Nat} (h : i < n) : ixN n (i : Int) = some i := by
  unfold ixN; rw [if_pos (by omega), if_pos (by omega)]; simp
theorem set_mid {α : Type} {xs ys : List α} {x y : α} {i : Nat} (h : xs.length = i) : (xs ++ x :: ys).set i y = xs ++ y :: ys := by subst h; simp
theorem r_pushed_often (l : List Part) (st : List Int) (i : Nat) (w n : Int) (h : TrainOk l) (hs : st.length = l.length) (hi : i ≤ l.length) (hw : w = 1 ∨ w = -1) :
    s_pushed_often [.lst false (l.map encP), .tup (st.map .int), .int (i : Int), .int w, .int n] = .ok (encR (pushI l st i w n)) := by
  unfold s_pushed_often
  refine def_ok1 rfl ?_
  have hl2 := h.2
  simp (disch := omega)
  obtain ⟨I, hI⟩ : ∃ I : Nat → Sl → Prop, I = fun k m => ∃ done n' x, m = [some (.lst false (l.map encP)), some (.tup (st.map .int)), some (.int (i : Int)), some (.int w), some (.int n'), some (.lst true ((st.take i ++ done ++ st.drop (i + k)).map .int)), x] ∧ done.length = k ∧
      pushT (l.drop i) (st.drop i) w n = (done ++ (pushT (l.drop (i + k)) (st.drop (i + k)) w n').1, (pushT (l.drop (i + k)) (st.drop (i + k)) w n').2) := ⟨_, rfl⟩
  refine wp_rng I (by rw [hI]; exact ⟨[], n, none, by simp, rfl, by simp⟩) (fun k hk m hm => ?_) (fun m hm => ?_)
  · rw [hI] at hm
    obtain ⟨done, n', x, rfl, hd, hp⟩ := hm
    have hk' : i + k < l.length := by omega
    have hks : i + k < st.length := by omega
    have e0 : (i : Int) + (k : Int) = ((i + k : Nat) : Int) := by omega
    have d1 : st.drop (i + k) = st[i + k] :: st.drop (i + k + 1) := List.drop_eq_getElem_cons hks
    have d2 : l.drop (i + k) = l[i + k] :: l.drop (i + k + 1) := List.drop_eq_getElem_cons hk'
    have len : (st.take i ++ done).length = i + k := by rw [List.length_append, List.length_take, hd]; omega
    have e1 : ixD (.lst false (l.map encP)) (.int ((i : Int) + (k : Int))) = .ok (encP l[i + k]) := by rw [e0]; exact ixD_lst (by simp [hk'])
    have e2 : ixD (.lst true ((st.take i ++ done ++ st.drop (i + k)).map .int)) (.int ((i : Int) + (k : Int))) = .ok (.int st[i + k]) := by
      rw [e0, d1, List.map_append, List.map_cons]; exact ixD_at (by rw [List.length_map, len])
    have e3 := r_part_pushed l[i + k] st[i + k] w n' (h.1 _ (List.getElem_mem hk')) hw
    have e4 : ixN ((st.take i ++ done ++ st.drop (i + k)).map D.int).length ((i : Int) + (k : Int)) = some (i + k) := by rw [e0]; exact ixN_nat (by rw [List.length_map, List.length_append, len, List.length_drop]; omega)
    have e5 : ∀ y, ((st.take i ++ done ++ st.drop (i + k)).map D.int).set (i + k) (.int y) = (st.take i ++ (done ++ [y]) ++ st.drop (i + (k + 1))).map .int := fun y => by
      rw [d1, List.map_append, List.map_cons, set_mid (by rw [List.length_map, len])]
      simp [Nat.add_assoc]
    have e6 : hasTL ((st.take i ++ done ++ st.drop (i + k)).map D.int) = false := hasTL_ints _
    generalize (st.take i ++ done ++ st.drop (i + k)).map D.int = L at e2 e4 e5 e6
    simp [e1, e2, e3, encI2, subR, e4, e5, e6]
    rw [hI]
    refine ⟨done ++ [(pushP l[i + k] st[i + k] w n').1], (pushP l[i + k] st[i + k] w n').2, some (.int (i + k)), by simp, by simp [hd], ?_⟩
    rw [hp, d1, d2]
    simp [pushT, Nat.add_assoc]
  · rw [hI] at hm
    obtain ⟨done, n', x, rfl, hd, hp⟩ := hm
    have e : i + (l.length - i) = l.length := by omega
    rw [e] at hp ⊢
    have d1 : st.drop l.length = [] := List.drop_eq_nil_of_le (by omega)
    have d2 : l.drop l.length = [] := List.drop_eq_nil_of_le (by omega)
    rw [d1, d2] at hp
    simp only [pushT, List.append_nil] at hp
    have hm : ∀ j, mulD (.int w) (.int j) = .ok (.int (w * j)) := fun j => mulD_l (by omega)
    rw [d1]
    simp [hm, encR, pushI, hp]
    rw [← List.map_take, ← List.map_append, stillL_ints]
end CK

namespace CK
open PySem PySem.Spec PyProof.Rows L2 CT
theorem div0 {a z : Int} (h0 : 0 ≤ a) (h1 : a < z) : a / z = 0 := Int.ediv_eq_zero_of_lt h0 h1
theorem div1 {a z : Int} (h0 : z ≤ a) (h1 : a < z + z) (hz : 1 ≤ z) : a / z = 1 := by
  have h := Int.add_mul_ediv_left (a - z) 1 (show z ≠ 0 by omega)
  rw [Int.mul_one, Int.sub_add_cancel, div0 (a := a - z) (z := z) (by omega) (by omega)] at h
  omega
theorem divm {a z : Int} (h0 : a < 0) (h1 : -z ≤ a) : a / z = -1 := by
  have h := Int.add_mul_ediv_left a 1 (show z ≠ 0 by omega)
  rw [Int.mul_one, div0 (a := a + z) (z := z) (by omega) (by omega)] at h
  omega
theorem one_met {z : Int} (hz : 1 ≤ z) (p m n : Int) (hn : 0 ≤ n) : (p - m + n) / z - (p - m) / z = n / z + (if 0 < (m - p - 1) % z + 1 ∧ (m - p - 1) % z + 1 ≤ n % z then 1 else 0) := by
  generalize ha : p - m = a
  have e1 : (m - p - 1) % z = z - 1 - a % z := by
    have h1 := Int.emod_add_mul_ediv a z
    have h2 := Int.emod_nonneg a (show z ≠ 0 by omega)
    have h3 := Int.emod_lt_of_pos a (show 0 < z by omega)
    have : m - p - 1 = (z - 1 - a % z) + z * (-(a / z) - 1) := by rw [Int.mul_sub, Int.mul_neg]; omega
    rw [this, Int.add_mul_emod_self_left, Int.emod_eq_of_lt (by omega) (by omega)]
  have h2 := Int.emod_nonneg a (show z ≠ 0 by omega)
  have h3 := Int.emod_lt_of_pos a (show 0 < z by omega)
  have k2 := Int.emod_nonneg n (show z ≠ 0 by omega)
  have k3 := Int.emod_lt_of_pos n (show 0 < z by omega)
  have e2 : (a + n) / z = a / z + n / z + (a % z + n % z) / z := by
    have h1 := Int.emod_add_mul_ediv a z
    have k1 := Int.emod_add_mul_ediv n z
    have e : a + n = (a % z + n % z) + z * (a / z + n / z) := by rw [Int.mul_add]; omega
    have := Int.add_mul_ediv_left (a % z + n % z) (a / z + n / z) (show z ≠ 0 by omega)
    rw [← e] at this
    omega
  rw [e2, e1]
  by_cases hc : z ≤ a % z + n % z
  · rw [if_pos (by omega), div1 hc (by omega) hz]
    omega
  · rw [if_neg (by omega), div0 (a := a % z + n % z) (by omega) (by omega)]
    omega
theorem one_left {z : Int} (hz : 1 ≤ z) (p m n : Int) (hn : 0 ≤ n) : (p - m) / z - (p - m - n) / z = n / z + (if (p - m) % z < n % z then 1 else 0) := by
  generalize ha : p - m = a
  have h1 := Int.emod_add_mul_ediv a z
  have k1 := Int.emod_add_mul_ediv n z
  have h2 := Int.emod_nonneg a (show z ≠ 0 by omega)
  have h3 := Int.emod_lt_of_pos a (show 0 < z by omega)
  have k2 := Int.emod_nonneg n (show z ≠ 0 by omega)
  have k3 := Int.emod_lt_of_pos n (show 0 < z by omega)
  have e2 : (a - n) / z = a / z - n / z + (a % z - n % z) / z := by
    have e : a - n = (a % z - n % z) + z * (a / z - n / z) := by rw [Int.mul_sub]; omega
    have := Int.add_mul_ediv_left (a % z - n % z) (a / z - n / z) (show z ≠ 0 by omega)
    rw [← e] at this
    omega
  rw [e2]
  by_cases hc : a % z < n % z
  · rw [if_pos hc, divm (a := a % z - n % z) (by omega) (by omega)]
    omega
  · rw [if_neg hc, div0 (a := a % z - n % z) (by omega) (by omega)]
    omega
def sumI (l : List Int) : Int := l.foldr (· + ·) 0
@[simp] theorem sumI_nil : sumI [] = 0 := rfl
@[simp] theorem sumI_cons (a : Int) (l : List Int) : sumI (a :: l) = a + sumI l := rfl
theorem metN_sum {z : Int} (hz : 1 ≤ z) (p n : Int) (hn : 0 ≤ n) : ∀ ms : List Int, metN z p n ms = sumI (ms.map fun m => (p - m + n) / z - (p - m) / z)
  | [] => by simp [metN]
  | m :: ms => by
    have ih := metN_sum hz p n hn ms
    unfold metN at ih ⊢
    rw [List.map_cons, sumI_cons, ← ih, one_met hz p m n hn, List.length_cons, List.filter_cons]
    rw [show ((ms.length + 1 : Nat) : Int) = (ms.length : Int) + 1 by omega, Int.mul_add, Int.mul_one]
    by_cases hc : 0 < (m - p - 1) % z + 1 ∧ (m - p - 1) % z + 1 ≤ n % z
    · rw [if_pos hc, if_pos (by simpa using hc), List.length_cons]; omega
    · rw [if_neg hc, if_neg (by simpa using hc)]; omega
theorem leftN_sum {z : Int} (hz : 1 ≤ z) (p n : Int) (hn : 0 ≤ n) : ∀ ms : List Int, leftN z p n ms = sumI (ms.map fun m => (p - m) / z - (p - m - n) / z)
  | [] => by simp [leftN]
  | m :: ms => by
    have ih := leftN_sum hz p n hn ms
    unfold leftN at ih ⊢
    rw [List.map_cons, sumI_cons, ← ih, one_left hz p m n hn, List.length_cons, List.filter_cons]
    rw [show ((ms.length + 1 : Nat) : Int) = (ms.length : Int) + 1 by omega, Int.mul_add, Int.mul_one]
    by_cases hc : (p - m) % z < n % z
    · rw [if_pos hc, if_pos (by simpa using hc), List.length_cons]; omega
    · rw [if_neg hc, if_neg (by simpa using hc)]; omega
def pushL : Part → Int → Int → Int × Int
  | .wheel z ms, p, w => ((p + w) % z, if w = 1 then (if (p + w) % z ∈ ms then 1 else 0) else 0 - (if p ∈ ms then 1 else 0))
  | .click, _, w => (0, if w = 1 then 1 else 0)
  | .rocker, p, w => (if w = 1 then 1 else 0, if w = 1 ∧ p = 0 then 1 else 0)
  | .spring k, p, w => if w = 1 ∧ p = k - 1 then (0, 1) else (if 0 < p + w then p + w else 0, 0)
theorem sum_hit {z : Int} (c : Int → Int) (p' : Int) : ∀ ms : List Int, ms.Pairwise (· < ·) → (∀ m ∈ ms, c m = if p' = m then 1 else 0) → sumI (ms.map c) = if p' ∈ ms then 1 else 0
  | [], _, _ => by simp
  | m :: ms, h, hc => by
    rw [List.pairwise_cons] at h
    have ih := sum_hit (z := z) c p' ms h.2 fun m hm => hc m (by simp [hm])
    rw [List.map_cons, sumI_cons, ih, hc m (by simp)]
    by_cases e : p' = m
    · subst e
      have : p' ∉ ms := fun hm => by have := h.1 _ hm; omega
      simp [this]
    · simp [e]
theorem pushP_one {q : Part} {p w : Int} (h : PartOk q) (h0 : 0 ≤ p) (h1 : p < nplaces q) (hw : w = 1 ∨ w = -1) :
    (pushP q p w 1).1 = (pushL q p w).1 ∧ w * (pushP q p w 1).2 = (pushL q p w).2 ∧ ((pushP q p w 1).2 = 0 ∨ (pushP q p w 1).2 = 1) := by
  cases q with
  | wheel z ms =>
    obtain ⟨hz, _, _, hm, hp⟩ := h
    simp only [nplaces] at h1
    have e1 : metN z p 1 ms = if (p + 1) % z ∈ ms then 1 else 0 := by
      rw [metN_sum hz p 1 (by omega)]
      refine sum_hit (z := z) _ _ ms hp fun m hm' => ?_
      have := hm m hm'
      by_cases e : p + 1 = z
      · rw [e, Int.emod_self]
        by_cases em : m = 0
        · subst em
          rw [show p - 0 + 1 = z by omega, Int.ediv_self (by omega), Int.ediv_eq_zero_of_lt (by omega) (by omega)]; simp
        · rw [div0 (a := p - m) (by omega) (by omega), div0 (by omega) (by omega), if_neg (by omega)]; rfl
      · rw [Int.emod_eq_of_lt (by omega) (by omega)]
        by_cases c : m ≤ p
        · rw [div0 (a := p - m) (by omega) (by omega), div0 (by omega) (by omega), if_neg (by omega)]; rfl
        · have d1 : (p - m) / z = -1 := divm (by omega) (by omega)
          by_cases c2 : p + 1 = m
          · rw [d1, if_pos c2, Int.ediv_eq_zero_of_lt (by omega) (by omega)]; rfl
          · have d2 : (p - m + 1) / z = -1 := divm (by omega) (by omega)
            rw [d1, d2, if_neg c2]; rfl
    have e2 : leftN z p 1 ms = if p ∈ ms then 1 else 0 := by
      rw [leftN_sum hz p 1 (by omega)]
      refine sum_hit (z := z) _ _ ms hp fun m hm' => ?_
      have := hm m hm'
      by_cases c : m < p
      · rw [div0 (a := p - m) (by omega) (by omega), div0 (by omega) (by omega), if_neg (by omega)]; rfl
      · by_cases c2 : p = m
        · have d2 : (p - m - 1) / z = -1 := divm (by omega) (by omega)
          rw [d2, if_pos c2, Int.ediv_eq_zero_of_lt (by omega) (by omega)]; rfl
        · have d1 : (p - m) / z = -1 := divm (by omega) (by omega)
          by_cases c3 : m - p = z - 1 + 1
          · omega
          · have d2 : (p - m - 1) / z = -1 := divm (by omega) (by omega)
            rw [d1, d2, if_neg c2]; rfl
    rcases hw with rfl | rfl
    · refine ⟨by simp [pushP, pushL], ?_, ?_⟩
      · simp [pushP, pushL, e1]
      · simp only [pushP, if_true, e1]; split <;> simp
    · refine ⟨by simp [pushP, pushL], ?_, ?_⟩
      · simp [pushP, pushL, e2]
      · simp [pushP, e2]; exact (Classical.em _).symm
  | click => rcases hw with rfl | rfl <;> simp [pushP, pushL]
  | rocker => rcases hw with rfl | rfl <;> (by_cases e : p = 0 <;> simp [pushP, pushL, e])
  | spring k =>
    obtain ⟨hk, _⟩ := h
    simp only [nplaces] at h1
    rcases hw with rfl | rfl
    · by_cases e : p = k - 1
      · subst e
        simp [pushP, pushL, Int.ediv_self (show k ≠ 0 by omega)]
      · have a1 : (p + 1) % k = p + 1 := Int.emod_eq_of_lt (by omega) (by omega)
        have a2 : (p + 1) / k = 0 := Int.ediv_eq_zero_of_lt (by omega) (by omega)
        simp [pushP, pushL, e, a1, a2]
        omega
    · simp [pushP, pushL]
      split <;> split <;> omega
theorem pushP_zero {q : Part} {p w : Int} (h : PartOk q) (h0 : 0 ≤ p) (h1 : p < nplaces q) : pushP q p w 0 = (p, 0) := by
  cases q with
  | wheel z ms =>
    obtain ⟨hz, hx1, hx2, hm, hp⟩ := h
    clear hx2
    simp only [nplaces] at h1
    have e1 : metN z p 0 ms = 0 := by
      rw [metN_sum hz p 0 (by omega)]
      clear hm hp
      induction ms with
      | nil => rfl
      | cons m ms ih => rw [List.map_cons, sumI_cons, ih]; simp
    have e2 : leftN z p 0 ms = 0 := by
      rw [leftN_sum hz p 0 (by omega)]
      clear hm hp e1
      induction ms with
      | nil => rfl
      | cons m ms ih => rw [List.map_cons, sumI_cons, ih]; simp
    simp [pushP, e1, e2, Int.emod_eq_of_lt h0 h1]
  | click => simp only [nplaces] at h1; simp [pushP]; omega
  | rocker => simp [pushP]
  | spring k =>
    simp only [nplaces] at h1
    simp [pushP, Int.emod_eq_of_lt h0 h1, Int.ediv_eq_zero_of_lt h0 h1]
    omega
theorem pushT_zero : ∀ {l : List Part} {st : List Int} {w : Int}, (∀ q ∈ l, PartOk q) → StandOk l st → pushT l st w 0 = (st, 0)
  | [], [], _, _, _ => rfl
  | q :: l, p :: st, w, h, hs => by
    have hq := h q (by simp)
    rw [pushT, pushP_zero hq hs.1 hs.2.1, pushT_zero (fun a ha => h a (by simp [ha])) hs.2.2]
def lawT : List Part → List Int → Int → List Int × Int
  | q :: qs, p :: ps, w => if w = 0 then (p :: ps, 0) else ((pushL q p w).1 :: (lawT qs ps (pushL q p w).2).1, (lawT qs ps (pushL q p w).2).2)
  | _, ps, w => (ps, w)
theorem lawT_zero : ∀ (l : List Part) (st : List Int), lawT l st 0 = (st, 0)
  | [], _ => rfl
  | _ :: _, [] => rfl
  | _ :: _, _ :: _ => rfl
theorem lawT_eq : ∀ {l : List Part} {st : List Int} {w : Int}, (∀ q ∈ l, PartOk q) → StandOk l st → (w = 1 ∨ w = -1) → lawT l st w = ((pushT l st w 1).1, w * (pushT l st w 1).2)
  | [], [], w, _, _, _ => by simp [lawT, pushT]
  | q :: l, p :: st, w, h, hs, hw => by
    have hq := h q (by simp)
    obtain ⟨h1, h2, h3⟩ := pushP_one hq hs.1 hs.2.1 hw
    have h' : ∀ q ∈ l, PartOk q := fun a ha => h a (by simp [ha])
    rw [lawT, if_neg (by omega), pushT, ← h1, ← h2]
    rcases h3 with h3 | h3
    · rw [h3, Int.mul_zero, lawT_zero, pushT_zero h' hs.2.2]; simp
    · rw [h3, Int.mul_one, lawT_eq h' hs.2.2 hw]
theorem StandOk.drop : ∀ {l : List Part} {st : List Int} (i : Nat), StandOk l st → StandOk (l.drop i) (st.drop i)
  | _, _, 0, h => h
  | [], [], _ + 1, h => h
  | _ :: _, _ :: _, i + 1, h => h.2.2.drop i
end CK

namespace CK
open PySem PySem.Spec PyProof.Rows L2 CT
theorem neD_self {x : D} (h : Sh 64 x) : neD x x = .ok (.bl false) := by rw [neD_ok h h, eqv_self h.1]; rfl
theorem eqD_self {x : D} (h : Sh 64 x) : eqD x x = .ok (.bl true) := by rw [eqD_ok h h, eqv_self h.1]
theorem shl_map {α : Type} {f : α → D} {n : Nat} (h : ∀ a, Sh n (f a)) (l : List α) : ∀ x ∈ l.map f, Sh n x := fun x hx => by
  obtain ⟨a, _, rfl⟩ := List.mem_map.mp hx; exact h a
theorem sh_ints (l : List Int) (n : Nat) : Sh (n + 1) (.tup (l.map .int)) := sh_tup (shl_map (fun a => sh_int _ a) l)
theorem sh_encP (q : Part) : Sh 3 (encP q) := by
  have hs : ∀ s : Str, PyData.strOk s = true → Sh 2 (.str s) := fun s h => sh_str h
  cases q with
  | wheel z ms => exact sh_tup (by
      intro x hx
      simp only [List.mem_cons, List.not_mem_nil, or_false] at hx
      rcases hx with rfl | rfl | rfl
      · exact hs _ (by decide +kernel)
      · exact sh_int _ _
      · exact sh_ints ms 1)
  | click => exact sh_tup (by
      intro x hx
      simp only [List.mem_cons, List.not_mem_nil, or_false] at hx
      rcases hx with rfl
      exact hs _ (by decide +kernel))
  | rocker => exact sh_tup (by
      intro x hx
      simp only [List.mem_cons, List.not_mem_nil, or_false] at hx
      rcases hx with rfl
      exact hs _ (by decide +kernel))
  | spring k => exact sh_tup (by
      intro x hx
      simp only [List.mem_cons, List.not_mem_nil, or_false] at hx
      rcases hx with rfl | rfl
      · exact hs _ (by decide +kernel)
      · exact sh_int _ _)
theorem sh_train (t : Bool) (l : List Part) : Sh 64 (.lst t (l.map encP)) := (sh_lst (shl_map sh_encP l)).mono (by omega)
theorem sh_encR (x : List Int × Int) : Sh 64 (encR x) := by
  refine Sh.mono (n := 2) (sh_tup ?_) (by omega)
  intro y hy
  simp only [List.mem_cons, List.not_mem_nil, or_false] at hy
  rcases hy with rfl | rfl
  · exact sh_ints x.1 0
  · exact sh_int _ _
theorem mem_ints (x : Int) (ms : List Int) : memD (.int x) (ms.map .int) = decide (x ∈ ms) := by
  unfold memD
  rw [List.any_map]
  induction ms with
  | nil => rfl
  | cons m ms ih =>
    rw [List.any_cons, ih]
    simp only [Function.comp, eqvD, py, PyData.eqv, List.mem_cons]
    by_cases h : m = x
    · subst h; simp
    · have : ¬ x = m := fun e => h e.symm
      simp [h, this]
@[simp] theorem still_encR (x : List Int × Int) : still (encR x) = encR x := by simp [encR]
theorem pushL_sgn {q : Part} {p w : Int} (hw : w = 1 ∨ w = -1) : (pushL q p w).2 = 0 ∨ (pushL q p w).2 = 1 ∨ (pushL q p w).2 = -1 := by
  cases q with
  | wheel z ms =>
    rcases hw with rfl | rfl
    · by_cases e : (p + 1) % z ∈ ms <;> simp [pushL, e]
    · by_cases e : p ∈ ms <;> simp [pushL, e]
  | click => rcases hw with rfl | rfl <;> simp [pushL]
  | rocker => rcases hw with rfl | rfl <;> simp [pushL]; omega
  | spring k => rcases hw with rfl | rfl <;> simp [pushL]; split <;> simp
theorem isiD_of {T : String} {x : D} {c : Bool} (h : kitB (tyD x) T = some c) : isiD T x = .ok (.bl c) := by unfold isiD; rw [h]
@[simp] theorem isiD_tup (xs : List D) : isiD "tuple" (.tup xs) = .ok (.bl true) := isiD_of (show kitB "tuple" "tuple" = _ by decide +kernel)
@[simp] theorem isiD_ii (i : Int) : isiD "int" (.int i) = .ok (.bl true) := isiD_of (show kitB "int" "int" = _ by decide +kernel)
@[simp] theorem isiD_ib (i : Int) : isiD "bool" (.int i) = .ok (.bl false) := isiD_of (show kitB "int" "bool" = _ by decide +kernel)
theorem pushI_len (l : List Part) (st : List Int) (i : Nat) (w n : Int) : (pushI l st i w n).1.length = st.length := by
  have : ∀ (l : List Part) (st : List Int) (w n : Int), (pushT l st w n).1.length = st.length := fun l => by
    induction l with
    | nil => intro st w n; rfl
    | cons q l ih => intro st w n; cases st with
      | nil => rfl
      | cons p st => simp [pushT, ih]
  simp [pushI, this]; omega
end CK

namespace CK
open PySem PySem.Spec PyProof.Rows L2 CT
theorem cut_head {α : Type} (xs : List α) (n : Nat) : cutA xs none (some (n : Int)) = xs.take n := by
  unfold cutA
  rw [HT.sIx_none, HT.sIx_nat, List.drop_zero, Nat.sub_zero]
  rcases Nat.le_total n xs.length with h | h
  · rw [Nat.min_eq_left h]
  · rw [Nat.min_eq_right h, List.take_length, List.take_of_length_le h]
theorem cut_tail {α : Type} (xs : List α) (n : Nat) : cutA xs (some (n : Int)) none = xs.drop n := by
  unfold cutA
  rw [HT.sIx_none, HT.sIx_nat]
  rcases Nat.le_total n xs.length with h | h
  · rw [Nat.min_eq_left h, List.take_of_length_le (by simp)]
  · rw [Nat.min_eq_right h, List.drop_length, List.drop_of_length_le h]; simp
@[simp] theorem cutD_lst (t : Bool) (xs : List D) (lo hi : Option Int) : cutD (.lst t xs) lo hi = .ok (.lst false (cutA xs lo hi)) := nr rfl
@[simp] theorem cutD_fr (xs : List D) (lo hi : Option Int) : cutD (.fr xs) lo hi = .ok (.lst false (cutA xs lo hi)) := nr rfl
@[simp] theorem cutD_tup (xs : List D) (lo hi : Option Int) : cutD (.tup xs) lo hi = .ok (.tup (cutA xs lo hi)) := nr rfl
theorem addD_lst {t t' : Bool} {xs ys : List D} (h : xs.length + ys.length ≤ 16777216) : addD (.lst t xs) (.lst t' ys) = .ok (.lst false (xs ++ ys)) := by
  simp only [addD]; rw [if_pos (small h)]
end CK

namespace CK
open PySem PySem.Spec PyProof.Rows L2 CT
end CK

namespace CK
open PySem PySem.Spec PyProof.Rows L2 CT
@[simp] theorem isi_tuple_non : isiD "tuple" .non = .ok (.bl false) := isiD_of (show kitB "NoneType" "tuple" = _ by decide +kernel)
@[simp] theorem isi_tuple_bl (b : Bool) : isiD "tuple" (.bl b) = .ok (.bl false) := isiD_of (show kitB "bool" "tuple" = _ by decide +kernel)
@[simp] theorem isi_tuple_int (i : Int) : isiD "tuple" (.int i) = .ok (.bl false) := isiD_of (show kitB "int" "tuple" = _ by decide +kernel)
@[simp] theorem isi_tuple_str (x : Str) : isiD "tuple" (.str x) = .ok (.bl false) := isiD_of (show kitB "str" "tuple" = _ by decide +kernel)
@[simp] theorem isi_tuple_lst (t : Bool) (xs : List D) : isiD "tuple" (.lst t xs) = .ok (.bl false) := isiD_of (show kitB "list" "tuple" = _ by decide +kernel)
@[simp] theorem isi_tuple_fr (xs : List D) : isiD "tuple" (.fr xs) = .ok (.bl false) := isiD_of (show kitB "list" "tuple" = _ by decide +kernel)
@[simp] theorem isi_list_non : isiD "list" .non = .ok (.bl false) := isiD_of (show kitB "NoneType" "list" = _ by decide +kernel)
@[simp] theorem isi_list_bl (b : Bool) : isiD "list" (.bl b) = .ok (.bl false) := isiD_of (show kitB "bool" "list" = _ by decide +kernel)
@[simp] theorem isi_list_int (i : Int) : isiD "list" (.int i) = .ok (.bl false) := isiD_of (show kitB "int" "list" = _ by decide +kernel)
@[simp] theorem isi_list_str (x : Str) : isiD "list" (.str x) = .ok (.bl false) := isiD_of (show kitB "str" "list" = _ by decide +kernel)
@[simp] theorem isi_list_tup (xs : List D) : isiD "list" (.tup xs) = .ok (.bl false) := isiD_of (show kitB "tuple" "list" = _ by decide +kernel)
@[simp] theorem isi_list_lst (t : Bool) (xs : List D) : isiD "list" (.lst t xs) = .ok (.bl true) := isiD_of (show kitB "list" "list" = _ by decide +kernel)
@[simp] theorem isi_list_fr (xs : List D) : isiD "list" (.fr xs) = .ok (.bl true) := isiD_of (show kitB "list" "list" = _ by decide +kernel)
@[simp] theorem isi_int_non : isiD "int" .non = .ok (.bl false) := isiD_of (show kitB "NoneType" "int" = _ by decide +kernel)
@[simp] theorem isi_int_bl (b : Bool) : isiD "int" (.bl b) = .ok (.bl true) := isiD_of (show kitB "bool" "int" = _ by decide +kernel)
@[simp] theorem isi_int_str (x : Str) : isiD "int" (.str x) = .ok (.bl false) := isiD_of (show kitB "str" "int" = _ by decide +kernel)
@[simp] theorem isi_int_tup (xs : List D) : isiD "int" (.tup xs) = .ok (.bl false) := isiD_of (show kitB "tuple" "int" = _ by decide +kernel)
@[simp] theorem isi_int_lst (t : Bool) (xs : List D) : isiD "int" (.lst t xs) = .ok (.bl false) := isiD_of (show kitB "list" "int" = _ by decide +kernel)
@[simp] theorem isi_int_fr (xs : List D) : isiD "int" (.fr xs) = .ok (.bl false) := isiD_of (show kitB "list" "int" = _ by decide +kernel)
@[simp] theorem isi_bool_non : isiD "bool" .non = .ok (.bl false) := isiD_of (show kitB "NoneType" "bool" = _ by decide +kernel)
@[simp] theorem isi_bool_bl (b : Bool) : isiD "bool" (.bl b) = .ok (.bl true) := isiD_of (show kitB "bool" "bool" = _ by decide +kernel)
@[simp] theorem isi_bool_str (x : Str) : isiD "bool" (.str x) = .ok (.bl false) := isiD_of (show kitB "str" "bool" = _ by decide +kernel)
@[simp] theorem isi_bool_tup (xs : List D) : isiD "bool" (.tup xs) = .ok (.bl false) := isiD_of (show kitB "tuple" "bool" = _ by decide +kernel)
@[simp] theorem isi_bool_lst (t : Bool) (xs : List D) : isiD "bool" (.lst t xs) = .ok (.bl false) := isiD_of (show kitB "list" "bool" = _ by decide +kernel)
@[simp] theorem isi_bool_fr (xs : List D) : isiD "bool" (.fr xs) = .ok (.bl false) := isiD_of (show kitB "list" "bool" = _ by decide +kernel)
@[simp] theorem isi_str_non : isiD "str" .non = .ok (.bl false) := isiD_of (show kitB "NoneType" "str" = _ by decide +kernel)
@[simp] theorem isi_str_bl (b : Bool) : isiD "str" (.bl b) = .ok (.bl false) := isiD_of (show kitB "bool" "str" = _ by decide +kernel)
@[simp] theorem isi_str_int (i : Int) : isiD "str" (.int i) = .ok (.bl false) := isiD_of (show kitB "int" "str" = _ by decide +kernel)
@[simp] theorem isi_str_str (x : Str) : isiD "str" (.str x) = .ok (.bl true) := isiD_of (show kitB "str" "str" = _ by decide +kernel)
@[simp] theorem isi_str_tup (xs : List D) : isiD "str" (.tup xs) = .ok (.bl false) := isiD_of (show kitB "tuple" "str" = _ by decide +kernel)
@[simp] theorem isi_str_lst (t : Bool) (xs : List D) : isiD "str" (.lst t xs) = .ok (.bl false) := isiD_of (show kitB "list" "str" = _ by decide +kernel)
@[simp] theorem isi_str_fr (xs : List D) : isiD "str" (.fr xs) = .ok (.bl false) := isiD_of (show kitB "list" "str" = _ by decide +kernel)
mutual
def bd : D → Bool
  | .tup xs => decide (xs.length ≤ 1000000) && bdL xs
  | .lst _ xs => decide (xs.length ≤ 1000000) && bdL xs
  | .fr xs => decide (xs.length ≤ 1000000) && bdL xs
  | .str _ => true
  | .non => true
  | .bl _ => true
  | .int _ => true
  | .unk => false
  | .ex _ => false
  | .fn _ => false
  | .dic _ _ => false
  | .dct _ _ _ => false
def bdL : List D → Bool
  | [] => true
  | x :: xs => bd x && bdL xs
end
structure Good (d : D) : Prop where
  t : hasT d = false
  s : Sh 64 d
  b : bd d = true
theorem layL_mem {x : D} : ∀ {xs : List D}, layL xs = true → x ∈ xs → lay x = true
  | y :: xs, h, hm => by
    simp only [layL, Bool.and_eq_true] at h
    rcases List.mem_cons.mp hm with e | e
    · rw [e]; exact h.1
    · exact layL_mem h.2 e
theorem depth_mem {x : D} : ∀ {xs : List D}, x ∈ xs → PyData.depth (py x) ≤ PyData.depthAll (pyL xs)
  | y :: xs, hm => by
    simp only [pyL, PyData.depthAll]
    rcases List.mem_cons.mp hm with e | e
    · rw [e]; omega
    · have := depth_mem (xs := xs) e; omega
theorem bdL_mem {x : D} : ∀ {xs : List D}, bdL xs = true → x ∈ xs → bd x = true
  | y :: xs, h, hm => by
    simp only [bdL, Bool.and_eq_true] at h
    rcases List.mem_cons.mp hm with e | e
    · rw [e]; exact h.1
    · exact bdL_mem h.2 e
theorem hasTL_mem {x : D} : ∀ {xs : List D}, hasTL xs = false → x ∈ xs → hasT x = false
  | y :: xs, h, hm => by
    simp only [hasTL, Bool.or_eq_false_iff] at h
    rcases List.mem_cons.mp hm with e | e
    · rw [e]; exact h.1
    · exact hasTL_mem h.2 e
theorem Good.mem {xs : List D} {x : D} (h : Good (.tup xs)) (hm : x ∈ xs) : Good x :=
  ⟨hasTL_mem h.t hm, ⟨layL_mem h.s.1 hm, by have := h.s.2; have := depth_mem hm; simp only [py, PyData.depth] at *; omega⟩, bdL_mem (by have := h.b; simp only [bd, Bool.and_eq_true] at this; exact this.2) hm⟩
theorem Good.memL {t : Bool} {xs : List D} {x : D} (h : Good (.lst t xs)) (hm : x ∈ xs) : Good x :=
  ⟨hasTL_mem (by have := h.t; simp only [hasT, Bool.or_eq_false_iff] at this; exact this.2) hm, ⟨layL_mem h.s.1 hm, by have := h.s.2; have := depth_mem hm; simp only [py, PyData.depth] at *; omega⟩, bdL_mem (by have := h.b; simp only [bd, Bool.and_eq_true] at this; exact this.2) hm⟩
theorem Good.memF {xs : List D} {x : D} (h : Good (.fr xs)) (hm : x ∈ xs) : Good x :=
  ⟨hasTL_mem h.t hm, ⟨layL_mem h.s.1 hm, by have := h.s.2; have := depth_mem hm; simp only [py, PyData.depth] at *; omega⟩, bdL_mem (by have := h.b; simp only [bd, Bool.and_eq_true] at this; exact this.2) hm⟩
theorem Good.len {xs : List D} (h : Good (.tup xs)) : xs.length ≤ 1000000 := by have := h.b; simp only [bd, Bool.and_eq_true, decide_eq_true_eq] at this; exact this.1
theorem Good.lenL {t : Bool} {xs : List D} (h : Good (.lst t xs)) : xs.length ≤ 1000000 := by have := h.b; simp only [bd, Bool.and_eq_true, decide_eq_true_eq] at this; exact this.1
theorem Good.lenF {xs : List D} (h : Good (.fr xs)) : xs.length ≤ 1000000 := by have := h.b; simp only [bd, Bool.and_eq_true, decide_eq_true_eq] at this; exact this.1
theorem bools_map : ∀ bs : List Bool, bools (bs.map D.bl) = some bs
  | [] => rfl
  | b :: bs => by rw [List.map_cons, bools, bools_map bs]; rfl
@[simp] theorem allD_bls (t : Bool) (bs : List Bool) : allD [.lst t (bs.map D.bl)] = .ok (.bl (bs.all id)) := by simp only [allD, bools_map]
@[simp] theorem allD_f {α : Type} (t : Bool) (c : α → Bool) (xs : List α) : allD [.lst t (xs.map fun a => D.bl (c a))] = .ok (.bl (xs.all c)) := by
  rw [show (xs.map fun a => D.bl (c a)) = (xs.map c).map D.bl by rw [List.map_map]; rfl, allD_bls, List.all_map]; rfl
@[simp] theorem allD_o {α : Type} (t : Bool) (c : α → Bool) (xs : List α) : allD [.lst t (xs.map (D.bl ∘ c))] = .ok (.bl (xs.all c)) := allD_f t c xs
@[simp] theorem aZip_eq (s : Bool) (h : SemA) (m : Sl) : aZip s h m = (h m).bind (zipI s) := nr rfl
@[simp] theorem sRaise_eq (c : String) (m : Sl) : sRaise c m = .exc c m := nr rfl
theorem zip_tt {xs ys : List D} : zipI false [.tup xs, .tup ys] = .ok (zipL xs ys) := by simp [zipI, zipOk]
theorem zip_lt {t : Bool} {xs ys : List D} : zipI false [.lst t xs, .tup ys] = .ok (zipL xs ys) := by simp [zipI, zipOk]
theorem zip_ft {xs ys : List D} : zipI false [.fr xs, .tup ys] = .ok (zipL xs ys) := by simp [zipI, zipOk]
theorem lcGo_bl {g : SemG} {f : SemE} {m : Sl} (c : D → Bool) (xs : List D) (h : ∀ a ∈ xs, ∃ m1, g a m = .ok m1 ∧ f m1 = .ok (.bl (c a))) : lcGo g tYesM f m xs = .ok ((xs.map c).map D.bl) := by
  have := lcGo_map1 id (g := g) (f := f) (m := m) (fun a => D.bl (c a)) xs (fun a ha => by obtain ⟨m1, h1, h2⟩ := h a ha; exact ⟨m1, h1, h2, rfl⟩)
  rw [List.map_id] at this
  rw [this, List.map_map]; rfl
def isWholeB : D → Bool
  | .int _ => true
  | _ => false
def isX : D → Bool
  | .unk => true
  | .ex _ => true
  | .fn _ => true
  | .dic _ _ => true
  | .dct _ _ _ => true
  | .non => false
  | .bl _ => false
  | .int _ => false
  | .str _ => false
  | .tup _ => false
  | .lst _ _ => false
  | .fr _ => false
theorem isX_unk : isX .unk = true := rfl
theorem isX_ex (c : String) : isX (.ex c) = true := rfl
theorem isX_fn (c : String) : isX (.fn c) = true := rfl
theorem isX_dic (k : List (List Int)) (v : List D) : isX (.dic k v) = true := rfl
theorem isX_dct (q : DT) (k : List (List Int)) (v : List D) : isX (.dct q k v) = true := rfl
@[simp] theorem isX_non : isX .non = false := nr rfl
@[simp] theorem isX_bl (b : Bool) : isX (.bl b) = false := nr rfl
@[simp] theorem isX_int (b : Int) : isX (.int b) = false := nr rfl
@[simp] theorem isX_str (b : Str) : isX (.str b) = false := nr rfl
@[simp] theorem isX_tup (b : List D) : isX (.tup b) = false := nr rfl
@[simp] theorem isX_lst (t : Bool) (b : List D) : isX (.lst t b) = false := nr rfl
@[simp] theorem isX_fr (b : List D) : isX (.fr b) = false := nr rfl
theorem isX_of {d : D} (h : Sh 64 d) : isX d = false := by
  cases d <;> first | rfl | (exfalso; exact far_depth (Nat.le_trans h.2 (by decide)))
theorem Good.nx {d : D} (h : Good d) : isX d = false := isX_of h.s
theorem r_is_whole (d : D) (h : isX d = false) : s_is_whole [d] = .ok (.bl (isWholeB d)) := by
  unfold s_is_whole
  refine def_ok1 rfl ?_
  cases d <;> first | (cases h; done) | simp [isWholeB]
theorem isX_still (d : D) (h : isX d = false) : isX (still d) = false := by cases d <;> first | rfl | (cases h; done)
theorem cf_is_whole (d : D) (h : isX d = false) : callF s_is_whole [d] = .ok (.bl (isWholeB d)) := by
  have : isWholeB (still d) = isWholeB d := by cases d <;> rfl
  simp [r_is_whole _ (isX_still d h), this]
def inB (z : Int) : D → Bool
  | .int m => decide (0 ≤ m) && decide (m < z)
  | _ => false
def ltB : D → D → Bool
  | .int i, .int j => decide (i < j)
  | _, _ => false
def risB : List D → Bool
  | x :: y :: r => ltB x y && risB (y :: r)
  | _ => true
def isMarksB (z : Int) : D → Bool
  | .tup xs => xs.all (inB z) && risB xs
  | _ => false
theorem ris_zip : ∀ xs : List D, ((xs.zip (xs.drop 1)).map fun p => ltB p.1 p.2).all id = risB xs
  | [] => rfl
  | [x] => rfl
  | x :: y :: r => by
    have := ris_zip (y :: r)
    simp only [List.drop_succ_cons, List.drop_zero, List.zip_cons_cons, List.map_cons, List.all_cons, id] at this ⊢
    rw [risB, ← this]
theorem inB_int {z : Int} {d : D} (h : inB z d = true) : ∃ m, d = .int m ∧ 0 ≤ m ∧ m < z := by
  cases d <;> simp [inB] at h
  exact ⟨_, rfl, h.1, h.2⟩
theorem zip_mem_drop {α : Type} {xs : List α} {p : α × α} (h : p ∈ xs.zip (xs.drop 1)) : p.1 ∈ xs ∧ p.2 ∈ xs := by
  obtain ⟨a, b⟩ := p
  have := List.of_mem_zip h
  exact ⟨this.1, List.mem_of_mem_drop this.2⟩
theorem r_is_marks (z : Int) (d : D) (h : Good d) : s_is_marks [.int z, d] = .ok (.bl (isMarksB z d)) := by
  unfold s_is_marks
  refine def_ok1 rfl ?_
  cases d with
  | unk => exact absurd h.nx (by simp [isX_unk])
  | ex _ => exact absurd h.nx (by simp [isX_ex])
  | fn _ => exact absurd h.nx (by simp [isX_fn])
  | dic _ _ => exact absurd h.nx (by simp [isX_dic])
  | dct _ _ _ => exact absurd h.nx (by simp [isX_dct])
  | tup xs =>
    have ht : hasTL xs = false := h.t
    have hl := h.len
    have e := lcGo_bl (g := putR 2) (f := eAnd (eA (callF s_is_whole) (aCons (eVar 2) aNil)) (eChain leD ltD (eC (.int 0)) (eVar 2) (eVar 0))) (m := [some (.int z), some (.tup xs), none, none, none]) (inB z) xs (fun a ha => by
      have h1 := hasTL_mem ht ha
      refine ⟨[some (.int z), some (.tup xs), some a, none, none], by simp [h1], ?_⟩
      have hx := (h.mem ha).nx
      have h2 := cf_is_whole a hx
      cases a <;> first | (cases hx; done) | (simp [r_is_whole, isWholeB, inB, h1] at h2 ⊢; done) | skip
      simp [r_is_whole, isWholeB, inB, h1] at h2 ⊢
      rename_i m
      by_cases c : 0 ≤ m <;> simp [c])
    simp [itemsN, items, ht]
    rw [e]
    simp [-List.all_eq_true, -List.all_eq_false, small (show xs.length ≤ 16777216 by omega)]
    by_cases c : xs.all (inB z) = true
    · have hi : ∀ x ∈ xs, ∃ m, x = .int m := fun x hx => by
        obtain ⟨m, e, _⟩ := inB_int (List.all_eq_true.mp c x hx)
        exact ⟨m, e⟩
      have e2 := lcGo_map1 (fun p : D × D => D.tup [p.1, p.2]) (g := gTupR 2 (gsCons (putR 3) (gsCons (putR 4) gsNil))) (f := e2 ltD (eVar 3) (eVar 4)) (m := [some (.int z), some (.tup xs), none, none, none]) (fun p => D.bl (ltB p.1 p.2)) (xs.zip (xs.drop 1)) (fun p hp => by
        obtain ⟨k1, k2⟩ := zip_mem_drop hp
        obtain ⟨i, h1⟩ := hi _ k1
        obtain ⟨j, h2⟩ := hi _ k2
        refine ⟨[some (.int z), some (.tup xs), none, some p.1, some p.2], by simp [h1, h2], ?_, rfl⟩
        simp [h1, h2, ltB])
      have hz : (xs.zip (xs.drop 1)).length ≤ 16777216 := by simp; omega
      have hr := ris_zip xs
      rw [List.all_map] at hr
      have ec : cutA xs (some 1) none = xs.drop 1 := cut_tail xs 1
      simp [-List.all_eq_true, -List.all_eq_false, c, zip_tt, ec, zipL]
      simp at e2
      rw [e2]
      simp [-List.all_eq_true, -List.all_eq_false, show xs.length ≤ sizeLine + 1 by rw [sizeBig]; omega, isMarksB, c]
      rw [← hr]
      simp [-List.all_eq_true, -List.all_eq_false, Function.comp_def]
    · rw [Bool.not_eq_true] at c
      simp [-List.all_eq_true, -List.all_eq_false, c, isMarksB]
  | non => simp [isMarksB]
  | bl _ => simp [isMarksB]
  | int _ => simp [isMarksB]
  | str _ => simp [isMarksB]
  | lst _ _ => simp [isMarksB]
  | fr _ => simp [isMarksB]
theorem str_mem (s a b : Str) (hs : PyData.strOk s = true) (ha : PyData.strOk a = true) (hb : PyData.strOk b = true) : inD (.str s) (.lst false [.str a, .str b]) = .ok (.bl (a == s || b == s)) := by
  simp only [inD]
  have h1 : Sh 64 (.str s) := sh_str hs
  have h2 : Sh 64 (.lst false [.str a, .str b]) := (sh_lst (n := 1) (by
    intro x hx
    simp only [List.mem_cons, List.not_mem_nil, or_false] at hx
    rcases hx with rfl | rfl
    · exact sh_str ha
    · exact sh_str hb)).mono (by omega)
  have h3 := sh_shaped h2 (by omega)
  simp only [py] at h3
  rw [if_pos (by rw [sh_shaped h1 (by omega), h3]; rfl)]
  simp [memD, eqvD, py, PyData.eqv]
def isPartB : D → Bool
  | .tup [.str s] => s == "click" || s == "rocker"
  | .tup [.str s, .int k] => s == "spring" && decide (1 ≤ k)
  | .tup [.str s, .int z, m] => s == "wheel" && decide (1 ≤ z) && isMarksB z m
  | _ => false
theorem str_ne1 {a b : Str} (h : (a == b) = false) : (b == a) = false := by
  cases e : b == a with
  | false => rfl
  | true => rw [eq_of_beq e] at h; simp at h
theorem good_str {x : Str} (h : Good (.str x)) : PyData.strOk x = true := h.s.1
theorem eq_nil {xs : List D} (h : Good (.tup xs)) : eqD (.tup xs) (.tup []) = .ok (.bl xs.isEmpty) := by
  rw [eqD_ok h.s (sh_tup (n := 63) (by simp))]
  cases xs with
  | nil => rfl
  | cons x xs => simp [eqvD, py, pyL, PyData.eqv, PyData.eqvAll]
theorem eqs {s a : Str} (hs : PyData.strOk s = true) (ha : PyData.strOk a = true) : eqD (.str s) (.str a) = .ok (.bl (s == a)) := eqD_str hs ha
theorem nes {s a : Str} (hs : PyData.strOk s = true) (ha : PyData.strOk a = true) : neD (.str s) (.str a) = .ok (.bl (!(s == a))) := neD_str hs ha
theorem r_is_part (d : D) (h : Good d) : s_is_part [d] = .ok (.bl (isPartB d)) := by
  unfold s_is_part
  refine def_ok1 rfl ?_
  cases d with
  | unk => exact absurd h.nx (by simp [isX_unk])
  | ex _ => exact absurd h.nx (by simp [isX_ex])
  | fn _ => exact absurd h.nx (by simp [isX_fn])
  | dic _ _ => exact absurd h.nx (by simp [isX_dic])
  | dct _ _ _ => exact absurd h.nx (by simp [isX_dct])
  | tup xs =>
    have hn := eq_nil h
    cases xs with
    | nil => simp [hn, isPartB]
    | cons x r =>
      have hx := h.mem (x := x) (by simp)
      have hl := h.len
      cases x with
      | unk => exact absurd hx.nx (by simp [isX_unk])
      | ex _ => exact absurd hx.nx (by simp [isX_ex])
      | fn _ => exact absurd hx.nx (by simp [isX_fn])
      | dic _ _ => exact absurd hx.nx (by simp [isX_dic])
      | dct _ _ _ => exact absurd hx.nx (by simp [isX_dct])
      | str s =>
        have hs := good_str hx
        have e1 := str_mem s "click" "rocker" hs (by decide +kernel) (by decide +kernel)
        have e2 := eqs (a := "spring") hs (by decide +kernel)
        have e3 := nes (a := "wheel") hs (by decide +kernel)
        by_cases c1 : ("click" == s || "rocker" == s) = true
        · rw [c1] at e1
          have c1' : (s == "click" || s == "rocker") = true := by
            rw [Bool.or_eq_true] at c1 ⊢
            exact c1.imp (fun e => by rw [eq_of_beq e]; simp) (fun e => by rw [eq_of_beq e]; simp)
          have c2 : (s == "spring") = false := by
            rw [Bool.or_eq_true] at c1'
            rcases c1' with e | e <;> (rw [eq_of_beq e]; decide +kernel)
          have c3 : (s == "wheel") = false := by
            rw [Bool.or_eq_true] at c1'
            rcases c1' with e | e <;> (rw [eq_of_beq e]; decide +kernel)
          simp [hn, e1]
          match r with
          | [] => simp [isPartB, c1']
          | [y] => cases y <;> simp [isPartB, c2]
          | [y, z] => cases y <;> simp [isPartB, c3]
          | y :: z :: u :: v => simp [isPartB]; omega
        · rw [Bool.not_eq_true] at c1
          rw [c1] at e1
          have c1' : (s == "click" || s == "rocker") = false := by
            rw [Bool.or_eq_false_iff] at c1 ⊢
            exact ⟨str_ne1 c1.1, str_ne1 c1.2⟩
          by_cases c2 : (s == "spring") = true
          · rw [c2] at e2
            have c3 : (s == "wheel") = false := by rw [eq_of_beq c2]; decide +kernel
            simp [hn, e1, e2]
            match r with
            | [] => simp [isPartB, c1']
            | [y] =>
              have hy := (h.mem (x := y) (by simp)).nx
              cases y <;> first | (cases hy; done) | simp [isPartB, c2, cf_is_whole, r_is_whole, isWholeB]
            | [y, z] => cases y <;> simp [isPartB, c3]
            | y :: z :: u :: v =>
              have : ¬ (v.length : Int) + 1 + 1 + 1 + 1 = 2 := by omega
              simp [isPartB, this]
          · rw [Bool.not_eq_true] at c2
            rw [c2] at e2
            by_cases c3 : (s == "wheel") = true
            · rw [c3] at e3
              simp [hn, e1, e2, e3]
              match r with
              | [] => simp [isPartB, c1']
              | [y] => cases y <;> simp [isPartB, c2]
              | [y, z] =>
                have hz := h.mem (x := z) (by simp)
                have hy := (h.mem (x := y) (by simp)).nx
                cases y with
                | unk => cases hy
                | ex _ => cases hy
                | fn _ => cases hy
                | dic _ _ => cases hy
                | dct _ _ _ => cases hy
                | int i =>
                  have e4 := r_is_marks i z hz
                  have e5 : still z = z := still_of z hz.t
                  by_cases c4 : 1 ≤ i <;> simp [isPartB, c3, cf_is_whole, r_is_whole, isWholeB, c4, e4, e5, hz.t]
                | _ => simp [isPartB, c3, cf_is_whole, r_is_whole, isWholeB]
              | y :: z :: u :: v =>
                have : ¬ (v.length : Int) + 1 + 1 + 1 + 1 = 3 := by omega
                simp [isPartB, this]
            · rw [Bool.not_eq_true] at c3
              rw [c3] at e3
              simp [hn, e1, e2, e3]
              match r with
              | [] => simp [isPartB, c1']
              | [y] => cases y <;> simp [isPartB, c2]
              | [y, z] => cases y <;> simp [isPartB, c3]
              | y :: z :: u :: v => simp [isPartB]
      | _ => simp [hn, isPartB]
  | _ => simp [isPartB]
end CK

namespace CK
open PySem PySem.Spec PyProof.Rows L2 CT
theorem cf_is_part (d : D) (h : Good d) : callF s_is_part [d] = .ok (.bl (isPartB d)) := by
  simp [still_of d h.t, r_is_part d h, h.t]
theorem eq_nilL {t : Bool} {xs : List D} (h : Good (.lst t xs)) : eqD (.lst t xs) (.lst false []) = .ok (.bl xs.isEmpty) := by
  rw [eqD_ok h.s (sh_lst (n := 63) (by simp))]
  cases xs with
  | nil => rfl
  | cons x xs => simp [eqvD, py, pyL, PyData.eqv, PyData.eqvAll]
theorem eq_nilF {xs : List D} (h : Good (.fr xs)) : eqD (.fr xs) (.lst false []) = .ok (.bl xs.isEmpty) := by
  rw [eqD_ok h.s (sh_lst (n := 63) (by simp))]
  cases xs with
  | nil => rfl
  | cons x xs => simp [eqvD, py, pyL, PyData.eqv, PyData.eqvAll]
def partsB (xs : List D) : Bool := !xs.isEmpty && xs.all isPartB
def isTrainB : D → Bool
  | .lst _ xs => partsB xs
  | .fr xs => partsB xs
  | _ => false
theorem r_check_train (d : D) (h : Good d) : s_check_train [d] = if isTrainB d = true then .ok .non else .exc "NoTrain" := by
  have main : ∀ xs, (d = .lst false xs ∨ d = .fr xs) → (∀ x ∈ xs, Good x) → xs.length ≤ 1000000 → eqD d (.lst false []) = .ok (.bl xs.isEmpty) → s_check_train [d] = if isTrainB d = true then .ok .non else .exc "NoTrain" := fun xs hd hg hl he => by
    have e := lcGo_bl (g := putR 1) (f := eA (callF s_is_part) (aCons (eVar 1) aNil)) (m := [some d, none]) isPartB xs (fun a ha => by
      have h1 := hg a ha
      exact ⟨[some d, some a], by simp [h1.t], by simp [-callF_eq, cf_is_part a h1]⟩)
    have hT : isTrainB d = partsB xs := by rcases hd with rfl | rfl <;> rfl
    have hi : isiD "list" d = .ok (.bl true) := by rcases hd with rfl | rfl <;> simp
    have hit : itemsN false d = .ok xs := by rcases hd with rfl | rfl <;> simp [itemsN, items]
    rw [hT]
    unfold s_check_train
    by_cases c1 : xs.isEmpty = true
    · rw [if_neg (by simp [partsB, c1])]
      refine def_ex1 rfl ?_
      rw [c1] at he
      simp [hi, he]
    · rw [Bool.not_eq_true] at c1
      rw [c1] at he
      by_cases c2 : xs.all isPartB = true
      · rw [if_pos (by simp only [partsB, c1, c2]; rfl)]
        refine def_ok1 rfl ?_
        simp [hi, he, hit]
        rw [e]
        simp [-List.all_eq_true, -List.all_eq_false, small (show xs.length ≤ 16777216 by omega), c2]
      · rw [Bool.not_eq_true] at c2
        rw [if_neg (by simp only [partsB, c1, c2]; simp)]
        refine def_ex1 rfl ?_
        simp [hi, he, hit]
        rw [e]
        simp [-List.all_eq_true, -List.all_eq_false, small (show xs.length ≤ 16777216 by omega), c2]
  cases d with
  | unk => exact absurd h.nx (by simp [isX_unk])
  | ex _ => exact absurd h.nx (by simp [isX_ex])
  | fn _ => exact absurd h.nx (by simp [isX_fn])
  | dic _ _ => exact absurd h.nx (by simp [isX_dic])
  | dct _ _ _ => exact absurd h.nx (by simp [isX_dct])
  | lst t xs =>
    have ht : t = false := by have := h.t; simp only [hasT, Bool.or_eq_false_iff] at this; exact this.1
    subst ht
    exact main xs (.inl rfl) (fun x hx => h.memL hx) h.lenL (eq_nilL h)
  | fr xs => exact main xs (.inr rfl) (fun x hx => h.memF hx) h.lenF (eq_nilF h)
  | non => rw [if_neg (by simp [isTrainB])]; unfold s_check_train; exact def_ex1 rfl (by simp)
  | bl _ => rw [if_neg (by simp [isTrainB])]; unfold s_check_train; exact def_ex1 rfl (by simp)
  | int _ => rw [if_neg (by simp [isTrainB])]; unfold s_check_train; exact def_ex1 rfl (by simp)
  | str _ => rw [if_neg (by simp [isTrainB])]; unfold s_check_train; exact def_ex1 rfl (by simp)
  | tup _ => rw [if_neg (by simp [isTrainB])]; unfold s_check_train; exact def_ex1 rfl (by simp)
theorem bdL_all {xs : List D} (h : ∀ x ∈ xs, bd x = true) : bdL xs = true := by
  induction xs with
  | nil => rfl
  | cons x xs ih => simp only [bdL, h x (by simp), ih fun y hy => h y (by simp [hy]), Bool.and_self]
theorem bd_ints (l : List Int) : bdL (l.map D.int) = true := bdL_all fun x hx => by obtain ⟨a, _, rfl⟩ := List.mem_map.mp hx; rfl
theorem good_encP {q : Part} (h : PartOk q) (hm : ∀ z ms, q = .wheel z ms → ms.length ≤ 1000000) : Good (encP q) := ⟨hasT_encP q, (sh_encP q).mono (by omega), by
  cases q with
  | wheel z ms => simp [encP, bd, bdL, bd_ints]; exact hm z ms rfl
  | _ => simp [encP, bd, bdL]⟩
def MarksS (l : List Part) : Prop := ∀ z ms, Part.wheel z ms ∈ l → ms.length ≤ 1000000
theorem good_train {l : List Part} (h : TrainOk l) (hm : MarksS l) (t : D) (ht : t = .lst false (l.map encP) ∨ t = .fr (l.map encP)) : Good t := by
  have hg : ∀ x ∈ l.map encP, Good x := fun x hx => by
    obtain ⟨q, hq, rfl⟩ := List.mem_map.mp hx
    exact good_encP (h.1 q hq) fun z ms e => hm z ms (e ▸ hq)
  have hl := h.2
  rcases ht with rfl | rfl
  · exact ⟨by simp, sh_train _ _, by simp only [bd, bdL_all fun x hx => (hg x hx).b]; simp; omega⟩
  · exact ⟨by simp, (sh_fr (shl_map sh_encP l)).mono (by omega), by simp only [bd, bdL_all fun x hx => (hg x hx).b]; simp; omega⟩
theorem ris_ints : ∀ {ms : List Int}, ms.Pairwise (· < ·) → risB (ms.map D.int) = true
  | [], _ => rfl
  | [_], _ => rfl
  | a :: b :: r, h => by
    rw [List.pairwise_cons] at h
    have := ris_ints h.2
    simp only [List.map_cons] at this ⊢
    rw [risB, this]
    simp [ltB, h.1 b (by simp)]
theorem isPart_encP {q : Part} (h : PartOk q) : isPartB (encP q) = true := by
  cases q with
  | wheel z ms =>
    obtain ⟨h1, h2, h3, h4, h5⟩ := h
    simp only [encP, isPartB, isMarksB, ris_ints h5, Bool.and_true, Bool.and_eq_true]
    refine ⟨⟨by decide +kernel, by simpa using h1⟩, ?_⟩
    rw [List.all_map, List.all_eq_true]
    intro m hm
    simp [inB, h4 m hm]
  | click => decide +kernel
  | rocker => decide +kernel
  | spring k => simp only [encP, isPartB, Bool.and_eq_true]; exact ⟨by decide +kernel, by simpa using h.1⟩
theorem parts_encP {l : List Part} (h : ∀ q ∈ l, PartOk q) (hn : l ≠ []) : partsB (l.map encP) = true := by
  unfold partsB
  rw [Bool.and_eq_true, List.all_map, List.all_eq_true]
  refine ⟨by cases l <;> simp at hn ⊢, fun q hq => isPart_encP (h q hq)⟩
structure Trn (l : List Part) : Prop where
  ok : TrainOk l
  m : MarksS l
  ne : l ≠ []
theorem marks_of {l : List Part} (h : TrainOk l) : MarksS l := fun z ms hz => (h.1 _ hz).2.2.1
theorem trn_of {l : List Part} (h : TrainOk l) (hl : 1 ≤ l.length) : Trn l := ⟨h, marks_of h, by intro e; subst e; simp at hl⟩
theorem r_check_trn {l : List Part} (h : Trn l) : s_check_train [.lst false (l.map encP)] = .ok .non := by
  rw [r_check_train _ (good_train h.ok h.m _ (.inl rfl))]
  exact if_pos (parts_encP h.ok.1 h.ne)
theorem r_check_trnF {l : List Part} (h : Trn l) : s_check_train [.fr (l.map encP)] = .ok .non := by
  rw [r_check_train _ (good_train h.ok h.m _ (.inr rfl))]
  exact if_pos (parts_encP h.ok.1 h.ne)
theorem r_places_p (q : Part) : s_places [encP q] = .ok (.int (nplaces q)) := by
  unfold s_places
  refine def_ok1 rfl ?_
  have hm : ∀ s : Str, PyData.strOk s = true → inD (.str s) (.lst false [.str "wheel", .str "spring"]) = .ok (.bl ("wheel" == s || "spring" == s)) := fun s hs => str_mem s "wheel" "spring" hs (by decide +kernel) (by decide +kernel)
  have m1 := hm "wheel" (by decide +kernel)
  have m2 := hm "click" (by decide +kernel)
  have m3 := hm "rocker" (by decide +kernel)
  have m4 := hm "spring" (by decide +kernel)
  rw [show ((("wheel" : Str) == "wheel" || ("spring" : Str) == "wheel") = true) by decide +kernel] at m1
  rw [show ((("wheel" : Str) == "click" || ("spring" : Str) == "click") = false) by decide +kernel] at m2
  rw [show ((("wheel" : Str) == "rocker" || ("spring" : Str) == "rocker") = false) by decide +kernel] at m3
  rw [show ((("wheel" : Str) == "spring" || ("spring" : Str) == "spring") = true) by decide +kernel] at m4
  cases q <;> simp [encP, nplaces, m1, m2, m3, m4]
def placesB : List Part → List D → Bool
  | [], [] => true
  | q :: qs, .int p :: ps => decide (0 ≤ p) && decide (p < nplaces q) && placesB qs ps
  | _, _ => false
def isStandB (l : List Part) : D → Bool
  | .tup xs => placesB l xs
  | _ => false
def plB (q : Part) : D → Bool
  | .int p => decide (0 ≤ p) && decide (p < nplaces q)
  | _ => false
theorem placesB_zip : ∀ {l : List Part} {xs : List D}, xs.length = l.length → ((l.zip xs).all fun p => plB p.1 p.2) = placesB l xs
  | [], [], _ => rfl
  | q :: l, x :: xs, h => by
    have := placesB_zip (l := l) (xs := xs) (by simpa using h)
    rw [List.zip_cons_cons, List.all_cons, this]
    cases x <;> simp [plB, placesB]
theorem placesB_len : ∀ {l : List Part} {xs : List D}, placesB l xs = true → xs.length = l.length
  | [], [], _ => rfl
  | q :: l, .int p :: xs, h => by
    simp only [placesB, Bool.and_eq_true] at h
    simp [placesB_len h.2]
  | [], _ :: _, h => by simp [placesB] at h
  | _ :: _, [], h => by simp [placesB] at h
  | _ :: _, .non :: _, h => by simp [placesB] at h
  | _ :: _, .bl _ :: _, h => by simp [placesB] at h
  | _ :: _, .str _ :: _, h => by simp [placesB] at h
  | _ :: _, .tup _ :: _, h => by simp [placesB] at h
  | _ :: _, .lst _ _ :: _, h => by simp [placesB] at h
  | _ :: _, .fr _ :: _, h => by simp [placesB] at h
  | _ :: _, .unk :: _, h => by simp [placesB] at h
  | _ :: _, .ex _ :: _, h => by simp [placesB] at h
  | _ :: _, .dct _ _ _ :: _, h => by simp [placesB] at h
theorem r_is_stand {l : List Part} (hl : l.length ≤ 1000) (tr : D) (htr : tr = .lst false (l.map encP) ∨ tr = .fr (l.map encP)) (d : D) (h : Good d) : s_is_stand [tr, d] = .ok (.bl (isStandB l d)) := by
  have e0 : lenD [tr] = .ok (.int l.length) := by rcases htr with rfl | rfl <;> simp
  unfold s_is_stand
  refine def_ok1 rfl ?_
  cases d with
  | unk => exact absurd h.nx (by simp [isX_unk])
  | ex _ => exact absurd h.nx (by simp [isX_ex])
  | fn _ => exact absurd h.nx (by simp [isX_fn])
  | dic _ _ => exact absurd h.nx (by simp [isX_dic])
  | dct _ _ _ => exact absurd h.nx (by simp [isX_dct])
  | tup xs =>
    have ht : hasTL xs = false := h.t
    by_cases c : xs.length = l.length
    · have e1 : zipI false [tr, .tup xs] = .ok ((l.zip xs).map fun p => D.tup [encP p.1, p.2]) := by
        rcases htr with rfl | rfl
        · rw [zip_lt]; simp [zipL, List.zip_map_left]
        · rw [zip_ft]; simp [zipL, List.zip_map_left]
      have hx : ∀ p ∈ l.zip xs, hasT p.2 = false := fun p hp => hasTL_mem ht (List.of_mem_zip hp).2
      have e := lcGo_map1 (fun p : Part × D => D.tup [encP p.1, p.2]) (g := gTupR 2 (gsCons (putR 2) (gsCons (putR 3) gsNil))) (f := eAnd (eA (callF s_is_whole) (aCons (eVar 3) aNil)) (eChain leD ltD (eC (.int 0)) (eVar 3) (eA (callF s_places) (aCons (eVar 2) aNil))))
        (m := [some tr, some (.tup xs), none, none]) (fun p => D.bl (plB p.1 p.2)) (l.zip xs) (fun p hp => by
          refine ⟨[some tr, some (.tup xs), some (encP p.1), some p.2], by simp [hx p hp], ?_, rfl⟩
          obtain ⟨q, y⟩ := p
          simp only
          have hy : isX y = false := (h.mem (List.of_mem_zip hp).2).nx
          cases y with
          | unk => exact absurd hy (by simp [isX_unk])
          | ex _ => exact absurd hy (by simp [isX_ex])
          | fn _ => exact absurd hy (by simp [isX_fn])
          | dic _ _ => exact absurd hy (by simp [isX_dic])
          | dct _ _ _ => exact absurd hy (by simp [isX_dct])
          | int i => by_cases c0 : 0 ≤ i <;> simp [cf_is_whole, r_is_whole, isWholeB, r_places_p, plB, c0]
          | _ => simp [-callF_eq, cf_is_whole, isWholeB, plB])
      simp [c, e0, e1]
      rw [e]
      simp [-List.all_eq_true, -List.all_eq_false, small (show min l.length xs.length ≤ 16777216 by omega)]
      exact placesB_zip c
    · have c' : ¬ (xs.length : Int) = (l.length : Int) := by omega
      simp [c', e0, isStandB]
      cases e : placesB l xs with
      | false => rfl
      | true => exact absurd (placesB_len e) c
  | _ => simp [isStandB]
theorem isStand_ok : ∀ {l : List Part} {st : List Int}, StandOk l st → placesB l (st.map D.int) = true
  | [], [], _ => rfl
  | q :: l, p :: st, h => by
    simp only [List.map_cons, placesB, isStand_ok h.2.2, Bool.and_true, Bool.and_eq_true]
    exact ⟨by simpa using h.1, by simpa using h.2.1⟩
theorem good_stand {st : List Int} (h : st.length ≤ 1000000) : Good (.tup (st.map .int)) := ⟨by simp, (sh_ints st 0).mono (by omega), by simp only [bd, bd_ints]; simp; omega⟩
theorem still_good {d : D} (h : Good d) : still d = d := still_of d h.t
theorem r_check_stand {l : List Part} (h : Trn l) (tr : D) (htr : tr = .lst false (l.map encP) ∨ tr = .fr (l.map encP)) (d : D) (hd : Good d) : s_check_stand [tr, d] = if isStandB l d = true then .ok .non else .exc "NoStand" := by
  have gt := good_train h.ok h.m tr htr
  have e1 : s_check_train [tr] = .ok .non := by rcases htr with rfl | rfl; exact r_check_trn h; exact r_check_trnF h
  have e2 := r_is_stand h.ok.2 tr htr d hd
  have gd := hd.t
  by_cases c : isStandB l d = true
  · rw [if_pos c]; rw [c] at e2
    unfold s_check_stand
    exact def_ok1 rfl (by simp [still_good gt, still_good hd, e1, e2, gt.t, hd.t])
  · rw [if_neg c]; rw [Bool.not_eq_true] at c; rw [c] at e2
    unfold s_check_stand
    exact def_ex1 rfl (by simp [still_good gt, still_good hd, e1, e2, gt.t, hd.t])
theorem r_check_std {l : List Part} {st : List Int} (h : Trn l) (hs : StandOk l st) : s_check_stand [.lst false (l.map encP), .tup (st.map .int)] = .ok .non := by
  rw [r_check_stand h _ (.inl rfl) _ (good_stand (by have := hs.length; have := h.ok.2; omega))]
  exact if_pos (show isStandB l (.tup (st.map .int)) = true from isStand_ok hs)
structure Deed where
  i : Int
  w : Int
  n : Int
  deriving DecidableEq
def encDd (d : Deed) : D := .tup [.int d.i, .int d.w, .int d.n]
def DeedOk (len : Nat) (d : Deed) : Prop := 0 ≤ d.i ∧ d.i < len ∧ (d.w = 1 ∨ d.w = -1) ∧ 0 ≤ d.n
def isDeedB (len : Nat) : D → Bool
  | .tup [.int i, .int w, .int n] => decide (0 ≤ i) && decide (i < len) && (decide (1 = w) || decide (-1 = w)) && decide (0 ≤ n)
  | _ => false
theorem sh_il (l : List Int) (t : Bool) : Sh 64 (.lst t (l.map .int)) := (sh_lst (n := 1) (shl_map (fun a => sh_int _ a) l)).mono (by omega)
theorem inD_intsL (t : Bool) (x : Int) (ms : List Int) : inD (.int x) (.lst t (ms.map .int)) = .ok (.bl (decide (x ∈ ms))) := by
  simp only [inD]
  have h3 := sh_shaped (sh_il ms t) (by omega)
  simp only [py] at h3
  rw [if_pos (by rw [sh_shaped (sh_int 64 x) (by omega), h3]; rfl), mem_ints]
theorem in_ways (w : Int) : inD (.int w) (.lst false [.int 1, .int (-1)]) = .ok (.bl (decide (1 = w) || decide (-1 = w))) := by
  have := inD_intsL false w [1, -1]
  simp only [List.map_cons, List.map_nil] at this
  rw [this]
  congr 2
  simp only [List.mem_cons, List.not_mem_nil, or_false, Bool.decide_or]
  congr 1 <;> (congr 1; exact propext ⟨fun h => h.symm, fun h => h.symm⟩)
theorem r_is_deed {l : List Part} (tr : D) (htr : tr = .lst false (l.map encP) ∨ tr = .fr (l.map encP)) (d : D) (h : Good d) : s_is_deed [tr, d] = .ok (.bl (isDeedB l.length d)) := by
  have e0 : lenD [tr] = .ok (.int l.length) := by rcases htr with rfl | rfl <;> simp
  unfold s_is_deed
  refine def_ok1 rfl ?_
  cases d with
  | unk => exact absurd h.nx (by simp [isX_unk])
  | ex _ => exact absurd h.nx (by simp [isX_ex])
  | fn _ => exact absurd h.nx (by simp [isX_fn])
  | dic _ _ => exact absurd h.nx (by simp [isX_dic])
  | dct _ _ _ => exact absurd h.nx (by simp [isX_dct])
  | tup xs =>
    have hx := h.len
    have ht : hasTL xs = false := h.t
    have e := lcGo_bl (g := putR 5) (f := eA (callF s_is_whole) (aCons (eVar 5) aNil)) (m := [some tr, some (.tup xs), none, none, none, none]) isWholeB xs (fun a ha => by
      exact ⟨[some tr, some (.tup xs), none, none, none, some a], by simp [hasTL_mem ht ha], by simp [-callF_eq, cf_is_whole a (h.mem ha).nx]⟩)
    by_cases c : xs.length = 3
    · have c' : (xs.length : Int) = 3 := by omega
      simp [c', itemsN, items]
      rw [e]
      simp [-List.all_eq_true, -List.all_eq_false, small (show xs.length ≤ 16777216 by omega)]
      match xs, c with
      | [x, y, z], _ =>
        have h1 : hasT x = false := hasTL_mem ht (by simp)
        have h2 : hasT y = false := hasTL_mem ht (by simp)
        have h3 : hasT z = false := hasTL_mem ht (by simp)
        cases x with
        | int i => cases y with
          | int w => cases z with
            | int n =>
              have hw := in_ways w
              by_cases c0 : 0 ≤ i
              · by_cases c1 : i < l.length
                · cases c2 : (decide (1 = w) || decide (-1 = w)) with
                  | false => rw [c2] at hw; simp only [Bool.or_eq_false_iff, decide_eq_false_iff_not] at c2; simp [isWholeB, c0, c1, e0, hw, isDeedB, c2]
                  | true => rw [c2] at hw; simp only [Bool.or_eq_true, decide_eq_true_eq] at c2; simp [isWholeB, c0, c1, e0, hw, isDeedB, c2]
                · simp [isWholeB, c0, c1, e0, isDeedB]
              · simp [isWholeB, c0, isDeedB]
            | _ => simp [isWholeB, isDeedB]
          | _ => simp [isWholeB, isDeedB]
        | _ => simp [isWholeB, isDeedB]
    · have c' : ¬ (xs.length : Int) = 3 := by omega
      have e3 : isDeedB l.length (.tup xs) = false := by
        match xs, c with
        | [], _ => rfl
        | [_], _ => simp [isDeedB]
        | [_, _], _ => simp [isDeedB]
        | [_, _, _], c => simp at c
        | _ :: _ :: _ :: _ :: _, _ => simp [isDeedB]
      simp [c', e3]
  | _ => simp [isDeedB]
def isRowB (len : Nat) : D → Bool
  | .lst _ xs => xs.all (isDeedB len)
  | .fr xs => xs.all (isDeedB len)
  | _ => false
theorem r_check_row {l : List Part} (hl : TrainOk l) (tr : D) (htr : tr = .lst false (l.map encP) ∨ tr = .fr (l.map encP)) (d : D) (h : Good d) : s_check_row [tr, d] = if isRowB l.length d = true then .ok .non else .exc "NoRow" := by
  have htT : hasT tr = false := by rcases htr with rfl | rfl <;> simp
  have hst : still tr = tr := still_of tr htT
  have main : ∀ xs, (d = .lst false xs ∨ d = .fr xs) → (∀ x ∈ xs, Good x) → xs.length ≤ 1000000 → s_check_row [tr, d] = if isRowB l.length d = true then .ok .non else .exc "NoRow" := fun xs hd hg hx => by
    have e := lcGo_bl (g := putR 2) (f := eA (callF s_is_deed) (aCons (eVar 0) (aCons (eVar 2) aNil))) (m := [some tr, some d, none]) (isDeedB l.length) xs (fun a ha => by
      have h1 := hg a ha
      refine ⟨[some tr, some d, some a], by simp [h1.t], ?_⟩
      simp [hst, still_good h1, r_is_deed tr htr a h1, htT, h1.t])
    have hT : isRowB l.length d = xs.all (isDeedB l.length) := by rcases hd with rfl | rfl <;> rfl
    have hi : isiD "list" d = .ok (.bl true) := by rcases hd with rfl | rfl <;> simp
    have hit : itemsN false d = .ok xs := by rcases hd with rfl | rfl <;> simp [itemsN, items]
    rw [hT]
    unfold s_check_row
    by_cases c2 : xs.all (isDeedB l.length) = true
    · rw [if_pos c2]
      refine def_ok1 rfl ?_
      simp [hi, hit]
      rw [e]
      simp [-List.all_eq_true, -List.all_eq_false, small (show xs.length ≤ 16777216 by omega), c2]
    · rw [if_neg c2]
      rw [Bool.not_eq_true] at c2
      refine def_ex1 rfl ?_
      simp [hi, hit]
      rw [e]
      simp [-List.all_eq_true, -List.all_eq_false, small (show xs.length ≤ 16777216 by omega), c2]
  cases d with
  | unk => exact absurd h.nx (by simp [isX_unk])
  | ex _ => exact absurd h.nx (by simp [isX_ex])
  | fn _ => exact absurd h.nx (by simp [isX_fn])
  | dic _ _ => exact absurd h.nx (by simp [isX_dic])
  | dct _ _ _ => exact absurd h.nx (by simp [isX_dct])
  | lst t xs =>
    have ht : t = false := by have := h.t; simp only [hasT, Bool.or_eq_false_iff] at this; exact this.1
    subst ht
    exact main xs (.inl rfl) (fun x hx => h.memL hx) h.lenL
  | fr xs => exact main xs (.inr rfl) (fun x hx => h.memF hx) h.lenF
  | non => rw [if_neg (by simp [isRowB])]; unfold s_check_row; exact def_ex1 rfl (by simp)
  | bl _ => rw [if_neg (by simp [isRowB])]; unfold s_check_row; exact def_ex1 rfl (by simp)
  | int _ => rw [if_neg (by simp [isRowB])]; unfold s_check_row; exact def_ex1 rfl (by simp)
  | str _ => rw [if_neg (by simp [isRowB])]; unfold s_check_row; exact def_ex1 rfl (by simp)
  | tup _ => rw [if_neg (by simp [isRowB])]; unfold s_check_row; exact def_ex1 rfl (by simp)
@[simp] theorem hasT_encDd (d : Deed) : hasT (encDd d) = false := by simp [encDd]
@[simp] theorem still_encDd (d : Deed) : still (encDd d) = encDd d := by simp [encDd]
@[simp] theorem hasTL_encDd (l : List Deed) : hasTL (l.map encDd) = false := hasTL_map hasT_encDd l
@[simp] theorem stillL_encDd (l : List Deed) : stillL (l.map encDd) = l.map encDd := stillL_map still_encDd l
theorem sh_encDd (d : Deed) : Sh 2 (encDd d) := sh_ints [d.i, d.w, d.n] 1
theorem good_row {row : List Deed} (h : row.length ≤ 1000000) : Good (.lst false (row.map encDd)) :=
  ⟨by simp, (sh_lst (shl_map sh_encDd row)).mono (by omega), by simp only [bd, bdL_all (xs := row.map encDd) fun x hx => by obtain ⟨a, _, rfl⟩ := List.mem_map.mp hx; simp [encDd, bd, bdL]]; simp; omega⟩
def RowOk (len : Nat) (row : List Deed) : Prop := (∀ d ∈ row, DeedOk len d) ∧ row.length ≤ 1000000
theorem isRow_ok {len : Nat} {row : List Deed} (h : RowOk len row) : (row.map encDd).all (isDeedB len) = true := by
  rw [List.all_map, List.all_eq_true]
  intro d hd
  obtain ⟨h1, h2, h3, h4⟩ := h.1 d hd
  simp only [Function.comp, encDd, isDeedB, Bool.and_eq_true, Bool.or_eq_true, decide_eq_true_eq]
  exact ⟨⟨⟨h1, h2⟩, h3.imp (·.symm) (·.symm)⟩, h4⟩
theorem r_check_rw {l : List Part} {row : List Deed} (h : TrainOk l) (hr : RowOk l.length row) : s_check_row [.lst false (l.map encP), .lst false (row.map encDd)] = .ok .non := by
  rw [r_check_row h _ (.inl rfl) _ (good_row hr.2)]
  exact if_pos (show isRowB l.length (.lst false (row.map encDd)) = true from isRow_ok hr)
def walkN (l : List Part) : List Int → List Deed → List Int × Int
  | st, [] => (st, 0)
  | st, d :: row => ((walkN l (pushI l st d.i.toNat d.w d.n).1 row).1, (pushI l st d.i.toNat d.w d.n).2 + (walkN l (pushI l st d.i.toNat d.w d.n).1 row).2)
theorem walkN_len (l : List Part) : ∀ (row : List Deed) (st : List Int), (walkN l st row).1.length = st.length
  | [], _ => rfl
  | d :: row, st => by rw [walkN, walkN_len l row, pushI_len]
@[simp] theorem sAug_eq (i : Nat) (op : D → D → R D) (f : SemE) (m : Sl) : sAug i op f m = match m[i]? with
  | some (some z) => ofR m (f m) fun d => ofR m (op z d) fun r => if (hasT z || hasT r) = true then .stuck else .nx (m.set i (some r))
  | _ => .stuck := nr rfl
@[simp] theorem augD_int (i j : Int) : augD (.int i) (.int j) = .ok (.int (i + j)) := nr rfl
theorem r_walked {l : List Part} {st : List Int} {row : List Deed} (h : TrainOk l) (hs : st.length = l.length) (hr : RowOk l.length row) :
    s_walked [.lst false (l.map encP), .tup (st.map .int), .lst false (row.map encDd)] = .ok (encR (walkN l st row)) := by
  unfold s_walked
  refine def_ok1 rfl ?_
  simp
  obtain ⟨I, hI⟩ : ∃ I : Nat → Sl → Prop, I = fun k m => ∃ st' n x y z u, m = [some (.lst false (l.map encP)), some (.tup (st'.map .int)), some (.lst false (row.map encDd)), some (.int n), x, y, z, u] ∧ st'.length = l.length ∧
      walkN l st row = ((walkN l st' (row.drop k)).1, n + (walkN l st' (row.drop k)).2) := ⟨_, rfl⟩
  refine wp_map I ?_ (fun k d hk m hm => ?_) (fun m hm => ?_)
  · rw [hI]; exact ⟨st, 0, none, none, none, none, rfl, hs, by simp⟩
  · rw [hI] at hm
    obtain ⟨st', n, x, y, z, u, rfl, hs', hw⟩ := hm
    obtain ⟨d1, d2, d3, d4⟩ := hr.1 d (List.mem_of_getElem? hk)
    obtain ⟨j, hj⟩ := Int.eq_ofNat_of_zero_le d1
    have e := r_pushed_often l st' j d.w d.n h hs' (by omega) d3
    have hd : row.drop k = d :: row.drop (k + 1) := by
      obtain ⟨h1, h2⟩ := List.getElem?_eq_some_iff.mp hk
      rw [← h2]; exact List.drop_eq_getElem_cons h1
    rw [hd, walkN] at hw
    simp [encDd, hj, e, encR]
    rw [hI]
    refine ⟨(pushI l st' j d.w d.n).1, n + (pushI l st' j d.w d.n).2, _, _, _, _, rfl, by rw [pushI_len, hs'], ?_⟩
    rw [hw, hj, Int.toNat_natCast, Int.add_assoc]
  · rw [hI] at hm
    obtain ⟨st', n, x, y, z, u, rfl, hs', hw⟩ := hm
    rw [List.drop_length, walkN] at hw
    simp [hw, encR]
theorem r_left {l : List Part} {st : List Int} {row : List Deed} (h : Trn l) (hs : StandOk l st) (hr : RowOk l.length row) :
    s_left [.lst false (l.map encP), .tup (st.map .int), .lst false (row.map encDd)] = .ok (encR (walkN l st row)) := by
  unfold s_left
  refine def_ok1 rfl ?_
  simp [r_check_std h hs, r_check_rw h.ok hr, r_walked h.ok hs.length hr]
end CK

namespace CK
open PySem PySem.Spec PyProof.Rows L2 CT
theorem sumI_add {α : Type} (f g : α → Int) : ∀ l : List α, sumI (l.map fun a => f a + g a) = sumI (l.map f) + sumI (l.map g)
  | [] => rfl
  | a :: l => by simp only [List.map_cons, sumI_cons, sumI_add f g l]; omega
theorem sumI_congr {α : Type} {f g : α → Int} : ∀ {l : List α}, (∀ a ∈ l, f a = g a) → sumI (l.map f) = sumI (l.map g)
  | [], _ => rfl
  | a :: l, h => by
    have ih := sumI_congr (f := f) (g := g) (l := l) fun b hb => h b (by simp [hb])
    simp only [List.map_cons, sumI_cons, h a (by simp), ih]
theorem sumI_nonneg : ∀ {l : List Int}, (∀ a ∈ l, 0 ≤ a) → 0 ≤ sumI l
  | [], _ => by simp
  | a :: l, h => by
    have := h a (by simp)
    have := sumI_nonneg (l := l) fun b hb => h b (by simp [hb])
    rw [sumI_cons]; omega
theorem rest_of (x : Int) {z : Int} : x % z = x - z * (x / z) := by have := Int.emod_add_mul_ediv x z; omega
theorem div_shift {z : Int} (hz : 1 ≤ z) (y k : Int) : (y - z * k) / z = y / z - k := by
  have := Int.add_mul_ediv_left y (-k) (show z ≠ 0 by omega)
  rw [Int.mul_neg] at this
  rw [Int.sub_eq_add_neg, this]; omega
theorem div_mono {z a b : Int} (hz : 1 ≤ z) (h : a ≤ b) : a / z ≤ b / z := Int.ediv_le_ediv (by omega) h
theorem pushP_range {q : Part} {p w n : Int} (h : PartOk q) (h0 : 0 ≤ p) (h1 : p < nplaces q) (hw : w = 1 ∨ w = -1) (hn : 0 ≤ n) :
    0 ≤ (pushP q p w n).1 ∧ (pushP q p w n).1 < nplaces q ∧ 0 ≤ (pushP q p w n).2 := by
  cases q with
  | wheel z ms =>
    obtain ⟨hz, _⟩ := h
    simp only [pushP, nplaces]
    refine ⟨Int.emod_nonneg _ (by omega), Int.emod_lt_of_pos _ (by omega), ?_⟩
    split
    · rw [metN_sum hz p n hn]
      refine sumI_nonneg fun a ha => ?_
      obtain ⟨m, _, rfl⟩ := List.mem_map.mp ha
      have := div_mono hz (show p - m ≤ p - m + n by omega); omega
    · rw [leftN_sum hz p n hn]
      refine sumI_nonneg fun a ha => ?_
      obtain ⟨m, _, rfl⟩ := List.mem_map.mp ha
      have := div_mono hz (show p - m - n ≤ p - m by omega); omega
  | click => rcases hw with rfl | rfl <;> simp [pushP, nplaces, hn]
  | rocker =>
    simp only [nplaces] at h1
    simp only [pushP, nplaces]
    split
    · exact ⟨h0, h1, by simp⟩
    · refine ⟨?_, ?_, ?_⟩
      · simp only; split <;> omega
      · simp only; split <;> omega
      · simp only; split <;> omega
  | spring k =>
    obtain ⟨hk, _⟩ := h
    simp only [nplaces] at h1
    simp only [pushP, nplaces]
    split
    · exact ⟨Int.emod_nonneg _ (by omega), Int.emod_lt_of_pos _ (by omega), Int.ediv_nonneg (by omega) (by omega)⟩
    · refine ⟨?_, ?_, by simp⟩
      · simp only; split <;> omega
      · simp only; split <;> omega
theorem pushP_add {q : Part} {p w a b : Int} (h : PartOk q) (h0 : 0 ≤ p) (h1 : p < nplaces q) (hw : w = 1 ∨ w = -1) (ha : 0 ≤ a) (hb : 0 ≤ b) :
    pushP q p w (a + b) = ((pushP q (pushP q p w a).1 w b).1, (pushP q p w a).2 + (pushP q (pushP q p w a).1 w b).2) := by
  cases q with
  | wheel z ms =>
    obtain ⟨hz, _⟩ := h
    rcases hw with rfl | rfl
    · simp only [pushP, if_true, Int.one_mul]
      rw [metN_sum hz p (a + b) (by omega), metN_sum hz p a ha, metN_sum hz _ b hb, ← sumI_add]
      refine Prod.ext ?_ (sumI_congr fun m _ => ?_)
      · simp only; rw [Int.emod_add_emod, Int.add_assoc]
      · rw [rest_of (p + a) (z := z)]
        have e1 := div_shift hz (p + a - m + b) ((p + a) / z)
        have e2 := div_shift hz (p + a - m) ((p + a) / z)
        rw [show p + a - z * ((p + a) / z) - m + b = p + a - m + b - z * ((p + a) / z) by omega, show p + a - z * ((p + a) / z) - m = p + a - m - z * ((p + a) / z) by omega, e1, e2]
        rw [show p - m + (a + b) = p + a - m + b by omega, show p - m + a = p + a - m by omega]
        omega
    · have n1 : ¬ ((-1 : Int) = 1) := by omega
      simp only [pushP, if_neg n1]
      rw [leftN_sum hz p (a + b) (by omega), leftN_sum hz p a ha, leftN_sum hz _ b hb, ← sumI_add]
      refine Prod.ext ?_ (sumI_congr fun m _ => ?_)
      · simp only; rw [Int.emod_add_emod]; congr 1; omega
      · rw [rest_of (p + -1 * a) (z := z)]
        have e1 := div_shift hz (p + -1 * a - m - b) ((p + -1 * a) / z)
        have e2 := div_shift hz (p + -1 * a - m) ((p + -1 * a) / z)
        rw [show p + -1 * a - z * ((p + -1 * a) / z) - m - b = p + -1 * a - m - b - z * ((p + -1 * a) / z) by omega, show p + -1 * a - z * ((p + -1 * a) / z) - m = p + -1 * a - m - z * ((p + -1 * a) / z) by omega, e1, e2]
        rw [show p - m - (a + b) = p + -1 * a - m - b by omega, show p - m - a = p + -1 * a - m by omega]
        omega
  | click => simp [pushP, Int.add_mul]
  | rocker =>
    simp only [nplaces] at h1
    have : p = 0 ∨ p = 1 := by omega
    by_cases ea : a = 0
    · subst ea; simp [pushP]
    · by_cases eb : b = 0
      · subst eb; simp [pushP, ea]
      · have e : ¬ a + b = 0 := by omega
        rcases hw with rfl | rfl <;> rcases this with rfl | rfl <;> simp [pushP, ea, eb, e]
  | spring k =>
    obtain ⟨hk, _⟩ := h
    rcases hw with rfl | rfl
    · simp only [pushP, if_true]
      refine Prod.ext ?_ ?_
      · simp only; rw [Int.emod_add_emod, Int.add_assoc]
      · simp only
        rw [rest_of (p + a) (z := k), show p + a - k * ((p + a) / k) + b = p + (a + b) - k * ((p + a) / k) by omega, div_shift hk]; omega
    · have n1 : ¬ ((-1 : Int) = 1) := by omega
      simp only [pushP, if_neg n1]
      refine Prod.ext ?_ (by simp)
      simp only; split <;> split <;> (try split) <;> omega
theorem pushT_ok : ∀ {l : List Part} {st : List Int} {w n : Int}, (∀ q ∈ l, PartOk q) → StandOk l st → (w = 1 ∨ w = -1) → 0 ≤ n → StandOk l (pushT l st w n).1 ∧ 0 ≤ (pushT l st w n).2
  | [], [], _, _, _, _, _, hn => ⟨trivial, hn⟩
  | q :: l, p :: st, w, n, h, hs, hw, hn => by
    obtain ⟨a1, a2, a3⟩ := pushP_range (h q (by simp)) hs.1 hs.2.1 hw hn
    have ih := pushT_ok (l := l) (st := st) (w := w) (fun a ha => h a (by simp [ha])) hs.2.2 hw a3
    exact ⟨⟨a1, a2, ih.1⟩, ih.2⟩
theorem pushT_add : ∀ {l : List Part} {st : List Int} {w a b : Int}, (∀ q ∈ l, PartOk q) → StandOk l st → (w = 1 ∨ w = -1) → 0 ≤ a → 0 ≤ b →
    pushT l st w (a + b) = ((pushT l (pushT l st w a).1 w b).1, (pushT l st w a).2 + (pushT l (pushT l st w a).1 w b).2)
  | [], [], _, _, _, _, _, _, _, _ => rfl
  | q :: l, p :: st, w, a, b, h, hs, hw, ha, hb => by
    have hq := h q (by simp)
    have h' : ∀ q ∈ l, PartOk q := fun c hc => h c (by simp [hc])
    obtain ⟨a1, a2, a3⟩ := pushP_range hq hs.1 hs.2.1 hw ha
    obtain ⟨b1, b2, b3⟩ := pushP_range hq a1 a2 hw hb
    have e := pushP_add hq hs.1 hs.2.1 hw ha hb
    simp only [pushT]
    rw [e]
    simp only
    rw [pushT_add h' hs.2.2 hw a3 b3]
theorem StandOk.take_app : ∀ {l : List Part} {st : List Int} (i : Nat) {t : List Int}, StandOk l st → StandOk (l.drop i) t → StandOk l (st.take i ++ t)
  | _, _, 0, _, _, h => by simpa using h
  | [], [], _ + 1, t, h, h' => by simpa using h'
  | _ :: _, _ :: _, i + 1, t, h, h' => ⟨h.1, h.2.1, StandOk.take_app i h.2.2 h'⟩
theorem pushI_ok {l : List Part} {st : List Int} {i : Nat} {w n : Int} (h : ∀ q ∈ l, PartOk q) (hs : StandOk l st) (hw : w = 1 ∨ w = -1) (hn : 0 ≤ n) : StandOk l (pushI l st i w n).1 :=
  hs.take_app i (pushT_ok (fun q hq => h q (List.mem_of_mem_drop hq)) (hs.drop i) hw hn).1
theorem walkN_ok {l : List Part} (h : ∀ q ∈ l, PartOk q) : ∀ {row : List Deed} {st : List Int}, StandOk l st → (∀ d ∈ row, DeedOk l.length d) → StandOk l (walkN l st row).1
  | [], _, hs, _ => hs
  | d :: row, st, hs, hr => by
    have hd := hr d (by simp)
    rw [walkN]
    exact walkN_ok h (pushI_ok h hs hd.2.2.1 hd.2.2.2) fun e he => hr e (by simp [he])
end CK

namespace CK
open PySem PySem.Spec PyProof.Rows L2 CT
end CK

namespace CK
open PySem PySem.Spec PyProof.Rows L2 CT
theorem divD_z {i z : Int} (h1 : 1 ≤ z) (h2 : z < 2 ^ 2000) : divD (.int i) (.int z) = .ok (.int (i / z)) := divD_ok (by omega) (divOk_z h1 h2)
theorem modD_z {i z : Int} (h1 : 1 ≤ z) : modD (.int i) (.int z) = .ok (.int (i % z)) := modD_ok (by omega)
end CK

namespace CK
open PySem PySem.Spec PyProof.Rows L2 CT
def encRow (row : List Deed) : D := .lst false (row.map encDd)
theorem wp_cut {r : RS} {Q : Po} (P : Sl → Prop) (h : wp r ⟨P, fun _ => False, fun _ => False, fun _ => False, fun _ => False⟩) (k : ∀ m, P m → Q.nx m) : wp r Q :=
  wp_imp h k (fun _ z => z.elim) (fun _ z => z.elim) (fun _ z => z.elim) (fun _ z => z.elim)
theorem enumL_map {α : Type} (enc : α → D) (l : List α) : enumL (l.map enc) = l.zipIdx.map fun p => D.tup [.int (p.2 : Int), enc p.1] := by
  apply List.ext_getElem?
  intro i
  unfold enumL rng
  rw [List.getElem?_map, List.getElem?_map, List.getElem?_zipIdx]
  by_cases h : i < l.length
  · have h1 : l[i]? = some l[i] := List.getElem?_eq_getElem h
    rw [h1]
    have hz : (((List.range (l.map enc).length).map fun i => D.int ((0 : Int) + (i : Nat))).zip (l.map enc))[i]? = some (D.int i, enc l[i]) := List.getElem?_zip_eq_some.mpr ⟨by simp [h], by simp [h]⟩
    rw [hz]
    simp
  · have h1 : l[i]? = none := List.getElem?_eq_none (by omega)
    rw [h1, List.getElem?_eq_none (by simp; omega)]
    rfl
end CK

namespace CK
open PySem PySem.Spec PyProof.Rows L2 CT
def encS (st : List Int) : D := .tup (st.map .int)
@[simp] theorem hasT_encS (s : List Int) : hasT (encS s) = false := by simp [encS]
@[simp] theorem still_encS (s : List Int) : still (encS s) = encS s := by simp [encS]
def more1 (q : Part) (st : List Int) : List (List Int) := (List.range (nplaces q).toNat).map fun i : Nat => st ++ [(i : Int)]
def moreS (q : Part) (told : List (List Int)) : List (List Int) := told.flatMap (more1 q)
def allF : List (List Int) → List Part → List (List Int)
  | told, [] => told
  | told, q :: l => allF (moreS q told) l
def allS (l : List Part) : List (List Int) := allF [[]] l
theorem moreS_len {q : Part} (hq : PartOk q) : ∀ told : List (List Int), ((moreS q told).length : Int) = told.length * nplaces q
  | [] => by simp [moreS]
  | t :: told => by
    have ih := moreS_len hq told
    have hn := nplaces_pos hq
    simp only [moreS, List.flatMap_cons, List.length_append, more1, List.length_map, List.length_range, List.length_cons] at ih ⊢
    rw [Int.natCast_add, ih, Int.natCast_add, Int.add_mul]
    have : ((nplaces q).toNat : Int) = nplaces q := by omega
    omega
theorem allF_len : ∀ {l : List Part} {told : List (List Int)}, (∀ q ∈ l, PartOk q) → ((allF told l).length : Int) = told.length * prodN l
  | [], told, _ => by simp [allF, prodN]
  | q :: l, told, h => by
    rw [allF, allF_len fun a ha => h a (by simp [ha]), moreS_len (h q (by simp)), Int.mul_assoc]
    rfl
theorem allS_len {l : List Part} (h : ∀ q ∈ l, PartOk q) : ((allS l).length : Int) = prodN l := by
  unfold allS; rw [allF_len h]; simp
end CK

namespace CK
open PySem PySem.Spec PyProof.Rows L2 CT
def insK (i : Nat) (ds : List D) (m1 : Sl) : RS := match ds with
  | [.int k, d] => mine i m1 fun xs => if 0 ≤ k ∧ k < 2 ^ 63 ∧ xs.length < sizeLine then .nx (m1.set i (some (.lst true (xs.take k.toNat ++ [d] ++ xs.drop k.toNat)))) else .stuck
  | _ => .stuck
theorem sInsX_eq (i : Nat) (h : SemXA) (m : Sl) : sInsX i h m = mine i m fun _ => ofX (h m) fun ds m1 => insK i ds m1 := by
  unfold sInsX insK
  congr 1
  funext _
  cases h m with
  | stuck => rfl
  | exc c => rfl
  | ok r =>
    obtain ⟨ds, m1⟩ := r
    simp only [ofX]
    split <;> simp_all
@[simp] theorem insK_eq (i : Nat) (k : Int) (d : D) (m1 : Sl) : insK i [.int k, d] m1 = mine i m1 fun xs => if 0 ≤ k ∧ k < 2 ^ 63 ∧ xs.length < sizeLine then .nx (m1.set i (some (.lst true (xs.take k.toNat ++ [d] ++ xs.drop k.toNat)))) else .stuck := nr rfl
@[simp] theorem wp_asgX {Q : Po} (f : SemX) (g : SemG) (m : Sl) : wp (sAsgX f g m) Q = wpX (f m) fun d m1 => wpG (g d m1) Q.nx := by
  unfold sAsgX
  rw [wp_ofX]
  congr 1
  funext d m1
  cases g d m1 <;> rfl
@[simp] theorem bRetV_at {i : Nat} {m : Sl} {P : D → Sl → Prop} : wpB (bRetV i m) P = match m[i]? with
  | some (some (.lst true ds)) => hasTL ds = false ∧ P (.lst false ds) (m.set i (some (.lst false ds)))
  | _ => False := by
  unfold bRetV
  split
  · split <;> simp_all
  · simp_all
theorem r_places_2 (q : Part) : s_law_places_2 [encP q] = .ok (.int (nplaces q)) := by
  unfold s_law_places_2
  refine def_ok1 rfl ?_
  have hm : ∀ s : Str, PyData.strOk s = true → inD (.str s) (.lst false [.str "wheel", .str "spring"]) = .ok (.bl ("wheel" == s || "spring" == s)) := fun s hs => str_mem s "wheel" "spring" hs (by decide +kernel) (by decide +kernel)
  have m1 := hm "wheel" (by decide +kernel)
  have m2 := hm "click" (by decide +kernel)
  have m3 := hm "rocker" (by decide +kernel)
  have m4 := hm "spring" (by decide +kernel)
  rw [show ((("wheel" : Str) == "wheel" || ("spring" : Str) == "wheel") = true) by decide +kernel] at m1
  rw [show ((("wheel" : Str) == "click" || ("spring" : Str) == "click") = false) by decide +kernel] at m2
  rw [show ((("wheel" : Str) == "rocker" || ("spring" : Str) == "rocker") = false) by decide +kernel] at m3
  rw [show ((("wheel" : Str) == "spring" || ("spring" : Str) == "spring") = true) by decide +kernel] at m4
  cases q <;> simp [encP, nplaces, m1, m2, m3, m4]
end CK

namespace CK
open PySem PySem.Spec PyProof.Rows L2 CT
end CK

namespace CK
open PySem PySem.Spec PyProof.Rows L2 CT
theorem sh_encS (s : List Int) : Sh 64 (encS s) := (sh_ints s 0).mono (by omega)
def mineR (i : Nat) (m : Sl) (k : List D → R Sl) : R Sl := match m[i]? with
  | some (some (.lst true xs)) => k xs
  | _ => .stuck
@[simp] theorem mineR_0 {xs : List D} {r : Sl} {k : List D → R Sl} : mineR 0 (some (.lst true xs) :: r) k = k xs := nr rfl
@[simp] theorem mineR_s {x : Option D} {r : Sl} {i : Nat} {k : List D → R Sl} : mineR (i + 1) (x :: r) k = mineR i r k := nr rfl
def asIR (r : R D) (k : Int → R Sl) : R Sl := match r with
  | .ok (.int i) => k i
  | _ => .stuck
@[simp] theorem asIR_int {i : Int} {k : Int → R Sl} : asIR (.ok (.int i)) k = k i := nr rfl
def setN (xs : List D) (i : Int) (d : D) (k : List D → R Sl) : R Sl := match ixN xs.length i with
  | some j => k (xs.set j d)
  | none => .stuck
theorem setN_nat {xs : List D} {i : Nat} {d : D} {k : List D → R Sl} (h : i < xs.length) : setN xs (i : Int) d k = k (xs.set i d) := by unfold setN; rw [ixN_nat h]
theorem subR_eq (i : Nat) (f : SemE) (d : D) (m : Sl) : subR i f d m = if hasT d = true then .stuck else mineR i m fun xs => asIR (f m) fun k => setN xs k d fun ys => .ok (m.set i (some (.lst true ys))) := by
  unfold subR
  split
  · rfl
  · unfold mineR
    cases h1 : m[i]? with
    | none => rfl
    | some o =>
      cases o with
      | none => rfl
      | some z =>
        cases z with
        | lst t xs =>
          cases t with
          | false => rfl
          | true =>
            simp only
            cases h2 : f m with
            | ok v =>
              cases v with
              | int k => (simp only [asIR, setN]) <;> (cases ixN xs.length k <;> rfl)
              | _ => rfl
            | exc c => rfl
            | stuck => rfl
        | _ => rfl
@[simp] theorem ixD_l2 (t : Bool) (x y z : D) (r : List D) : ixD (.lst t (x :: y :: z :: r)) (.int 2) = .ok z := ixD_lst (i := 2) rfl
@[simp] theorem ixD_l3 (t : Bool) (x y z u : D) (r : List D) : ixD (.lst t (x :: y :: z :: u :: r)) (.int 3) = .ok u := ixD_lst (i := 3) rfl
@[simp] theorem ixD_l4 (t : Bool) (x y z u v : D) (r : List D) : ixD (.lst t (x :: y :: z :: u :: v :: r)) (.int 4) = .ok v := ixD_lst (i := 4) rfl
@[simp] theorem ixD_l5 (t : Bool) (x y z u v a : D) (r : List D) : ixD (.lst t (x :: y :: z :: u :: v :: a :: r)) (.int 5) = .ok a := ixD_lst (i := 5) rfl
@[simp] theorem ixD_l6 (t : Bool) (x y z u v a b : D) (r : List D) : ixD (.lst t (x :: y :: z :: u :: v :: a :: b :: r)) (.int 6) = .ok b := ixD_lst (i := 6) rfl
@[simp] theorem ixD_l7 (t : Bool) (x y z u v a b c : D) (r : List D) : ixD (.lst t (x :: y :: z :: u :: v :: a :: b :: c :: r)) (.int 7) = .ok c := ixD_lst (i := 7) rfl
@[simp] theorem ixD_t3 (x y z u : D) (r : List D) : ixD (.tup (x :: y :: z :: u :: r)) (.int 3) = .ok u := ixD_tup (i := 3) rfl
@[simp] theorem ixD_t4 (x y z u v : D) (r : List D) : ixD (.tup (x :: y :: z :: u :: v :: r)) (.int 4) = .ok v := ixD_tup (i := 4) rfl
end CK

namespace CK
open PySem PySem.Spec PyProof.Rows L2 CT
@[simp] theorem sRetO_eq' (a : SemA) (m : Sl) : sRetO a m = ofR m (a m) fun ds => if hasTL ds = true then .stuck else .rt (.lst true ds) := nr rfl
theorem r_check_stdS {l : List Part} {st : List Int} (h : Trn l) (hs : StandOk l st) : s_check_stand [.lst false (l.map encP), encS st] = .ok .non := r_check_std h hs
end CK

namespace CK
open PySem PySem.Spec PyProof.Rows L2 CT
end CK

namespace CK
open PySem PySem.Spec PyProof.Rows L2 CT
def bare : Part → Bool
  | .wheel _ ms => ms.isEmpty
  | _ => true
theorem mem_allF : ∀ {l : List Part} {told : List (List Int)} {s t : List Int}, (∀ q ∈ l, PartOk q) → s ∈ told → StandOk l t → s ++ t ∈ allF told l
  | [], told, s, [], _, hs, _ => by simpa [allF] using hs
  | q :: l, told, s, p :: t, h, hs, ht => by
    have hm : s ++ [p] ∈ moreS q told := by
      simp only [moreS, more1, List.mem_flatMap, List.mem_map, List.mem_range]
      have h0 := ht.1; have h1 := ht.2.1
      exact ⟨s, hs, p.toNat, by omega, by rw [show ((p.toNat : Nat) : Int) = p by omega]⟩
    have := mem_allF (l := l) (told := moreS q told) (s := s ++ [p]) (t := t) (fun a ha => h a (by simp [ha])) hm ht.2.2
    simpa [allF] using this
theorem allS_mem {l : List Part} {st : List Int} (h : ∀ q ∈ l, PartOk q) (hs : StandOk l st) : st ∈ allS l := by
  have := mem_allF (l := l) (told := [[]]) (s := []) (t := st) h (by simp) hs
  show st ∈ allF [[]] l
  simpa using this
end CK

namespace CK
open PySem PySem.Spec PyProof.Rows L2 CT
end CK

namespace CK
open PySem PySem.Spec PyProof.Rows L2 CT
end CK

namespace CK
open PySem PySem.Spec PyProof.Rows L2 CT
theorem lawT_sgn : ∀ {l : List Part} {st : List Int} {w : Int}, (w = 0 ∨ w = 1 ∨ w = -1) → ((lawT l st w).2 = 0 ∨ (lawT l st w).2 = 1 ∨ (lawT l st w).2 = -1)
  | [], _, w, h => by simpa [lawT] using h
  | q :: l, [], w, h => by simpa [lawT] using h
  | q :: l, p :: st, w, h => by
    rw [lawT]
    split
    · simp
    · exact lawT_sgn (pushL_sgn (by omega))
end CK

namespace CK
open PySem PySem.Spec PyProof.Rows L2 CT
end CK

namespace CK
open PySem PySem.Spec PyProof.Rows L2 CT
end CK

namespace CK
open PySem PySem.Spec PyProof.Rows L2 CT
end CK

namespace CK
open PySem PySem.Spec PyProof.Rows L2 CT
end CK

namespace CK
open PySem PySem.Spec PyProof.Rows L2 CT
end CK

namespace CK
open PySem PySem.Spec PyProof.Rows L2 CT
end CK

namespace CK
open PySem PySem.Spec PyProof.Rows L2 CT
end CK

namespace CK
open PySem PySem.Spec PyProof.Rows L2 CT
end CK

namespace CK
open PySem PySem.Spec PyProof.Rows L2 CT
end CK

namespace CK
open PySem PySem.Spec PyProof.Rows L2 CT
section
variable {α : Type} (f : α → α) (g : α → Int)
def orb : Nat → α → α
  | 0, s => s
  | n + 1, s => f (orb n s)
def gsum : Nat → α → Int
  | 0, _ => 0
  | n + 1, s => gsum n s + g (orb f n s)
theorem orb_add (a : Nat) : ∀ (b : Nat) (s : α), orb f (a + b) s = orb f b (orb f a s)
  | 0, _ => rfl
  | b + 1, s => by rw [← Nat.add_assoc, orb, orb, orb_add a b s]
theorem gsum_add (a : Nat) : ∀ (b : Nat) (s : α), gsum f g (a + b) s = gsum f g a s + gsum f g b (orb f a s)
  | 0, s => by simp [gsum]
  | b + 1, s => by rw [← Nat.add_assoc, gsum, gsum, gsum_add a b s, orb_add f a b s]; omega
theorem orb_mul {c : Nat} {t : α} (h : orb f c t = t) : ∀ q : Nat, orb f (c * q) t = t ∧ gsum f g (c * q) t = (q : Int) * gsum f g c t
  | 0 => ⟨rfl, by simp [gsum]⟩
  | q + 1 => by
    obtain ⟨h1, h2⟩ := orb_mul h q
    rw [Nat.mul_succ, orb_add, gsum_add, h1, h, h2]
    refine ⟨rfl, ?_⟩
    rw [Int.natCast_add, Int.add_mul]; simp
theorem orb_per {i c : Nat} {s : α} (h : orb f (i + c) s = orb f i s) (n : Nat) :
    orb f (i + n) s = orb f (i + n % c) s ∧ gsum f g (i + n) s = gsum f g (i + n % c) s + (n / c : Nat) * (gsum f g (i + c) s - gsum f g i s) := by
  rw [orb_add] at h
  have hq := orb_mul f g h (n / c)
  have e : n = c * (n / c) + n % c := (Nat.div_add_mod n c).symm
  constructor
  · rw [orb_add f i n, orb_add f i (n % c)]
    rw [show orb f n (orb f i s) = orb f (c * (n / c) + n % c) (orb f i s) from congrArg (fun k => orb f k _) e, orb_add, hq.1]
  · rw [gsum_add f g i n, gsum_add f g i (n % c), gsum_add f g i c]
    rw [show gsum f g n (orb f i s) = gsum f g (c * (n / c) + n % c) (orb f i s) from congrArg (fun k => gsum f g k _) e, gsum_add, hq.1, hq.2]
    rw [show gsum f g i s + gsum f g c (orb f i s) - gsum f g i s = gsum f g c (orb f i s) by omega]
    omega
def orbL (k : Nat) (s : α) : List α := (List.range k).map fun i => orb f i s
theorem orbL_succ (k : Nat) (s : α) : orbL f (k + 1) s = orbL f k s ++ [orb f k s] := by unfold orbL; rw [List.range_succ]; simp
theorem orbL_len (k : Nat) (s : α) : (orbL f k s).length = k := by simp [orbL]
theorem orbL_get {k i : Nat} {s : α} (h : i < k) : (orbL f k s)[i]? = some (orb f i s) := by simp [orbL, h]
theorem mem_orbL {k : Nat} {s x : α} (h : x ∈ orbL f k s) : ∃ i, i < k ∧ orb f i s = x := by
  obtain ⟨i, hi, e⟩ := List.mem_map.mp h
  exact ⟨i, List.mem_range.mp hi, e⟩
theorem gsum_le {B : Int} (P : α → Prop) (hf : ∀ s, P s → P (f s)) (hg : ∀ s, P s → -B ≤ g s ∧ g s ≤ B) {s : α} (hs : P s) : ∀ n : Nat, P (orb f n s) ∧ -((n : Int) * B) ≤ gsum f g n s ∧ gsum f g n s ≤ (n : Int) * B
  | 0 => ⟨hs, by simp [gsum]⟩
  | n + 1 => by
    obtain ⟨h1, h2, h3⟩ := gsum_le P hf hg hs n
    have := hg _ h1
    refine ⟨hf _ h1, ?_⟩
    rw [gsum, Int.natCast_add, Int.add_mul]
    simp
    omega
end
theorem nodup_le {α : Type} [DecidableEq α] : ∀ {xs ys : List α}, xs.Nodup → (∀ x ∈ xs, x ∈ ys) → xs.length ≤ ys.length
  | [], _, _, _ => by simp
  | x :: xs, ys, h, hs => by
    rw [List.nodup_cons] at h
    have h1 : x ∈ ys := hs x (by simp)
    have ih := nodup_le (xs := xs) (ys := ys.erase x) h.2 fun y hy => (List.mem_erase_of_ne (fun e => h.1 (by rw [← e]; exact hy))).mpr (hs y (by simp [hy]))
    rw [List.length_erase_of_mem h1] at ih
    have : 0 < ys.length := List.length_pos_of_mem h1
    simp only [List.length_cons]; omega
@[simp] theorem eDct_0 {α : Type} (m : Sl) (k : List (List Int) → List D → R α) (o : Option Nat) (l : Bool) (ks : List (List Int)) (ds : List D) : eDct 0 (some (.dct ⟨o, l, false⟩ ks ds) :: m) k = k ks ds := nr rfl
@[simp] theorem eDct_s {α : Type} (i : Nat) (x : Option D) (m : Sl) (k : List (List Int) → List D → R α) : eDct (i + 1) (x :: m) k = eDct i m k := nr rfl
@[simp] theorem dctAt_0 (m : Sl) (k : DT → List (List Int) → List D → RS) (q : DT) (ks : List (List Int)) (ds : List D) : dctAt 0 (some (.dct q ks ds) :: m) k = k q ks ds := nr rfl
@[simp] theorem dctAt_s (i : Nat) (x : Option D) (m : Sl) (k : DT → List (List Int) → List D → RS) : dctAt (i + 1) (x :: m) k = dctAt i m k := nr rfl
@[simp] theorem keyR_S (s : List Int) : keyR (encS s) = .ok s := by simp [keyR, encS, CT.keyOf, intsOf_map]
@[simp] theorem eInD_eq (c : Bool) (i : Nat) (f : SemE) (m : Sl) : eInD c i f m = (f m).bind fun y => eDct i m fun ks ds => hasR c ks y := nr rfl
@[simp] theorem eGetD_eq (i : Nat) (f : SemE) (m : Sl) : eGetD i f m = eDct i m fun ks ds => (f m).bind fun y => atR ks ds y := nr rfl
@[simp] theorem hasR_S (c : Bool) (ks : List (List Int)) (s : List Int) : hasR c ks (encS s) = .ok (.bl (dHas ks s == c)) := by simp [hasR]
theorem dHas_iff (ks : List (List Int)) (s : List Int) : dHas ks s = decide (s ∈ ks) := by
  unfold dHas
  induction ks with
  | nil => simp
  | cons k ks ih => rw [List.any_cons, ih]; simp [eq_comm]
theorem dAt_get : ∀ {ks : List (List Int)} {ds : List D} {i : Nat} {s : List Int} {d : D}, ks.Nodup → ks[i]? = some s → ds[i]? = some d → dAt ks ds s = some d
  | k :: ks, e :: ds, 0, s, d, _, h, h' => by simp at h h'; subst h h'; simp [dAt]
  | k :: ks, e :: ds, i + 1, s, d, hn, h, h' => by
    rw [List.nodup_cons] at hn
    simp only [List.getElem?_cons_succ] at h h'
    have hm := List.mem_of_getElem? h
    have hk : ¬ k = s := fun z => hn.1 (by rw [z]; exact hm)
    simp only [dAt, if_neg hk]
    exact dAt_get hn.2 h h'
  | [], _, _, _, _, _, h, _ => by simp at h
  | _ :: _, [], _, _, _, _, _, h => by simp at h
theorem dPutV_new {ks : List (List Int)} {ds : List D} {s : List Int} {d : D} (h : s ∉ ks) : dPutV ks ds s d = ds ++ [d] := by unfold dPutV; rw [dHas_iff]; simp [h]
theorem dPutK_new {ks : List (List Int)} {s : List Int} (h : s ∉ ks) : dPutK ks s = ks ++ [s] := by unfold dPutK; rw [dHas_iff]; simp [h]
theorem wp_noRet {r : RS} {Q : Po} (h : wp r ⟨Q.nx, fun _ => False, fun _ => False, fun _ => False, Q.ex⟩) : wp (noRet r) Q := by
  cases r <;> first | exact h | exact h.elim
def numL (k : Nat) : List D := (List.range k).map fun i : Nat => D.int (i : Int)
theorem numL_succ (k : Nat) : numL (k + 1) = numL k ++ [.int (k : Int)] := by unfold numL; rw [List.range_succ]; simp
theorem numL_get {k i : Nat} (h : i < k) : (numL k)[i]? = some (.int (i : Int)) := by simp [numL, h]
theorem dPairs_map {L : List (List Int)} : ∀ (n : Nat) (ds : List D), (∀ i, i < L.length → ds[i]? = some (.int ((n + i : Nat) : Int))) → ds.length = L.length → dPairs L ds = (L.zipIdx n).map fun p => .tup [encS p.1, .int (p.2 : Int)] := by
  induction L with
  | nil => intro n ds _ h; cases ds <;> simp_all [dPairs]
  | cons k L ih =>
    intro n ds h hl
    cases ds with
    | nil => simp at hl
    | cons d ds =>
      have h0 := h 0 (by simp)
      simp at h0
      subst h0
      rw [dPairs, List.zipIdx_cons, List.map_cons, ih (n + 1) ds (fun i hi => by have := h (i + 1) (by simpa using hi); simp only [List.getElem?_cons_succ] at this; rw [this]; congr 2; omega) (by simpa using hl)]
      rfl
theorem log_lt160 {i : Int} (h : -(10 ^ 160) ≤ i ∧ i ≤ 10 ^ 160) : i.natAbs.log2 < 600 := by
  by_cases c : i.natAbs = 0
  · rw [c]; decide
  · rw [Nat.log2_lt c]
    have : i.natAbs ≤ 10 ^ 160 := by omega
    exact Nat.lt_of_le_of_lt this (by decide +kernel)
theorem mulD_160 {i j : Int} (h : -(10 ^ 160) ≤ i ∧ i ≤ 10 ^ 160) (h' : -(10 ^ 160) ≤ j ∧ j ≤ 10 ^ 160) : mulD (.int i) (.int j) = .ok (.int (i * j)) :=
  mulD_ok (.inr (.inr (by have := log_lt160 h; have := log_lt160 h'; omega)))
theorem pushT_le {l : List Part} (h : ∀ q ∈ l, PartOk q) {w : Int} (hw : w = 1 ∨ w = -1) : ∀ (n : Nat) {st : List Int}, StandOk l st → (pushT l st w (n : Int)).2 ≤ n
  | 0, st, hs => by rw [Int.natCast_zero, pushT_zero h hs]; simp
  | n + 1, st, hs => by
    have e := pushT_add (w := w) (a := (n : Int)) (b := 1) h hs hw (by omega) (by omega)
    have ih := pushT_le h hw n hs
    have h1 := (pushT_ok (w := w) (n := (n : Int)) h hs hw (by omega)).1
    have h2 := lawT_sgn (l := l) (st := (pushT l st w n).1) (w := w) (by omega)
    rw [lawT_eq h h1 hw] at h2
    have h3 : (pushT l (pushT l st w n).1 w 1).2 ≤ 1 := by
      have h4 := (pushT_ok (w := w) (n := 1) h h1 hw (by omega)).2
      rcases hw with rfl | rfl <;> omega
    rw [show (((n + 1 : Nat) : Int)) = (n : Int) + 1 by omega, e]
    show (pushT l st w n).2 + (pushT l (pushT l st w n).1 w 1).2 ≤ _
    omega
theorem pushI_le {l : List Part} (h : ∀ q ∈ l, PartOk q) {w n : Int} (hw : w = 1 ∨ w = -1) (hn : 0 ≤ n) {st : List Int} (hs : StandOk l st) (i : Nat) : -n ≤ (pushI l st i w n).2 ∧ (pushI l st i w n).2 ≤ n := by
  have h' : ∀ q ∈ l.drop i, PartOk q := fun q hq => h q (List.mem_of_mem_drop hq)
  obtain ⟨k, rfl⟩ := Int.eq_ofNat_of_zero_le hn
  have h1 := pushT_le h' hw k (hs.drop i)
  have h2 := (pushT_ok (w := w) (n := (k : Int)) h' (hs.drop i) hw (by omega)).2
  unfold pushI
  rcases hw with rfl | rfl <;> simp <;> omega
theorem walkN_le {l : List Part} (h : ∀ q ∈ l, PartOk q) {B : Int} : ∀ {row : List Deed} {st : List Int}, StandOk l st → (∀ d ∈ row, DeedOk l.length d ∧ d.n ≤ B) → -((row.length : Int) * B) ≤ (walkN l st row).2 ∧ (walkN l st row).2 ≤ (row.length : Int) * B
  | [], _, _, _ => by simp [walkN]
  | d :: row, st, hs, hr => by
    obtain ⟨⟨d1, d2, d3, d4⟩, d5⟩ := hr d (by simp)
    have h1 := pushI_le h d3 d4 hs d.i.toNat
    have h2 := walkN_le h (row := row) (pushI_ok (i := d.i.toNat) h hs d3 d4) fun x hx => hr x (by simp [hx])
    rw [walkN, List.length_cons, Int.natCast_add, Int.add_mul]
    simp
    omega
def often (l : List Part) (row : List Deed) (n : Nat) (st : List Int) : List Int × Int := (orb (fun s => (walkN l s row).1) n st, gsum (fun s => (walkN l s row).1) (fun s => (walkN l s row).2) n st)
end CK

namespace CK
open PySem PySem.Spec PyProof.Rows L2 CT
def sumL (F : List Int → List Int) (G : List Int → Int) (st : List Int) (k : Nat) : List D := (List.range k).map fun i : Nat => D.int (gsum F G i st)
theorem sumL_succ (F : List Int → List Int) (G : List Int → Int) (st : List Int) (k : Nat) : sumL F G st (k + 1) = sumL F G st k ++ [.int (gsum F G k st)] := by unfold sumL; rw [List.range_succ]; simp
theorem sumL_len (F : List Int → List Int) (G : List Int → Int) (st : List Int) (k : Nat) : (sumL F G st k).length = k := by simp [sumL]
theorem sumL_at (F : List Int → List Int) (G : List Int → Int) (st : List Int) {k i : Nat} (t : Bool) (h : i < k) : ixD (.lst t (sumL F G st k)) (.int (i : Int)) = .ok (.int (gsum F G i st)) := ixD_lst (by simp [sumL, h])
theorem numL_len (k : Nat) : (numL k).length = k := by simp [numL]
theorem r_left_oftenG {l : List Part} {st : List Int} {row : List Deed} {N : Nat} (h : Trn l) (hs : StandOk l st) (hr : RowOk l.length row) (hp : prodN l ≤ 2000 ∨ N ≤ 2000)
    (hg : ∀ s, StandOk l s → -(10 ^ 50) ≤ (walkN l s row).2 ∧ (walkN l s row).2 ≤ 10 ^ 50) (hn : (N : Int) ≤ 10 ^ 150) :
    s_left_often [.lst false (l.map encP), encS st, .lst false (row.map encDd), .int (N : Int)] = .ok (encR (often l row N st)) := by
  obtain ⟨F, hF⟩ : ∃ F : List Int → List Int, F = fun s => (walkN l s row).1 := ⟨_, rfl⟩
  obtain ⟨G, hG⟩ : ∃ G : List Int → Int, G = fun s => (walkN l s row).2 := ⟨_, rfl⟩
  have hok : ∀ s, StandOk l s → StandOk l (F s) := fun s z => by rw [hF]; exact walkN_ok h.ok.1 z hr.1
  have hgl := fun k : Nat => gsum_le F G (B := 10 ^ 50) (StandOk l) hok (fun s z => by rw [hG]; exact hg s z) hs k
  have hw : ∀ s, StandOk l s → s_walked [.lst false (l.map encP), encS s, .lst false (row.map encDd)] = .ok (.tup [encS (F s), .int (G s)]) := fun s z => by rw [hF, hG]; exact r_walked h.ok z.length hr
  have hS : ((allS l).length : Int) = prodN l := allS_len h.ok.1
  have hbd : ∀ k, k ≤ N → (orbL F k st).Nodup → k ≤ 2000 := fun k hkN hk => by
    have := nodup_le (ys := allS l) hk fun x hx => by
      obtain ⟨i, _, rfl⟩ := mem_orbL F hx
      exact allS_mem h.ok.1 (hgl i).1
    rw [orbL_len] at this
    omega
  have fin : often l row N st = (orb F N st, gsum F G N st) := by rw [hF, hG]; rfl
  rw [fin]
  have hN0 : ¬ (N : Int) < 0 := by omega
  unfold s_left_often
  refine def_ok1 rfl ?_
  simp [r_check_stdS h hs, r_check_rw h.ok hr, r_is_whole, isWholeB, hN0, sNewD]
  obtain ⟨I, hI⟩ : ∃ I : Nat → Sl → Prop, I = fun fuel m => ∃ (k : Nat) (a7 : Option D), fuel + k = 2001 ∧ k ≤ N ∧ (orbL F k st).Nodup ∧ m = [some (.lst false (l.map encP)), some (encS (orb F k st)), some (.lst false (row.map encDd)), some (.int (N : Int)), some (.dct ⟨none, false, false⟩ (orbL F k st) (numL k)), some (.lst true (sumL F G st k)), some (.int (gsum F G k st)), a7, none, none, none, none, none, none, none] := ⟨_, rfl⟩
  refine wp_while I 2001 ?_ (fun n m hm => ?_)
  · rw [hI]; exact ⟨0, none, by omega, by omega, by simp [orbL], rfl⟩
  · rw [hI] at hm
    obtain ⟨k, a7, hk, hkN, hnd, rfl⟩ := hm
    have hk2 := hbd k hkN hnd
    obtain ⟨g1, g2, g3⟩ := hgl k
    by_cases c1 : orb F k st ∈ orbL F k st
    · -- it has come
      refine ⟨false, by simp [dHas_iff, c1], fun z => (by cases z), fun _ => ?_⟩
      obtain ⟨i, hi, e⟩ := mem_orbL F c1
      have hi2 := hgl i
      obtain ⟨c, hc⟩ : ∃ c, k = i + c := ⟨k - i, by omega⟩
      obtain ⟨r, hr2⟩ : ∃ r, N = k + r := ⟨N - k, by omega⟩
      have hc0 : 0 < c := by omega
      have hmc : r % c < c := Nat.mod_lt _ hc0
      obtain ⟨rm, hrm⟩ : ∃ rm, rm = r % c := ⟨_, rfl⟩
      obtain ⟨q, hq⟩ : ∃ q, q = r / c := ⟨_, rfl⟩
      obtain ⟨A, hA⟩ : ∃ A, A = i + rm := ⟨_, rfl⟩
      have hAk : A < k := by omega
      have hat : atR (orbL F k st) (numL k) (encS (orb F k st)) = .ok (.int (i : Int)) := by
        simp [atR, dAt_get hnd (by rw [orbL_get F hi, e]) (numL_get hi)]
      have ek : (k : Int) - (i : Int) = (c : Int) := by omega
      have er : (N : Int) - (k : Int) = (r : Int) := by omega
      have hmod : modD (.int (r : Int)) (.int (c : Int)) = .ok (.int (rm : Int)) := by rw [modD_ok (by omega), hrm]; simp
      have hdiv : divD (.int (r : Int)) (.int (c : Int)) = .ok (.int (q : Int)) := by rw [divD_s (by omega) (by omega), hq]; simp
      have eA : (i : Int) + (rm : Int) = (A : Int) := by omega
      have i1 := sumL_at F G st (k := k) (i := i) true hi
      have i2 := sumL_at F G st (k := k) (i := A) true hAk
      have gA := hgl A
      have hrc : q ≤ r := by rw [hq]; exact Nat.div_le_self r c
      have hmul : mulD (.int (q : Int)) (.int (gsum F G k st - gsum F G i st)) = .ok (.int ((q : Int) * (gsum F G k st - gsum F G i st))) := by
        refine mulD_160 ⟨by omega, by omega⟩ ⟨?_, ?_⟩
        · have : (k : Int) ≤ 2000 := by omega
          have : (i : Int) ≤ 2000 := by omega
          omega
        · have : (k : Int) ≤ 2000 := by omega
          have : (i : Int) ≤ 2000 := by omega
          omega
      have per := orb_per F G (i := i) (c := c) (s := st) (by rw [← hc, e]) (c + r)
      rw [← hc, Nat.add_mod_left, Nat.add_div_left r hc0, show i + (c + r) = N by omega, ← hrm, ← hA, ← hq] at per
      simp [dHas_iff, c1, hat, sumL_len, ek, er, i1, hmod, eA, sItemsD]
      refine wp_noRet ?_
      rw [dPairs_map 0 (numL k) (fun j hj => by rw [orbL_len] at hj; rw [numL_get hj]; simp) (by rw [numL_len, orbL_len])]
      obtain ⟨J, hJ⟩ : ∃ J : Nat → Sl → Prop, J = fun j m => ∃ (a13 a14 : Option D), m = [some (.lst false (l.map encP)), some (encS (if A < j then orb F A st else orb F k st)), some (.lst false (row.map encDd)), some (.int (N : Int)), none, some (.lst true (sumL F G st k)), some (.int (gsum F G k st)), a7, some (.int (i : Int)), some (.int (c : Int)), some (.int (r : Int)), some (.int (gsum F G k st - gsum F G i st)), some (.int (A : Int)), a13, a14] := ⟨_, rfl⟩
      refine wp_map J ?_ (fun j p hp2 m hm => ?_) (fun m hm => ?_)
      · rw [hJ]; exact ⟨none, none, by simp⟩
      · rw [hJ] at hm
        obtain ⟨a13, a14, rfl⟩ := hm
        rw [List.getElem?_zipIdx] at hp2
        have hj : j < k := by
          by_cases z : j < k
          · exact z
          · rw [List.getElem?_eq_none (by rw [orbL_len]; omega)] at hp2; simp at hp2
        rw [orbL_get F hj] at hp2
        simp at hp2
        subst hp2
        by_cases z : j = A
        · subst z
          simp
          rw [hJ]
          exact ⟨some (encS (orb F j st)), some (.int (j : Int)), by simp⟩
        · have z' : ¬ (j : Int) = (A : Int) := by omega
          simp [z']
          rw [hJ]
          refine ⟨some (encS (orb F j st)), some (.int (j : Int)), ?_⟩
          have : (A < j + 1) = (A < j) := by apply propext; omega
          simp [this]
      · rw [hJ] at hm
        obtain ⟨a13, a14, rfl⟩ := hm
        have hl : A < ((orbL F k st).zipIdx 0).length := by simp [orbL_len, hAk]
        simp [hl, hdiv, hmul, i1, i2]
        rw [if_pos (by rw [orbL_len]; exact hAk)]
        obtain ⟨W, hW⟩ : ∃ W, W = (q : Int) * (gsum F G k st - gsum F G i st) := ⟨_, rfl⟩
        have e5 : gsum F G N st = gsum F G k st + W + gsum F G A st - gsum F G i st := by
          rw [per.2, show (((q + 1 : Nat) : Int)) = (q : Int) + 1 by omega, Int.add_mul, Int.one_mul, ← hW]; omega
        rw [← hW, ← e5, ← per.1]
        rfl
    · by_cases c2 : k < N
      · refine ⟨true, by simp [dHas_iff, c1, sumL_len, c2], fun _ => ?_, fun z => by cases z⟩
        simp [dPutK_new c1, dPutV_new c1, hw _ g1, sPutD, sumL_len, orbL_len, show k < sizeLine by rw [sizeBig]; omega]
        rw [hI]
        refine ⟨n - 1, by omega, k + 1, some (.int (G (orb F k st))), by omega, by omega, ?_, ?_⟩
        · rw [orbL_succ, List.nodup_append]
          refine ⟨hnd, by simp, fun x hx y hy => ?_⟩
          rw [List.mem_singleton.mp hy]
          exact fun z => c1 (by rw [← z]; exact hx)
        · rw [orbL_succ, numL_succ, sumL_succ]; rfl
      · refine ⟨false, by simp [dHas_iff, c1, sumL_len, c2], fun z => (by cases z), fun _ => ?_⟩
        have : k = N := by omega
        subst this
        simp [dHas_iff, c1, encR]
        rfl
end CK

namespace CK
open PySem PySem.Spec PyProof.Rows L2 CT
end CK

namespace CK
open PySem PySem.Spec PyProof.Rows L2 CT
theorem often_add (l : List Part) (row : List Deed) (a b : Nat) (st : List Int) : often l row (a + b) st = ((often l row b (often l row a st).1).1, (often l row a st).2 + (often l row b (often l row a st).1).2) := by
  simp only [often, orb_add, gsum_add]
end CK

namespace CK
open PySem PySem.Spec PyProof.Rows L2 CT
end CK

namespace CK
open PySem PySem.Spec PyProof.Rows L2 CT
end CK

namespace CK
open PySem PySem.Spec PyProof.Rows L2 CT
end CK

namespace CK
open PySem PySem.Spec PyProof.Rows L2 CT
end CK

namespace CK
open PySem PySem.Spec PyProof.Rows L2 CT
end CK

namespace CK
open PySem PySem.Spec PyProof.Rows L2 CT
end CK

namespace CK
open PySem PySem.Spec PyProof.Rows L2 CT
end CK

namespace CK
open PySem PySem.Spec PyProof.Rows L2 CT
theorem walkN_app (l : List Part) : ∀ (a b : List Deed) (st : List Int), walkN l st (a ++ b) = ((walkN l (walkN l st a).1 b).1, (walkN l st a).2 + (walkN l (walkN l st a).1 b).2)
  | [], b, st => by simp [walkN]
  | d :: a, b, st => by
    rw [List.cons_append, walkN, walkN_app l a b]
    simp only [walkN, Int.add_assoc]
end CK

namespace CK
open PySem PySem.Spec PyProof.Rows L2 CT
end CK

namespace CK
open PySem PySem.Spec PyProof.Rows L2 CT
def isWB : Part → Bool
  | .wheel _ _ => true
  | _ => false
def allWB (l : List Part) : Bool := l.all isWB
def potN (z : Int) (ms : List Int) (p : Int) : Int := sumI (ms.map fun m => (p - m) / z)
theorem potN_shift {z : Int} (hz : 1 ≤ z) (ms : List Int) (p k : Int) : potN z ms (p + z * k) = potN z ms p + k * ms.length := by
  unfold potN
  induction ms with
  | nil => simp
  | cons m ms ih =>
    simp only [List.map_cons, sumI_cons, List.length_cons]
    rw [ih, show p + z * k - m = p - m + z * k by omega, Int.add_mul_ediv_left _ _ (by omega)]
    have : k * ((ms.length + 1 : Nat) : Int) = k * ms.length + k := by rw [Int.natCast_succ, Int.mul_add, Int.mul_one]
    omega
theorem sumI_sub {α : Type} (f g : α → Int) : ∀ l : List α, sumI (l.map fun a => f a - g a) = sumI (l.map f) - sumI (l.map g)
  | [] => rfl
  | a :: l => by simp only [List.map_cons, sumI_cons, sumI_sub f g l]; omega
theorem push_pot {z : Int} (hz : 1 ≤ z) (ms : List Int) (p w n : Int) (hw : w = 1 ∨ w = -1) (hn : 0 ≤ n) : w * (pushP (.wheel z ms) p w n).2 = potN z ms (p + w * n) - potN z ms p := by
  rcases hw with rfl | rfl
  · show 1 * (if (1 : Int) = 1 then metN z p n ms else leftN z p n ms) = _
    rw [if_pos rfl, metN_sum hz p n hn, sumI_sub]
    unfold potN
    have : (fun m => (p - m + n) / z) = fun m => (p + 1 * n - m) / z := by funext m; congr 1; omega
    rw [this]; omega
  · show -1 * (if (-1 : Int) = 1 then metN z p n ms else leftN z p n ms) = _
    rw [if_neg (by omega), leftN_sum hz p n hn, sumI_sub]
    unfold potN
    have : (fun m => (p - m - n) / z) = fun m => (p + -1 * n - m) / z := by funext m; congr 1; omega
    rw [this]; omega
def netN : List Part → List Int → (Nat → Int) → Int → List Int × Int
  | .wheel z ms :: l, p :: st, x, c => ((p + (c + x 0)) % z :: (netN l st (fun j => x (j + 1)) (potN z ms (p + (c + x 0)) - potN z ms p)).1, (netN l st (fun j => x (j + 1)) (potN z ms (p + (c + x 0)) - potN z ms p)).2)
  | _, st, _, c => (st, c)
theorem netN_add : ∀ {l : List Part} {st : List Int} (x y : Nat → Int) (c d : Int), (∀ q ∈ l, PartOk q) → allWB l = true → StandOk l st →
    (netN l (netN l st x c).1 y d).1 = (netN l st (fun j => x j + y j) (c + d)).1 ∧ (netN l st x c).2 + (netN l (netN l st x c).1 y d).2 = (netN l st (fun j => x j + y j) (c + d)).2
  | [], [], x, y, c, d, _, _, _ => by simp [netN]
  | .wheel z ms :: l, p :: st, x, y, c, d, h, hw, hs => by
    have hz : 1 ≤ z := (h (.wheel z ms) (by simp)).1
    simp only [netN]
    obtain ⟨k, hk⟩ : ∃ k, (p + (c + x 0)) / z = k := ⟨_, rfl⟩
    have e1 : (p + (c + x 0)) % z = p + (c + x 0) + z * (-k) := by rw [rest_of (p + (c + x 0)) (z := z), hk, Int.mul_neg]; omega
    have e2 : ((p + (c + x 0)) % z + (d + y 0)) % z = (p + (c + d + (x 0 + y 0))) % z := by
      rw [Int.emod_add_emod]; congr 1; omega
    have e3 : potN z ms ((p + (c + x 0)) % z + (d + y 0)) = potN z ms (p + (c + d + (x 0 + y 0))) + (-k) * ms.length := by
      rw [e1, show p + (c + x 0) + z * (-k) + (d + y 0) = p + (c + d + (x 0 + y 0)) + z * (-k) by omega, potN_shift hz]
    have e4 : potN z ms ((p + (c + x 0)) % z) = potN z ms (p + (c + x 0)) + (-k) * ms.length := by
      rw [e1, potN_shift hz]
    rw [e2, e3, e4]
    obtain ⟨i1, i2⟩ := netN_add (fun j => x (j + 1)) (fun j => y (j + 1)) (potN z ms (p + (c + x 0)) - potN z ms p) (potN z ms (p + (c + d + (x 0 + y 0))) + (-k) * ms.length - (potN z ms (p + (c + x 0)) + (-k) * ms.length)) (fun q hq => h q (by simp [hq])) (by simpa [allWB, isWB] using hw) hs.2.2
    rw [show potN z ms (p + (c + x 0)) - potN z ms p + (potN z ms (p + (c + d + (x 0 + y 0))) + (-k) * ms.length - (potN z ms (p + (c + x 0)) + (-k) * ms.length)) = potN z ms (p + (c + d + (x 0 + y 0))) - potN z ms p by omega] at i1 i2
    exact ⟨by rw [i1], i2⟩
theorem netN_zero : ∀ {l : List Part} {st : List Int}, (∀ q ∈ l, PartOk q) → allWB l = true → StandOk l st → netN l st (fun _ => 0) 0 = (st, 0)
  | [], [], _, _, _ => rfl
  | .wheel z ms :: l, p :: st, h, hw, hs => by
    obtain ⟨h0, h1, h2⟩ := hs
    simp only [netN]
    rw [show p + (0 + 0) = p by omega, Int.sub_self, netN_zero (fun q hq => h q (by simp [hq])) (by simpa [allWB, isWB] using hw) h2, Int.emod_eq_of_lt h0 (show p < z from h1)]
theorem netN_tail : ∀ {l : List Part} {st : List Int} (w n : Int), (∀ q ∈ l, PartOk q) → allWB l = true → StandOk l st → (w = 1 ∨ w = -1) → 0 ≤ n → netN l st (fun _ => 0) (w * n) = ((pushT l st w n).1, w * (pushT l st w n).2)
  | [], [], w, n, _, _, _, _, _ => rfl
  | .wheel z ms :: l, p :: st, w, n, h, hl, hs, hw, hn => by
    obtain ⟨h0, h1, h2⟩ := hs
    have hq := h (.wheel z ms) (by simp)
    simp only [netN, pushT, Int.add_zero]
    rw [← push_pot hq.1 ms p w n hw hn]
    rw [netN_tail w _ (fun q hq => h q (by simp [hq])) (by simpa [allWB, isWB] using hl) h2 hw (pushP_range hq h0 h1 hw hn).2.2]
    rfl
def unitN (i : Nat) (v : Int) (j : Nat) : Int := if j = i then v else 0
theorem netN_push : ∀ {l : List Part} {st : List Int} (i : Nat) (w n : Int), (∀ q ∈ l, PartOk q) → allWB l = true → StandOk l st → (w = 1 ∨ w = -1) → 0 ≤ n → i < l.length → netN l st (unitN i (w * n)) 0 = pushI l st i w n
  | .wheel z ms :: l, p :: st, 0, w, n, h, hl, hs, hw, hn, _ => by
    have := netN_tail w n h hl hs hw hn
    unfold pushI
    simp only [List.take_zero, List.drop_zero, List.nil_append]
    rw [← this]
    simp only [netN]
    have e1 : unitN 0 (w * n) 0 = w * n := by simp [unitN]
    have e2 : (fun j => unitN 0 (w * n) (j + 1)) = fun _ => 0 := by funext j; simp [unitN]
    rw [e1, e2, Int.zero_add, Int.add_zero]
  | .wheel z ms :: l, p :: st, i + 1, w, n, h, hl, hs, hw, hn, hi => by
    have ih := netN_push i w n (fun q hq => h q (by simp [hq])) (by simpa [allWB, isWB] using hl) hs.2.2 hw hn (by simpa using hi)
    obtain ⟨h0, h1, h2⟩ := hs
    simp only [netN]
    have e1 : unitN (i + 1) (w * n) 0 = 0 := by simp [unitN]
    have e2 : (fun j => unitN (i + 1) (w * n) (j + 1)) = unitN i (w * n) := by funext j; simp [unitN]
    rw [e1, e2, show p + (0 + 0) = p by omega, Int.sub_self, ih, Int.emod_eq_of_lt h0 (show p < z from h1)]
    rfl
def nets : List Deed → Nat → Int
  | [], _ => 0
  | d :: r, j => unitN d.i.toNat (d.w * d.n) j + nets r j
theorem nets_app : ∀ (a b : List Deed) (j : Nat), nets (a ++ b) j = nets a j + nets b j
  | [], b, j => by simp [nets]
  | d :: a, b, j => by simp only [List.cons_append, nets, nets_app a b j, Int.add_assoc]
theorem walk_net {l : List Part} (h : ∀ q ∈ l, PartOk q) (hl : allWB l = true) : ∀ {row : List Deed} {st : List Int}, StandOk l st → (∀ d ∈ row, DeedOk l.length d) → walkN l st row = netN l st (nets row) 0
  | [], st, hs, _ => (netN_zero h hl hs).symm
  | d :: row, st, hs, hr => by
    obtain ⟨d1, d2, d3, d4⟩ := hr d (by simp)
    have e := netN_push d.i.toNat d.w d.n h hl hs d3 d4 (by omega)
    have ok := pushI_ok (i := d.i.toNat) h hs d3 d4
    have ih := walk_net h hl (row := row) ok fun x hx => hr x (by simp [hx])
    rw [walkN, ih, ← e]
    obtain ⟨i1, i2⟩ := netN_add (unitN d.i.toNat (d.w * d.n)) (nets row) 0 0 h hl hs
    exact Prod.ext i1 i2
end CK

namespace CK
open PySem PySem.Spec PyProof.Rows L2 CT
end CK

namespace CK
open PySem PySem.Spec PyProof.Rows L2 CT
theorem walkN_rep (l : List Part) (row : List Deed) (st : List Int) : ∀ k : Nat, walkN l st (List.replicate k row).flatten = often l row k st
  | 0 => rfl
  | k + 1 => by
    rw [List.replicate_succ', List.flatten_append, walkN_app, walkN_rep l row st k, often_add]
    simp [often, orb, gsum]
end CK

namespace CK
open PySem PySem.Spec PyProof.Rows L2 CT
end CK

namespace CK
open PySem PySem.Spec PyProof.Rows L2 CT
end CK

namespace CK
open PySem PySem.Spec PyProof.Rows L2 CT
def chkL {α : Type} (x : Option (Option D)) (r : R α) : R α := match x with
  | some (some (.dct _ _ _)) => r
  | _ => .stuck
@[simp] theorem chkL_lent {α : Type} (o : Option Nat) (xs : List D) (r : R α) : chkL (some (some (lentD o xs))) r = r := nr rfl
theorem xCallL_eq (i : Nat) (f : List D → R (D × Option D)) (h : SemXA) (m : Sl) : xCallL i f h m = chkL m[i]? (bindX (h m) fun ds m1 => callX i f ds m1) := by
  unfold xCallL callX chkL
  rfl
theorem wpX_callAt {i : Nat} {f : List D → R (D × Option D)} {ds xs : List D} {m : Sl} {a : Nat} {P : D → Sl → Prop} {S : D → List D → Prop} (hm : m[i]? = some (some (lentD (some a) xs)))
    (h : ∃ d ys, f (lentD (some a) xs :: ds) = .ok (d, some (lentD (some a) ys)) ∧ S d ys) (k : ∀ d ys, S d ys → hasT d = false ∧ P d (m.set i (some (lentD (some a) ys)))) : wpX (callX i f ds m) P := by
  obtain ⟨d, ys, e, s⟩ := h
  obtain ⟨k1, k2⟩ := k d ys s
  refine wpX_of (a := d) (m := m.set i (some (lentD (some a) ys))) ?_ k2
  unfold callX
  rw [hm]
  show (match f (lentD (some a) xs :: ds) with
      | .ok (d, some (.dct ⟨some c, true, true⟩ ks ys)) => if hasT d = false ∧ c = a ∧ ks = noK ys then R.ok (d, m.set i (some (lentD (some a) ys))) else .stuck
      | _ => .stuck) = _
  rw [e]
  exact if_pos ⟨k1, rfl, rfl⟩
theorem wpX_nextAt {i n : Nat} {xs : List D} {m : Sl} {a : Nat} {P : D → Sl → Prop} (hm : m[i]? = some (some (lentD (some a) xs))) (h : Dr n xs) (hn : n ≤ 1000000) (k : ∀ (i' : Int) ys, 0 ≤ i' → Dr (n + 1) ys → P (.int i') (m.set i (some (lentD (some a) ys)))) : wpX (callX i s_law_next [] m) P :=
  wpX_callAt hm (r_next h hn a) fun d ys ⟨⟨v, e, hv⟩, hd⟩ => by subst e; exact ⟨rfl, k v ys hv hd⟩
theorem wp_newL {i : Nat} {h : SemA} {g : SemS} {m : Sl} {Q : Po} {ds : List D} (e : h m = .ok ds) (t : hasTL ds = false) (k : ∀ a : Nat, wp (g (m.set i (some (lentD (some a) ds)))) ⟨fun m' => m'.length = m.length, fun _ => False, fun _ => False, fun _ => False, fun _ => False⟩)
    (q : Q.nx (List.replicate m.length none)) : wp (sNewL i h g m) Q := by
  unfold sNewL
  rw [e]
  simp only [ofR_ok]
  rw [if_neg (by rw [t]; decide), if_pos]
  · exact q
  · intro a
    have := k a
    cases hg : g (m.set i (some (lentD (some a) ds))) with
    | nx m' => rw [hg] at this; exact ⟨m', rfl, this⟩
    | ct m' => rw [hg] at this; exact this.elim
    | bk m' => rw [hg] at this; exact this.elim
    | rt d => rw [hg] at this; exact this.elim
    | exc c m' => rw [hg] at this; exact this.elim
    | stuck => rw [hg] at this; exact this.elim
def big2 : Int := (10 ^ 60) ^ 50
def big3 : Int := big2 ^ 3
theorem big3_pos : 0 < big3 := by decide +kernel
theorem pow_big2 : powD (.int 1000000000000000000000000000000000000000000000000000000000000) (.int 50) = .ok (.int big2) := by rw [powD_lit (by decide +kernel)]; rfl
theorem pow_big3 : powD (.int big2) (.int 3) = .ok (.int big3) := by rw [powD_lit (by decide +kernel)]; rfl
theorem r_draws (c : Int) : ∃ xs, s_law_draws [.int c] = .ok (.lst true xs) ∧ Dr 0 xs ∧ hasTL xs = false := by
  unfold s_law_draws
  have main : wpR (defF 1 1 (sSeq (sIf (tOf (CT.e2 ltD (eVar 0) (CT.e2 powD (eC (.int 10)) (eC (.int 18))))) (sRetO (aThen (aCons (eVar 0) (aCons (eC (.int 0)) (aCons (eC (.bl false)) aNil))) mkLst)) sNop)
    (sRetO (aThen (aCons (CT.e2 modD (eVar 0) (CT.e2 powD (CT.e2 powD (CT.e2 powD (eC (.int 10)) (eC (.int 60))) (eC (.int 50))) (eC (.int 3)))) (aCons (eC (.int 0)) (aCons (eC (.bl true)) aNil))) mkLst))) [.int c]) (fun d => ∃ xs, d = .lst true xs ∧ Dr 0 xs ∧ hasTL xs = false) := by
    refine def_run rfl ?_
    by_cases h : c < 1000000000000000000
    · simp [h, sRetO]
      exact ⟨c, 0, false, rfl, by omega, by omega⟩
    · simp [h, sRetO, pow_big2, pow_big3, modD_ok big3_pos]
      exact ⟨c % big3, 0, true, rfl, by omega, by omega⟩
  obtain ⟨d, e, xs, rfl, h⟩ := wpR_ex main
  exact ⟨xs, e, h⟩
theorem set_none {m : Sl} {v : Nat} {x : Option D} (h : m[v]? = some none) : (m.set v x).set v none = m := by
  rw [List.set_set]
  exact List.ext_getElem? fun j => by
    rw [List.getElem?_set]
    split
    · next e => subst e; split <;> simp_all
    · rfl
end CK

namespace CK
open PySem PySem.Spec PyProof.Rows L2 CT
theorem eraseDups_le : ∀ (n : Nat) (ns : List Int), ns.length ≤ n → ns.eraseDups.length ≤ ns.length
  | _, [], _ => by simp
  | 0, _ :: _, h => by simp at h
  | n + 1, a :: ns, h => by
    rw [List.eraseDups_cons, List.length_cons, List.length_cons]
    have h1 := List.length_filter_le (fun b => !b == a) ns
    have h2 := eraseDups_le n (ns.filter fun b => !b == a) (by simp at h; omega)
    omega
theorem setS_len (ns : List Int) : (setS ns).length ≤ ns.length := by
  unfold setS
  rw [List.length_mergeSort]
  exact eraseDups_le _ ns (Nat.le_refl _)
theorem sl_set_same {m : Sl} {i : Nat} {x : Option D} (h : m[i]? = some x) : m.set i x = m := List.ext_getElem? fun j => by
  rw [List.getElem?_set]
  split
  · next e => subst e; rw [if_pos (List.getElem?_eq_some_iff.mp h).1, h]
  · rfl
theorem lc_calls {α β : Type} {i v n c : Nat} {g : SemX} {m : Sl} {a : Nat} {xs : List D} {enc : α → D} {src : List β} {encB : β → D} {S : β → α → Prop} {P : List D → Sl → Prop}
    (hm : m[i]? = some (some (lentD (some a) xs))) (hv : m[v]? = some none) (h : Dr n xs) (hB : ∀ b, hasT (encB b) = false)
    (hg : ∀ b ∈ src, ∀ (n' : Nat) zs, Dr n' zs → n' ≤ n + c * src.length → wpX (g ((m.set i (some (lentD (some a) zs))).set v (some (encB b)))) fun d m3 => ∃ x ys, d = enc x ∧ S b x ∧ Dr (n' + c) ys ∧ m3 = (m.set i (some (lentD (some a) ys))).set v (some (encB b)))
    (k : ∀ (rs : List α) ys, rs.length = src.length → (∀ (k : Nat) x b, rs[k]? = some x → src[k]? = some b → S b x) → Dr (n + c * src.length) ys → P (rs.map enc) (m.set i (some (lentD (some a) ys)))) :
    wpX (lcX v xtYes g (src.map encB) m) P := by
  have hiv : i ≠ v := fun e => by subst e; rw [hm] at hv; cases hv
  obtain ⟨I, hI⟩ : ∃ I : Nat → List D → Sl → Prop, I = fun (j : Nat) acc m1 => ∃ (rs : List α) (zs : List D), acc = rs.map enc ∧ rs.length = j ∧ (∀ (k : Nat) x b, rs[k]? = some x → src[k]? = some b → S b x) ∧ Dr (n + c * j) zs ∧ m1 = m.set i (some (lentD (some a) zs)) := ⟨_, rfl⟩
  refine wpX_lc (enc := encB) I src 0 [] m P ?_ (fun j q hq acc m1 h1 => ?_) (fun acc2 m2 h2 r e => ?_)
  · rw [hI]
    exact ⟨[], xs, rfl, rfl, fun k x b h => by simp at h, h.mono, (sl_set_same hm).symm⟩
  · rw [hI] at h1
    obtain ⟨rs, zs, rfl, s0, s1, hz, rfl⟩ := h1
    rw [Nat.zero_add] at s0 hz
    have hjl := (List.getElem?_eq_some_iff.mp hq).1
    refine ⟨hB q, ?_⟩
    rw [xtYes_eq, wpX_ok, if_pos rfl]
    have hle : c * j ≤ c * src.length := Nat.mul_le_mul_left _ (by omega)
    refine wpX_imp (hg q (List.mem_of_getElem? hq) _ zs hz (by omega)) fun d m3 ⟨x, ys, e1, e2, e3, e4⟩ => ?_
    subst e1; subst e4
    rw [hI]
    refine ⟨rs ++ [x], ys, by simp, by simp; omega, fun k y b hy hb => ?_, by rw [Nat.zero_add, Nat.mul_succ]; exact e3.mono, ?_⟩
    · rw [List.getElem?_append] at hy
      split at hy
      · exact s1 k y b hy hb
      · have hk : k = j := by
          have := (List.getElem?_eq_some_iff.mp hy).1
          simp at this; omega
        subst hk
        rw [s0, Nat.sub_self] at hy
        simp at hy
        subst hy
        rw [hq] at hb; cases hb
        exact e2
    · exact set_none (by rw [List.getElem?_set_ne hiv]; exact hv)
  · rw [hI] at h2
    obtain ⟨rs, zs, rfl, s0, s1, hz, rfl⟩ := h2
    simp only [Nat.zero_add, List.nil_append] at s0 hz e
    subst e
    exact k rs zs s0 s1 hz
theorem pow10_40 : powD (.int 10) (.int 40) = .ok (.int 10000000000000000000000000000000000000000) := by rw [powD_lit (by decide +kernel)]; rfl
theorem pow10_39 : powD (.int 10) (.int 39) = .ok (.int 1000000000000000000000000000000000000000) := by rw [powD_lit (by decide +kernel)]; rfl
theorem pow10_30 : powD (.int 10) (.int 30) = .ok (.int 1000000000000000000000000000000) := by rw [powD_lit (by decide +kernel)]; rfl
theorem lt_2000 {z : Int} (h : z ≤ 10000000000000000000000000000000000000000) : z < 2 ^ 2000 :=
  Int.lt_of_le_of_lt (b := 2 ^ 200) (Int.le_trans h (by decide +kernel)) (by decide +kernel)
theorem r_wheel_9 {n : Nat} {xs : List D} (h : Dr n xs) (hn : n ≤ 800000) (a : Nat) :
    ∃ v ys, s_law_wheel [lentD (some a) xs] = .ok (v, some (lentD (some a) ys)) ∧ (∃ (z : Int) (ms : List Int), v = encP (.wheel z ms) ∧ PartOk (.wheel z ms) ∧ z ≤ 10000000000000000000000000000000000000000) ∧ Dr (n + 700) ys := by
  unfold s_law_wheel
  refine defL_run rfl ?_
  have e : (List.map some [lentD (some a) xs] ++ List.replicate (4 - 1) none : Sl) = [some (lentD (some a) xs), none, none, none] := rfl
  rw [e]
  simp (disch := first | omega | (simp; done) | fail) [wpB_seq]
  refine wpX_next h (by omega) fun i ys hi hd => ?_
  simp (disch := first | omega | (simp; done) | fail) [modD_ok]
  refine wpX_next hd (by omega) fun i2 ys2 hi2 hd2 => ?_
  simp (disch := first | omega | (simp; done) | fail) [modD_ok]
  refine wp_cut (fun m => ∃ (ys : List D) (z : Int), m = [some (lentD (some a) ys), some (.int z), none, none] ∧ 1 ≤ z ∧ z ≤ 10000000000000000000000000000000000000000 ∧ Dr (n + 102) ys) ?_ (fun m hm => ?_)
  · by_cases c : i2 % 3 = 1
    · simp (disch := first | omega | (simp; done) | fail) [c, pow10_40]
      refine wpX_callX (r_far_2 hd2 (by omega) a 9999999999999999999999999999999999999999 (by omega)) fun d ws ⟨⟨j, e, j0, j1⟩, hd3⟩ => ?_
      subst e
      simp
      exact ⟨ws, _, ⟨rfl, rfl⟩, by omega, by omega, hd3.mono⟩
    · simp [c]
      exact ⟨ys2, _, ⟨rfl, rfl⟩, by omega, by omega, hd2.mono⟩
  · obtain ⟨zs, z, rfl, z1, z2, hz⟩ := hm
    simp (disch := first | omega | (simp; done) | fail) [wpX_xOwn, wpX_aLcX]
    refine wpX_next hz (by omega) fun v zs2 hv hz2 => ?_
    obtain ⟨k, hk⟩ : ∃ k : Nat, v % 5 = (k : Int) := Int.eq_ofNat_of_zero_le (by omega)
    have k5 : k < 5 := by omega
    have er : rng1 [.int (k : Int)] = .ok (rng 0 k) := by rw [rng1_int ⟨by omega, by omega⟩]; simp
    simp (disch := first | omega | (simp; done) | fail) [modD_ok, hk, er, -rng1_int]
    rw [rng_map]
    refine lc_calls (i := 0) (v := 3) (c := 100) (enc := D.int) (S := fun _ (w : Int) => 0 ≤ w ∧ w < z) rfl rfl hz2 (fun _ => rfl) (fun b hb n' ws hw hn' => ?_) (fun rs ws hl hS hw => ?_)
    · have hkk : 100 * (List.range k).length ≤ 100 * 5 := Nat.mul_le_mul_left _ (by simp; omega)
      simp (disch := first | omega | (simp; done) | fail)
      refine wpX_callX (r_far_2 hw (by omega) a z (by omega)) fun d ws2 ⟨⟨j, e, j0, j1⟩, hd3⟩ => ?_
      subst e
      exact ⟨rfl, j, rfl, ⟨j0, j1⟩, ws2, hd3, rfl⟩
    · have hkk : 100 * (List.range k).length ≤ 100 * 5 := Nat.mul_le_mul_left _ (by simp; omega)
      have hw0 : Dr (n + 603) ws := hw.mono (by omega)
      have hr : ∀ w ∈ rs, 0 ≤ w ∧ w < z := fun w hw => by
        obtain ⟨j, hj⟩ := List.getElem?_of_mem hw
        have hjl := (List.getElem?_eq_some_iff.mp hj).1
        exact hS j w j hj (by rw [List.getElem?_range (by simp at hl; omega)])
      have lr : rs.length ≤ 5 := by rw [hl]; simp; omega
      have tW := hasTL_ints rs
      simp (disch := first | omega | (simp; done) | fail) [tW, small (show rs.length ≤ 16777216 by omega)]
      refine wpX_next hw0 (by omega) fun v zs3 hv hz3 => ?_
      simp (disch := first | omega | (simp; done) | fail) [modD_ok]
      refine wp_cut (fun m => ∃ (ms : List Int), m = [some (lentD (some a) zs3), some (.int z), some (.lst false (ms.map .int)), none] ∧ (∀ w ∈ ms, 0 ≤ w ∧ w < z) ∧ ms.length ≤ 7) ?_ (fun m hm => ?_)
      · by_cases c : v % 3 = 1
        · have ad : addD (.lst false (rs.map .int)) (.lst false [.int 0, .int (z - 1)]) = .ok (.lst false ((rs ++ [0, z - 1]).map .int)) := by rw [addD_lst (by simp; omega)]; simp
          have tW2 := hasTL_ints (rs ++ [0, z - 1])
          obtain ⟨R, hR⟩ : ∃ R, R = (rs ++ [0, z - 1]).map D.int := ⟨_, rfl⟩
          rw [← hR] at ad tW2
          simp [c, tW, -addD_lst, ad, tW2, stillL_of _ tW2, stillL_of _ tW]
          refine ⟨rs ++ [0, z - 1], hR, fun w hw => ?_, by simp; omega⟩
          rcases List.mem_append.mp hw with hw | hw
          · exact hr w hw
          · simp only [List.mem_cons, List.not_mem_nil, or_false] at hw
            omega
        · simp [c]
          exact ⟨rs, rfl, hr, by omega⟩
      · obtain ⟨ms, rfl, hms, lms⟩ := hm
        have tM := hasTL_ints ms
        have es : setSortD (.lst false (ms.map .int)) = .ok ((setS ms).map .int) := by
          simp only [setSortD, intsOf_map]
          rw [if_pos (by have : scanBound = 4096 := rfl; omega)]
        have lS := setS_len ms
        have tS := hasTL_ints (setS ms)
        simp (disch := first | omega | (simp; done) | fail) [aSetS, es, tS, stillL_of _ tS, hasT, hasTL]
        exact ⟨zs3, rfl, ⟨z, setS ms, by simp [encP], ⟨z1, lt_2000 z2, by omega, fun w hw => hms w ((setS_mem ms w).mp hw), setS_lt ms⟩, z2⟩, hz3.mono⟩
end CK

namespace CK
open PySem PySem.Spec PyProof.Rows L2 CT
theorem mkLstF_3 (a b c : D) : mkLstF [a, b, c] = .ok (.lst false [a, b, c]) := by
  unfold mkLstF
  rw [if_pos (small (by simp))]
def P40 (q : Part) : Prop := PartOk q ∧ nplaces q ≤ 10000000000000000000000000000000000000000
theorem r_behind_9 {n : Nat} {xs : List D} (h : Dr n xs) (hn : n ≤ 700000) (a : Nat) (many : Nat) (hm : many ≤ 8) :
    ∃ v ys, s_law_behind [lentD (some a) xs, .int (many : Int)] = .ok (v, some (lentD (some a) ys)) ∧ (∃ l : List Part, v = .lst false (l.map encP) ∧ (∀ q ∈ l, P40 q) ∧ l.length ≤ many) ∧ Dr (n + 3000) ys := by
  unfold s_law_behind
  refine defL_run rfl ?_
  have e : (List.map some [lentD (some a) xs, .int (many : Int)] ++ List.replicate (5 - 2) none : Sl) = [some (lentD (some a) xs), some (.int (many : Int)), none, none, none] := rfl
  rw [e]
  simp (disch := first | omega | (simp; done) | fail) [wpB_seq, wpB_ifX]
  refine wpX_next h (by omega) fun i ys hi hd => ?_
  simp (disch := first | omega | (simp; done) | fail) [modD_ok]
  by_cases c : i % 3 = 1
  · simp [c, wpB_seq, -wp_for_cons, -wp_for_nil]
    refine wpX_next hd (by omega) fun i2 ys2 hi2 hd2 => ?_
    obtain ⟨k, hk⟩ : ∃ k : Nat, (if 1 + i2 % 3 < (many : Int) then 1 + i2 % 3 else (many : Int)) = (k : Int) := Int.eq_ofNat_of_zero_le (by split <;> omega)
    have k3 : k ≤ 3 ∧ k ≤ many := by split at hk <;> omega
    have er : rng1 [.int (k : Int)] = .ok (rng 0 k) := by rw [rng1_int ⟨by omega, by omega⟩]; simp
    simp (disch := first | omega | (simp; done) | fail) [modD_ok, hk, er, -rng1_int, -wp_for_cons, -wp_for_nil]
    obtain ⟨J, hJ⟩ : ∃ J : Nat → Sl → Prop, J = fun j m => ∃ (ys : List D) (l : List Part) (x3 x4 : Option D), m = [some (lentD (some a) ys), some (.int (many : Int)), some (.lst true (l.map encP)), x3, x4] ∧ (∀ q ∈ l, P40 q) ∧ l.length ≤ j ∧ Dr (n + 2 + 710 * j) ys := ⟨_, rfl⟩
    refine wp_rng J ?_ (fun j hj m hm => ?_) (fun m hm => ?_)
    · rw [hJ]; exact ⟨ys2, [], none, none, rfl, by simp, by simp, hd2.mono⟩
    · rw [hJ] at hm
      obtain ⟨zs, l, x3, x4, rfl, h1, h2, hz⟩ := hm
      simp (disch := first | omega | (simp; done) | fail)
      refine wpX_next hz (by omega) fun v zs2 hv hz2 => ?_
      simp (disch := first | omega | (simp; done) | fail) [modD_ok, mkLstF_3]
      refine wpX_next hz2 (by omega) fun v2 zs3 hv2 hz3 => ?_
      obtain ⟨q, hq, ix⟩ : ∃ q : Part, P40 q ∧ ixD (.lst false [.tup [.str "click"], .tup [.str "rocker"], .tup [.str "spring", .int (1 + v % 9)]]) (.int (v2 % 3)) = .ok (encP q) := by
        have : v2 % 3 = 0 ∨ v2 % 3 = 1 ∨ v2 % 3 = 2 := by omega
        have z9 : (1 + v % 9 : Int) < 2 ^ 2000 := lt_2000 (by omega)
        rcases this with e | e | e <;> rw [e]
        · exact ⟨.click, ⟨trivial, by simp [nplaces]⟩, ixD_lst (i := 0) rfl⟩
        · exact ⟨.rocker, ⟨trivial, by simp [nplaces]⟩, ixD_lst (i := 1) rfl⟩
        · exact ⟨.spring (1 + v % 9), ⟨⟨by omega, z9⟩, by simp only [nplaces]; omega⟩, ixD_lst (i := 2) rfl⟩
      have tq := hasT_encP q
      simp (disch := first | omega | (simp; done) | fail) [modD_ok, ix, tq]
      refine wpX_next hz3 (by omega) fun v3 zs4 hv3 hz4 => ?_
      simp (disch := first | omega | (simp; done) | fail) [modD_ok]
      refine wp_cut (fun m => ∃ (ys : List D) (q : Part), m = [some (lentD (some a) ys), some (.int (many : Int)), some (.lst true (l.map encP)), some (.int (j : Int)), some (encP q)] ∧ P40 q ∧ Dr (n + 2 + 710 * j + 703) ys) ?_ (fun m hm => ?_)
      · by_cases c2 : v3 % 4 = 1
        · simp (disch := first | omega | (simp; done) | fail) [c2]
          refine wpX_callX (r_wheel_9 hz4 (by omega) a) fun d ws ⟨⟨z, ms, e, w1, w2⟩, hd3⟩ => ?_
          subst e
          simp only [hasT_encP]
          simp
          exact ⟨ws, .wheel z ms, ⟨rfl, rfl⟩, ⟨w1, w2⟩, hd3.mono⟩
        · simp [c2]
          exact ⟨zs4, q, ⟨rfl, rfl⟩, hq, hz4.mono⟩
      · obtain ⟨ws, q, rfl, hq, hw⟩ := hm
        have tq := hasT_encP q
        simp (disch := first | omega | (simp; done) | fail) [tq, small (show l.length + 1 ≤ 16777216 by omega), Nat.lt_of_lt_of_le (show l.length < l.length + 1 by omega) (small (show l.length + 1 ≤ 16777216 by omega))]
        rw [hJ]
        refine ⟨ws, l ++ [q], _, _, by simp; exact ⟨rfl, rfl⟩, fun x hx => ?_, by simp; omega, hw.mono⟩
        rcases List.mem_append.mp hx with hx | hx
        · exact h1 x hx
        · rw [List.mem_singleton.mp hx]; exact hq
    · rw [hJ] at hm
      obtain ⟨zs, l, x3, x4, rfl, h1, h2, hz⟩ := hm
      simp
      exact ⟨zs, rfl, ⟨l, rfl, h1, by omega⟩, hz.mono⟩
  · simp [c]
    exact ⟨ys, rfl, hd.mono⟩
theorem r_deed_9 {n : Nat} {xs : List D} (h : Dr n xs) (hn : n ≤ 800000) (a : Nat) (l : List Part) (hl : 1 ≤ l.length) :
    ∃ v ys, s_law_deed [lentD (some a) xs, .lst false (l.map encP)] = .ok (v, some (lentD (some a) ys)) ∧ (∃ d : Deed, v = encDd d ∧ DeedOk l.length d ∧ d.n < 1000000000000000000000000000000000000000) ∧ Dr (n + 110) ys := by
  have l0 : (0 : Int) < (l.length : Int) := by omega
  unfold s_law_deed
  refine defL_run rfl ?_
  have e : (List.map some [lentD (some a) xs, .lst false (l.map encP)] ++ List.replicate (3 - 2) none : Sl) = [some (lentD (some a) xs), some (.lst false (l.map encP)), none] := rfl
  rw [e]
  simp (disch := first | omega | (simp; done) | fail) [wpB_seq]
  refine wpX_next h (by omega) fun i ys hi hd => ?_
  simp (disch := first | omega | (simp; done) | fail) [modD_ok]
  refine wpX_next hd (by omega) fun i2 ys2 hi2 hd2 => ?_
  have ix : ∃ w : Int, (w = 1 ∨ w = -1) ∧ ixD (.lst false [.int 1, .int (-1)]) (.int (i2 % 2)) = .ok (.int w) := by
    have : i2 % 2 = 0 ∨ i2 % 2 = 1 := by omega
    rcases this with e | e <;> rw [e]
    · exact ⟨1, .inl rfl, ixD_lst (i := 0) rfl⟩
    · exact ⟨-1, .inr rfl, ixD_lst (i := 1) rfl⟩
  obtain ⟨w, hw1, ix⟩ := ix
  simp (disch := first | omega | (simp; done) | fail) [modD_ok, ix, pow10_39]
  refine wpX_callX (r_far_2 hd2 (by omega) a 1000000000000000000000000000000000000000 (by omega)) fun d ws ⟨⟨j, e, j0, j1⟩, hd3⟩ => ?_
  subst e
  simp
  exact ⟨ws, rfl, ⟨⟨i % (l.length : Int), w, j⟩, rfl, ⟨Int.emod_nonneg _ (by omega), Int.emod_lt_of_pos _ l0, hw1, j0⟩, j1⟩, hd3.mono⟩
end CK

namespace CK
open PySem PySem.Spec PyProof.Rows L2 CT
theorem a2_eq (op : D → D → R (List D)) (f g : SemE) (m : Sl) : a2 op f g m = (f m).bind fun x => (g m).bind fun y => op x y := rfl
theorem sumI_app : ∀ a b : List Int, sumI (a ++ b) = sumI a + sumI b
  | [], b => by simp [sumI]
  | x :: a, b => by rw [List.cons_append, sumI_cons, sumI_cons, sumI_app a b]; omega
def netD (n : Nat) (row : List Deed) : List D := (List.range n).map fun j => .int (nets row j)
theorem netD_map (n : Nat) (row : List Deed) : netD n row = ((List.range n).map (nets row)).map .int := by
  rw [List.map_map]; rfl
theorem netD_t (n : Nat) (row : List Deed) : hasTL (netD n row) = false := by rw [netD_map]; exact hasTL_ints _
theorem netD_len (n : Nat) (row : List Deed) : (netD n row).length = n := by simp [netD]
theorem netD_at {n : Nat} {row : List Deed} {i : Nat} (h : i < n) : (netD n row)[i]? = some (.int (nets row i)) := by
  unfold netD
  rw [List.getElem?_map, List.getElem?_range h]; rfl
theorem netD_set {n : Nat} {row : List Deed} {d : Deed} {i : Nat} (hi : d.i = (i : Int)) (h : i < n) : (netD n row).set i (.int (nets row i + d.w * d.n)) = netD n (row ++ [d]) := by
  refine List.ext_getElem? fun p => ?_
  rw [List.getElem?_set]
  by_cases c : i = p
  · subst c
    rw [if_pos rfl, if_pos (by rw [netD_len]; exact h), netD_at h]
    simp [nets_app, nets, hi, unitN]
  · rw [if_neg c]
    by_cases c2 : p < n
    · have : ¬ p = i := fun e => c e.symm
      rw [netD_at c2, netD_at c2]
      simp [nets_app, nets, hi, unitN, this]
    · rw [List.getElem?_eq_none (by rw [netD_len]; omega), List.getElem?_eq_none (by rw [netD_len]; omega)]
theorem r_law_net {l : List Part} {row : List Deed} (hl : l.length ≤ 1000) (hr : ∀ d ∈ row, DeedOk l.length d) :
    s_law_net [.lst false (l.map encP), .lst false (row.map encDd)] = .ok (.lst true (netD l.length row)) := by
  have z0 : sizeLine = 16777216 := sizeBig
  have er : repL (.lst false [.int 0]) (.int (l.length : Int)) = .ok (netD l.length []) := by
    simp only [repL]
    rw [if_pos ⟨by omega, by omega, by simp; omega⟩]
    congr 1
    refine List.ext_getElem? fun j => ?_
    by_cases c : j < l.length
    · rw [netD_at c]; simp [List.getElem?_replicate, c, nets]
    · rw [List.getElem?_eq_none (by simp; omega), List.getElem?_eq_none (by rw [netD_len]; omega)]
  have tN := fun r => netD_t l.length r
  have sN := fun r => stillL_of _ (netD_t l.length r)
  unfold s_law_net
  refine def_ok1 rfl ?_
  simp [a2_eq, er, tN, -wp_for_cons, -wp_for_nil]
  obtain ⟨J, hJ⟩ : ∃ J : Nat → Sl → Prop, J = fun j m => ∃ (x3 x4 x5 : Option D), m = [some (.lst false (l.map encP)), some (.lst false (row.map encDd)), some (.lst true (netD l.length (row.take j))), x3, x4, x5] := ⟨_, rfl⟩
  refine wp_map J ?_ (fun j d hj m hm => ?_) (fun m hm => ?_)
  · rw [hJ]; exact ⟨none, none, none, by simp⟩
  · rw [hJ] at hm
    obtain ⟨x3, x4, x5, rfl⟩ := hm
    obtain ⟨d1, d2, d3, d4⟩ := hr d (List.mem_of_getElem? hj)
    obtain ⟨i, hi⟩ := Int.eq_ofNat_of_zero_le d1
    have hil : i < l.length := by omega
    have ix : ixD (.lst true (netD l.length (row.take j))) (.int (i : Int)) = .ok (.int (nets (row.take j) i)) := ixD_lst (netD_at hil)
    have mu : mulD (.int d.w) (.int d.n) = .ok (.int (d.w * d.n)) := mulD_l (by omega)
    have st : ∀ (y : D) (k : List D → R Sl), setN (netD l.length (row.take j)) (i : Int) y k = k ((netD l.length (row.take j)).set i y) := fun y k => setN_nat (by rw [netD_len]; exact hil)
    have fin := netD_set (n := l.length) (row := row.take j) hi hil
    have eR : row.take (j + 1) = row.take j ++ [d] := by rw [List.take_add_one, hj]; rfl
    rw [← eR] at fin
    simp [encDd, hi, ix, mu, subR_eq, st, fin, tN]
    rw [hJ]
    exact ⟨_, _, _, rfl⟩
  · rw [hJ] at hm
    obtain ⟨x3, x4, x5, rfl⟩ := hm
    rw [List.take_length]
    simp [tN, sRetV]
theorem netN_snoc : ∀ {W : List Part} {st : List Int} (x : Nat → Int) (c z : Int) (ms : List Int) (p : Int), allWB W = true → st.length = W.length →
    netN (W ++ [.wheel z ms]) (st ++ [p]) x c = ((netN W st x c).1 ++ [(p + ((netN W st x c).2 + x W.length)) % z], potN z ms (p + ((netN W st x c).2 + x W.length)) - potN z ms p)
  | [], [], x, c, z, ms, p, _, _ => by simp [netN]
  | .wheel z0 m0 :: W, p0 :: st, x, c, z, ms, p, hw, hl => by
    simp only [List.cons_append, netN]
    rw [netN_snoc (fun j => x (j + 1)) _ z ms p (by simpa [allWB, isWB] using hw) (by simpa using hl)]
    simp
  | .click :: _, _, _, _, _, _, _, hw, _ => by simp [allWB, isWB] at hw
  | .rocker :: _, _, _, _, _, _, _, hw, _ => by simp [allWB, isWB] at hw
  | .spring _ :: _, _, _, _, _, _, _, hw, _ => by simp [allWB, isWB] at hw
theorem wheel_of {W : List Part} (hw : allWB W = true) {q : Part} (h : q ∈ W) : ∃ z ms, q = .wheel z ms := by
  have := List.all_eq_true.mp hw q h
  cases q <;> simp [isWB] at this
  exact ⟨_, _, rfl⟩
theorem r_law_due_9 {W : List Part} {st N : List Int} {many : Int} (h : ∀ q ∈ W, PartOk q) (hw : allWB W = true) (hs : W.length ≤ st.length) (hN : W.length ≤ N.length) (hW : W.length ≤ 1000) (hb : ∀ x ∈ N, -(10 ^ 160) ≤ x ∧ x ≤ 10 ^ 160) (hm : -(10 ^ 160) ≤ many ∧ many ≤ 10 ^ 160) :
    s_law_due_2 [.lst false (W.map encP), encS st, .lst false (N.map .int), .int many] = .ok (encR (netN W (st.take W.length) (fun j => N.getD j 0 * many) 0)) := by
  have z0 : sizeLine = 16777216 := sizeBig
  have zp : zipI3 true [.lst false (W.map encP), .tup (st.map .int), .lst false (N.map .int)] = .ok (((W.zip st).zip N).map fun p => D.tup [encP p.1.1, .int p.1.2, .int p.2]) := by
    have z : zipL3 (W.map encP) (st.map .int) (N.map .int) = ((W.zip st).zip N).map fun p => D.tup [encP p.1.1, .int p.1.2, .int p.2] := by
      unfold zipL3
      rw [List.zip_map, List.zip_map, List.map_map]; rfl
    rw [← z]
    simp [zipI3, zipOk, hasTL_map hasT_encP, hasTL_ints]
  have lz : ((W.zip st).zip N).length = W.length := by simp; omega
  obtain ⟨x, hx⟩ : ∃ x : Nat → Int, x = fun j => N.getD j 0 * many := ⟨_, rfl⟩
  rw [← hx]
  unfold s_law_due_2
  refine def_ok1 rfl ?_
  simp [aZip3, encS, zp, -wp_for_cons, -wp_for_nil]
  obtain ⟨J, hJ⟩ : ∃ J : Nat → Sl → Prop, J = fun j m => ∃ (x6 x7 x8 x9 x10 : Option D), m = [some (.lst false (W.map encP)), some (.tup (st.map .int)), some (.lst false (N.map .int)), some (.int many), some (.lst true ((netN (W.take j) (st.take j) x 0).1.map .int)), some (.int (netN (W.take j) (st.take j) x 0).2), x6, x7, x8, x9, x10] := ⟨_, rfl⟩
  refine wp_map J ?_ (fun j p hj m hm => ?_) (fun m hm => ?_)
  · rw [hJ]; exact ⟨none, none, none, none, none, by simp [netN]⟩
  · rw [hJ] at hm
    obtain ⟨x6, x7, x8, x9, x10, rfl⟩ := hm
    obtain ⟨⟨q, p⟩, n⟩ := p
    obtain ⟨j1, j2⟩ := List.getElem?_zip_eq_some.mp hj
    obtain ⟨j3, j4⟩ := List.getElem?_zip_eq_some.mp j1
    simp only at j2 j3 j4
    have hjl := (List.getElem?_eq_some_iff.mp j3).1
    obtain ⟨z, ms, rfl⟩ := wheel_of hw (List.mem_of_getElem? j3)
    obtain ⟨w1, w2, w3, _, _⟩ := h _ (List.mem_of_getElem? j3)
    have mu : mulD (.int n) (.int many) = .ok (.int (n * many)) := mulD_160 (hb n (List.mem_of_getElem? j2)) hm
    have xj : x j = n * many := by rw [hx]; simp [List.getD_eq_getElem?_getD, j2]
    have sn := netN_snoc (W := W.take j) (st := st.take j) x 0 z ms p (List.all_eq_true.mpr fun q hq => List.all_eq_true.mp hw q (List.mem_of_mem_take hq)) (by simp; omega)
    have lj : (W.take j).length = j := by simp; omega
    have eW : W.take (j + 1) = W.take j ++ [.wheel z ms] := by rw [List.take_add_one, j3]; rfl
    have eS : st.take (j + 1) = st.take j ++ [p] := by rw [List.take_add_one, j4]; rfl
    rw [← eW, ← eS, lj, xj] at sn
    have ln : (netN (W.take j) (st.take j) x 0).1.length ≤ 1000 := by
      have go : ∀ {A : List Part} {s : List Int} (y : Nat → Int) (c : Int), (netN A s y c).1.length = s.length := by
        intro A
        induction A with
        | nil => intro s y c; rfl
        | cons a A ih =>
          intro s y c
          cases a <;> cases s <;> simp [netN, ih]
      rw [go]; simp; omega
    generalize netN (W.take j) (st.take j) x 0 = R at *
    obtain ⟨told, c⟩ := R
    simp only at sn ln
    have dv : ∀ i : Int, divD (.int i) (.int z) = .ok (.int (i / z)) := fun i => divD_z w1 w2
    have mz : ∀ i : Int, modD (.int i) (.int z) = .ok (.int (i % z)) := fun i => modD_z w1
    obtain ⟨B, hB⟩ : ∃ B, B = p + n * many + c := ⟨_, rfl⟩
    have hB2 : p + (c + n * many) = B := by omega
    rw [hB2] at sn
    simp [encP, mu, ← hB, -wp_for_cons, -wp_for_nil]
    obtain ⟨J2, hJ2⟩ : ∃ J2 : Nat → Sl → Prop, J2 = fun k m => ∃ (x10 : Option D), m = [some (.lst false (W.map encP)), some (.tup (st.map .int)), some (.lst false (N.map .int)), some (.int many), some (.lst true (told.map .int)), some (.int (sumI ((ms.map fun m => (B - m) / z - (p - m) / z).take k))), some (.tup [.str "wheel", .int z, .tup (ms.map .int)]), some (.int p), some (.int n), some (.int B), x10] := ⟨_, rfl⟩
    refine wp_map J2 ?_ (fun k mk hk m hm => ?_) (fun m hm => ?_)
    · rw [hJ2]; exact ⟨x10, by simp [sumI]⟩
    · rw [hJ2] at hm
      obtain ⟨x10, rfl⟩ := hm
      simp [dv]
      rw [hJ2]
      refine ⟨some (.int mk), ?_⟩
      have : sumI ((ms.map fun m => (B - m) / z - (p - m) / z).take (k + 1)) = sumI ((ms.map fun m => (B - m) / z - (p - m) / z).take k) + (B - mk) / z - (p - mk) / z := by
        rw [List.take_add_one, List.getElem?_map, hk, sumI_app]
        simp [sumI]; omega
      rw [this]
    · rw [hJ2] at hm
      obtain ⟨x10, rfl⟩ := hm
      have tl : (ms.map fun m => (B - m) / z - (p - m) / z).take ms.length = ms.map fun m => (B - m) / z - (p - m) / z := List.take_of_length_le (by simp)
      rw [tl, sumI_sub]
      have e : sumI (ms.map fun m => (B - m) / z) - sumI (ms.map fun m => (p - m) / z) = potN z ms B - potN z ms p := rfl
      rw [e]
      have hlt : told.length < sizeLine := by rw [z0]; omega
      simp [mz, hlt]
      rw [hJ]
      refine ⟨some (.tup [.str "wheel", .int z, .tup (ms.map .int)]), some (.int p), some (.int n), some (.int B), x10, ?_⟩
      rw [sn]
      simp
  · rw [hJ] at hm
    obtain ⟨x6, x7, x8, x9, x10, rfl⟩ := hm
    rw [lz, List.take_length]
    simp [encR]
end CK

namespace CK
open PySem PySem.Spec PyProof.Rows L2 CT
end CK

namespace CK
open PySem PySem.Spec PyProof.Rows L2 CT
theorem alike_ints : ∀ a b : List Int, PySem.W.alikeAll (pyL (a.map .int)) (pyL (b.map .int)) = true
  | [], _ => by simp [pyL, PySem.W.alikeAll]
  | _ :: _, [] => by simp [pyL, PySem.W.alikeAll]
  | x :: a, y :: b => by simp [pyL, py, PySem.W.alikeAll, PySem.W.alike, alike_ints a b]
theorem depth_ints : ∀ a : List Int, PyData.depthAll (pyL (a.map .int)) = 0
  | [] => rfl
  | x :: a => by simp [pyL, py, PyData.depthAll, PyData.depth, depth_ints a]
theorem okP_ints : ∀ a : List Int, okPL (a.map .int) = true
  | [] => rfl
  | x :: a => by simp [okPL, okP, okP_ints a]
end CK

namespace CK
open PySem PySem.Spec PyProof.Rows L2 CT
end CK

namespace CK
open PySem PySem.Spec PyProof.Rows L2 CT
end CK

namespace CK
open PySem PySem.Spec PyProof.Rows L2 CT
def far : Nat := 1000000000
end CK

namespace CK
open PySem PySem.Spec PyProof.Rows L2 CT
@[simp] theorem revD_lst (t : Bool) (xs : List D) : revD (.lst t xs) = .ok (.lst false xs.reverse) := nr rfl
@[simp] theorem revD_tup (xs : List D) : revD (.tup xs) = .ok (.tup xs.reverse) := nr rfl
end CK

namespace CK
open PySem PySem.Spec PyProof.Rows L2 CT
@[simp] theorem ofR_ok {α : Type} (m : Sl) (a : α) (k : α → RS) : ofR m (.ok a) k = k a := nr rfl
@[simp] theorem ofR_exc {α : Type} (m : Sl) (c : String) (k : α → RS) : ofR m (.exc c) k = .exc c m := nr rfl
@[simp] theorem still_ex (c : String) : still (.ex c) = .ex c := nr rfl
@[simp] theorem hasT_ex (c : String) : hasT (.ex c) = false := nr rfl
end CK

namespace CK
open PySem PySem.Spec PyProof.Rows L2 CT
end CK

namespace CK
open PySem PySem.Spec PyProof.Rows L2 CT
end CK

namespace CK
open PySem PySem.Spec PyProof.Rows L2 CT
end CK

namespace CK
open PySem PySem.Spec PyProof.Rows L2 CT
end CK

namespace CK
open PySem PySem.Spec PyProof.Rows L2 CT
end CK

namespace CK
open PySem PySem.Spec PyProof.Rows L2 CT
end CK

namespace CK
open PySem PySem.Spec PyProof.Rows L2 CT
end CK

namespace CK
open PySem PySem.Spec PyProof.Rows L2 CT
end CK

namespace CK
open PySem PySem.Spec PyProof.Rows L2 CT
end CK

namespace CK
open PySem PySem.Spec PyProof.Rows L2 CT
end CK

namespace CK
open PySem PySem.Spec PyProof.Rows L2 CT
end CK

namespace CK
open PySem PySem.Spec PyProof.Rows L2 CT
end CK

namespace CK
open PySem PySem.Spec PyProof.Rows L2 CT
end CK

namespace CK
open PySem PySem.Spec PyProof.Rows L2 CT
end CK

namespace CK
open PySem PySem.Spec PyProof.Rows L2 CT
end CK

namespace CK
open PySem PySem.Spec PyProof.Rows L2 CT
theorem toks_ints : ∀ {a b : List Int} {x y : List (Int ⊕ List Nat)}, PySem.W.keyToksAll (pyL (a.map .int)) ++ x = PySem.W.keyToksAll (pyL (b.map .int)) ++ y → a = b ∧ x = y
  | [], [], x, y, h => by simpa [pyL, PySem.W.keyToksAll] using h
  | [], b :: bs, x, y, h => by simp [pyL, PySem.W.keyToksAll] at h
  | a :: as, [], x, y, h => by simp [pyL, PySem.W.keyToksAll] at h
  | a :: as, b :: bs, x, y, h => by
    simp only [List.map_cons, pyL, py, PySem.W.keyToksAll, PySem.W.keyToks, List.cons_append, List.nil_append, List.cons.injEq, true_and, List.append_assoc] at h
    obtain ⟨h1, h2⟩ := h
    obtain ⟨rfl, h3⟩ := toks_ints h2
    exact ⟨by rw [Sum.inl.inj h1], h3⟩
end CK

namespace CK
open PySem PySem.Spec PyProof.Rows L2 CT
structure Srt {α : Type} (enc : α → D) : Prop where
  inj : ∀ a b, PySem.W.keyToks (py (enc a)) = PySem.W.keyToks (py (enc b)) → a = b
  al : ∀ a b, PySem.W.alike (py (enc a)) (py (enc b)) = true
  ok : ∀ a, okP (enc a) = true
  dp : ∀ a, (py (enc a)).depth ≤ 60
  nt : ∀ a, hasT (enc a) = false
section
variable {α : Type} {enc : α → D}
abbrev leE (enc : α → D) (a b : α) : Bool := leP py (enc a) (enc b)
theorem sortD_E (R : List α) : sortD (R.map enc) = (R.mergeSort (leE enc)).map enc := by
  unfold sortD
  rw [PySem.W.sort_maps (r := leE enc) (s := leP py) enc fun _ _ _ _ => rfl]
theorem sort_E (o : Srt enc) (R : List α) (ht : ∀ a ∈ R, tupB (py (enc a)) = true) : sortR (R.map enc) = .ok (.lst false ((R.mergeSort (leE enc)).map enc)) := by
  rw [← sortD_E]
  unfold sortR
  rw [if_pos]
  rw [Bool.and_eq_true]
  constructor
  · clear ht
    induction R with
    | nil => rfl
    | cons p R ih => rw [List.map_cons, okPL, ih, o.ok]; rfl
  · rw [pyL_map, List.map_map]
    unfold sortableB
    rw [Bool.and_eq_true, Bool.and_eq_true, Bool.or_eq_true]
    refine ⟨⟨?_, .inl ?_⟩, ?_⟩
    · rw [List.all_eq_true]
      intro d hd
      rw [List.all_eq_true]
      intro e he
      obtain ⟨p, _, rfl⟩ := List.mem_map.mp hd
      obtain ⟨q, _, rfl⟩ := List.mem_map.mp he
      exact o.al p q
    · rw [List.all_eq_true]
      intro d hd
      obtain ⟨p, hp, rfl⟩ := List.mem_map.mp hd
      exact ht p hp
    · rw [List.all_eq_true]
      intro d hd
      obtain ⟨p, _, rfl⟩ := List.mem_map.mp hd
      exact decide_eq_true (o.dp p)
theorem sorted_E (o : Srt enc) (t : Bool) (R : List α) (ht : ∀ a ∈ R, tupB (py (enc a)) = true) : sortedD [.lst t (R.map enc)] = .ok (.lst false ((R.mergeSort (leE enc)).map enc)) := by
  have := sort_E o R ht
  simpa [sortedD] using this
end
theorem py_S (s : List Int) : py (encS s) = .tuple (pyL (s.map .int)) := by simp [encS, py]
theorem srt_S : Srt encS where
  inj := fun a b h => by
    rw [py_S, py_S] at h
    simp only [PySem.W.keyToks, List.cons.injEq, true_and] at h
    exact (toks_ints (x := []) (y := []) (by simpa using h)).1
  al := fun a b => by simp [py_S, PySem.W.alike, alike_ints]
  ok := fun a => by simp [encS, okP, okP_ints]
  dp := fun a => by simp [py_S, PyData.depth, depth_ints]
  nt := fun a => hasT_encS a
theorem tup_S {s : List Int} (h : 1 ≤ s.length) : tupB (py (encS s)) = true := by
  cases s with
  | nil => simp at h
  | cons a s => rfl
end CK

namespace CK
open PySem PySem.Spec PyProof.Rows L2 CT
theorem pushT_take : ∀ (l : List Part) (st : List Int) (w n : Int) (k : Nat), st.length = l.length → (pushT l st w n).1.take k = (pushT (l.take k) (st.take k) w n).1
  | [], [], _, _, k, _ => by simp [pushT]
  | q :: l, p :: st, w, n, 0, _ => by simp [pushT]
  | q :: l, p :: st, w, n, k + 1, h => by
    simp only [pushT, List.take_succ_cons]
    rw [pushT_take l st w _ k (by simpa using h)]
theorem pushI_take {l : List Part} {st : List Int} {i k : Nat} {w n : Int} (h : st.length = l.length) (hk : k ≤ l.length) : (pushI l st i w n).1.take k = if i < k then (pushI (l.take k) (st.take k) i w n).1 else st.take k := by
  unfold pushI
  simp only
  by_cases c : i < k
  · rw [if_pos c, List.take_append, List.take_take, Nat.min_eq_right (by omega), List.take_take, Nat.min_eq_left (show i ≤ k by omega), List.length_take, Nat.min_eq_left (by omega), pushT_take _ _ _ _ _ (by simp; omega), List.drop_take, List.drop_take]
  · rw [if_neg c, List.take_append_of_le_length (by simp; omega), List.take_take, Nat.min_eq_left (by omega)]
theorem walk_take {l : List Part} {k : Nat} (hk : k ≤ l.length) : ∀ {row : List Deed} {st : List Int}, st.length = l.length → (walkN l st row).1.take k = (walkN (l.take k) (st.take k) (row.filter fun d => decide (d.i.toNat < k))).1
  | [], st, _ => rfl
  | d :: row, st, h => by
    have ih := walk_take hk (row := row) (st := (pushI l st d.i.toNat d.w d.n).1) (by rw [pushI_len]; exact h)
    simp only [walkN]
    rw [ih, pushI_take h hk]
    by_cases c : d.i.toNat < k
    · rw [if_pos c, List.filter_cons, if_pos (by simpa using c)]; rfl
    · rw [if_neg c, List.filter_cons, if_neg (by simpa using c)]
theorem nets_filter {k j : Nat} (hj : j < k) : ∀ row : List Deed, nets (row.filter fun d => decide (d.i.toNat < k)) j = nets row j
  | [] => rfl
  | d :: row => by
    rw [List.filter_cons]
    by_cases c : d.i.toNat < k
    · rw [if_pos (by simpa using c)]
      simp only [nets, nets_filter hj row]
    · rw [if_neg (by simpa using c), nets_filter hj row]
      have : ¬ j = d.i.toNat := by omega
      simp [nets, unitN, this]
theorem netN_congr : ∀ {W : List Part} {st : List Int} {x y : Nat → Int} (c : Int), (∀ j < W.length, x j = y j) → netN W st x c = netN W st y c
  | [], _, _, _, _, _ => rfl
  | .wheel z ms :: W, [], _, _, _, _ => rfl
  | .wheel z ms :: W, p :: st, x, y, c, h => by
    simp only [netN]
    rw [h 0 (by simp), netN_congr _ fun j hj => h (j + 1) (by simpa using hj)]
  | .click :: _, _, _, _, _, _ => rfl
  | .rocker :: _, _, _, _, _, _ => rfl
  | .spring _ :: _, _, _, _, _, _ => rfl
theorem StandOk.takeL : ∀ {l : List Part} {st : List Int} (k : Nat), StandOk l st → StandOk (l.take k) (st.take k)
  | [], [], k, _ => by simp [StandOk]
  | q :: l, p :: st, 0, _ => by simp [StandOk]
  | q :: l, p :: st, k + 1, h => ⟨h.1, h.2.1, StandOk.takeL k h.2.2⟩
theorem walk_pre {l : List Part} {st : List Int} {row : List Deed} {k : Nat} (h : ∀ q ∈ l, PartOk q) (hk : k ≤ l.length) (hw : allWB (l.take k) = true) (hs : StandOk l st) (hr : ∀ d ∈ row, DeedOk l.length d) :
    (walkN l st row).1.take k = (netN (l.take k) (st.take k) (nets row) 0).1 := by
  have lk : (l.take k).length = k := by simp; omega
  rw [walk_take hk hs.length, walk_net (fun q hq => h q (List.mem_of_mem_take hq)) hw (hs.takeL k) fun d hd => ?_]
  · rw [netN_congr (y := nets row) 0 fun j hj => nets_filter (by omega) row]
  · obtain ⟨d1, d2⟩ := List.mem_filter.mp hd
    obtain ⟨e1, e2, e3, e4⟩ := hr d d1
    have := of_decide_eq_true d2
    exact ⟨e1, by rw [lk]; omega, e3, e4⟩
theorem nets_perm {a b : List Deed} (h : a.Perm b) (j : Nat) : nets a j = nets b j := by
  induction h with
  | nil => rfl
  | cons x _ ih => simp only [nets, ih]
  | swap x y l => simp only [nets]; omega
  | trans _ _ ih1 ih2 => exact ih1.trans ih2
def backD (d : Deed) : Deed := ⟨d.i, 0 - d.w, d.n⟩
theorem nets_back (j : Nat) : ∀ row : List Deed, nets (row.map backD) j = - nets row j
  | [] => rfl
  | d :: row => by
    simp only [List.map_cons, nets, nets_back j row, backD, unitN]
    split
    · rw [Int.zero_sub, Int.neg_mul]; omega
    · omega
theorem nets_out {row : List Deed} {n j : Nat} (h : ∀ d ∈ row, DeedOk n d) (hj : n ≤ j) : nets row j = 0 := by
  induction row with
  | nil => rfl
  | cons d row ih =>
    have h1 := h d (by simp)
    have : ¬ j = d.i.toNat := by have := h1.1; have := h1.2.1; omega
    simp only [nets, ih fun x hx => h x (by simp [hx]), unitN, if_neg this]
    rfl
theorem nets_rep (row : List Deed) (j : Nat) : ∀ k : Nat, nets (List.replicate k row).flatten j = nets row j * k
  | 0 => by simp [nets]
  | k + 1 => by
    rw [List.replicate_succ, List.flatten_cons, nets_app, nets_rep row j k, Int.natCast_succ, Int.mul_add, Int.mul_one]
    omega
def sgn (x : Int) : Int := if x < 0 then -1 else 1
def gath : Nat → List Int → List Deed
  | _, [] => []
  | i, x :: xs => if x ≠ 0 then ⟨i, sgn x, x.natAbs⟩ :: gath (i + 1) xs else gath (i + 1) xs
theorem gath_nets : ∀ (xs : List Int) (i j : Nat), nets (gath i xs) j = if i ≤ j then xs.getD (j - i) 0 else 0
  | [], i, j => by simp [gath, nets]
  | x :: xs, i, j => by
    have ih := gath_nets xs (i + 1) j
    simp only [gath]
    have hx : sgn x * (x.natAbs : Int) = x := by unfold sgn; split <;> omega
    by_cases c : x ≠ 0
    · rw [if_pos c]
      simp only [nets, ih, hx, unitN, Int.toNat_natCast]
      by_cases c2 : j = i
      · subst c2; simp; omega
      · rw [if_neg c2]
        by_cases c3 : i ≤ j
        · rw [if_pos (by omega), if_pos c3, show j - i = (j - (i + 1)) + 1 by omega]; simp
        · rw [if_neg (by omega), if_neg c3]; rfl
    · rw [if_neg c, ih]
      have c : x = 0 := Classical.not_not.mp c
      subst c
      by_cases c2 : j = i
      · subst c2; simp; omega
      · by_cases c3 : i ≤ j
        · rw [if_pos (by omega), if_pos c3, show j - i = (j - (i + 1)) + 1 by omega]; simp
        · rw [if_neg (by omega), if_neg c3]
theorem gath_ok : ∀ (xs : List Int) (i : Nat), ∀ d ∈ gath i xs, DeedOk (i + xs.length) d
  | [], i, d, h => by simp [gath] at h
  | x :: xs, i, d, h => by
    have ih := gath_ok xs (i + 1)
    simp only [gath] at h
    have go : d ∈ gath (i + 1) xs → DeedOk (i + (x :: xs).length) d := fun h => by
      have := ih d h
      rw [List.length_cons, show i + (xs.length + 1) = i + 1 + xs.length by omega]; exact this
    split at h
    · rcases List.mem_cons.mp h with rfl | h
      · refine ⟨by simp, by simp; omega, ?_, by simp⟩
        show sgn x = 1 ∨ sgn x = -1
        unfold sgn; split <;> simp
      · exact go h
    · exact go h
theorem gath_len : ∀ (xs : List Int) (i : Nat), (gath i xs).length ≤ xs.length
  | [], i => by simp [gath]
  | x :: xs, i => by
    have := gath_len xs (i + 1)
    simp only [gath]
    split <;> simp <;> omega
theorem nets_le {B : Int} {row : List Deed} (hB : 0 ≤ B) (h : ∀ d ∈ row, (d.w = 1 ∨ d.w = -1) ∧ 0 ≤ d.n ∧ d.n ≤ B) (j : Nat) : -((row.length : Int) * B) ≤ nets row j ∧ nets row j ≤ (row.length : Int) * B := by
  induction row with
  | nil => simp [nets]
  | cons d row ih =>
    obtain ⟨h1, h2⟩ := ih fun x hx => h x (by simp [hx])
    obtain ⟨d1, d2, d3⟩ := h d (by simp)
    have : -B ≤ unitN d.i.toNat (d.w * d.n) j ∧ unitN d.i.toNat (d.w * d.n) j ≤ B := by
      unfold unitN
      split
      · rcases d1 with e | e <;> rw [e] <;> omega
      · omega
    have e : ((d :: row).length : Int) * B = (row.length : Int) * B + B := by rw [List.length_cons, Int.natCast_succ, Int.add_mul, Int.one_mul]
    simp only [nets]
    omega
def lD (d : Deed) : List Int := [d.i, d.w, d.n]
def dL : List Int → Deed
  | [i, w, n] => ⟨i, w, n⟩
  | _ => ⟨0, 1, 0⟩
theorem sorted_row (row : List Deed) : ∃ r' : List Deed, sortedD [.lst false (row.map encDd)] = .ok (.lst false (r'.map encDd)) ∧ r'.Perm row := by
  have e : row.map encDd = (row.map lD).map encS := by rw [List.map_map]; rfl
  have so := sorted_E srt_S false (row.map lD) fun a ha => by
    obtain ⟨d, _, rfl⟩ := List.mem_map.mp ha
    exact tup_S (by simp [lD])
  obtain ⟨A, hA⟩ : ∃ A, A = (row.map lD).mergeSort (leE encS) := ⟨_, rfl⟩
  have pm : A.Perm (row.map lD) := by rw [hA]; exact List.mergeSort_perm _ _
  rw [← hA] at so
  have back : ∀ d : Deed, dL (lD d) = d := fun d => rfl
  refine ⟨A.map dL, ?_, ?_⟩
  · rw [e, so, List.map_map]
    congr 2
    refine List.map_congr_left fun x hx => ?_
    obtain ⟨d, _, rfl⟩ := List.mem_map.mp (pm.mem_iff.mp hx)
    rfl
  · have := pm.map dL
    rw [List.map_map] at this
    have e2 : row.map (dL ∘ lD) = row := by
      have : (dL ∘ lD) = id := funext back
      rw [this]; simp
    rw [e2] at this
    exact this
end CK

namespace CK
open PySem PySem.Spec PyProof.Rows L2 CT
theorem r_law_is_9 {l : List Part} {k : Nat} {x y : List Int × Int} (hk : k ≤ l.length) (hl : l.length ≤ 1000) (hx : x.1.length = l.length) (e : x.1.take k = y.1) (e2 : k = l.length → x.2 = y.2) :
    s_law_is_2 [.lst false (l.map encP), .lst false ((l.take k).map encP), encR x, encR y] = .ok (.bl true) := by
  have z0 : sizeLine = 16777216 := sizeBig
  have ad : addD (.tup (x.1.map .int)) (.tup [.int x.2]) = .ok (.tup ((x.1 ++ [x.2]).map .int)) := by
    simp only [addD]
    rw [if_pos (by simp; omega)]
    simp
  have it : itemsN true (.tup ((x.1 ++ [x.2]).map .int)) = .ok ((x.1 ++ [x.2]).map .int) := by
    simp [itemsN, items, hasTL_append, hasTL_ints]
  have lk : (l.take k).length = k := by simp; omega
  have cu : cutA (x.1.map D.int) none (some (k : Int)) = y.1.map .int := by rw [cut_head, ← List.map_take, e]
  have q1 := eqD_self (sh_encS y.1)
  have q2 := eqD_self (sh_encR y)
  obtain ⟨NS, hNS⟩ : ∃ NS, NS = x.1 ++ [x.2] := ⟨_, rfl⟩
  rw [← hNS] at ad it
  have ne : neD (.int (x.1.length : Int)) (.int (l.length : Int)) = .ok (.bl false) := by rw [hx]; simp
  obtain ⟨A, hA⟩ : ∃ A, A = D.lst false (l.map encP) := ⟨_, rfl⟩
  obtain ⟨B, hB⟩ : ∃ B, B = D.lst false ((l.take k).map encP) := ⟨_, rfl⟩
  have lA : lenD [A] = .ok (.int (l.length : Int)) := by rw [hA]; simp
  have lB : lenD [B] = .ok (.int (k : Int)) := by rw [hB]; simp only [lenD, List.length_map, lk]
  have tA : hasT A = false := by rw [hA]; simp [hasTL_map hasT_encP]
  have tB : hasT B = false := by rw [hB]; simp only [hasT]; exact hasTL_map hasT_encP _
  have sA := still_of _ tA
  have sB := still_of _ tB
  have tX : hasTL (NS.map .int) = false := hasTL_ints _
  rw [← hA, ← hB]
  unfold s_law_is_2
  refine def_ok1 rfl ?_
  simp only [encR] at q2 ⊢
  simp [-sIf_eq, -wp_for_cons, -wp_for_nil, lA, lB, tA, tB, sA, sB, ad, it, ne]
  refine wp_cut (fun m => ∃ x4, m = [some A, some B, some (.tup [.tup (x.1.map .int), .int x.2]), some (.tup [.tup (y.1.map .int), .int y.2]), x4]) ?_ (fun m hm => ?_)
  · simp [ne, hx, lA]
  · obtain ⟨x4, rfl⟩ := hm
    simp [-sIf_eq, -wp_for_cons, -wp_for_nil, ad, it]
    obtain ⟨I, hI⟩ : ∃ I : Sl → Prop, I = fun m => ∃ x4, m = [some A, some B, some (.tup [.tup (x.1.map .int), .int x.2]), some (.tup [.tup (y.1.map .int), .int y.2]), x4] := ⟨_, rfl⟩
    refine wp_each I ?_ (fun d hd m hm => ?_) (fun m hm => ?_)
    · rw [hI]; exact ⟨_, rfl⟩
    · rw [hI] at hm
      obtain ⟨x4, rfl⟩ := hm
      simp
      rw [hI]; exact ⟨_, rfl⟩
    · rw [hI] at hm
      obtain ⟨x4, rfl⟩ := hm
      by_cases c : k < l.length
      · have c' : (k : Int) < (l.length : Int) := by omega
        simp only [encS] at q1
        simp [lA, lB, tA, tB, sA, sB, c, cu, q1]
      · have c' : ¬ (k : Int) < (l.length : Int) := by omega
        have kl : k = l.length := by omega
        have ex : x = y := by
          refine Prod.ext ?_ (e2 kl)
          rw [← e, List.take_of_length_le (by omega)]
        subst ex
        simp [lA, lB, tA, tB, sA, sB, c, q2]
end CK

namespace CK
open PySem PySem.Spec PyProof.Rows L2 CT
theorem gath_zip : ∀ (xs : List Int) (i : Nat), gath i xs = ((xs.zipIdx i).filter fun p => decide (p.1 ≠ 0)).map fun p => ⟨p.2, sgn p.1, p.1.natAbs⟩
  | [], i => rfl
  | x :: xs, i => by
    rw [List.zipIdx_cons, List.filter_cons]
    simp only [gath]
    by_cases c : x ≠ 0
    · rw [if_pos c, if_pos (by simpa using c), gath_zip xs (i + 1)]; rfl
    · rw [if_neg c, if_neg (by simpa using c), gath_zip xs (i + 1)]
theorem lc_gath {m : Sl} (hm : m.length = 13) (xs : List Int) (h6 : m[6]? = some none) (h12 : m[12]? = some none) :
    lcGo (gTupR 2 (gsCons (putR 6) (gsCons (putR 12) gsNil))) (tOf (CT.e2 neD (eVar 12) (eC (.int 0)))) (eA mkTup (aCons (eVar 6) (aCons (CT.e2 ixD (eOwn (aThen (aCons (eC (.int 1)) (aCons (CT.e2 subD (eC (.int 0)) (eC (.int 1))) aNil)) mkLst)) (eA intD (aCons (CT.e2 ltD (eVar 12) (eC (.int 0))) aNil))) (aCons (eA absD (aCons (eVar 12) aNil)) aNil)))) m (xs.zipIdx.map fun p => D.tup [.int (p.2 : Int), .int p.1]) = .ok ((gath 0 xs).map encDd) := by
  rw [lcGo_map (fun p : Int × Nat => D.tup [.int (p.2 : Int), .int p.1]) (fun p => decide (p.1 ≠ 0)) (fun p => encDd ⟨p.2, sgn p.1, p.1.natAbs⟩) xs.zipIdx fun p hp => ?_, gath_zip, List.map_map]
  · rfl
  · obtain ⟨x, i⟩ := p
    match m, hm with
    | [x0, x1, x2, x3, x4, x5, x6, x7, x8, x9, x10, x11, x12], _ =>
    refine ⟨[x0, x1, x2, x3, x4, x5, some (.int (i : Int)), x7, x8, x9, x10, x11, some (.int x)], rfl, by simp, fun hc => ?_⟩
    have ix : ixD (.lst false [.int 1, .int (-1)]) (.int (if x < 0 then 1 else 0)) = .ok (.int (sgn x)) := by
      unfold sgn
      by_cases c : x < 0
      · rw [if_pos c, if_pos c]; exact ixD_lst (i := 1) rfl
      · rw [if_neg c, if_neg c]; exact ixD_lst (i := 0) rfl
    have ea : (if x < 0 then -x else x) = (x.natAbs : Int) := by split <;> omega
    simp [ix, ea, encDd]
def Like (l : List Part) (row r : List Deed) : Prop := (∀ d ∈ r, DeedOk l.length d) ∧ (∀ j, nets r j = nets row j) ∧ r.length ≤ 1000
theorem ins_perm {α : Type} (H : List α) (k : Nat) (d : α) : (H.take k ++ d :: H.drop k).Perm (d :: H) := by
  have := (List.perm_middle (a := d) (l₁ := H.take k) (l₂ := H.drop k))
  rw [List.take_append_drop] at this
  exact this
theorem nets_ins (H : List Deed) (k : Nat) (d : Deed) (j : Nat) : nets (H.take k ++ d :: H.drop k) j = unitN d.i.toNat (d.w * d.n) j + nets H j := nets_perm (ins_perm H k d) j
theorem mem_ins {H : List Deed} {k : Nat} {d x : Deed} (h : x ∈ H.take k ++ d :: H.drop k) : x = d ∨ x ∈ H := by
  have := (ins_perm H k d).mem_iff.mp h
  simpa using this
theorem wpB_frz9 {i : Nat} {g : SemB} {m : Sl} {ds : List D} {P : D → Sl → Prop} (h : m[i]? = some (some (.lst true ds))) (k : wpB (g (m.set i (some (.lst false ds)))) P) : wpB (bFrz i g m) P := by
  unfold bFrz
  rw [h]
  exact k
theorem map_ins (H : List Deed) (k : Nat) (i w n : Int) : (H.map encDd).take k ++ D.tup [.int i, .int w, .int n] :: (H.map encDd).drop k = (H.take k ++ ⟨i, w, n⟩ :: H.drop k).map encDd := by
  rw [List.map_append, List.map_cons, List.map_take, List.map_drop]; rfl
theorem r_law_rows {n : Nat} {xs : List D} (h : Dr n xs) (hn : n ≤ 700000) (a : Nat) (l : List Part) (hl : 1 ≤ l.length) (hl8 : l.length ≤ 8) (row : List Deed) (hr : ∀ d ∈ row, DeedOk l.length d) (hlen : row.length ≤ 8) :
    ∃ v ys, s_law_rows [lentD (some a) xs, .lst false (l.map encP), .lst false (row.map encDd)] = .ok (v, some (lentD (some a) ys)) ∧ (∃ R : List (List Deed), v = .lst false (R.map encRow) ∧ R.length = 7 ∧ ∀ r ∈ R, Like l row r) ∧ Dr (n + 3000) ys := by
  have z0 : sizeLine = 16777216 := sizeBig
  have en := r_law_net (l := l) (row := row) (by omega) hr
  have tN := netD_t l.length row
  obtain ⟨NL, hNL⟩ : ∃ NL, NL = (List.range l.length).map (nets row) := ⟨_, rfl⟩
  have eN : enumI false (.lst false (netD l.length row)) = .ok (NL.zipIdx.map fun p => D.tup [.int (p.2 : Int), .int p.1]) := by
    unfold enumI
    simp only [Bool.false_and, Bool.false_eq_true, if_false]
    rw [netD_map, ← hNL, enumL_map]
  obtain ⟨G, hG⟩ : ∃ G, G = gath 0 NL := ⟨_, rfl⟩
  have lN : NL.length = l.length := by rw [hNL]; simp
  have lG : G.length ≤ 8 := by rw [hG]; have := gath_len NL 0; omega
  have okG : ∀ d ∈ G, DeedOk l.length d := fun d hd => by
    rw [hG] at hd
    have := gath_ok NL 0 d hd
    rw [Nat.zero_add, lN] at this; exact this
  have nG : ∀ j, nets G j = nets row j := fun j => by
    rw [hG, gath_nets, if_pos (by omega), Nat.sub_zero, hNL]
    by_cases c : j < l.length
    · simp [List.getD_eq_getElem?_getD, c]
    · rw [nets_out hr (by omega)]
      simp [List.getD_eq_getElem?_getD, c]
  have LG : Like l row G := ⟨okG, nG, by omega⟩
  have Lr : Like l row row := ⟨hr, fun _ => rfl, by omega⟩
  have Lperm : ∀ {r r' : List Deed}, r'.Perm r → Like l row r → Like l row r' := fun {r r'} p L => ⟨fun d hd => L.1 d (p.mem_iff.mp hd), fun j => by rw [nets_perm p, L.2.1], by rw [p.length_eq]; exact L.2.2⟩
  obtain ⟨rs, es, ps⟩ := sorted_row row
  have tr := hasTL_encDd row
  have sr := stillL_encDd row
  obtain ⟨RD, hRD⟩ : ∃ RD, RD = row.map encDd := ⟨_, rfl⟩
  unfold s_law_rows
  refine defL_run rfl ?_
  have e : (List.map some [lentD (some a) xs, .lst false (l.map encP), .lst false (row.map encDd)] ++ List.replicate (13 - 3) none : Sl) = [some (lentD (some a) xs), some (.lst false (l.map encP)), some (.lst false (row.map encDd)), none, none, none, none, none, none, none, none, none, none] := rfl
  rw [e]
  have lc := lc_gath (m := [some (lentD (some a) xs), some (.lst false (l.map encP)), some (.lst false (row.map encDd)), some (.lst false (netD l.length row)), none, none, none, none, none, none, none, none, none]) rfl NL rfl rfl
  rw [← hG] at lc
  have tG := hasTL_encDd G
  have sN := stillL_of _ tN
  rw [wpB_seq]
  simp [en, tN, sN]
  rw [wpB_seq]
  simp [eN, lc, tG, small (show G.length ≤ 16777216 by omega)]
  rw [wpB_seq]
  simp
  rw [wpB_seq]
  simp [-wp_for_cons, -wp_for_nil]
  obtain ⟨J, hJ⟩ : ∃ J : Nat → Sl → Prop, J = fun j m => ∃ (ys : List D) (H : List Deed) (x6 x7 x8 x9 x10 : Option D), m = [some (lentD (some a) ys), some (.lst false (l.map encP)), some (.lst false (row.map encDd)), some (.lst false (netD l.length row)), some (.lst false (G.map encDd)), some (.lst true (H.map encDd)), x6, x7, x8, x9, x10, none, none] ∧ (∀ d ∈ H, DeedOk l.length d) ∧ (∀ p, nets H p = nets (row.take j) p) ∧ H.length ≤ 2 * j ∧ Dr (n + 150 * j) ys := ⟨_, rfl⟩
  refine wp_map J ?_ (fun j d hj m hm => ?_) (fun m hm => ?_)
  · rw [hJ]; exact ⟨xs, [], none, none, none, none, none, rfl, by simp, fun p => by simp, by simp, h.mono⟩
  · rw [hJ] at hm
    obtain ⟨ys, H, x6, x7, x8, x9, x10, rfl, h1, h2, h3, hy⟩ := hm
    have hjl := (List.getElem?_eq_some_iff.mp hj).1
    obtain ⟨d1, d2, d3, d4⟩ := hr d (List.mem_of_getElem? hj)
    simp (disch := first | omega | (simp; done) | fail) [encDd, -wp_for_cons, -wp_for_nil]
    refine wpX_callX (r_far_2 hy (by omega) a (d.n + 1) (by omega)) fun v zs ⟨⟨f, e, f0, f1⟩, hd3⟩ => ?_
    subst e
    simp (disch := first | omega | (simp; done) | fail) [sInsX_eq]
    refine wpX_next hd3 (by omega) fun v2 zs2 hv2 hz2 => ?_
    obtain ⟨k, hk⟩ : ∃ k : Nat, v2 % ((H.length : Int) + 1) = (k : Int) := Int.eq_ofNat_of_zero_le (Int.emod_nonneg _ (by omega))
    have lH : H.length < sizeLine := by rw [z0]; omega
    have k1 := Int.emod_lt_of_pos v2 (show (0 : Int) < (H.length : Int) + 1 by omega)
    simp (disch := first | omega | (simp; done) | fail) [modD_ok, hk, lH]
    rw [if_pos (by omega)]
    simp
    rw [map_ins]
    obtain ⟨H1, hH1⟩ : ∃ H1, H1 = H.take k ++ ⟨d.i, d.w, f⟩ :: H.drop k := ⟨_, rfl⟩
    have l1 : H1.length = H.length + 1 := by rw [hH1, (ins_perm H k _).length_eq]; rfl
    rw [← hH1]
    refine wpX_next hz2 (by omega) fun v3 zs3 hv3 hz3 => ?_
    obtain ⟨k2, hk2⟩ : ∃ k : Nat, v3 % ((H1.length : Int) + 1) = (k : Int) := Int.eq_ofNat_of_zero_le (Int.emod_nonneg _ (by omega))
    have lH1 : H1.length < sizeLine := by rw [z0]; omega
    have k3 := Int.emod_lt_of_pos v3 (show (0 : Int) < (H1.length : Int) + 1 by omega)
    simp (disch := first | omega | (simp; done) | fail) [modD_ok, hk2, lH1]
    rw [if_pos (by omega)]
    simp
    rw [map_ins, hJ]
    have lj : (row.take (j + 1)) = row.take j ++ [d] := by rw [List.take_add_one, hj]; rfl
    refine ⟨zs3, _, _, _, _, _, _, rfl, fun x hx => ?_, fun p => ?_, ?_, hz3.mono⟩
    · rcases mem_ins hx with rfl | hx
      · exact ⟨d1, d2, d3, by show 0 ≤ d.n - f; omega⟩
      · rw [hH1] at hx
        rcases mem_ins hx with rfl | hx
        · exact ⟨d1, d2, d3, f0⟩
        · exact h1 x hx
    · rw [nets_ins, hH1, nets_ins, h2, lj, nets_app]
      simp only [nets, unitN]
      split
      · rw [Int.mul_sub]; omega
      · omega
    · rw [(ins_perm H1 k2 _).length_eq]; simp; omega
  · rw [hJ] at hm
    obtain ⟨ys, H, x6, x7, x8, x9, x10, rfl, h1, h2, h3, hy⟩ := hm
    rw [List.take_length] at h2
    have LH : Like l row H := ⟨h1, h2, by omega⟩
    have tH := hasTL_encDd H
    simp only
    rw [wpB_seq]
    simp
    refine wpX_callX (r_deed_9 hy (by omega) a l hl) fun v zs ⟨⟨d, e, dk, _⟩, hz⟩ => ?_
    subst e
    obtain ⟨d1, d2, d3, d4⟩ := dk
    refine ⟨by simp [encDd], ?_⟩
    simp [encDd]
    rw [wpB_seq]
    simp [tr, small (show row.length ≤ 16777216 by omega)]
    rw [wpB_seq]
    simp [sInsX_eq]
    refine wpX_next hz (by omega) fun v2 zs2 hv2 hz2 => ?_
    obtain ⟨k, hk⟩ : ∃ k : Nat, v2 % ((row.length : Int) + 1) = (k : Int) := Int.eq_ofNat_of_zero_le (Int.emod_nonneg _ (by omega))
    have lr : row.length < sizeLine := by rw [z0]; omega
    have k1 := Int.emod_lt_of_pos v2 (show (0 : Int) < (row.length : Int) + 1 by omega)
    simp (disch := first | omega | (simp; done) | fail) [modD_ok, hk, lr]
    rw [if_pos (by omega)]
    simp
    rw [map_ins]
    obtain ⟨H1, hH1⟩ : ∃ H1, H1 = row.take k ++ ⟨d.i, d.w, d.n⟩ :: row.drop k := ⟨_, rfl⟩
    have l1 : H1.length = row.length + 1 := by rw [hH1, (ins_perm row k _).length_eq]; rfl
    rw [← hH1]
    rw [wpB_seq]
    simp [sInsX_eq]
    refine wpX_next hz2 (by omega) fun v3 zs3 hv3 hz3 => ?_
    obtain ⟨k2, hk2⟩ : ∃ k : Nat, v3 % ((H1.length : Int) + 1) = (k : Int) := Int.eq_ofNat_of_zero_le (Int.emod_nonneg _ (by omega))
    have lH1 : H1.length < sizeLine := by rw [z0]; omega
    have k3 := Int.emod_lt_of_pos v3 (show (0 : Int) < (H1.length : Int) + 1 by omega)
    simp (disch := first | omega | (simp; done) | fail) [modD_ok, hk2, lH1]
    rw [if_pos (by omega)]
    simp
    rw [map_ins]
    obtain ⟨H2, hH2⟩ : ∃ H2, H2 = H1.take k2 ++ ⟨d.i, -d.w, d.n⟩ :: H1.drop k2 := ⟨_, rfl⟩
    have l2 : H2.length = H1.length + 1 := by rw [hH2, (ins_perm H1 k2 _).length_eq]; rfl
    rw [← hH2]
    have L2 : Like l row H2 := by
      refine ⟨fun x hx => ?_, fun p => ?_, by omega⟩
      · rw [hH2] at hx
        rcases mem_ins hx with rfl | hx
        · exact ⟨d1, d2, by show -d.w = 1 ∨ -d.w = -1; omega, d4⟩
        · rw [hH1] at hx
          rcases mem_ins hx with rfl | hx
          · exact ⟨d1, d2, d3, d4⟩
          · exact hr x hx
      · rw [hH2, nets_ins, hH1, nets_ins]
        simp only [unitN]
        split
        · rw [Int.neg_mul]; omega
        · omega
    have t2 := hasTL_encDd H2
    have s2 := stillL_encDd H2
    have sH := stillL_encDd H
    have sG := stillL_encDd G
    have tG' : hasTL (G.map encDd).reverse = false := by rw [← List.map_reverse]; exact hasTL_encDd _
    have tr' : hasTL (row.map encDd).reverse = false := by rw [← List.map_reverse]; exact hasTL_encDd _
    have trs := hasTL_encDd rs
    refine wpB_frz9 rfl (wpB_frz9 rfl ?_)
    have s7 : (7 : Nat) ≤ sizeLine := by rw [z0]; omega
    simp [es, tr, sr, t2, tH, tG, tG', tr', trs, s2, sH, sG, s7]
    refine ⟨by simp [hasTL, hasT, tr, t2, tH, tG, tG', tr', trs], zs3, rfl, ⟨[row, row.reverse, rs, G, G.reverse, H, H2], by simp [encRow], rfl, fun r hr => ?_⟩, hz3.mono⟩
    simp only [List.mem_cons, List.not_mem_nil, or_false] at hr
    rcases hr with rfl | rfl | rfl | rfl | rfl | rfl | rfl
    · exact Lr
    · exact Lperm (List.reverse_perm _) Lr
    · exact Lperm ps Lr
    · exact LG
    · exact Lperm (List.reverse_perm _) LG
    · exact LH
    · exact L2
end CK

namespace CK
open PySem PySem.Spec PyProof.Rows L2 CT
theorem mulD_2k {i j : Int} (hi : i.natAbs < 2 ^ 2000) (hj : j.natAbs < 2 ^ 2000) : mulD (.int i) (.int j) = .ok (.int (i * j)) := by
  refine mulD_ok (.inr (.inr ?_))
  have h1 := PySem.Flt.log2_lt_of (k := 2000) (by decide) hi
  have h2 := PySem.Flt.log2_lt_of (k := 2000) (by decide) hj
  omega
theorem prodN_le40 {l : List Part} (h : ∀ q ∈ l, P40 q) : prodN l ≤ (10000000000000000000000000000000000000000 : Int) ^ l.length := by
  induction l with
  | nil => simp [prodN]
  | cons q l ih =>
    have h1 := ih fun x hx => h x (by simp [hx])
    obtain ⟨q1, q2⟩ := h q (by simp)
    have h2 := nplaces_pos q1
    have h3 := prodN_pos (l := l) fun x hx => (h x (by simp [hx])).1
    have e : prodN (q :: l) = nplaces q * prodN l := rfl
    rw [e, List.length_cons, Int.pow_succ, Int.mul_comm]
    exact Int.mul_le_mul h1 q2 (by omega) (by omega)
theorem prodN_2k {l : List Part} (h : ∀ q ∈ l, P40 q) (hl : l.length ≤ 8) : (prodN l).natAbs < 2 ^ 2000 := by
  have h1 := prodN_le40 h
  have h3 := prodN_pos (l := l) fun x hx => (h x hx).1
  have h4 : ∀ k : Nat, k ≤ 8 → (10000000000000000000000000000000000000000 : Int) ^ k < 2 ^ 2000 := fun k hk => by
    have : k = 0 ∨ k = 1 ∨ k = 2 ∨ k = 3 ∨ k = 4 ∨ k = 5 ∨ k = 6 ∨ k = 7 ∨ k = 8 := by omega
    rcases this with rfl | rfl | rfl | rfl | rfl | rfl | rfl | rfl | rfl <;> decide +kernel
  have h5 := h4 _ hl
  have h6 : prodN l < 2 ^ 2000 := by omega
  have h7 : (((prodN l).natAbs : Nat) : Int) < ((2 ^ 2000 : Nat) : Int) := by
    rw [show (((prodN l).natAbs : Nat) : Int) = prodN l by omega]
    rw [Int.natCast_pow]; exact h6
  exact Int.ofNat_lt.mp h7
theorem place_2k {q : Part} (h : P40 q) : (nplaces q).natAbs < 2 ^ 2000 := by
  have := prodN_2k (l := [q]) (by simpa using h) (by simp)
  simpa [prodN] using this
def lensN (l : List Part) : Int := l.foldr (fun q n => (match q with | .wheel _ ms => (ms.length : Int) | _ => 0) * n) 1
theorem pushT_round : ∀ {l : List Part} {st : List Int} {w : Int} (c : Int), (∀ q ∈ l, PartOk q) → allWB l = true → StandOk l st → (w = 1 ∨ w = -1) → 0 ≤ c → pushT l st w (prodN l * c) = (st, lensN l * c)
  | [], [], w, c, _, _, _, _, _ => by simp [pushT, prodN, lensN]
  | .wheel z ms :: l, p :: st, w, c, h, hl, hs, hw, hc => by
    obtain ⟨h0, h1, h2⟩ := hs
    have hq := h (.wheel z ms) (by simp)
    have hz := hq.1
    have h3 := prodN_pos (l := l) fun x hx => h x (by simp [hx])
    have e : prodN (.wheel z ms :: l) = z * prodN l := rfl
    have el : lensN (.wheel z ms :: l) = (ms.length : Int) * lensN l := rfl
    have hn : 0 ≤ z * prodN l * c := Int.mul_nonneg (Int.mul_nonneg (by omega) (by omega)) hc
    have pp := push_pot hz ms p w (z * prodN l * c) hw hn
    have sh : p + w * (z * prodN l * c) = p + z * (w * (prodN l * c)) := by
      congr 1
      rw [Int.mul_assoc z, ← Int.mul_assoc w, Int.mul_comm w z, Int.mul_assoc]
    rw [sh, potN_shift hz] at pp
    have w2 : w * w = 1 := by rcases hw with rfl | rfl <;> rfl
    have k2 : (pushP (.wheel z ms) p w (z * prodN l * c)).2 = prodN l * (c * ms.length) := by
      have : w * (w * (pushP (.wheel z ms) p w (z * prodN l * c)).2) = w * (w * (prodN l * c) * ms.length) := by rw [pp]; congr 1; omega
      rw [← Int.mul_assoc, w2, Int.one_mul, Int.mul_assoc w, ← Int.mul_assoc w, w2, Int.one_mul] at this
      rw [this, Int.mul_assoc]
    have k1 : (pushP (.wheel z ms) p w (z * prodN l * c)).1 = p := by
      show (p + w * (z * prodN l * c)) % z = p
      rw [sh, Int.add_mul_emod_self_left, Int.emod_eq_of_lt h0 (show p < z from h1)]
    rw [e, el]
    simp only [pushT]
    rw [k1, k2, pushT_round (c * ms.length) (fun q hq => h q (by simp [hq])) (by simpa [allWB, isWB] using hl) h2 hw (Int.mul_nonneg hc (by omega))]
    congr 1
    rw [Int.mul_comm c, ← Int.mul_assoc, Int.mul_comm (lensN l)]
  | .click :: _, _, _, _, _, hl, _, _, _ => by simp [allWB, isWB] at hl
  | .rocker :: _, _, _, _, _, hl, _, _, _ => by simp [allWB, isWB] at hl
  | .spring _ :: _, _, _, _, _, hl, _, _, _ => by simp [allWB, isWB] at hl
theorem pushI_round {l : List Part} {st : List Int} {w : Int} {i : Nat} (h : ∀ q ∈ l, PartOk q) (hl : allWB l = true) (hs : StandOk l st) (hw : w = 1 ∨ w = -1) (hi : i ≤ l.length) : pushI l st i w (prodN (l.drop i)) = (st, w * lensN (l.drop i)) := by
  have := pushT_round (l := l.drop i) (st := st.drop i) (w := w) 1 (fun q hq => h q (List.mem_of_mem_drop hq)) (List.all_eq_true.mpr fun q hq => List.all_eq_true.mp hl q (List.mem_of_mem_drop hq)) (hs.drop i) hw (by omega)
  rw [Int.mul_one, Int.mul_one] at this
  unfold pushI
  rw [this]
  simp
theorem r_round_holds {l : List Part} {st : List Int} {w : Int} {i : Nat} (h : Trn l) (hp : ∀ q ∈ l, P40 q) (h8 : l.length ≤ 8) (hl : allWB l = true) (hs : StandOk l st) (hw : w = 1 ∨ w = -1) (hi : i < l.length) :
    s_law_round_holds [.lst false (l.map encP), encS st, .int (i : Int), .int w] = .ok (.bl true) := by
  have z0 : sizeLine = 16777216 := sizeBig
  obtain ⟨S, hS⟩ : ∃ S, S = l.drop i := ⟨_, rfl⟩
  have mS : ∀ q ∈ S, q ∈ l := fun q hq => by rw [hS] at hq; exact List.mem_of_mem_drop hq
  have lS : S.length ≤ 8 := by rw [hS]; simp; omega
  have cu : cutA (l.map encP) (some (i : Int)) none = S.map encP := by rw [cut_tail, hS, List.map_drop]
  have tS : hasTL (S.map encP) = false := hasTL_map hasT_encP _
  have sS := stillL_map still_encP S
  have wk : walkN l st [⟨(i : Int), w, prodN S⟩] = (st, w * lensN S) := by
    simp only [walkN, Int.toNat_natCast]
    rw [hS, pushI_round h.ok.1 hl hs hw (by omega)]
    simp
  have pS := prodN_pos (l := S) fun q hq => h.ok.1 q (mS q hq)
  have lf := r_left (row := [⟨(i : Int), w, prodN S⟩]) h hs ⟨fun d hd => by
    rw [List.mem_singleton.mp hd]
    exact ⟨by show 0 ≤ (i : Int); omega, by show (i : Int) < l.length; omega, hw, by show 0 ≤ prodN S; omega⟩, by simp⟩
  rw [wk] at lf
  have q1 := eqD_self (sh_encR (st, w * lensN S))
  have tl := hasTL_encP l
  have sl := stillL_encP l
  obtain ⟨PS, hPS⟩ : ∃ PS, PS = prodN S := ⟨_, rfl⟩
  obtain ⟨VS, hVS⟩ : ∃ VS, VS = w * lensN S := ⟨_, rfl⟩
  unfold s_law_round_holds
  refine def_ok1 rfl ?_
  simp only [encS]
  simp [cu, tS, sS, -wp_for_cons, -wp_for_nil]
  obtain ⟨J, hJ⟩ : ∃ J : Nat → Sl → Prop, J = fun j m => ∃ x6, m = [some (.lst false (l.map encP)), some (.tup (st.map .int)), some (.int (i : Int)), some (.int w), some (.int (prodN (S.take j))), some (.int (w * lensN (S.take j))), x6] := ⟨_, rfl⟩
  refine wp_map J ?_ (fun j q hj m hm => ?_) (fun m hm => ?_)
  · rw [hJ]; exact ⟨none, by simp [prodN, lensN]⟩
  · rw [hJ] at hm
    obtain ⟨x6, rfl⟩ := hm
    have hqS := List.mem_of_getElem? hj
    obtain ⟨z, ms, rfl⟩ := wheel_of hl (mS _ hqS)
    have hq := hp _ (mS _ hqS)
    have m1 : mulD (.int (prodN (S.take j))) (.int z) = .ok (.int (prodN (S.take j) * z)) := mulD_2k (prodN_2k (fun q hq => hp q (mS q (List.mem_of_mem_take hq))) (by simp; omega)) (place_2k hq)
    have lm : ms.length ≤ 1000000 := hq.1.2.2.1
    have m2 : mulD (.int (w * lensN (S.take j))) (.int (ms.length : Int)) = .ok (.int (w * lensN (S.take j) * ms.length)) := mulD_r (by omega)
    have e1 : prodN (S.take (j + 1)) = prodN (S.take j) * z := by
      rw [List.take_add_one, hj]; exact prodN_app _ _
    have e2 : w * lensN (S.take (j + 1)) = w * lensN (S.take j) * ms.length := by
      have go : ∀ A : List Part, lensN (A ++ [.wheel z ms]) = lensN A * ms.length := fun A => by
        induction A with
        | nil => simp [lensN]
        | cons a A ih =>
          have c1 : ∀ X, lensN (a :: X) = (match a with | .wheel _ ms => (ms.length : Int) | _ => 0) * lensN X := fun X => rfl
          rw [List.cons_append, c1, c1, ih, Int.mul_assoc]
      rw [List.take_add_one, hj, Option.toList_some, go, Int.mul_assoc]
    simp [encP, m1, m2]
    rw [hJ]
    exact ⟨_, by rw [e1, e2]⟩
  · rw [hJ] at hm
    obtain ⟨x6, rfl⟩ := hm
    rw [List.take_length, ← hPS, ← hVS]
    rw [← hPS, ← hVS] at lf
    rw [← hVS] at q1
    simp only [encR, encDd, encS, List.map_cons, List.map_nil] at lf q1
    by_cases c : 10000000000000000000000000000000000000000 ≤ PS
    · simp [pow10_40, c]
    · simp [pow10_40, c, tl, sl, lf, q1]
theorem due_of {l : List Part} {st : List Int} {R : List Deed} {k : Nat} {y : Nat → Int} (h : ∀ q ∈ l, PartOk q) (hk : k ≤ l.length) (hw : allWB (l.take k) = true) (hs : StandOk l st) (hr : ∀ d ∈ R, DeedOk l.length d) (e : ∀ j < l.length, nets R j = y j) :
    (walkN l st R).1.take k = (netN (l.take k) (st.take (l.take k).length) y 0).1 ∧ (k = l.length → (walkN l st R).2 = (netN (l.take k) (st.take (l.take k).length) y 0).2) := by
  have lk : (l.take k).length = k := by simp; omega
  rw [lk]
  refine ⟨?_, fun kl => ?_⟩
  · rw [walk_pre h hk hw hs hr, netN_congr 0 fun j hj => e j (by omega)]
  · rw [List.take_of_length_le (show l.length ≤ k by omega)] at hw ⊢
    rw [List.take_of_length_le (show st.length ≤ k by have := hs.length; omega), walk_net h hw hs hr, netN_congr 0 fun j hj => e j hj]
end CK

namespace CK
open PySem PySem.Spec PyProof.Rows L2 CT
structure C9 (l : List Part) (k : Nat) (st : List Int) (row : List Deed) : Prop where
  t : Trn l
  p : ∀ q ∈ l, P40 q
  n8 : l.length ≤ 8
  kl : k ≤ l.length
  w : allWB (l.take k) = true
  s : StandOk l st
  r : ∀ d ∈ row, DeedOk l.length d ∧ d.n < 1000000000000000000000000000000000000000
  rl : row.length ≤ 8
noncomputable def NLs (l : List Part) (row : List Deed) : List Int := (List.range l.length).map (nets row)
noncomputable def dueN (l : List Part) (k : Nat) (st : List Int) (row : List Deed) (T : Int) : List Int × Int := netN (l.take k) (st.take (l.take k).length) (fun j => (NLs l row).getD j 0 * T) 0
theorem NLs_at {l : List Part} {row : List Deed} {j : Nat} (h : j < l.length) : (NLs l row).getD j 0 = nets row j := by
  simp [NLs, List.getD_eq_getElem?_getD, h]
section
variable {l : List Part} {k : Nat} {st : List Int} {row : List Deed}
theorem C9.net (h : C9 l k st row) : s_law_net [.lst false (l.map encP), .lst false (row.map encDd)] = .ok (.lst true (netD l.length row)) := r_law_net (by have := h.n8; omega) fun d hd => (h.r d hd).1
theorem C9.due (h : C9 l k st row) {T : Int} (hT : 0 ≤ T) (hT2 : T ≤ 1000000000000000000000000000000) : s_law_due_2 [.lst false ((l.take k).map encP), encS st, .lst false (netD l.length row), .int T] = .ok (encR (dueN l k st row T)) := by
  have hs := h.s.length
  have hk := h.kl
  have h8 := h.n8
  have lk : (l.take k).length = k := by simp; omega
  rw [netD_map]
  have b := nets_le (B := 1000000000000000000000000000000000000000) (row := row) (by omega) fun d hd => by
    have := h.r d hd
    exact ⟨this.1.2.2.1, this.1.2.2.2, by omega⟩
  have rl := h.rl
  refine r_law_due_9 (N := NLs l row) (fun q hq => (h.p q (List.mem_of_mem_take hq)).1) h.w (by omega) (by simp [NLs]; omega) (by omega) (fun x hx => ?_) (by omega)
  obtain ⟨j, _, rfl⟩ := List.mem_map.mp hx
  obtain ⟨b1, b2⟩ := b j
  have b3 : (row.length : Int) * 1000000000000000000000000000000000000000 ≤ 8 * 1000000000000000000000000000000000000000 := Int.mul_le_mul_of_nonneg_right (by omega) (by omega)
  have b4 : (8 * 1000000000000000000000000000000000000000 : Int) ≤ 10 ^ 160 := by decide +kernel
  omega
theorem C9.is (h : C9 l k st row) {R : List Deed} {T : Int} (hr : ∀ d ∈ R, DeedOk l.length d) (e : ∀ j < l.length, nets R j = nets row j * T) : s_law_is_2 [.lst false (l.map encP), .lst false ((l.take k).map encP), encR (walkN l st R), encR (dueN l k st row T)] = .ok (.bl true) := by
  obtain ⟨e1, e2⟩ := due_of (R := R) (st := st) (y := fun j => (NLs l row).getD j 0 * T) h.t.ok.1 h.kl h.w h.s hr fun j hj => by rw [e j hj, NLs_at hj]
  exact r_law_is_9 h.kl (by have := h.n8; omega) (by rw [walkN_len]; exact h.s.length) e1 e2
theorem r_often_holds (h : C9 l k st row) {n : Nat} {xs : List D} (hx : Dr n xs) (hn : n ≤ 800000) (a : Nat) :
    ∃ v ys, s_law_often_holds [lentD (some a) xs, .lst false (l.map encP), .lst false ((l.take k).map encP), encS st, .lst false (row.map encDd)] = .ok (v, some (lentD (some a) ys)) ∧ v = .bl true ∧ Dr (n + 100) ys := by
  have z0 : sizeLine = 16777216 := sizeBig
  obtain ⟨W, hW⟩ : ∃ W, W = (l.take k).map encP := ⟨_, rfl⟩
  have tW : hasTL W = false := by rw [hW]; exact hasTL_map hasT_encP _
  have sW := stillL_of _ tW
  have tl := hasTL_encP l
  have sl := stillL_encP l
  have tr := hasTL_encDd row
  have sr := stillL_encDd row
  have tN := netD_t l.length row
  have sN := stillL_of _ tN
  have en := h.net
  unfold s_law_often_holds
  refine defL_run rfl ?_
  have e : (List.map some [lentD (some a) xs, .lst false (l.map encP), .lst false ((l.take k).map encP), encS st, .lst false (row.map encDd)] ++ List.replicate (9 - 5) none : Sl) = [some (lentD (some a) xs), some (.lst false (l.map encP)), some (.lst false W), some (encS st), some (.lst false (row.map encDd)), none, none, none, none] := by rw [hW]; rfl
  rw [e, wpB_seq]
  simp
  rw [wpB_seq]
  simp [tl, -wp_for_cons, -wp_for_nil]
  obtain ⟨J, hJ⟩ : ∃ J : Nat → Sl → Prop, J = fun j m => ∃ x6, m = [some (lentD (some a) xs), some (.lst false (l.map encP)), some (.lst false W), some (encS st), some (.lst false (row.map encDd)), some (.int (prodN (l.take j))), x6, none, none] := ⟨_, rfl⟩
  refine wp_map J ?_ (fun j q hj m hm => ?_) (fun m hm => ?_)
  · rw [hJ]; exact ⟨none, rfl⟩
  · rw [hJ] at hm
    obtain ⟨x6, rfl⟩ := hm
    have hq := h.p q (List.mem_of_getElem? hj)
    have h8 := h.n8
    have m1 : mulD (.int (prodN (l.take j))) (.int (nplaces q)) = .ok (.int (prodN (l.take j) * nplaces q)) := mulD_2k (prodN_2k (fun q hq => h.p q (List.mem_of_mem_take hq)) (by simp; omega)) (place_2k hq)
    have e1 : prodN (l.take (j + 1)) = prodN (l.take j) * nplaces q := by
      rw [List.take_add_one, hj]; exact prodN_app _ _
    simp [r_places_2, m1]
    rw [hJ]
    exact ⟨_, by rw [e1]⟩
  · rw [hJ] at hm
    obtain ⟨x6, rfl⟩ := hm
    rw [List.take_length]
    simp only
    rw [wpB_seq]
    simp [pow10_30]
    refine wpX_callX (r_far_2 hx (by omega) a 1000000000000000000000000000000 (by omega)) fun v zs ⟨⟨T, e, T0, T1⟩, hz⟩ => ?_
    subst e
    simp
    rw [wpB_if]
    by_cases c : 300 < prodN l
    · simp [c]
      exact ⟨zs, rfl, hz.mono⟩
    · obtain ⟨N, rfl⟩ := Int.eq_ofNat_of_zero_le T0
      have ok : RowOk l.length row := ⟨fun d hd => (h.r d hd).1, by have := h.rl; omega⟩
      have LO := r_left_oftenG (N := N) h.t h.s ok (.inl (by omega)) (fun s' z' => by
        have := walkN_le h.t.ok.1 (B := 1000000000000000000000000000000000000000) (row := row) z' fun d hd => ⟨(h.r d hd).1, by have := (h.r d hd).2; omega⟩
        have rl := h.rl
        have h2 : (row.length : Int) * 1000000000000000000000000000000000000000 ≤ 8 * 1000000000000000000000000000000000000000 := Int.mul_le_mul_of_nonneg_right (by omega) (by omega)
        have b4 : (8 * 1000000000000000000000000000000000000000 : Int) ≤ 10 ^ 50 := by decide +kernel
        omega) (by have : (1000000000000000000000000000000 : Int) ≤ 10 ^ 150 := by decide +kernel
                   omega)
      have du := h.due (T := (N : Int)) (by omega) (by omega)
      have rp : ∀ d ∈ (List.replicate N row).flatten, DeedOk l.length d := fun d hd => by
        obtain ⟨x, hx, hdx⟩ := List.mem_flatten.mp hd
        rw [List.eq_of_mem_replicate hx] at hdx
        exact (h.r d hdx).1
      have is := h.is (R := (List.replicate N row).flatten) (T := (N : Int)) rp fun j _ => nets_rep row j N
      rw [walkN_rep] at is
      rw [← hW] at du is
      have tR : ∀ x : List Int × Int, hasT (encR x) = false := fun x => by simp [encR]
      have sR : ∀ x : List Int × Int, still (encR x) = encR x := fun x => still_of _ (tR x)
      have tS := hasT_encS st
      have sS := still_of _ tS
      have c' : ¬ 300 < prodN l := c
      simp [c]
      rw [wpB_seq]
      simp [tl, sl, tr, sr, tW, sW, tN, sN, tS, sS, en, du, tR, sR, LO, is]
      exact ⟨zs, rfl, hz.mono⟩
end
end CK

namespace CK
open PySem PySem.Spec PyProof.Rows L2 CT
theorem back_pre {l : List Part} {k : Nat} {st : List Int} {row r : List Deed} (h : C9 l k st row) (L : Like l row r) :
    (walkN l (walkN l st row).1 (r.map backD)).1.take k = st.take k ∧ (k = l.length → (walkN l (walkN l st row).1 (r.map backD)).2 = 0 - (dueN l k st row 1).2) := by
  have lk : (l.take k).length = k := by have := h.kl; simp; omega
  have okr : ∀ d ∈ row, DeedOk l.length d := fun d hd => (h.r d hd).1
  have okb : ∀ d ∈ r.map backD, DeedOk l.length d := fun d hd => by
    obtain ⟨x, hx, rfl⟩ := List.mem_map.mp hd
    obtain ⟨d1, d2, d3, d4⟩ := L.1 x hx
    exact ⟨d1, d2, by show 0 - x.w = 1 ∨ 0 - x.w = -1; omega, d4⟩
  obtain ⟨a1, a2⟩ := due_of (R := row) (y := nets row) h.t.ok.1 h.kl h.w h.s okr fun _ _ => rfl
  have s1 : StandOk l (walkN l st row).1 := walkN_ok h.t.ok.1 h.s okr
  obtain ⟨b1, b2⟩ := due_of (R := r.map backD) (y := fun j => - nets row j) h.t.ok.1 h.kl h.w s1 okb fun j _ => by rw [nets_back, L.2.1]
  rw [lk] at a1 a2 b1 b2
  rw [a1] at b1 b2
  have sW : StandOk (l.take k) (st.take k) := h.s.takeL k
  have pW : ∀ q ∈ l.take k, PartOk q := fun q hq => h.t.ok.1 q (List.mem_of_mem_take hq)
  obtain ⟨c1, c2⟩ := netN_add (nets row) (fun j => - nets row j) 0 0 pW h.w sW
  have e0 : (fun j => nets row j + - nets row j) = fun _ => 0 := by funext j; omega
  rw [e0, show (0 : Int) + 0 = 0 by rfl, netN_zero pW h.w sW] at c1 c2
  refine ⟨by rw [b1, c1], fun kl => ?_⟩
  have d2 : (dueN l k st row 1).2 = (netN (l.take k) (st.take k) (nets row) 0).2 := by
    unfold dueN
    rw [lk, netN_congr (y := nets row) 0 fun j hj => by rw [NLs_at (by omega), Int.mul_one]]
  rw [b2 kl, d2]
  simp only at c2
  omega
theorem lcXG_back (x0 x1 x2 x3 x4 x5 x6 x7 x8 x9 x10 x11 : Option D) : ∀ r : List Deed,
    lcXG (gTupR 3 (gsCons (putR 12) (gsCons (putR 13) (gsCons (putR 14) gsNil)))) [12, 13, 14] xtYes (xOf (eA mkTup (aCons (eVar 12) (aCons (CT.e2 subD (eC (.int 0)) (eVar 13)) (aCons (eVar 14) aNil))))) (r.map encDd) [x0, x1, x2, x3, x4, x5, x6, x7, x8, x9, x10, x11, none, none, none] = .ok ((r.map backD).map encDd, [x0, x1, x2, x3, x4, x5, x6, x7, x8, x9, x10, x11, none, none, none])
  | [] => rfl
  | d :: r => by
    have ih := lcXG_back x0 x1 x2 x3 x4 x5 x6 x7 x8 x9 x10 x11 r
    simp only [List.map_cons, lcXG]
    have e1 : gTupR 3 (gsCons (putR 12) (gsCons (putR 13) (gsCons (putR 14) gsNil))) (encDd d) [x0, x1, x2, x3, x4, x5, x6, x7, x8, x9, x10, x11, none, none, none] = .ok [x0, x1, x2, x3, x4, x5, x6, x7, x8, x9, x10, x11, some (.int d.i), some (.int d.w), some (.int d.n)] := rfl
    rw [e1]
    have e2 : xOf (eA mkTup (aCons (eVar 12) (aCons (CT.e2 subD (eC (.int 0)) (eVar 13)) (aCons (eVar 14) aNil)))) [x0, x1, x2, x3, x4, x5, x6, x7, x8, x9, x10, x11, some (.int d.i), some (.int d.w), some (.int d.n)] = .ok (encDd (backD d), [x0, x1, x2, x3, x4, x5, x6, x7, x8, x9, x10, x11, some (.int d.i), some (.int d.w), some (.int d.n)]) := by
      simp [xOf, okX, encDd, backD]
    have e3 : wipeM [x0, x1, x2, x3, x4, x5, x6, x7, x8, x9, x10, x11, some (.int d.i), some (.int d.w), some (.int d.n)] [12, 13, 14] = [x0, x1, x2, x3, x4, x5, x6, x7, x8, x9, x10, x11, none, none, none] := rfl
    simp only [xtYes_eq, bindX, if_true]
    rw [e2]
    simp only
    rw [e3, ih]
end CK

namespace CK
open PySem PySem.Spec PyProof.Rows L2 CT
theorem wpB_cutS {g : SemS} {h : SemB} {m : Sl} {P : D → Sl → Prop} (J : Sl → Prop) (h1 : wp (g m) ⟨J, fun _ => False, fun _ => False, fun _ => False, fun _ => False⟩) (h2 : ∀ m, J m → wpB (h m) P) : wpB (bSeq g h m) P := by
  rw [wpB_seq]
  exact wp_imp h1 h2 (fun _ z => z) (fun _ z => z) (fun _ z => z) (fun _ z => z)
theorem tRow (R : List (List Deed)) : hasTL (R.map encRow) = false := hasTL_map (fun r => by simp [encRow, hasTL_encDd]) _
theorem wpX_rows {n : Nat} {xs : List D} {m : Sl} {P : D → Sl → Prop} (h : Dr n xs) (hn : n ≤ 700000) {a : Nat} {l : List Part} (hl : 1 ≤ l.length) (hl8 : l.length ≤ 8) {row : List Deed} (hr : ∀ d ∈ row, DeedOk l.length d) (hlen : row.length ≤ 8)
    (k : ∀ (R : List (List Deed)) zs, R.length = 7 → (∀ r ∈ R, Like l row r) → Dr (n + 3000) zs → P (.lst false (R.map encRow)) (some (lentD (some a) zs) :: m)) : wpX (callX 0 s_law_rows [.lst false (l.map encP), .lst false (row.map encDd)] (some (lentD (some a) xs) :: m)) P := by
  have RR := r_law_rows h hn a l hl hl8 row hr hlen
  generalize s_law_rows = F at RR ⊢
  refine wpX_callX RR fun v zs2 ⟨⟨R, e, r7, hR⟩, hz2⟩ => ?_
  subst e
  exact ⟨by simp [tRow], k R zs2 r7 hR hz2⟩
theorem wpX_aLcXG9 {h : SemXA} {g : SemG} {t : SemXT} {f : SemX} {vs : List Nat} {m : Sl} {P : List D → Sl → Prop} : wpX (aLcXG h g t f vs m) P = wpX (h m) fun ds m1 => wpX (lcXG g vs t f ds (wipeM m1 vs)) fun r m2 => r.length ≤ sizeLine ∧ P r m2 := by
  unfold aLcXG
  rw [wpX_bind]
  congr 1
  funext ds m1
  rw [wpX_bind]
  congr 1
  funext r m2
  by_cases c : r.length ≤ sizeLine
  · rw [if_pos c]; simp [c]
  · rw [if_neg c]; simp [c]
theorem wpX_xSeq9 {f : SemX} {m : Sl} {P : List D → Sl → Prop} : wpX (xSeq true f m) P = wpX (f m) fun x m1 => match x with
  | .lst t ds => t = false ∧ hasTL ds = false ∧ P ds m1
  | _ => False := by
  unfold xSeq
  rw [wpX_bind]
  congr 1
  funext x m1
  cases x <;> try rfl
  rename_i t ds
  cases t <;> cases h : hasTL ds <;> simp
theorem r_right_9 {l : List Part} {k : Nat} {st : List Int} (ht : Trn l) (hp : ∀ q ∈ l, P40 q) (h8 : l.length ≤ 8) (hk : k ≤ l.length) (hw : allWB (l.take k) = true) (hs : StandOk l st) {n : Nat} {xs : List D} (hx : Dr n xs) (hn : n ≤ 600000) (a : Nat) :
    ∃ v ys, s_law_right_3 [lentD (some a) xs, .lst false (l.map encP), .lst false ((l.take k).map encP), encS st] = .ok (v, some (lentD (some a) ys)) ∧ v = .bl true ∧ Dr (n + 10000) ys := by
  have z0 : sizeLine = 16777216 := sizeBig
  have l1 : 1 ≤ l.length := by have := List.length_pos_iff.mpr ht.ne; omega
  obtain ⟨W, hW⟩ : ∃ W, W = (l.take k).map encP := ⟨_, rfl⟩
  have tW : hasTL W = false := by rw [hW]; exact hasTL_map hasT_encP _
  have sW := stillL_of _ tW
  have lW : W.length = k := by rw [hW]; simp; omega
  have tl := hasTL_encP l
  have sl := stillL_encP l
  have tS := hasT_encS st
  have sS := still_of _ tS
  have cuS : cutA (st.map D.int) none (some (k : Int)) = (st.take k).map .int := by rw [cut_head, List.map_take]
  have SP := @wpX_rows
  have SO := fun (row : List Deed) (C : C9 l k st row) => @r_often_holds l k st row C
  unfold s_law_right_3
  generalize s_law_rows = F at SP ⊢
  generalize s_law_often_holds = G at SO ⊢
  refine defL_run rfl ?_
  have e : (List.map some [lentD (some a) xs, .lst false (l.map encP), .lst false ((l.take k).map encP), encS st] ++ List.replicate (15 - 4) none : Sl) = [some (lentD (some a) xs), some (.lst false (l.map encP)), some (.lst false W), some (encS st), none, none, none, none, none, none, none, none, none, none, none] := by rw [hW]; rfl
  rw [e, wpB_seq]
  simp (disch := first | omega | (simp; done) | fail) [wpX_xOwn, wpX_aLcX]
  refine wpX_next hx (by omega) fun v zs hv hz => ?_
  obtain ⟨c, hc⟩ : ∃ c : Nat, v % 9 = (c : Int) := Int.eq_ofNat_of_zero_le (by omega)
  have c8 : c ≤ 8 := by omega
  have er : rng1 [.int (c : Int)] = .ok (rng 0 c) := by rw [rng1_int ⟨by omega, by omega⟩]; simp
  simp (disch := first | omega | (simp; done) | fail) [modD_ok, hc, er, -rng1_int]
  rw [rng_map]
  have hcc : 110 * (List.range c).length ≤ 110 * 8 := Nat.mul_le_mul_left _ (by simp; omega)
  refine lc_calls (i := 0) (v := 11) (c := 110) (enc := encDd) (S := fun _ (d : Deed) => DeedOk l.length d ∧ d.n < 1000000000000000000000000000000000000000) rfl rfl hz (fun _ => rfl) (fun b hb n' ws hw' hn' => ?_) (fun row ws hlen hS hws => ?_)
  · simp (disch := first | omega | (simp; done) | fail) [tl]
    refine wpX_callX (r_deed_9 hw' (by omega) a l l1) fun d ws2 ⟨⟨d, e, d1, d2⟩, hd3⟩ => ?_
    subst e
    exact ⟨rfl, d, rfl, ⟨d1, d2⟩, ws2, hd3, rfl⟩
  · have hw0 : Dr (n + 900) ws := hws.mono (by omega)
    have hr : ∀ d ∈ row, DeedOk l.length d ∧ d.n < 1000000000000000000000000000000000000000 := fun d hd => by
      obtain ⟨j, hj⟩ := List.getElem?_of_mem hd
      have hjl := (List.getElem?_eq_some_iff.mp hj).1
      exact hS j d j hj (by rw [List.getElem?_range (by simp at hlen; omega)])
    have lr : row.length ≤ 8 := by rw [hlen]; simp; omega
    have C : C9 l k st row := ⟨ht, hp, h8, hk, hw, hs, hr, lr⟩
    have tr := hasTL_encDd row
    have sr := stillL_encDd row
    have tN := netD_t l.length row
    have sN := stillL_of _ tN
    have en := C.net
    have du := C.due (T := 1) (by omega) (by omega)
    rw [← hW] at du
    obtain ⟨U, hU⟩ : ∃ U, U = dueN l k st row 1 := ⟨_, rfl⟩
    rw [← hU] at du
    have tR : ∀ x : List Int × Int, hasT (encR x) = false := fun x => by simp [encR]
    have sR : ∀ x : List Int × Int, still (encR x) = encR x := fun x => still_of _ (tR x)
    simp [small (show row.length ≤ 16777216 by omega), tr]
    rw [wpB_seq]
    simp [tl, sl, tr, sr, tW, sW, tN, sN, tS, sS, en, du, tR, sR]
    have h14 : ∀ {x : Int}, 0 ≤ x → ∃ j : Nat, x % 7 = (j : Int) ∧ j < 7 := fun {x} hx => by
      obtain ⟨j, hj⟩ := Int.eq_ofNat_of_zero_le (show 0 ≤ x % 7 by omega)
      exact ⟨j, hj, by omega⟩
    refine wpB_cutS (fun m => ∃ (zs : List D) (R : List (List Deed)), m = [some (lentD (some a) zs), some (.lst false (l.map encP)), some (.lst false W), some (encS st), some (.lst false (row.map encDd)), some (encR U), some (.lst false (R.map encRow)), none, none, none, none, none, none, none, none] ∧ R.length = 7 ∧ (∀ r ∈ R, Like l row r) ∧ Dr (n + 900 + 3000) zs) ?_ (fun m hm => ?_)
    · simp [tl, tr]
      refine SP hw0 (by omega) l1 h8 (fun d hd => (hr d hd).1) lr fun R zs2 r7 hR hz2 => ?_
      simp [tRow]
      exact ⟨zs2, R, ⟨rfl, rfl⟩, r7, hR, hz2⟩
    · obtain ⟨zs2, R, rfl, r7, hR, hz2⟩ := hm
      have tRR : hasTL (R.map encRow) = false := hasTL_map (fun r => by simp [encRow, hasTL_encDd]) _
      have sRR := stillL_of _ tRR
      refine wpB_cutS (fun m => ∃ x7 x8 x9, m = [some (lentD (some a) zs2), some (.lst false (l.map encP)), some (.lst false W), some (encS st), some (.lst false (row.map encDd)), some (encR U), some (.lst false (R.map encRow)), x7, x8, x9, none, none, none, none, none]) ?_ (fun m hm => ?_)
      · simp [tRR, -wp_for_cons, -wp_for_nil]
        obtain ⟨I, hI⟩ : ∃ I : Sl → Prop, I = fun m => ∃ x7 x8 x9, m = [some (lentD (some a) zs2), some (.lst false (l.map encP)), some (.lst false W), some (encS st), some (.lst false (row.map encDd)), some (encR U), some (.lst false (R.map encRow)), x7, x8, x9, none, none, none, none, none] := ⟨_, rfl⟩
        have each : ∀ r ∈ R, s_left [.lst false (l.map encP), encS st, .lst false (r.map encDd)] = .ok (encR (walkN l st r)) ∧ s_law_is_2 [.lst false (l.map encP), .lst false W, encR (walkN l st r), encR U] = .ok (.bl true) ∧ neD (.tup [.lst false (l.map encP), .lst false (r.map encDd)]) (.tup [.lst false (l.map encP), .lst false (r.map encDd)]) = .ok (.bl false) ∧ r.length ≤ sizeLine := fun r hr => by
          have L := hR r hr
          refine ⟨r_left ht hs ⟨L.1, by have := L.2.2; omega⟩, ?_, ?_, by have := L.2.2; omega⟩
          · rw [hW, hU]; exact C.is L.1 fun j _ => by rw [L.2.1, Int.mul_one]
          · refine neD_self ((sh_tup (n := 4) fun x hx => ?_).mono (by omega))
            simp only [List.mem_cons, List.not_mem_nil, or_false] at hx
            rcases hx with rfl | rfl
            · exact (sh_lst (n := 3) fun y hy => (shl_map (fun q => (sh_encP q).mono (by omega)) l) y hy).mono (by omega)
            · exact (sh_lst (n := 3) fun y hy => (shl_map (fun q => (sh_encDd q).mono (by omega)) r) y hy).mono (by omega)
        have lls : l.length ≤ sizeLine := by omega
        have tD := hasTL_encDd
        have sD := stillL_encDd
        refine wp_each I ?_ (fun r hr m hm => ?_) (fun m hm => ?_)
        · rw [hI]; exact ⟨_, _, _, rfl⟩
        · rw [hI] at hm
          obtain ⟨x7, x8, x9, rfl⟩ := hm
          have e1 := (each r hr).1
          have e2 := (each r hr).2.1
          have e3 := (each r hr).2.2.1
          have e4 := (each r hr).2.2.2
          simp [encRow, tD, sD, tl, sl, lls, e4, tS, sS, e1, e2, e3, tR, sR, tW, sW]
          rw [hI]; exact ⟨_, _, _, rfl⟩
        · rw [hI] at hm
          exact hm
      · obtain ⟨x7, x8, x9, rfl⟩ := hm
        refine wpB_cutS (fun m => ∃ (zs : List D) (r : List Deed) (x7 x8 x9 : Option D), m = [some (lentD (some a) zs), some (.lst false (l.map encP)), some (.lst false W), some (encS st), some (.lst false (row.map encDd)), some (encR U), some (.lst false (R.map encRow)), x7, x8, x9, some (.lst false ((r.map backD).map encDd)), none, none, none, none] ∧ r ∈ R ∧ Dr (n + 900 + 3001) zs) ?_ (fun m hm => ?_)
        · simp [wpX_xOwn, wpX_aLcXG9, wpX_xSeq9, tRow]
          refine wpX_next hz2 (by omega) fun v zs3 hv hz3 => ?_
          obtain ⟨j, hj, hj7⟩ := h14 hv
          obtain ⟨r, hr⟩ : ∃ r, R[j]? = some r := ⟨_, List.getElem?_eq_getElem (by omega)⟩
          have ix : ixD (.lst false (R.map encRow)) (.int (j : Int)) = .ok (encRow r) := ixD_lst (by rw [List.getElem?_map, hr]; rfl)
          have hrR := List.mem_of_getElem? hr
          have tD := hasTL_encDd
          have len := (hR r hrR).2.2
          simp (disch := first | omega | (simp; done) | fail) [modD_ok, hj, ix, encRow, tD]
          refine wpX_of (lcXG_back _ _ _ _ _ _ _ _ _ _ _ _ r) ?_
          refine ⟨by simp; omega, zs3, r, ⟨x7, x8, x9, by simp⟩, hrR, hz3.mono⟩
        · obtain ⟨zs3, r, x7, x8, x9, rfl, hr, hz3⟩ := hm
          have L := hR r hr
          obtain ⟨b1, b2⟩ := back_pre C L
          have okr : ∀ d ∈ row, DeedOk l.length d := fun d hd => (C.r d hd).1
          have lf : s_left [.lst false (l.map encP), encS st, .lst false (row.map encDd)] = .ok (encR (walkN l st row)) := r_left ht hs ⟨okr, by omega⟩
          obtain ⟨X, hX⟩ : ∃ X, X = walkN l st row := ⟨_, rfl⟩
          rw [← hX] at lf b1 b2
          have s1 : StandOk l X.1 := by rw [hX]; exact walkN_ok ht.ok.1 hs okr
          have okb : ∀ d ∈ r.map backD, DeedOk l.length d := fun d hd => by
            obtain ⟨x, hx, rfl⟩ := List.mem_map.mp hd
            obtain ⟨d1, d2, d3, d4⟩ := L.1 x hx
            exact ⟨d1, d2, by show 0 - x.w = 1 ∨ 0 - x.w = -1; omega, d4⟩
          have lb : s_left [.lst false (l.map encP), encS X.1, .lst false ((r.map backD).map encDd)] = .ok (encR (walkN l X.1 (r.map backD))) := r_left ht s1 (row := r.map backD) ⟨okb, by simp; have := L.2.2; omega⟩
          have ib := r_law_is_9 (l := l) (k := k) (x := walkN l X.1 (r.map backD)) (y := (st.take k, 0 - U.2)) hk (by omega) (by rw [walkN_len]; exact s1.length) b1 (by rw [hU]; exact b2)
          obtain ⟨Y, hY⟩ : ∃ Y, Y = walkN l X.1 (r.map backD) := ⟨_, rfl⟩
          rw [← hY] at lb ib
          rw [← hW] at ib
          have ib2 : s_law_is_2 [.lst false (l.map encP), .lst false W, encR Y, .tup [encS (st.take k), .int (-U.2)]] = .ok (.bl true) := by rw [← Int.zero_sub]; exact ib
          have cu3 : CT.cutD (encS st) none (some (k : Int)) = .ok (encS (st.take k)) := by
            show CT.R.ok (D.tup (cutA (st.map D.int) none (some (k : Int)))) = _
            rw [cuS]; rfl
          have tS2 := hasT_encS (st.take k)
          have sS2 := still_of _ tS2
          have tX := hasT_encS X.1
          have sX := still_of _ tX
          have tB := hasTL_encDd (r.map backD)
          have sB := stillL_encDd (r.map backD)
          obtain ⟨BD, hBD⟩ : ∃ BD, BD = (r.map backD).map encDd := ⟨_, rfl⟩
          rw [← hBD] at lb tB sB
          rw [← hBD]
          have x0 : ∀ x : List Int × Int, ixD (encR x) (.int 0) = .ok (encS x.1) := fun x => ixD_tup rfl
          have x1 : ∀ x : List Int × Int, ixD (encR x) (.int 1) = .ok (.int x.2) := fun x => ixD_tup rfl
          rw [wpB_seq]
          simp [tl, sl, tS, sS, tr, sr, lf, tR]
          rw [wpB_if]
          simp [tl, sl, tS, sS, tW, sW, lW, x0, x1, cu3, tB, sB, lb, ib2, tR, sR, tS2, sS2, tX, sX, tr]
          have so := SO row C hz3 (by omega) a
          rw [← hW] at so
          refine wpX_callX so fun d ys ⟨e, hd⟩ => ?_
          subst e
          exact ⟨rfl, ys, rfl, rfl, hd.mono⟩
end CK

namespace CK
open PySem PySem.Spec PyProof.Rows L2 CT
theorem eqAll_len : ∀ a b : List D, PyData.eqvAll (pyL a) (pyL b) = true → a.length = b.length
  | [], [], _ => rfl
  | [], _ :: _, h => by simp [pyL, PyData.eqvAll] at h
  | _ :: _, [], h => by simp [pyL, PyData.eqvAll] at h
  | x :: a, y :: b, h => by
    simp only [pyL, PyData.eqvAll, Bool.and_eq_true] at h
    rw [List.length_cons, List.length_cons, eqAll_len a b h.2]
theorem sh_trn (l : List Part) : Sh 64 (.lst false (l.map encP)) := (sh_lst (n := 3) fun y hy => (shl_map (fun q => (sh_encP q).mono (by omega)) l) y hy).mono (by omega)
theorem eq_trains (l l' : List Part) : ∃ b : Bool, eqD (.lst false (l.map encP)) (.lst false (l'.map encP)) = .ok (.bl b) ∧ (b = true → l.length = l'.length) := by
  refine ⟨_, eqD_ok (sh_trn l) (sh_trn l'), fun h => ?_⟩
  have := eqAll_len (l.map encP) (l'.map encP) (by simpa [eqvD, py, PyData.eqv] using h)
  simpa using this
theorem cells_9 (ns : List Int) : ∃ L : List Int, addD (.lst false (cutA (ns.map D.int) none (some 6))) (.lst false [.int 0]) = .ok (.lst false (L.map .int)) := by
  refine ⟨ns.take 6 ++ [0], ?_⟩
  have e1 : cutA (ns.map D.int) none (some 6) = (ns.take 6).map D.int := by
    have := cut_head (ns.map D.int) 6
    rw [List.map_take]
    exact this
  rw [e1, addD_lst (by simp; omega)]
  simp
theorem stand_pt : ∀ {l : List Part} {st : List Int}, st.length = l.length → (∀ (k : Nat) (p : Int) (q : Part), st[k]? = some p → l[k]? = some q → 0 ≤ p ∧ p < nplaces q) → StandOk l st
  | [], [], _, _ => trivial
  | q :: l, p :: st, h, k => ⟨(k 0 p q rfl rfl).1, (k 0 p q rfl rfl).2, stand_pt (by simpa using h) fun j x y h1 h2 => k (j + 1) x y (by simpa using h1) (by simpa using h2)⟩
theorem law_true (ns : List Int) (h : ns.length ≤ 63) : s_law_9 [.fr (ns.map .int)] = .ok (.bl true) := by
  obtain ⟨L, hL⟩ := cells_9 ns
  have z0 : sizeLine = 16777216 := sizeBig
  have SR := @r_right_9
  unfold s_law_9
  generalize s_law_right_3 = F at SR ⊢
  refine def_ok1 rfl ?_
  simp [hL, -wp_for_cons, -wp_for_nil, hasTL_ints]
  obtain ⟨I, hI⟩ : ∃ I : Sl → Prop, I = fun m => m.length = 9 := ⟨_, rfl⟩
  refine wp_each I (by rw [hI]; rfl) (fun c hc m hm => ?_) (fun m hm => ?_)
  · rw [hI] at hm
    match m, hm with
    | [x0, x1, x2, x3, x4, x5, x6, x7, x8], _ =>
    obtain ⟨xs, ed, hx, tx⟩ := r_draws c
    simp
    refine wp_newL (ds := xs) (by simp [callO, ed]) tx (fun a => ?_) (by rw [hI]; rfl)
    rw [show ∀ (p q : SemS) (m : Sl), sSeq p q m = sThen (p m) q from fun _ _ _ => rfl, wp_then]
    simp (disch := first | omega | (simp; done) | fail) [xCallL_eq, wpX_xOwn, wpX_aLcX]
    refine wpX_nextAt rfl hx (by omega) fun v ys hv hy => ?_
    obtain ⟨c8, hc8⟩ : ∃ c : Nat, 1 + v % 8 = (c : Int) := Int.eq_ofNat_of_zero_le (by omega)
    have er : rng1 [.int (c8 : Int)] = .ok (rng 0 c8) := by rw [rng1_int ⟨by omega, by omega⟩]; simp
    simp (disch := first | omega | (simp; done) | fail) [modD_ok, hc8, er, -rng1_int]
    rw [rng_map]
    have hcc : 700 * (List.range c8).length ≤ 700 * 8 := Nat.mul_le_mul_left _ (by simp; omega)
    refine lc_calls (i := 2) (v := 7) (c := 700) (enc := encP) (S := fun _ (q : Part) => isWB q = true ∧ P40 q) rfl rfl hy (fun _ => rfl) (fun b hb n' ws hw hn' => ?_) (fun W ws hlen hS hws => ?_)
    · rw [xCallL_eq]
      simp
      refine wpX_callAt rfl (r_wheel_9 hw (by omega) a) fun d ws2 ⟨⟨z, ms, e, w1, w2⟩, hd⟩ => ?_
      subst e
      exact ⟨hasT_encP _, .wheel z ms, rfl, ⟨rfl, w1, w2⟩, ws2, hd, rfl⟩
    · have hw0 : Dr 5601 ws := hws.mono (by omega)
      have lW : W.length = c8 := by rw [hlen]; simp
      have hW : ∀ q ∈ W, isWB q = true ∧ P40 q := fun q hq => by
        obtain ⟨j, hj⟩ := List.getElem?_of_mem hq
        have hjl := (List.getElem?_eq_some_iff.mp hj).1
        exact hS j q j hj (by rw [List.getElem?_range (by omega)])
      have tW := hasTL_encP W
      have sW := stillL_encP W
      obtain ⟨m8, hm8⟩ : ∃ m8 : Nat, (8 : Int) - (W.length : Int) = (m8 : Int) := Int.eq_ofNat_of_zero_le (by omega)
      simp (disch := first | omega | (simp; done) | fail) [tW, sW, small (show W.length ≤ 16777216 by omega), hm8]
      refine wpX_callAt rfl (r_behind_9 hw0 (by omega) a m8 (by omega)) fun d ws2 ⟨⟨B, e, hB, lB⟩, hd⟩ => ?_
      subst e
      have tB := hasTL_encP B
      have ad : addD (.lst false (W.map encP)) (.lst false (B.map encP)) = .ok (.lst false ((W ++ B).map encP)) := by rw [addD_lst (by simp; omega)]; simp
      obtain ⟨l, hl⟩ : ∃ l, l = W ++ B := ⟨_, rfl⟩
      rw [← hl] at ad
      have tl := hasTL_encP l
      have sl := stillL_encP l
      refine And.intro (by simpa using tB) ?_
      simp [-addD_lst, ad, tl]
      have lB8 : B.length ≤ 8 := by omega
      have l8 : l.length ≤ 8 := by rw [hl]; simp; omega
      have lP : ∀ q ∈ l, P40 q := fun q hq => by
        rw [hl] at hq
        rcases List.mem_append.mp hq with hq | hq
        · exact (hW q hq).2
        · exact hB q hq
      have hll : 100 * l.length ≤ 100 * 8 := Nat.mul_le_mul_left _ l8
      refine lc_calls (i := 2) (v := 8) (c := 100) (enc := D.int) (S := fun (q : Part) (p : Int) => 0 ≤ p ∧ p < nplaces q) rfl rfl hd (fun q => hasT_encP q) (fun q hq n' ws hw hn' => ?_) (fun st ws hlen2 hS2 hws2 => ?_)
      · have tq := hasT_encP q
        rw [xCallL_eq]
        simp [r_places_2, tq]
        refine wpX_callAt rfl (r_far_2 hw (by omega) a (nplaces q) (by have := nplaces_pos (lP q hq).1; omega)) fun d ws2 ⟨⟨p, e, p0, p1⟩, hd⟩ => ?_
        subst e
        exact ⟨rfl, p, rfl, ⟨p0, p1⟩, ws2, hd, rfl⟩
      · have hs : StandOk l st := stand_pt hlen2 hS2
        have hw3 : Dr 9401 ws := hws2.mono (by omega)
        have tS := hasTL_ints st
        have n1 : 1 ≤ l.length := by rw [hl]; simp; omega
        have ht : Trn l := trn_of ⟨fun q hq => (lP q hq).1, by omega⟩ n1
        have lk : l.take W.length = W := by rw [hl]; simp
        have kl : W.length ≤ l.length := by rw [hl]; simp
        have hwb : allWB (l.take W.length) = true := by rw [lk]; exact List.all_eq_true.mpr fun q hq => (hW q hq).1
        have SR2 := SR (k := W.length) ht lP l8 kl hwb hs hw3 (by omega) a
        rw [lk] at SR2
        obtain ⟨b, eb, hb⟩ := eq_trains l W
        have s6 : st.length ≤ sizeLine := by omega
        simp [tS, s6, tl, sl, tW, sW]
        refine wpX_callAt rfl SR2 fun d ws3 ⟨e, hd3⟩ => ?_
        subst e
        refine And.intro rfl ?_
        simp [xCallL_eq]
        have RH : b = true → ∀ (i : Nat) (w : Int), i < l.length → (w = 1 ∨ w = -1) → s_law_round_holds [.lst false (l.map encP), encS st, .int (i : Int), .int w] = .ok (.bl true) := fun h i w hi hw => by
          have e := hb h
          have eW : W = l := by rw [← lk, List.take_of_length_le (by omega)]
          exact r_round_holds ht lP l8 (by rw [← eW]; exact List.all_eq_true.mpr fun q hq => (hW q hq).1) hs hw hi
        simp only [encS] at RH
        have l0 : (0 : Int) < (l.length : Int) := by omega
        generalize s_law_round_holds = RHf at RH ⊢
        refine wpX_nextAt rfl hd3 (by omega) fun v2 ys2 hv2 hy2 => ?_
        obtain ⟨i, hi⟩ : ∃ i : Nat, v2 % (l.length : Int) = (i : Int) := Int.eq_ofNat_of_zero_le (Int.emod_nonneg _ (by omega))
        have hil : i < l.length := by have := Int.emod_lt_of_pos v2 l0; omega
        simp (disch := first | omega | (simp; done) | fail) [modD_ok, hi, eb]
        cases b with
        | false =>
          simp
        | true =>
          simp [tl, sl, tS, stillL_of _ tS]
          refine wpX_nextAt rfl hy2 (by omega) fun v3 ys3 hv3 hy3 => ?_
          have ix : ∃ w : Int, (w = 1 ∨ w = -1) ∧ ixD (.lst false [.int 1, .int (-1)]) (.int (v3 % 2)) = .ok (.int w) := by
            have : v3 % 2 = 0 ∨ v3 % 2 = 1 := by omega
            rcases this with e | e <;> rw [e]
            · exact ⟨1, .inl rfl, ixD_lst (i := 0) rfl⟩
            · exact ⟨-1, .inr rfl, ixD_lst (i := 1) rfl⟩
          obtain ⟨w, hw1, ix⟩ := ix
          have rh := RH rfl i w hil hw1
          simp (disch := first | omega | (simp; done) | fail) [modD_ok, ix, rh]
  · simp
end CK

namespace CK
open PySem PySem.Spec PyProof.Rows L2 CT
def topS (i : Nat) : Stmt := PySem.Challenge.pw_clicktrain_k09_whole_wheels_go_by_net_pu.main.body.getD i (.Pass ⟨0, 0, 0, 0⟩)
structure Txt (K : PySem.W.Frag) (mg : Str → Option Value) (xa : Nat → Addr) : Prop where
  f_law_draws : ∃ fa fd, Fun K "_law_draws" "_law_draws" (topS 25) fa fd ∧ mg "_law_draws" = some (.ref fa) ∧ Binds K fd ["_law_cell"] []
  f_law_next : ∃ fa fd, Fun K "_law_next" "_law_next" (topS 26) fa fd ∧ mg "_law_next" = some (.ref fa) ∧ Binds K fd ["_law_draws_here"] []
  f_law_far : ∃ fa fd, Fun K "_law_far" "_law_far" (topS 27) fa fd ∧ mg "_law_far" = some (.ref fa) ∧ Binds K fd ["_law_draws_here", "_law_most"] []
  f_law_wheel : ∃ fa fd, Fun K "_law_wheel" "_law_wheel" (topS 28) fa fd ∧ mg "_law_wheel" = some (.ref fa) ∧ Binds K fd ["_law_draws_here"] []
  f_law_behind : ∃ fa fd, Fun K "_law_behind" "_law_behind" (topS 29) fa fd ∧ mg "_law_behind" = some (.ref fa) ∧ Binds K fd ["_law_draws_here", "_law_many"] []
  f_law_places : ∃ fa fd, Fun K "_law_places" "_law_places" (topS 30) fa fd ∧ mg "_law_places" = some (.ref fa) ∧ Binds K fd ["_law_part"] []
  f_is_whole : ∃ fa fd, Fun K "is_whole" "is_whole" (topS 7) fa fd ∧ mg "is_whole" = some (.ref fa) ∧ Binds K fd ["thing"] []
  f_is_marks : ∃ fa fd, Fun K "is_marks" "is_marks" (topS 8) fa fd ∧ mg "is_marks" = some (.ref fa) ∧ Binds K fd ["teeth", "thing"] []
  f_is_part : ∃ fa fd, Fun K "is_part" "is_part" (topS 9) fa fd ∧ mg "is_part" = some (.ref fa) ∧ Binds K fd ["thing"] []
  f_check_train : ∃ fa fd, Fun K "check_train" "check_train" (topS 10) fa fd ∧ mg "check_train" = some (.ref fa) ∧ Binds K fd ["train"] []
  f_places : ∃ fa fd, Fun K "places" "places" (topS 11) fa fd ∧ mg "places" = some (.ref fa) ∧ Binds K fd ["part"] []
  f_is_stand : ∃ fa fd, Fun K "is_stand" "is_stand" (topS 12) fa fd ∧ mg "is_stand" = some (.ref fa) ∧ Binds K fd ["train", "thing"] []
  f_check_stand : ∃ fa fd, Fun K "check_stand" "check_stand" (topS 13) fa fd ∧ mg "check_stand" = some (.ref fa) ∧ Binds K fd ["train", "stand"] []
  f_is_deed : ∃ fa fd, Fun K "is_deed" "is_deed" (topS 19) fa fd ∧ mg "is_deed" = some (.ref fa) ∧ Binds K fd ["train", "thing"] []
  f_check_row : ∃ fa fd, Fun K "check_row" "check_row" (topS 20) fa fd ∧ mg "check_row" = some (.ref fa) ∧ Binds K fd ["train", "row"] []
  f_marks_met : ∃ fa fd, Fun K "marks_met" "marks_met" (topS 14) fa fd ∧ mg "marks_met" = some (.ref fa) ∧ Binds K fd ["part", "place", "many"] []
  f_marks_left : ∃ fa fd, Fun K "marks_left" "marks_left" (topS 15) fa fd ∧ mg "marks_left" = some (.ref fa) ∧ Binds K fd ["part", "place", "many"] []
  f_part_pushed : ∃ fa fd, Fun K "part_pushed" "part_pushed" (topS 16) fa fd ∧ mg "part_pushed" = some (.ref fa) ∧ Binds K fd ["part", "place", "way", "many"] []
  f_pushed_often : ∃ fa fd, Fun K "pushed_often" "pushed_often" (topS 17) fa fd ∧ mg "pushed_often" = some (.ref fa) ∧ Binds K fd ["train", "stand", "i", "way", "many"] []
  f_walked : ∃ fa fd, Fun K "walked" "walked" (topS 21) fa fd ∧ mg "walked" = some (.ref fa) ∧ Binds K fd ["train", "stand", "row"] []
  f_left : ∃ fa fd, Fun K "left" "left" (topS 22) fa fd ∧ mg "left" = some (.ref fa) ∧ Binds K fd ["train", "stand", "row"] []
  f_law_round_holds : ∃ fa fd, Fun K "_law_round_holds" "_law_round_holds" (topS 36) fa fd ∧ mg "_law_round_holds" = some (.ref fa) ∧ Binds K fd ["_law_train", "_law_stand", "_law_i", "_law_way"] []
  f_law_deed : ∃ fa fd, Fun K "_law_deed" "_law_deed" (topS 31) fa fd ∧ mg "_law_deed" = some (.ref fa) ∧ Binds K fd ["_law_draws_here", "_law_train"] []
  f_law_net : ∃ fa fd, Fun K "_law_net" "_law_net" (topS 32) fa fd ∧ mg "_law_net" = some (.ref fa) ∧ Binds K fd ["_law_train", "_law_row"] []
  f_law_due : ∃ fa fd, Fun K "_law_due" "_law_due" (topS 33) fa fd ∧ mg "_law_due" = some (.ref fa) ∧ Binds K fd ["_law_wheels", "_law_stand", "_law_net_here", "_law_many"] []
  f_law_rows : ∃ fa fd, Fun K "_law_rows" "_law_rows" (topS 34) fa fd ∧ mg "_law_rows" = some (.ref fa) ∧ Binds K fd ["_law_draws_here", "_law_train", "_law_row"] []
  f_law_is : ∃ fa fd, Fun K "_law_is" "_law_is" (topS 35) fa fd ∧ mg "_law_is" = some (.ref fa) ∧ Binds K fd ["_law_train", "_law_wheels", "_law_got", "_law_due_here"] []
  f_left_often : ∃ fa fd, Fun K "left_often" "left_often" (topS 23) fa fd ∧ mg "left_often" = some (.ref fa) ∧ Binds K fd ["train", "stand", "row", "times"] []
  f_law_often_holds : ∃ fa fd, Fun K "_law_often_holds" "_law_often_holds" (topS 37) fa fd ∧ mg "_law_often_holds" = some (.ref fa) ∧ Binds K fd ["_law_draws_here", "_law_train", "_law_wheels", "_law_stand", "_law_row"] []
  f_law_right : ∃ fa fd, Fun K "_law_right" "_law_right" (topS 38) fa fd ∧ mg "_law_right" = some (.ref fa) ∧ Binds K fd ["_law_draws_here", "_law_train", "_law_wheels", "_law_stand"] []
  b_abs : mg "abs" = none
  b_all : mg "all" = none
  b_bool : mg "bool" = none
  b_enumerate : mg "enumerate" = none
  b_int : mg "int" = none
  b_isinstance : mg "isinstance" = none
  b_len : mg "len" = none
  b_list : mg "list" = none
  b_max : mg "max" = none
  b_min : mg "min" = none
  b_range : mg "range" = none
  b_set : mg "set" = none
  b_sorted : mg "sorted" = none
  b_str : mg "str" = none
  b_tuple : mg "tuple" = none
  b_zip : mg "zip" = none
  x_NoCount : ExcOk K mg "NoCount"
  x_NoRow : ExcOk K mg "NoRow"
  x_NoStand : ExcOk K mg "NoStand"
  x_NoTrain : ExcOk K mg "NoTrain"
section
variable {P : Program} {w : World} {K : PySem.W.Frag} {mg : Str → Option Value} {base : Heap} {xa : Nat → Addr}
theorem sc_law_draws : FnScope ["_law_cell"] ["_law_cell"] (defScope (topS 25)) := ⟨rfl, rfl, rfl, by decide +kernel, rfl, by decide +kernel, by decide +kernel⟩
set_option linter.unusedVariables false in
theorem fn_law_draws (T : Txt K mg xa) {fa : Addr} {fd : FuncData} (F : Fun K "_law_draws" "_law_draws" (topS 25) fa fd) : FnG P w K mg base 1 fa fd ["_law_cell"] (CT.spF K (exOf mg) 1 s_law_draws) := by
  have nd : (["_law_cell"] : List Str).Nodup := sc_law_draws.nd
  refine def_fn (k := 0) (N := ["_law_cell"]) (ps := ["_law_cell"]) F sc_law_draws fun cdv A outer s H E F0 hr hgd => ?_
  have hu64 : (A.deeper (envOfC "_law_draws" (defScope (topS 25)) s.heap.objs.size fa cdv)).units + 64 < cLine := hr.units
  have hu65 : (A.deeper (envOfC "_law_draws" (defScope (topS 25)) s.heap.objs.size fa cdv)).units + 65 < cLine := by have := hr.un; omega
  have pz := L2.passes_of (X := cxOf (L2.CX P w) P w K mg base ["_law_cell"] "_law_draws" (defScope (topS 25)) fa cdv A outer s H E) rfl
  have tk : Takes (cxOf (L2.CX P w) P w K mg base ["_law_cell"] "_law_draws" (defScope (topS 25)) fa cdv A outer s H E) (fun c d _ H' => E c d H') := takes_of rfl rfl rfl rfl
  exact (sss_cons (ss_if (st_cmp o_lt (se_var (pv 0)) (se_bin o_pow se_int se_int) (nomark _)) (sss_one (ss_retO (so_lst (sa_cons (se_var (pv 0)) (sa_cons se_int (sa_cons se_bl sa_nil)))))) sss_nil)
      (sss_one (ss_retO (so_lst (sa_cons (se_bin o_mod (se_var (pv 0)) (se_bin o_pow (se_bin o_pow (se_bin o_pow se_int se_int) se_int) se_int)) (sa_cons se_int (sa_cons se_bl sa_nil)))))))
theorem ok_law_draws (T : Txt K mg xa) : Callee P w K mg base (exOf mg) "_law_draws" 1 s_law_draws 1 := by
  obtain ⟨fa, fd, F, hm, hb⟩ := T.f_law_draws
  exact ⟨fa, fd, _, fn_law_draws T F, hm, F.kp, hb⟩
theorem sc_law_next : FnScope ["_law_draws_here", "_law_k", "_law_number"] ["_law_draws_here"] (defScope (topS 26)) := ⟨rfl, rfl, rfl, by decide +kernel, rfl, by decide +kernel, by decide +kernel⟩
set_option linter.unusedVariables false in
theorem fn_law_next (T : Txt K mg xa) {fa : Addr} {fd : FuncData} (F : Fun K "_law_next" "_law_next" (topS 26) fa fd) : FnG P w K mg base 1 fa fd ["_law_draws_here"] (CT.spL K 0 s_law_next) := by
  have nd : (["_law_draws_here", "_law_k", "_law_number"] : List Str).Nodup := sc_law_next.nd
  refine def_fnL (k := 0) (N := ["_law_draws_here", "_law_k", "_law_number"]) (ps := ["_law_draws_here"]) (n := 0) (ex := exOf mg) F sc_law_next rfl fun cdv A outer s H E F0 H0 hr hgd => ?_
  have hu64 : (A.deeper (envOfC "_law_next" (defScope (topS 26)) s.heap.objs.size fa cdv)).units + 64 < cLine := hr.units
  have hu65 : (A.deeper (envOfC "_law_next" (defScope (topS 26)) s.heap.objs.size fa cdv)).units + 65 < cLine := by have := hr.un; omega
  have pz := L2.passes_of (X := (cxOf (L2.CX P w) P w K mg base ["_law_draws_here", "_law_k", "_law_number"] "_law_next" (defScope (topS 26)) fa cdv A outer s H E)) rfl
  have tk : Takes (cxOf (L2.CX P w) P w K mg base ["_law_draws_here", "_law_k", "_law_number"] "_law_next" (defScope (topS 26)) fa cdv A outer s H E) (fun c d _ H' => E c d H') := takes_of rfl rfl rfl rfl
  exact (sb_cons (W := fun c d _ H' => E c d H') (ss_asg (se_bin o_add (se_lk (k := 1) (pv 0)) se_int) (pg_sub (pv 0) (se_int (W := WF)) set_list) (tg_subL (W := WF) (k := 1) (f := eC (.int 1)) fun _ => rfl))
      (sb_cons (W := fun c d _ H' => E c d H') (ss_set (i := 1) nd rfl (by first | exact Or.inl rfl | exact Or.inr rfl) (se_lk (k := 1) (pv 0)))
      (sb_if (W := fun c d _ H' => E c d H') (st_of (se_lk (k := 2) (pv 0))) (sb_cons (W := fun c d _ H' => E c d H') (ss_set (i := 2) nd rfl (by first | exact Or.inl rfl | exact Or.inr rfl) (se_bin o_mod (se_lk (k := 0) (pv 0)) (se_bin o_pow se_int se_int)))
      (sb_cons (W := fun c d _ H' => E c d H') (ss_asg (se_bin o_div (se_lk (k := 0) (pv 0)) (se_bin o_pow se_int se_int)) (pg_sub (pv 0) (se_int (W := WF)) set_list) (tg_subL (W := WF) (k := 0) (f := eC (.int 0)) fun _ => rfl))
      (sb_ret (W := fun c d _ H' => E c d H') (se_var (pv 2)))))
      (sb_cons (W := fun c d _ H' => E c d H') (ss_set (i := 2) nd rfl (by first | exact Or.inl rfl | exact Or.inr rfl) (se_bin o_mod (se_bin o_mul (se_bin o_add (se_bin o_add (se_bin o_mod (se_lk (k := 0) (pv 0)) se_int) (se_bin o_mul (se_bin o_mul (se_var (pv 1)) (se_var (pv 1))) se_int)) (se_var (pv 1))) se_int) se_int))
      (sb_cons (W := fun c d _ H' => E c d H') (ss_set (i := 2) nd rfl (by first | exact Or.inl rfl | exact Or.inr rfl) (se_bin o_mod (se_bin o_mul (se_var (pv 2)) (se_var (pv 2))) se_int))
      (sb_ret (W := fun c d _ H' => E c d H') (se_bin o_div (se_bin o_mod (se_bin o_mul (se_var (pv 2)) (se_bin o_add (se_var (pv 2)) se_int)) se_int) se_int)))))))
theorem ok_law_next (T : Txt K mg xa) : CalleeL P w K mg base "_law_next" 0 s_law_next 1 := by
  obtain ⟨fa, fd, F, hm, hb⟩ := T.f_law_next
  exact ⟨fa, fd, _, fn_law_next T F, hm, F.kp, hb⟩
theorem sc_law_far : FnScope ["_law_draws_here", "_law_most", "_law_told", "_law_k"] ["_law_draws_here", "_law_most"] (defScope (topS 27)) := ⟨rfl, rfl, rfl, by decide +kernel, rfl, by decide +kernel, by decide +kernel⟩
set_option linter.unusedVariables false in
theorem fn_law_far (T : Txt K mg xa) {fa : Addr} {fd : FuncData} (F : Fun K "_law_far" "_law_far" (topS 27) fa fd) : FnG P w K mg base 2 fa fd ["_law_draws_here", "_law_most"] (CT.spL K 1 s_law_far_2) := by
  have nd : (["_law_draws_here", "_law_most", "_law_told", "_law_k"] : List Str).Nodup := sc_law_far.nd
  refine def_fnL (k := 1) (N := ["_law_draws_here", "_law_most", "_law_told", "_law_k"]) (ps := ["_law_draws_here", "_law_most"]) (n := 1) (ex := exOf mg) F sc_law_far rfl fun cdv A outer s H E F0 H0 hr hgd => ?_
  have hu64 : (A.deeper (envOfC "_law_far" (defScope (topS 27)) s.heap.objs.size fa cdv)).units + 64 < cLine := hr.units
  have hu65 : (A.deeper (envOfC "_law_far" (defScope (topS 27)) s.heap.objs.size fa cdv)).units + 65 < cLine := by have := hr.un; omega
  have pz := L2.passes_of (X := (cxOf (L2.CX P w) P w K mg base ["_law_draws_here", "_law_most", "_law_told", "_law_k"] "_law_far" (defScope (topS 27)) fa cdv A outer s H E)) rfl
  have tk : Takes (cxOf (L2.CX P w) P w K mg base ["_law_draws_here", "_law_most", "_law_told", "_law_k"] "_law_far" (defScope (topS 27)) fa cdv A outer s H E) (fun c d _ H' => E c d H') := takes_of rfl rfl rfl rfl
  exact (sb_cons (W := fun c d _ H' => E c d H') (ss_set (i := 2) nd rfl (by first | exact Or.inl rfl | exact Or.inr rfl) se_int)
      (sb_cons (W := fun c d _ H' => E c d H') (ss_forX (vs := [3]) pz rfl (six_rng1 rfl T.b_range (sxa_cons (sx_bin (W := WF) o_mod (sx_callL (i := 0) (ok_law_next T) tk (hr.mono (by decide)) hgd rfl (pv 0) sxa_nil xaNil_len) (sx_of (W := fun c d _ H' => E c d H') se_int)) sxa_nil)) (pg_name (i := 3) nd rfl (by first | exact Or.inl rfl | exact Or.inr rfl)) (ng_name (i := 3) (by simp)) (sss_one (ss_setX (i := 2) nd rfl (by first | exact Or.inl rfl | exact Or.inr rfl) (sx_bin (W := WF) o_add (sx_of (W := fun c d _ H' => E c d H') (se_bin o_mul (se_var (pv 2)) (se_bin o_pow se_int se_int))) (sx_bin (W := WF) o_mod (sx_callL (i := 0) (ok_law_next T) tk (hr.mono (by decide)) hgd rfl (pv 0) sxa_nil xaNil_len) (sx_of (W := fun c d _ H' => E c d H') (se_bin o_pow se_int se_int)))))))
      (sb_ret (W := fun c d _ H' => E c d H') (se_bin o_mod (se_var (pv 2)) (se_var (pv 1))))))
theorem ok_law_far (T : Txt K mg xa) : CalleeL P w K mg base "_law_far" 1 s_law_far_2 2 := by
  obtain ⟨fa, fd, F, hm, hb⟩ := T.f_law_far
  exact ⟨fa, fd, _, fn_law_far T F, hm, F.kp, hb⟩
theorem sc_law_wheel : FnScope ["_law_draws_here", "_law_teeth", "_law_marks", "_law_k"] ["_law_draws_here"] (defScope (topS 28)) := ⟨rfl, rfl, rfl, by decide +kernel, rfl, by decide +kernel, by decide +kernel⟩
set_option linter.unusedVariables false in
theorem fn_law_wheel (T : Txt K mg xa) {fa : Addr} {fd : FuncData} (F : Fun K "_law_wheel" "_law_wheel" (topS 28) fa fd) : FnG P w K mg base 3 fa fd ["_law_draws_here"] (CT.spL K 0 s_law_wheel) := by
  have nd : (["_law_draws_here", "_law_teeth", "_law_marks", "_law_k"] : List Str).Nodup := sc_law_wheel.nd
  refine def_fnL (k := 2) (N := ["_law_draws_here", "_law_teeth", "_law_marks", "_law_k"]) (ps := ["_law_draws_here"]) (n := 0) (ex := exOf mg) F sc_law_wheel rfl fun cdv A outer s H E F0 H0 hr hgd => ?_
  have hu64 : (A.deeper (envOfC "_law_wheel" (defScope (topS 28)) s.heap.objs.size fa cdv)).units + 64 < cLine := hr.units
  have hu65 : (A.deeper (envOfC "_law_wheel" (defScope (topS 28)) s.heap.objs.size fa cdv)).units + 65 < cLine := by have := hr.un; omega
  have pz := L2.passes_of (X := (cxOf (L2.CX P w) P w K mg base ["_law_draws_here", "_law_teeth", "_law_marks", "_law_k"] "_law_wheel" (defScope (topS 28)) fa cdv A outer s H E)) rfl
  have tk : Takes (cxOf (L2.CX P w) P w K mg base ["_law_draws_here", "_law_teeth", "_law_marks", "_law_k"] "_law_wheel" (defScope (topS 28)) fa cdv A outer s H E) (fun c d _ H' => E c d H') := takes_of rfl rfl rfl rfl
  exact (sb_cons (W := fun c d _ H' => E c d H') (ss_setX (i := 1) nd rfl (by first | exact Or.inl rfl | exact Or.inr rfl) (sx_bin (W := WF) o_add (sx_of (W := fun c d _ H' => E c d H') se_int) (sx_bin (W := WF) o_mod (sx_callL (i := 0) (ok_law_next T) tk (hr.mono (by decide)) hgd rfl (pv 0) sxa_nil xaNil_len) (sx_of (W := fun c d _ H' => E c d H') se_int))))
      (sb_cons (W := fun c d _ H' => E c d H') (ss_ifX (sxt_cmp (o_eq hu64) (sx_bin (W := WF) o_mod (sx_callL (i := 0) (ok_law_next T) tk (hr.mono (by decide)) hgd rfl (pv 0) sxa_nil xaNil_len) (sx_of (W := fun c d _ H' => E c d H') se_int)) (sx_of (W := fun c d _ H' => E c d H') se_int) (nomark _)) (sss_one (ss_setX (i := 1) nd rfl (by first | exact Or.inl rfl | exact Or.inr rfl) (sx_bin (W := WF) o_add (sx_of (W := fun c d _ H' => E c d H') se_int) (sx_callL (i := 0) (ok_law_far T) tk (hr.mono (by decide)) hgd rfl (pv 0) (sxa_cons (sx_of (W := fun c d _ H' => E c d H') (se_bin o_sub (se_bin o_pow se_int se_int) se_int)) sxa_nil) (xaCons_len xaNil_len))))) sss_nil)
      (sb_cons (W := fun c d _ H' => E c d H') (ss_setLcX (j := 2) rfl nd rfl rfl (sw_true rfl rfl rfl (by decide +kernel)) (six_rng1 rfl T.b_range (sxa_cons (sx_bin (W := WF) o_mod (sx_callL (i := 0) (ok_law_next T) tk (hr.mono (by decide)) hgd rfl (pv 0) sxa_nil xaNil_len) (sx_of (W := fun c d _ H' => E c d H') se_int)) sxa_nil)) (blkOk_by (own := [("_law_k", 3)]) (N := ["_law_draws_here", "_law_teeth", "_law_marks", "_law_k"]) (sc := defScope (topS 28)) (by decide +kernel)) (fun _ _ _ _ _ => (pg_name (i := 3) nd rfl (Or.inl rfl))) (fun _ _ _ _ _ => stxs_nil) (fun _ _ _ _ _ => (sx_callL (i := 0) (ok_law_far T) takes0 (hr.mono (by decide)) hgd rfl (pv 0) (sxa_cons (sx_of (W := WF) (se_var (pv 1))) sxa_nil) (xaCons_len xaNil_len))))
      (sb_cons (W := fun c d _ H' => E c d H') (ss_ifX (sxt_cmp (o_eq hu64) (sx_bin (W := WF) o_mod (sx_callL (i := 0) (ok_law_next T) tk (hr.mono (by decide)) hgd rfl (pv 0) sxa_nil xaNil_len) (sx_of (W := fun c d _ H' => E c d H') se_int)) (sx_of (W := fun c d _ H' => E c d H') se_int) (nomark _)) (sss_one (ss_set (i := 2) nd rfl (by first | exact Or.inl rfl | exact Or.inr rfl) (se_bin o_add (se_var (pv 2)) (se_own (so_lst (sa_cons se_int (sa_cons (se_bin o_sub (se_var (pv 1)) se_int) sa_nil))))))) sss_nil)
      (sb_ret (W := fun c d _ H' => E c d H') (se_tup (sa_cons se_str (sa_cons (se_var (pv 1)) (sa_cons (se_callTy c_tuple rfl T.b_tuple PyProof.Rows.boot_tuple (sa_cons (se_own (so_setS rfl hu65 rfl T.b_sorted rfl T.b_set (se_var (pv 2)))) sa_nil)) sa_nil)))))))))
theorem ok_law_wheel (T : Txt K mg xa) : CalleeL P w K mg base "_law_wheel" 0 s_law_wheel 3 := by
  obtain ⟨fa, fd, F, hm, hb⟩ := T.f_law_wheel
  exact ⟨fa, fd, _, fn_law_wheel T F, hm, F.kp, hb⟩
theorem sc_law_behind : FnScope ["_law_draws_here", "_law_many", "_law_told", "_law_k", "_law_part"] ["_law_draws_here", "_law_many"] (defScope (topS 29)) := ⟨rfl, rfl, rfl, by decide +kernel, rfl, by decide +kernel, by decide +kernel⟩
set_option linter.unusedVariables false in
theorem fn_law_behind (T : Txt K mg xa) {fa : Addr} {fd : FuncData} (F : Fun K "_law_behind" "_law_behind" (topS 29) fa fd) : FnG P w K mg base 4 fa fd ["_law_draws_here", "_law_many"] (CT.spL K 1 s_law_behind) := by
  have nd : (["_law_draws_here", "_law_many", "_law_told", "_law_k", "_law_part"] : List Str).Nodup := sc_law_behind.nd
  refine def_fnL (k := 3) (N := ["_law_draws_here", "_law_many", "_law_told", "_law_k", "_law_part"]) (ps := ["_law_draws_here", "_law_many"]) (n := 1) (ex := exOf mg) F sc_law_behind rfl fun cdv A outer s H E F0 H0 hr hgd => ?_
  have hu64 : (A.deeper (envOfC "_law_behind" (defScope (topS 29)) s.heap.objs.size fa cdv)).units + 64 < cLine := hr.units
  have hu65 : (A.deeper (envOfC "_law_behind" (defScope (topS 29)) s.heap.objs.size fa cdv)).units + 65 < cLine := by have := hr.un; omega
  have pz := L2.passes_of (X := (cxOf (L2.CX P w) P w K mg base ["_law_draws_here", "_law_many", "_law_told", "_law_k", "_law_part"] "_law_behind" (defScope (topS 29)) fa cdv A outer s H E)) rfl
  have tk : Takes (cxOf (L2.CX P w) P w K mg base ["_law_draws_here", "_law_many", "_law_told", "_law_k", "_law_part"] "_law_behind" (defScope (topS 29)) fa cdv A outer s H E) (fun c d _ H' => E c d H') := takes_of rfl rfl rfl rfl
  exact (sb_ifX (sxt_cmp (o_ne hu64) (sx_bin (W := WF) o_mod (sx_callL (i := 0) (ok_law_next T) tk (hr.mono (by decide)) hgd rfl (pv 0) sxa_nil xaNil_len) (sx_of (W := fun c d _ H' => E c d H') se_int)) (sx_of (W := fun c d _ H' => E c d H') se_int) (nomark _)) (sb_ret (W := fun c d _ H' => E c d H') (se_own (so_lst sa_nil)))
      (sb_cons (W := fun c d _ H' => E c d H') (ss_setO (i := 2) nd rfl (by first | exact Or.inl rfl | exact Or.inr rfl) (so_lst sa_nil))
      (sb_cons (W := fun c d _ H' => E c d H') (ss_forX (vs := [3]) pz rfl (six_rng1 rfl T.b_range (sxa_cons (sx_callB (W := WF) (c_min rfl) rfl T.b_min PyProof.Rows.boot_min (sxa_cons (sx_of (W := fun c d _ H' => E c d H') (se_var (pv 1))) (sxa_cons (sx_bin (W := WF) o_add (sx_of (W := fun c d _ H' => E c d H') se_int) (sx_bin (W := WF) o_mod (sx_callL (i := 0) (ok_law_next T) tk (hr.mono (by decide)) hgd rfl (pv 0) sxa_nil xaNil_len) (sx_of (W := fun c d _ H' => E c d H') se_int))) sxa_nil))) sxa_nil)) (pg_name (i := 3) nd rfl (by first | exact Or.inl rfl | exact Or.inr rfl)) (ng_name (i := 3) (by simp)) (sss_cons (ss_setX (i := 4) nd rfl (by first | exact Or.inl rfl | exact Or.inr rfl) (sx_ix (sx_lst (sxa_cons (sx_of (W := fun c d _ H' => E c d H') (se_tup (sa_cons se_str sa_nil))) (sxa_cons (sx_of (W := fun c d _ H' => E c d H') (se_tup (sa_cons se_str sa_nil))) (sxa_cons (sx_tup (sxa_cons (sx_of (W := fun c d _ H' => E c d H') se_str) (sxa_cons (sx_bin (W := WF) o_add (sx_of (W := fun c d _ H' => E c d H') se_int) (sx_bin (W := WF) o_mod (sx_callL (i := 0) (ok_law_next T) tk (hr.mono (by decide)) hgd rfl (pv 0) sxa_nil xaNil_len) (sx_of (W := fun c d _ H' => E c d H') se_int))) sxa_nil))) sxa_nil)))) (sx_bin (W := WF) o_mod (sx_callL (i := 0) (ok_law_next T) tk (hr.mono (by decide)) hgd rfl (pv 0) sxa_nil xaNil_len) (sx_of (W := fun c d _ H' => E c d H') se_int))))
      (sss_cons (ss_ifX (sxt_cmp (o_eq hu64) (sx_bin (W := WF) o_mod (sx_callL (i := 0) (ok_law_next T) tk (hr.mono (by decide)) hgd rfl (pv 0) sxa_nil xaNil_len) (sx_of (W := fun c d _ H' => E c d H') se_int)) (sx_of (W := fun c d _ H' => E c d H') se_int) (nomark _)) (sss_one (ss_setX (i := 4) nd rfl (by first | exact Or.inl rfl | exact Or.inr rfl) (sx_callL (i := 0) (ok_law_wheel T) tk (hr.mono (by decide)) hgd rfl (pv 0) sxa_nil xaNil_len))) sss_nil)
      (sss_one (ss_app (pv 2) (se_var (pv 4)))))))
      (sb_retV (pv 2)))))
theorem ok_law_behind (T : Txt K mg xa) : CalleeL P w K mg base "_law_behind" 1 s_law_behind 4 := by
  obtain ⟨fa, fd, F, hm, hb⟩ := T.f_law_behind
  exact ⟨fa, fd, _, fn_law_behind T F, hm, F.kp, hb⟩
theorem sc_law_places : FnScope ["_law_part"] ["_law_part"] (defScope (topS 30)) := ⟨rfl, rfl, rfl, by decide +kernel, rfl, by decide +kernel, by decide +kernel⟩
set_option linter.unusedVariables false in
theorem fn_law_places (T : Txt K mg xa) {fa : Addr} {fd : FuncData} (F : Fun K "_law_places" "_law_places" (topS 30) fa fd) : FnG P w K mg base 1 fa fd ["_law_part"] (CT.spF K (exOf mg) 1 s_law_places_2) := by
  have nd : (["_law_part"] : List Str).Nodup := sc_law_places.nd
  refine def_fn (k := 0) (N := ["_law_part"]) (ps := ["_law_part"]) F sc_law_places fun cdv A outer s H E F0 hr hgd => ?_
  have hu64 : (A.deeper (envOfC "_law_places" (defScope (topS 30)) s.heap.objs.size fa cdv)).units + 64 < cLine := hr.units
  have hu65 : (A.deeper (envOfC "_law_places" (defScope (topS 30)) s.heap.objs.size fa cdv)).units + 65 < cLine := by have := hr.un; omega
  have pz := L2.passes_of (X := cxOf (L2.CX P w) P w K mg base ["_law_part"] "_law_places" (defScope (topS 30)) fa cdv A outer s H E) rfl
  have tk : Takes (cxOf (L2.CX P w) P w K mg base ["_law_part"] "_law_places" (defScope (topS 30)) fa cdv A outer s H E) (fun c d _ H' => E c d H') := takes_of rfl rfl rfl rfl
  exact (sss_cons (ss_if (st_cmp (o_in hu65) (se_ix (se_var (pv 0)) se_int) (se_own (so_lst (sa_cons se_str (sa_cons se_str sa_nil)))) (by rfl)) (sss_one (ss_ret (se_ix (se_var (pv 0)) se_int))) sss_nil)
      (sss_one (ss_ret (se_bin o_add se_int (se_callTy c_int rfl T.b_int PyProof.Rows.boot_int (sa_cons (se_cmp (o_eq hu64) (se_ix (se_var (pv 0)) se_int) se_str (nomark _)) sa_nil))))))
theorem ok_law_places (T : Txt K mg xa) : Callee P w K mg base (exOf mg) "_law_places" 1 s_law_places_2 1 := by
  obtain ⟨fa, fd, F, hm, hb⟩ := T.f_law_places
  exact ⟨fa, fd, _, fn_law_places T F, hm, F.kp, hb⟩
theorem sc_is_whole : FnScope ["thing"] ["thing"] (defScope (topS 7)) := ⟨rfl, rfl, rfl, by decide +kernel, rfl, by decide +kernel, by decide +kernel⟩
set_option linter.unusedVariables false in
theorem fn_is_whole (T : Txt K mg xa) {fa : Addr} {fd : FuncData} (F : Fun K "is_whole" "is_whole" (topS 7) fa fd) : FnG P w K mg base 1 fa fd ["thing"] (CT.spF K (exOf mg) 1 s_is_whole) := by
  have nd : (["thing"] : List Str).Nodup := sc_is_whole.nd
  refine def_fn (k := 0) (N := ["thing"]) (ps := ["thing"]) F sc_is_whole fun cdv A outer s H E F0 hr hgd => ?_
  have hu64 : (A.deeper (envOfC "is_whole" (defScope (topS 7)) s.heap.objs.size fa cdv)).units + 64 < cLine := hr.units
  have hu65 : (A.deeper (envOfC "is_whole" (defScope (topS 7)) s.heap.objs.size fa cdv)).units + 65 < cLine := by have := hr.un; omega
  have pz := L2.passes_of (X := cxOf (L2.CX P w) P w K mg base ["thing"] "is_whole" (defScope (topS 7)) fa cdv A outer s H E) rfl
  have tk : Takes (cxOf (L2.CX P w) P w K mg base ["thing"] "is_whole" (defScope (topS 7)) fa cdv A outer s H E) (fun c d _ H' => E c d H') := takes_of rfl rfl rfl rfl
  exact (sss_one (ss_ret (se_and (se_isi (T := "int") rfl T.b_isinstance rfl T.b_int PyProof.Rows.boot_int (se_var (pv 0))) (se_one (se_not (se_isi (T := "bool") rfl T.b_isinstance rfl T.b_bool (by decide +kernel) (se_var (pv 0))))))))
theorem ok_is_whole (T : Txt K mg xa) : Callee P w K mg base (exOf mg) "is_whole" 1 s_is_whole 1 := by
  obtain ⟨fa, fd, F, hm, hb⟩ := T.f_is_whole
  exact ⟨fa, fd, _, fn_is_whole T F, hm, F.kp, hb⟩
theorem sc_is_marks : FnScope ["teeth", "thing", "mark", "one", "other"] ["teeth", "thing"] (defScope (topS 8)) := ⟨rfl, rfl, rfl, by decide +kernel, rfl, by decide +kernel, by decide +kernel⟩
set_option linter.unusedVariables false in
theorem fn_is_marks (T : Txt K mg xa) {fa : Addr} {fd : FuncData} (F : Fun K "is_marks" "is_marks" (topS 8) fa fd) : FnG P w K mg base 2 fa fd ["teeth", "thing"] (CT.spF K (exOf mg) 2 s_is_marks) := by
  have nd : (["teeth", "thing", "mark", "one", "other"] : List Str).Nodup := sc_is_marks.nd
  refine def_fn (k := 1) (N := ["teeth", "thing", "mark", "one", "other"]) (ps := ["teeth", "thing"]) F sc_is_marks fun cdv A outer s H E F0 hr hgd => ?_
  have hu64 : (A.deeper (envOfC "is_marks" (defScope (topS 8)) s.heap.objs.size fa cdv)).units + 64 < cLine := hr.units
  have hu65 : (A.deeper (envOfC "is_marks" (defScope (topS 8)) s.heap.objs.size fa cdv)).units + 65 < cLine := by have := hr.un; omega
  have pz := L2.passes_of (X := cxOf (L2.CX P w) P w K mg base ["teeth", "thing", "mark", "one", "other"] "is_marks" (defScope (topS 8)) fa cdv A outer s H E) rfl
  have tk : Takes (cxOf (L2.CX P w) P w K mg base ["teeth", "thing", "mark", "one", "other"] "is_marks" (defScope (topS 8)) fa cdv A outer s H E) (fun c d _ H' => E c d H') := takes_of rfl rfl rfl rfl
  exact (sss_cons (ss_if (st_w (sw_or (st_not (st_of (se_isi (T := "tuple") rfl T.b_isinstance rfl T.b_tuple PyProof.Rows.boot_tuple (se_var (pv 1))))) (sw_or1 (st_not (st_of (se_callB (c_all rfl) rfl T.b_all PyProof.Rows.boot_all (sa_cons (se_own (so_lc rfl nd (si_seq (se_var (pv 1))) (blkOk_by (own := [("mark", 2)]) (N := ["teeth", "thing", "mark", "one", "other"]) (sc := defScope (topS 8)) (by decide +kernel)) (ng_name (i := 2) (by simp)) (fun _ _ _ _ _ => (pg_name (i := 2) nd rfl (Or.inl rfl))) (fun _ _ _ _ _ => sts_nil) (fun _ _ _ _ _ => (se_and (se_call (ok_is_whole T) takes0 (hr.mono (by decide)) hgd rfl (sa_cons (se_var (pv 2)) sa_nil) rfl (aCons_len aNil_len)) (se_one (se_chain o_le o_lt se_int (se_var (pv 2)) (se_var (pv 0)))))))) sa_nil))))))) (sss_one (ss_ret se_bl)) sss_nil)
      (sss_one (ss_ret (se_callB (c_all rfl) rfl T.b_all PyProof.Rows.boot_all (sa_cons (se_own (so_lc rfl nd (si_zip rfl T.b_zip (sa_cons (se_var (pv 1)) (sa_cons (se_cut (se_var (pv 1)) (sp_so se_int) sp_no) sa_nil))) (blkOk_by (own := [("one", 3), ("other", 4)]) (N := ["teeth", "thing", "mark", "one", "other"]) (sc := defScope (topS 8)) (by decide +kernel)) (ng_tup (ngs_cons (ng_name (i := 3) (by simp)) (ngs_cons (ng_name (i := 4) (by simp)) ngs_nil))) (fun _ _ _ _ _ => (pg_tup rfl (pgs_cons (pg_name (i := 3) nd rfl (Or.inl rfl)) (pgs_cons (pg_name (i := 4) nd rfl (Or.inl rfl)) pgs_nil)))) (fun _ _ _ _ _ => sts_nil) (fun _ _ _ _ _ => (se_cmp o_lt (se_var (pv 3)) (se_var (pv 4)) (nomark _))))) sa_nil)))))
theorem ok_is_marks (T : Txt K mg xa) : Callee P w K mg base (exOf mg) "is_marks" 2 s_is_marks 2 := by
  obtain ⟨fa, fd, F, hm, hb⟩ := T.f_is_marks
  exact ⟨fa, fd, _, fn_is_marks T F, hm, F.kp, hb⟩
theorem sc_is_part : FnScope ["thing"] ["thing"] (defScope (topS 9)) := ⟨rfl, rfl, rfl, by decide +kernel, rfl, by decide +kernel, by decide +kernel⟩
set_option linter.unusedVariables false in
theorem fn_is_part (T : Txt K mg xa) {fa : Addr} {fd : FuncData} (F : Fun K "is_part" "is_part" (topS 9) fa fd) : FnG P w K mg base 3 fa fd ["thing"] (CT.spF K (exOf mg) 1 s_is_part) := by
  have nd : (["thing"] : List Str).Nodup := sc_is_part.nd
  refine def_fn (k := 2) (N := ["thing"]) (ps := ["thing"]) F sc_is_part fun cdv A outer s H E F0 hr hgd => ?_
  have hu64 : (A.deeper (envOfC "is_part" (defScope (topS 9)) s.heap.objs.size fa cdv)).units + 64 < cLine := hr.units
  have hu65 : (A.deeper (envOfC "is_part" (defScope (topS 9)) s.heap.objs.size fa cdv)).units + 65 < cLine := by have := hr.un; omega
  have pz := L2.passes_of (X := cxOf (L2.CX P w) P w K mg base ["thing"] "is_part" (defScope (topS 9)) fa cdv A outer s H E) rfl
  have tk : Takes (cxOf (L2.CX P w) P w K mg base ["thing"] "is_part" (defScope (topS 9)) fa cdv A outer s H E) (fun c d _ H' => E c d H') := takes_of rfl rfl rfl rfl
  exact (sss_cons (ss_if (st_w (sw_or (st_not (st_of (se_isi (T := "tuple") rfl T.b_isinstance rfl T.b_tuple PyProof.Rows.boot_tuple (se_var (pv 0))))) (sw_or (st_cmp (o_eq hu64) (se_var (pv 0)) (se_tup sa_nil) (nomark _)) (sw_or1 (st_not (st_of (se_isi (T := "str") rfl T.b_isinstance rfl T.b_str PyProof.Rows.boot_str (se_ix (se_var (pv 0)) se_int)))))))) (sss_one (ss_ret se_bl)) sss_nil)
      (sss_cons (ss_if (st_cmp (o_in hu65) (se_ix (se_var (pv 0)) se_int) (se_own (so_lst (sa_cons se_str (sa_cons se_str sa_nil)))) (by rfl)) (sss_one (ss_ret (se_cmp (o_eq hu64) (se_callB c_len rfl T.b_len PySem.boot_len (sa_cons (se_var (pv 0)) sa_nil)) se_int (nomark _)))) sss_nil)
      (sss_cons (ss_if (st_cmp (o_eq hu64) (se_ix (se_var (pv 0)) se_int) se_str (nomark _)) (sss_one (ss_ret (se_and (se_cmp (o_eq hu64) (se_callB c_len rfl T.b_len PySem.boot_len (sa_cons (se_var (pv 0)) sa_nil)) se_int (nomark _)) (se_and (se_call (ok_is_whole T) tk (hr.mono (by decide)) hgd rfl (sa_cons (se_ix (se_var (pv 0)) se_int) sa_nil) rfl (aCons_len aNil_len)) (se_one (se_cmp o_ge (se_ix (se_var (pv 0)) se_int) se_int (nomark _))))))) sss_nil)
      (sss_cons (ss_if (st_w (sw_or (st_cmp (o_ne hu64) (se_ix (se_var (pv 0)) se_int) se_str (nomark _)) (sw_or1 (st_cmp (o_ne hu64) (se_callB c_len rfl T.b_len PySem.boot_len (sa_cons (se_var (pv 0)) sa_nil)) se_int (nomark _))))) (sss_one (ss_ret se_bl)) sss_nil)
      (sss_one (ss_ret (se_and (se_call (ok_is_whole T) tk (hr.mono (by decide)) hgd rfl (sa_cons (se_ix (se_var (pv 0)) se_int) sa_nil) rfl (aCons_len aNil_len)) (se_and (se_cmp o_ge (se_ix (se_var (pv 0)) se_int) se_int (nomark _)) (se_one (se_call (ok_is_marks T) tk (hr.mono (by decide)) hgd rfl (sa_cons (se_ix (se_var (pv 0)) se_int) (sa_cons (se_ix (se_var (pv 0)) se_int) sa_nil)) rfl (aCons_len (aCons_len aNil_len))))))))))))
theorem ok_is_part (T : Txt K mg xa) : Callee P w K mg base (exOf mg) "is_part" 1 s_is_part 3 := by
  obtain ⟨fa, fd, F, hm, hb⟩ := T.f_is_part
  exact ⟨fa, fd, _, fn_is_part T F, hm, F.kp, hb⟩
theorem sc_check_train : FnScope ["train", "part"] ["train"] (defScope (topS 10)) := ⟨rfl, rfl, rfl, by decide +kernel, rfl, by decide +kernel, by decide +kernel⟩
set_option linter.unusedVariables false in
theorem fn_check_train (T : Txt K mg xa) {fa : Addr} {fd : FuncData} (F : Fun K "check_train" "check_train" (topS 10) fa fd) : FnG P w K mg base 4 fa fd ["train"] (CT.spF K (exOf mg) 1 s_check_train) := by
  have nd : (["train", "part"] : List Str).Nodup := sc_check_train.nd
  refine def_fn (k := 3) (N := ["train", "part"]) (ps := ["train"]) F sc_check_train fun cdv A outer s H E F0 hr hgd => ?_
  have hu64 : (A.deeper (envOfC "check_train" (defScope (topS 10)) s.heap.objs.size fa cdv)).units + 64 < cLine := hr.units
  have hu65 : (A.deeper (envOfC "check_train" (defScope (topS 10)) s.heap.objs.size fa cdv)).units + 65 < cLine := by have := hr.un; omega
  have pz := L2.passes_of (X := cxOf (L2.CX P w) P w K mg base ["train", "part"] "check_train" (defScope (topS 10)) fa cdv A outer s H E) rfl
  have tk : Takes (cxOf (L2.CX P w) P w K mg base ["train", "part"] "check_train" (defScope (topS 10)) fa cdv A outer s H E) (fun c d _ H' => E c d H') := takes_of rfl rfl rfl rfl
  exact (sss_one (ss_if (st_w (sw_or (st_not (st_of (se_isi (T := "list") rfl T.b_isinstance rfl T.b_list PyProof.Rows.boot_list (se_var (pv 0))))) (sw_or (st_cmp (o_eq hu64) (se_var (pv 0)) (se_own (so_lst sa_nil)) (nomark _)) (sw_or1 (st_not (st_of (se_callB (c_all rfl) rfl T.b_all PyProof.Rows.boot_all (sa_cons (se_own (so_lc rfl nd (si_seq (se_var (pv 0))) (blkOk_by (own := [("part", 1)]) (N := ["train", "part"]) (sc := defScope (topS 10)) (by decide +kernel)) (ng_name (i := 1) (by simp)) (fun _ _ _ _ _ => (pg_name (i := 1) nd rfl (Or.inl rfl))) (fun _ _ _ _ _ => sts_nil) (fun _ _ _ _ _ => (se_call (ok_is_part T) takes0 (hr.mono (by decide)) hgd rfl (sa_cons (se_var (pv 1)) sa_nil) rfl (aCons_len aNil_len))))) sa_nil)))))))) (sss_one (ss_raise rfl tk T.x_NoTrain rfl)) sss_nil))
theorem ok_check_train (T : Txt K mg xa) : Callee P w K mg base (exOf mg) "check_train" 1 s_check_train 4 := by
  obtain ⟨fa, fd, F, hm, hb⟩ := T.f_check_train
  exact ⟨fa, fd, _, fn_check_train T F, hm, F.kp, hb⟩
theorem sc_places : FnScope ["part"] ["part"] (defScope (topS 11)) := ⟨rfl, rfl, rfl, by decide +kernel, rfl, by decide +kernel, by decide +kernel⟩
set_option linter.unusedVariables false in
theorem fn_places (T : Txt K mg xa) {fa : Addr} {fd : FuncData} (F : Fun K "places" "places" (topS 11) fa fd) : FnG P w K mg base 1 fa fd ["part"] (CT.spF K (exOf mg) 1 s_places) := by
  have nd : (["part"] : List Str).Nodup := sc_places.nd
  refine def_fn (k := 0) (N := ["part"]) (ps := ["part"]) F sc_places fun cdv A outer s H E F0 hr hgd => ?_
  have hu64 : (A.deeper (envOfC "places" (defScope (topS 11)) s.heap.objs.size fa cdv)).units + 64 < cLine := hr.units
  have hu65 : (A.deeper (envOfC "places" (defScope (topS 11)) s.heap.objs.size fa cdv)).units + 65 < cLine := by have := hr.un; omega
  have pz := L2.passes_of (X := cxOf (L2.CX P w) P w K mg base ["part"] "places" (defScope (topS 11)) fa cdv A outer s H E) rfl
  have tk : Takes (cxOf (L2.CX P w) P w K mg base ["part"] "places" (defScope (topS 11)) fa cdv A outer s H E) (fun c d _ H' => E c d H') := takes_of rfl rfl rfl rfl
  exact (sss_cons (ss_if (st_cmp (o_in hu65) (se_ix (se_var (pv 0)) se_int) (se_own (so_lst (sa_cons se_str (sa_cons se_str sa_nil)))) (by rfl)) (sss_one (ss_ret (se_ix (se_var (pv 0)) se_int))) sss_nil)
      (sss_one (ss_ret (se_bin o_add se_int (se_callTy c_int rfl T.b_int PyProof.Rows.boot_int (sa_cons (se_cmp (o_eq hu64) (se_ix (se_var (pv 0)) se_int) se_str (nomark _)) sa_nil))))))
theorem ok_places (T : Txt K mg xa) : Callee P w K mg base (exOf mg) "places" 1 s_places 1 := by
  obtain ⟨fa, fd, F, hm, hb⟩ := T.f_places
  exact ⟨fa, fd, _, fn_places T F, hm, F.kp, hb⟩
theorem sc_is_stand : FnScope ["train", "thing", "part", "place"] ["train", "thing"] (defScope (topS 12)) := ⟨rfl, rfl, rfl, by decide +kernel, rfl, by decide +kernel, by decide +kernel⟩
set_option linter.unusedVariables false in
theorem fn_is_stand (T : Txt K mg xa) {fa : Addr} {fd : FuncData} (F : Fun K "is_stand" "is_stand" (topS 12) fa fd) : FnG P w K mg base 2 fa fd ["train", "thing"] (CT.spF K (exOf mg) 2 s_is_stand) := by
  have nd : (["train", "thing", "part", "place"] : List Str).Nodup := sc_is_stand.nd
  refine def_fn (k := 1) (N := ["train", "thing", "part", "place"]) (ps := ["train", "thing"]) F sc_is_stand fun cdv A outer s H E F0 hr hgd => ?_
  have hu64 : (A.deeper (envOfC "is_stand" (defScope (topS 12)) s.heap.objs.size fa cdv)).units + 64 < cLine := hr.units
  have hu65 : (A.deeper (envOfC "is_stand" (defScope (topS 12)) s.heap.objs.size fa cdv)).units + 65 < cLine := by have := hr.un; omega
  have pz := L2.passes_of (X := cxOf (L2.CX P w) P w K mg base ["train", "thing", "part", "place"] "is_stand" (defScope (topS 12)) fa cdv A outer s H E) rfl
  have tk : Takes (cxOf (L2.CX P w) P w K mg base ["train", "thing", "part", "place"] "is_stand" (defScope (topS 12)) fa cdv A outer s H E) (fun c d _ H' => E c d H') := takes_of rfl rfl rfl rfl
  exact (sss_cons (ss_if (st_w (sw_or (st_not (st_of (se_isi (T := "tuple") rfl T.b_isinstance rfl T.b_tuple PyProof.Rows.boot_tuple (se_var (pv 1))))) (sw_or1 (st_cmp (o_ne hu64) (se_callB c_len rfl T.b_len PySem.boot_len (sa_cons (se_var (pv 1)) sa_nil)) (se_callB c_len rfl T.b_len PySem.boot_len (sa_cons (se_var (pv 0)) sa_nil)) (nomark _))))) (sss_one (ss_ret se_bl)) sss_nil)
      (sss_one (ss_ret (se_callB (c_all rfl) rfl T.b_all PyProof.Rows.boot_all (sa_cons (se_own (so_lc rfl nd (si_zip rfl T.b_zip (sa_cons (se_var (pv 0)) (sa_cons (se_var (pv 1)) sa_nil))) (blkOk_by (own := [("part", 2), ("place", 3)]) (N := ["train", "thing", "part", "place"]) (sc := defScope (topS 12)) (by decide +kernel)) (ng_tup (ngs_cons (ng_name (i := 2) (by simp)) (ngs_cons (ng_name (i := 3) (by simp)) ngs_nil))) (fun _ _ _ _ _ => (pg_tup rfl (pgs_cons (pg_name (i := 2) nd rfl (Or.inl rfl)) (pgs_cons (pg_name (i := 3) nd rfl (Or.inl rfl)) pgs_nil)))) (fun _ _ _ _ _ => sts_nil) (fun _ _ _ _ _ => (se_and (se_call (ok_is_whole T) takes0 (hr.mono (by decide)) hgd rfl (sa_cons (se_var (pv 3)) sa_nil) rfl (aCons_len aNil_len)) (se_one (se_chain o_le o_lt se_int (se_var (pv 3)) (se_call (ok_places T) takes0 (hr.mono (by decide)) hgd rfl (sa_cons (se_var (pv 2)) sa_nil) rfl (aCons_len aNil_len)))))))) sa_nil)))))
theorem ok_is_stand (T : Txt K mg xa) : Callee P w K mg base (exOf mg) "is_stand" 2 s_is_stand 2 := by
  obtain ⟨fa, fd, F, hm, hb⟩ := T.f_is_stand
  exact ⟨fa, fd, _, fn_is_stand T F, hm, F.kp, hb⟩
theorem sc_check_stand : FnScope ["train", "stand"] ["train", "stand"] (defScope (topS 13)) := ⟨rfl, rfl, rfl, by decide +kernel, rfl, by decide +kernel, by decide +kernel⟩
set_option linter.unusedVariables false in
theorem fn_check_stand (T : Txt K mg xa) {fa : Addr} {fd : FuncData} (F : Fun K "check_stand" "check_stand" (topS 13) fa fd) : FnG P w K mg base 5 fa fd ["train", "stand"] (CT.spF K (exOf mg) 2 s_check_stand) := by
  have nd : (["train", "stand"] : List Str).Nodup := sc_check_stand.nd
  refine def_fn (k := 4) (N := ["train", "stand"]) (ps := ["train", "stand"]) F sc_check_stand fun cdv A outer s H E F0 hr hgd => ?_
  have hu64 : (A.deeper (envOfC "check_stand" (defScope (topS 13)) s.heap.objs.size fa cdv)).units + 64 < cLine := hr.units
  have hu65 : (A.deeper (envOfC "check_stand" (defScope (topS 13)) s.heap.objs.size fa cdv)).units + 65 < cLine := by have := hr.un; omega
  have pz := L2.passes_of (X := cxOf (L2.CX P w) P w K mg base ["train", "stand"] "check_stand" (defScope (topS 13)) fa cdv A outer s H E) rfl
  have tk : Takes (cxOf (L2.CX P w) P w K mg base ["train", "stand"] "check_stand" (defScope (topS 13)) fa cdv A outer s H E) (fun c d _ H' => E c d H') := takes_of rfl rfl rfl rfl
  exact (sss_cons (ss_exp (se_call (ok_check_train T) tk (hr.mono (by decide)) hgd rfl (sa_cons (se_var (pv 0)) sa_nil) rfl (aCons_len aNil_len)))
      (sss_one (ss_if (st_not (st_of (se_call (ok_is_stand T) tk (hr.mono (by decide)) hgd rfl (sa_cons (se_var (pv 0)) (sa_cons (se_var (pv 1)) sa_nil)) rfl (aCons_len (aCons_len aNil_len))))) (sss_one (ss_raise rfl tk T.x_NoStand rfl)) sss_nil)))
theorem ok_check_stand (T : Txt K mg xa) : Callee P w K mg base (exOf mg) "check_stand" 2 s_check_stand 5 := by
  obtain ⟨fa, fd, F, hm, hb⟩ := T.f_check_stand
  exact ⟨fa, fd, _, fn_check_stand T F, hm, F.kp, hb⟩
theorem sc_is_deed : FnScope ["train", "thing", "i", "way", "times", "number"] ["train", "thing"] (defScope (topS 19)) := ⟨rfl, rfl, rfl, by decide +kernel, rfl, by decide +kernel, by decide +kernel⟩
set_option linter.unusedVariables false in
theorem fn_is_deed (T : Txt K mg xa) {fa : Addr} {fd : FuncData} (F : Fun K "is_deed" "is_deed" (topS 19) fa fd) : FnG P w K mg base 2 fa fd ["train", "thing"] (CT.spF K (exOf mg) 2 s_is_deed) := by
  have nd : (["train", "thing", "i", "way", "times", "number"] : List Str).Nodup := sc_is_deed.nd
  refine def_fn (k := 1) (N := ["train", "thing", "i", "way", "times", "number"]) (ps := ["train", "thing"]) F sc_is_deed fun cdv A outer s H E F0 hr hgd => ?_
  have hu64 : (A.deeper (envOfC "is_deed" (defScope (topS 19)) s.heap.objs.size fa cdv)).units + 64 < cLine := hr.units
  have hu65 : (A.deeper (envOfC "is_deed" (defScope (topS 19)) s.heap.objs.size fa cdv)).units + 65 < cLine := by have := hr.un; omega
  have pz := L2.passes_of (X := cxOf (L2.CX P w) P w K mg base ["train", "thing", "i", "way", "times", "number"] "is_deed" (defScope (topS 19)) fa cdv A outer s H E) rfl
  have tk : Takes (cxOf (L2.CX P w) P w K mg base ["train", "thing", "i", "way", "times", "number"] "is_deed" (defScope (topS 19)) fa cdv A outer s H E) (fun c d _ H' => E c d H') := takes_of rfl rfl rfl rfl
  exact (sss_cons (ss_if (st_w (sw_or (st_not (st_of (se_isi (T := "tuple") rfl T.b_isinstance rfl T.b_tuple PyProof.Rows.boot_tuple (se_var (pv 1))))) (sw_or (st_cmp (o_ne hu64) (se_callB c_len rfl T.b_len PySem.boot_len (sa_cons (se_var (pv 1)) sa_nil)) se_int (nomark _)) (sw_or1 (st_not (st_of (se_callB (c_all rfl) rfl T.b_all PyProof.Rows.boot_all (sa_cons (se_own (so_lc rfl nd (si_seq (se_var (pv 1))) (blkOk_by (own := [("number", 5)]) (N := ["train", "thing", "i", "way", "times", "number"]) (sc := defScope (topS 19)) (by decide +kernel)) (ng_name (i := 5) (by simp)) (fun _ _ _ _ _ => (pg_name (i := 5) nd rfl (Or.inl rfl))) (fun _ _ _ _ _ => sts_nil) (fun _ _ _ _ _ => (se_call (ok_is_whole T) takes0 (hr.mono (by decide)) hgd rfl (sa_cons (se_var (pv 5)) sa_nil) rfl (aCons_len aNil_len))))) sa_nil)))))))) (sss_one (ss_ret se_bl)) sss_nil)
      (sss_cons (ss_asg (se_var (pv 1)) (pg_tup rfl (pgs_cons (pg_name (i := 2) nd rfl (by first | exact Or.inl rfl | exact Or.inr rfl)) (pgs_cons (pg_name (i := 3) nd rfl (by first | exact Or.inl rfl | exact Or.inr rfl)) (pgs_cons (pg_name (i := 4) nd rfl (by first | exact Or.inl rfl | exact Or.inr rfl)) pgs_nil)))) (tg_tup (tgs_cons tg_name (tgs_cons tg_name (tgs_cons tg_name tgs_nil)))))
      (sss_one (ss_ret (se_and (se_chain o_le o_lt se_int (se_var (pv 2)) (se_callB c_len rfl T.b_len PySem.boot_len (sa_cons (se_var (pv 0)) sa_nil))) (se_and (se_cmp (o_in hu65) (se_var (pv 3)) (se_own (so_lst (sa_cons se_int (sa_cons (se_bin o_sub se_int se_int) sa_nil)))) (by rfl)) (se_one (se_cmp o_ge (se_var (pv 4)) se_int (nomark _)))))))))
theorem ok_is_deed (T : Txt K mg xa) : Callee P w K mg base (exOf mg) "is_deed" 2 s_is_deed 2 := by
  obtain ⟨fa, fd, F, hm, hb⟩ := T.f_is_deed
  exact ⟨fa, fd, _, fn_is_deed T F, hm, F.kp, hb⟩
theorem sc_check_row : FnScope ["train", "row", "deed"] ["train", "row"] (defScope (topS 20)) := ⟨rfl, rfl, rfl, by decide +kernel, rfl, by decide +kernel, by decide +kernel⟩
set_option linter.unusedVariables false in
theorem fn_check_row (T : Txt K mg xa) {fa : Addr} {fd : FuncData} (F : Fun K "check_row" "check_row" (topS 20) fa fd) : FnG P w K mg base 3 fa fd ["train", "row"] (CT.spF K (exOf mg) 2 s_check_row) := by
  have nd : (["train", "row", "deed"] : List Str).Nodup := sc_check_row.nd
  refine def_fn (k := 2) (N := ["train", "row", "deed"]) (ps := ["train", "row"]) F sc_check_row fun cdv A outer s H E F0 hr hgd => ?_
  have hu64 : (A.deeper (envOfC "check_row" (defScope (topS 20)) s.heap.objs.size fa cdv)).units + 64 < cLine := hr.units
  have hu65 : (A.deeper (envOfC "check_row" (defScope (topS 20)) s.heap.objs.size fa cdv)).units + 65 < cLine := by have := hr.un; omega
  have pz := L2.passes_of (X := cxOf (L2.CX P w) P w K mg base ["train", "row", "deed"] "check_row" (defScope (topS 20)) fa cdv A outer s H E) rfl
  have tk : Takes (cxOf (L2.CX P w) P w K mg base ["train", "row", "deed"] "check_row" (defScope (topS 20)) fa cdv A outer s H E) (fun c d _ H' => E c d H') := takes_of rfl rfl rfl rfl
  exact (sss_one (ss_if (st_w (sw_or (st_not (st_of (se_isi (T := "list") rfl T.b_isinstance rfl T.b_list PyProof.Rows.boot_list (se_var (pv 1))))) (sw_or1 (st_not (st_of (se_callB (c_all rfl) rfl T.b_all PyProof.Rows.boot_all (sa_cons (se_own (so_lc rfl nd (si_seq (se_var (pv 1))) (blkOk_by (own := [("deed", 2)]) (N := ["train", "row", "deed"]) (sc := defScope (topS 20)) (by decide +kernel)) (ng_name (i := 2) (by simp)) (fun _ _ _ _ _ => (pg_name (i := 2) nd rfl (Or.inl rfl))) (fun _ _ _ _ _ => sts_nil) (fun _ _ _ _ _ => (se_call (ok_is_deed T) takes0 (hr.mono (by decide)) hgd rfl (sa_cons (se_var (pv 0)) (sa_cons (se_var (pv 2)) sa_nil)) rfl (aCons_len (aCons_len aNil_len)))))) sa_nil))))))) (sss_one (ss_raise rfl tk T.x_NoRow rfl)) sss_nil))
theorem ok_check_row (T : Txt K mg xa) : Callee P w K mg base (exOf mg) "check_row" 2 s_check_row 3 := by
  obtain ⟨fa, fd, F, hm, hb⟩ := T.f_check_row
  exact ⟨fa, fd, _, fn_check_row T F, hm, F.kp, hb⟩
theorem sc_marks_met : FnScope ["part", "place", "many", "teeth", "told", "rest", "mark"] ["part", "place", "many"] (defScope (topS 14)) := ⟨rfl, rfl, rfl, by decide +kernel, rfl, by decide +kernel, by decide +kernel⟩
set_option linter.unusedVariables false in
theorem fn_marks_met (T : Txt K mg xa) {fa : Addr} {fd : FuncData} (F : Fun K "marks_met" "marks_met" (topS 14) fa fd) : FnG P w K mg base 1 fa fd ["part", "place", "many"] (CT.spF K (exOf mg) 3 s_marks_met) := by
  have nd : (["part", "place", "many", "teeth", "told", "rest", "mark"] : List Str).Nodup := sc_marks_met.nd
  refine def_fn (k := 0) (N := ["part", "place", "many", "teeth", "told", "rest", "mark"]) (ps := ["part", "place", "many"]) F sc_marks_met fun cdv A outer s H E F0 hr hgd => ?_
  have hu64 : (A.deeper (envOfC "marks_met" (defScope (topS 14)) s.heap.objs.size fa cdv)).units + 64 < cLine := hr.units
  have hu65 : (A.deeper (envOfC "marks_met" (defScope (topS 14)) s.heap.objs.size fa cdv)).units + 65 < cLine := by have := hr.un; omega
  have pz := L2.passes_of (X := cxOf (L2.CX P w) P w K mg base ["part", "place", "many", "teeth", "told", "rest", "mark"] "marks_met" (defScope (topS 14)) fa cdv A outer s H E) rfl
  have tk : Takes (cxOf (L2.CX P w) P w K mg base ["part", "place", "many", "teeth", "told", "rest", "mark"] "marks_met" (defScope (topS 14)) fa cdv A outer s H E) (fun c d _ H' => E c d H') := takes_of rfl rfl rfl rfl
  exact (sss_cons (ss_set (i := 3) nd rfl (by first | exact Or.inl rfl | exact Or.inr rfl) (se_ix (se_var (pv 0)) se_int))
      (sss_cons (ss_set (i := 4) nd rfl (by first | exact Or.inl rfl | exact Or.inr rfl) (se_bin o_mul (se_bin o_div (se_var (pv 2)) (se_var (pv 3))) (se_callB c_len rfl T.b_len PySem.boot_len (sa_cons (se_ix (se_var (pv 0)) se_int) sa_nil))))
      (sss_cons (ss_set (i := 5) nd rfl (by first | exact Or.inl rfl | exact Or.inr rfl) (se_bin o_mod (se_var (pv 2)) (se_var (pv 3))))
      (sss_one (ss_ret (se_bin o_add (se_var (pv 4)) (se_callB c_len rfl T.b_len PySem.boot_len (sa_cons (se_own (so_lc rfl nd (si_seq (se_ix (se_var (pv 0)) se_int)) (blkOk_by (own := [("mark", 6)]) (N := ["part", "place", "many", "teeth", "told", "rest", "mark"]) (sc := defScope (topS 14)) (by decide +kernel)) (ng_name (i := 6) (by simp)) (fun _ _ _ _ _ => (pg_name (i := 6) nd rfl (Or.inl rfl))) (fun _ _ _ _ _ => (sts_one (st_chain o_lt o_le se_int (se_bin o_add (se_bin o_mod (se_bin o_sub (se_bin o_sub (se_var (pv 6)) (se_var (pv 1))) se_int) (se_var (pv 3))) se_int) (se_var (pv 5))))) (fun _ _ _ _ _ => (se_var (pv 6))))) sa_nil))))))))
theorem ok_marks_met (T : Txt K mg xa) : Callee P w K mg base (exOf mg) "marks_met" 3 s_marks_met 1 := by
  obtain ⟨fa, fd, F, hm, hb⟩ := T.f_marks_met
  exact ⟨fa, fd, _, fn_marks_met T F, hm, F.kp, hb⟩
theorem sc_marks_left : FnScope ["part", "place", "many", "teeth", "told", "rest", "mark"] ["part", "place", "many"] (defScope (topS 15)) := ⟨rfl, rfl, rfl, by decide +kernel, rfl, by decide +kernel, by decide +kernel⟩
set_option linter.unusedVariables false in
theorem fn_marks_left (T : Txt K mg xa) {fa : Addr} {fd : FuncData} (F : Fun K "marks_left" "marks_left" (topS 15) fa fd) : FnG P w K mg base 1 fa fd ["part", "place", "many"] (CT.spF K (exOf mg) 3 s_marks_left) := by
  have nd : (["part", "place", "many", "teeth", "told", "rest", "mark"] : List Str).Nodup := sc_marks_left.nd
  refine def_fn (k := 0) (N := ["part", "place", "many", "teeth", "told", "rest", "mark"]) (ps := ["part", "place", "many"]) F sc_marks_left fun cdv A outer s H E F0 hr hgd => ?_
  have hu64 : (A.deeper (envOfC "marks_left" (defScope (topS 15)) s.heap.objs.size fa cdv)).units + 64 < cLine := hr.units
  have hu65 : (A.deeper (envOfC "marks_left" (defScope (topS 15)) s.heap.objs.size fa cdv)).units + 65 < cLine := by have := hr.un; omega
  have pz := L2.passes_of (X := cxOf (L2.CX P w) P w K mg base ["part", "place", "many", "teeth", "told", "rest", "mark"] "marks_left" (defScope (topS 15)) fa cdv A outer s H E) rfl
  have tk : Takes (cxOf (L2.CX P w) P w K mg base ["part", "place", "many", "teeth", "told", "rest", "mark"] "marks_left" (defScope (topS 15)) fa cdv A outer s H E) (fun c d _ H' => E c d H') := takes_of rfl rfl rfl rfl
  exact (sss_cons (ss_set (i := 3) nd rfl (by first | exact Or.inl rfl | exact Or.inr rfl) (se_ix (se_var (pv 0)) se_int))
      (sss_cons (ss_set (i := 4) nd rfl (by first | exact Or.inl rfl | exact Or.inr rfl) (se_bin o_mul (se_bin o_div (se_var (pv 2)) (se_var (pv 3))) (se_callB c_len rfl T.b_len PySem.boot_len (sa_cons (se_ix (se_var (pv 0)) se_int) sa_nil))))
      (sss_cons (ss_set (i := 5) nd rfl (by first | exact Or.inl rfl | exact Or.inr rfl) (se_bin o_mod (se_var (pv 2)) (se_var (pv 3))))
      (sss_one (ss_ret (se_bin o_add (se_var (pv 4)) (se_callB c_len rfl T.b_len PySem.boot_len (sa_cons (se_own (so_lc rfl nd (si_seq (se_ix (se_var (pv 0)) se_int)) (blkOk_by (own := [("mark", 6)]) (N := ["part", "place", "many", "teeth", "told", "rest", "mark"]) (sc := defScope (topS 15)) (by decide +kernel)) (ng_name (i := 6) (by simp)) (fun _ _ _ _ _ => (pg_name (i := 6) nd rfl (Or.inl rfl))) (fun _ _ _ _ _ => (sts_one (st_cmp o_lt (se_bin o_mod (se_bin o_sub (se_var (pv 1)) (se_var (pv 6))) (se_var (pv 3))) (se_var (pv 5)) (nomark _)))) (fun _ _ _ _ _ => (se_var (pv 6))))) sa_nil))))))))
theorem ok_marks_left (T : Txt K mg xa) : Callee P w K mg base (exOf mg) "marks_left" 3 s_marks_left 1 := by
  obtain ⟨fa, fd, F, hm, hb⟩ := T.f_marks_left
  exact ⟨fa, fd, _, fn_marks_left T F, hm, F.kp, hb⟩
theorem sc_part_pushed : FnScope ["part", "place", "way", "many", "given"] ["part", "place", "way", "many"] (defScope (topS 16)) := ⟨rfl, rfl, rfl, by decide +kernel, rfl, by decide +kernel, by decide +kernel⟩
set_option linter.unusedVariables false in
theorem fn_part_pushed (T : Txt K mg xa) {fa : Addr} {fd : FuncData} (F : Fun K "part_pushed" "part_pushed" (topS 16) fa fd) : FnG P w K mg base 2 fa fd ["part", "place", "way", "many"] (CT.spF K (exOf mg) 4 s_part_pushed) := by
  have nd : (["part", "place", "way", "many", "given"] : List Str).Nodup := sc_part_pushed.nd
  refine def_fn (k := 1) (N := ["part", "place", "way", "many", "given"]) (ps := ["part", "place", "way", "many"]) F sc_part_pushed fun cdv A outer s H E F0 hr hgd => ?_
  have hu64 : (A.deeper (envOfC "part_pushed" (defScope (topS 16)) s.heap.objs.size fa cdv)).units + 64 < cLine := hr.units
  have hu65 : (A.deeper (envOfC "part_pushed" (defScope (topS 16)) s.heap.objs.size fa cdv)).units + 65 < cLine := by have := hr.un; omega
  have pz := L2.passes_of (X := cxOf (L2.CX P w) P w K mg base ["part", "place", "way", "many", "given"] "part_pushed" (defScope (topS 16)) fa cdv A outer s H E) rfl
  have tk : Takes (cxOf (L2.CX P w) P w K mg base ["part", "place", "way", "many", "given"] "part_pushed" (defScope (topS 16)) fa cdv A outer s H E) (fun c d _ H' => E c d H') := takes_of rfl rfl rfl rfl
  exact (sss_cons (ss_if (st_cmp (o_eq hu64) (se_ix (se_var (pv 0)) se_int) se_str (nomark _)) (sss_cons (ss_set (i := 4) nd rfl (by first | exact Or.inl rfl | exact Or.inr rfl) (se_call (ok_marks_left T) tk (hr.mono (by decide)) hgd rfl (sa_cons (se_var (pv 0)) (sa_cons (se_var (pv 1)) (sa_cons (se_var (pv 3)) sa_nil))) rfl (aCons_len (aCons_len (aCons_len aNil_len)))))
      (sss_cons (ss_if (st_cmp (o_eq hu64) (se_var (pv 2)) se_int (nomark _)) (sss_one (ss_set (i := 4) nd rfl (by first | exact Or.inl rfl | exact Or.inr rfl) (se_call (ok_marks_met T) tk (hr.mono (by decide)) hgd rfl (sa_cons (se_var (pv 0)) (sa_cons (se_var (pv 1)) (sa_cons (se_var (pv 3)) sa_nil))) rfl (aCons_len (aCons_len (aCons_len aNil_len)))))) sss_nil)
      (sss_one (ss_ret (se_tup (sa_cons (se_bin o_mod (se_bin o_add (se_var (pv 1)) (se_bin o_mul (se_var (pv 2)) (se_var (pv 3)))) (se_ix (se_var (pv 0)) se_int)) (sa_cons (se_var (pv 4)) sa_nil))))))) sss_nil)
      (sss_cons (ss_if (st_cmp (o_eq hu64) (se_ix (se_var (pv 0)) se_int) se_str (nomark _)) (sss_one (ss_ret (se_tup (sa_cons se_int (sa_cons (se_bin o_mul (se_var (pv 3)) (se_callTy c_int rfl T.b_int PyProof.Rows.boot_int (sa_cons (se_cmp (o_eq hu64) (se_var (pv 2)) se_int (nomark _)) sa_nil))) sa_nil))))) sss_nil)
      (sss_cons (ss_if (st_cmp (o_eq hu64) (se_ix (se_var (pv 0)) se_int) se_str (nomark _)) (sss_cons (ss_if (st_cmp (o_eq hu64) (se_var (pv 3)) se_int (nomark _)) (sss_one (ss_ret (se_tup (sa_cons (se_var (pv 1)) (sa_cons se_int sa_nil))))) sss_nil)
      (sss_one (ss_ret (se_tup (sa_cons (se_callTy c_int rfl T.b_int PyProof.Rows.boot_int (sa_cons (se_cmp (o_eq hu64) (se_var (pv 2)) se_int (nomark _)) sa_nil)) (sa_cons (se_callTy c_int rfl T.b_int PyProof.Rows.boot_int (sa_cons (se_and (se_cmp (o_eq hu64) (se_var (pv 2)) se_int (nomark _)) (se_one (se_cmp (o_eq hu64) (se_var (pv 1)) se_int (nomark _)))) sa_nil)) sa_nil)))))) sss_nil)
      (sss_cons (ss_if (st_cmp (o_eq hu64) (se_var (pv 2)) se_int (nomark _)) (sss_one (ss_ret (se_tup (sa_cons (se_bin o_mod (se_bin o_add (se_var (pv 1)) (se_var (pv 3))) (se_ix (se_var (pv 0)) se_int)) (sa_cons (se_bin o_div (se_bin o_add (se_var (pv 1)) (se_var (pv 3))) (se_ix (se_var (pv 0)) se_int)) sa_nil))))) sss_nil)
      (sss_one (ss_ret (se_tup (sa_cons (se_callB (c_max rfl) rfl T.b_max PyProof.Rows.boot_max (sa_cons se_int (sa_cons (se_bin o_sub (se_var (pv 1)) (se_var (pv 3))) sa_nil))) (sa_cons se_int sa_nil)))))))))
theorem ok_part_pushed (T : Txt K mg xa) : Callee P w K mg base (exOf mg) "part_pushed" 4 s_part_pushed 2 := by
  obtain ⟨fa, fd, F, hm, hb⟩ := T.f_part_pushed
  exact ⟨fa, fd, _, fn_part_pushed T F, hm, F.kp, hb⟩
theorem sc_pushed_often : FnScope ["train", "stand", "i", "way", "many", "told", "at"] ["train", "stand", "i", "way", "many"] (defScope (topS 17)) := ⟨rfl, rfl, rfl, by decide +kernel, rfl, by decide +kernel, by decide +kernel⟩
set_option linter.unusedVariables false in
theorem fn_pushed_often (T : Txt K mg xa) {fa : Addr} {fd : FuncData} (F : Fun K "pushed_often" "pushed_often" (topS 17) fa fd) : FnG P w K mg base 3 fa fd ["train", "stand", "i", "way", "many"] (CT.spF K (exOf mg) 5 s_pushed_often) := by
  have nd : (["train", "stand", "i", "way", "many", "told", "at"] : List Str).Nodup := sc_pushed_often.nd
  refine def_fn (k := 2) (N := ["train", "stand", "i", "way", "many", "told", "at"]) (ps := ["train", "stand", "i", "way", "many"]) F sc_pushed_often fun cdv A outer s H E F0 hr hgd => ?_
  have hu64 : (A.deeper (envOfC "pushed_often" (defScope (topS 17)) s.heap.objs.size fa cdv)).units + 64 < cLine := hr.units
  have hu65 : (A.deeper (envOfC "pushed_often" (defScope (topS 17)) s.heap.objs.size fa cdv)).units + 65 < cLine := by have := hr.un; omega
  have pz := L2.passes_of (X := cxOf (L2.CX P w) P w K mg base ["train", "stand", "i", "way", "many", "told", "at"] "pushed_often" (defScope (topS 17)) fa cdv A outer s H E) rfl
  have tk : Takes (cxOf (L2.CX P w) P w K mg base ["train", "stand", "i", "way", "many", "told", "at"] "pushed_often" (defScope (topS 17)) fa cdv A outer s H E) (fun c d _ H' => E c d H') := takes_of rfl rfl rfl rfl
  exact (sss_cons (ss_setO (i := 5) nd rfl (by first | exact Or.inl rfl | exact Or.inr rfl) (so_list rfl T.b_list (sa_cons (se_var (pv 1)) sa_nil)))
      (sss_cons (ss_for (vs := [6]) pz rfl (si_rng2 rfl T.b_range (sa_cons (se_var (pv 2)) (sa_cons (se_callB c_len rfl T.b_len PySem.boot_len (sa_cons (se_var (pv 0)) sa_nil)) sa_nil))) (pg_name (i := 6) nd rfl (by first | exact Or.inl rfl | exact Or.inr rfl)) (ng_name (i := 6) (by simp)) (sss_one (ss_asg (se_call (ok_part_pushed T) tk (hr.mono (by decide)) hgd rfl (sa_cons (se_ix (se_var (pv 0)) (se_var (pv 6))) (sa_cons (se_ix (se_var (pv 5)) (se_var (pv 6))) (sa_cons (se_var (pv 3)) (sa_cons (se_var (pv 4)) sa_nil)))) rfl (aCons_len (aCons_len (aCons_len (aCons_len aNil_len))))) (pg_tup rfl (pgs_cons (pg_sub (pv 5) (se_var (pv 6)) set_list) (pgs_cons (pg_name (i := 4) nd rfl (by first | exact Or.inl rfl | exact Or.inr rfl)) pgs_nil))) (tg_tup (tgs_cons (tg_sub (W := WF)) (tgs_cons tg_name tgs_nil))))))
      (sss_one (ss_ret (se_tup (sa_cons (se_callTy c_tuple rfl T.b_tuple PyProof.Rows.boot_tuple (sa_cons (se_var (pv 5)) sa_nil)) (sa_cons (se_bin o_mul (se_var (pv 3)) (se_var (pv 4))) sa_nil)))))))
theorem ok_pushed_often (T : Txt K mg xa) : Callee P w K mg base (exOf mg) "pushed_often" 5 s_pushed_often 3 := by
  obtain ⟨fa, fd, F, hm, hb⟩ := T.f_pushed_often
  exact ⟨fa, fd, _, fn_pushed_often T F, hm, F.kp, hb⟩
theorem sc_walked : FnScope ["train", "stand", "row", "shown", "i", "way", "times", "more"] ["train", "stand", "row"] (defScope (topS 21)) := ⟨rfl, rfl, rfl, by decide +kernel, rfl, by decide +kernel, by decide +kernel⟩
set_option linter.unusedVariables false in
theorem fn_walked (T : Txt K mg xa) {fa : Addr} {fd : FuncData} (F : Fun K "walked" "walked" (topS 21) fa fd) : FnG P w K mg base 4 fa fd ["train", "stand", "row"] (CT.spF K (exOf mg) 3 s_walked) := by
  have nd : (["train", "stand", "row", "shown", "i", "way", "times", "more"] : List Str).Nodup := sc_walked.nd
  refine def_fn (k := 3) (N := ["train", "stand", "row", "shown", "i", "way", "times", "more"]) (ps := ["train", "stand", "row"]) F sc_walked fun cdv A outer s H E F0 hr hgd => ?_
  have hu64 : (A.deeper (envOfC "walked" (defScope (topS 21)) s.heap.objs.size fa cdv)).units + 64 < cLine := hr.units
  have hu65 : (A.deeper (envOfC "walked" (defScope (topS 21)) s.heap.objs.size fa cdv)).units + 65 < cLine := by have := hr.un; omega
  have pz := L2.passes_of (X := cxOf (L2.CX P w) P w K mg base ["train", "stand", "row", "shown", "i", "way", "times", "more"] "walked" (defScope (topS 21)) fa cdv A outer s H E) rfl
  have tk : Takes (cxOf (L2.CX P w) P w K mg base ["train", "stand", "row", "shown", "i", "way", "times", "more"] "walked" (defScope (topS 21)) fa cdv A outer s H E) (fun c d _ H' => E c d H') := takes_of rfl rfl rfl rfl
  exact (sss_cons (ss_set (i := 3) nd rfl (by first | exact Or.inl rfl | exact Or.inr rfl) se_int)
      (sss_cons (ss_for (vs := [4, 5, 6]) pz rfl (si_seq (se_var (pv 2))) (pg_tup rfl (pgs_cons (pg_name (i := 4) nd rfl (by first | exact Or.inl rfl | exact Or.inr rfl)) (pgs_cons (pg_name (i := 5) nd rfl (by first | exact Or.inl rfl | exact Or.inr rfl)) (pgs_cons (pg_name (i := 6) nd rfl (by first | exact Or.inl rfl | exact Or.inr rfl)) pgs_nil)))) (ng_tup (ngs_cons (ng_name (i := 4) (by simp)) (ngs_cons (ng_name (i := 5) (by simp)) (ngs_cons (ng_name (i := 6) (by simp)) ngs_nil)))) (sss_cons (ss_asg (se_call (ok_pushed_often T) tk (hr.mono (by decide)) hgd rfl (sa_cons (se_var (pv 0)) (sa_cons (se_var (pv 1)) (sa_cons (se_var (pv 4)) (sa_cons (se_var (pv 5)) (sa_cons (se_var (pv 6)) sa_nil))))) rfl (aCons_len (aCons_len (aCons_len (aCons_len (aCons_len aNil_len)))))) (pg_tup rfl (pgs_cons (pg_name (i := 1) nd rfl (by first | exact Or.inl rfl | exact Or.inr rfl)) (pgs_cons (pg_name (i := 7) nd rfl (by first | exact Or.inl rfl | exact Or.inr rfl)) pgs_nil))) (tg_tup (tgs_cons tg_name (tgs_cons tg_name tgs_nil))))
      (sss_one (ss_aug (i := 3) nd rfl (by first | exact Or.inl rfl | exact Or.inr rfl) (se_var (pv 7))))))
      (sss_one (ss_ret (se_tup (sa_cons (se_var (pv 1)) (sa_cons (se_var (pv 3)) sa_nil)))))))
theorem ok_walked (T : Txt K mg xa) : Callee P w K mg base (exOf mg) "walked" 3 s_walked 4 := by
  obtain ⟨fa, fd, F, hm, hb⟩ := T.f_walked
  exact ⟨fa, fd, _, fn_walked T F, hm, F.kp, hb⟩
theorem sc_left : FnScope ["train", "stand", "row"] ["train", "stand", "row"] (defScope (topS 22)) := ⟨rfl, rfl, rfl, by decide +kernel, rfl, by decide +kernel, by decide +kernel⟩
set_option linter.unusedVariables false in
theorem fn_left (T : Txt K mg xa) {fa : Addr} {fd : FuncData} (F : Fun K "left" "left" (topS 22) fa fd) : FnG P w K mg base 6 fa fd ["train", "stand", "row"] (CT.spF K (exOf mg) 3 s_left) := by
  have nd : (["train", "stand", "row"] : List Str).Nodup := sc_left.nd
  refine def_fn (k := 5) (N := ["train", "stand", "row"]) (ps := ["train", "stand", "row"]) F sc_left fun cdv A outer s H E F0 hr hgd => ?_
  have hu64 : (A.deeper (envOfC "left" (defScope (topS 22)) s.heap.objs.size fa cdv)).units + 64 < cLine := hr.units
  have hu65 : (A.deeper (envOfC "left" (defScope (topS 22)) s.heap.objs.size fa cdv)).units + 65 < cLine := by have := hr.un; omega
  have pz := L2.passes_of (X := cxOf (L2.CX P w) P w K mg base ["train", "stand", "row"] "left" (defScope (topS 22)) fa cdv A outer s H E) rfl
  have tk : Takes (cxOf (L2.CX P w) P w K mg base ["train", "stand", "row"] "left" (defScope (topS 22)) fa cdv A outer s H E) (fun c d _ H' => E c d H') := takes_of rfl rfl rfl rfl
  exact (sss_cons (ss_exp (se_call (ok_check_stand T) tk (hr.mono (by decide)) hgd rfl (sa_cons (se_var (pv 0)) (sa_cons (se_var (pv 1)) sa_nil)) rfl (aCons_len (aCons_len aNil_len))))
      (sss_cons (ss_exp (se_call (ok_check_row T) tk (hr.mono (by decide)) hgd rfl (sa_cons (se_var (pv 0)) (sa_cons (se_var (pv 2)) sa_nil)) rfl (aCons_len (aCons_len aNil_len))))
      (sss_one (ss_ret (se_call (ok_walked T) tk (hr.mono (by decide)) hgd rfl (sa_cons (se_var (pv 0)) (sa_cons (se_var (pv 1)) (sa_cons (se_var (pv 2)) sa_nil))) rfl (aCons_len (aCons_len (aCons_len aNil_len))))))))
theorem ok_left (T : Txt K mg xa) : Callee P w K mg base (exOf mg) "left" 3 s_left 6 := by
  obtain ⟨fa, fd, F, hm, hb⟩ := T.f_left
  exact ⟨fa, fd, _, fn_left T F, hm, F.kp, hb⟩
theorem sc_law_round_holds : FnScope ["_law_train", "_law_stand", "_law_i", "_law_way", "_law_many", "_law_shown", "_law_part"] ["_law_train", "_law_stand", "_law_i", "_law_way"] (defScope (topS 36)) := ⟨rfl, rfl, rfl, by decide +kernel, rfl, by decide +kernel, by decide +kernel⟩
set_option linter.unusedVariables false in
theorem fn_law_round_holds (T : Txt K mg xa) {fa : Addr} {fd : FuncData} (F : Fun K "_law_round_holds" "_law_round_holds" (topS 36) fa fd) : FnG P w K mg base 7 fa fd ["_law_train", "_law_stand", "_law_i", "_law_way"] (CT.spF K (exOf mg) 4 s_law_round_holds) := by
  have nd : (["_law_train", "_law_stand", "_law_i", "_law_way", "_law_many", "_law_shown", "_law_part"] : List Str).Nodup := sc_law_round_holds.nd
  refine def_fn (k := 6) (N := ["_law_train", "_law_stand", "_law_i", "_law_way", "_law_many", "_law_shown", "_law_part"]) (ps := ["_law_train", "_law_stand", "_law_i", "_law_way"]) F sc_law_round_holds fun cdv A outer s H E F0 hr hgd => ?_
  have hu64 : (A.deeper (envOfC "_law_round_holds" (defScope (topS 36)) s.heap.objs.size fa cdv)).units + 64 < cLine := hr.units
  have hu65 : (A.deeper (envOfC "_law_round_holds" (defScope (topS 36)) s.heap.objs.size fa cdv)).units + 65 < cLine := by have := hr.un; omega
  have pz := L2.passes_of (X := cxOf (L2.CX P w) P w K mg base ["_law_train", "_law_stand", "_law_i", "_law_way", "_law_many", "_law_shown", "_law_part"] "_law_round_holds" (defScope (topS 36)) fa cdv A outer s H E) rfl
  have tk : Takes (cxOf (L2.CX P w) P w K mg base ["_law_train", "_law_stand", "_law_i", "_law_way", "_law_many", "_law_shown", "_law_part"] "_law_round_holds" (defScope (topS 36)) fa cdv A outer s H E) (fun c d _ H' => E c d H') := takes_of rfl rfl rfl rfl
  exact (sss_cons (ss_set (i := 4) nd rfl (by first | exact Or.inl rfl | exact Or.inr rfl) se_int)
      (sss_cons (ss_set (i := 5) nd rfl (by first | exact Or.inl rfl | exact Or.inr rfl) (se_var (pv 3)))
      (sss_cons (ss_for (vs := [6]) pz rfl (si_seq (se_cut (se_var (pv 0)) (sp_so (se_var (pv 2))) sp_no)) (pg_name (i := 6) nd rfl (by first | exact Or.inl rfl | exact Or.inr rfl)) (ng_name (i := 6) (by simp)) (sss_cons (ss_set (i := 4) nd rfl (by first | exact Or.inl rfl | exact Or.inr rfl) (se_bin o_mul (se_var (pv 4)) (se_ix (se_var (pv 6)) se_int)))
      (sss_one (ss_set (i := 5) nd rfl (by first | exact Or.inl rfl | exact Or.inr rfl) (se_bin o_mul (se_var (pv 5)) (se_callB c_len rfl T.b_len PySem.boot_len (sa_cons (se_ix (se_var (pv 6)) se_int) sa_nil)))))))
      (sss_cons (ss_if (st_cmp o_ge (se_var (pv 4)) (se_bin o_pow se_int se_int) (nomark _)) (sss_one (ss_ret se_bl)) sss_nil)
      (sss_one (ss_ret (se_cmp (o_eq hu64) (se_call (ok_left T) tk (hr.mono (by decide)) hgd rfl (sa_cons (se_var (pv 0)) (sa_cons (se_var (pv 1)) (sa_cons (se_own (so_lst (sa_cons (se_tup (sa_cons (se_var (pv 2)) (sa_cons (se_var (pv 3)) (sa_cons (se_var (pv 4)) sa_nil)))) sa_nil))) sa_nil))) rfl (aCons_len (aCons_len (aCons_len aNil_len)))) (se_tup (sa_cons (se_var (pv 1)) (sa_cons (se_var (pv 5)) sa_nil))) (nomark _))))))))
theorem ok_law_round_holds (T : Txt K mg xa) : Callee P w K mg base (exOf mg) "_law_round_holds" 4 s_law_round_holds 7 := by
  obtain ⟨fa, fd, F, hm, hb⟩ := T.f_law_round_holds
  exact ⟨fa, fd, _, fn_law_round_holds T F, hm, F.kp, hb⟩
theorem sc_law_deed : FnScope ["_law_draws_here", "_law_train", "_law_i"] ["_law_draws_here", "_law_train"] (defScope (topS 31)) := ⟨rfl, rfl, rfl, by decide +kernel, rfl, by decide +kernel, by decide +kernel⟩
set_option linter.unusedVariables false in
theorem fn_law_deed (T : Txt K mg xa) {fa : Addr} {fd : FuncData} (F : Fun K "_law_deed" "_law_deed" (topS 31) fa fd) : FnG P w K mg base 3 fa fd ["_law_draws_here", "_law_train"] (CT.spL K 1 s_law_deed) := by
  have nd : (["_law_draws_here", "_law_train", "_law_i"] : List Str).Nodup := sc_law_deed.nd
  refine def_fnL (k := 2) (N := ["_law_draws_here", "_law_train", "_law_i"]) (ps := ["_law_draws_here", "_law_train"]) (n := 1) (ex := exOf mg) F sc_law_deed rfl fun cdv A outer s H E F0 H0 hr hgd => ?_
  have hu64 : (A.deeper (envOfC "_law_deed" (defScope (topS 31)) s.heap.objs.size fa cdv)).units + 64 < cLine := hr.units
  have hu65 : (A.deeper (envOfC "_law_deed" (defScope (topS 31)) s.heap.objs.size fa cdv)).units + 65 < cLine := by have := hr.un; omega
  have pz := L2.passes_of (X := (cxOf (L2.CX P w) P w K mg base ["_law_draws_here", "_law_train", "_law_i"] "_law_deed" (defScope (topS 31)) fa cdv A outer s H E)) rfl
  have tk : Takes (cxOf (L2.CX P w) P w K mg base ["_law_draws_here", "_law_train", "_law_i"] "_law_deed" (defScope (topS 31)) fa cdv A outer s H E) (fun c d _ H' => E c d H') := takes_of rfl rfl rfl rfl
  exact (sb_cons (W := fun c d _ H' => E c d H') (ss_setX (i := 2) nd rfl (by first | exact Or.inl rfl | exact Or.inr rfl) (sx_bin (W := WF) o_mod (sx_callL (i := 0) (ok_law_next T) tk (hr.mono (by decide)) hgd rfl (pv 0) sxa_nil xaNil_len) (sx_of (W := fun c d _ H' => E c d H') (se_callB c_len rfl T.b_len PySem.boot_len (sa_cons (se_var (pv 1)) sa_nil)))))
      (sb_retX (sx_tup (sxa_cons (sx_of (W := fun c d _ H' => E c d H') (se_var (pv 2))) (sxa_cons (sx_ix (sx_of (W := fun c d _ H' => E c d H') (se_own (so_lst (sa_cons se_int (sa_cons (se_bin o_sub se_int se_int) sa_nil))))) (sx_bin (W := WF) o_mod (sx_callL (i := 0) (ok_law_next T) tk (hr.mono (by decide)) hgd rfl (pv 0) sxa_nil xaNil_len) (sx_of (W := fun c d _ H' => E c d H') se_int))) (sxa_cons (sx_callL (i := 0) (ok_law_far T) tk (hr.mono (by decide)) hgd rfl (pv 0) (sxa_cons (sx_of (W := fun c d _ H' => E c d H') (se_bin o_pow se_int se_int)) sxa_nil) (xaCons_len xaNil_len)) sxa_nil))))))
theorem ok_law_deed (T : Txt K mg xa) : CalleeL P w K mg base "_law_deed" 1 s_law_deed 3 := by
  obtain ⟨fa, fd, F, hm, hb⟩ := T.f_law_deed
  exact ⟨fa, fd, _, fn_law_deed T F, hm, F.kp, hb⟩
theorem sc_law_net : FnScope ["_law_train", "_law_row", "_law_told", "_law_i", "_law_way", "_law_times"] ["_law_train", "_law_row"] (defScope (topS 32)) := ⟨rfl, rfl, rfl, by decide +kernel, rfl, by decide +kernel, by decide +kernel⟩
set_option linter.unusedVariables false in
theorem fn_law_net (T : Txt K mg xa) {fa : Addr} {fd : FuncData} (F : Fun K "_law_net" "_law_net" (topS 32) fa fd) : FnG P w K mg base 1 fa fd ["_law_train", "_law_row"] (CT.spF K (exOf mg) 2 s_law_net) := by
  have nd : (["_law_train", "_law_row", "_law_told", "_law_i", "_law_way", "_law_times"] : List Str).Nodup := sc_law_net.nd
  refine def_fn (k := 0) (N := ["_law_train", "_law_row", "_law_told", "_law_i", "_law_way", "_law_times"]) (ps := ["_law_train", "_law_row"]) F sc_law_net fun cdv A outer s H E F0 hr hgd => ?_
  have hu64 : (A.deeper (envOfC "_law_net" (defScope (topS 32)) s.heap.objs.size fa cdv)).units + 64 < cLine := hr.units
  have hu65 : (A.deeper (envOfC "_law_net" (defScope (topS 32)) s.heap.objs.size fa cdv)).units + 65 < cLine := by have := hr.un; omega
  have pz := L2.passes_of (X := cxOf (L2.CX P w) P w K mg base ["_law_train", "_law_row", "_law_told", "_law_i", "_law_way", "_law_times"] "_law_net" (defScope (topS 32)) fa cdv A outer s H E) rfl
  have tk : Takes (cxOf (L2.CX P w) P w K mg base ["_law_train", "_law_row", "_law_told", "_law_i", "_law_way", "_law_times"] "_law_net" (defScope (topS 32)) fa cdv A outer s H E) (fun c d _ H' => E c d H') := takes_of rfl rfl rfl rfl
  exact (sss_cons (ss_setO (i := 2) nd rfl (by first | exact Or.inl rfl | exact Or.inr rfl) (so_rep (se_own (so_lst (sa_cons se_int sa_nil))) (se_callB c_len rfl T.b_len PySem.boot_len (sa_cons (se_var (pv 0)) sa_nil))))
      (sss_cons (ss_for (vs := [3, 4, 5]) pz rfl (si_seq (se_var (pv 1))) (pg_tup rfl (pgs_cons (pg_name (i := 3) nd rfl (by first | exact Or.inl rfl | exact Or.inr rfl)) (pgs_cons (pg_name (i := 4) nd rfl (by first | exact Or.inl rfl | exact Or.inr rfl)) (pgs_cons (pg_name (i := 5) nd rfl (by first | exact Or.inl rfl | exact Or.inr rfl)) pgs_nil)))) (ng_tup (ngs_cons (ng_name (i := 3) (by simp)) (ngs_cons (ng_name (i := 4) (by simp)) (ngs_cons (ng_name (i := 5) (by simp)) ngs_nil)))) (sss_one (ss_asg (se_bin o_add (se_ix (se_var (pv 2)) (se_var (pv 3))) (se_bin o_mul (se_var (pv 4)) (se_var (pv 5)))) (pg_sub (pv 2) (se_var (pv 3)) set_list) (tg_sub (W := WF)))))
      (sss_one (ss_retV (pv 2)))))
theorem ok_law_net (T : Txt K mg xa) : Callee P w K mg base (exOf mg) "_law_net" 2 s_law_net 1 := by
  obtain ⟨fa, fd, F, hm, hb⟩ := T.f_law_net
  exact ⟨fa, fd, _, fn_law_net T F, hm, F.kp, hb⟩
theorem sc_law_due : FnScope ["_law_wheels", "_law_stand", "_law_net_here", "_law_many", "_law_told", "_law_carry", "_law_part", "_law_place", "_law_number", "_law_behind_here", "_law_mark"] ["_law_wheels", "_law_stand", "_law_net_here", "_law_many"] (defScope (topS 33)) := ⟨rfl, rfl, rfl, by decide +kernel, rfl, by decide +kernel, by decide +kernel⟩
set_option linter.unusedVariables false in
theorem fn_law_due (T : Txt K mg xa) {fa : Addr} {fd : FuncData} (F : Fun K "_law_due" "_law_due" (topS 33) fa fd) : FnG P w K mg base 1 fa fd ["_law_wheels", "_law_stand", "_law_net_here", "_law_many"] (CT.spF K (exOf mg) 4 s_law_due_2) := by
  have nd : (["_law_wheels", "_law_stand", "_law_net_here", "_law_many", "_law_told", "_law_carry", "_law_part", "_law_place", "_law_number", "_law_behind_here", "_law_mark"] : List Str).Nodup := sc_law_due.nd
  refine def_fn (k := 0) (N := ["_law_wheels", "_law_stand", "_law_net_here", "_law_many", "_law_told", "_law_carry", "_law_part", "_law_place", "_law_number", "_law_behind_here", "_law_mark"]) (ps := ["_law_wheels", "_law_stand", "_law_net_here", "_law_many"]) F sc_law_due fun cdv A outer s H E F0 hr hgd => ?_
  have hu64 : (A.deeper (envOfC "_law_due" (defScope (topS 33)) s.heap.objs.size fa cdv)).units + 64 < cLine := hr.units
  have hu65 : (A.deeper (envOfC "_law_due" (defScope (topS 33)) s.heap.objs.size fa cdv)).units + 65 < cLine := by have := hr.un; omega
  have pz := L2.passes_of (X := cxOf (L2.CX P w) P w K mg base ["_law_wheels", "_law_stand", "_law_net_here", "_law_many", "_law_told", "_law_carry", "_law_part", "_law_place", "_law_number", "_law_behind_here", "_law_mark"] "_law_due" (defScope (topS 33)) fa cdv A outer s H E) rfl
  have tk : Takes (cxOf (L2.CX P w) P w K mg base ["_law_wheels", "_law_stand", "_law_net_here", "_law_many", "_law_told", "_law_carry", "_law_part", "_law_place", "_law_number", "_law_behind_here", "_law_mark"] "_law_due" (defScope (topS 33)) fa cdv A outer s H E) (fun c d _ H' => E c d H') := takes_of rfl rfl rfl rfl
  exact (sss_cons (ss_setO (i := 4) nd rfl (by first | exact Or.inl rfl | exact Or.inr rfl) (so_lst sa_nil))
      (sss_cons (ss_set (i := 5) nd rfl (by first | exact Or.inl rfl | exact Or.inr rfl) se_int)
      (sss_cons (ss_for (vs := [6, 7, 8]) pz rfl (si_zip3 rfl T.b_zip (sa_cons (se_var (pv 0)) (sa_cons (se_var (pv 1)) (sa_cons (se_var (pv 2)) sa_nil)))) (pg_tup rfl (pgs_cons (pg_name (i := 6) nd rfl (by first | exact Or.inl rfl | exact Or.inr rfl)) (pgs_cons (pg_name (i := 7) nd rfl (by first | exact Or.inl rfl | exact Or.inr rfl)) (pgs_cons (pg_name (i := 8) nd rfl (by first | exact Or.inl rfl | exact Or.inr rfl)) pgs_nil)))) (ng_tup (ngs_cons (ng_name (i := 6) (by simp)) (ngs_cons (ng_name (i := 7) (by simp)) (ngs_cons (ng_name (i := 8) (by simp)) ngs_nil)))) (sss_cons (ss_set (i := 9) nd rfl (by first | exact Or.inl rfl | exact Or.inr rfl) (se_bin o_add (se_bin o_add (se_var (pv 7)) (se_bin o_mul (se_var (pv 8)) (se_var (pv 3)))) (se_var (pv 5))))
      (sss_cons (ss_set (i := 5) nd rfl (by first | exact Or.inl rfl | exact Or.inr rfl) se_int)
      (sss_cons (ss_for (vs := [10]) pz rfl (si_seq (se_ix (se_var (pv 6)) se_int)) (pg_name (i := 10) nd rfl (by first | exact Or.inl rfl | exact Or.inr rfl)) (ng_name (i := 10) (by simp)) (sss_one (ss_set (i := 5) nd rfl (by first | exact Or.inl rfl | exact Or.inr rfl) (se_bin o_sub (se_bin o_add (se_var (pv 5)) (se_bin o_div (se_bin o_sub (se_var (pv 9)) (se_var (pv 10))) (se_ix (se_var (pv 6)) se_int))) (se_bin o_div (se_bin o_sub (se_var (pv 7)) (se_var (pv 10))) (se_ix (se_var (pv 6)) se_int))))))
      (sss_one (ss_app (pv 4) (se_bin o_mod (se_var (pv 9)) (se_ix (se_var (pv 6)) se_int))))))))
      (sss_one (ss_ret (se_tup (sa_cons (se_callTy c_tuple rfl T.b_tuple PyProof.Rows.boot_tuple (sa_cons (se_var (pv 4)) sa_nil)) (sa_cons (se_var (pv 5)) sa_nil))))))))
theorem ok_law_due (T : Txt K mg xa) : Callee P w K mg base (exOf mg) "_law_due" 4 s_law_due_2 1 := by
  obtain ⟨fa, fd, F, hm, hb⟩ := T.f_law_due
  exact ⟨fa, fd, _, fn_law_due T F, hm, F.kp, hb⟩
theorem sc_law_rows : FnScope ["_law_draws_here", "_law_train", "_law_row", "_law_net_here", "_law_gathered", "_law_halves", "_law_i", "_law_way", "_law_times", "_law_first", "_law_half", "_law_there", "_law_number"] ["_law_draws_here", "_law_train", "_law_row"] (defScope (topS 34)) := ⟨rfl, rfl, rfl, by decide +kernel, rfl, by decide +kernel, by decide +kernel⟩
set_option linter.unusedVariables false in
theorem fn_law_rows (T : Txt K mg xa) {fa : Addr} {fd : FuncData} (F : Fun K "_law_rows" "_law_rows" (topS 34) fa fd) : FnG P w K mg base 4 fa fd ["_law_draws_here", "_law_train", "_law_row"] (CT.spL K 2 s_law_rows) := by
  have nd : (["_law_draws_here", "_law_train", "_law_row", "_law_net_here", "_law_gathered", "_law_halves", "_law_i", "_law_way", "_law_times", "_law_first", "_law_half", "_law_there", "_law_number"] : List Str).Nodup := sc_law_rows.nd
  refine def_fnL (k := 3) (N := ["_law_draws_here", "_law_train", "_law_row", "_law_net_here", "_law_gathered", "_law_halves", "_law_i", "_law_way", "_law_times", "_law_first", "_law_half", "_law_there", "_law_number"]) (ps := ["_law_draws_here", "_law_train", "_law_row"]) (n := 2) (ex := exOf mg) F sc_law_rows rfl fun cdv A outer s H E F0 H0 hr hgd => ?_
  have hu64 : (A.deeper (envOfC "_law_rows" (defScope (topS 34)) s.heap.objs.size fa cdv)).units + 64 < cLine := hr.units
  have hu65 : (A.deeper (envOfC "_law_rows" (defScope (topS 34)) s.heap.objs.size fa cdv)).units + 65 < cLine := by have := hr.un; omega
  have pz := L2.passes_of (X := (cxOf (L2.CX P w) P w K mg base ["_law_draws_here", "_law_train", "_law_row", "_law_net_here", "_law_gathered", "_law_halves", "_law_i", "_law_way", "_law_times", "_law_first", "_law_half", "_law_there", "_law_number"] "_law_rows" (defScope (topS 34)) fa cdv A outer s H E)) rfl
  have tk : Takes (cxOf (L2.CX P w) P w K mg base ["_law_draws_here", "_law_train", "_law_row", "_law_net_here", "_law_gathered", "_law_halves", "_law_i", "_law_way", "_law_times", "_law_first", "_law_half", "_law_there", "_law_number"] "_law_rows" (defScope (topS 34)) fa cdv A outer s H E) (fun c d _ H' => E c d H') := takes_of rfl rfl rfl rfl
  exact (sb_cons (W := fun c d _ H' => E c d H') (ss_set (i := 3) nd rfl (by first | exact Or.inl rfl | exact Or.inr rfl) (se_call (ok_law_net T) tk (hr.mono (by decide)) hgd rfl (sa_cons (se_var (pv 1)) (sa_cons (se_var (pv 2)) sa_nil)) rfl (aCons_len (aCons_len aNil_len))))
      (sb_cons (W := fun c d _ H' => E c d H') (ss_setLc (i := 4) rfl nd rfl rfl (sw_true rfl rfl rfl (by decide +kernel)) (si_enum rfl T.b_enumerate (se_var (pv 3))) (blkOk_by (own := [("_law_i", 6), ("_law_number", 12)]) (N := ["_law_draws_here", "_law_train", "_law_row", "_law_net_here", "_law_gathered", "_law_halves", "_law_i", "_law_way", "_law_times", "_law_first", "_law_half", "_law_there", "_law_number"]) (sc := defScope (topS 34)) (by decide +kernel)) (ng_tup (ngs_cons (ng_name (i := 6) (by simp)) (ngs_cons (ng_name (i := 12) (by simp)) ngs_nil))) (fun _ _ _ _ _ => (pg_tup rfl (pgs_cons (pg_name (i := 6) nd rfl (Or.inl rfl)) (pgs_cons (pg_name (i := 12) nd rfl (Or.inl rfl)) pgs_nil)))) (fun _ _ _ _ _ => (sts_one (st_cmp (o_ne hu64) (se_var (pv 12)) se_int (nomark _)))) (fun _ _ _ _ _ => (se_tup (sa_cons (se_var (pv 6)) (sa_cons (se_ix (se_own (so_lst (sa_cons se_int (sa_cons (se_bin o_sub se_int se_int) sa_nil)))) (se_callTy c_int rfl T.b_int PyProof.Rows.boot_int (sa_cons (se_cmp o_lt (se_var (pv 12)) se_int (nomark _)) sa_nil))) (sa_cons (se_callB c_abs rfl T.b_abs PyProof.Rows.boot_abs (sa_cons (se_var (pv 12)) sa_nil)) sa_nil))))))
      (sb_cons (W := fun c d _ H' => E c d H') (ss_setO (i := 5) nd rfl (by first | exact Or.inl rfl | exact Or.inr rfl) (so_lst sa_nil))
      (sb_cons (W := fun c d _ H' => E c d H') (ss_for (vs := [6, 7, 8]) pz rfl (si_seq (se_var (pv 2))) (pg_tup rfl (pgs_cons (pg_name (i := 6) nd rfl (by first | exact Or.inl rfl | exact Or.inr rfl)) (pgs_cons (pg_name (i := 7) nd rfl (by first | exact Or.inl rfl | exact Or.inr rfl)) (pgs_cons (pg_name (i := 8) nd rfl (by first | exact Or.inl rfl | exact Or.inr rfl)) pgs_nil)))) (ng_tup (ngs_cons (ng_name (i := 6) (by simp)) (ngs_cons (ng_name (i := 7) (by simp)) (ngs_cons (ng_name (i := 8) (by simp)) ngs_nil)))) (sss_cons (ss_setX (i := 9) nd rfl (by first | exact Or.inl rfl | exact Or.inr rfl) (sx_callL (i := 0) (ok_law_far T) tk (hr.mono (by decide)) hgd rfl (pv 0) (sxa_cons (sx_of (W := fun c d _ H' => E c d H') (se_bin o_add (se_var (pv 8)) se_int)) sxa_nil) (xaCons_len xaNil_len)))
      (sss_one (ss_for (vs := [10]) pz rfl (si_seq (se_own (so_lst (sa_cons (se_var (pv 9)) (sa_cons (se_bin o_sub (se_var (pv 8)) (se_var (pv 9))) sa_nil))))) (pg_name (i := 10) nd rfl (by first | exact Or.inl rfl | exact Or.inr rfl)) (ng_name (i := 10) (by simp)) (sss_one (ss_insX (pv 5) (sxa_cons (sx_bin (W := WF) o_mod (sx_callL (i := 0) (ok_law_next T) tk (hr.mono (by decide)) hgd rfl (pv 0) sxa_nil xaNil_len) (sx_of (W := fun c d _ H' => E c d H') (se_bin o_add (se_callB c_len rfl T.b_len PySem.boot_len (sa_cons (se_var (pv 5)) sa_nil)) se_int))) (sxa_cons (sx_of (W := fun c d _ H' => E c d H') (se_tup (sa_cons (se_var (pv 6)) (sa_cons (se_var (pv 7)) (sa_cons (se_var (pv 10)) sa_nil))))) sxa_nil))))))))
      (sb_cons (W := fun c d _ H' => E c d H') (ss_asgX (sx_callL (i := 0) (ok_law_deed T) tk (hr.mono (by decide)) hgd rfl (pv 0) (sxa_cons (sx_of (W := fun c d _ H' => E c d H') (se_var (pv 1))) sxa_nil) (xaCons_len xaNil_len)) (pg_tup rfl (pgs_cons (pg_name (i := 6) nd rfl (by first | exact Or.inl rfl | exact Or.inr rfl)) (pgs_cons (pg_name (i := 7) nd rfl (by first | exact Or.inl rfl | exact Or.inr rfl)) (pgs_cons (pg_name (i := 8) nd rfl (by first | exact Or.inl rfl | exact Or.inr rfl)) pgs_nil)))) (tg_tup (tgs_cons tg_name (tgs_cons tg_name (tgs_cons tg_name tgs_nil)))))
      (sb_cons (W := fun c d _ H' => E c d H') (ss_setO (i := 11) nd rfl (by first | exact Or.inl rfl | exact Or.inr rfl) (so_list rfl T.b_list (sa_cons (se_var (pv 2)) sa_nil)))
      (sb_cons (W := fun c d _ H' => E c d H') (ss_insX (pv 11) (sxa_cons (sx_bin (W := WF) o_mod (sx_callL (i := 0) (ok_law_next T) tk (hr.mono (by decide)) hgd rfl (pv 0) sxa_nil xaNil_len) (sx_of (W := fun c d _ H' => E c d H') (se_bin o_add (se_callB c_len rfl T.b_len PySem.boot_len (sa_cons (se_var (pv 11)) sa_nil)) se_int))) (sxa_cons (sx_of (W := fun c d _ H' => E c d H') (se_tup (sa_cons (se_var (pv 6)) (sa_cons (se_var (pv 7)) (sa_cons (se_var (pv 8)) sa_nil))))) sxa_nil)))
      (sb_cons (W := fun c d _ H' => E c d H') (ss_insX (pv 11) (sxa_cons (sx_bin (W := WF) o_mod (sx_callL (i := 0) (ok_law_next T) tk (hr.mono (by decide)) hgd rfl (pv 0) sxa_nil xaNil_len) (sx_of (W := fun c d _ H' => E c d H') (se_bin o_add (se_callB c_len rfl T.b_len PySem.boot_len (sa_cons (se_var (pv 11)) sa_nil)) se_int))) (sxa_cons (sx_of (W := fun c d _ H' => E c d H') (se_tup (sa_cons (se_var (pv 6)) (sa_cons (se_bin o_sub se_int (se_var (pv 7))) (sa_cons (se_var (pv 8)) sa_nil))))) sxa_nil)))
      (sb_frz (i := 11) (sb_frz (i := 5) (sb_ret (W := fun c d _ H' => E c d H') (se_own (so_lst (sa_cons (se_var (pv 2)) (sa_cons (se_rev (se_var (pv 2))) (sa_cons (se_callB (c_sorted hu65) rfl T.b_sorted PyProof.Rows.boot_sorted (sa_cons (se_var (pv 2)) sa_nil)) (sa_cons (se_var (pv 4)) (sa_cons (se_rev (se_var (pv 4))) (sa_cons (se_var (pv 5)) (sa_cons (se_var (pv 11)) sa_nil))))))))))))))))))))
theorem ok_law_rows (T : Txt K mg xa) : CalleeL P w K mg base "_law_rows" 2 s_law_rows 4 := by
  obtain ⟨fa, fd, F, hm, hb⟩ := T.f_law_rows
  exact ⟨fa, fd, _, fn_law_rows T F, hm, F.kp, hb⟩
theorem sc_law_is : FnScope ["_law_train", "_law_wheels", "_law_got", "_law_due_here", "_law_number"] ["_law_train", "_law_wheels", "_law_got", "_law_due_here"] (defScope (topS 35)) := ⟨rfl, rfl, rfl, by decide +kernel, rfl, by decide +kernel, by decide +kernel⟩
set_option linter.unusedVariables false in
theorem fn_law_is (T : Txt K mg xa) {fa : Addr} {fd : FuncData} (F : Fun K "_law_is" "_law_is" (topS 35) fa fd) : FnG P w K mg base 1 fa fd ["_law_train", "_law_wheels", "_law_got", "_law_due_here"] (CT.spF K (exOf mg) 4 s_law_is_2) := by
  have nd : (["_law_train", "_law_wheels", "_law_got", "_law_due_here", "_law_number"] : List Str).Nodup := sc_law_is.nd
  refine def_fn (k := 0) (N := ["_law_train", "_law_wheels", "_law_got", "_law_due_here", "_law_number"]) (ps := ["_law_train", "_law_wheels", "_law_got", "_law_due_here"]) F sc_law_is fun cdv A outer s H E F0 hr hgd => ?_
  have hu64 : (A.deeper (envOfC "_law_is" (defScope (topS 35)) s.heap.objs.size fa cdv)).units + 64 < cLine := hr.units
  have hu65 : (A.deeper (envOfC "_law_is" (defScope (topS 35)) s.heap.objs.size fa cdv)).units + 65 < cLine := by have := hr.un; omega
  have pz := L2.passes_of (X := cxOf (L2.CX P w) P w K mg base ["_law_train", "_law_wheels", "_law_got", "_law_due_here", "_law_number"] "_law_is" (defScope (topS 35)) fa cdv A outer s H E) rfl
  have tk : Takes (cxOf (L2.CX P w) P w K mg base ["_law_train", "_law_wheels", "_law_got", "_law_due_here", "_law_number"] "_law_is" (defScope (topS 35)) fa cdv A outer s H E) (fun c d _ H' => E c d H') := takes_of rfl rfl rfl rfl
  exact (sss_cons (ss_if (st_w (sw_or (st_not (st_of (se_isi (T := "tuple") rfl T.b_isinstance rfl T.b_tuple PyProof.Rows.boot_tuple (se_var (pv 2))))) (sw_or (st_cmp (o_ne hu64) (se_callB c_len rfl T.b_len PySem.boot_len (sa_cons (se_var (pv 2)) sa_nil)) se_int (nomark _)) (sw_or (st_not (st_of (se_isi (T := "tuple") rfl T.b_isinstance rfl T.b_tuple PyProof.Rows.boot_tuple (se_ix (se_var (pv 2)) se_int)))) (sw_or1 (st_cmp (o_ne hu64) (se_callB c_len rfl T.b_len PySem.boot_len (sa_cons (se_ix (se_var (pv 2)) se_int) sa_nil)) (se_callB c_len rfl T.b_len PySem.boot_len (sa_cons (se_var (pv 0)) sa_nil)) (nomark _))))))) (sss_one (ss_ret se_bl)) sss_nil)
      (sss_cons (ss_for (vs := [4]) pz rfl (si_seq (se_bin o_add (se_ix (se_var (pv 2)) se_int) (se_tup (sa_cons (se_ix (se_var (pv 2)) se_int) sa_nil)))) (pg_name (i := 4) nd rfl (by first | exact Or.inl rfl | exact Or.inr rfl)) (ng_name (i := 4) (by simp)) (sss_one (ss_if (st_w (sw_or (st_not (st_of (se_isi (T := "int") rfl T.b_isinstance rfl T.b_int PyProof.Rows.boot_int (se_var (pv 4))))) (sw_or1 (st_of (se_isi (T := "bool") rfl T.b_isinstance rfl T.b_bool (by decide +kernel) (se_var (pv 4))))))) (sss_one (ss_ret se_bl)) sss_nil)))
      (sss_cons (ss_if (st_cmp o_lt (se_callB c_len rfl T.b_len PySem.boot_len (sa_cons (se_var (pv 1)) sa_nil)) (se_callB c_len rfl T.b_len PySem.boot_len (sa_cons (se_var (pv 0)) sa_nil)) (nomark _)) (sss_one (ss_ret (se_cmp (o_eq hu64) (se_cut (se_ix (se_var (pv 2)) se_int) sp_no (sp_so (se_callB c_len rfl T.b_len PySem.boot_len (sa_cons (se_var (pv 1)) sa_nil)))) (se_ix (se_var (pv 3)) se_int) (nomark _)))) sss_nil)
      (sss_one (ss_ret (se_cmp (o_eq hu64) (se_var (pv 2)) (se_var (pv 3)) (nomark _)))))))
theorem ok_law_is (T : Txt K mg xa) : Callee P w K mg base (exOf mg) "_law_is" 4 s_law_is_2 1 := by
  obtain ⟨fa, fd, F, hm, hb⟩ := T.f_law_is
  exact ⟨fa, fd, _, fn_law_is T F, hm, F.kp, hb⟩
theorem sc_left_often : FnScope ["train", "stand", "row", "times", "met", "sums", "shown", "more", "ahead", "circle", "rest", "whole", "at", "one", "place"] ["train", "stand", "row", "times"] (defScope (topS 23)) := ⟨rfl, rfl, rfl, by decide +kernel, rfl, by decide +kernel, by decide +kernel⟩
set_option linter.unusedVariables false in
theorem fn_left_often (T : Txt K mg xa) {fa : Addr} {fd : FuncData} (F : Fun K "left_often" "left_often" (topS 23) fa fd) : FnG P w K mg base 6 fa fd ["train", "stand", "row", "times"] (CT.spF K (exOf mg) 4 s_left_often) := by
  have nd : (["train", "stand", "row", "times", "met", "sums", "shown", "more", "ahead", "circle", "rest", "whole", "at", "one", "place"] : List Str).Nodup := sc_left_often.nd
  refine def_fn (k := 5) (N := ["train", "stand", "row", "times", "met", "sums", "shown", "more", "ahead", "circle", "rest", "whole", "at", "one", "place"]) (ps := ["train", "stand", "row", "times"]) F sc_left_often fun cdv A outer s H E F0 hr hgd => ?_
  have hu64 : (A.deeper (envOfC "left_often" (defScope (topS 23)) s.heap.objs.size fa cdv)).units + 64 < cLine := hr.units
  have hu65 : (A.deeper (envOfC "left_often" (defScope (topS 23)) s.heap.objs.size fa cdv)).units + 65 < cLine := by have := hr.un; omega
  have pz := L2.passes_of (X := cxOf (L2.CX P w) P w K mg base ["train", "stand", "row", "times", "met", "sums", "shown", "more", "ahead", "circle", "rest", "whole", "at", "one", "place"] "left_often" (defScope (topS 23)) fa cdv A outer s H E) rfl
  have tk : Takes (cxOf (L2.CX P w) P w K mg base ["train", "stand", "row", "times", "met", "sums", "shown", "more", "ahead", "circle", "rest", "whole", "at", "one", "place"] "left_often" (defScope (topS 23)) fa cdv A outer s H E) (fun c d _ H' => E c d H') := takes_of rfl rfl rfl rfl
  exact (sss_cons (ss_exp (se_call (ok_check_stand T) tk (hr.mono (by decide)) hgd rfl (sa_cons (se_var (pv 0)) (sa_cons (se_var (pv 1)) sa_nil)) rfl (aCons_len (aCons_len aNil_len))))
      (sss_cons (ss_exp (se_call (ok_check_row T) tk (hr.mono (by decide)) hgd rfl (sa_cons (se_var (pv 0)) (sa_cons (se_var (pv 2)) sa_nil)) rfl (aCons_len (aCons_len aNil_len))))
      (sss_cons (ss_if (st_w (sw_or (st_not (st_of (se_call (ok_is_whole T) tk (hr.mono (by decide)) hgd rfl (sa_cons (se_var (pv 3)) sa_nil) rfl (aCons_len aNil_len)))) (sw_or1 (st_cmp o_lt (se_var (pv 3)) se_int (nomark _))))) (sss_one (ss_raise rfl tk T.x_NoCount rfl)) sss_nil)
      (sss_cons (ss_newD (i := 4) nd rfl (by first | exact Or.inl rfl | exact Or.inr rfl))
      (sss_cons (ss_setO (i := 5) nd rfl (by first | exact Or.inl rfl | exact Or.inr rfl) (so_lst sa_nil))
      (sss_cons (ss_set (i := 6) nd rfl (by first | exact Or.inl rfl | exact Or.inr rfl) se_int)
      (sss_cons (ss_while pz (st_w (sw_and (st_notInD hu65 (pv 4) (se_var (pv 1))) (sw_and1 (st_cmp o_lt (se_callB c_len rfl T.b_len PySem.boot_len (sa_cons (se_var (pv 5)) sa_nil)) (se_var (pv 3)) (nomark _))))) (sss_cons (ss_putD hu65 (pv 4) (se_var (pv 1)) (se_callB c_len rfl T.b_len PySem.boot_len (sa_cons (se_var (pv 5)) sa_nil)))
      (sss_cons (ss_app (pv 5) (se_var (pv 6)))
      (sss_cons (ss_asg (se_call (ok_walked T) tk (hr.mono (by decide)) hgd rfl (sa_cons (se_var (pv 0)) (sa_cons (se_var (pv 1)) (sa_cons (se_var (pv 2)) sa_nil))) rfl (aCons_len (aCons_len (aCons_len aNil_len)))) (pg_tup rfl (pgs_cons (pg_name (i := 1) nd rfl (by first | exact Or.inl rfl | exact Or.inr rfl)) (pgs_cons (pg_name (i := 7) nd rfl (by first | exact Or.inl rfl | exact Or.inr rfl)) pgs_nil))) (tg_tup (tgs_cons tg_name (tgs_cons tg_name tgs_nil))))
      (sss_one (ss_aug (i := 6) nd rfl (by first | exact Or.inl rfl | exact Or.inr rfl) (se_var (pv 7))))))))
      (sss_cons (ss_if (st_notInD hu65 (pv 4) (se_var (pv 1))) (sss_one (ss_ret (se_tup (sa_cons (se_var (pv 1)) (sa_cons (se_var (pv 6)) sa_nil))))) sss_nil)
      (sss_cons (ss_set (i := 8) nd rfl (by first | exact Or.inl rfl | exact Or.inr rfl) (se_getD hu65 (pv 4) (se_var (pv 1))))
      (sss_cons (ss_set (i := 9) nd rfl (by first | exact Or.inl rfl | exact Or.inr rfl) (se_bin o_sub (se_callB c_len rfl T.b_len PySem.boot_len (sa_cons (se_var (pv 5)) sa_nil)) (se_var (pv 8))))
      (sss_cons (ss_set (i := 10) nd rfl (by first | exact Or.inl rfl | exact Or.inr rfl) (se_bin o_sub (se_var (pv 3)) (se_callB c_len rfl T.b_len PySem.boot_len (sa_cons (se_var (pv 5)) sa_nil))))
      (sss_cons (ss_set (i := 11) nd rfl (by first | exact Or.inl rfl | exact Or.inr rfl) (se_bin o_sub (se_var (pv 6)) (se_ix (se_var (pv 5)) (se_var (pv 8)))))
      (sss_cons (ss_set (i := 12) nd rfl (by first | exact Or.inl rfl | exact Or.inr rfl) (se_bin o_add (se_var (pv 8)) (se_bin o_mod (se_var (pv 10)) (se_var (pv 9)))))
      (sss_cons (ss_itemsD (vs := [13, 14]) pz rfl (pv 4) (pg_tup rfl (pgs_cons (pg_name (i := 13) nd rfl (by first | exact Or.inl rfl | exact Or.inr rfl)) (pgs_cons (pg_name (i := 14) nd rfl (by first | exact Or.inl rfl | exact Or.inr rfl)) pgs_nil))) (ng_tup (ngs_cons (ng_name (i := 13) (by simp)) (ngs_cons (ng_name (i := 14) (by simp)) ngs_nil))) (sss_one (ss_if (st_cmp (o_eq hu64) (se_var (pv 14)) (se_var (pv 12)) (nomark _)) (sss_one (ss_set (i := 1) nd rfl (by first | exact Or.inl rfl | exact Or.inr rfl) (se_var (pv 13)))) sss_nil)))
      (sss_one (ss_ret (se_tup (sa_cons (se_var (pv 1)) (sa_cons (se_bin o_sub (se_bin o_add (se_bin o_add (se_var (pv 6)) (se_bin o_mul (se_bin o_div (se_var (pv 10)) (se_var (pv 9))) (se_var (pv 11)))) (se_ix (se_var (pv 5)) (se_var (pv 12)))) (se_ix (se_var (pv 5)) (se_var (pv 8)))) sa_nil)))))))))))))))))))
theorem ok_left_often (T : Txt K mg xa) : Callee P w K mg base (exOf mg) "left_often" 4 s_left_often 6 := by
  obtain ⟨fa, fd, F, hm, hb⟩ := T.f_left_often
  exact ⟨fa, fd, _, fn_left_often T F, hm, F.kp, hb⟩
theorem sc_law_often_holds : FnScope ["_law_draws_here", "_law_train", "_law_wheels", "_law_stand", "_law_row", "_law_many", "_law_part", "_law_times", "_law_due_here"] ["_law_draws_here", "_law_train", "_law_wheels", "_law_stand", "_law_row"] (defScope (topS 37)) := ⟨rfl, rfl, rfl, by decide +kernel, rfl, by decide +kernel, by decide +kernel⟩
set_option linter.unusedVariables false in
theorem fn_law_often_holds (T : Txt K mg xa) {fa : Addr} {fd : FuncData} (F : Fun K "_law_often_holds" "_law_often_holds" (topS 37) fa fd) : FnG P w K mg base 7 fa fd ["_law_draws_here", "_law_train", "_law_wheels", "_law_stand", "_law_row"] (CT.spL K 4 s_law_often_holds) := by
  have nd : (["_law_draws_here", "_law_train", "_law_wheels", "_law_stand", "_law_row", "_law_many", "_law_part", "_law_times", "_law_due_here"] : List Str).Nodup := sc_law_often_holds.nd
  refine def_fnL (k := 6) (N := ["_law_draws_here", "_law_train", "_law_wheels", "_law_stand", "_law_row", "_law_many", "_law_part", "_law_times", "_law_due_here"]) (ps := ["_law_draws_here", "_law_train", "_law_wheels", "_law_stand", "_law_row"]) (n := 4) (ex := exOf mg) F sc_law_often_holds rfl fun cdv A outer s H E F0 H0 hr hgd => ?_
  have hu64 : (A.deeper (envOfC "_law_often_holds" (defScope (topS 37)) s.heap.objs.size fa cdv)).units + 64 < cLine := hr.units
  have hu65 : (A.deeper (envOfC "_law_often_holds" (defScope (topS 37)) s.heap.objs.size fa cdv)).units + 65 < cLine := by have := hr.un; omega
  have pz := L2.passes_of (X := (cxOf (L2.CX P w) P w K mg base ["_law_draws_here", "_law_train", "_law_wheels", "_law_stand", "_law_row", "_law_many", "_law_part", "_law_times", "_law_due_here"] "_law_often_holds" (defScope (topS 37)) fa cdv A outer s H E)) rfl
  have tk : Takes (cxOf (L2.CX P w) P w K mg base ["_law_draws_here", "_law_train", "_law_wheels", "_law_stand", "_law_row", "_law_many", "_law_part", "_law_times", "_law_due_here"] "_law_often_holds" (defScope (topS 37)) fa cdv A outer s H E) (fun c d _ H' => E c d H') := takes_of rfl rfl rfl rfl
  exact (sb_cons (W := fun c d _ H' => E c d H') (ss_set (i := 5) nd rfl (by first | exact Or.inl rfl | exact Or.inr rfl) se_int)
      (sb_cons (W := fun c d _ H' => E c d H') (ss_for (vs := [6]) pz rfl (si_seq (se_var (pv 1))) (pg_name (i := 6) nd rfl (by first | exact Or.inl rfl | exact Or.inr rfl)) (ng_name (i := 6) (by simp)) (sss_one (ss_set (i := 5) nd rfl (by first | exact Or.inl rfl | exact Or.inr rfl) (se_bin o_mul (se_var (pv 5)) (se_call (ok_law_places T) tk (hr.mono (by decide)) hgd rfl (sa_cons (se_var (pv 6)) sa_nil) rfl (aCons_len aNil_len))))))
      (sb_cons (W := fun c d _ H' => E c d H') (ss_setX (i := 7) nd rfl (by first | exact Or.inl rfl | exact Or.inr rfl) (sx_callL (i := 0) (ok_law_far T) tk (hr.mono (by decide)) hgd rfl (pv 0) (sxa_cons (sx_of (W := fun c d _ H' => E c d H') (se_bin o_pow se_int se_int)) sxa_nil) (xaCons_len xaNil_len)))
      (sb_if (W := fun c d _ H' => E c d H') (st_cmp o_gt (se_var (pv 5)) se_int (nomark _)) (sb_ret (W := fun c d _ H' => E c d H') se_bl)
      (sb_cons (W := fun c d _ H' => E c d H') (ss_set (i := 8) nd rfl (by first | exact Or.inl rfl | exact Or.inr rfl) (se_call (ok_law_due T) tk (hr.mono (by decide)) hgd rfl (sa_cons (se_var (pv 2)) (sa_cons (se_var (pv 3)) (sa_cons (se_call (ok_law_net T) tk (hr.mono (by decide)) hgd rfl (sa_cons (se_var (pv 1)) (sa_cons (se_var (pv 4)) sa_nil)) rfl (aCons_len (aCons_len aNil_len))) (sa_cons (se_var (pv 7)) sa_nil)))) rfl (aCons_len (aCons_len (aCons_len (aCons_len aNil_len))))))
      (sb_ret (W := fun c d _ H' => E c d H') (se_call (ok_law_is T) tk (hr.mono (by decide)) hgd rfl (sa_cons (se_var (pv 1)) (sa_cons (se_var (pv 2)) (sa_cons (se_call (ok_left_often T) tk (hr.mono (by decide)) hgd rfl (sa_cons (se_var (pv 1)) (sa_cons (se_var (pv 3)) (sa_cons (se_var (pv 4)) (sa_cons (se_var (pv 7)) sa_nil)))) rfl (aCons_len (aCons_len (aCons_len (aCons_len aNil_len))))) (sa_cons (se_var (pv 8)) sa_nil)))) rfl (aCons_len (aCons_len (aCons_len (aCons_len aNil_len)))))))))))
theorem ok_law_often_holds (T : Txt K mg xa) : CalleeL P w K mg base "_law_often_holds" 4 s_law_often_holds 7 := by
  obtain ⟨fa, fd, F, hm, hb⟩ := T.f_law_often_holds
  exact ⟨fa, fd, _, fn_law_often_holds T F, hm, F.kp, hb⟩
theorem sc_law_right : FnScope ["_law_draws_here", "_law_train", "_law_wheels", "_law_stand", "_law_row", "_law_due_here", "_law_rows_here", "_law_one", "_law_handed", "_law_got", "_law_back", "_law_k", "_law_i", "_law_way", "_law_times"] ["_law_draws_here", "_law_train", "_law_wheels", "_law_stand"] (defScope (topS 38)) := ⟨rfl, rfl, rfl, by decide +kernel, rfl, by decide +kernel, by decide +kernel⟩
set_option linter.unusedVariables false in
theorem fn_law_right (T : Txt K mg xa) {fa : Addr} {fd : FuncData} (F : Fun K "_law_right" "_law_right" (topS 38) fa fd) : FnG P w K mg base 8 fa fd ["_law_draws_here", "_law_train", "_law_wheels", "_law_stand"] (CT.spL K 3 s_law_right_3) := by
  have nd : (["_law_draws_here", "_law_train", "_law_wheels", "_law_stand", "_law_row", "_law_due_here", "_law_rows_here", "_law_one", "_law_handed", "_law_got", "_law_back", "_law_k", "_law_i", "_law_way", "_law_times"] : List Str).Nodup := sc_law_right.nd
  refine def_fnL (k := 7) (N := ["_law_draws_here", "_law_train", "_law_wheels", "_law_stand", "_law_row", "_law_due_here", "_law_rows_here", "_law_one", "_law_handed", "_law_got", "_law_back", "_law_k", "_law_i", "_law_way", "_law_times"]) (ps := ["_law_draws_here", "_law_train", "_law_wheels", "_law_stand"]) (n := 3) (ex := exOf mg) F sc_law_right rfl fun cdv A outer s H E F0 H0 hr hgd => ?_
  have hu64 : (A.deeper (envOfC "_law_right" (defScope (topS 38)) s.heap.objs.size fa cdv)).units + 64 < cLine := hr.units
  have hu65 : (A.deeper (envOfC "_law_right" (defScope (topS 38)) s.heap.objs.size fa cdv)).units + 65 < cLine := by have := hr.un; omega
  have pz := L2.passes_of (X := (cxOf (L2.CX P w) P w K mg base ["_law_draws_here", "_law_train", "_law_wheels", "_law_stand", "_law_row", "_law_due_here", "_law_rows_here", "_law_one", "_law_handed", "_law_got", "_law_back", "_law_k", "_law_i", "_law_way", "_law_times"] "_law_right" (defScope (topS 38)) fa cdv A outer s H E)) rfl
  have tk : Takes (cxOf (L2.CX P w) P w K mg base ["_law_draws_here", "_law_train", "_law_wheels", "_law_stand", "_law_row", "_law_due_here", "_law_rows_here", "_law_one", "_law_handed", "_law_got", "_law_back", "_law_k", "_law_i", "_law_way", "_law_times"] "_law_right" (defScope (topS 38)) fa cdv A outer s H E) (fun c d _ H' => E c d H') := takes_of rfl rfl rfl rfl
  exact (sb_cons (W := fun c d _ H' => E c d H') (ss_setLcX (j := 4) rfl nd rfl rfl (sw_true rfl rfl rfl (by decide +kernel)) (six_rng1 rfl T.b_range (sxa_cons (sx_bin (W := WF) o_mod (sx_callL (i := 0) (ok_law_next T) tk (hr.mono (by decide)) hgd rfl (pv 0) sxa_nil xaNil_len) (sx_of (W := fun c d _ H' => E c d H') se_int)) sxa_nil)) (blkOk_by (own := [("_law_k", 11)]) (N := ["_law_draws_here", "_law_train", "_law_wheels", "_law_stand", "_law_row", "_law_due_here", "_law_rows_here", "_law_one", "_law_handed", "_law_got", "_law_back", "_law_k", "_law_i", "_law_way", "_law_times"]) (sc := defScope (topS 38)) (by decide +kernel)) (fun _ _ _ _ _ => (pg_name (i := 11) nd rfl (Or.inl rfl))) (fun _ _ _ _ _ => stxs_nil) (fun _ _ _ _ _ => (sx_callL (i := 0) (ok_law_deed T) takes0 (hr.mono (by decide)) hgd rfl (pv 0) (sxa_cons (sx_of (W := WF) (se_var (pv 1))) sxa_nil) (xaCons_len xaNil_len))))
      (sb_cons (W := fun c d _ H' => E c d H') (ss_set (i := 5) nd rfl (by first | exact Or.inl rfl | exact Or.inr rfl) (se_call (ok_law_due T) tk (hr.mono (by decide)) hgd rfl (sa_cons (se_var (pv 2)) (sa_cons (se_var (pv 3)) (sa_cons (se_call (ok_law_net T) tk (hr.mono (by decide)) hgd rfl (sa_cons (se_var (pv 1)) (sa_cons (se_var (pv 4)) sa_nil)) rfl (aCons_len (aCons_len aNil_len))) (sa_cons se_int sa_nil)))) rfl (aCons_len (aCons_len (aCons_len (aCons_len aNil_len))))))
      (sb_cons (W := fun c d _ H' => E c d H') (ss_setX (i := 6) nd rfl (by first | exact Or.inl rfl | exact Or.inr rfl) (sx_callL (i := 0) (ok_law_rows T) tk (hr.mono (by decide)) hgd rfl (pv 0) (sxa_cons (sx_of (W := fun c d _ H' => E c d H') (se_var (pv 1))) (sxa_cons (sx_of (W := fun c d _ H' => E c d H') (se_var (pv 4))) sxa_nil)) (xaCons_len (xaCons_len xaNil_len))))
      (sb_cons (W := fun c d _ H' => E c d H') (ss_for (vs := [7]) pz rfl (si_seq (se_var (pv 6))) (pg_name (i := 7) nd rfl (by first | exact Or.inl rfl | exact Or.inr rfl)) (ng_name (i := 7) (by simp)) (sss_cons (ss_set (i := 8) nd rfl (by first | exact Or.inl rfl | exact Or.inr rfl) (se_tup (sa_cons (se_own (so_list rfl T.b_list (sa_cons (se_var (pv 1)) sa_nil))) (sa_cons (se_own (so_list rfl T.b_list (sa_cons (se_var (pv 7)) sa_nil))) sa_nil))))
      (sss_cons (ss_set (i := 9) nd rfl (by first | exact Or.inl rfl | exact Or.inr rfl) (se_call (ok_left T) tk (hr.mono (by decide)) hgd rfl (sa_cons (se_ix (se_var (pv 8)) se_int) (sa_cons (se_var (pv 3)) (sa_cons (se_ix (se_var (pv 8)) se_int) sa_nil))) rfl (aCons_len (aCons_len (aCons_len aNil_len)))))
      (sss_one (ss_if (st_w (sw_or (st_not (st_of (se_call (ok_law_is T) tk (hr.mono (by decide)) hgd rfl (sa_cons (se_var (pv 1)) (sa_cons (se_var (pv 2)) (sa_cons (se_var (pv 9)) (sa_cons (se_var (pv 5)) sa_nil)))) rfl (aCons_len (aCons_len (aCons_len (aCons_len aNil_len))))))) (sw_or1 (st_cmp (o_ne hu64) (se_var (pv 8)) (se_tup (sa_cons (se_var (pv 1)) (sa_cons (se_var (pv 7)) sa_nil))) (nomark _))))) (sss_one (ss_ret se_bl)) sss_nil)))))
      (sb_cons (W := fun c d _ H' => E c d H') (ss_setLcXG (j := 10) rfl nd rfl rfl (sw_true rfl rfl rfl (by decide +kernel)) (six_seq (sx_ix (sx_of (W := fun c d _ H' => E c d H') (se_var (pv 6))) (sx_bin (W := WF) o_mod (sx_callL (i := 0) (ok_law_next T) tk (hr.mono (by decide)) hgd rfl (pv 0) sxa_nil xaNil_len) (sx_of (W := fun c d _ H' => E c d H') se_int)))) (blkOk_by (own := [("_law_i", 12), ("_law_way", 13), ("_law_times", 14)]) (N := ["_law_draws_here", "_law_train", "_law_wheels", "_law_stand", "_law_row", "_law_due_here", "_law_rows_here", "_law_one", "_law_handed", "_law_got", "_law_back", "_law_k", "_law_i", "_law_way", "_law_times"]) (sc := defScope (topS 38)) (by decide +kernel)) (ng_tup (ngs_cons (ng_name (i := 12) (by simp)) (ngs_cons (ng_name (i := 13) (by simp)) (ngs_cons (ng_name (i := 14) (by simp)) ngs_nil)))) tgo_three (fun _ _ _ _ _ => (pg_tup rfl (pgs_cons (pg_name (i := 12) nd rfl (Or.inl rfl)) (pgs_cons (pg_name (i := 13) nd rfl (Or.inl rfl)) (pgs_cons (pg_name (i := 14) nd rfl (Or.inl rfl)) pgs_nil))))) (fun _ _ _ _ _ => stxs_nil) (fun _ _ _ _ _ => (sx_of (W := WF) (se_tup (sa_cons (se_var (pv 12)) (sa_cons (se_bin o_sub se_int (se_var (pv 13))) (sa_cons (se_var (pv 14)) sa_nil)))))))
      (sb_cons (W := fun c d _ H' => E c d H') (ss_set (i := 9) nd rfl (by first | exact Or.inl rfl | exact Or.inr rfl) (se_call (ok_left T) tk (hr.mono (by decide)) hgd rfl (sa_cons (se_var (pv 1)) (sa_cons (se_var (pv 3)) (sa_cons (se_var (pv 4)) sa_nil))) rfl (aCons_len (aCons_len (aCons_len aNil_len)))))
      (sb_if (W := fun c d _ H' => E c d H') (st_not (st_of (se_call (ok_law_is T) tk (hr.mono (by decide)) hgd rfl (sa_cons (se_var (pv 1)) (sa_cons (se_var (pv 2)) (sa_cons (se_call (ok_left T) tk (hr.mono (by decide)) hgd rfl (sa_cons (se_var (pv 1)) (sa_cons (se_ix (se_var (pv 9)) se_int) (sa_cons (se_var (pv 10)) sa_nil))) rfl (aCons_len (aCons_len (aCons_len aNil_len)))) (sa_cons (se_tup (sa_cons (se_cut (se_var (pv 3)) sp_no (sp_so (se_callB c_len rfl T.b_len PySem.boot_len (sa_cons (se_var (pv 2)) sa_nil)))) (sa_cons (se_bin o_sub se_int (se_ix (se_var (pv 5)) se_int)) sa_nil))) sa_nil)))) rfl (aCons_len (aCons_len (aCons_len (aCons_len aNil_len))))))) (sb_ret (W := fun c d _ H' => E c d H') se_bl)
      (sb_retX (sx_callL (i := 0) (ok_law_often_holds T) tk (hr.mono (by decide)) hgd rfl (pv 0) (sxa_cons (sx_of (W := fun c d _ H' => E c d H') (se_var (pv 1))) (sxa_cons (sx_of (W := fun c d _ H' => E c d H') (se_var (pv 2))) (sxa_cons (sx_of (W := fun c d _ H' => E c d H') (se_var (pv 3))) (sxa_cons (sx_of (W := fun c d _ H' => E c d H') (se_var (pv 4))) sxa_nil)))) (xaCons_len (xaCons_len (xaCons_len (xaCons_len xaNil_len)))))))))))))
theorem ok_law_right (T : Txt K mg xa) : CalleeL P w K mg base "_law_right" 3 s_law_right_3 8 := by
  obtain ⟨fa, fd, F, hm, hb⟩ := T.f_law_right
  exact ⟨fa, fd, _, fn_law_right T F, hm, F.kp, hb⟩
theorem sc_law : FnScope ["_law_script", "_law_cell", "_law_draws_here", "_law_wheels", "_law_train", "_law_stand", "_law_i", "_law_k", "_law_part"] ["_law_script"] (defScope (topS 39)) := ⟨rfl, rfl, rfl, by decide +kernel, rfl, by decide +kernel, by decide +kernel⟩
set_option linter.unusedVariables false in
theorem fn_law (T : Txt K mg xa) {fa : Addr} {fd : FuncData} (F : Fun K "law" "law" (topS 39) fa fd) : FnG P w K mg base 9 fa fd ["_law_script"] (CT.spF K (exOf mg) 1 s_law_9) := by
  have nd : (["_law_script", "_law_cell", "_law_draws_here", "_law_wheels", "_law_train", "_law_stand", "_law_i", "_law_k", "_law_part"] : List Str).Nodup := sc_law.nd
  refine def_fn (k := 8) (N := ["_law_script", "_law_cell", "_law_draws_here", "_law_wheels", "_law_train", "_law_stand", "_law_i", "_law_k", "_law_part"]) (ps := ["_law_script"]) F sc_law fun cdv A outer s H E F0 hr hgd => ?_
  have hu64 : (A.deeper (envOfC "law" (defScope (topS 39)) s.heap.objs.size fa cdv)).units + 64 < cLine := hr.units
  have hu65 : (A.deeper (envOfC "law" (defScope (topS 39)) s.heap.objs.size fa cdv)).units + 65 < cLine := by have := hr.un; omega
  have pz := L2.passes_of (X := cxOf (L2.CX P w) P w K mg base ["_law_script", "_law_cell", "_law_draws_here", "_law_wheels", "_law_train", "_law_stand", "_law_i", "_law_k", "_law_part"] "law" (defScope (topS 39)) fa cdv A outer s H E) rfl
  have tk : Takes (cxOf (L2.CX P w) P w K mg base ["_law_script", "_law_cell", "_law_draws_here", "_law_wheels", "_law_train", "_law_stand", "_law_i", "_law_k", "_law_part"] "law" (defScope (topS 39)) fa cdv A outer s H E) (fun c d _ H' => E c d H') := takes_of rfl rfl rfl rfl
  exact (sss_cons (ss_for (vs := [1]) pz rfl (si_seq (se_bin o_add (se_cut (se_var (pv 0)) sp_no (sp_so se_int)) (se_own (so_lst (sa_cons se_int sa_nil))))) (pg_name (i := 1) nd rfl (by first | exact Or.inl rfl | exact Or.inr rfl)) (ng_name (i := 1) (by simp)) (sss_newL (i := 2) nd rfl (by first | exact Or.inl rfl | exact Or.inr rfl) (so_call (ok_law_draws T) tk (hr.mono (by decide)) hgd rfl (sa_cons (se_var (pv 1)) sa_nil) rfl (aCons_len aNil_len))
      (sss_cons (ss_setLcX (j := 3) rfl nd rfl rfl (sw_true rfl rfl rfl (by decide +kernel)) (six_rng1 rfl T.b_range (sxa_cons (sx_bin (W := WF) o_add (sx_of (W := fun c d _ H' => E c d H') se_int) (sx_bin (W := WF) o_mod (sx_callL (i := 2) (ok_law_next T) tk (hr.mono (by decide)) hgd rfl (pv 2) sxa_nil xaNil_len) (sx_of (W := fun c d _ H' => E c d H') se_int))) sxa_nil)) (blkOk_by (own := [("_law_k", 7)]) (N := ["_law_script", "_law_cell", "_law_draws_here", "_law_wheels", "_law_train", "_law_stand", "_law_i", "_law_k", "_law_part"]) (sc := defScope (topS 39)) (by decide +kernel)) (fun _ _ _ _ _ => (pg_name (i := 7) nd rfl (Or.inl rfl))) (fun _ _ _ _ _ => stxs_nil) (fun _ _ _ _ _ => (sx_callL (i := 2) (ok_law_wheel T) takes0 (hr.mono (by decide)) hgd rfl (pv 2) sxa_nil xaNil_len)))
      (sss_cons (ss_setX (i := 4) nd rfl (by first | exact Or.inl rfl | exact Or.inr rfl) (sx_bin (W := WF) o_add (sx_of (W := fun c d _ H' => E c d H') (se_var (pv 3))) (sx_callL (i := 2) (ok_law_behind T) tk (hr.mono (by decide)) hgd rfl (pv 2) (sxa_cons (sx_of (W := fun c d _ H' => E c d H') (se_bin o_sub se_int (se_callB c_len rfl T.b_len PySem.boot_len (sa_cons (se_var (pv 3)) sa_nil)))) sxa_nil) (xaCons_len xaNil_len))))
      (sss_cons (ss_setX (i := 5) nd rfl (by first | exact Or.inl rfl | exact Or.inr rfl) (sx_callTy (W := WF) c_tuple rfl T.b_tuple PyProof.Rows.boot_tuple (sxa_cons (sx_own (sox_lc rfl nd (six_of (W := fun c d _ H' => E c d H') (si_seq (se_var (pv 4)))) (blkOk_by (own := [("_law_part", 8)]) (N := ["_law_script", "_law_cell", "_law_draws_here", "_law_wheels", "_law_train", "_law_stand", "_law_i", "_law_k", "_law_part"]) (sc := defScope (topS 39)) (by decide +kernel)) (fun _ _ _ _ _ => (pg_name (i := 8) nd rfl (Or.inl rfl))) (fun _ _ _ _ _ => stxs_nil) (fun _ _ _ _ _ => (sx_callL (i := 2) (ok_law_far T) takes0 (hr.mono (by decide)) hgd rfl (pv 2) (sxa_cons (sx_of (W := WF) (se_call (ok_law_places T) takes0 (hr.mono (by decide)) hgd rfl (sa_cons (se_var (pv 8)) sa_nil) rfl (aCons_len aNil_len))) sxa_nil) (xaCons_len xaNil_len))))) sxa_nil)))
      (sss_cons (ss_ifX (sxt_not (sxt_val (sx_callL (i := 2) (ok_law_right T) tk (hr.mono (by decide)) hgd rfl (pv 2) (sxa_cons (sx_of (W := fun c d _ H' => E c d H') (se_var (pv 4))) (sxa_cons (sx_of (W := fun c d _ H' => E c d H') (se_var (pv 3))) (sxa_cons (sx_of (W := fun c d _ H' => E c d H') (se_var (pv 5))) sxa_nil))) (xaCons_len (xaCons_len (xaCons_len xaNil_len)))))) (sss_one (ss_ret se_bl)) sss_nil)
      (sss_cons (ss_setX (i := 6) nd rfl (by first | exact Or.inl rfl | exact Or.inr rfl) (sx_bin (W := WF) o_mod (sx_callL (i := 2) (ok_law_next T) tk (hr.mono (by decide)) hgd rfl (pv 2) sxa_nil xaNil_len) (sx_of (W := fun c d _ H' => E c d H') (se_callB c_len rfl T.b_len PySem.boot_len (sa_cons (se_var (pv 4)) sa_nil)))))
      (sss_one (ss_ifX (sxt_w (sxw_and (sxt_of (W := fun c d _ H' => E c d H') (st_cmp (o_eq hu64) (se_var (pv 4)) (se_var (pv 3)) (nomark _))) (sxw_and1 (sxt_not (sxt_val (sx_call (ok_law_round_holds T) tk (hr.mono (by decide)) hgd rfl (sxa_cons (sx_of (W := fun c d _ H' => E c d H') (se_var (pv 4))) (sxa_cons (sx_of (W := fun c d _ H' => E c d H') (se_var (pv 5))) (sxa_cons (sx_of (W := fun c d _ H' => E c d H') (se_var (pv 6))) (sxa_cons (sx_ix (sx_of (W := fun c d _ H' => E c d H') (se_own (so_lst (sa_cons se_int (sa_cons (se_bin o_sub se_int se_int) sa_nil))))) (sx_bin (W := WF) o_mod (sx_callL (i := 2) (ok_law_next T) tk (hr.mono (by decide)) hgd rfl (pv 2) sxa_nil xaNil_len) (sx_of (W := fun c d _ H' => E c d H') se_int))) sxa_nil)))) rfl (xaCons_len (xaCons_len (xaCons_len (xaCons_len xaNil_len)))))))))) (sss_one (ss_ret se_bl)) sss_nil)))))))))
      (sss_one (ss_ret se_bl)))
end
theorem all_mk {l : PySem.W.OpenLaw} {w : World} {K : PySem.W.Frag} {h : Heap} {mg : Str → Option Value} {fa : Addr} (X : K.In h) (G : h.Ns mainGlobals mg) (hfa : mg "law" = some (.ref fa))
    {f0 : Addr} {od0 an0 : Option Addr} {sl0 : Array (Option Value)} {oc0 kV0 dc0 pm0 cd0 ct0 : Value}
    (a0 : PySem.W.nsIn K mainGlobals "_law_draws" = some (some (.ref f0))) (l0 : K.lookup f0 = some ⟨oc0, od0, .func (PySem.W.fnOf "_law_draws" "_law_draws" (defArgs (topS 25)) (defBody (topS 25)) (defScope (topS 25)) .none kV0 dc0 pm0 an0 cd0 ct0), sl0⟩) (c0 : PySem.W.codeIn K cd0 "_law_draws" = true) (k0 : PySem.W.keepIn K (.ref f0) = true)
    {f1 : Addr} {od1 an1 : Option Addr} {sl1 : Array (Option Value)} {oc1 kV1 dc1 pm1 cd1 ct1 : Value}
    (a1 : PySem.W.nsIn K mainGlobals "_law_next" = some (some (.ref f1))) (l1 : K.lookup f1 = some ⟨oc1, od1, .func (PySem.W.fnOf "_law_next" "_law_next" (defArgs (topS 26)) (defBody (topS 26)) (defScope (topS 26)) .none kV1 dc1 pm1 an1 cd1 ct1), sl1⟩) (c1 : PySem.W.codeIn K cd1 "_law_next" = true) (k1 : PySem.W.keepIn K (.ref f1) = true)
    {f2 : Addr} {od2 an2 : Option Addr} {sl2 : Array (Option Value)} {oc2 kV2 dc2 pm2 cd2 ct2 : Value}
    (a2 : PySem.W.nsIn K mainGlobals "_law_far" = some (some (.ref f2))) (l2 : K.lookup f2 = some ⟨oc2, od2, .func (PySem.W.fnOf "_law_far" "_law_far" (defArgs (topS 27)) (defBody (topS 27)) (defScope (topS 27)) .none kV2 dc2 pm2 an2 cd2 ct2), sl2⟩) (c2 : PySem.W.codeIn K cd2 "_law_far" = true) (k2 : PySem.W.keepIn K (.ref f2) = true)
    {f3 : Addr} {od3 an3 : Option Addr} {sl3 : Array (Option Value)} {oc3 kV3 dc3 pm3 cd3 ct3 : Value}
    (a3 : PySem.W.nsIn K mainGlobals "_law_wheel" = some (some (.ref f3))) (l3 : K.lookup f3 = some ⟨oc3, od3, .func (PySem.W.fnOf "_law_wheel" "_law_wheel" (defArgs (topS 28)) (defBody (topS 28)) (defScope (topS 28)) .none kV3 dc3 pm3 an3 cd3 ct3), sl3⟩) (c3 : PySem.W.codeIn K cd3 "_law_wheel" = true) (k3 : PySem.W.keepIn K (.ref f3) = true)
    {f4 : Addr} {od4 an4 : Option Addr} {sl4 : Array (Option Value)} {oc4 kV4 dc4 pm4 cd4 ct4 : Value}
    (a4 : PySem.W.nsIn K mainGlobals "_law_behind" = some (some (.ref f4))) (l4 : K.lookup f4 = some ⟨oc4, od4, .func (PySem.W.fnOf "_law_behind" "_law_behind" (defArgs (topS 29)) (defBody (topS 29)) (defScope (topS 29)) .none kV4 dc4 pm4 an4 cd4 ct4), sl4⟩) (c4 : PySem.W.codeIn K cd4 "_law_behind" = true) (k4 : PySem.W.keepIn K (.ref f4) = true)
    {f5 : Addr} {od5 an5 : Option Addr} {sl5 : Array (Option Value)} {oc5 kV5 dc5 pm5 cd5 ct5 : Value}
    (a5 : PySem.W.nsIn K mainGlobals "_law_places" = some (some (.ref f5))) (l5 : K.lookup f5 = some ⟨oc5, od5, .func (PySem.W.fnOf "_law_places" "_law_places" (defArgs (topS 30)) (defBody (topS 30)) (defScope (topS 30)) .none kV5 dc5 pm5 an5 cd5 ct5), sl5⟩) (c5 : PySem.W.codeIn K cd5 "_law_places" = true) (k5 : PySem.W.keepIn K (.ref f5) = true)
    {f6 : Addr} {od6 an6 : Option Addr} {sl6 : Array (Option Value)} {oc6 kV6 dc6 pm6 cd6 ct6 : Value}
    (a6 : PySem.W.nsIn K mainGlobals "is_whole" = some (some (.ref f6))) (l6 : K.lookup f6 = some ⟨oc6, od6, .func (PySem.W.fnOf "is_whole" "is_whole" (defArgs (topS 7)) (defBody (topS 7)) (defScope (topS 7)) .none kV6 dc6 pm6 an6 cd6 ct6), sl6⟩) (c6 : PySem.W.codeIn K cd6 "is_whole" = true) (k6 : PySem.W.keepIn K (.ref f6) = true)
    {f7 : Addr} {od7 an7 : Option Addr} {sl7 : Array (Option Value)} {oc7 kV7 dc7 pm7 cd7 ct7 : Value}
    (a7 : PySem.W.nsIn K mainGlobals "is_marks" = some (some (.ref f7))) (l7 : K.lookup f7 = some ⟨oc7, od7, .func (PySem.W.fnOf "is_marks" "is_marks" (defArgs (topS 8)) (defBody (topS 8)) (defScope (topS 8)) .none kV7 dc7 pm7 an7 cd7 ct7), sl7⟩) (c7 : PySem.W.codeIn K cd7 "is_marks" = true) (k7 : PySem.W.keepIn K (.ref f7) = true)
    {f8 : Addr} {od8 an8 : Option Addr} {sl8 : Array (Option Value)} {oc8 kV8 dc8 pm8 cd8 ct8 : Value}
    (a8 : PySem.W.nsIn K mainGlobals "is_part" = some (some (.ref f8))) (l8 : K.lookup f8 = some ⟨oc8, od8, .func (PySem.W.fnOf "is_part" "is_part" (defArgs (topS 9)) (defBody (topS 9)) (defScope (topS 9)) .none kV8 dc8 pm8 an8 cd8 ct8), sl8⟩) (c8 : PySem.W.codeIn K cd8 "is_part" = true) (k8 : PySem.W.keepIn K (.ref f8) = true)
    {f9 : Addr} {od9 an9 : Option Addr} {sl9 : Array (Option Value)} {oc9 kV9 dc9 pm9 cd9 ct9 : Value}
    (a9 : PySem.W.nsIn K mainGlobals "check_train" = some (some (.ref f9))) (l9 : K.lookup f9 = some ⟨oc9, od9, .func (PySem.W.fnOf "check_train" "check_train" (defArgs (topS 10)) (defBody (topS 10)) (defScope (topS 10)) .none kV9 dc9 pm9 an9 cd9 ct9), sl9⟩) (c9 : PySem.W.codeIn K cd9 "check_train" = true) (k9 : PySem.W.keepIn K (.ref f9) = true)
    {f10 : Addr} {od10 an10 : Option Addr} {sl10 : Array (Option Value)} {oc10 kV10 dc10 pm10 cd10 ct10 : Value}
    (a10 : PySem.W.nsIn K mainGlobals "places" = some (some (.ref f10))) (l10 : K.lookup f10 = some ⟨oc10, od10, .func (PySem.W.fnOf "places" "places" (defArgs (topS 11)) (defBody (topS 11)) (defScope (topS 11)) .none kV10 dc10 pm10 an10 cd10 ct10), sl10⟩) (c10 : PySem.W.codeIn K cd10 "places" = true) (k10 : PySem.W.keepIn K (.ref f10) = true)
    {f11 : Addr} {od11 an11 : Option Addr} {sl11 : Array (Option Value)} {oc11 kV11 dc11 pm11 cd11 ct11 : Value}
    (a11 : PySem.W.nsIn K mainGlobals "is_stand" = some (some (.ref f11))) (l11 : K.lookup f11 = some ⟨oc11, od11, .func (PySem.W.fnOf "is_stand" "is_stand" (defArgs (topS 12)) (defBody (topS 12)) (defScope (topS 12)) .none kV11 dc11 pm11 an11 cd11 ct11), sl11⟩) (c11 : PySem.W.codeIn K cd11 "is_stand" = true) (k11 : PySem.W.keepIn K (.ref f11) = true)
    {f12 : Addr} {od12 an12 : Option Addr} {sl12 : Array (Option Value)} {oc12 kV12 dc12 pm12 cd12 ct12 : Value}
    (a12 : PySem.W.nsIn K mainGlobals "check_stand" = some (some (.ref f12))) (l12 : K.lookup f12 = some ⟨oc12, od12, .func (PySem.W.fnOf "check_stand" "check_stand" (defArgs (topS 13)) (defBody (topS 13)) (defScope (topS 13)) .none kV12 dc12 pm12 an12 cd12 ct12), sl12⟩) (c12 : PySem.W.codeIn K cd12 "check_stand" = true) (k12 : PySem.W.keepIn K (.ref f12) = true)
    {f13 : Addr} {od13 an13 : Option Addr} {sl13 : Array (Option Value)} {oc13 kV13 dc13 pm13 cd13 ct13 : Value}
    (a13 : PySem.W.nsIn K mainGlobals "is_deed" = some (some (.ref f13))) (l13 : K.lookup f13 = some ⟨oc13, od13, .func (PySem.W.fnOf "is_deed" "is_deed" (defArgs (topS 19)) (defBody (topS 19)) (defScope (topS 19)) .none kV13 dc13 pm13 an13 cd13 ct13), sl13⟩) (c13 : PySem.W.codeIn K cd13 "is_deed" = true) (k13 : PySem.W.keepIn K (.ref f13) = true)
    {f14 : Addr} {od14 an14 : Option Addr} {sl14 : Array (Option Value)} {oc14 kV14 dc14 pm14 cd14 ct14 : Value}
    (a14 : PySem.W.nsIn K mainGlobals "check_row" = some (some (.ref f14))) (l14 : K.lookup f14 = some ⟨oc14, od14, .func (PySem.W.fnOf "check_row" "check_row" (defArgs (topS 20)) (defBody (topS 20)) (defScope (topS 20)) .none kV14 dc14 pm14 an14 cd14 ct14), sl14⟩) (c14 : PySem.W.codeIn K cd14 "check_row" = true) (k14 : PySem.W.keepIn K (.ref f14) = true)
    {f15 : Addr} {od15 an15 : Option Addr} {sl15 : Array (Option Value)} {oc15 kV15 dc15 pm15 cd15 ct15 : Value}
    (a15 : PySem.W.nsIn K mainGlobals "marks_met" = some (some (.ref f15))) (l15 : K.lookup f15 = some ⟨oc15, od15, .func (PySem.W.fnOf "marks_met" "marks_met" (defArgs (topS 14)) (defBody (topS 14)) (defScope (topS 14)) .none kV15 dc15 pm15 an15 cd15 ct15), sl15⟩) (c15 : PySem.W.codeIn K cd15 "marks_met" = true) (k15 : PySem.W.keepIn K (.ref f15) = true)
    {f16 : Addr} {od16 an16 : Option Addr} {sl16 : Array (Option Value)} {oc16 kV16 dc16 pm16 cd16 ct16 : Value}
    (a16 : PySem.W.nsIn K mainGlobals "marks_left" = some (some (.ref f16))) (l16 : K.lookup f16 = some ⟨oc16, od16, .func (PySem.W.fnOf "marks_left" "marks_left" (defArgs (topS 15)) (defBody (topS 15)) (defScope (topS 15)) .none kV16 dc16 pm16 an16 cd16 ct16), sl16⟩) (c16 : PySem.W.codeIn K cd16 "marks_left" = true) (k16 : PySem.W.keepIn K (.ref f16) = true)
    {f17 : Addr} {od17 an17 : Option Addr} {sl17 : Array (Option Value)} {oc17 kV17 dc17 pm17 cd17 ct17 : Value}
    (a17 : PySem.W.nsIn K mainGlobals "part_pushed" = some (some (.ref f17))) (l17 : K.lookup f17 = some ⟨oc17, od17, .func (PySem.W.fnOf "part_pushed" "part_pushed" (defArgs (topS 16)) (defBody (topS 16)) (defScope (topS 16)) .none kV17 dc17 pm17 an17 cd17 ct17), sl17⟩) (c17 : PySem.W.codeIn K cd17 "part_pushed" = true) (k17 : PySem.W.keepIn K (.ref f17) = true)
    {f18 : Addr} {od18 an18 : Option Addr} {sl18 : Array (Option Value)} {oc18 kV18 dc18 pm18 cd18 ct18 : Value}
    (a18 : PySem.W.nsIn K mainGlobals "pushed_often" = some (some (.ref f18))) (l18 : K.lookup f18 = some ⟨oc18, od18, .func (PySem.W.fnOf "pushed_often" "pushed_often" (defArgs (topS 17)) (defBody (topS 17)) (defScope (topS 17)) .none kV18 dc18 pm18 an18 cd18 ct18), sl18⟩) (c18 : PySem.W.codeIn K cd18 "pushed_often" = true) (k18 : PySem.W.keepIn K (.ref f18) = true)
    {f19 : Addr} {od19 an19 : Option Addr} {sl19 : Array (Option Value)} {oc19 kV19 dc19 pm19 cd19 ct19 : Value}
    (a19 : PySem.W.nsIn K mainGlobals "walked" = some (some (.ref f19))) (l19 : K.lookup f19 = some ⟨oc19, od19, .func (PySem.W.fnOf "walked" "walked" (defArgs (topS 21)) (defBody (topS 21)) (defScope (topS 21)) .none kV19 dc19 pm19 an19 cd19 ct19), sl19⟩) (c19 : PySem.W.codeIn K cd19 "walked" = true) (k19 : PySem.W.keepIn K (.ref f19) = true)
    {f20 : Addr} {od20 an20 : Option Addr} {sl20 : Array (Option Value)} {oc20 kV20 dc20 pm20 cd20 ct20 : Value}
    (a20 : PySem.W.nsIn K mainGlobals "left" = some (some (.ref f20))) (l20 : K.lookup f20 = some ⟨oc20, od20, .func (PySem.W.fnOf "left" "left" (defArgs (topS 22)) (defBody (topS 22)) (defScope (topS 22)) .none kV20 dc20 pm20 an20 cd20 ct20), sl20⟩) (c20 : PySem.W.codeIn K cd20 "left" = true) (k20 : PySem.W.keepIn K (.ref f20) = true)
    {f21 : Addr} {od21 an21 : Option Addr} {sl21 : Array (Option Value)} {oc21 kV21 dc21 pm21 cd21 ct21 : Value}
    (a21 : PySem.W.nsIn K mainGlobals "_law_round_holds" = some (some (.ref f21))) (l21 : K.lookup f21 = some ⟨oc21, od21, .func (PySem.W.fnOf "_law_round_holds" "_law_round_holds" (defArgs (topS 36)) (defBody (topS 36)) (defScope (topS 36)) .none kV21 dc21 pm21 an21 cd21 ct21), sl21⟩) (c21 : PySem.W.codeIn K cd21 "_law_round_holds" = true) (k21 : PySem.W.keepIn K (.ref f21) = true)
    {f22 : Addr} {od22 an22 : Option Addr} {sl22 : Array (Option Value)} {oc22 kV22 dc22 pm22 cd22 ct22 : Value}
    (a22 : PySem.W.nsIn K mainGlobals "_law_deed" = some (some (.ref f22))) (l22 : K.lookup f22 = some ⟨oc22, od22, .func (PySem.W.fnOf "_law_deed" "_law_deed" (defArgs (topS 31)) (defBody (topS 31)) (defScope (topS 31)) .none kV22 dc22 pm22 an22 cd22 ct22), sl22⟩) (c22 : PySem.W.codeIn K cd22 "_law_deed" = true) (k22 : PySem.W.keepIn K (.ref f22) = true)
    {f23 : Addr} {od23 an23 : Option Addr} {sl23 : Array (Option Value)} {oc23 kV23 dc23 pm23 cd23 ct23 : Value}
    (a23 : PySem.W.nsIn K mainGlobals "_law_net" = some (some (.ref f23))) (l23 : K.lookup f23 = some ⟨oc23, od23, .func (PySem.W.fnOf "_law_net" "_law_net" (defArgs (topS 32)) (defBody (topS 32)) (defScope (topS 32)) .none kV23 dc23 pm23 an23 cd23 ct23), sl23⟩) (c23 : PySem.W.codeIn K cd23 "_law_net" = true) (k23 : PySem.W.keepIn K (.ref f23) = true)
    {f24 : Addr} {od24 an24 : Option Addr} {sl24 : Array (Option Value)} {oc24 kV24 dc24 pm24 cd24 ct24 : Value}
    (a24 : PySem.W.nsIn K mainGlobals "_law_due" = some (some (.ref f24))) (l24 : K.lookup f24 = some ⟨oc24, od24, .func (PySem.W.fnOf "_law_due" "_law_due" (defArgs (topS 33)) (defBody (topS 33)) (defScope (topS 33)) .none kV24 dc24 pm24 an24 cd24 ct24), sl24⟩) (c24 : PySem.W.codeIn K cd24 "_law_due" = true) (k24 : PySem.W.keepIn K (.ref f24) = true)
    {f25 : Addr} {od25 an25 : Option Addr} {sl25 : Array (Option Value)} {oc25 kV25 dc25 pm25 cd25 ct25 : Value}
    (a25 : PySem.W.nsIn K mainGlobals "_law_rows" = some (some (.ref f25))) (l25 : K.lookup f25 = some ⟨oc25, od25, .func (PySem.W.fnOf "_law_rows" "_law_rows" (defArgs (topS 34)) (defBody (topS 34)) (defScope (topS 34)) .none kV25 dc25 pm25 an25 cd25 ct25), sl25⟩) (c25 : PySem.W.codeIn K cd25 "_law_rows" = true) (k25 : PySem.W.keepIn K (.ref f25) = true)
    {f26 : Addr} {od26 an26 : Option Addr} {sl26 : Array (Option Value)} {oc26 kV26 dc26 pm26 cd26 ct26 : Value}
    (a26 : PySem.W.nsIn K mainGlobals "_law_is" = some (some (.ref f26))) (l26 : K.lookup f26 = some ⟨oc26, od26, .func (PySem.W.fnOf "_law_is" "_law_is" (defArgs (topS 35)) (defBody (topS 35)) (defScope (topS 35)) .none kV26 dc26 pm26 an26 cd26 ct26), sl26⟩) (c26 : PySem.W.codeIn K cd26 "_law_is" = true) (k26 : PySem.W.keepIn K (.ref f26) = true)
    {f27 : Addr} {od27 an27 : Option Addr} {sl27 : Array (Option Value)} {oc27 kV27 dc27 pm27 cd27 ct27 : Value}
    (a27 : PySem.W.nsIn K mainGlobals "left_often" = some (some (.ref f27))) (l27 : K.lookup f27 = some ⟨oc27, od27, .func (PySem.W.fnOf "left_often" "left_often" (defArgs (topS 23)) (defBody (topS 23)) (defScope (topS 23)) .none kV27 dc27 pm27 an27 cd27 ct27), sl27⟩) (c27 : PySem.W.codeIn K cd27 "left_often" = true) (k27 : PySem.W.keepIn K (.ref f27) = true)
    {f28 : Addr} {od28 an28 : Option Addr} {sl28 : Array (Option Value)} {oc28 kV28 dc28 pm28 cd28 ct28 : Value}
    (a28 : PySem.W.nsIn K mainGlobals "_law_often_holds" = some (some (.ref f28))) (l28 : K.lookup f28 = some ⟨oc28, od28, .func (PySem.W.fnOf "_law_often_holds" "_law_often_holds" (defArgs (topS 37)) (defBody (topS 37)) (defScope (topS 37)) .none kV28 dc28 pm28 an28 cd28 ct28), sl28⟩) (c28 : PySem.W.codeIn K cd28 "_law_often_holds" = true) (k28 : PySem.W.keepIn K (.ref f28) = true)
    {f29 : Addr} {od29 an29 : Option Addr} {sl29 : Array (Option Value)} {oc29 kV29 dc29 pm29 cd29 ct29 : Value}
    (a29 : PySem.W.nsIn K mainGlobals "_law_right" = some (some (.ref f29))) (l29 : K.lookup f29 = some ⟨oc29, od29, .func (PySem.W.fnOf "_law_right" "_law_right" (defArgs (topS 38)) (defBody (topS 38)) (defScope (topS 38)) .none kV29 dc29 pm29 an29 cd29 ct29), sl29⟩) (c29 : PySem.W.codeIn K cd29 "_law_right" = true) (k29 : PySem.W.keepIn K (.ref f29) = true)
    {f30 : Addr} {od30 an30 : Option Addr} {sl30 : Array (Option Value)} {oc30 kV30 dc30 pm30 cd30 ct30 : Value}
    (a30 : PySem.W.nsIn K mainGlobals "law" = some (some (.ref f30))) (l30 : K.lookup f30 = some ⟨oc30, od30, .func (PySem.W.fnOf "law" "law" (defArgs (topS 39)) (defBody (topS 39)) (defScope (topS 39)) .none kV30 dc30 pm30 an30 cd30 ct30), sl30⟩) (c30 : PySem.W.codeIn K cd30 "law" = true) (k30 : PySem.W.keepIn K (.ref f30) = true)
    (z_abs : PySem.W.nsIn K mainGlobals "abs" = some none)
    (z_all : PySem.W.nsIn K mainGlobals "all" = some none)
    (z_bool : PySem.W.nsIn K mainGlobals "bool" = some none)
    (z_enumerate : PySem.W.nsIn K mainGlobals "enumerate" = some none)
    (z_int : PySem.W.nsIn K mainGlobals "int" = some none)
    (z_isinstance : PySem.W.nsIn K mainGlobals "isinstance" = some none)
    (z_len : PySem.W.nsIn K mainGlobals "len" = some none)
    (z_list : PySem.W.nsIn K mainGlobals "list" = some none)
    (z_max : PySem.W.nsIn K mainGlobals "max" = some none)
    (z_min : PySem.W.nsIn K mainGlobals "min" = some none)
    (z_range : PySem.W.nsIn K mainGlobals "range" = some none)
    (z_set : PySem.W.nsIn K mainGlobals "set" = some none)
    (z_sorted : PySem.W.nsIn K mainGlobals "sorted" = some none)
    (z_str : PySem.W.nsIn K mainGlobals "str" = some none)
    (z_tuple : PySem.W.nsIn K mainGlobals "tuple" = some none)
    (z_zip : PySem.W.nsIn K mainGlobals "zip" = some none)
    {e_NoCount : Addr} (ea_NoCount : PySem.W.nsIn K mainGlobals "NoCount" = some (some (.ref e_NoCount))) (eb_NoCount : PySem.W.excIn K e_NoCount [.type "ValueError", .type "Exception", .type "BaseException", .type "object"] "ValueError.__new__" = true) (ek_NoCount : PySem.W.keepIn K (.ref e_NoCount) = true) (es_NoCount : PySem.W.subIn K (.ref e_NoCount) (.type "BaseException") = some true) (et_NoCount : PySem.W.typeIn K (.ref e_NoCount) = some (.type "type"))
    {e_NoRow : Addr} (ea_NoRow : PySem.W.nsIn K mainGlobals "NoRow" = some (some (.ref e_NoRow))) (eb_NoRow : PySem.W.excIn K e_NoRow [.type "ValueError", .type "Exception", .type "BaseException", .type "object"] "ValueError.__new__" = true) (ek_NoRow : PySem.W.keepIn K (.ref e_NoRow) = true) (es_NoRow : PySem.W.subIn K (.ref e_NoRow) (.type "BaseException") = some true) (et_NoRow : PySem.W.typeIn K (.ref e_NoRow) = some (.type "type"))
    {e_NoStand : Addr} (ea_NoStand : PySem.W.nsIn K mainGlobals "NoStand" = some (some (.ref e_NoStand))) (eb_NoStand : PySem.W.excIn K e_NoStand [.type "ValueError", .type "Exception", .type "BaseException", .type "object"] "ValueError.__new__" = true) (ek_NoStand : PySem.W.keepIn K (.ref e_NoStand) = true) (es_NoStand : PySem.W.subIn K (.ref e_NoStand) (.type "BaseException") = some true) (et_NoStand : PySem.W.typeIn K (.ref e_NoStand) = some (.type "type"))
    {e_NoTrain : Addr} (ea_NoTrain : PySem.W.nsIn K mainGlobals "NoTrain" = some (some (.ref e_NoTrain))) (eb_NoTrain : PySem.W.excIn K e_NoTrain [.type "ValueError", .type "Exception", .type "BaseException", .type "object"] "ValueError.__new__" = true) (ek_NoTrain : PySem.W.keepIn K (.ref e_NoTrain) = true) (es_NoTrain : PySem.W.subIn K (.ref e_NoTrain) (.type "BaseException") = some true) (et_NoTrain : PySem.W.typeIn K (.ref e_NoTrain) = some (.type "type"))
    : ∃ fd : FuncData, (∀ (s : Shared) (v : Value), BindsTo s fd ⟨[v], []⟩ [("_law_script", v)]) ∧ ∀ base : Heap, K.In base → base.Ns mainGlobals mg → FnG l.prog w K mg base 9 fa fd ["_law_script"] (spLaw K) := by
  have e := hfa.symm.trans (PySem.W.mg_of X G a30)
  cases e
  have T : Txt K mg (fun n => [].getD n 0) := ⟨⟨_, _, fun_mk (st := topS 25) l0 c0 k0, PySem.W.mg_of X G a0, (fun_mk (st := topS 25) l0 c0 k0).binds (ps := ["_law_cell"]) fun _ _ _ _ _ _ us hl => match us, hl with | [_], _ => rfl⟩,
    ⟨_, _, fun_mk (st := topS 26) l1 c1 k1, PySem.W.mg_of X G a1, (fun_mk (st := topS 26) l1 c1 k1).binds (ps := ["_law_draws_here"]) fun _ _ _ _ _ _ us hl => match us, hl with | [_], _ => rfl⟩,
    ⟨_, _, fun_mk (st := topS 27) l2 c2 k2, PySem.W.mg_of X G a2, (fun_mk (st := topS 27) l2 c2 k2).binds (ps := ["_law_draws_here", "_law_most"]) fun _ _ _ _ _ _ us hl => match us, hl with | [_, _], _ => rfl⟩,
    ⟨_, _, fun_mk (st := topS 28) l3 c3 k3, PySem.W.mg_of X G a3, (fun_mk (st := topS 28) l3 c3 k3).binds (ps := ["_law_draws_here"]) fun _ _ _ _ _ _ us hl => match us, hl with | [_], _ => rfl⟩,
    ⟨_, _, fun_mk (st := topS 29) l4 c4 k4, PySem.W.mg_of X G a4, (fun_mk (st := topS 29) l4 c4 k4).binds (ps := ["_law_draws_here", "_law_many"]) fun _ _ _ _ _ _ us hl => match us, hl with | [_, _], _ => rfl⟩,
    ⟨_, _, fun_mk (st := topS 30) l5 c5 k5, PySem.W.mg_of X G a5, (fun_mk (st := topS 30) l5 c5 k5).binds (ps := ["_law_part"]) fun _ _ _ _ _ _ us hl => match us, hl with | [_], _ => rfl⟩,
    ⟨_, _, fun_mk (st := topS 7) l6 c6 k6, PySem.W.mg_of X G a6, (fun_mk (st := topS 7) l6 c6 k6).binds (ps := ["thing"]) fun _ _ _ _ _ _ us hl => match us, hl with | [_], _ => rfl⟩,
    ⟨_, _, fun_mk (st := topS 8) l7 c7 k7, PySem.W.mg_of X G a7, (fun_mk (st := topS 8) l7 c7 k7).binds (ps := ["teeth", "thing"]) fun _ _ _ _ _ _ us hl => match us, hl with | [_, _], _ => rfl⟩,
    ⟨_, _, fun_mk (st := topS 9) l8 c8 k8, PySem.W.mg_of X G a8, (fun_mk (st := topS 9) l8 c8 k8).binds (ps := ["thing"]) fun _ _ _ _ _ _ us hl => match us, hl with | [_], _ => rfl⟩,
    ⟨_, _, fun_mk (st := topS 10) l9 c9 k9, PySem.W.mg_of X G a9, (fun_mk (st := topS 10) l9 c9 k9).binds (ps := ["train"]) fun _ _ _ _ _ _ us hl => match us, hl with | [_], _ => rfl⟩,
    ⟨_, _, fun_mk (st := topS 11) l10 c10 k10, PySem.W.mg_of X G a10, (fun_mk (st := topS 11) l10 c10 k10).binds (ps := ["part"]) fun _ _ _ _ _ _ us hl => match us, hl with | [_], _ => rfl⟩,
    ⟨_, _, fun_mk (st := topS 12) l11 c11 k11, PySem.W.mg_of X G a11, (fun_mk (st := topS 12) l11 c11 k11).binds (ps := ["train", "thing"]) fun _ _ _ _ _ _ us hl => match us, hl with | [_, _], _ => rfl⟩,
    ⟨_, _, fun_mk (st := topS 13) l12 c12 k12, PySem.W.mg_of X G a12, (fun_mk (st := topS 13) l12 c12 k12).binds (ps := ["train", "stand"]) fun _ _ _ _ _ _ us hl => match us, hl with | [_, _], _ => rfl⟩,
    ⟨_, _, fun_mk (st := topS 19) l13 c13 k13, PySem.W.mg_of X G a13, (fun_mk (st := topS 19) l13 c13 k13).binds (ps := ["train", "thing"]) fun _ _ _ _ _ _ us hl => match us, hl with | [_, _], _ => rfl⟩,
    ⟨_, _, fun_mk (st := topS 20) l14 c14 k14, PySem.W.mg_of X G a14, (fun_mk (st := topS 20) l14 c14 k14).binds (ps := ["train", "row"]) fun _ _ _ _ _ _ us hl => match us, hl with | [_, _], _ => rfl⟩,
    ⟨_, _, fun_mk (st := topS 14) l15 c15 k15, PySem.W.mg_of X G a15, (fun_mk (st := topS 14) l15 c15 k15).binds (ps := ["part", "place", "many"]) fun _ _ _ _ _ _ us hl => match us, hl with | [_, _, _], _ => rfl⟩,
    ⟨_, _, fun_mk (st := topS 15) l16 c16 k16, PySem.W.mg_of X G a16, (fun_mk (st := topS 15) l16 c16 k16).binds (ps := ["part", "place", "many"]) fun _ _ _ _ _ _ us hl => match us, hl with | [_, _, _], _ => rfl⟩,
    ⟨_, _, fun_mk (st := topS 16) l17 c17 k17, PySem.W.mg_of X G a17, (fun_mk (st := topS 16) l17 c17 k17).binds (ps := ["part", "place", "way", "many"]) fun _ _ _ _ _ _ us hl => match us, hl with | [_, _, _, _], _ => rfl⟩,
    ⟨_, _, fun_mk (st := topS 17) l18 c18 k18, PySem.W.mg_of X G a18, (fun_mk (st := topS 17) l18 c18 k18).binds (ps := ["train", "stand", "i", "way", "many"]) fun _ _ _ _ _ _ us hl => match us, hl with | [_, _, _, _, _], _ => rfl⟩,
    ⟨_, _, fun_mk (st := topS 21) l19 c19 k19, PySem.W.mg_of X G a19, (fun_mk (st := topS 21) l19 c19 k19).binds (ps := ["train", "stand", "row"]) fun _ _ _ _ _ _ us hl => match us, hl with | [_, _, _], _ => rfl⟩,
    ⟨_, _, fun_mk (st := topS 22) l20 c20 k20, PySem.W.mg_of X G a20, (fun_mk (st := topS 22) l20 c20 k20).binds (ps := ["train", "stand", "row"]) fun _ _ _ _ _ _ us hl => match us, hl with | [_, _, _], _ => rfl⟩,
    ⟨_, _, fun_mk (st := topS 36) l21 c21 k21, PySem.W.mg_of X G a21, (fun_mk (st := topS 36) l21 c21 k21).binds (ps := ["_law_train", "_law_stand", "_law_i", "_law_way"]) fun _ _ _ _ _ _ us hl => match us, hl with | [_, _, _, _], _ => rfl⟩,
    ⟨_, _, fun_mk (st := topS 31) l22 c22 k22, PySem.W.mg_of X G a22, (fun_mk (st := topS 31) l22 c22 k22).binds (ps := ["_law_draws_here", "_law_train"]) fun _ _ _ _ _ _ us hl => match us, hl with | [_, _], _ => rfl⟩,
    ⟨_, _, fun_mk (st := topS 32) l23 c23 k23, PySem.W.mg_of X G a23, (fun_mk (st := topS 32) l23 c23 k23).binds (ps := ["_law_train", "_law_row"]) fun _ _ _ _ _ _ us hl => match us, hl with | [_, _], _ => rfl⟩,
    ⟨_, _, fun_mk (st := topS 33) l24 c24 k24, PySem.W.mg_of X G a24, (fun_mk (st := topS 33) l24 c24 k24).binds (ps := ["_law_wheels", "_law_stand", "_law_net_here", "_law_many"]) fun _ _ _ _ _ _ us hl => match us, hl with | [_, _, _, _], _ => rfl⟩,
    ⟨_, _, fun_mk (st := topS 34) l25 c25 k25, PySem.W.mg_of X G a25, (fun_mk (st := topS 34) l25 c25 k25).binds (ps := ["_law_draws_here", "_law_train", "_law_row"]) fun _ _ _ _ _ _ us hl => match us, hl with | [_, _, _], _ => rfl⟩,
    ⟨_, _, fun_mk (st := topS 35) l26 c26 k26, PySem.W.mg_of X G a26, (fun_mk (st := topS 35) l26 c26 k26).binds (ps := ["_law_train", "_law_wheels", "_law_got", "_law_due_here"]) fun _ _ _ _ _ _ us hl => match us, hl with | [_, _, _, _], _ => rfl⟩,
    ⟨_, _, fun_mk (st := topS 23) l27 c27 k27, PySem.W.mg_of X G a27, (fun_mk (st := topS 23) l27 c27 k27).binds (ps := ["train", "stand", "row", "times"]) fun _ _ _ _ _ _ us hl => match us, hl with | [_, _, _, _], _ => rfl⟩,
    ⟨_, _, fun_mk (st := topS 37) l28 c28 k28, PySem.W.mg_of X G a28, (fun_mk (st := topS 37) l28 c28 k28).binds (ps := ["_law_draws_here", "_law_train", "_law_wheels", "_law_stand", "_law_row"]) fun _ _ _ _ _ _ us hl => match us, hl with | [_, _, _, _, _], _ => rfl⟩,
    ⟨_, _, fun_mk (st := topS 38) l29 c29 k29, PySem.W.mg_of X G a29, (fun_mk (st := topS 38) l29 c29 k29).binds (ps := ["_law_draws_here", "_law_train", "_law_wheels", "_law_stand"]) fun _ _ _ _ _ _ us hl => match us, hl with | [_, _, _, _], _ => rfl⟩,
    PySem.W.mg_none_of X G z_abs,
    PySem.W.mg_none_of X G z_all,
    PySem.W.mg_none_of X G z_bool,
    PySem.W.mg_none_of X G z_enumerate,
    PySem.W.mg_none_of X G z_int,
    PySem.W.mg_none_of X G z_isinstance,
    PySem.W.mg_none_of X G z_len,
    PySem.W.mg_none_of X G z_list,
    PySem.W.mg_none_of X G z_max,
    PySem.W.mg_none_of X G z_min,
    PySem.W.mg_none_of X G z_range,
    PySem.W.mg_none_of X G z_set,
    PySem.W.mg_none_of X G z_sorted,
    PySem.W.mg_none_of X G z_str,
    PySem.W.mg_none_of X G z_tuple,
    PySem.W.mg_none_of X G z_zip,
    ⟨_, PySem.W.mg_of X G ea_NoCount, eb_NoCount, ek_NoCount, es_NoCount, et_NoCount⟩,
    ⟨_, PySem.W.mg_of X G ea_NoRow, eb_NoRow, ek_NoRow, es_NoRow, et_NoRow⟩,
    ⟨_, PySem.W.mg_of X G ea_NoStand, eb_NoStand, ek_NoStand, es_NoStand, et_NoStand⟩,
    ⟨_, PySem.W.mg_of X G ea_NoTrain, eb_NoTrain, ek_NoTrain, es_NoTrain, et_NoTrain⟩⟩
  exact ⟨PySem.W.fnOf "law" "law" (defArgs (topS 39)) (defBody (topS 39)) (defScope (topS 39)) .none kV30 dc30 pm30 an30 cd30 ct30, fun s v => .of_eq rfl, fun base _ _ => (fn_law T (fun_mk (st := topS 39) l30 c30 k30)).imp (law_sp law_true)⟩
end CK
open PySem PySem.W PyProof.Rows
set_option maxRecDepth 100000 in
set_option maxHeartbeats 0 in
theorem PySem.Challenge.cw_clicktrain_k09_whole_wheels_go_by_net_pu_holds : PySem.Challenge.rw_clicktrain_k09_whole_wheels_go_by_net_pu.Holds := by
  w_on; o_law; k_head; (case hw => w_witness2)
  k_fill
  refine CT.walk_ofG (l := PySem.Challenge.rw_clicktrain_k09_whole_wheels_go_by_net_pu) (n := 63) (k := 9) (x := "_law_script") (sp := fun w => CT.spLaw _) rfl (by decide) rfl ⟨rfl, by decide, by decide⟩ (fun w h Y => PySem.W.kIn_of Y) ?F (fun _ _ a ns hl _ hS => ⟨a, ns, rfl, hS, hl, fun _ => rfl⟩) (fun _ _ _ _ _ h => CT.cx_no h)
  case F =>
    intro w mg fa h KX G hmg
    refine' CK.all_mk KX G hmg ?a0 ?l0 ?c0 ?k0 ?a1 ?l1 ?c1 ?k1 ?a2 ?l2 ?c2 ?k2 ?a3 ?l3 ?c3 ?k3 ?a4 ?l4 ?c4 ?k4 ?a5 ?l5 ?c5 ?k5 ?a6 ?l6 ?c6 ?k6 ?a7 ?l7 ?c7 ?k7 ?a8 ?l8 ?c8 ?k8 ?a9 ?l9 ?c9 ?k9 ?a10 ?l10 ?c10 ?k10 ?a11 ?l11 ?c11 ?k11 ?a12 ?l12 ?c12 ?k12 ?a13 ?l13 ?c13 ?k13 ?a14 ?l14 ?c14 ?k14 ?a15 ?l15 ?c15 ?k15 ?a16 ?l16 ?c16 ?k16 ?a17 ?l17 ?c17 ?k17 ?a18 ?l18 ?c18 ?k18 ?a19 ?l19 ?c19 ?k19 ?a20 ?l20 ?c20 ?k20 ?a21 ?l21 ?c21 ?k21 ?a22 ?l22 ?c22 ?k22 ?a23 ?l23 ?c23 ?k23 ?a24 ?l24 ?c24 ?k24 ?a25 ?l25 ?c25 ?k25 ?a26 ?l26 ?c26 ?k26 ?a27 ?l27 ?c27 ?k27 ?a28 ?l28 ?c28 ?k28 ?a29 ?l29 ?c29 ?k29 ?a30 ?l30 ?c30 ?k30 ?z_abs ?z_all ?z_bool ?z_enumerate ?z_int ?z_isinstance ?z_len ?z_list ?z_max ?z_min ?z_range ?z_set ?z_sorted ?z_str ?z_tuple ?z_zip ?ea_NoCount ?eb_NoCount ?ek_NoCount ?es_NoCount ?et_NoCount ?ea_NoRow ?eb_NoRow ?ek_NoRow ?es_NoRow ?et_NoRow ?ea_NoStand ?eb_NoStand ?ek_NoStand ?es_NoStand ?et_NoStand ?ea_NoTrain ?eb_NoTrain ?ek_NoTrain ?es_NoTrain ?et_NoTrain
    (case a0 => k_is); (case l0 => k_is); (case c0 => k_is); (case k0 => k_is); (case a1 => k_is); (case l1 => k_is); (case c1 => k_is); (case k1 => k_is); (case a2 => k_is); (case l2 => k_is); (case c2 => k_is); (case k2 => k_is); (case a3 => k_is); (case l3 => k_is); (case c3 => k_is); (case k3 => k_is); (case a4 => k_is); (case l4 => k_is); (case c4 => k_is); (case k4 => k_is); (case a5 => k_is); (case l5 => k_is); (case c5 => k_is); (case k5 => k_is); (case a6 => k_is); (case l6 => k_is); (case c6 => k_is); (case k6 => k_is); (case a7 => k_is); (case l7 => k_is); (case c7 => k_is); (case k7 => k_is); (case a8 => k_is); (case l8 => k_is); (case c8 => k_is); (case k8 => k_is); (case a9 => k_is); (case l9 => k_is); (case c9 => k_is); (case k9 => k_is); (case a10 => k_is); (case l10 => k_is); (case c10 => k_is); (case k10 => k_is); (case a11 => k_is); (case l11 => k_is); (case c11 => k_is); (case k11 => k_is); (case a12 => k_is); (case l12 => k_is); (case c12 => k_is); (case k12 => k_is); (case a13 => k_is); (case l13 => k_is); (case c13 => k_is); (case k13 => k_is); (case a14 => k_is); (case l14 => k_is); (case c14 => k_is); (case k14 => k_is); (case a15 => k_is); (case l15 => k_is); (case c15 => k_is); (case k15 => k_is); (case a16 => k_is); (case l16 => k_is); (case c16 => k_is); (case k16 => k_is); (case a17 => k_is); (case l17 => k_is); (case c17 => k_is); (case k17 => k_is); (case a18 => k_is); (case l18 => k_is); (case c18 => k_is); (case k18 => k_is); (case a19 => k_is); (case l19 => k_is); (case c19 => k_is); (case k19 => k_is); (case a20 => k_is); (case l20 => k_is); (case c20 => k_is); (case k20 => k_is); (case a21 => k_is); (case l21 => k_is); (case c21 => k_is); (case k21 => k_is); (case a22 => k_is); (case l22 => k_is); (case c22 => k_is); (case k22 => k_is); (case a23 => k_is); (case l23 => k_is); (case c23 => k_is); (case k23 => k_is); (case a24 => k_is); (case l24 => k_is); (case c24 => k_is); (case k24 => k_is); (case a25 => k_is); (case l25 => k_is); (case c25 => k_is); (case k25 => k_is); (case a26 => k_is); (case l26 => k_is); (case c26 => k_is); (case k26 => k_is); (case a27 => k_is); (case l27 => k_is); (case c27 => k_is); (case k27 => k_is); (case a28 => k_is); (case l28 => k_is); (case c28 => k_is); (case k28 => k_is); (case a29 => k_is); (case l29 => k_is); (case c29 => k_is); (case k29 => k_is); (case a30 => k_is); (case l30 => k_is); (case c30 => k_is); (case k30 => k_is); (case z_abs => k_is); (case z_all => k_is); (case z_bool => k_is); (case z_enumerate => k_is); (case z_int => k_is); (case z_isinstance => k_is); (case z_len => k_is); (case z_list => k_is); (case z_max => k_is); (case z_min => k_is); (case z_range => k_is); (case z_set => k_is); (case z_sorted => k_is); (case z_str => k_is); (case z_tuple => k_is); (case z_zip => k_is); (case ea_NoCount => k_is); (case eb_NoCount => k_exc); (case ek_NoCount => k_is); (case es_NoCount => k_is); (case et_NoCount => k_is); (case ea_NoRow => k_is); (case eb_NoRow => k_exc); (case ek_NoRow => k_is); (case es_NoRow => k_is); (case et_NoRow => k_is); (case ea_NoStand => k_is); (case eb_NoStand => k_exc); (case ek_NoStand => k_is); (case es_NoStand => k_is); (case et_NoStand => k_is); (case ea_NoTrain => k_is); (case eb_NoTrain => k_exc); (case ek_NoTrain => k_is); (case es_NoTrain => k_is); (case et_NoTrain => k_is)
