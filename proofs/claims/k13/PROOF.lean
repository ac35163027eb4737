import PyProof.Rows.All
import Wide.All
import OpenK.AllK
import Wide.FinOn
import HandS.ForMost
import HandS.Exc
import HandS.TryOnly
import HandS.ExcOwn
import HandS.WordsExc
import HandS.TupAny
import HandS.Deep
import HandS.IsInst
import HandS.Wide
import PyProof.ReprRoads
import HandS.Walk
import HandS.Rev
import KE.GoesMore
import HandS.Style
import HandS.Conv
import HandS.TupLen
import HandS.Dict
import HandS.DictTup
import HandS.ExcIs
import PySem.Challenge.RW_clicktrain_k13_whole_rows_come_round
set_option Elab.async false
set_option linter.all false
set_option maxRecDepth 100000
set_option maxHeartbeats 4000000

/-! CtA: plain data D, and how it lies in the heap -/
namespace CT
open PySem PySem.Spec PyProof.Rows L2

theorem nr {α : Sort _} {a b : α} (h : a = b) : a = b := h
/-- neither a list nor a dict: it never changes -/
def NoL : HO → Prop
  | .lst _ => False
  | .dT _ => False
  | _ => True
/-- what a run may come to -/
inductive R (α : Type) where
  | ok (a : α) | exc (c : String) | stuck
def R.bind {α β : Type} (r : R α) (k : α → R β) : R β := match r with
  | .ok a => k a
  | .exc c => .exc c
  | .stuck => .stuck
def R.map {α β : Type} (g : α → β) (r : R α) : R β := r.bind fun a => .ok (g a)
@[simp] theorem R.bind_ok {α β : Type} (a : α) (k : α → R β) : (R.ok a).bind k = k a := nr rfl
@[simp] theorem R.bind_exc {α β : Type} (c : String) (k : α → R β) : (R.exc c).bind k = .exc c := nr rfl
@[simp] theorem R.bind_stuck {α β : Type} (k : α → R β) : R.stuck.bind k = .stuck := nr rfl
@[simp] theorem R.map_ok {α β : Type} (g : α → β) (a : α) : R.map g (R.ok a) = .ok (g a) := nr rfl

/-- a dict: handed in at that place, or one's own; locked -/
structure DT where
  o : Option Nat
  l : Bool
/-- plain data; a list's mark: its own holder may still change it -/
inductive D where
  | non | bl (b : Bool) | int (i : Int) | str (x : Str)
  | tup (xs : List D) | lst (t : Bool) (xs : List D) | fr (xs : List D)
  | unk | ex (c : String) | dct (q : DT) (ks : List (List Int)) (vs : List D)
instance : Inhabited D := ⟨.non⟩
mutual
def hasT : D → Bool
  | .tup xs => hasTL xs
  | .lst t xs => t || hasTL xs
  | .fr xs => hasTL xs
  | .non => false
  | .bl _ => false
  | .int _ => false
  | .str _ => false
  | .unk => false
  | .ex _ => false
  | .dct _ _ _ => true
def hasTL : List D → Bool
  | [] => false
  | x :: xs => hasT x || hasTL xs
end
mutual
def still : D → D
  | .tup xs => .tup (stillL xs)
  | .lst _ xs => .lst false (stillL xs)
  | .fr xs => .fr (stillL xs)
  | .non => .non
  | .bl b => .bl b
  | .int i => .int i
  | .str x => .str x
  | .unk => .unk
  | .ex c => .ex c
  | .dct _ _ _ => .unk
def stillL : List D → List D
  | [] => []
  | x :: xs => still x :: stillL xs
end
mutual
def isFlat : D → Bool
  | .tup xs => isFlatL xs
  | .lst _ _ => false
  | .fr _ => false
  | .non => true
  | .bl _ => true
  | .int _ => true
  | .str _ => true
  | .unk => false
  | .ex _ => true
  | .dct _ _ _ => false
def isFlatL : List D → Bool
  | [] => true
  | x :: xs => isFlat x && isFlatL xs
end
/-- no data: too deep to be looked at -/
def farPy : PyData := (List.replicate 70 ()).foldr (fun _ d => .list [d]) .none
mutual
def py : D → PyData
  | .tup xs => .tuple (pyL xs)
  | .lst _ xs => .list (pyL xs)
  | .fr xs => .list (pyL xs)
  | .non => .none
  | .bl b => .bool b
  | .int i => .int i
  | .str x => .str x
  | .unk => farPy
  | .ex _ => farPy
  | .dct _ _ _ => farPy
def pyL : List D → List PyData
  | [] => []
  | x :: xs => py x :: pyL xs
end
mutual
theorem hasT_still : ∀ d, hasT (still d) = false
  | .tup xs => by simp only [still, hasT]; exact hasTL_still xs
  | .lst _ xs => by simp only [still, hasT, Bool.false_or]; exact hasTL_still xs
  | .fr xs => by simp only [still, hasT]; exact hasTL_still xs
  | .non => rfl
  | .bl _ => rfl
  | .int _ => rfl
  | .str _ => rfl
  | .unk => rfl
  | .ex _ => rfl
  | .dct _ _ _ => rfl
theorem hasTL_still : ∀ ds, hasTL (stillL ds) = false
  | [] => rfl
  | x :: xs => by simp only [stillL, hasTL, hasT_still x, hasTL_still xs, Bool.or_self]
end
mutual
theorem still_of : ∀ d, hasT d = false → still d = d
  | .tup xs, h => by simp only [hasT] at h; simp only [still, stillL_of xs h]
  | .fr xs, h => by simp only [hasT] at h; simp only [still, stillL_of xs h]
  | .lst t xs, h => by
    simp only [hasT, Bool.or_eq_false_iff] at h
    simp only [still, stillL_of xs h.2, h.1]
  | .non, _ => rfl
  | .bl _, _ => rfl
  | .int _, _ => rfl
  | .str _, _ => rfl
  | .unk, _ => rfl
  | .ex _, _ => rfl
  | .dct _ _ _, h => by simp [hasT] at h
theorem stillL_of : ∀ ds, hasTL ds = false → stillL ds = ds
  | [], _ => rfl
  | x :: xs, h => by
    simp only [hasTL, Bool.or_eq_false_iff] at h
    simp only [stillL, still_of x h.1, stillL_of xs h.2]
end
mutual
theorem flat_noT : ∀ d, isFlat d = true → hasT d = false
  | .tup xs, h => by simp only [isFlat] at h; simp only [hasT]; exact flatL_noT xs h
  | .lst _ _, h => by simp [isFlat] at h
  | .fr _, h => by simp [isFlat] at h
  | .non, _ => rfl
  | .bl _, _ => rfl
  | .int _, _ => rfl
  | .str _, _ => rfl
  | .unk, h => by simp [isFlat] at h
  | .ex _, _ => rfl
  | .dct _ _ _, h => by simp [isFlat] at h
theorem flatL_noT : ∀ ds, isFlatL ds = true → hasTL ds = false
  | [], _ => rfl
  | x :: xs, h => by
    simp only [isFlatL, Bool.and_eq_true] at h
    simp only [hasTL, flat_noT x h.1, flatL_noT xs h.2, Bool.or_self]
end
theorem hasTL_append : ∀ xs ys : List D, hasTL (xs ++ ys) = (hasTL xs || hasTL ys)
  | [], ys => by simp [hasTL]
  | x :: xs, ys => by simp [hasTL, hasTL_append xs ys, Bool.or_assoc]
theorem hasTL_get : ∀ {xs : List D} {i : Nat} {d : D}, hasTL xs = false → xs[i]? = some d → hasT d = false
  | [], _, _, _, e => by simp at e
  | x :: xs, 0, d, h, e => by
    simp only [hasTL, Bool.or_eq_false_iff] at h
    simp at e; subst e; exact h.1
  | x :: xs, i + 1, d, h, e => by
    simp only [hasTL, Bool.or_eq_false_iff] at h
    exact hasTL_get (i := i) h.2 (by simpa using e)
theorem hasTL_set {d : D} (hd : hasT d = false) : ∀ {xs : List D} (i : Nat), hasTL xs = false → hasTL (xs.set i d) = false
  | [], _, _ => rfl
  | x :: xs, 0, h => by
    simp only [hasTL, Bool.or_eq_false_iff] at h
    simp only [List.set, hasTL, hd, h.2, Bool.or_self]
  | x :: xs, i + 1, h => by
    simp only [hasTL, Bool.or_eq_false_iff] at h
    simp only [List.set, hasTL, h.1, hasTL_set hd i h.2, Bool.or_self]
mutual
theorem py_still : ∀ d, py (still d) = py d
  | .tup xs => by simp only [still, py, pyL_still xs]
  | .lst _ xs => by simp only [still, py, pyL_still xs]
  | .fr xs => by simp only [still, py, pyL_still xs]
  | .non => rfl
  | .bl _ => rfl
  | .int _ => rfl
  | .str _ => rfl
  | .unk => rfl
  | .ex _ => rfl
  | .dct _ _ _ => rfl
theorem pyL_still : ∀ ds, pyL (stillL ds) = pyL ds
  | [] => rfl
  | x :: xs => by simp only [stillL, pyL, py_still x, pyL_still xs]
end
theorem stillL_length : ∀ ds, (stillL ds).length = ds.length
  | [] => rfl
  | x :: xs => by simp only [stillL, List.length_cons, stillL_length xs]

/-- the abstract heap grows; F: what stands still in it for good -/
structure Grow (F H F' H' : Hp) : Prop where
  same : Same H H'
  sub : Same F F'
  subH : Same F' H'
  new : ∀ a o, F' a = some o → F a = some o ∨ H a = none
theorem Grow.refl {F H : Hp} (s : Same F H) : Grow F H F H := ⟨Same.refl _, Same.refl _, s, fun _ _ e => .inl e⟩
theorem Grow.trans {F H F1 H1 F2 H2 : Hp} (g : Grow F H F1 H1) (k : Grow F1 H1 F2 H2) : Grow F H F2 H2 :=
  ⟨g.same.trans k.same, g.sub.trans k.sub, k.subH, fun a o e => by
    rcases k.new a o e with z | z
    · exact g.new a o z
    · exact .inr (g.same.free z)⟩
theorem same_upd {H : Hp} {p : Addr} {o : HO} (h : H p = none) : Same H (upd H p o) := fun b x e => by
  rw [upd_ne (ne_of_none e h)]
  exact e
/-- a new object that stands still -/
theorem Grow.still {F H : Hp} {p : Addr} {o : HO} (s : Same F H) (h : H p = none) : Grow F H (upd F p o) (upd H p o) :=
  ⟨same_upd h, same_upd (s.free h), fun b x e => by
    by_cases hb : b = p
    · subst hb; rw [upd_same] at e ⊢; exact e
    · rw [upd_ne hb] at e ⊢; exact s _ _ e, fun b x e => by
    by_cases hb : b = p
    · subst hb; exact .inr h
    · rw [upd_ne hb] at e; exact .inl e⟩
/-- a new object that may change -/
theorem Grow.loose {F H : Hp} {p : Addr} {o : HO} (s : Same F H) (h : H p = none) : Grow F H F (upd H p o) :=
  ⟨same_upd h, Same.refl _, s.trans (same_upd h), fun b x e => .inl e⟩

theorem sameTup {K : PySem.W.Frag} {H H' : Hp} {a : Addr} {xs : List V} (e : Same H H') (h : SqT K H a xs) : SqT K H' a xs := by
  rcases h with (h | ⟨o, h⟩) | h
  · exact .inl (.inl (e _ _ h))
  · exact .inl (.inr ⟨o, e _ _ h⟩)
  · exact .inr h

/-- an exception of the class cls, caught and kept -/
def KxO (cls : Value) (a : Addr) : HO := .ext fun h => ∃ (oe : Obj) (vs : Array Value), h.get? a = some oe ∧ Zc cls none oe ∧ oe.data = .fields vs
/-- the class of that name -/
def exK (K : PySem.W.Frag) (c : String) : Value := match PySem.W.nsIn K mainGlobals (Str.ofString c) with
  | some (some v) => v
  | _ => .none
mutual
inductive Rp (K : PySem.W.Frag) (F H0 H : Hp) : D → V → Prop
  | non : Rp K F H0 H .non .non
  | bl (b : Bool) : Rp K F H0 H (.bl b) (.bl b)
  | int (i : Int) : Rp K F H0 H (.int i) (.int i)
  | str (x : Str) : Rp K F H0 H (.str x) (.str x)
  | tup {a : Addr} {xs : List V} {ds : List D} : H a = some (.tup xs) → RpL K F H0 H ds xs → Rp K F H0 H (.tup ds) (.ref a)
  | fr {a : Addr} {xs : List V} {ds : List D} : SqL K F a xs → RpL K F H0 H ds xs → Rp K F H0 H (.fr ds) (.ref a)
  | lst {a : Addr} {xs : List V} {ds : List D} : F a = some (.lst xs) → RpL K F H0 H ds xs → Rp K F H0 H (.lst false ds) (.ref a)
  | tmF {a : Addr} {xs : List V} {ds : List D} : F a = some (.lst xs) → RpL K F H0 H ds xs → Rp K F H0 H (.lst true ds) (.ref a)
  | tmN {a : Addr} {xs : List V} {ds : List D} : H0 a = none → H a = some (.lst xs) → RpL K F H0 H ds xs → Rp K F H0 H (.lst true ds) (.ref a)
  | unk {a : Addr} : Rp K F H0 H .unk (.ref a)
  | ex {a : Addr} {c : String} : H a = some (KxO (exK K c) a) → Rp K F H0 H (.ex c) (.ref a)
  | dct {a : Addr} {q : DT} {ks : List (List Int)} {vs : List D} : Rp K F H0 H (.dct q ks vs) (.ref a)
inductive RpL (K : PySem.W.Frag) (F H0 H : Hp) : List D → List V → Prop
  | nil : RpL K F H0 H [] []
  | cons {d : D} {ds : List D} {v : V} {vs : List V} : Rp K F H0 H d v → RpL K F H0 H ds vs → RpL K F H0 H (d :: ds) (v :: vs)
end
section
variable {K : PySem.W.Frag} {F F' H0 H H' : Hp}
mutual
theorem Rp.mono (s : Same F F') (t : Same H H') : ∀ (d : D) (v : V), Rp K F H0 H d v → Rp K F' H0 H' d v
  | .non, _, h => by cases h; exact .non
  | .bl _, _, h => by cases h; exact .bl _
  | .int _, _, h => by cases h; exact .int _
  | .str _, _, h => by cases h; exact .str _
  | .unk, _, h => by cases h; exact .unk
  | .ex _, _, h => by
    cases h with
    | ex a => exact .ex (t _ _ a)
  | .dct _ _ _, _, h => by cases h; exact .dct
  | .tup ds, _, h => by
    cases h with
    | tup a b => exact .tup (t _ _ a) (RpL.mono s t ds _ b)
  | .fr ds, _, h => by
    cases h with
    | fr a b => exact .fr (s.seq a) (RpL.mono s t ds _ b)
  | .lst true ds, _, h => by
    cases h with
    | tmF a b => exact .tmF (s _ _ a) (RpL.mono s t ds _ b)
    | tmN a b c => exact .tmN a (t _ _ b) (RpL.mono s t ds _ c)
  | .lst false ds, _, h => by
    cases h with
    | lst a b => exact .lst (s _ _ a) (RpL.mono s t ds _ b)
theorem RpL.mono (s : Same F F') (t : Same H H') : ∀ (ds : List D) (vs : List V), RpL K F H0 H ds vs → RpL K F' H0 H' ds vs
  | [], _, h => by cases h; exact .nil
  | d :: ds, _, h => by
    cases h with
    | cons a b => exact .cons (Rp.mono s t d _ a) (RpL.mono s t ds _ b)
end
theorem Rp.grow {F1 H1 : Hp} {d : D} {v : V} (g : Grow F H F1 H1) (r : Rp K F H0 H d v) : Rp K F1 H0 H1 d v := r.mono g.sub g.same
theorem RpL.grow {F1 H1 : Hp} {ds : List D} {vs : List V} (g : Grow F H F1 H1) (r : RpL K F H0 H ds vs) : RpL K F1 H0 H1 ds vs := r.mono g.sub g.same
theorem RpL.length : ∀ {ds : List D} {vs : List V}, RpL K F H0 H ds vs → ds.length = vs.length
  | _, _, .nil => rfl
  | _, _, .cons _ t => by simp [RpL.length t]
theorem RpL.get : ∀ {ds : List D} {vs : List V} {i : Nat} {d : D}, RpL K F H0 H ds vs → ds[i]? = some d → ∃ v, vs[i]? = some v ∧ Rp K F H0 H d v
  | _, _, _, _, .nil, e => by simp at e
  | _, _, 0, _, .cons r _, e => by simp at e; subst e; exact ⟨_, rfl, r⟩
  | _, _, i + 1, d, .cons _ t, e => by
    obtain ⟨u, h1, h2⟩ := RpL.get (i := i) (d := d) t (by simpa using e)
    exact ⟨u, by simpa using h1, h2⟩
theorem RpL.app : ∀ {ds es : List D} {vs us : List V}, RpL K F H0 H ds vs → RpL K F H0 H es us → RpL K F H0 H (ds ++ es) (vs ++ us)
  | _, _, _, _, .nil, s => s
  | _, _, _, _, .cons r t, s => .cons r (RpL.app t s)
theorem RpL.take : ∀ {ds : List D} {vs : List V} (n : Nat), RpL K F H0 H ds vs → RpL K F H0 H (ds.take n) (vs.take n)
  | _, _, 0, _ => .nil
  | _, _, _ + 1, .nil => .nil
  | _, _, n + 1, .cons r t => .cons r (RpL.take n t)
theorem RpL.drop : ∀ {ds : List D} {vs : List V} (n : Nat), RpL K F H0 H ds vs → RpL K F H0 H (ds.drop n) (vs.drop n)
  | _, _, 0, r => r
  | _, _, _ + 1, .nil => .nil
  | _, _, n + 1, .cons _ t => RpL.drop n t
theorem RpL.set {d : D} {v : V} (r : Rp K F H0 H d v) : ∀ {ds : List D} {vs : List V} (i : Nat), RpL K F H0 H ds vs → RpL K F H0 H (ds.set i d) (vs.set i v)
  | _, _, _, .nil => .nil
  | _, _, 0, .cons _ t => .cons r t
  | _, _, i + 1, .cons q t => .cons q (RpL.set r i t)
theorem RpL.rev : ∀ {ds : List D} {vs : List V}, RpL K F H0 H ds vs → RpL K F H0 H ds.reverse vs.reverse
  | _, _, .nil => .nil
  | _, _, .cons r t => by rw [List.reverse_cons, List.reverse_cons]; exact (RpL.rev t).app (.cons r .nil)

/- without tmp nodes: only tuples and still lists matter -/
mutual
theorem Rp.keep (t : ∀ b o, H b = some o → NoL o → H' b = some o) : ∀ (d : D) (v : V), hasT d = false → Rp K F H0 H d v → Rp K F H0 H' d v
  | .non, _, _, h => by cases h; exact .non
  | .bl _, _, _, h => by cases h; exact .bl _
  | .int _, _, _, h => by cases h; exact .int _
  | .str _, _, _, h => by cases h; exact .str _
  | .unk, _, _, h => by cases h; exact .unk
  | .ex _, _, _, h => by
    cases h with
    | ex a => exact .ex (t _ _ a trivial)
  | .dct _ _ _, _, _, h => by cases h; exact .dct
  | .tup ds, _, n, h => by
    cases h with
    | tup a b => exact .tup (t _ _ a trivial) (RpL.keep t ds _ n b)
  | .lst true ds, _, n, _ => by simp [hasT] at n
  | .lst false ds, _, n, h => by
    simp only [hasT, Bool.false_or] at n
    cases h with
    | lst a b => exact .lst a (RpL.keep t ds _ n b)
  | .fr ds, _, n, h => by
    simp only [hasT] at n
    cases h with
    | fr a b => exact .fr a (RpL.keep t ds _ n b)
theorem RpL.keep (t : ∀ b o, H b = some o → NoL o → H' b = some o) : ∀ (ds : List D) (vs : List V), hasTL ds = false → RpL K F H0 H ds vs → RpL K F H0 H' ds vs
  | [], _, _, h => by cases h; exact .nil
  | d :: ds, _, n, h => by
    simp only [hasTL, Bool.or_eq_false_iff] at n
    cases h with
    | cons a b => exact .cons (Rp.keep t d _ n.1 a) (RpL.keep t ds _ n.2 b)
end
/- .. whatever the entry heap -/
mutual
theorem Rp.base {H1 : Hp} : ∀ (d : D) (v : V), hasT d = false → Rp K F H0 H d v → Rp K F H1 H d v
  | .non, _, _, h => by cases h; exact .non
  | .bl _, _, _, h => by cases h; exact .bl _
  | .int _, _, _, h => by cases h; exact .int _
  | .str _, _, _, h => by cases h; exact .str _
  | .unk, _, _, h => by cases h; exact .unk
  | .ex _, _, _, h => by
    cases h with
    | ex a => exact .ex a
  | .dct _ _ _, _, _, h => by cases h; exact .dct
  | .tup ds, _, n, h => by
    cases h with
    | tup a b => exact .tup a (RpL.base ds _ n b)
  | .lst true ds, _, n, _ => by simp [hasT] at n
  | .lst false ds, _, n, h => by
    simp only [hasT, Bool.false_or] at n
    cases h with
    | lst a b => exact .lst a (RpL.base ds _ n b)
  | .fr ds, _, n, h => by
    simp only [hasT] at n
    cases h with
    | fr a b => exact .fr a (RpL.base ds _ n b)
theorem RpL.base {H1 : Hp} : ∀ (ds : List D) (vs : List V), hasTL ds = false → RpL K F H0 H ds vs → RpL K F H1 H ds vs
  | [], _, _, h => by cases h; exact .nil
  | d :: ds, _, n, h => by
    simp only [hasTL, Bool.or_eq_false_iff] at n
    cases h with
    | cons a b => exact .cons (Rp.base d _ n.1 a) (RpL.base ds _ n.2 b)
end
/-- what one sees: what stands still, and one's own -/
def vis (F H0 H : Hp) : Hp := fun a => if (H0 a).isNone then H a else F a
theorem vis_old {a : Addr} {o : HO} (h : H0 a = some o) : vis F H0 H a = F a := by unfold vis; rw [h]; rfl
theorem vis_new {a : Addr} (h : H0 a = none) : vis F H0 H a = H a := by unfold vis; rw [h]; rfl
theorem vis_sub (s : Same F H) : Same F (vis F H0 H) := fun a o e => by
  cases h : H0 a with
  | none => rw [vis_new h]; exact s _ _ e
  | some z => rw [vis_old h]; exact e
theorem vis_subH (s : Same F H) : Same (vis F H0 H) H := fun a o e => by
  cases h : H0 a with
  | none => rw [vis_new h] at e; exact e
  | some z => rw [vis_old h] at e; exact s _ _ e
mutual
theorem Rp.vis (s : Same F H) {H1 : Hp} : ∀ (d : D) (v : V), Rp K F H0 H d v → Rp K (vis F H0 H) H1 H (CT.still d) v
  | .non, _, h => by cases h; exact .non
  | .bl _, _, h => by cases h; exact .bl _
  | .int _, _, h => by cases h; exact .int _
  | .str _, _, h => by cases h; exact .str _
  | .unk, _, h => by cases h; exact .unk
  | .ex _, _, h => by
    cases h with
    | ex a => exact .ex a
  | .dct _ _ _, _, h => by cases h; exact .unk
  | .tup ds, _, h => by
    cases h with
    | tup a b => exact .tup a (RpL.vis s ds _ b)
  | .lst true ds, _, h => by
    cases h with
    | tmF a b => exact .lst (vis_sub s _ _ a) (RpL.vis s ds _ b)
    | tmN a b c => exact .lst (by rw [vis_new a]; exact b) (RpL.vis s ds _ c)
  | .lst false ds, _, h => by
    cases h with
    | lst a b => exact .lst (vis_sub s _ _ a) (RpL.vis s ds _ b)
  | .fr ds, _, h => by
    cases h with
    | fr a b => exact .fr ((vis_sub s).seq a) (RpL.vis s ds _ b)
theorem RpL.vis (s : Same F H) {H1 : Hp} : ∀ (ds : List D) (vs : List V), RpL K F H0 H ds vs → RpL K (vis F H0 H) H1 H (stillL ds) vs
  | [], _, h => by cases h; exact .nil
  | d :: ds, _, h => by
    cases h with
    | cons a b => exact .cons (Rp.vis s d _ a) (RpL.vis s ds _ b)
end
/- without lists: only tuples matter -/
mutual
theorem Rp.flat {F1 H1 H' : Hp} (t : ∀ a xs, H a = some (.tup xs) → H' a = some (.tup xs)) (tx : ∀ a cls, H a = some (KxO cls a) → H' a = some (KxO cls a)) : ∀ (d : D) (v : V), isFlat d = true → Rp K F H0 H d v → Rp K F1 H1 H' d v
  | .non, _, _, h => by cases h; exact .non
  | .bl _, _, _, h => by cases h; exact .bl _
  | .int _, _, _, h => by cases h; exact .int _
  | .str _, _, _, h => by cases h; exact .str _
  | .unk, _, n, _ => by simp [isFlat] at n
  | .ex _, _, _, h => by
    cases h with
    | ex a => exact .ex (tx _ _ a)
  | .dct _ _ _, _, n, _ => by simp [isFlat] at n
  | .tup ds, _, n, h => by
    cases h with
    | tup a b => exact .tup (t _ _ a) (RpL.flat t tx ds _ n b)
  | .lst _ ds, _, n, _ => by simp [isFlat] at n
  | .fr ds, _, n, _ => by simp [isFlat] at n
theorem RpL.flat {F1 H1 H' : Hp} (t : ∀ a xs, H a = some (.tup xs) → H' a = some (.tup xs)) (tx : ∀ a cls, H a = some (KxO cls a) → H' a = some (KxO cls a)) : ∀ (ds : List D) (vs : List V), isFlatL ds = true → RpL K F H0 H ds vs → RpL K F1 H1 H' ds vs
  | [], _, _, h => by cases h; exact .nil
  | d :: ds, _, n, h => by
    simp only [isFlatL, Bool.and_eq_true] at n
    cases h with
    | cons a b => exact .cons (Rp.flat t tx d _ n.1 a) (RpL.flat t tx ds _ n.2 b)
end
mutual
/-- data that can be looked at -/
def okP : D → Bool
  | .tup xs => okPL xs
  | .lst _ xs => okPL xs
  | .fr xs => okPL xs
  | .non => true
  | .bl _ => true
  | .int _ => true
  | .str _ => true
  | .unk => false
  | .ex _ => false
  | .dct _ _ _ => false
def okPL : List D → Bool
  | [] => true
  | x :: xs => okP x && okPL xs
end
theorem far_depth : ¬ PyData.depth farPy ≤ 69 := by decide +kernel
mutual
theorem okP_of : ∀ d, PyData.depth (py d) ≤ 69 → okP d = true
  | .tup xs, h => by simp only [py, PyData.depth] at h; exact okPL_of xs (by omega)
  | .lst _ xs, h => by simp only [py, PyData.depth] at h; exact okPL_of xs (by omega)
  | .fr xs, h => by simp only [py, PyData.depth] at h; exact okPL_of xs (by omega)
  | .non, _ => rfl
  | .bl _, _ => rfl
  | .int _, _ => rfl
  | .str _, _ => rfl
  | .unk, h => absurd h far_depth
  | .ex _, h => absurd h far_depth
  | .dct _ _ _, h => absurd h far_depth
theorem okPL_of : ∀ ds, PyData.depthAll (pyL ds) ≤ 69 → okPL ds = true
  | [], _ => rfl
  | x :: xs, h => by
    simp only [pyL, PyData.depthAll] at h
    simp only [okPL, Bool.and_eq_true]
    exact ⟨okP_of x (by omega), okPL_of xs (by omega)⟩
end
theorem okP_sh {d : D} (h : SeqAt.shaped (py d) = true) : okP d = true := okP_of d (Nat.le_trans (SeqAt.depth_of_shaped h) (by decide))
theorem okPL_sh {ds : List D} (h : SeqAt.shaped (.list (pyL ds)) = true) : okPL ds = true := okP_sh (d := .fr ds) h
/- as HandS's own data -/
mutual
theorem Rp.dp (s : Same F H) : ∀ (d : D) (v : V), okP d = true → Rp K F H0 H d v → Dp K H v (py d)
  | .non, _, n, h => by cases h; exact .non
  | .bl _, _, n, h => by cases h; exact .bl _
  | .int _, _, n, h => by cases h; exact .int _
  | .str _, _, n, h => by cases h; exact .str _
  | .unk, _, n, _ => by simp [okP] at n
  | .ex _, _, n, _ => by simp [okP] at n
  | .dct _ _ _, _, n, _ => by simp [okP] at n
  | .tup ds, _, n, h => by
    cases h with
    | tup a b => exact .tup (.inl (.inl a)) (RpL.dp s ds _ (by simpa only [okP] using n) b)
  | .lst true ds, _, n, h => by
    cases h with
    | tmF a b => exact .lst (.inl (.inl (s _ _ a))) (RpL.dp s ds _ (by simpa only [okP] using n) b)
    | tmN a b c => exact .lst (.inl (.inl b)) (RpL.dp s ds _ (by simpa only [okP] using n) c)
  | .lst false ds, _, n, h => by
    cases h with
    | lst a b => exact .lst (.inl (.inl (s _ _ a))) (RpL.dp s ds _ (by simpa only [okP] using n) b)
  | .fr ds, _, n, h => by
    cases h with
    | fr a b => exact .lst (s.seq a) (RpL.dp s ds _ (by simpa only [okP] using n) b)
theorem RpL.dp (s : Same F H) : ∀ (ds : List D) (vs : List V), okPL ds = true → RpL K F H0 H ds vs → DpAll K H vs (pyL ds)
  | [], _, _, h => by cases h; exact .nil
  | d :: ds, _, n, h => by
    cases h with
    | cons a b =>
      simp only [okPL, Bool.and_eq_true] at n
      exact .cons (Rp.dp s d _ n.1 a) (RpL.dp s ds _ n.2 b)
end
/-- a list, any mark -/
theorem Rp.list {t : Bool} {ds : List D} {v : V} (s : Same F H) (h : Rp K F H0 H (.lst t ds) v) : ∃ a xs, v = .ref a ∧ H a = some (.lst xs) ∧ RpL K F H0 H ds xs := by
  cases h with
  | lst a b => exact ⟨_, _, rfl, s _ _ a, b⟩
  | tmF a b => exact ⟨_, _, rfl, s _ _ a, b⟩
  | tmN a b c => exact ⟨_, _, rfl, b, c⟩
theorem Rp.frl {ds : List D} {v : V} (s : Same F H) (h : Rp K F H0 H (.fr ds) v) : ∃ a xs, v = .ref a ∧ SqL K H a xs ∧ RpL K F H0 H ds xs := by
  cases h with
  | fr a b => exact ⟨_, _, rfl, s.seq a, b⟩
theorem Rp.tuple {ds : List D} {v : V} (h : Rp K F H0 H (.tup ds) v) : ∃ a xs, v = .ref a ∧ SqT K H a xs ∧ RpL K F H0 H ds xs := by
  cases h with
  | tup a b => exact ⟨_, _, rfl, .inl (.inl a), b⟩
theorem Rp.tuple' {ds : List D} {v : V} (h : Rp K F H0 H (.tup ds) v) : ∃ a xs, v = .ref a ∧ H a = some (.tup xs) ∧ RpL K F H0 H ds xs := by
  cases h with
  | tup a b => exact ⟨_, _, rfl, a, b⟩
end
end CT

/-! CtB: the state, the judgements -/
namespace CT
open PySem PySem.Spec PyProof.Rows L2

/-- the slots' data -/
abbrev Sl := List (Option D)
structure Bs where
  ex : String → Value
  F0 : Hp
  H0 : Hp

/-- whose list stands in a slot: the slot's own one, or one in its tuple -/
def Owns (H : Hp) (d : D) (v : V) (a : Addr) : Prop := (∃ ds, d = .lst true ds ∧ v = .ref a) ∨ (∃ q ks ds, d = .dct q ks ds ∧ v = .ref a) ∨ ∃ (L : List D) (t : Addr) (vs : List V) (k : Nat) (ds : List D), d = .tup L ∧ v = .ref t ∧ H t = some (.tup vs) ∧ L[k]? = some (.lst true ds) ∧ vs[k]? = some (.ref a)
/-- a tuple with one list of one's own in it -/
structure PairOk (K : PySem.W.Frag) (F H0 H : Hp) (L : List D) (v : V) (k : Nat) (ds : List D) (t : Addr) (vs : List V) (a : Addr) (xs : List V) : Prop where
  v : v = .ref t
  t : H t = some (.tup vs)
  l : L[k]? = some (.lst true ds)
  w : vs[k]? = some (.ref a)
  n : hasTL (L.set k .non) = false
  r : RpL K F H0 H (L.set k .non) (vs.set k .non)
  al : H a = some (.lst xs)
  fa : F a = none
  ha : H0 a = none
  x : RpL K F H0 H ds xs
  nx : hasTL ds = false
/-- a dict of one's own, its keys tuples of ints -/
def DU (l : Bool) (kvs : List (List Key × V)) (u : HO) : Prop := if l = true then ∃ od, u = .frz od (.dT kvs) else u = .dT kvs
structure DctOk (K : PySem.W.Frag) (F H0 H : Hp) (q : DT) (ks : List (List Int)) (ds : List D) (v : V) (a : Addr) (kvs : List (List Key × V)) : Prop where
  v : v = .ref a
  o : ∀ b, q.o = some b → a = b
  al : ∃ u, H a = some u ∧ DU q.l kvs u
  fa : F a = none
  ha : H0 a = none
  k : kvs.map (·.1) = ks.map (·.map Sum.inl)
  x : RpL K F H0 H ds (kvs.map (·.2))
  nx : hasTL ds = false
def SlotOk (K : PySem.W.Frag) (F H0 H : Hp) (d : D) (v : V) : Prop :=
  (∃ ds a xs, d = .lst true ds ∧ v = .ref a ∧ H a = some (.lst xs) ∧ F a = none ∧ H0 a = none ∧ RpL K F H0 H ds xs ∧ hasTL ds = false) ∨ (hasT d = false ∧ Rp K F H0 H d v)
    ∨ (∃ L k ds t vs a xs, d = .tup L ∧ PairOk K F H0 H L v k ds t vs a xs) ∨ ∃ q ks ds a kvs, d = .dct q ks ds ∧ DctOk K F H0 H q ks ds v a kvs
structure Rel (K : PySem.W.Frag) (b : Bs) (F : Hp) (m : Sl) (σ : L2.St) (H : Hp) : Prop where
  len : m.length = σ.length
  grow : Grow b.F0 b.H0 F H
  slot : ∀ (i : Nat) (d : D), m[i]? = some (some d) → ∃ v, σ[i]? = some (some v) ∧ SlotOk K F b.H0 H d v
  apart : ∀ (i j : Nat) (d e : D) (v w : V) (a : Addr), m[i]? = some (some d) → m[j]? = some (some e) → σ[i]? = some (some v) → σ[j]? = some (some w) → Owns H d v a → Owns H e w a → i = j

section
variable {K : PySem.W.Frag} {b : Bs} {F H F1 H1 H0 : Hp} {m : Sl} {σ : L2.St}
theorem set_self_eq {α : Type} {l : List α} {i : Nat} {x y : α} (h : l[i]? = some x) : (l.set i y).set i x = l := by
  rw [List.set_set]
  apply List.ext_getElem?
  intro j
  by_cases hj : j = i
  · subst hj
    rw [List.getElem?_set_self ((List.getElem?_eq_some_iff.1 h).1), h]
  · rw [List.getElem?_set_ne (Ne.symm hj)]
theorem PairOk.rp {L : List D} {v : V} {k : Nat} {ds : List D} {t : Addr} {vs : List V} {a : Addr} {xs : List V} (p : PairOk K F H0 H L v k ds t vs a xs) : Rp K F H0 H (.tup L) v := by
  rw [p.v]
  refine .tup p.t ?_
  have := RpL.set (.tmN p.ha p.al p.x) k p.r
  rw [set_self_eq p.l, set_self_eq p.w] at this
  exact this
/-- only tuples and the rest that is no list need to stay -/
theorem PairOk.keep {L : List D} {v : V} {k : Nat} {ds es : List D} {t : Addr} {vs : List V} {a : Addr} {xs ys : List V} (p : PairOk K F H0 H L v k ds t vs a xs) (tt : ∀ b o, H b = some o → NoL o → H1 b = some o)
    (ha : H1 a = some (.lst ys)) (x : RpL K F H0 H1 es ys) (n : hasTL es = false) : PairOk K F H0 H1 (L.set k (.lst true es)) v k es t vs a ys :=
  ⟨p.v, tt _ _ p.t trivial, List.getElem?_set_self ((List.getElem?_eq_some_iff.1 p.l).1), p.w, by rw [List.set_set]; exact p.n, by rw [List.set_set]; exact RpL.keep tt _ _ p.n p.r, ha, p.fa, p.ha, x, n⟩
theorem Rel.sub (r : Rel K b F m σ H) : Same F H := r.grow.subH
theorem SlotOk.rp {d : D} {v : V} (s : SlotOk K F H0 H d v) : Rp K F H0 H d v := by
  rcases s with ⟨ds, a, xs, rfl, rfl, h1, h2, h3, h4, _⟩ | ⟨_, h⟩ | ⟨L, k, ds, t, vs, a, xs, rfl, p⟩ | ⟨qq, ks, ds, a, kvs, rfl, p⟩
  · exact .tmN h3 h1 h4
  · exact h
  · exact p.rp
  · rw [p.v]; exact .dct
theorem grow_free {a : Addr} {o1 : HO} (g : Grow F H F1 H1) (h1 : H a = some o1) (h2 : F a = none) : F1 a = none := by
  cases q : F1 a with
  | none => rfl
  | some o =>
    rcases g.new a o q with z | z
    · rw [h2] at z; cases z
    · rw [h1] at z; cases z
theorem SlotOk.grow {d : D} {v : V} (g : Grow F H F1 H1) (s : SlotOk K F H0 H d v) : SlotOk K F1 H0 H1 d v := by
  rcases s with ⟨ds, a, xs, rfl, rfl, h1, h2, h3, h4, h5⟩ | ⟨h, h'⟩ | ⟨L, k, ds, t, vs, a, xs, rfl, p⟩ | ⟨qq, ks, ds, a, kvs, rfl, p⟩
  · exact .inl ⟨ds, a, xs, rfl, rfl, g.same _ _ h1, grow_free g h1 h2, h3, h4.grow g, h5⟩
  · exact .inr (.inl ⟨h, h'.grow g⟩)
  · exact .inr (.inr (.inl ⟨L, k, ds, t, vs, a, xs, rfl, p.v, g.same _ _ p.t, p.l, p.w, p.n, p.r.grow g, g.same _ _ p.al, grow_free g p.al p.fa, p.ha, p.x.grow g, p.nx⟩))
  · exact .inr (.inr (.inr ⟨qq, ks, ds, a, kvs, rfl, p.v, p.o, p.al.imp fun u h => ⟨g.same _ _ h.1, h.2⟩, p.al.elim fun u h => grow_free g h.1 p.fa, p.ha, p.k, p.x.grow g, p.nx⟩))
/-- who owns now owned then -/
theorem Owns.back {d : D} {v : V} {a : Addr} (tt : ∀ b o, H b = some o → NoL o → H1 b = some o) (s : SlotOk K F H0 H d v) (o : Owns H1 d v a) : Owns H d v a := by
  rcases o with o | o | ⟨L, t, vs, k, ds, rfl, rfl, h1, h2, h3⟩
  · exact .inl o
  · exact .inr (.inl o)
  · rcases s with ⟨ds', a', xs, e, _⟩ | ⟨h, _⟩ | ⟨L', k', ds', t', vs', a', xs, e, p⟩ | ⟨_, _, _, _, _, e, _⟩
    · cases e
    · have := hasTL_get (by simpa only [hasT] using h) h2
      simp [hasT] at this
    · cases e; cases p.v
      have := tt _ _ p.t trivial
      rw [this] at h1; cases h1
      exact .inr (.inr ⟨L, t, vs, k, ds, rfl, rfl, p.t, h2, h3⟩)
    · cases e
theorem PairOk.same {L : List D} {v : V} {k j : Nat} {ds es : List D} {t : Addr} {vs : List V} {a : Addr} {xs : List V} (p : PairOk K F H0 H L v k ds t vs a xs) (h : L[j]? = some (.lst true es)) : j = k := by
  by_cases e : j = k
  · exact e
  · have : (L.set k .non)[j]? = some (.lst true es) := by rw [List.getElem?_set_ne (Ne.symm e)]; exact h
    have := hasTL_get p.n this
    simp [hasT] at this
theorem Owns.here {d : D} {v : V} {a : Addr} (s : SlotOk K F H0 H d v) (o : Owns H d v a) : ∃ u, H a = some u ∧ H0 a = none := by
  rcases o with ⟨es, rfl, rfl⟩ | ⟨qq, ks, ds, rfl, rfl⟩ | ⟨L, t, vs, k, ds, rfl, rfl, h1, h2, h3⟩
  · rcases s with ⟨ds', a', xs, e, e', h, _, h', _⟩ | ⟨h, _⟩ | ⟨L', k', ds', t', vs', a', xs, e, p⟩ | ⟨_, _, _, _, _, e, _⟩
    · cases e; cases e'; exact ⟨_, h, h'⟩
    · simp [hasT] at h
    · cases e
    · cases e
  · rcases s with ⟨ds', a', xs, e, e', h, _⟩ | ⟨h, _⟩ | ⟨L', k', ds', t', vs', a', xs, e, p⟩ | ⟨_, _, _, _, _, e, p⟩
    · cases e
    · simp [hasT] at h
    · cases e
    · cases e; cases p.v; obtain ⟨u, h1, _⟩ := p.al; exact ⟨u, h1, p.ha⟩
  · rcases s with ⟨ds', a', xs, e, _⟩ | ⟨h, _⟩ | ⟨L', k', ds', t', vs', a', xs, e, p⟩ | ⟨_, _, _, _, _, e, _⟩
    · cases e
    · have := hasTL_get (by simpa only [hasT] using h) h2
      simp [hasT] at this
    · cases e; cases p.v
      rw [p.t] at h1; cases h1
      cases p.same h2
      rw [p.w] at h3; cases h3
      exact ⟨_, p.al, p.ha⟩
    · cases e
theorem Owns.of {d : D} {v : V} {a : Addr} (o : Owns H d v a) (n : hasT d = false) : False := by
  rcases o with ⟨es, rfl, rfl⟩ | ⟨_, _, _, rfl, rfl⟩ | ⟨L, t, vs, k, ds, rfl, rfl, h1, h2, h3⟩
  · simp [hasT] at n
  · simp [hasT] at n
  · have := hasTL_get (by simpa only [hasT] using n) h2
    simp [hasT] at this
theorem Rel.step (r : Rel K b F m σ H) (g : Grow F H F1 H1) : Rel K b F1 m σ H1 :=
  ⟨r.len, r.grow.trans g, fun i d e => by
    obtain ⟨v, h1, h2⟩ := r.slot i d e
    exact ⟨v, h1, h2.grow g⟩, fun i j d e v w a h1 h2 h3 h4 o1 o2 => by
    obtain ⟨v', k1, k2⟩ := r.slot i d h1
    obtain ⟨w', k3, k4⟩ := r.slot j e h2
    rw [h3] at k1; cases k1
    rw [h4] at k3; cases k3
    exact r.apart i j d e v w a h1 h2 h3 h4 (o1.back (fun b o z _ => g.same b o z) k2) (o2.back (fun b o z _ => g.same b o z) k4)⟩
theorem SlotOk.mut {ds : List D} {v : V} (s : SlotOk K F H0 H (.lst true ds) v) : ∃ a xs, v = .ref a ∧ H a = some (.lst xs) ∧ F a = none ∧ H0 a = none ∧ RpL K F H0 H ds xs ∧ hasTL ds = false := by
  rcases s with ⟨ds, a, xs, e, rfl, h1, h2, h3, h4, h5⟩ | ⟨h, _⟩ | ⟨_, _, _, _, _, _, _, e, _⟩ | ⟨_, _, _, _, _, e, _⟩
  · cases e
    exact ⟨a, xs, rfl, h1, h2, h3, h4, h5⟩
  · simp [hasT] at h
  · cases e
  · cases e
theorem SlotOk.dct {q : DT} {ks : List (List Int)} {ds : List D} {v : V} (s : SlotOk K F H0 H (.dct q ks ds) v) : ∃ a kvs, DctOk K F H0 H q ks ds v a kvs := by
  rcases s with ⟨_, _, _, e, _⟩ | ⟨h, _⟩ | ⟨_, _, _, _, _, _, _, e, _⟩ | ⟨_, _, _, a, kvs, e, p⟩
  · cases e
  · simp [hasT] at h
  · cases e
  · cases e; exact ⟨a, kvs, p⟩
theorem Rel.apartO (r : Rel K b F m σ H) (i j : Nat) (x y : List D) (a : Addr) (h1 : m[i]? = some (some (.lst true x))) (h2 : m[j]? = some (some (.lst true y))) (h3 : σ[i]? = some (some (.ref a))) (h4 : σ[j]? = some (some (.ref a))) : i = j :=
  r.apart i j _ _ _ _ a h1 h2 h3 h4 (.inl ⟨_, rfl, rfl⟩) (.inl ⟨_, rfl, rfl⟩)
theorem set_some {α : Type} {l : List (Option α)} {i j : Nat} {d e : α} (h : (l.set i (some d))[j]? = some (some e)) : (j = i ∧ i < l.length ∧ e = d) ∨ (j ≠ i ∧ l[j]? = some (some e)) := by
  by_cases hj : j = i
  · subst hj
    by_cases hl : j < l.length
    · rw [List.getElem?_set_self hl] at h; cases h; exact .inl ⟨rfl, hl, rfl⟩
    · rw [List.getElem?_eq_none (by simpa using hl)] at h; cases h
  · rw [List.getElem?_set_ne (Ne.symm hj)] at h; exact .inr ⟨hj, h⟩
/-- a value is stored that owns nothing which another owns -/
theorem Rel.putW {i : Nat} {d : D} {v : V} (r : Rel K b F m σ H) (h : SlotOk K F b.H0 H d v) (far : ∀ (j : Nat) (e : D) (w : V) (a : Addr), j ≠ i → m[j]? = some (some e) → σ[j]? = some (some w) → Owns H d v a → Owns H e w a → False) :
    Rel K b F (m.set i (some d)) (σ.set i (some v)) H :=
  ⟨by rw [List.length_set, List.length_set]; exact r.len, r.grow, fun j e q => by
    rcases set_some q with ⟨rfl, hl, rfl⟩ | ⟨hj, q⟩
    · exact ⟨v, by rw [List.getElem?_set_self (by rw [← r.len]; exact hl)], h⟩
    · obtain ⟨w, h1, h2⟩ := r.slot j e q
      exact ⟨w, by rw [List.getElem?_set_ne (Ne.symm hj)]; exact h1, h2⟩, fun p q d' e v' w' a e1 e2 e3 e4 o1 o2 => by
    rcases set_some e1 with ⟨hp, hl, rfl⟩ | ⟨hp, k1⟩
    · rcases set_some e2 with ⟨hq, _, _⟩ | ⟨hq, k2⟩
      · rw [hp, hq]
      · rw [hp, List.getElem?_set_self (by rw [← r.len]; exact hl)] at e3
        cases e3
        rw [List.getElem?_set_ne (Ne.symm hq)] at e4
        exact (far q _ _ a hq k2 e4 o1 o2).elim
    · rw [List.getElem?_set_ne (Ne.symm hp)] at e3
      rcases set_some e2 with ⟨hq, hl, rfl⟩ | ⟨hq, k2⟩
      · rw [hq, List.getElem?_set_self (by rw [← r.len]; exact hl)] at e4
        cases e4
        exact (far p _ _ a hp k1 e3 o2 o1).elim
      · rw [List.getElem?_set_ne (Ne.symm hq)] at e4
        exact r.apart p q _ _ _ _ a k1 k2 e3 e4 o1 o2⟩
/-- a value that stands still is stored -/
theorem Rel.put {i : Nat} {d : D} {v : V} (r : Rel K b F m σ H) (n : hasT d = false) (h : Rp K F b.H0 H d v) : Rel K b F (m.set i (some d)) (σ.set i (some v)) H :=
  r.putW (.inr (.inl ⟨n, h⟩)) fun _ _ _ _ _ _ _ o _ => o.of n
theorem SlotOk.base {H0' : Hp} {d : D} {v : V} (s : Same H0 H0') (h : SlotOk K F H0' H d v) : SlotOk K F H0 H d v := by
  rcases h with ⟨ds, a, xs, rfl, rfl, h1, h2, h3, h4, h5⟩ | ⟨h, h'⟩ | ⟨L, k, ds, t, vs, a, xs, rfl, p⟩ | ⟨qq, ks, ds, a, kvs, rfl, p⟩
  · exact .inl ⟨ds, a, xs, rfl, rfl, h1, h2, s.free h3, RpL.base ds xs h5 h4, h5⟩
  · exact .inr (.inl ⟨h, Rp.base d v h h'⟩)
  · exact .inr (.inr (.inl ⟨L, k, ds, t, vs, a, xs, rfl, p.v, p.t, p.l, p.w, p.n, RpL.base _ _ p.n p.r, p.al, p.fa, s.free p.ha, RpL.base _ _ p.nx p.x, p.nx⟩))
  · exact .inr (.inr (.inr ⟨qq, ks, ds, a, kvs, rfl, p.v, p.o, p.al, p.fa, s.free p.ha, p.k, RpL.base _ _ p.nx p.x, p.nx⟩))
/-- what came new is stored -/
theorem Rel.putN {i : Nat} {d : D} {v : V} (r : Rel K b F m σ H) (g : Grow F H F1 H1) (h : SlotOk K F1 H H1 d v) : Rel K b F1 (m.set i (some d)) (σ.set i (some v)) H1 := by
  have r1 := r.step g
  refine r1.putW (h.base r.grow.same) fun j e w a _ h1 h2 o1 o2 => ?_
  obtain ⟨w', k1, k2⟩ := r.slot j e h1
  rw [h2] at k1; cases k1
  obtain ⟨ys, hy, _⟩ := Owns.here k2 (o2.back (fun b o z _ => g.same b o z) k2)
  obtain ⟨_, _, hn⟩ := Owns.here h o1
  rw [hn] at hy; cases hy
/-- a new list of one's own is stored -/
theorem Rel.own {i : Nat} {ds : List D} {a : Addr} {xs : List V} (r : Rel K b F m σ H) (g : Grow F H F1 H1) (hn : H a = none) (h1 : H1 a = some (.lst xs)) (h2 : F1 a = none) (h : RpL K F1 b.H0 H1 ds xs) (n : hasTL ds = false) :
    Rel K b F1 (m.set i (some (.lst true ds))) (σ.set i (some (.ref a))) H1 :=
  r.putN g (.inl ⟨ds, a, xs, rfl, rfl, h1, h2, hn, RpL.base ds xs n h, n⟩)
/-- a list that a slot owns is changed, the other slots keep what they say -/
theorem Rel.chgW {i : Nat} {d e : D} {v : V} {a : Addr} {o1 o2 : HO} (r : Rel K b F m σ H) (q : m[i]? = some (some d)) (hs : σ[i]? = some (some v)) (o : Owns H d v a) (h1 : H a = some o1) (hn : ¬ NoL o1) (h2 : F a = none) (h3 : b.H0 a = none)
    (h : SlotOk K F b.H0 (upd H a o2) e v) (ow : ∀ c, Owns (upd H a o2) e v c → Owns H d v c) : Rel K b F (m.set i (some e)) σ (upd H a o2) := by
  have t : ∀ c o, H c = some o → NoL o → (upd H a o2) c = some o := fun c o hc ho => by
    rw [upd_ne (fun z => by subst z; rw [h1] at hc; cases hc; exact hn ho)]; exact hc
  have na : ∀ c o, F c = some o → c ≠ a := fun c o hc z => by subst z; rw [h2] at hc; cases hc
  refine ⟨by rw [List.length_set]; exact r.len, ⟨fun c o hc => ?_, r.grow.sub, fun c o hc => ?_, r.grow.new⟩, fun j d' q' => ?_, fun p p' x y v1 v2 c e1 e2 e3 e4 w1 w2 => ?_⟩
  · rw [upd_ne (fun z => by subst z; rw [h3] at hc; cases hc)]; exact r.grow.same _ _ hc
  · rw [upd_ne (na _ _ hc)]; exact r.sub _ _ hc
  · rcases set_some q' with ⟨rfl, hl, rfl⟩ | ⟨hj, q'⟩
    · exact ⟨v, hs, h⟩
    · obtain ⟨w, k1, k2⟩ := r.slot j d' q'
      refine ⟨w, k1, ?_⟩
      rcases k2 with ⟨ds', c, xs', rfl, rfl, z1, z2, z3, z4, z5⟩ | ⟨z1, z2⟩ | ⟨L, k, ds', t', vs, c, xs', rfl, pp⟩ | ⟨qq, ks, ds', c, kvs, rfl, pp⟩
      · have hc : c ≠ a := fun z => by subst z; exact hj (r.apart j i _ _ _ _ c q' q k1 hs (.inl ⟨_, rfl, rfl⟩) o)
        exact .inl ⟨ds', c, xs', rfl, rfl, by rw [upd_ne hc]; exact z1, z2, z3, RpL.keep t ds' _ z5 z4, z5⟩
      · exact .inr (.inl ⟨z1, Rp.keep t _ _ z1 z2⟩)
      · have hc : c ≠ a := fun z => by subst z; exact hj (r.apart j i _ _ _ _ c q' q k1 hs (.inr (.inr ⟨L, t', vs, k, ds', rfl, pp.v, pp.t, pp.l, pp.w⟩)) o)
        have := pp.keep t (by rw [upd_ne hc]; exact pp.al) (RpL.keep t ds' _ pp.nx pp.x) pp.nx
        rw [show L.set k (.lst true ds') = L from by have := set_self_eq (y := .lst true ds') pp.l; rwa [List.set_set] at this] at this
        exact .inr (.inr (.inl ⟨L, k, ds', t', vs, c, xs', rfl, this⟩))
      · have hc : c ≠ a := fun z => by subst z; exact hj (r.apart j i _ _ _ _ c q' q k1 hs (.inr (.inl ⟨_, _, _, rfl, pp.v⟩)) o)
        exact .inr (.inr (.inr ⟨qq, ks, ds', c, kvs, rfl, pp.v, pp.o, by rw [upd_ne hc]; exact pp.al, pp.fa, pp.ha, pp.k, RpL.keep t ds' _ pp.nx pp.x, pp.nx⟩))
  · have old : ∀ (k : Nat) (z : D) (u : V), (m.set i (some e))[k]? = some (some z) → σ[k]? = some (some u) → Owns (upd H a o2) z u c → ∃ z' : D, m[k]? = some (some z') ∧ Owns H z' u c := fun k z u ek es oz => by
      rcases set_some ek with ⟨rfl, _, rfl⟩ | ⟨_, ek⟩
      · rw [hs] at es; cases es
        exact ⟨d, q, ow c oz⟩
      · obtain ⟨u', k1, k2⟩ := r.slot k z ek
        rw [es] at k1; cases k1
        exact ⟨z, ek, oz.back t k2⟩
    obtain ⟨x', e1', o1'⟩ := old p x v1 e1 e3 w1
    obtain ⟨y', e2', o2'⟩ := old p' y v2 e2 e4 w2
    exact r.apart p p' x' y' v1 v2 c e1' e2' e3 e4 o1' o2'
/-- a list of one's own is changed -/
theorem Rel.chg {i : Nat} {ds es : List D} {a : Addr} {ys : List V} (r : Rel K b F m σ H) (e : m[i]? = some (some (.lst true ds))) (hs : σ[i]? = some (some (.ref a))) (h : RpL K F b.H0 H es ys) (n : hasTL es = false) :
    Rel K b F (m.set i (some (.lst true es))) σ (upd H a (.lst ys)) := by
  obtain ⟨v, q1, q2⟩ := r.slot i _ e
  obtain ⟨a', xs', rfl, h1, h2, h3, h4, h5⟩ := q2.mut
  rw [hs] at q1; cases q1
  have t : ∀ c o, H c = some o → NoL o → (upd H a (.lst ys)) c = some o := fun c o hc ho => by
    rw [upd_ne (fun z => by subst z; rw [h1] at hc; cases hc; exact False.elim ho)]; exact hc
  refine r.chgW e hs (.inl ⟨_, rfl, rfl⟩) h1 (fun z => z) h2 h3 (.inl ⟨es, a, ys, rfl, rfl, upd_same, h2, h3, RpL.keep t es ys n h, n⟩) fun c o => ?_
  rcases o with ⟨_, _, q⟩ | ⟨_, _, _, q, _⟩ | ⟨_, _, _, _, _, q, _⟩
  · exact .inl ⟨_, rfl, q⟩
  · cases q
  · cases q
/-- a dict of one's own is changed -/
theorem Rel.chgD {i : Nat} {o : Option Nat} {ks ks' : List (List Int)} {ds es : List D} {v : V} {a : Addr} {kvs kvs' : List (List Key × V)} (r : Rel K b F m σ H) (e : m[i]? = some (some (.dct ⟨o, false⟩ ks ds))) (hs : σ[i]? = some (some v)) (p : DctOk K F b.H0 H ⟨o, false⟩ ks ds v a kvs)
    (hk : kvs'.map (·.1) = ks'.map (·.map Sum.inl)) (h : RpL K F b.H0 H es (kvs'.map (·.2))) (n : hasTL es = false) : Rel K b F (m.set i (some (.dct ⟨o, false⟩ ks' es))) σ (upd H a (.dT kvs')) := by
  have pal : H a = some (.dT kvs) := by
    obtain ⟨u, h1, h2⟩ := p.al
    rw [h1]; exact congrArg _ h2
  have t : ∀ c o, H c = some o → NoL o → (upd H a (.dT kvs')) c = some o := fun c o hc ho => by
    rw [upd_ne (fun z => by subst z; rw [pal] at hc; cases hc; exact False.elim ho)]; exact hc
  refine r.chgW e hs (.inr (.inl ⟨_, _, _, rfl, p.v⟩)) pal (fun z => z) p.fa p.ha (.inr (.inr (.inr ⟨_, ks', es, a, kvs', rfl, p.v, p.o, ⟨_, upd_same, rfl⟩, p.fa, p.ha, hk, RpL.keep t es _ n h, n⟩))) fun c o => ?_
  rcases o with ⟨_, q, _⟩ | ⟨_, _, _, _, q⟩ | ⟨_, _, _, _, _, q, _⟩
  · cases q
  · exact .inr (.inl ⟨_, _, _, rfl, q⟩)
  · cases q
/-- a list in a tuple is changed -/
theorem Rel.chgP {i k : Nat} {L ds es : List D} {v : V} {t a : Addr} {vs xs ys : List V} (r : Rel K b F m σ H) (e : m[i]? = some (some (.tup L))) (hs : σ[i]? = some (some v)) (p : PairOk K F b.H0 H L v k ds t vs a xs) (h : RpL K F b.H0 H es ys) (n : hasTL es = false) :
    Rel K b F (m.set i (some (.tup (L.set k (.lst true es))))) σ (upd H a (.lst ys)) := by
  have tt : ∀ c o, H c = some o → NoL o → (upd H a (.lst ys)) c = some o := fun c o hc ho => by
    rw [upd_ne (fun z => by subst z; rw [p.al] at hc; cases hc; exact False.elim ho)]; exact hc
  have p' := p.keep tt upd_same (RpL.keep tt es ys n h) n
  refine r.chgW e hs (.inr (.inr ⟨L, t, vs, k, ds, rfl, p.v, p.t, p.l, p.w⟩)) p.al (fun z => z) p.fa p.ha (.inr (.inr (.inl ⟨_, k, es, t, vs, a, ys, rfl, p'⟩))) fun c o => ?_
  rcases o with ⟨_, q, _⟩ | ⟨_, _, _, q, _⟩ | ⟨L', t', vs', k', ds', q, q', q1, q2, q3⟩
  · cases q
  · cases q
  · cases q
    rw [p.v] at q'; cases q'
    rw [p'.t] at q1; cases q1
    cases p'.same q2
    exact .inr (.inr ⟨L, t, vs, k, ds, rfl, p.v, p.t, p.l, q3⟩)
/-- a slot is forgotten -/
theorem Rel.drop {i : Nat} (r : Rel K b F m σ H) : Rel K b F (m.set i none) (σ.set i none) H := by
  have old : ∀ {j : Nat} {d : D}, (m.set i none)[j]? = some (some d) → j ≠ i ∧ m[j]? = some (some d) := fun {j d} h => by
    by_cases hj : j = i
    · subst hj
      by_cases hl : j < m.length
      · rw [List.getElem?_set_self hl] at h; cases h
      · rw [List.getElem?_eq_none (by simpa using hl)] at h; cases h
    · rw [List.getElem?_set_ne (Ne.symm hj)] at h; exact ⟨hj, h⟩
  refine ⟨by rw [List.length_set, List.length_set]; exact r.len, r.grow, fun j d q => ?_, fun p q x y v w c e1 e2 e3 e4 => ?_⟩
  · obtain ⟨hj, q⟩ := old q
    obtain ⟨v, k1, k2⟩ := r.slot j d q
    exact ⟨v, by rw [List.getElem?_set_ne (Ne.symm hj)]; exact k1, k2⟩
  · obtain ⟨h1, e1⟩ := old e1
    obtain ⟨h2, e2⟩ := old e2
    rw [List.getElem?_set_ne (Ne.symm h1)] at e3
    rw [List.getElem?_set_ne (Ne.symm h2)] at e4
    exact r.apart p q x y v w c e1 e2 e3 e4
/-- a list of one's own is changed no more -/
theorem Rel.freeze' {i : Nat} {ds : List D} (r : Rel K b F m σ H) (e : m[i]? = some (some (.lst true ds))) : ∃ F', Same F F' ∧ Rel K b F' (m.set i (some (.lst false ds))) σ H := by
  obtain ⟨v, q1, q2⟩ := r.slot i _ e
  obtain ⟨a, xs, rfl, h1, h2, h3, h4, h5⟩ := q2.mut
  have sF : Same F (upd F a (.lst xs)) := same_upd h2
  have sH : Same (upd F a (.lst xs)) H := fun c o hc => by
    by_cases hb : c = a
    · subst hb; rw [upd_same] at hc; rw [h1]; exact hc
    · rw [upd_ne hb] at hc; exact r.sub _ _ hc
  refine ⟨upd F a (.lst xs), sF, by rw [List.length_set]; exact r.len, ⟨r.grow.same, r.grow.sub.trans sF, sH, fun c o hc => ?_⟩, fun j d q => ?_, fun p q x y v w c e1 e2 e3 e4 o1 o2 => ?_⟩
  · by_cases hb : c = a
    · subst hb; exact .inr h3
    · rw [upd_ne hb] at hc; exact r.grow.new _ _ hc
  · rcases set_some q with ⟨rfl, hl, rfl⟩ | ⟨hj, q⟩
    · exact ⟨_, q1, .inr (.inl ⟨by simp only [hasT, Bool.false_or]; exact h5, .lst upd_same (h4.mono sF (Same.refl _))⟩)⟩
    · obtain ⟨w, k1, k2⟩ := r.slot j d q
      refine ⟨w, k1, ?_⟩
      rcases k2 with ⟨ds', c, xs', rfl, rfl, z1, z2, z3, z4, z5⟩ | ⟨z1, z2⟩ | ⟨L, k, ds', t', vs, c, xs', rfl, pp⟩ | ⟨qq, ks, ds', c, kvs, rfl, pp⟩
      · have hc : c ≠ a := fun z => by subst z; exact hj (r.apartO j i _ _ _ q e k1 q1)
        exact .inl ⟨ds', c, xs', rfl, rfl, z1, by rw [upd_ne hc]; exact z2, z3, z4.mono sF (Same.refl _), z5⟩
      · exact .inr (.inl ⟨z1, z2.mono sF (Same.refl _)⟩)
      · have hc : c ≠ a := fun z => by subst z; exact hj (r.apart j i _ _ _ _ c q e k1 q1 (.inr (.inr ⟨L, t', vs, k, ds', rfl, pp.v, pp.t, pp.l, pp.w⟩)) (.inl ⟨_, rfl, rfl⟩))
        exact .inr (.inr (.inl ⟨L, k, ds', t', vs, c, xs', rfl, pp.v, pp.t, pp.l, pp.w, pp.n, pp.r.mono sF (Same.refl _), pp.al, by rw [upd_ne hc]; exact pp.fa, pp.ha, pp.x.mono sF (Same.refl _), pp.nx⟩))
      · have hc : c ≠ a := fun z => by subst z; exact hj (r.apart j i _ _ _ _ c q e k1 q1 (.inr (.inl ⟨_, _, _, rfl, pp.v⟩)) (.inl ⟨_, rfl, rfl⟩))
        exact .inr (.inr (.inr ⟨qq, ks, ds', c, kvs, rfl, pp.v, pp.o, pp.al, by rw [upd_ne hc]; exact pp.fa, pp.ha, pp.k, pp.x.mono sF (Same.refl _), pp.nx⟩))
  · rcases set_some e1 with ⟨_, _, z⟩ | ⟨_, e1⟩
    · rw [z] at o1
      exact (o1.of (by simp only [hasT, Bool.false_or]; exact h5)).elim
    · rcases set_some e2 with ⟨_, _, z⟩ | ⟨_, e2⟩
      · rw [z] at o2
        exact (o2.of (by simp only [hasT, Bool.false_or]; exact h5)).elim
      · exact r.apart p q x y v w c e1 e2 e3 e4 o1 o2
end

/-! ### what is wanted of a run -/
def Pst {α : Type} (b : Bs) (W : WX) (σ : L2.St) (F H : Hp) (C : α → Hp → Hp → Prop) : R α → Prop
  | .ok a => ∀ F' H', Grow F H F' H' → C a F' H'
  | .exc c => ∀ F' H', Grow F H F' H' → W (b.ex c) none σ H'
  | .stuck => False
section
variable {α β : Type} {b : Bs} {W : WX} {σ : L2.St} {F H F1 H1 : Hp}
theorem Pst.grow {C : α → Hp → Hp → Prop} {r : R α} (g : Grow F H F1 H1) (p : Pst b W σ F H C r) : Pst b W σ F1 H1 C r := by
  cases r with
  | ok a => exact fun F' H' k => p F' H' (g.trans k)
  | exc c => exact fun F' H' k => p F' H' (g.trans k)
  | stuck => exact p
theorem Pst.bind {C : β → Hp → Hp → Prop} {r : R α} {k : α → R β} (p : Pst b W σ F H C (r.bind k)) : Pst b W σ F H (fun a F' H' => Pst b W σ F' H' C (k a)) r := by
  cases r with
  | ok a => exact fun F' H' g => Pst.grow g p
  | exc c => exact p
  | stuck => exact p
theorem Pst.imp {C C' : α → Hp → Hp → Prop} {r : R α} (p : Pst b W σ F H C r) (h : ∀ a F' H', r = .ok a → Grow F H F' H' → C a F' H' → C' a F' H') : Pst b W σ F H C' r := by
  cases r with
  | ok a => exact fun F' H' g => h a F' H' rfl g (p F' H' g)
  | exc c => exact p
  | stuck => exact p
theorem Pst.here {C : α → Hp → Hp → Prop} {a : α} (p : Pst b W σ F H C (.ok a)) (s : Same F H) : C a F H := p F H (Grow.refl s)
end

abbrev SemE := Sl → R D
abbrev SemT := Sl → R Bool
abbrev SemA := Sl → R (List D)
section
variable (K : PySem.W.Frag) (b : Bs) (W : WX)
/-- a value as wanted -/
def CV (Q : VK) : D → Hp → Hp → Prop := fun d F' H' => ∀ v, Rp K F' b.H0 H' d v → Q v H'
def CVs (Q : List V → Hp → Prop) : List D → Hp → Hp → Prop := fun d F' H' => ∀ v, RpL K F' b.H0 H' d v → Q v H'
def tSE (f : SemE) : TE := fun σ H Q => ∃ F m, Rel K b F m σ H ∧ Pst b W σ F H (CV K b Q) (f m)
def tST (f : SemT) : TT := fun σ H Q => ∃ F m, Rel K b F m σ H ∧ Pst b W σ F H (fun c _ H' => Q c H') (f m)
def tSA (f : SemA) : TA := fun σ H Q => ∃ F m, Rel K b F m σ H ∧ Pst b W σ F H (CVs K b Q) (f m)
/-- a new list of one's own -/
def CO (H : Hp) (Q : VK) : List D → Hp → Hp → Prop := fun ds F' H' => ∀ a xs, H a = none → F' a = none → H' a = some (.lst xs) → RpL K F' b.H0 H' ds xs → Q (.ref a) H'
def tSO (f : SemA) : TE := fun σ H Q => ∃ F m, Rel K b F m σ H ∧ Pst b W σ F H (CO K b H Q) (f m)
end
abbrev SE (X : Cx) (b : Bs) (W : WX) (e : Expr) (f : SemE) : Prop := PE X e (tSE X.K b W f)
abbrev ST (X : Cx) (b : Bs) (W : WX) (e : Expr) (f : SemT) : Prop := PT X e (tST X.K b W f)
abbrev SW (X : Cx) (b : Bs) (W : WX) (e : Expr) (f : SemT) : Prop := PW X e (tST X.K b W f)
abbrev SA (X : Cx) (b : Bs) (W : WX) (es : List Expr) (f : SemA) : Prop := PA X es (tSA X.K b W f)
abbrev SO (X : Cx) (b : Bs) (W : WX) (e : Expr) (f : SemA) : Prop := PE X e (tSO X.K b W f)

theorem PE.weak {X : Cx} {e : Expr} {t t' : TE} (h : PE X e t) (w : ∀ σ H Q, t' σ H Q → t σ H Q) : PE X e t' := ⟨fun pins s σ H Q I q => h.run pins s σ H Q I (w _ _ _ q)⟩
theorem PT.weak {X : Cx} {e : Expr} {t t' : TT} (h : PT X e t) (w : ∀ σ H Q, t' σ H Q → t σ H Q) : PT X e t' := ⟨fun pins s σ H Q I q => h.run pins s σ H Q I (w _ _ _ q)⟩
theorem PW.weak {X : Cx} {e : Expr} {t t' : TT} (h : PW X e t) (w : ∀ σ H Q, t' σ H Q → t σ H Q) : PW X e t' := ⟨fun wh pins s σ H Q I q => h.run wh pins s σ H Q I (w _ _ _ q)⟩
theorem PA.weak {X : Cx} {e : List Expr} {t t' : TA} (h : PA X e t) (w : ∀ σ H Q, t' σ H Q → t σ H Q) : PA X e t' := ⟨fun pos pins s σ H Q I q => h.run pos pins s σ H Q I (w _ _ _ q)⟩
theorem PS.weak {X : Cx} {e : Stmt} {t t' : TS} (h : PS X e t) (w : ∀ D σ H, t' D σ H → t D σ H) : PS X e t' := ⟨fun pins s σ H D I q => h.run pins s σ H D I (w _ _ _ q)⟩
theorem PSs.weak {X : Cx} {e : List Stmt} {t t' : TS} (h : PSs X e t) (w : ∀ D σ H, t' D σ H → t D σ H) : PSs X e t' := ⟨fun pins s σ H D I q => h.run pins s σ H D I (w _ _ _ q)⟩
theorem PO.weak {X : Cx} {e : Option Expr} {t t' : TO} (h : PO X e t) (w : ∀ σ H Q, t' σ H Q → t σ H Q) : PO X e t' := ⟨fun pins s σ H Q I q => h.run pins s σ H Q I (w _ _ _ q)⟩

/-! ### expressions -/
def eVar (i : Nat) : SemE := fun m => match m[i]? with
  | some (some d) => .ok d
  | _ => .stuck
def eC (d : D) : SemE := fun _ => .ok d
def e2 (op : D → D → R D) (f g : SemE) : SemE := fun m => (f m).bind fun x => (g m).bind fun y => op x y
def e1 (op : D → R D) (f : SemE) : SemE := fun m => (f m).bind op
def eA (op : List D → R D) (f : SemA) : SemE := fun m => (f m).bind op
def aNil : SemA := fun _ => .ok []
def aCons (f : SemE) (g : SemA) : SemA := fun m => (f m).bind fun x => (g m).bind fun xs => .ok (x :: xs)
def asB : D → R Bool
  | .bl c => .ok c
  | _ => .stuck
def tOf (f : SemE) : SemT := fun m => (f m).bind asB
def tNot (f : SemT) : SemT := fun m => (f m).bind fun c => .ok (!c)
def tAnd (f g : SemT) : SemT := fun m => (f m).bind fun c => if c = true then g m else .ok false
def tOr (f g : SemT) : SemT := fun m => (f m).bind fun c => if c = true then .ok true else g m
def eAnd (f g : SemE) : SemE := fun m => (f m).bind fun x => (asB x).bind fun c => if c = true then g m else .ok (.bl false)
def eOr (f g : SemE) : SemE := fun m => (f m).bind fun x => (asB x).bind fun c => if c = true then .ok (.bl true) else g m
def eNot (f : SemE) : SemE := fun m => (f m).bind fun x => (asB x).bind fun c => .ok (.bl (!c))
def eIf (t : SemT) (f g : SemE) : SemE := fun m => (t m).bind fun c => if c = true then f m else g m

section
variable {X : Cx} {b : Bs} {W : WX} {e a c : Expr} {f g : SemE} {t u : SemT} {pos : Pos}
theorem se_var {i : Nat} (h : PE X e (tVar i)) : SE X b W e (eVar i) := PE.weak h fun σ H Q ⟨F, m, r, p⟩ => by
  unfold eVar at p
  split at p
  · rename_i d hd
    obtain ⟨v, h1, h2⟩ := r.slot i d hd
    exact ⟨v, h1, p.here r.sub v h2.rp⟩
  · exact p.elim
theorem se_c {v : V} {d : D} (h : PE X e (tC v)) (hr : ∀ K F H0 H, Rp K F H0 H d v) : SE X b W e (eC d) := PE.weak h fun σ H Q ⟨F, m, r, p⟩ => p.here r.sub v (hr _ _ _ _)
theorem se_int {i : Int} {j : Nat} : SE X b W (.Constant (.int i) j pos) (eC (.int i)) := se_c pe_int fun _ _ _ _ => .int _
theorem se_str {x : Str} {j : Nat} : SE X b W (.Constant (.str x) j pos) (eC (.str x)) := se_c pe_str fun _ _ _ _ => .str _
theorem se_bl {x : Bool} {j : Nat} : SE X b W (.Constant (.bool x) j pos) (eC (.bl x)) := se_c pe_bl fun _ _ _ _ => .bl _
theorem se_non {j : Nat} : SE X b W (.Constant .none j pos) (eC .non) := se_c pe_non fun _ _ _ _ => .non

/-- the first of two: its value, then the rest -/
theorem seq {R' : V → Hp → Prop} {σ : L2.St} {H : Hp} {α : Type} {k : D → R α} {C : α → Hp → Hp → Prop} {F : Hp} {m : Sl} (r : Rel X.K b F m σ H) (p : Pst b W σ F H C ((f m).bind k))
    (h : ∀ x F1 H1 v, Rel X.K b F1 m σ H1 → Grow F H F1 H1 → Rp X.K F1 b.H0 H1 x v → Pst b W σ F1 H1 C (k x) → R' v H1) : tSE X.K b W f σ H R' :=
  ⟨F, m, r, p.bind.imp fun x F1 H1 _ G q v hv => h x F1 H1 v (r.step G) G hv q⟩
/-- an operator by its rule -/
def Op2 (X : Cx) (b : Bs) (W : WX) (fn : Value → Value → Sem Value) (op : D → D → R D) : Prop := ∃ r : R2, OpR X fn r ∧ ∀ (σ : L2.St) (F H : Hp) (Q : VK) (x y : D) (v u : V), Same F H → Rp X.K F b.H0 H x v → Rp X.K F b.H0 H y u →
  Pst b W σ F H (CV X.K b Q) (op x y) → r v u H Q
theorem se_bin {o : Operator} {op : D → D → R D} (ho : Op2 X b W (binaryOp o) op) (hf : SE X b W a f) (hg : SE X b W c g) : SE X b W (.BinOp a o c pos) (e2 op f g) := by
  obtain ⟨r, h1, h2⟩ := ho
  refine PE.weak (pe_op h1 hf hg) fun σ H Q ⟨F, m, R, p⟩ => ?_
  exact seq R p fun x F1 H1 v R1 G1 hv p1 => seq R1 p1 fun y F2 H2 u R2 G2 hu p2 => h2 σ F2 H2 Q x y v u R2.sub (hv.grow G2) hu p2
theorem se_cmp {o : CmpOp} {op : D → D → R D} (ho : Op2 X b W (compareOp o) op) (hf : SE X b W a f) (hg : SE X b W c g) (hm : behindInMarks o c = false) : SE X b W (.Compare a [o] [c] pos) (e2 op f g) := by
  obtain ⟨r, h1, h2⟩ := ho
  refine PE.weak (pe_cmpR h1 hf hg hm) fun σ H Q ⟨F, m, R, p⟩ => ?_
  exact seq R p fun x F1 H1 v R1 G1 hv p1 => seq R1 p1 fun y F2 H2 u R2 G2 hu p2 => h2 σ F2 H2 Q x y v u R2.sub (hv.grow G2) hu p2
theorem asB_pst {σ : L2.St} {F H : Hp} {α : Type} {k : Bool → R α} {C : α → Hp → Hp → Prop} {x : D} {v : V} {K : PySem.W.Frag} {H0 : Hp} (hv : Rp K F H0 H x v) (p : Pst b W σ F H C ((asB x).bind k)) : ∃ c, v = .bl c ∧ x = .bl c ∧ Pst b W σ F H C (k c) := by
  cases x <;> first | exact p.elim | skip
  rename_i c
  cases hv
  exact ⟨c, rfl, rfl, p⟩
theorem st_cmp {o : CmpOp} {op : D → D → R D} (ho : Op2 X b W (compareOp o) op) (hf : SE X b W a f) (hg : SE X b W c g) (hm : behindInMarks o c = false) : ST X b W (.Compare a [o] [c] pos) (tOf (e2 op f g)) := by
  obtain ⟨r, h1, h2⟩ := ho
  refine PT.weak (pt_cmpR h1 hf hg hm) fun σ H Q ⟨F, m, R, p⟩ => ?_
  have p' : Pst b W σ F H (fun c _ H' => Q c H') ((f m).bind fun x => (g m).bind fun y => (op x y).bind asB) := by
    unfold tOf e2 at p
    cases hf : f m <;> rw [hf] at p
    · cases hg : g m <;> rw [hg] at p <;> exact p
    · exact p
    · exact p
  refine seq R p' fun x F1 H1 v R1 G1 hv p1 => seq R1 p1 fun y F2 H2 u R2 G2 hu p2 => h2 σ F2 H2 _ x y v u R2.sub (hv.grow G2) hu ?_
  refine p2.bind.imp fun d F3 H3 _ G3 q w hw => ?_
  have q' : Pst b W σ F3 H3 (fun c _ H' => Q c H') ((asB d).bind fun c => .ok c) := by
    cases h : asB d <;> rw [h] at q <;> exact q
  obtain ⟨c, rfl, rfl, z⟩ := asB_pst hw q'
  exact ⟨c, rfl, z.here (R2.step G3).sub⟩
/-- a test by its value -/
theorem st_val (hf : SE X b W e f) (he : ∀ whole, isTrue e X.env whole = (do let v ← whole; standAt e.pos; holding [v] (truthy v)) := by intro _; rfl) : ST X b W e (tOf f) := by
  refine PT.weak (L2.pt_val hf he) fun σ H Q ⟨F, m, R, p⟩ => ?_
  refine ⟨F, m, R, p.bind.imp fun x F1 H1 _ G q v hv => ?_⟩
  have q' : Pst b W σ F1 H1 (fun c _ H' => Q c H') ((asB x).bind fun c => .ok c) := by
    cases h : asB x <;> rw [h] at q <;> exact q
  obtain ⟨c, rfl, rfl, z⟩ := asB_pst hv q'
  exact ⟨c, rfl, z.here (R.step G).sub⟩
theorem st_not (h : ST X b W a t) : ST X b W (.UnaryOp .Not a pos) (tNot t) := by
  refine PT.weak (L2.pt_not h) fun σ H Q ⟨F, m, R, p⟩ => ?_
  exact ⟨F, m, R, p.bind.imp fun x F1 H1 _ G q => q.here (R.step G).sub⟩
theorem sw_and1 (h : ST X b W a t) : SW X b W (.BoolOp .And [a] pos) t := L2.pw_and1 h
theorem sw_or1 (h : ST X b W a t) : SW X b W (.BoolOp .Or [a] pos) t := L2.pw_or1 h
theorem sw_and {rest : List Expr} (h : ST X b W a t) (k : SW X b W (.BoolOp .And (c :: rest) pos) u) : SW X b W (.BoolOp .And (a :: c :: rest) pos) (tAnd t u) := by
  refine PW.weak (L2.pw_and h k) fun σ H Q ⟨F, m, R, p⟩ => ?_
  refine ⟨F, m, R, p.bind.imp fun x F1 H1 _ G q => ?_⟩
  cases x with
  | true => exact ⟨F1, m, R.step G, q⟩
  | false => exact q.here (R.step G).sub
theorem sw_or {rest : List Expr} (h : ST X b W a t) (k : SW X b W (.BoolOp .Or (c :: rest) pos) u) : SW X b W (.BoolOp .Or (a :: c :: rest) pos) (tOr t u) := by
  refine PW.weak (L2.pw_or h k) fun σ H Q ⟨F, m, R, p⟩ => ?_
  refine ⟨F, m, R, p.bind.imp fun x F1 H1 _ G q => ?_⟩
  cases x with
  | true => exact q.here (R.step G).sub
  | false => exact ⟨F1, m, R.step G, q⟩
theorem st_w (h : SW X b W e t) : ST X b W e t := PW.pt h
theorem se_one {op : BoolOp} (h : SE X b W a f) : SE X b W (.BoolOp op [a] pos) f := L2.pe_one h
theorem se_and {rest : List Expr} (h : SE X b W a f) (k : SE X b W (.BoolOp .And (c :: rest) pos) g) : SE X b W (.BoolOp .And (a :: c :: rest) pos) (eAnd f g) := by
  refine PE.weak (L2.pe_and h k) fun σ H Q ⟨F, m, R, p⟩ => ?_
  refine ⟨F, m, R, p.bind.imp fun x F1 H1 _ G q v hv => ?_⟩
  obtain ⟨c, rfl, rfl, z⟩ := asB_pst hv q
  refine ⟨c, rfl, ?_⟩
  cases c with
  | true => exact ⟨F1, m, R.step G, z⟩
  | false => exact z.here (R.step G).sub _ (.bl _)
theorem se_or {rest : List Expr} (h : SE X b W a f) (k : SE X b W (.BoolOp .Or (c :: rest) pos) g) : SE X b W (.BoolOp .Or (a :: c :: rest) pos) (eOr f g) := by
  refine PE.weak (L2.pe_or h k) fun σ H Q ⟨F, m, R, p⟩ => ?_
  refine ⟨F, m, R, p.bind.imp fun x F1 H1 _ G q v hv => ?_⟩
  obtain ⟨c, rfl, rfl, z⟩ := asB_pst hv q
  refine ⟨c, rfl, ?_⟩
  cases c with
  | true => exact z.here (R.step G).sub _ (.bl _)
  | false => exact ⟨F1, m, R.step G, z⟩
theorem se_not (h : SE X b W a f) : SE X b W (.UnaryOp .Not a pos) (eNot f) := by
  refine PE.weak (L2.pe_not h) fun σ H Q ⟨F, m, R, p⟩ => ?_
  refine ⟨F, m, R, p.bind.imp fun x F1 H1 _ G q v hv => ?_⟩
  obtain ⟨c, rfl, rfl, z⟩ := asB_pst hv q
  exact ⟨c, rfl, z.here (R.step G).sub _ (.bl _)⟩
theorem se_if {tst : Expr} (ht : ST X b W tst t) (hf : SE X b W a f) (hg : SE X b W c g) : SE X b W (.IfExp tst a c pos) (eIf t f g) := by
  refine PE.weak (L2.pe_ifExp ht hf hg) fun σ H Q ⟨F, m, R, p⟩ => ?_
  refine ⟨F, m, R, p.bind.imp fun x F1 H1 _ G q => ?_⟩
  cases x with
  | true => exact ⟨F1, m, R.step G, q⟩
  | false => exact ⟨F1, m, R.step G, q⟩
theorem sa_nil : SA X b W [] aNil := PA.weak pa_nil fun σ H Q ⟨F, m, R, p⟩ => p.here R.sub [] .nil
theorem sa_cons {es : List Expr} {h : SemA} (he : SE X b W e f) (hr : SA X b W es h) (hs : starEach (e :: es) X.env = (false, eval e X.env) :: starEach es X.env := by rfl) : SA X b W (e :: es) (aCons f h) := by
  refine PA.weak (pa_cons he hr hs) fun σ H Q ⟨F, m, R, p⟩ => ?_
  refine seq R p fun x F1 H1 v R1 G1 hv p1 => ⟨F1, m, R1, p1.bind.imp fun xs F2 H2 _ G2 q vs hvs => ?_⟩
  exact q.here (R1.step G2).sub _ (.cons (hv.grow G2) hvs)
/-- an argument list, then a rule -/
theorem seqA {R' : List V → Hp → Prop} {σ : L2.St} {H : Hp} {α : Type} {h : SemA} {k : List D → R α} {C : α → Hp → Hp → Prop} {F : Hp} {m : Sl} (r : Rel X.K b F m σ H) (p : Pst b W σ F H C ((h m).bind k))
    (q : ∀ x F1 H1 v, Rel X.K b F1 m σ H1 → Grow F H F1 H1 → RpL X.K F1 b.H0 H1 x v → Pst b W σ F1 H1 C (k x) → R' v H1) : tSA X.K b W h σ H R' :=
  ⟨F, m, r, p.bind.imp fun x F1 H1 _ G z v hv => q x F1 H1 v (r.step G) G hv z⟩
/-- a display -/
def mkTup (xs : List D) : R D := if xs.length ≤ sizeLine then .ok (.tup xs) else .stuck
theorem se_tup {es : List Expr} {h : SemA} {k : Nat} (ha : SA X b W es h) : SE X b W (.Tuple es k pos) (eA mkTup h) := by
  refine PE.weak (pe_tup ha) fun σ H Q ⟨F, m, R, p⟩ => ?_
  refine seqA R p fun xs F1 H1 vs R1 G1 hv p1 => ?_
  unfold mkTup at p1
  split at p1
  · rename_i hl
    refine ⟨by rw [← hv.length]; exact hl, fun q hq => ?_⟩
    have G := Grow.still (o := .tup vs) R1.sub hq
    exact (p1 _ _ G) _ (.tup upd_same (hv.grow G))
  · exact p1.elim
def mkLst (xs : List D) : R (List D) := if xs.length ≤ sizeLine then .ok xs else .stuck
def aThen (h : SemA) (k : List D → R (List D)) : SemA := fun m => (h m).bind k
theorem so_lst {es : List Expr} {h : SemA} (ha : SA X b W es h) : SO X b W (.List es pos) (aThen h mkLst) := by
  refine PE.weak (pe_lst ha) fun σ H Q ⟨F, m, R, p⟩ => ?_
  refine seqA R p fun xs F1 H1 vs R1 G1 hv p1 => ?_
  unfold mkLst at p1
  split at p1
  · rename_i hl
    refine ⟨by rw [← hv.length]; exact hl, fun q hq => ?_⟩
    have G := Grow.loose (o := .lst vs) R1.sub hq
    exact (p1 _ _ G) q vs (G1.same.free hq) (R1.sub.free hq) upd_same (hv.grow G)
  · exact p1.elim
/-- one's own list as a value -/
def eOwn (h : SemA) : SemE := fun m => (h m).bind fun xs => .ok (.lst false xs)
theorem se_own {h : SemA} (ho : SO X b W e h) : SE X b W e (eOwn h) := by
  refine PE.weak ho fun σ H Q ⟨F, m, R, p⟩ => ?_
  refine ⟨F, m, R, ?_⟩
  unfold eOwn at p
  cases hm : h m with
  | exc c => rw [hm] at p; exact p
  | stuck => rw [hm] at p; exact p.elim
  | ok xs =>
    rw [hm] at p
    refine fun F1 H1 G1 a vs h0 h1 h2 hv => ?_
    have s1 := (R.step G1).sub
    have sF : Same F1 (upd F1 a (.lst vs)) := same_upd h1
    have sH : Same (upd F1 a (.lst vs)) H1 := fun c o hc => by
      by_cases hb : c = a
      · subst hb; rw [upd_same] at hc; rw [h2]; exact hc
      · rw [upd_ne hb] at hc; exact s1 _ _ hc
    refine p (upd F1 a (.lst vs)) H1 ⟨G1.same, G1.sub.trans sF, sH, fun c o hc => ?_⟩ _ (.lst upd_same (hv.mono sF (Same.refl _)))
    by_cases hb : c = a
    · subst hb; exact .inr h0
    · rw [upd_ne hb] at hc; exact G1.new _ _ hc
end
end CT

/-! CtC: operators, subscripts, built-ins -/
namespace CT
open PySem PySem.Spec PyProof.Rows L2

/-! ### arithmetic -/
def addD : D → D → R D
  | .int i, .int j => .ok (.int (i + j))
  | .str x, .str y => if x.length + y.length ≤ sizeLine then .ok (.str (x ++ y)) else .stuck
  | .tup xs, .tup ys => if xs.length + ys.length ≤ sizeLine then .ok (.tup (xs ++ ys)) else .stuck
  | .lst _ xs, .lst _ ys => if xs.length + ys.length ≤ sizeLine then .ok (.lst false (xs ++ ys)) else .stuck
  | _, _ => .stuck
def subD : D → D → R D
  | .int i, .int j => .ok (.int (i - j))
  | _, _ => .stuck
def mulOk (i j : Int) : Prop := (-(2 ^ 64) < i ∧ i < 2 ^ 64) ∨ (-(2 ^ 64) < j ∧ j < 2 ^ 64) ∨ i.natAbs.log2 + j.natAbs.log2 < 1000000
instance (i j : Int) : Decidable (mulOk i j) := by unfold mulOk; infer_instance
def mulD : D → D → R D
  | .int i, .int j => if mulOk i j then .ok (.int (i * j)) else .stuck
  | _, _ => .stuck
def modD : D → D → R D
  | .int i, .int j => if j ≠ 0 then .ok (.int (i.fmod j)) else .stuck
  | _, _ => .stuck
def divOk (j : Int) : Prop := (j ≠ 0 ∧ j.natAbs < 1073741824) ∨ (0 < j ∧ j.natAbs.log2 < 9000)
instance (j : Int) : Decidable (divOk j) := by unfold divOk; infer_instance
def divD : D → D → R D
  | .int i, .int j => if divOk j then .ok (.int (i.fdiv j)) else .stuck
  | _, _ => .stuck
def powD : D → D → R D
  | .int i, .int j => if 0 ≤ j ∧ (Builtin.Int.intBits i : Int) * j ≤ 2 ^ 27 then .ok (.int (i ^ j.toNat)) else .stuck
  | _, _ => .stuck
def shlD : D → D → R D
  | .int i, .int j => if 0 ≤ j ∧ j ≤ 1000000 ∧ i.natAbs < 2 ^ 64 then .ok (.int (i * 2 ^ j.toNat)) else .stuck
  | _, _ => .stuck
def negD : D → R D
  | .int i => .ok (.int (-i))
  | _ => .stuck
section
variable {X : Cx} {b : Bs} {W : WX}
theorem o_add : Op2 X b W (binaryOp .Add) addD := by
  refine ⟨_, (op_add (X := X)).or ((op_add_str (X := X)).or ((op_catA (X := X)).or (op_cat (X := X)))), fun σ F H Q x y v u s hx hy p => ?_⟩
  cases x with
  | int i =>
    cases y <;> first | exact p.elim | skip
    rename_i j
    cases hx; cases hy
    exact .inl ⟨i, j, rfl, rfl, p.here s _ (.int _)⟩
  | str i =>
    cases y <;> first | exact p.elim | skip
    rename_i j
    cases hx; cases hy
    simp only [addD] at p
    split at p
    · rename_i hl
      exact .inr (.inl ⟨i, j, rfl, rfl, hl, p.here s _ (.str _)⟩)
    · exact p.elim
  | tup ds =>
    cases y <;> first | exact p.elim | skip
    rename_i es
    obtain ⟨a, xs, rfl, h1', h2⟩ := hx.tuple'
    obtain ⟨c, ys, rfl, k1', k2⟩ := hy.tuple'
    have h1 : SqT X.K H a xs := .inl (.inl h1')
    have k1 : SqT X.K H c ys := .inl (.inl k1')
    simp only [addD] at p
    split at p
    · rename_i hl
      refine .inr (.inr (.inl ⟨a, c, xs, ys, rfl, rfl, h1, k1, by rw [← h2.length, ← k2.length]; exact hl, fun e => ?_, fun e1 e2 => ?_, fun e1 e2 q hq => ?_⟩))
      · subst e
        cases h2
        exact p.here s _ (.tup k1' k2)
      · subst e2
        cases k2
        rw [List.append_nil] at p
        exact p.here s _ (.tup h1' h2)
      · have G := Grow.still (o := .tup (xs ++ ys)) s hq
        exact (p _ _ G) _ (.tup upd_same ((h2.grow G).app (k2.grow G)))
    · exact p.elim
  | lst t ds =>
    cases y <;> first | exact p.elim | skip
    rename_i t' es
    obtain ⟨a, xs, rfl, h1, h2⟩ := hx.list s
    obtain ⟨c, ys, rfl, k1, k2⟩ := hy.list s
    simp only [addD] at p
    split at p
    · rename_i hl
      refine .inr (.inr (.inr ⟨a, c, xs, ys, rfl, rfl, h1, k1, by rw [← h2.length, ← k2.length]; exact hl, fun q hq => ?_⟩))
      have G := Grow.still (o := .lst (xs ++ ys)) s hq
      exact (p _ _ G) _ (.lst upd_same ((h2.grow G).app (k2.grow G)))
    · exact p.elim
  | unk => exact p.elim
  | ex _ => exact p.elim
  | dct _ _ _ => exact p.elim
  | non => exact p.elim
  | bl _ => exact p.elim
  | fr _ => exact p.elim
/-- list + list, as one's own -/
def catL : D → D → R (List D)
  | .lst _ xs, .lst _ ys => if xs.length + ys.length ≤ sizeLine then .ok (xs ++ ys) else .stuck
  | _, _ => .stuck
def a2 (op : D → D → R (List D)) (f g : SemE) : SemA := fun m => (f m).bind fun x => (g m).bind fun y => op x y
theorem so_cat {a c : Expr} {f g : SemE} {pos : Pos} (hf : SE X b W a f) (hg : SE X b W c g) : SO X b W (.BinOp a .Add c pos) (a2 catL f g) := by
  refine PE.weak (pe_op (op_cat (X := X)) hf hg) fun σ H Q ⟨F, m, R, p⟩ => ?_
  refine seq R p fun x F1 H1 v R1 G1 hv p1 => seq R1 p1 fun y F2 H2 u R2 G2 hu p2 => ?_
  have hv := hv.grow G2
  cases x <;> first | exact p2.elim | skip
  cases y <;> first | exact p2.elim | skip
  obtain ⟨a, xs, rfl, h1, h2⟩ := hv.list R2.sub
  obtain ⟨c, ys, rfl, k1, k2⟩ := hu.list R2.sub
  simp only [catL] at p2
  split at p2
  · rename_i hl
    refine ⟨a, c, xs, ys, rfl, rfl, h1, k1, by rw [← h2.length, ← k2.length]; exact hl, fun q hq => ?_⟩
    have G := Grow.loose (o := .lst (xs ++ ys)) R2.sub hq
    exact (p2 _ _ G) q _ ((G1.trans G2).same.free hq) (R2.sub.free hq) upd_same ((h2.grow G).app (k2.grow G))
  · exact p2.elim

/-- two ints -/
theorem o_int2 {fn : Value → Value → Sem Value} {op : D → D → R D} {r : R2} (h : OpR X fn r) (hs : ∀ x y, (∃ i j, x = .int i ∧ y = .int j) ∨ op x y = .stuck)
    (hr : ∀ (i j : Int) (H : Hp) (Q : VK), (∃ d, op (.int i) (.int j) = .ok d) → (∀ d v, op (.int i) (.int j) = .ok d → (∀ K F H0, Rp K F H0 H d v) → Q v H) → r (.int i) (.int j) H Q)
    (hx : ∀ (i j : Int) c, op (.int i) (.int j) ≠ .exc c) : Op2 X b W fn op := by
  refine ⟨r, h, fun σ F H Q x y v u s vx vy p => ?_⟩
  rcases hs x y with ⟨i, j, rfl, rfl⟩ | e
  · cases vx; cases vy
    refine hr i j H Q ?_ fun d v e hv => ?_
    · cases e : op (.int i) (.int j) with
      | ok d => exact ⟨d, rfl⟩
      | exc c => exact absurd e (hx i j c)
      | stuck => rw [e] at p; exact p.elim
    · rw [e] at p
      exact p.here s v (hv _ _ _)
  · rw [e] at p; exact p.elim
theorem two_ints (P : D → D → Prop) (h : ∀ x y, (∃ i j, x = D.int i ∧ y = D.int j) ∨ P x y) : ∀ x y, (∃ i j, x = D.int i ∧ y = D.int j) ∨ P x y := h
theorem o_sub : Op2 X b W (binaryOp .Sub) subD := o_int2 op_sub (fun x y => by cases x <;> cases y <;> first | exact .inr rfl | exact .inl ⟨_, _, rfl, rfl⟩)
  (fun i j H Q _ q => ⟨i, j, rfl, rfl, q _ _ rfl fun _ _ _ => .int _⟩) (fun _ _ _ e => nomatch e)
theorem o_mul : Op2 X b W (binaryOp .Mult) mulD := o_int2 ((op_mul (X := X)).or (op_mulW (X := X))) (fun x y => by cases x <;> cases y <;> first | exact .inr rfl | exact .inl ⟨_, _, rfl, rfl⟩)
  (fun i j H Q ⟨d, e⟩ q => by
    have e' := e
    simp only [mulD] at e
    split at e
    · rename_i hc
      have e2 : mulD (.int i) (.int j) = .ok (.int (i * j)) := by simp only [mulD]; rw [if_pos hc]
      rcases hc with hc | hc | hc
      · exact .inl ⟨i, j, rfl, rfl, .inl hc, q _ _ e2 fun _ _ _ => .int _⟩
      · exact .inl ⟨i, j, rfl, rfl, .inr hc, q _ _ e2 fun _ _ _ => .int _⟩
      · exact .inr ⟨i, j, rfl, rfl, hc, q _ _ e2 fun _ _ _ => .int _⟩
    · cases e) (fun i j c e => by simp only [mulD] at e; split at e <;> cases e)
theorem o_mod : Op2 X b W (binaryOp .Mod) modD := o_int2 op_modN (fun x y => by cases x <;> cases y <;> first | exact .inr rfl | exact .inl ⟨_, _, rfl, rfl⟩)
  (fun i j H Q ⟨d, e⟩ q => by
    simp only [modD] at e
    split at e
    · rename_i hc
      exact ⟨i, j, rfl, rfl, hc, q _ _ (by simp only [modD]; rw [if_pos hc]) fun _ _ _ => .int _⟩
    · cases e) (fun i j c e => by simp only [modD] at e; split at e <;> cases e)
theorem o_div : Op2 X b W (binaryOp .FloorDiv) divD := o_int2 ((op_fdivN (X := X)).or (op_fdivW (X := X))) (fun x y => by cases x <;> cases y <;> first | exact .inr rfl | exact .inl ⟨_, _, rfl, rfl⟩)
  (fun i j H Q ⟨d, e⟩ q => by
    simp only [divD] at e
    split at e
    · rename_i hc
      have e2 : divD (.int i) (.int j) = .ok (.int (i.fdiv j)) := by simp only [divD]; rw [if_pos hc]
      rcases hc with hc | hc
      · exact .inl ⟨i, j, rfl, rfl, hc, q _ _ e2 fun _ _ _ => .int _⟩
      · refine .inr ⟨i, j, rfl, rfl, hc, q _ _ e2 fun _ _ _ => ?_⟩
        rw [Int.fdiv_eq_ediv_of_nonneg i (by have := hc.1; omega)]
        exact .int _
    · cases e) (fun i j c e => by simp only [divD] at e; split at e <;> cases e)
theorem op_powB : OpR X (binaryOp .Pow) (rI (fun i j => 0 ≤ j ∧ (Builtin.Int.intBits i : Int) * j ≤ 2 ^ 27) fun i j => .int (i ^ j.toNat)) := opI fun _ _ _ _ _ _ _ hc q => pow_int hc.1 hc.2 q
theorem o_pow : Op2 X b W (binaryOp .Pow) powD := o_int2 op_powB (fun x y => by cases x <;> cases y <;> first | exact .inr rfl | exact .inl ⟨_, _, rfl, rfl⟩)
  (fun i j H Q ⟨d, e⟩ q => by
    simp only [powD] at e
    split at e
    · rename_i hc
      exact ⟨i, j, rfl, rfl, hc, q _ _ (by simp only [powD]; rw [if_pos hc]) fun _ _ _ => .int _⟩
    · cases e) (fun i j c e => by simp only [powD] at e; split at e <;> cases e)
theorem o_shl : Op2 X b W (binaryOp .LShift) shlD := o_int2 op_shl (fun x y => by cases x <;> cases y <;> first | exact .inr rfl | exact .inl ⟨_, _, rfl, rfl⟩)
  (fun i j H Q ⟨d, e⟩ q => by
    simp only [shlD] at e
    split at e
    · rename_i hc
      exact ⟨i, j, rfl, rfl, hc, q _ _ (by simp only [shlD]; rw [if_pos hc]) fun _ _ _ => .int _⟩
    · cases e) (fun i j c e => by simp only [shlD] at e; split at e <;> cases e)
theorem se_neg {a : Expr} {f : SemE} {pos : Pos} (h : SE X b W a f) : SE X b W (.UnaryOp .USub a pos) (e1 negD f) := by
  refine PE.weak (pe_un un_neg h) fun σ H Q ⟨F, m, R, p⟩ => ?_
  refine ⟨F, m, R, p.bind.imp fun x F1 H1 _ G q v hv => ?_⟩
  cases x <;> first | exact q.elim | skip
  cases hv
  exact ⟨_, rfl, q.here (R.step G).sub _ (.int _)⟩

/-! ### comparisons -/
def eqvD (x y : D) : Bool := PyData.eqv (py x) (py y)
def strs2 : D → D → Bool
  | .str _, .str _ => true
  | _, _ => false
def eqD (x y : D) : R D := if (SeqAt.shaped (py x) && SeqAt.shaped (py y) || strs2 x y) = true then .ok (.bl (eqvD x y)) else .stuck
def neD (x y : D) : R D := if (SeqAt.shaped (py x) && SeqAt.shaped (py y) || strs2 x y) = true then .ok (.bl (!eqvD x y)) else .stuck
theorem o_eq (hu : X.A.units + 64 < cLine) : Op2 X b W (compareOp .Eq) eqD := ⟨_, (op_eqD hu).or op_eq, fun σ F H Q x y v u s hx hy p => by
  unfold eqD at p
  split at p
  · rename_i h
    rw [Bool.or_eq_true, Bool.and_eq_true] at h
    rcases h with h | h
    · exact .inl ⟨_, _, Rp.dp s _ _ (okP_sh h.1) hx, Rp.dp s _ _ (okP_sh h.2) hy, h.1, h.2, p.here s _ (.bl _)⟩
    · refine .inr ?_
      cases x <;> first | (cases h; done) | skip
      cases y <;> first | (cases h; done) | skip
      cases hx
      cases hy
      rename_i a c
      refine ⟨rfl, ?_⟩
      have e : decide (V.str a = V.str c) = eqvD (.str a) (.str c) := by rw [dec_str]; simp [eqvD, py, PyData.eqv]
      rw [e]
      exact p.here s _ (.bl _)
  · exact p.elim⟩
theorem o_ne (hu : X.A.units + 64 < cLine) : Op2 X b W (compareOp .NotEq) neD := ⟨_, (op_neD hu).or op_ne, fun σ F H Q x y v u s hx hy p => by
  unfold neD at p
  split at p
  · rename_i h
    rw [Bool.or_eq_true, Bool.and_eq_true] at h
    rcases h with h | h
    · exact .inl ⟨_, _, Rp.dp s _ _ (okP_sh h.1) hx, Rp.dp s _ _ (okP_sh h.2) hy, h.1, h.2, p.here s _ (.bl _)⟩
    · refine .inr ?_
      cases x <;> first | (cases h; done) | skip
      cases y <;> first | (cases h; done) | skip
      cases hx
      cases hy
      rename_i a c
      refine ⟨rfl, ?_⟩
      have e : decide (V.str a = V.str c) = eqvD (.str a) (.str c) := by rw [dec_str]; simp [eqvD, py, PyData.eqv]
      rw [e]
      exact p.here s _ (.bl _)
  · exact p.elim⟩
def ltD : D → D → R D
  | .int i, .int j => .ok (.bl (decide (i < j)))
  | _, _ => .stuck
def leD : D → D → R D
  | .int i, .int j => .ok (.bl (decide (i ≤ j)))
  | _, _ => .stuck
def gtD : D → D → R D
  | .int i, .int j => .ok (.bl (decide (j < i)))
  | _, _ => .stuck
def geD : D → D → R D
  | .int i, .int j => .ok (.bl (decide (j ≤ i)))
  | _, _ => .stuck
theorem o_lt : Op2 X b W (compareOp .Lt) ltD := o_int2 op_lt (fun x y => by cases x <;> cases y <;> first | exact .inr rfl | exact .inl ⟨_, _, rfl, rfl⟩)
  (fun i j H Q _ q => ⟨i, j, rfl, rfl, q _ _ rfl fun _ _ _ => .bl _⟩) (fun _ _ _ e => nomatch e)
theorem o_le : Op2 X b W (compareOp .LtE) leD := o_int2 op_le (fun x y => by cases x <;> cases y <;> first | exact .inr rfl | exact .inl ⟨_, _, rfl, rfl⟩)
  (fun i j H Q _ q => ⟨i, j, rfl, rfl, q _ _ rfl fun _ _ _ => .bl _⟩) (fun _ _ _ e => nomatch e)
theorem o_gt : Op2 X b W (compareOp .Gt) gtD := o_int2 op_gt (fun x y => by cases x <;> cases y <;> first | exact .inr rfl | exact .inl ⟨_, _, rfl, rfl⟩)
  (fun i j H Q _ q => ⟨i, j, rfl, rfl, q _ _ rfl fun _ _ _ => .bl _⟩) (fun _ _ _ e => nomatch e)
theorem o_ge : Op2 X b W (compareOp .GtE) geD := o_int2 op_ge (fun x y => by cases x <;> cases y <;> first | exact .inr rfl | exact .inl ⟨_, _, rfl, rfl⟩)
  (fun i j H Q _ q => ⟨i, j, rfl, rfl, q _ _ rfl fun _ _ _ => .bl _⟩) (fun _ _ _ e => nomatch e)

/-- two comparisons in a chain -/
def eChain (p q : D → D → R D) (f g h : SemE) : SemE := fun m => (f m).bind fun x => (g m).bind fun y => (p x y).bind fun z => (asB z).bind fun c => if c = true then (h m).bind fun w => q y w else .ok (.bl false)
theorem se_chain {a c e : Expr} {f g h : SemE} {o o' : CmpOp} {p q : D → D → R D} {pos : Pos} (ho : Op2 X b W (compareOp o) p) (ho' : Op2 X b W (compareOp o') q) (hf : SE X b W a f) (hg : SE X b W c g) (hh : SE X b W e h)
    (hm : lastMarks [o, o'] [c, e] = false := by rfl) : SE X b W (.Compare a [o, o'] [c, e] pos) (eChain p q f g h) := by
  obtain ⟨r, h1, h2⟩ := ho
  obtain ⟨r', k1, k2⟩ := ho'
  refine PE.weak (pe_chain h1 k1 hf hg hh hm) fun σ H Q ⟨F, m, R, P⟩ => ?_
  refine seq R P fun x F1 H1 v R1 G1 hv p1 => seq R1 p1 fun y F2 H2 u R2 G2 hu p2 => h2 σ F2 H2 _ x y v u R2.sub (hv.grow G2) hu ?_
  refine p2.bind.imp fun z F3 H3 _ G3 p3 w hw => ?_
  obtain ⟨c, rfl, rfl, p4⟩ := asB_pst hw p3
  refine ⟨c, rfl, ?_⟩
  cases c with
  | false => exact p4.here (R2.step G3).sub _ (.bl _)
  | true => exact seq (R2.step G3) p4 fun t F4 H4 w' R4 G4 hw' p5 => k2 σ F4 H4 Q y t u w' R4.sub ((hu.grow G3).grow G4) hw' p5
theorem st_of {e : Expr} {f : SemE} (hf : SE X b W e f) (he : ∀ whole, isTrue e X.env whole = (do let v ← whole; standAt e.pos; holding [v] (truthy v)) := by intro _; rfl) : ST X b W e (tOf f) := st_val hf he
theorem st_chain {a c e : Expr} {f g h : SemE} {o o' : CmpOp} {p q : D → D → R D} {pos : Pos} (ho : Op2 X b W (compareOp o) p) (ho' : Op2 X b W (compareOp o') q) (hf : SE X b W a f) (hg : SE X b W c g) (hh : SE X b W e h)
    (hm : lastMarks [o, o'] [c, e] = false := by rfl) : ST X b W (.Compare a [o, o'] [c, e] pos) (tOf (eChain p q f g h)) := by
  obtain ⟨r, h1, h2⟩ := ho
  obtain ⟨r', k1, k2⟩ := ho'
  refine PT.weak (pt_chain h1 k1 hf hg hh hm) fun σ H Q ⟨F, m, R, P⟩ => ?_
  have P' : Pst b W σ F H (fun c _ H' => Q c H') ((f m).bind fun x => (g m).bind fun y => (p x y).bind fun z => (asB z).bind fun c => if c = true then (h m).bind fun w => (q y w).bind asB else .ok false) := by
    unfold tOf eChain at P
    cases hf : f m with
    | exc _ => rw [hf] at P; exact P
    | stuck => rw [hf] at P; exact P
    | ok x =>
      rw [hf] at P
      simp only [CT.R.bind_ok] at P ⊢
      cases hg : g m with
      | exc _ => rw [hg] at P; exact P
      | stuck => rw [hg] at P; exact P
      | ok y =>
        rw [hg] at P
        simp only [CT.R.bind_ok] at P ⊢
        cases hp : p x y with
        | exc _ => rw [hp] at P; exact P
        | stuck => rw [hp] at P; exact P
        | ok z =>
          rw [hp] at P
          simp only [CT.R.bind_ok] at P ⊢
          cases hz : asB z with
          | exc _ => rw [hz] at P; exact P
          | stuck => rw [hz] at P; exact P
          | ok c =>
            rw [hz] at P
            simp only [CT.R.bind_ok] at P ⊢
            cases c with
            | false => exact P
            | true =>
              simp only [if_true] at P ⊢
              cases hh : h m with
              | exc _ => rw [hh] at P; exact P
              | stuck => rw [hh] at P; exact P
              | ok w => rw [hh] at P; exact P
  refine seq R P' fun x F1 H1 v R1 G1 hv p1 => seq R1 p1 fun y F2 H2 u R2 G2 hu p2 => h2 σ F2 H2 _ x y v u R2.sub (hv.grow G2) hu ?_
  refine p2.bind.imp fun z F3 H3 _ G3 p3 w hw => ?_
  obtain ⟨c, rfl, rfl, p4⟩ := asB_pst hw p3
  refine ⟨c, rfl, ?_⟩
  cases c with
  | false => exact ⟨false, rfl, p4.here (R2.step G3).sub⟩
  | true => 
    refine seq (R2.step G3) p4 fun t F4 H4 w' R4 G4 hw' p5 => k2 σ F4 H4 _ y t u w' R4.sub ((hu.grow G3).grow G4) hw' ?_
    refine p5.bind.imp fun d F5 H5 _ G5 q5 w5 hw5 => ?_
    have q' : Pst b W σ F5 H5 (fun c _ H' => Q c H') ((asB d).bind fun c => .ok c) := by
      cases h : asB d <;> rw [h] at q5 <;> exact q5
    obtain ⟨c, rfl, rfl, z⟩ := asB_pst hw5 q'
    exact ⟨c, rfl, z.here (R4.step G5).sub⟩

/-! ### in, not in -/
def isSc : D → Bool
  | .non => true
  | .bl _ => true
  | .int _ => true
  | .str _ => true
  | _ => false
def memD (x : D) (ys : List D) : Bool := ys.any fun z => eqvD z x
def inD (x : D) : D → R D
  | .lst _ ys => if (SeqAt.shaped (py x) && SeqAt.shaped (.list (pyL ys))) = true then .ok (.bl (memD x ys)) else .stuck
  | .fr ys => if (SeqAt.shaped (py x) && SeqAt.shaped (.list (pyL ys))) = true then .ok (.bl (memD x ys)) else .stuck
  | .tup ys => if (isSc x && ys.all isSc) = true then .ok (.bl (memD x ys)) else .stuck
  | .str y => match x with
    | .str z => .ok (.bl (!(Builtin.Str.occurrences y z 0 y.length 1).isEmpty))
    | _ => .stuck
  | _ => .stuck
def notInD (x y : D) : R D := (inD x y).bind fun d => (asB d).bind fun c => .ok (.bl (!c))
theorem pyL_map : ∀ ys : List D, pyL ys = ys.map py
  | [] => rfl
  | y :: ys => by rw [pyL, pyL_map ys]; rfl
theorem memD_py (x : D) (ys : List D) : (pyL ys).any (fun z => PyData.eqv z (py x)) = memD x ys := by
  rw [pyL_map, List.any_map]; rfl
theorem sc_flat {K : PySem.W.Frag} {F H0 H : Hp} {x : D} {v : V} (h : isSc x = true) (r : Rp K F H0 H x v) : flatV v = true := by
  cases x <;> first | (simp [isSc] at h; done) | (cases r; rfl)
theorem sc_eq {K : PySem.W.Frag} {F H0 H : Hp} {x y : D} {v u : V} (h : isSc x = true) (h' : isSc y = true) (r : Rp K F H0 H x v) (r' : Rp K F H0 H y u) : eqV v u = eqvD x y := by
  cases x <;> first | (simp [isSc] at h; done) | (cases r; cases y <;> first | (simp [isSc] at h'; done) | (cases r'; simp [eqV, eqvD, py, PyData.eqv]))
theorem sc_all {K : PySem.W.Frag} {F H0 H : Hp} : ∀ {ys : List D} {us : List V}, ys.all isSc = true → RpL K F H0 H ys us → us.all flatV = true
  | _, _, _, .nil => rfl
  | _, _, h, .cons r t => by
    rw [List.all_cons, Bool.and_eq_true] at h ⊢
    exact ⟨sc_flat h.1 r, sc_all h.2 t⟩
theorem sc_mem {K : PySem.W.Frag} {F H0 H : Hp} {x : D} {v : V} (hx : isSc x = true) (rx : Rp K F H0 H x v) : ∀ {ys : List D} {us : List V}, ys.all isSc = true → RpL K F H0 H ys us → inV v us = memD x ys
  | _, _, _, .nil => rfl
  | _, _, h, .cons r t => by
    rw [List.all_cons, Bool.and_eq_true] at h
    unfold inV memD
    rw [List.any_cons, List.any_cons, sc_eq h.1 hx r rx]
    have := sc_mem hx rx h.2 t
    unfold inV memD at this
    rw [this]
theorem o_in (hu : X.A.units + 65 < cLine) : Op2 X b W (compareOp .In) inD := by
  refine ⟨_, (op_inD hu).or ((op_in_seq (X := X)).or (op_in_str (X := X))), fun σ F H Q x y v u s hx hy p => ?_⟩
  cases y with
  | lst t ys =>
    simp only [inD] at p
    split at p
    · rename_i h
      rw [Bool.and_eq_true] at h
      have hy' := Rp.dp s _ _ (by rw [okP]; exact okPL_sh h.2) hy
      rw [py] at hy'
      exact .inl ⟨_, _, Rp.dp s _ _ (okP_sh h.1) hx, hy', h.1, h.2, by rw [memD_py]; exact p.here s _ (.bl _)⟩
    · exact p.elim
  | fr ys =>
    simp only [inD] at p
    split at p
    · rename_i h
      rw [Bool.and_eq_true] at h
      have hy' := Rp.dp s _ _ (by rw [okP]; exact okPL_sh h.2) hy
      rw [py] at hy'
      exact .inl ⟨_, _, Rp.dp s _ _ (okP_sh h.1) hx, hy', h.1, h.2, by rw [memD_py]; exact p.here s _ (.bl _)⟩
    · exact p.elim
  | tup ys =>
    simp only [inD] at p
    split at p
    · rename_i h
      rw [Bool.and_eq_true] at h
      obtain ⟨a, us, rfl, h1, h2⟩ := hy.tuple
      refine .inr (.inl ⟨a, us, rfl, .inr h1, sc_flat h.1 hx, sc_all h.2 h2, ?_⟩)
      rw [sc_mem h.1 hx h.2 h2]
      exact p.here s _ (.bl _)
    · exact p.elim
  | str y =>
    cases x <;> first | exact p.elim | skip
    cases hx; cases hy
    exact .inr (.inr ⟨_, _, rfl, rfl, p.here s _ (.bl _)⟩)
  | non => exact p.elim
  | bl _ => exact p.elim
  | int _ => exact p.elim
  | unk => exact p.elim
  | ex _ => exact p.elim
  | dct _ _ _ => exact p.elim
theorem o_notIn (hu : X.A.units + 65 < cLine) : Op2 X b W (compareOp .NotIn) notInD := by
  refine ⟨_, (op_notInD hu).or ((op_notIn_seq (X := X)).or (op_notIn_str (X := X))), fun σ F H Q x y v u s hx hy p => ?_⟩
  unfold notInD at p
  cases y with
  | lst t ys =>
    simp only [inD] at p
    split at p
    · rename_i h
      rw [Bool.and_eq_true] at h
      have hy' := Rp.dp s _ _ (by rw [okP]; exact okPL_sh h.2) hy
      rw [py] at hy'
      exact .inl ⟨_, _, Rp.dp s _ _ (okP_sh h.1) hx, hy', h.1, h.2, by rw [memD_py]; exact p.here s _ (.bl _)⟩
    · exact p.elim
  | fr ys =>
    simp only [inD] at p
    split at p
    · rename_i h
      rw [Bool.and_eq_true] at h
      have hy' := Rp.dp s _ _ (by rw [okP]; exact okPL_sh h.2) hy
      rw [py] at hy'
      exact .inl ⟨_, _, Rp.dp s _ _ (okP_sh h.1) hx, hy', h.1, h.2, by rw [memD_py]; exact p.here s _ (.bl _)⟩
    · exact p.elim
  | tup ys =>
    simp only [inD] at p
    split at p
    · rename_i h
      rw [Bool.and_eq_true] at h
      obtain ⟨a, us, rfl, h1, h2⟩ := hy.tuple
      refine .inr (.inl ⟨a, us, rfl, .inr h1, sc_flat h.1 hx, sc_all h.2 h2, ?_⟩)
      rw [sc_mem h.1 hx h.2 h2]
      exact p.here s _ (.bl _)
    · exact p.elim
  | str y =>
    cases x <;> first | exact p.elim | skip
    cases hx; cases hy
    exact .inr (.inr ⟨_, _, rfl, rfl, p.here s _ (.bl _)⟩)
  | non => exact p.elim
  | bl _ => exact p.elim
  | int _ => exact p.elim
  | unk => exact p.elim
  | ex _ => exact p.elim
  | dct _ _ _ => exact p.elim
def isNon : D → Bool
  | .non => true
  | _ => false
def isNonD (x : D) : R D := .ok (.bl (isNon x))
def notNonD (x : D) : R D := .ok (.bl (!isNon x))
theorem rp_non {K : PySem.W.Frag} {F H0 H : Hp} {x : D} {v : V} (r : Rp K F H0 H x v) : decide (v = .non) = isNon x := by
  cases r <;> rfl
theorem se_isN {a : Expr} {f : SemE} {pos pos' : Pos} {j : Nat} (h : SE X b W a f) : SE X b W (.Compare a [.Is] [.Constant .none j pos'] pos) (e1 isNonD f) := by
  refine PE.weak (pe_cmp (pc_isN h) rfl) fun σ H Q ⟨F, m, R, p⟩ => ?_
  refine ⟨F, m, R, p.bind.imp fun x F1 H1 _ G q v hv => ?_⟩
  show Q (V.bl (decide (v = .non))) H1
  rw [rp_non hv]
  exact q.here (R.step G).sub _ (.bl _)
theorem se_notN {a : Expr} {f : SemE} {pos pos' : Pos} {j : Nat} (h : SE X b W a f) : SE X b W (.Compare a [.IsNot] [.Constant .none j pos'] pos) (e1 notNonD f) := by
  refine PE.weak (pe_cmp (pc_notN h) rfl) fun σ H Q ⟨F, m, R, p⟩ => ?_
  refine ⟨F, m, R, p.bind.imp fun x F1 H1 _ G q v hv => ?_⟩
  show Q (V.bl (!decide (v = .non))) H1
  rw [rp_non hv]
  exact q.here (R.step G).sub _ (.bl _)

/-! ### subscripts -/
def ixD : D → D → R D
  | .lst _ xs, .int i => match atI xs i with
    | some d => .ok d
    | none => .stuck
  | .fr xs, .int i => match atI xs i with
    | some d => .ok d
    | none => .stuck
  | .tup xs, .int i => match atI xs i with
    | some d => .ok d
    | none => .stuck
  | .str z, .int i => if z.length ≤ sizeLine then (match atI z.cps.toList i with
    | some c => .ok (.str ⟨#[c]⟩)
    | none => .stuck) else .stuck
  | _, _ => .stuck
theorem atI_rp {K : PySem.W.Frag} {F H0 H : Hp} {ds : List D} {vs : List V} {i : Int} {d : D} (r : RpL K F H0 H ds vs) (e : atI ds i = some d) : ∃ v, atI vs i = some v ∧ Rp K F H0 H d v := by
  unfold atI at e ⊢
  rw [← r.length]
  cases h : ixN ds.length i with
  | none => rw [h] at e; cases e
  | some j => rw [h] at e; exact r.get e
theorem se_ix {a c : Expr} {f g : SemE} {pos : Pos} (hf : SE X b W a f) (hg : SE X b W c g) (hs : PlainIx c := by exact fun _ _ => rfl) : SE X b W (.Subscript a c pos) (e2 ixD f g) := by
  refine PE.weak (pe_ix ix_seq hf hg hs) fun σ H Q ⟨F, m, R, p⟩ => ?_
  refine seq R p fun x F1 H1 v R1 G1 hv p1 => seq R1 p1 fun y F2 H2 u R2 G2 hu p2 => ?_
  have hv := hv.grow G2
  cases x <;> first | exact p2.elim | skip
  · -- a text
    cases y <;> first | exact p2.elim | skip
    cases hv; cases hu
    simp only [ixD] at p2
    split at p2
    · rename_i hz
      split at p2
      · rename_i c hc
        exact .inr (.inr ⟨_, _, c, rfl, rfl, hz, hc, p2.here R2.sub _ (.str _)⟩)
      · exact p2.elim
    · exact p2.elim
  · cases y <;> first | exact p2.elim | skip
    obtain ⟨a, xs, rfl, h1, h2⟩ := hv.tuple
    cases hu
    simp only [ixD] at p2
    split at p2
    · rename_i d hd
      obtain ⟨w, k1, k2⟩ := atI_rp h2 hd
      exact .inr (.inl ⟨a, xs, _, w, rfl, rfl, h1, k1, p2.here R2.sub _ k2⟩)
    · exact p2.elim
  · cases y <;> first | exact p2.elim | skip
    obtain ⟨a, xs, rfl, h1, h2⟩ := hv.list R2.sub
    cases hu
    simp only [ixD] at p2
    split at p2
    · rename_i d hd
      obtain ⟨w, k1, k2⟩ := atI_rp h2 hd
      exact .inl ⟨a, xs, _, w, rfl, rfl, .inl (.inl h1), k1, p2.here R2.sub _ k2⟩
    · exact p2.elim
  · cases y <;> first | exact p2.elim | skip
    obtain ⟨a, xs, rfl, h1, h2⟩ := hv.frl R2.sub
    cases hu
    simp only [ixD] at p2
    split at p2
    · rename_i d hd
      obtain ⟨w, k1, k2⟩ := atI_rp h2 hd
      exact .inl ⟨a, xs, _, w, rfl, rfl, h1, k1, p2.here R2.sub _ k2⟩
    · exact p2.elim
end
end CT

/-! CtD: slices, built-ins, calls; walks; statements -/
namespace CT
open PySem PySem.Spec PyProof.Rows L2

/-! ### slices -/
abbrev SemP := Sl → R (Option Int)
def tSP (K : PySem.W.Frag) (b : Bs) (W : WX) (f : SemP) : TO := fun σ H Q => ∃ F m, Rel K b F m σ H ∧ Pst b W σ F H (fun o _ H' => Q o H') (f m)
abbrev SP (X : Cx) (b : Bs) (W : WX) (e : Option Expr) (f : SemP) : Prop := PO X e (tSP X.K b W f)
def pNo : SemP := fun _ => .ok none
def asI : D → R Int
  | .int i => .ok i
  | _ => .stuck
def pSo (f : SemE) : SemP := fun m => (f m).bind fun d => (asI d).bind fun i => .ok (some i)
def cutA {α : Type} (xs : List α) (lo hi : Option Int) : List α := (xs.drop (HT.sIx xs.length 0 lo)).take (HT.sIx xs.length xs.length hi - HT.sIx xs.length 0 lo)
def cutD (x : D) (lo hi : Option Int) : R D := match x with
  | .lst _ xs => .ok (.lst false (cutA xs lo hi))
  | .fr xs => .ok (.lst false (cutA xs lo hi))
  | .tup xs => .ok (.tup (cutA xs lo hi))
  | .str z => if z.length ≤ sizeLine then .ok (.str (cutS z lo hi)) else .stuck
  | _ => .stuck
def eCut (f : SemE) (p q : SemP) : SemE := fun m => (f m).bind fun x => (p m).bind fun lo => (q m).bind fun hi => cutD x lo hi
def cutO (x : D) (lo hi : Option Int) : R (List D) := match x with
  | .lst _ xs => .ok (cutA xs lo hi)
  | .fr xs => .ok (cutA xs lo hi)
  | _ => .stuck
def aCut (f : SemE) (p q : SemP) : SemA := fun m => (f m).bind fun x => (p m).bind fun lo => (q m).bind fun hi => cutO x lo hi
section
variable {X : Cx} {b : Bs} {W : WX} {e : Expr} {f g : SemE} {pos p2 : Pos} {lo hi : Option Expr} {p q : SemP}
theorem sp_no : SP X b W none pNo := PO.weak po_none fun σ H Q ⟨F, m, R, z⟩ => z.here R.sub
theorem sp_so (h : SE X b W e f) : SP X b W (some e) (pSo f) := PO.weak (po_some h) fun σ H Q ⟨F, m, R, z⟩ => by
  refine ⟨F, m, R, z.bind.imp fun x F1 H1 _ G z1 v hv => ?_⟩
  cases x <;> first | exact z1.elim | skip
  cases hv
  exact ⟨_, rfl, z1.here (R.step G).sub⟩
theorem cutA_rp {K : PySem.W.Frag} {F H0 H : Hp} {ds : List D} {vs : List V} (r : RpL K F H0 H ds vs) (lo hi : Option Int) : RpL K F H0 H (cutA ds lo hi) (cutV vs lo hi) := by
  unfold cutA cutV
  rw [r.length]
  exact (r.drop _).take _
theorem cutA_all {α : Type} {xs : List α} {lo hi : Option Int} (h1 : HT.sIx xs.length 0 lo = 0) (h2 : HT.sIx xs.length xs.length hi = xs.length) : cutA xs lo hi = xs := by
  unfold cutA
  rw [h1, h2, List.drop_zero, Nat.sub_zero, List.take_length]
theorem seqP {R' : Option Int → Hp → Prop} {σ : L2.St} {H : Hp} {α : Type} {h : SemP} {k : Option Int → R α} {C : α → Hp → Hp → Prop} {F : Hp} {m : Sl} (r : Rel X.K b F m σ H) (p : Pst b W σ F H C ((h m).bind k))
    (q : ∀ x F1 H1, Rel X.K b F1 m σ H1 → Grow F H F1 H1 → Pst b W σ F1 H1 C (k x) → R' x H1) : tSP X.K b W h σ H R' :=
  ⟨F, m, r, p.bind.imp fun x F1 H1 _ G z => q x F1 H1 (r.step G) G z⟩
theorem se_cut (hf : SE X b W e f) (hp : SP X b W lo p) (hq : SP X b W hi q) : SE X b W (.Subscript e (.Slice lo hi none p2) pos) (eCut f p q) := by
  refine PE.weak (pe_slice ((sl_list (X := X)).or ((sl_tupA (X := X)).or (sl_str (X := X)))) hf hp hq) fun σ H Q ⟨F, m, R, z⟩ => ?_
  refine seq R z fun x F1 H1 v R1 G1 hv z1 => seqP R1 z1 fun lo F2 H2 R2 G2 z2 => seqP R2 z2 fun hi F3 H3 R3 G3 z3 => ?_
  have hv := (hv.grow G2).grow G3
  have s := R3.sub
  cases x <;> first | exact z3.elim | skip
  · -- a text
    cases hv
    simp only [cutD] at z3
    split at z3
    · rename_i hl
      exact .inr (.inr ⟨_, rfl, hl, z3.here s _ (.str _)⟩)
    · exact z3.elim
  · obtain ⟨a, xs, rfl, h1', h2⟩ := hv.tuple'
    have h1 : SqT X.K H3 a xs := .inl (.inl h1')
    refine .inr (.inl ⟨a, xs, rfl, h1, fun hw => ?_, fun hw q hq => ?_⟩)
    · rw [← h2.length] at hw
      have z4 := z3.here s
      simp only [CV] at z4
      rw [cutA_all hw.1 hw.2] at z4
      exact z4 _ (.tup h1' h2)
    · have G := Grow.still (o := .tup (cutV xs lo hi)) s hq
      exact (z3 _ _ G) _ (.tup upd_same (cutA_rp (h2.grow G) lo hi))
  · obtain ⟨a, xs, rfl, h1, h2⟩ := hv.list s
    refine .inl ⟨a, xs, rfl, .inl (.inl h1), fun q hq => ?_⟩
    have G := Grow.still (o := .lst (cutV xs lo hi)) s hq
    exact (z3 _ _ G) _ (.lst upd_same (cutA_rp (h2.grow G) lo hi))
  · obtain ⟨a, xs, rfl, h1, h2⟩ := hv.frl s
    refine .inl ⟨a, xs, rfl, h1, fun q hq => ?_⟩
    have G := Grow.still (o := .lst (cutV xs lo hi)) s hq
    exact (z3 _ _ G) _ (.lst upd_same (cutA_rp (h2.grow G) lo hi))
theorem so_cut (hf : SE X b W e f) (hp : SP X b W lo p) (hq : SP X b W hi q) : SO X b W (.Subscript e (.Slice lo hi none p2) pos) (aCut f p q) := by
  refine PE.weak (pe_slice (sl_list (X := X)) hf hp hq) fun σ H Q ⟨F, m, R, z⟩ => ?_
  refine seq R z fun x F1 H1 v R1 G1 hv z1 => seqP R1 z1 fun lo F2 H2 R2 G2 z2 => seqP R2 z2 fun hi F3 H3 R3 G3 z3 => ?_
  have hv := (hv.grow G2).grow G3
  have s := R3.sub
  have G0 := (G1.trans G2).trans G3
  cases x <;> first | exact z3.elim | skip
  · obtain ⟨a, xs, rfl, h1, h2⟩ := hv.list s
    refine ⟨a, xs, rfl, .inl (.inl h1), fun q hq => ?_⟩
    have G := Grow.loose (o := .lst (cutV xs lo hi)) s hq
    exact (z3 _ _ G) q _ (G0.same.free hq) (s.free hq) upd_same (cutA_rp (h2.grow G) lo hi)
  · obtain ⟨a, xs, rfl, h1, h2⟩ := hv.frl s
    refine ⟨a, xs, rfl, h1, fun q hq => ?_⟩
    have G := Grow.loose (o := .lst (cutV xs lo hi)) s hq
    exact (z3 _ _ G) q _ (G0.same.free hq) (s.free hq) upd_same (cutA_rp (h2.grow G) lo hi)
end

/-! ### built-ins -/
def CallD (X : Cx) (b : Bs) (W : WX) (fn : Value) (op : List D → R D) : Prop := ∃ r : List V → Hp → VK → Prop, CallR X fn r ∧ ∀ (σ : L2.St) (F H : Hp) (Q : VK) (xs : List D) (vs : List V), Same F H → RpL X.K F b.H0 H xs vs →
  Pst b W σ F H (CV X.K b Q) (op xs) → r vs H Q
def lenD : List D → R D
  | [.lst _ xs] => .ok (.int xs.length)
  | [.fr xs] => .ok (.int xs.length)
  | [.tup xs] => .ok (.int xs.length)
  | [.str z] => if z.length ≤ sizeLine then .ok (.int z.length) else .stuck
  | _ => .stuck
def tyD : D → String
  | .non => "NoneType"
  | .bl _ => "bool"
  | .int _ => "int"
  | .str _ => "str"
  | .tup _ => "tuple"
  | .lst _ _ => "list"
  | .fr _ => "list"
  | .unk => "?"
  | .ex _ => "?"
  | .dct _ _ _ => "?"
def isiD (T : String) : D → R D := fun d => match kitB (tyD d) T with
  | some c => .ok (.bl c)
  | none => .stuck
def bools : List D → Option (List Bool)
  | [] => some []
  | .bl c :: ds => (bools ds).map (c :: ·)
  | _ => none
def allD : List D → R D
  | [.lst _ ds] => match bools ds with
    | some bs => .ok (.bl (bs.all id))
    | none => .stuck
  | _ => .stuck
def anyD : List D → R D
  | [.lst _ ds] => match bools ds with
    | some bs => .ok (.bl (bs.any id))
    | none => .stuck
  | _ => .stuck
def intD : List D → R D
  | [.int i] => .ok (.int i)
  | [.bl c] => .ok (.int (if c then 1 else 0))
  | _ => .stuck
def maxD : List D → R D
  | [.int i, .int j] => .ok (.int (if j > i then j else i))
  | _ => .stuck
def minD : List D → R D
  | [.int i, .int j] => .ok (.int (if j < i then j else i))
  | _ => .stuck
def absD : List D → R D
  | [.int i] => .ok (.int (if i < 0 then -i else i))
  | _ => .stuck
def tupleD : List D → R D
  | [.lst _ xs] => .ok (.tup xs)
  | [.tup xs] => .ok (.tup xs)
  | _ => .stuck
def listO : List D → R (List D)
  | [.lst _ xs] => .ok xs
  | [.tup xs] => .ok xs
  | [.fr xs] => .ok xs
  | _ => .stuck
/-- a thing's text -/
def shR (d : PyData) : R D := if (d.showable && decide (d.depth ≤ 60) && decide (d.shown.length ≤ sizeLine)) = true then .ok (.str d.shown) else .stuck
def strD : List D → R D
  | [.int i] => if i.natAbs.log2 < 1920 then .ok (.str (toString i)) else .stuck
  | [.lst _ xs] => shR (.list (pyL xs))
  | [.fr xs] => shR (.list (pyL xs))
  | [.tup xs] => shR (.tuple (pyL xs))
  | _ => .stuck
section
variable {X : Cx} {b : Bs} {W : WX} {K : PySem.W.Frag} {F H0 H : Hp}
theorem RpL.one {d : D} {vs : List V} (h : RpL K F H0 H [d] vs) : ∃ v, vs = [v] ∧ Rp K F H0 H d v := by
  cases h with
  | cons a t => cases t; exact ⟨_, rfl, a⟩
theorem RpL.two {d e : D} {vs : List V} (h : RpL K F H0 H [d, e] vs) : ∃ v u, vs = [v, u] ∧ Rp K F H0 H d v ∧ Rp K F H0 H e u := by
  cases h with
  | cons a t => 
    obtain ⟨u, rfl, c⟩ := t.one
    exact ⟨_, _, rfl, a, c⟩
theorem bools_rp : ∀ {ds : List D} {bs : List Bool} {vs : List V}, bools ds = some bs → RpL K F H0 H ds vs → vs = bs.map V.bl
  | [], bs, vs, e, r => by cases r; simp only [bools, Option.some.injEq] at e; subst e; rfl
  | d :: ds, bs, vs, e, r => by
    cases d <;> first | (simp [bools] at e; done) | skip
    rename_i c
    simp only [bools, Option.map_eq_some_iff] at e
    obtain ⟨cs, h1, rfl⟩ := e
    cases r with
    | cons a t => cases a; rw [bools_rp h1 t]; rfl
theorem c_len : CallD X b W (.builtin "len") lenD := by
  refine ⟨_, call_len, fun σ F H Q xs vs s r p => ?_⟩
  unfold lenD at p
  split at p
  · obtain ⟨v, rfl, h⟩ := r.one
    obtain ⟨a, us, rfl, h1, h2⟩ := h.list s
    exact ⟨_, _, rfl, .inl ⟨us, .inl (.inl h1), h2.length⟩, p.here s _ (.int _)⟩
  · obtain ⟨v, rfl, h⟩ := r.one
    obtain ⟨a, us, rfl, h1, h2⟩ := h.frl s
    exact ⟨_, _, rfl, .inl ⟨us, h1, h2.length⟩, p.here s _ (.int _)⟩
  · obtain ⟨v, rfl, h⟩ := r.one
    obtain ⟨a, us, rfl, h1, h2⟩ := h.tuple
    exact ⟨_, _, rfl, .inr ⟨us, h1, h2.length⟩, p.here s _ (.int _)⟩
  · obtain ⟨v, rfl, h⟩ := r.one
    cases h
    split at p
    · rename_i hl
      exact ⟨_, _, rfl, ⟨hl, rfl⟩, p.here s _ (.int _)⟩
    · exact p.elim
  · exact p.elim
theorem kitB_no {T : String} (h : T ≠ "?") : kitB "?" T = none := by
  unfold kitB
  rw [if_neg (by intro z; rw [beq_iff_eq] at z; injection z with z; exact h z.symm)]
  split
  · rw [show PySem.fastBuiltinMro "?" = none from by decide +kernel]; rfl
  · rfl
theorem ty_rp {d : D} {v : V} (s : Same F H) (r : Rp K F H0 H d v) (hd : tyD d ≠ "?") : TyX K H v (.type (tyD d)) := by
  cases d with
  | non => cases r; exact .base .non
  | bl _ => cases r; exact .base (.bl _)
  | int _ => cases r; exact .base (.int _)
  | str _ => cases r; exact .base (.str _)
  | tup _ =>
    obtain ⟨a, xs, rfl, h, _⟩ := r.tuple
    rcases h with (h | ⟨o, h⟩) | ⟨o, its, n, h1, h2, _⟩
    · exact .base (.tup h)
    · exact .fTuple h
    · exact .kTuple h1 h2
  | lst _ _ =>
    obtain ⟨a, xs, rfl, h, _⟩ := r.list s
    exact .base (.lst h)
  | fr _ =>
    obtain ⟨a, xs, rfl, h, _⟩ := r.frl s
    rcases h with (h | ⟨o, h⟩) | ⟨o, its, n, h1, h2, _⟩
    · exact .base (.lst h)
    · exact .base (.frz h)
    · exact .kList h1 h2
  | unk => exact absurd rfl hd
  | ex _ => exact absurd rfl hd
  | dct _ _ _ => exact absurd rfl hd
/-- isinstance(x, T), T a built-in class by its name -/
theorem se_isi {T : String} {x : Str} {a : Expr} {f : SemE} {p q pos : Pos} (hg : Gl X "isinstance") (hm : X.mg "isinstance" = none) (hg' : Gl X x) (hm' : X.mg x = none) (hv : bootBuiltins x = some (.type T)) (hf : SE X b W a f) (hn : x ≠ "__name__" := by decide) (hd : (x == ("__debug__" : Str)) = false := by decide)
    (he : starEach [a, .Name x q] X.env = (false, eval a X.env) :: starEach [.Name x q] X.env := by rfl) (hpl : (backTo pos (starEach [.Name x q] X.env)).any (·.1) = false := by rfl)
    (hs : starEach [.Name x q] X.env = (false, eval (.Name x q) X.env) :: starEach [] X.env := by rfl) (hT : T ≠ "?" := by decide) :
    SE X b W (.Call (.Name "isinstance" p) [a, .Name x q] [] pos) (e1 (isiD T) f) := by
  refine PE.weak (pe_callB call_isi hg hm boot_isinstance (pa_cons hf (pa_cons (pe_bltn hg' hm' hv (v := .ty T) rfl hn hd) pa_nil hs) he) (by decide) (by decide) he hpl) fun σ H Q ⟨F, m, R, p⟩ => ?_
  refine ⟨F, m, R, p.bind.imp fun x F1 H1 _ G z v hv => ?_⟩
  have s := (R.step G).sub
  unfold isiD at z
  split at z
  · rename_i c hc
    exact ⟨v, .ty T, .type (tyD x), .type T, c, rfl, .ty T, ty_rp s hv (fun z => by rw [z, kitB_no hT] at hc; cases hc), kit_ty hc, z.here s _ (.bl _)⟩
  · exact z.elim
theorem c_all (hc : X.calm = true) : CallD X b W (.builtin "all") allD := by
  refine ⟨_, cr_all hc, fun σ F H Q xs vs s r p => ?_⟩
  unfold allD at p
  split at p
  · obtain ⟨v, rfl, h⟩ := r.one
    obtain ⟨a, us, rfl, h1, h2⟩ := h.list s
    split at p
    · rename_i bs hb
      exact ⟨a, bs, rfl, .inl (.inl (by rw [← bools_rp hb h2]; exact h1)), p.here s _ (.bl _)⟩
    · exact p.elim
  · exact p.elim
theorem c_any (hc : X.calm = true) : CallD X b W (.builtin "any") anyD := by
  refine ⟨_, cr_any hc, fun σ F H Q xs vs s r p => ?_⟩
  unfold anyD at p
  split at p
  · obtain ⟨v, rfl, h⟩ := r.one
    obtain ⟨a, us, rfl, h1, h2⟩ := h.list s
    split at p
    · rename_i bs hb
      exact ⟨a, bs, rfl, .inl (.inl (by rw [← bools_rp hb h2]; exact h1)), p.here s _ (.bl _)⟩
    · exact p.elim
  · exact p.elim
theorem c_int : CallD X b W (.type "int") intD := by
  refine ⟨_, call_int1, fun σ F H Q xs vs s r p => ?_⟩
  unfold intD at p
  split at p
  · obtain ⟨v, rfl, h⟩ := r.one
    cases h
    exact .inl ⟨_, rfl, p.here s _ (.int _)⟩
  · obtain ⟨v, rfl, h⟩ := r.one
    cases h
    exact .inr ⟨_, rfl, p.here s _ (.int _)⟩
  · exact p.elim
mutual
theorem dp_noDict {K : PySem.W.Frag} {H : Hp} : ∀ (d : PyData) (v : V), Dp K H v d → d.hasDict = false
  | .none, _, _ => by simp only [PyData.hasDict]
  | .bool _, _, _ => by simp only [PyData.hasDict]
  | .int _, _, _ => by simp only [PyData.hasDict]
  | .str _, _, _ => by simp only [PyData.hasDict]
  | .list xs, _, h => by
    cases h with
    | lst _ b => simp only [PyData.hasDict]; exact dp_noDictA xs _ b
  | .tuple xs, _, h => by
    cases h with
    | tup _ b => simp only [PyData.hasDict]; exact dp_noDictA xs _ b
  | .dict _, _, h => by cases h
theorem dp_noDictA {K : PySem.W.Frag} {H : Hp} : ∀ (ds : List PyData) (vs : List V), DpAll K H vs ds → PyData.hasDictAll ds = false
  | [], _, _ => by simp only [PyData.hasDictAll]
  | d :: ds, _, h => by
    cases h with
    | cons a b => simp only [PyData.hasDictAll, dp_noDict d _ a, dp_noDictA ds _ b, Bool.or_self]
end
def rStrC (K : PySem.W.Frag) : List V → Hp → VK → Prop := fun xs H Q => ∃ a d, xs = [.ref a] ∧ Dp K H (.ref a) d ∧ d.showable = true ∧ d.depth ≤ 60 ∧ d.shown.length ≤ sizeLine ∧ Q (.str d.shown) H
theorem call_strC (hu : X.A.units + 65 < cLine) (hgd : X.A.guards = some []) : CallR X (.type "str") (rStrC X.K) := by
  intro pins s σ H xs us Q I r h
  obtain ⟨a, d, rfl, hd, h1, h2, h3, q⟩ := h
  cases r with
  | cons ry rt =>
    cases rt
    cases ry
    obtain ⟨as, rd⟩ := Dp.reads I d (.ref a) (.ref a) hd rfl
    exact str_of_reads rd h1 (fun z => by rw [dp_noDict d _ hd] at z; cases z) hgd (by omega) (fun _ _ z => z) (fun h' u tk g => ⟨.str d.shown, H, I.kept (t' := tk) g, ⟨u, rfl⟩, q⟩) h3
theorem c_str (hu : X.A.units + 65 < cLine) (hgd : X.A.guards = some []) : CallD X b W (.type "str") strD := by
  have shp : ∀ {d : PyData} {σ : L2.St} {F H : Hp} {Q : VK} {a : Addr} {s : Same F H}, Dp X.K H (.ref a) d → Pst b W σ F H (CV X.K b Q) (shR d) → rStrC X.K [.ref a] H Q := fun {d σ F H Q a s} hd p => by
    unfold shR at p
    split at p
    · rename_i c
      simp only [Bool.and_eq_true, decide_eq_true_eq] at c
      exact ⟨a, d, rfl, hd, c.1.1, c.1.2, c.2, p.here s _ (.str _)⟩
    · exact p.elim
  refine ⟨_, call_str_int.or (call_strC hu hgd), fun σ F H Q xs vs s r p => ?_⟩
  unfold strD at p
  split at p
  · obtain ⟨v, rfl, h⟩ := r.one
    cases h
    split at p
    · rename_i hl
      exact .inl ⟨_, rfl, hl, p.here s _ (.str _)⟩
    · exact p.elim
  · obtain ⟨v, rfl, h⟩ := r.one
    have ok : okPL _ = true := okPL_sh' p
    have := Rp.dp s _ _ (by rw [okP]; exact ok) h
    obtain ⟨a, us, rfl, _, _⟩ := h.list s
    exact .inr (shp (s := s) this p)
  · obtain ⟨v, rfl, h⟩ := r.one
    have ok : okPL _ = true := okPL_sh' p
    have := Rp.dp s _ _ (by rw [okP]; exact ok) h
    obtain ⟨a, us, rfl, _, _⟩ := h.frl s
    exact .inr (shp (s := s) this p)
  · obtain ⟨v, rfl, h⟩ := r.one
    have ok : okPL _ = true := okPT_sh' p
    have := Rp.dp s _ _ (by rw [okP]; exact ok) h
    obtain ⟨a, us, rfl, _, _⟩ := h.tuple
    exact .inr (shp (s := s) this p)
  · exact p.elim
where
  okPL_sh' {b : Bs} {W : WX} {σ : L2.St} {F H : Hp} {C : D → Hp → Hp → Prop} {ds : List D} (p : Pst b W σ F H C (shR (.list (pyL ds)))) : okPL ds = true := by
    unfold shR at p
    split at p
    · rename_i c
      simp only [Bool.and_eq_true, decide_eq_true_eq] at c
      have := okP_of (.fr ds) (Nat.le_trans c.1.2 (by decide))
      simpa only [okP] using this
    · exact p.elim
  okPT_sh' {b : Bs} {W : WX} {σ : L2.St} {F H : Hp} {C : D → Hp → Hp → Prop} {ds : List D} (p : Pst b W σ F H C (shR (.tuple (pyL ds)))) : okPL ds = true := by
    unfold shR at p
    split at p
    · rename_i c
      simp only [Bool.and_eq_true, decide_eq_true_eq] at c
      have := okP_of (.tup ds) (Nat.le_trans c.1.2 (by decide))
      simpa only [okP] using this
    · exact p.elim
theorem c_max (hc : X.calm = true) : CallD X b W (.builtin "max") maxD := by
  refine ⟨_, call_max2 hc, fun σ F H Q xs vs s r p => ?_⟩
  unfold maxD at p
  split at p
  · obtain ⟨v, u, rfl, h, h'⟩ := r.two
    cases h; cases h'
    exact ⟨_, _, rfl, p.here s _ (.int _)⟩
  · exact p.elim
theorem c_min (hc : X.calm = true) : CallD X b W (.builtin "min") minD := by
  refine ⟨_, call_min2 hc, fun σ F H Q xs vs s r p => ?_⟩
  unfold minD at p
  split at p
  · obtain ⟨v, u, rfl, h, h'⟩ := r.two
    cases h; cases h'
    exact ⟨_, _, rfl, p.here s _ (.int _)⟩
  · exact p.elim
theorem c_abs : CallD X b W (.builtin "abs") absD := by
  refine ⟨_, call_abs, fun σ F H Q xs vs s r p => ?_⟩
  unfold absD at p
  split at p
  · obtain ⟨v, rfl, h⟩ := r.one
    cases h
    exact ⟨_, rfl, p.here s _ (.int _)⟩
  · exact p.elim
theorem c_tuple : CallD X b W (.type "tuple") tupleD := by
  refine ⟨_, call_tuple_of, fun σ F H Q xs vs s r p => ?_⟩
  unfold tupleD at p
  split at p
  · obtain ⟨v, rfl, h⟩ := r.one
    obtain ⟨a, us, rfl, h1, h2⟩ := h.list s
    refine ⟨a, us, rfl, .inl ⟨.inl (.inl h1), fun q hq => ?_⟩⟩
    have G := Grow.still (o := .tup us) s hq
    exact (p _ _ G) _ (.tup upd_same (h2.grow G))
  · obtain ⟨v, rfl, h⟩ := r.one
    obtain ⟨a, us, rfl, h1, h2⟩ := h.tuple'
    exact ⟨a, us, rfl, .inr ⟨.inl (.inl h1), p.here s _ (.tup h1 h2)⟩⟩
  · exact p.elim
variable {x : Str} {id T : String} {e : Expr} {es : List Expr} {h : SemA} {op : List D → R D} {p pos : Pos}
theorem se_callB (hc : CallD X b W (.builtin id) op) (hg : Gl X x) (hm : X.mg x = none) (hv : bootBuiltins x = some (.builtin id)) (ha : SA X b W (e :: es) h) (hn : x ≠ "__name__" := by decide) (hdb : (x == ("__debug__" : Str)) = false := by decide)
    (he : starEach (e :: es) X.env = (false, eval e X.env) :: starEach es X.env := by rfl) (hpl : (backTo pos (starEach es X.env)).any (·.1) = false := by rfl) : SE X b W (.Call (.Name x p) (e :: es) [] pos) (eA op h) := by
  obtain ⟨r, h1, h2⟩ := hc
  refine PE.weak (pe_callB h1 hg hm hv ha hn hdb he hpl) fun σ H Q ⟨F, m, R, p⟩ => ?_
  exact seqA R p fun xs F1 H1 vs R1 G1 hv p1 => h2 σ F1 H1 Q xs vs R1.sub hv p1
theorem se_callTy (hc : CallD X b W (.type T) op) (hg : Gl X x) (hm : X.mg x = none) (hv : bootBuiltins x = some (.type T)) (ha : SA X b W (e :: es) h) (hn : x ≠ "__name__" := by decide) (hdb : (x == ("__debug__" : Str)) = false := by decide)
    (he : starEach (e :: es) X.env = (false, eval e X.env) :: starEach es X.env := by rfl) (hpl : (backTo pos (starEach es X.env)).any (·.1) = false := by rfl) : SE X b W (.Call (.Name x p) (e :: es) [] pos) (eA op h) := by
  obtain ⟨r, h1, h2⟩ := hc
  refine PE.weak (pe_callTy h1 hg hm hv ha hn hdb he hpl) fun σ H Q ⟨F, m, R, p⟩ => ?_
  exact seqA R p fun xs F1 H1 vs R1 G1 hv p1 => h2 σ F1 H1 Q xs vs R1.sub hv p1
theorem so_list (hg : Gl X "list") (hm : X.mg "list" = none) (ha : SA X b W (e :: es) h)
    (he : starEach (e :: es) X.env = (false, eval e X.env) :: starEach es X.env := by rfl) (hpl : (backTo pos (starEach es X.env)).any (·.1) = false := by rfl) : SO X b W (.Call (.Name "list" p) (e :: es) [] pos) (aThen h listO) := by
  refine PE.weak (pe_callTy call_list_of hg hm PyProof.Rows.boot_list ha (by decide) (by decide) he hpl) fun σ H Q ⟨F, m, R, p⟩ => ?_
  refine seqA R p fun xs F1 H1 vs R1 G1 hv p1 => ?_
  have s := R1.sub
  unfold listO at p1
  split at p1
  · obtain ⟨v, rfl, h⟩ := hv.one
    obtain ⟨a, us, rfl, k1, k2⟩ := h.list s
    refine ⟨a, us, rfl, .inl (.inl (.inl k1)), fun q hq => ?_⟩
    have G := Grow.loose (o := .lst us) s hq
    exact (p1 _ _ G) q us (G1.same.free hq) (s.free hq) upd_same (k2.grow G)
  · obtain ⟨v, rfl, h⟩ := hv.one
    obtain ⟨a, us, rfl, k1, k2⟩ := h.tuple
    refine ⟨a, us, rfl, .inr k1, fun q hq => ?_⟩
    have G := Grow.loose (o := .lst us) s hq
    exact (p1 _ _ G) q us (G1.same.free hq) (s.free hq) upd_same (k2.grow G)
  · obtain ⟨v, rfl, h⟩ := hv.one
    obtain ⟨a, us, rfl, k1, k2⟩ := h.frl s
    refine ⟨a, us, rfl, .inl k1, fun q hq => ?_⟩
    have G := Grow.loose (o := .lst us) s hq
    exact (p1 _ _ G) q us (G1.same.free hq) (s.free hq) upd_same (k2.grow G)
  · exact p1.elim
end
end CT

/-! CtE0: a def's promise where no repr is under way -/
namespace CT
open PySem PySem.Spec PyProof.Rows L2
structure FnG (P : Program) (w : World) (K : PySem.W.Frag) (mg : Str → Option Value) (base : Heap) (k : Nat) (f : Addr) (fd : FuncData) (ps : List Str) (sp : Sp) : Prop where
  len : ∀ vs H Q E, sp vs H Q E → vs.length = ps.length
  run : ∀ (A : Around) (outer : List Env) (s : Shared) (H : Hp) (args : Args) (us : List Value) (vs : List V) (Q : VK) (E : XK), Room k A → A.guards = some [] → Env0 P w K mg base A outer s H → BindsTo s fd args (ps.zip us) → Vals vs us → sp vs H Q E →
    codeAny (model P w) A (.call (.ref f) args) (CR (L2.CX P w) outer P w H s Q E) s
theorem FnG.mono {P : Program} {w : World} {K : PySem.W.Frag} {mg : Str → Option Value} {base : Heap} {j k : Nat} {f : Addr} {fd : FuncData} {ps : List Str} {sp : Sp} (F : FnG P w K mg base j f fd ps sp) (h : j ≤ k) : FnG P w K mg base k f fd ps sp :=
  ⟨F.len, fun A outer s H args us vs Q E hr => F.run A outer s H args us vs Q E (hr.mono h)⟩
theorem FnG.imp {P : Program} {w : World} {K : PySem.W.Frag} {mg : Str → Option Value} {base : Heap} {k : Nat} {f : Addr} {fd : FuncData} {ps : List Str} {sp sp' : Sp} (F : FnG P w K mg base k f fd ps sp) (h : ∀ vs H Q E, sp' vs H Q E → sp vs H Q E) : FnG P w K mg base k f fd ps sp' :=
  ⟨fun vs H Q E q => F.len vs H Q E (h _ _ _ _ q), fun A outer s H args us vs Q E hr hg he hb hv hs => F.run A outer s H args us vs Q E hr hg he hb hv (h _ _ _ _ hs)⟩
/-- by a promise that holds for all that is around: the same with the knowledge taken along -/
theorem FnG.of {P : Program} {w : World} {K : PySem.W.Frag} {mg : Str → Option Value} {base : Heap} {k : Nat} {f : Addr} {fd : FuncData} {ps : List Str} {sp : Sp} (F : FnOk P w K mg base (L2.CX P w) k f fd ps sp) : FnG P w K mg base k f fd ps sp :=
  ⟨F.len, fun A outer s H args us vs Q E hr _ => F.run A outer s H args us vs Q E hr⟩
theorem deeper_guards (A : Around) (env : Env) : (A.deeper env).guards = A.guards := rfl
section
variable {P : Program} {w : World} {K : PySem.W.Frag} {mg : Str → Option Value} {base : Heap}
theorem Fun.okG {x qual : Str} {st : Stmt} {f : Addr} {fd : FuncData} {N ps : List Str} {k : Nat} {sp : Sp} (F : Fun K x qual st f fd) (S : FnScope N ps (defScope st)) (len : ∀ vs H Q E, sp vs H Q E → vs.length = ps.length)
    (hbody : ∀ (cdv : Value) (A : Around) (outer : List Env) (s : Shared) (H : Hp) (vs : List V) (Q : VK) (E : XK), Room k (A.deeper (envOfC qual (defScope st) s.heap.objs.size f cdv)) → (A.deeper (envOfC qual (defScope st) s.heap.objs.size f cdv)).guards = some [] → sp vs H Q E →
      ∃ t, PSs (cxOf (L2.CX P w) P w K mg base N qual (defScope st) f cdv A outer s H E) (defBody st) t ∧ t { nx := fun _ H' => Q .non H', rt := Q } (start N vs) H) : FnG P w K mg base (k + 1) f fd ps sp := by
  obtain ⟨oc, od, kV, doc, pm, an, cdv, ct, osl, rfl, lk, hcd⟩ := F.ex
  refine ⟨len, fun A outer s H args us vs Q E hr hgd e0 hb r hsp => ?_⟩
  have hl := len _ _ _ _ hsp
  have kept : ∀ b o, base.get? b = some o → s.heap.get? b = some o := fun b o e => (e0.bs b o e).1
  have KX : K.In s.heap := e0.mod.kin.keeps kept
  refine codeAny_call_function hr.depth (KX _ _ lk) rfl S.co S.gen rfl (PySem.W.codeRec_of KX hcd) (hb _ _ _ _ ?_)
  refine wpAny_newFunctionEnv_cells S.kind (fun ⟨n, v⟩ hy => (S.par n (List.of_mem_zip hy).1).imp id fun q => ⟨q, PySem.W.cellsFrom_some _ _ _ (.inl q)⟩) fun env he s1 x => ?_
  subst he
  refine ⟨(e0.mod.nolimit.keeps kept).keeps x.toInCall.keep, codeAny_func ?_⟩
  obtain ⟨t, ht, hq⟩ := hbody cdv A outer s H vs Q E (hr.deeper _) hgd hsp
  have I := inv_start (CX := L2.CX P w) (E := E) S hr.hd e0 hl r x
  refine wpAny_mono (ht.run [] s1 (start N vs) H _ I hq) (fun fl s' hs => ?_) fun e s' hs => hs
  rcases fl with _ | u | _ | _
  all_goals first
    | (obtain ⟨_, _, _, z⟩ := hs; exact z.elim)
    | (obtain ⟨v, σ', H', J, rv, z⟩ := hs; exact ⟨v, H', J.os, J.bare, J.base, J.hok, rv, z⟩)
    | (obtain ⟨σ', H', J, z⟩ := hs; exact ⟨V.non, H', J.os, J.bare, J.base, J.hok, rfl, z⟩)
end
section
variable {X : Cx} {k : Nat} {f : Addr} {fd : FuncData} {ps : List Str} {sp : Sp} {E : L2.St → XK} {x : Str} {p pos : Pos} {e : Expr} {es : List Expr} {t : TA}
theorem pe_callG (F : FnG X.prog X.w X.K X.mg X.base k f fd ps sp) (hr : Room k X.A) (hgd : X.A.guards = some []) (hg : Gl X x) (hm : X.mg x = some (.ref f)) (hk : PySem.W.keepIn X.K (.ref f) = true) (hb : L2.Binds X.K fd ps []) (hx : ∀ σ, PassesAt (L2.CX X.prog X.w) X σ (E σ))
    (ha : PA X (e :: es) t) (hdb : (x == ("__debug__" : Str)) = false := by decide) (he : starEach (e :: es) X.env = (false, eval e X.env) :: starEach es X.env := by rfl) (hpl : (backTo pos (starEach es X.env)).any (·.1) = false := by rfl) :
    PE X (.Call (.Name x p) (e :: es) [] pos) (tCallS sp E t) := by
  refine ⟨fun pins s σ H Q I h => wpAny_Call_Name_kw (ld_glob I hg hm ?_ hdb)⟩
  refine PySem.W.callWith_K (h₀ := X.base) I.ok.mod.kin hk (thn (ha.run pos pins s σ H _ I h) fun us s1 ⟨vs, H1, I1, r, q⟩ => ⟨I1.kIn, ?_⟩) he hpl
  have b := hb s1 us I1.kIn (by rw [List.append_nil, ← r.length]; exact F.len _ _ _ _ q)
  rw [List.append_nil] at b
  refine wpAny_call (codeAny_mono (F.run X.A X.stack s1 H1 ⟨us, []⟩ us vs Q (E σ) hr hgd I1.env0 b r q) fun r s' hq => ?_)
  rcases r with er | fl
  · exact hx σ pins H1 s1 er s' I1 hq
  · rcases fl with _ | _ | _ | u
    all_goals first | exact I1.after hq | exact False.elim hq
end
/-- the law's call, at the heap behind the top -/
theorem law_callG {P : Program} {w : World} {K : PySem.W.Frag} {mg mb : Str → Option Value} {k : Nat} {fa a : Addr} {fd : FuncData} {x : Str} {sp : Sp} {s₁ : Shared} {vs : List Value} {ns : List Int}
    (KX : K.In s₁.heap) (hns : s₁.heap.Ns mainGlobals mg) (hb : s₁.heap.Ns builtinsNs mb) (hbb : ∀ x : Str, x ≠ "__name__" → mb x = bootBuiltins x) (hlim : s₁.heap.NoLimit) (hg : s₁.gens = #[])
    (ha : s₁.heap.get? a = some { cls := .type "list", data := .seq vs.toArray }) (hi : IntsAre vs ns) (hl : ns.length ≤ sizeLine) (hr : Room k callerA)
    (F : ∀ base : Heap, K.In base → base.Ns mainGlobals mg → FnG P w K mg base k fa fd [x] sp) (hbind : ∀ (s : Shared) (u : Value), BindsTo s fd ⟨[u], []⟩ [(x, u)])
    (hsp : ∀ H : Hp, Only H → SqL K H a (ns.map V.int) → sp [.ref a] H (fun v _ => v = .bl true) fun _ _ _ => False)
    (hCX : ∀ H e s', L2.CX P w [] H s₁ (fun _ _ _ => False) e s' → False) :
    codeAny (model P w) callerA (.call (.ref fa) ⟨[.ref a], []⟩) (fun r s' => r = .ok (.ret (.bool true)) ∧ OldK s₁.heap s'.heap ∧ s'.os = s₁.os ∧ AllBare s'.gens) s₁ := by
  have rv := vals_ints hi
  -- a heap in which at most the script is tracked does
  have core : ∀ H : Hp, Only H → SqL K H a (ns.map V.int) → HOk P w H s₁.heap → (∀ b, H b ≠ none → b = a ∧ K.lookup b = none) →
      codeAny (model P w) callerA (.call (.ref fa) ⟨[.ref a], []⟩) (fun r s' => r = .ok (.ret (.bool true)) ∧ OldK s₁.heap s'.heap ∧ s'.os = s₁.os ∧ AllBare s'.gens) s₁ := by
    intro H hO hS hok hA
    have noDict : ∀ {b : Addr} {o : Obj} {es : Array DictEntry} {ep : Nat}, s₁.heap.get? b = some o → o.data = .dict es ep → H b = none := fun {b o es ep} e d => by
      by_cases q : H b = none
      · exact q
      · obtain ⟨rfl, _⟩ := hA b q
        rw [ha] at e; cases e
        exact nomatch (show Data.seq vs.toArray _ = Data.dict es ep from d)
    have nsK : ∀ {b : Addr} {m : Str → Option Value}, s₁.heap.Ns b m → (hidT s₁.heap H).Ns b m := fun {b m} ⟨o, es, ep, e, d, r⟩ => ⟨o, es, ep, hidT_get e (noDict e d), d, r⟩
    have hKb : K.In (hidT s₁.heap H) := fun b o e => hidT_get (KX b o e) (by
      by_cases q : H b = none
      · exact q
      · have := (hA b q).2; rw [e] at this; cases this)
    have hM : Mod K mg (hidT s₁.heap H) := ⟨hKb, nsK hns, ⟨mb, nsK hb, hbb⟩, let ⟨mc, h1, h2⟩ := hlim; ⟨mc, nsK h1, h2⟩⟩
    have e0 : Env0 P w K mg (hidT s₁.heap H) callerA [] s₁ H := ⟨rfl, hM, fun b o e => of_hidT e, Nat.le_of_eq (hidT_size _ _), trivial, fun b hb => (nomatch (show b ∈ ([] : List Addr) from hb)), hok, .of_eq hg⟩
    refine codeAny_mono ((F _ hKb (nsK hns)).run callerA [] s₁ H ⟨[.ref a], []⟩ [.ref a] [.ref a] _ _ hr rfl e0 (hbind s₁ (.ref a)) (.cons rfl .nil) (hsp H hO hS)) fun r s' h => ?_
    rcases r with er | fl
    · exact (hCX H er s' h).elim
    · rcases fl with _ | _ | _ | u
      all_goals first
        | exact False.elim h
        | skip
      obtain ⟨v, H', os, bare, un, hok', r', q⟩ := h
      obtain rfl : v = V.bl true := q
      obtain rfl : u = Value.bool true := r'
      refine ⟨rfl, OldK.of_keep fun b o e => ?_, os, bare⟩
      rcases hO b with z | ⟨ob, xs, z⟩
      · exact un.keep b o e z (fun z => nomatch (show b ∈ ([] : List Addr) from z)) (fun z => nomatch (show b ∈ ([] : List Addr) from z))
      · obtain ⟨e1, _⟩ := hok b _ z
        obtain ⟨e2, _⟩ := hok' b _ (un.frzs b ob _ z)
        rw [e] at e1; cases e1
        exact e2
  cases hk : K.lookup a with
  | some o =>
    have e := KX a o hk
    rw [ha] at e
    cases e
    exact core (fun _ => none) (fun _ => .inl rfl) (.inr ⟨_, vs.toArray, _, hk, rfl, rfl, rfl, by rw [List.size_toArray, hi.length]; exact hl, by simpa using rv⟩) (fun b u z => nomatch (show (none : Option HO) = some u from z)) fun b z => absurd rfl z
  | none =>
    obtain ⟨S, hS⟩ : ∃ S : HO, S = .frz { cls := .type "list", data := .seq vs.toArray } (.lst (ns.map V.int)) := ⟨_, rfl⟩
    refine core (fun b => if b = a then some S else none) (fun b => ?_) (.inl (.inr ⟨{ cls := .type "list", data := .seq vs.toArray }, by show (if a = a then some S else none) = _; rw [if_pos rfl, hS]⟩)) (fun b u z => ?_) (fun b z => ?_)
    · by_cases hb : b = a
      · exact .inr ⟨_, _, by show (if b = a then some S else none) = _; rw [if_pos hb, hS]⟩
      · exact .inl (if_neg hb)
    · by_cases hb : b = a
      · simp only [if_pos hb] at z
        cases z
        rw [hb, hS]
        exact ⟨ha, by rw [List.length_map]; exact hl, vs, _, rv, ha⟩
      · simp only [if_neg hb] at z
        cases z
    · by_cases hb : b = a
      · exact ⟨hb, by rw [hb]; exact hk⟩
      · exact absurd (if_neg hb) z
theorem walk_ofG {l : PySem.W.OpenLaw} {n k : Nat} {q : Program} {loose : List Str} {XP : (Str → Option Value) → Heap → Prop} {YP : World → Heap → Prop} {d : DefRec} {K : Params → PySem.W.Frag} {sp : World → Sp} {x : Str}
    (hn : l.most = some n) (hn2 : n ≤ sizeLine) (hdf : d.params.defaults = []) (hr : Room k callerA)
    (hY : ∀ (w : World) (h : Heap), YP w h → (K w.params).In h)
    (F : ∀ (w : World) (mg : Str → Option Value) (fa : Addr) (h : Heap), (K w.params).In h → h.Ns mainGlobals mg → mg d.name = some (.ref fa) →
      ∃ fd : FuncData, (∀ (s : Shared) (u : Value), BindsTo s fd ⟨[u], []⟩ [(x, u)]) ∧
        ∀ base : Heap, (K w.params).In base → base.Ns mainGlobals mg → FnG l.prog w (K w.params) mg base k fa fd [x] (sp w))
    (hsp : ∀ (w : World) (H : Hp) (a : Addr) (ns : List Int), ns.length ≤ n → Only H → SqL (K w.params) H a (ns.map V.int) → sp w [.ref a] H (fun v _ => v = .bl true) fun _ _ _ => False)
    (hCX : ∀ (w : World) (H : Hp) (s : Shared) (e : Value) (s' : Shared), L2.CX l.prog w [] H s (fun _ _ _ => False) e s' → False) :
    PySem.W.WalkO q loose XP YP l.row.toRowW d [] (fun f vs => PySem.call f vs) := by
  refine Att.attach_call hn hdf fun w s₀ s₁ mg mb fa o pm cd doc a vs ns G Y ho hd hcd hmg hobj hints hlen hg => ?_
  obtain ⟨fd, hb, hF⟩ := F w mg fa _ (hY w _ Y) G.T.g hmg
  exact law_callG (hY w _ Y) G.T.g G.T.b G.T.builtins G.T.nolimit hg hobj hints (Nat.le_trans hlen hn2) hr hF hb (fun H hO hS => hsp w H a ns hlen hO hS) fun H e s' => hCX w H s₁ e s'
end CT

/-! CtE: statements; a def's promise, its call -/
namespace CT
open PySem PySem.Spec PyProof.Rows L2

/-! ### a def's promise -/
def spF (K : PySem.W.Frag) (ex : String → Value) (n : Nat) (f : List D → R D) : Sp := fun vs H Q E => ∃ F0 ds, Same F0 H ∧ RpL K F0 H H ds vs ∧ hasTL ds = false ∧ ds.length = n ∧
  match f ds with
  | .ok d => ∀ F' H' v, Grow F0 H F' H' → SlotOk K F' H H' d v → Q v H'
  | .exc c => ∀ F' H', Grow F0 H F' H' → E (ex c) none H'
  | .stuck => False
mutual
theorem flat_of_still : ∀ d, isFlat (still d) = true → isFlat d = true
  | .tup xs, h => by simp only [still, isFlat] at h ⊢; exact flatL_of_still xs h
  | .lst _ _, h => by simp [still, isFlat] at h
  | .fr _, h => by simp [still, isFlat] at h
  | .non, _ => rfl
  | .bl _, _ => rfl
  | .int _, _ => rfl
  | .str _, _ => rfl
  | .unk, h => by simp [still, isFlat] at h
  | .ex _, _ => rfl
  | .dct _ _ _, h => by simp [still, isFlat] at h
theorem flatL_of_still : ∀ ds, isFlatL (stillL ds) = true → isFlatL ds = true
  | [], _ => rfl
  | x :: xs, h => by
    simp only [stillL, isFlatL, Bool.and_eq_true] at h ⊢
    exact ⟨flat_of_still x h.1, flatL_of_still xs h.2⟩
end
theorem flat_still (d : D) (h : isFlat (still d) = true) : isFlat d = true ∧ still d = d := ⟨flat_of_still d h, still_of _ (flat_noT _ (flat_of_still d h))⟩
def callF (f : List D → R D) : List D → R D := fun ds => (f (stillL ds)).bind fun d => if hasTL ds = true then (if isFlat (still d) = true then .ok (still d) else .stuck) else .ok (still d)
def callO (f : List D → R D) : List D → R (List D) := fun ds => if hasTL ds = true then .stuck else (f ds).bind fun d => match d with
  | .lst true es => .ok es
  | _ => .stuck
/-- a def that is called by its name -/
structure Callee (P : Program) (w : World) (K : PySem.W.Frag) (mg : Str → Option Value) (base : Heap) (ex : String → Value) (x : Str) (n : Nat) (f : List D → R D) (k : Nat) : Prop where
  ok : ∃ fa fd ps, FnG P w K mg base k fa fd ps (spF K ex n f) ∧ mg x = some (.ref fa) ∧ PySem.W.keepIn K (.ref fa) = true ∧ Binds K fd ps []
theorem Callee.mono {P : Program} {w : World} {K : PySem.W.Frag} {mg : Str → Option Value} {base : Heap} {ex : String → Value} {x : Str} {n : Nat} {f : List D → R D} {j k : Nat} (c : Callee P w K mg base ex x n f j) (h : j ≤ k) : Callee P w K mg base ex x n f k := by
  obtain ⟨fa, fd, ps, h1, h2, h3, h4⟩ := c.ok
  exact ⟨fa, fd, ps, h1.mono h, h2, h3, h4⟩
section
variable {X : Cx} {b : Bs} {W : WX} {x : Str} {e : Expr} {es : List Expr} {h : SemA} {n k : Nat} {f : List D → R D} {p pos : Pos}
theorem SlotOk.own {K : PySem.W.Frag} {F F' H0 H H' : Hp} {ds : List D} {v : V} (g : Grow F H F' H') (s : SlotOk K F' H H' (.lst true ds) v) : ∃ a xs, v = .ref a ∧ H' a = some (.lst xs) ∧ F' a = none ∧ H a = none ∧ RpL K F' H H' ds xs ∧ hasTL ds = false := s.mut
theorem stillL_set (x : D) : ∀ (L : List D) (k : Nat), stillL (L.set k x) = (stillL L).set k (still x)
  | [], _ => rfl
  | _ :: _, 0 => rfl
  | y :: ys, k + 1 => by simp only [List.set, stillL, stillL_set x ys k]
theorem spF_call {σ : L2.St} {F H : Hp} {Q : VK} {xs : List D} {vs : List V} (s : Same F H) (r : RpL X.K F b.H0 H xs vs) (sz : Same b.H0 H) (hl : xs.length = n) (p : Pst b W σ F H (CV X.K b Q) (callF f xs)) : spF X.K b.ex n f vs H Q (WE W σ) := by
  unfold callF at p
  cases ht : hasTL xs with
  | false =>
    rw [stillL_of xs ht] at p
    refine ⟨F, xs, s, RpL.base xs vs ht r, ht, hl, ?_⟩
    cases hf : f xs with
    | stuck => rw [hf] at p; exact p.elim
    | exc c =>
      rw [hf] at p
      exact fun F' H' G => p F' H' G
    | ok d =>
      rw [hf] at p
      simp only [CT.R.bind_ok, ht, Bool.false_eq_true, if_false] at p
      refine fun F' H' v G so => ?_
      rcases so with ⟨ds, a, us, rfl, rfl, h1, h2, h3, h4, h5⟩ | ⟨h1, h2⟩ | ⟨L, k, ds, t, vs, a, us, rfl, pp⟩ | ⟨qq, ks, ds, a, kvs, rfl, pp⟩
      · refine p (upd F' a (.lst us)) H' ⟨G.same, G.sub.trans (same_upd h2), fun c o hc => ?_, fun c o hc => ?_⟩ _ ?_
        · by_cases hb : c = a
          · subst hb; rw [upd_same] at hc; rw [← hc]; exact h1
          · rw [upd_ne hb] at hc; exact G.subH _ _ hc
        · by_cases hb : c = a
          · subst hb; exact .inr h3
          · rw [upd_ne hb] at hc; exact G.new _ _ hc
        · simp only [still, stillL_of ds h5]
          exact .lst upd_same ((RpL.base ds us h5 h4).mono (same_upd h2) (Same.refl _))
      · rw [still_of d h1] at p
        exact p F' H' G v (Rp.base d v h1 h2)
      · have h1 := pp.al
        have h2 := pp.fa
        refine p (upd F' a (.lst us)) H' ⟨G.same, G.sub.trans (same_upd h2), fun c o hc => ?_, fun c o hc => ?_⟩ _ ?_
        · by_cases hb : c = a
          · subst hb; rw [upd_same] at hc; rw [← hc]; exact h1
          · rw [upd_ne hb] at hc; exact G.subH _ _ hc
        · by_cases hb : c = a
          · subst hb; exact .inr pp.ha
          · rw [upd_ne hb] at hc; exact G.new _ _ hc
        · have e1 := set_self_eq (y := .non) pp.l
          have e2 := set_self_eq (y := .non) pp.w
          have e3 : still (.tup L) = .tup ((L.set k .non).set k (.lst false ds)) := by
            rw [← e1, still, stillL_set, stillL_of _ pp.n, still, stillL_of _ pp.nx]
            simp only [List.set_set]
          rw [e3, pp.v]
          refine .tup pp.t ?_
          rw [← e2]
          exact RpL.set (.lst upd_same ((RpL.base ds us pp.nx pp.x).mono (same_upd h2) (Same.refl _))) k ((RpL.base _ _ pp.n pp.r).mono (same_upd h2) (Same.refl _))
      · rw [pp.v]; exact p F' H' G _ .unk
  | true =>
    refine ⟨vis F b.H0 H, stillL xs, vis_subH s, RpL.vis s xs vs r, hasTL_still xs, by rw [stillL_length]; exact hl, ?_⟩
    cases hf : f (stillL xs) with
    | stuck => rw [hf] at p; exact p.elim
    | exc c =>
      rw [hf] at p
      exact fun F' H' G => p F H' ⟨G.same, Same.refl _, s.trans G.same, fun _ _ z => .inl z⟩
    | ok d =>
      rw [hf] at p
      simp only [CT.R.bind_ok, ht, if_true] at p
      split at p
      · rename_i hfl
        refine fun F' H' v G so => ?_
        obtain ⟨h1, h2⟩ := flat_still d hfl
        refine p F H' ⟨G.same, Same.refl _, s.trans G.same, fun _ _ z => .inl z⟩ v ?_
        rw [h2]
        exact Rp.flat (fun _ _ z => z) (fun _ _ z => z) d v h1 so.rp
      · exact p.elim
theorem se_call (C : Callee X.prog X.w X.K X.mg X.base b.ex x n f k) (tk : Takes X W) (hr : Room k X.A) (hgd : X.A.guards = some []) (hg : Gl X x) (ha : SA X b W (e :: es) h) (hl : (e :: es).length = n) (hlen : ∀ m xs, h m = .ok xs → xs.length = (e :: es).length) (hdb : (x == ("__debug__" : Str)) = false := by decide)
    (he : starEach (e :: es) X.env = (false, eval e X.env) :: starEach es X.env := by rfl) (hpl : (backTo pos (starEach es X.env)).any (·.1) = false := by rfl) : SE X b W (.Call (.Name x p) (e :: es) [] pos) (eA (callF f) h) := by
  obtain ⟨fa, fd, ps, F1, hm, hk, hb⟩ := C.ok
  refine PE.weak (pe_callG F1 hr hgd hg hm hk hb (fun σ => passAt tk σ) ha hdb he hpl) fun σ H Q ⟨F, m, R, p⟩ => ?_
  refine ⟨F, m, R, ?_⟩
  unfold eA at p
  cases hm : h m with
  | stuck => rw [hm] at p; exact p.elim
  | exc c => rw [hm] at p; exact p
  | ok xs =>
    rw [hm] at p
    refine fun F1 H1 G vs hv => ?_
    exact spF_call (R.step G).sub hv (R.step G).grow.same (by rw [← hl]; exact hlen m xs hm) (Pst.grow G p)
theorem so_call (C : Callee X.prog X.w X.K X.mg X.base b.ex x n f k) (tk : Takes X W) (hr : Room k X.A) (hgd : X.A.guards = some []) (hg : Gl X x) (ha : SA X b W (e :: es) h) (hl : (e :: es).length = n) (hlen : ∀ m xs, h m = .ok xs → xs.length = (e :: es).length) (hdb : (x == ("__debug__" : Str)) = false := by decide)
    (he : starEach (e :: es) X.env = (false, eval e X.env) :: starEach es X.env := by rfl) (hpl : (backTo pos (starEach es X.env)).any (·.1) = false := by rfl) : SO X b W (.Call (.Name x p) (e :: es) [] pos) (aThen h (callO f)) := by
  obtain ⟨fa, fd, ps, F1, hm, hk, hb⟩ := C.ok
  refine PE.weak (pe_callG F1 hr hgd hg hm hk hb (fun σ => passAt tk σ) ha hdb he hpl) fun σ H Q ⟨F, m, R, p⟩ => ?_
  refine ⟨F, m, R, ?_⟩
  unfold aThen at p
  cases hm : h m with
  | stuck => rw [hm] at p; exact p.elim
  | exc c => rw [hm] at p; exact p
  | ok xs =>
    rw [hm] at p
    refine fun F1 H1 G vs hv => ?_
    have p := Pst.grow G p
    simp only [CT.R.bind_ok, callO] at p
    split at p
    · exact p.elim
    · rename_i ht
      have ht : hasTL xs = false := by simpa using ht
      refine ⟨F1, xs, (R.step G).sub, RpL.base xs vs ht hv, ht, by rw [← hl]; exact hlen m xs hm, ?_⟩
      cases hf : f xs with
      | stuck => rw [hf] at p; exact p.elim
      | exc c => rw [hf] at p; exact fun F' H' G' => p F' H' G'
      | ok d =>
        rw [hf] at p
        simp only [CT.R.bind_ok] at p
        split at p
        · rename_i es
          refine fun F' H' v G' so => ?_
          obtain ⟨a, us, rfl, h1, h2, h3, h4, h5⟩ := so.mut
          exact p F' H' G' a us (G.same.free h3) h2 h1 (RpL.base es us h5 h4)
        · exact p.elim
theorem aNil_len : ∀ (m : Sl) xs, aNil m = .ok xs → xs.length = 0 := fun m xs h => by cases h; rfl
theorem aCons_len {f : SemE} {g : SemA} {n : Nat} (hg : ∀ m xs, g m = .ok xs → xs.length = n) : ∀ m xs, aCons f g m = .ok xs → xs.length = n + 1 := fun m xs h => by
  unfold aCons at h
  cases hf : f m with
  | stuck => rw [hf] at h; cases h
  | exc c => rw [hf] at h; cases h
  | ok d =>
    rw [hf] at h
    simp only [CT.R.bind_ok] at h
    cases hgm : g m with
    | stuck => rw [hgm] at h; cases h
    | exc c => rw [hgm] at h; cases h
    | ok ds =>
      rw [hgm] at h
      cases h
      rw [List.length_cons, hg m ds hgm]
end

/-! ### statements -/
inductive RS where
  | nx (m : Sl) | rt (d : D) | bk (m : Sl) | ct (m : Sl) | exc (c : String) (m : Sl) | stuck
abbrev SemS := Sl → RS
structure Prog (F H F' H' : Hp) : Prop where
  sub : Same F F'
  tups : ∀ c o, H c = some o → NoL o → H' c = some o
theorem Prog.refl (F H : Hp) : Prog F H F H := ⟨Same.refl _, fun _ _ h _ => h⟩
theorem Prog.trans {F H F1 H1 F2 H2 : Hp} (p : Prog F H F1 H1) (q : Prog F1 H1 F2 H2) : Prog F H F2 H2 := ⟨p.sub.trans q.sub, fun c o h n => q.tups c o (p.tups c o h n) n⟩
theorem Grow.prog {F H F1 H1 : Hp} (g : Grow F H F1 H1) : Prog F H F1 H1 := ⟨g.sub, fun c o h _ => g.same c o h⟩
def Sst (K : PySem.W.Frag) (b : Bs) (W : WX) (F H : Hp) (D' : Ends) : RS → Prop
  | .nx m' => ∀ σ' F' H', Rel K b F' m' σ' H' → Prog F H F' H' → D'.nx σ' H'
  | .bk m' => ∀ σ' F' H', Rel K b F' m' σ' H' → Prog F H F' H' → D'.bk σ' H'
  | .ct m' => ∀ σ' F' H', Rel K b F' m' σ' H' → Prog F H F' H' → D'.ct σ' H'
  | .rt d => ∀ F' H' v, Grow b.F0 b.H0 F' H' → SlotOk K F' b.H0 H' d v → D'.rt v H'
  | .exc c m' => ∀ σ' F' H', Rel K b F' m' σ' H' → Prog F H F' H' → W (b.ex c) none σ' H'
  | .stuck => False
theorem Sst.prog {K : PySem.W.Frag} {b : Bs} {W : WX} {F H F1 H1 : Hp} {D' : Ends} {r : RS} (g : Prog F H F1 H1) (p : Sst K b W F H D' r) : Sst K b W F1 H1 D' r := by
  cases r with
  | nx m => exact fun σ' F' H' R q => p σ' F' H' R (g.trans q)
  | bk m => exact fun σ' F' H' R q => p σ' F' H' R (g.trans q)
  | ct m => exact fun σ' F' H' R q => p σ' F' H' R (g.trans q)
  | rt d => exact p
  | exc c m => exact fun σ' F' H' R q => p σ' F' H' R (g.trans q)
  | stuck => exact p
def tSS (K : PySem.W.Frag) (b : Bs) (W : WX) (g : SemS) : TS := fun D' σ H => ∃ F m, Rel K b F m σ H ∧ Sst K b W F H D' (g m)
abbrev SS (X : Cx) (b : Bs) (W : WX) (st : Stmt) (g : SemS) : Prop := PS X st (tSS X.K b W g)
abbrev SSs (X : Cx) (b : Bs) (W : WX) (st : List Stmt) (g : SemS) : Prop := PSs X st (tSS X.K b W g)
def ofR {α : Type} (m : Sl) (r : R α) (k : α → RS) : RS := match r with
  | .ok a => k a
  | .exc c => .exc c m
  | .stuck => .stuck
@[simp] theorem ofR_ok {α : Type} (m : Sl) (a : α) (k : α → RS) : ofR m (.ok a) k = k a := nr rfl
def sThen (r : RS) (k : Sl → RS) : RS := match r with
  | .nx m => k m
  | r => r
@[simp] theorem sThen_nx (m : Sl) (k : Sl → RS) : sThen (.nx m) k = k m := nr rfl
@[simp] theorem sThen_rt (d : D) (k : Sl → RS) : sThen (.rt d) k = .rt d := nr rfl
@[simp] theorem sThen_exc (c : String) (m : Sl) (k : Sl → RS) : sThen (.exc c m) k = .exc c m := nr rfl
def sNop : SemS := fun m => .nx m
def sSeq (g h : SemS) : SemS := fun m => sThen (g m) h
def sExp (f : SemE) : SemS := fun m => ofR m (f m) fun _ => .nx m
def sRet (f : SemE) : SemS := fun m => ofR m (f m) fun d => .rt (still d)
def sRetO (h : SemA) : SemS := fun m => ofR m (h m) fun ds => if hasTL ds = true then .stuck else .rt (.lst true ds)
def sRetV (i : Nat) : SemS := fun m => match m[i]? with
  | some (some (.lst true ds)) => .rt (.lst true ds)
  | _ => .stuck
def sRetN : SemS := fun _ => .rt .non
def sIf (t : SemT) (g h : SemS) : SemS := fun m => ofR m (t m) fun c => if c = true then g m else h m
def sBreak : SemS := fun m => .bk m
def sCont : SemS := fun m => .ct m
def putR (i : Nat) (d : D) (m : Sl) : R Sl := if hasT d = true then .stuck else .ok (m.set i (some d))
def sSet (i : Nat) (f : SemE) : SemS := fun m => ofR m (f m) fun d => ofR m (putR i d m) fun m' => .nx m'
def sSetO (i : Nat) (h : SemA) : SemS := fun m => ofR m (h m) fun ds => if hasTL ds = true then .stuck else .nx (m.set i (some (.lst true ds)))
section
variable {X : Cx} {b : Bs} {W : WX} {st : Stmt} {rest : List Stmt} {g h : SemS} {e : Expr} {f : SemE} {t : SemT} {pos : Pos}
/-- a value, then a step -/
theorem seqS {R' : V → Hp → Prop} {σ : L2.St} {H F : Hp} {k : D → RS} {D' : Ends} {m : Sl} (r : Rel X.K b F m σ H) (p : Sst X.K b W F H D' (ofR m (f m) k))
    (q : ∀ d F1 H1 v, Rel X.K b F1 m σ H1 → Grow F H F1 H1 → Rp X.K F1 b.H0 H1 d v → Sst X.K b W F1 H1 D' (k d) → R' v H1) : tSE X.K b W f σ H R' := by
  refine ⟨F, m, r, ?_⟩
  cases hf : f m with
  | stuck => rw [hf] at p; exact p.elim
  | exc c => rw [hf] at p; exact fun F1 H1 G => p σ F1 H1 (r.step G) G.prog
  | ok d => rw [hf] at p; exact fun F1 H1 G v hv => q d F1 H1 v (r.step G) G hv (Sst.prog G.prog p)
theorem seqO {R' : V → Hp → Prop} {σ : L2.St} {H F : Hp} {k : List D → RS} {D' : Ends} {m : Sl} {f : SemA} (r : Rel X.K b F m σ H) (p : Sst X.K b W F H D' (ofR m (f m) k))
    (q : ∀ ds F1 H1 a xs, Rel X.K b F1 m σ H1 → Grow F H F1 H1 → H a = none → F1 a = none → H1 a = some (.lst xs) → RpL X.K F1 b.H0 H1 ds xs → Sst X.K b W F1 H1 D' (k ds) → R' (.ref a) H1) : tSO X.K b W f σ H R' := by
  refine ⟨F, m, r, ?_⟩
  cases hf : f m with
  | stuck => rw [hf] at p; exact p.elim
  | exc c => rw [hf] at p; exact fun F1 H1 G => p σ F1 H1 (r.step G) G.prog
  | ok d => rw [hf] at p; exact fun F1 H1 G a xs h0 h1 h2 hv => q d F1 H1 a xs (r.step G) G h0 h1 h2 hv (Sst.prog G.prog p)
theorem sss_nil : SSs X b W [] sNop := PSs.weak pss_nil fun D' σ H ⟨F, m, R, p⟩ => p σ F H R (Prog.refl _ _)
theorem sss_cons (h1 : SS X b W st g) (h2 : SSs X b W rest h) : SSs X b W (st :: rest) (sSeq g h) := by
  refine PSs.weak (pss_cons h1 h2) fun D' σ H ⟨F, m, R, p⟩ => ⟨F, m, R, ?_⟩
  unfold sSeq at p
  cases hg : g m with
  | nx m' => rw [hg] at p; exact fun σ' F' H' R' q => ⟨F', m', R', Sst.prog q p⟩
  | bk m' => rw [hg] at p; exact p
  | ct m' => rw [hg] at p; exact p
  | rt d => rw [hg] at p; exact p
  | exc c m' => rw [hg] at p; exact p
  | stuck => rw [hg] at p; exact p
theorem sss_one (h1 : SS X b W st g) : SSs X b W [st] g := PSs.weak (pss_one h1) fun _ _ _ z => z
theorem ss_doc {x : Str} {j : Nat} {pos' : Pos} : SS X b W (.Expr (.Constant (.str x) j pos) pos') sNop := PS.weak ps_doc fun D' σ H ⟨F, m, R, p⟩ => p σ F H R (Prog.refl _ _)
theorem ss_pass : SS X b W (.Pass pos) sNop := PS.weak ps_pass fun D' σ H ⟨F, m, R, p⟩ => p σ F H R (Prog.refl _ _)
theorem ss_break : SS X b W (.Break pos) sBreak := PS.weak ps_break fun D' σ H ⟨F, m, R, p⟩ => p σ F H R (Prog.refl _ _)
theorem ss_cont : SS X b W (.Continue pos) sCont := PS.weak ps_continue fun D' σ H ⟨F, m, R, p⟩ => p σ F H R (Prog.refl _ _)
theorem ss_exp (hf : SE X b W e f) (hs : swapsWith e none pos.line X.env = pure false := by rfl) : SS X b W (.Expr e pos) (sExp f) :=
  PS.weak (ps_expr hf hs) fun D' σ H ⟨F, m, R, p⟩ => seqS R p fun d F1 H1 v R1 G _ q => q σ F1 H1 R1 (Prog.refl _ _)
theorem Rel.tell {K : PySem.W.Frag} {F H : Hp} {m : Sl} {σ : L2.St} {d : D} {v : V} (R : Rel K b F m σ H) (hv : Rp K F b.H0 H d v) : ∃ F', Grow b.F0 b.H0 F' H ∧ SlotOk K F' b.H0 H (still d) v := by
  refine ⟨vis F b.H0 H, ⟨R.grow.same, R.grow.sub.trans (vis_sub R.sub), vis_subH R.sub, fun a o e => ?_⟩, .inr (.inl ⟨hasT_still d, Rp.vis R.sub d v hv⟩)⟩
  cases h : b.H0 a with
  | none => exact .inr rfl
  | some z =>
    rw [vis_old h] at e
    rcases R.grow.new a o e with q | q
    · exact .inl q
    · rw [h] at q; cases q
theorem ss_ret (hf : SE X b W e f) : SS X b W (.Return (some e) pos) (sRet f) :=
  PS.weak (ps_ret hf) fun D' σ H ⟨F, m, R, p⟩ => seqS R p fun d F1 H1 v R1 G hv q => by
    obtain ⟨F', h1, h2⟩ := R1.tell hv
    exact q F' H1 v h1 h2
theorem ss_retO {k : SemA} (hf : SO X b W e k) : SS X b W (.Return (some e) pos) (sRetO k) :=
  PS.weak (ps_ret hf) fun D' σ H ⟨F, m, R, p⟩ => seqO R p fun ds F1 H1 a xs R1 G h0 h1 h2 hv q => by
    split at q
    · exact q.elim
    · rename_i ht
      exact q F1 H1 _ R1.grow (.inl ⟨ds, a, xs, rfl, rfl, h2, h1, R.grow.same.free h0, hv, by simpa using ht⟩)
theorem ss_retV {i : Nat} (hf : PE X e (tVar i)) : SS X b W (.Return (some e) pos) (sRetV i) :=
  PS.weak (ps_ret hf) fun D' σ H ⟨F, m, R, p⟩ => by
    unfold sRetV at p
    split at p
    · rename_i ds hd
      obtain ⟨v, h1, h2⟩ := R.slot i _ hd
      exact ⟨v, h1, p F H v R.grow h2⟩
    · exact p.elim
theorem ss_retN : SS X b W (.Return none pos) sRetN := PS.weak ps_retN fun D' σ H ⟨F, m, R, p⟩ => p F H .non R.grow (.inr (.inl ⟨rfl, .non⟩))
theorem ss_if {c : Expr} {a d : List Stmt} (hc : ST X b W c t) (ha : SSs X b W a g) (hb : SSs X b W d h) : SS X b W (.If c a d pos) (sIf t g h) :=
  PS.weak (ps_if hc ha hb) fun D' σ H ⟨F, m, R, p⟩ => by
    refine ⟨F, m, R, ?_⟩
    unfold sIf at p
    cases ht : t m with
    | stuck => rw [ht] at p; exact p.elim
    | exc c => rw [ht] at p; exact fun F1 H1 G => p σ F1 H1 (R.step G) G.prog
    | ok c =>
      rw [ht] at p
      refine fun F1 H1 G => ?_
      cases c with
      | true => exact ⟨F1, m, R.step G, Sst.prog G.prog p⟩
      | false => exact ⟨F1, m, R.step G, Sst.prog G.prog p⟩
variable {i : Nat} {x : Str} {px : Pos}
theorem ss_set (hN : X.N.Nodup) (hi : X.N[i]? = some x) (hx : Loc X.env.scope x) (hf : SE X b W e f) (hfn : X.fn x = true ∨ X.env.scope.names.lookup x = some .local := by first | exact .inl rfl | exact .inr rfl)
    (hs : swapsWithSole [.Name x px] e pos.line X.env = pure false := by rfl) (hw : swappedStores [.Name x px] e X.env = pure none := by rfl) : SS X b W (.Assign [.Name x px] e pos) (sSet i f) :=
  PS.weak (ps_asg hf (pg_name hN hi hx hfn) hs hw) fun D' σ H ⟨F, m, R, p⟩ => seqS R p fun d F1 H1 v R1 G hv q => by
    unfold putR at q
    split at q
    · exact q.elim
    · rename_i ht
      exact q _ F1 H1 (R1.put (by simpa using ht) hv) (Prog.refl _ _)
theorem ss_setO {k : SemA} (hN : X.N.Nodup) (hi : X.N[i]? = some x) (hx : Loc X.env.scope x) (hf : SO X b W e k) (hfn : X.fn x = true ∨ X.env.scope.names.lookup x = some .local := by first | exact .inl rfl | exact .inr rfl)
    (hs : swapsWithSole [.Name x px] e pos.line X.env = pure false := by rfl) (hw : swappedStores [.Name x px] e X.env = pure none := by rfl) : SS X b W (.Assign [.Name x px] e pos) (sSetO i k) :=
  PS.weak (ps_asg hf (pg_name hN hi hx hfn) hs hw) fun D' σ H ⟨F, m, R, p⟩ => by
    refine ⟨F, m, R, ?_⟩
    unfold sSetO at p
    cases hk : k m with
    | stuck => rw [hk] at p; exact p.elim
    | exc c => rw [hk] at p; exact fun F1 H1 G => p σ F1 H1 (R.step G) G.prog
    | ok ds =>
      rw [hk] at p
      simp only [ofR_ok] at p
      split at p
      · exact p.elim
      · rename_i ht
        exact fun F1 H1 G a xs h0 h1 h2 hv => p _ F1 H1 (R.own G h0 h2 h1 hv (by simpa using ht)) G.prog
/-- what stands in a slot is changed no more from here on -/
def sFreeze (i : Nat) (g : SemS) : SemS := fun m => match m[i]? with
  | some (some (.lst true ds)) => g (m.set i (some (.lst false ds)))
  | _ => .stuck
theorem ss_freeze (h1 : SS X b W st g) : SS X b W st (sFreeze i g) := PS.weak h1 fun D' σ H ⟨F, m, R, p⟩ => by
  unfold sFreeze at p
  split at p
  · rename_i ds hd
    obtain ⟨F', sF, R'⟩ : ∃ F', Same F F' ∧ Rel X.K b F' (m.set i (some (.lst false ds))) σ H := by
      obtain ⟨F', s, r⟩ := R.freeze' hd
      exact ⟨F', s, r⟩
    exact ⟨F', _, R', Sst.prog ⟨sF, fun _ _ z _ => z⟩ p⟩
  · exact p.elim
end
end CT

/-! CtF: walks, loops, comprehensions, lists that change -/
namespace CT
open PySem PySem.Spec PyProof.Rows L2

/-! ### targets that are names -/
abbrev SemG := D → Sl → R Sl
def NGok (K : PySem.W.Frag) (t : TG) (g : SemG) (vs : List Nat) : Prop := ∀ (b : Bs) (F : Hp) (m : Sl) (σ : L2.St) (H : Hp) (d : D) (v : V) (m' : Sl) (Q : L2.St → Hp → Prop), Rel K b F m σ H → Rp K F b.H0 H d v → g d m = .ok m' →
  (∀ σ', Rel K b F m' σ' H → wipe σ' vs = wipe σ vs → Q σ' H) → t v σ H Q
abbrev SemGs := List D → Sl → R Sl
def NGsOk (K : PySem.W.Frag) (t : TGs) (g : SemGs) (vs : List Nat) : Prop := ∀ (b : Bs) (F : Hp) (m : Sl) (σ : L2.St) (H : Hp) (ds : List D) (us : List V) (m' : Sl) (Q : L2.St → Hp → Prop), Rel K b F m σ H → RpL K F b.H0 H ds us → g ds m = .ok m' →
  (∀ σ', Rel K b F m' σ' H → wipe σ' vs = wipe σ vs → Q σ' H) → t us σ H Q
theorem wipe_set {i : Nat} {v : V} : ∀ {vs : List Nat} {σ : L2.St}, i ∈ vs → wipe (σ.set i (some v)) vs = wipe σ vs
  | [], _, h => nomatch h
  | j :: vs, σ, h => by
    show (wipe (σ.set i (some v)) vs).set j none = (wipe σ vs).set j none
    by_cases hj : i ∈ vs
    · rw [wipe_set hj]
    · have e : i = j := (List.mem_cons.mp h).resolve_right hj
      subst e
      have : ∀ (vs : List Nat) (σ : L2.St), i ∉ vs → wipe (σ.set i (some v)) vs = (wipe σ vs).set i (some v) := fun vs => by
        induction vs with
        | nil => intro σ _; rfl
        | cons k r ih =>
          intro σ hn
          have h1 : i ≠ k := fun e => hn (by rw [e]; exact List.mem_cons_self)
          have h2 : i ∉ r := fun e => hn (List.mem_cons_of_mem _ e)
          show (wipe (σ.set i (some v)) r).set k none = ((wipe σ r).set k none).set i (some v)
          rw [ih σ h2, List.set_comm _ _ h1]
      rw [this vs σ hj, List.set_set]
theorem ng_name {K : PySem.W.Frag} {i : Nat} {vs : List Nat} (hi : i ∈ vs) : NGok K (gName i) (putR i) vs := fun b F m σ H d v m' Q R hv e q => by
  unfold putR at e
  split at e
  · cases e
  · rename_i ht
    cases e
    exact q _ (R.put (by simpa using ht) hv) (wipe_set hi)
def gsNil : SemGs := fun ds m => match ds with
  | [] => .ok m
  | _ => .stuck
def gsCons (g : SemG) (h : SemGs) : SemGs := fun ds m => match ds with
  | d :: r => (g d m).bind fun m1 => h r m1
  | [] => .stuck
def gTupR (n : Nat) (g : SemGs) : SemG := fun d m => match d with
  | .tup ds => if ds.length = n then g ds m else .stuck
  | _ => .stuck
theorem ngs_nil {K : PySem.W.Frag} {vs : List Nat} : NGsOk K gNil gsNil vs := fun b F m σ H ds us m' Q R hv e q => by
  cases ds with
  | nil => cases hv; cases e; exact ⟨rfl, q σ R rfl⟩
  | cons _ _ => cases e
theorem ngs_cons {K : PySem.W.Frag} {vs : List Nat} {t : TG} {ts : TGs} {g : SemG} {h : SemGs} (h1 : NGok K t g vs) (h2 : NGsOk K ts h vs) : NGsOk K (gCons t ts) (gsCons g h) vs := fun b F m σ H ds us m' Q R hv e q => by
  cases ds with
  | nil => cases e
  | cons d r =>
    cases hv with
    | cons a c =>
      simp only [gsCons] at e
      cases hg : g d m with
      | stuck => rw [hg] at e; cases e
      | exc c => rw [hg] at e; cases e
      | ok m1 =>
        rw [hg] at e
        simp only [CT.R.bind_ok] at e
        exact ⟨_, _, rfl, h1 b F m σ H d _ m1 _ R a hg fun σ1 R1 w1 => h2 b F m1 σ1 H r _ m' _ R1 c e fun σ2 R2 w2 => q σ2 R2 (w2.trans w1)⟩
theorem ng_tup {K : PySem.W.Frag} {vs : List Nat} {ts : TGs} {h : SemGs} {n : Nat} (h2 : NGsOk K ts h vs) : NGok K (gTup K n ts) (gTupR n h) vs := fun b F m σ H d v m' Q R hv e q => by
  cases d <;> first | (cases e; done) | skip
  rename_i ds
  simp only [gTupR] at e
  split at e
  · rename_i hl
    obtain ⟨a, xs, rfl, k1, k2⟩ := hv.tuple
    exact ⟨a, xs, rfl, k1, by rw [← k2.length]; exact hl, h2 b F m σ H ds xs m' Q R k2 e q⟩
  · cases e

/-! ### walks -/
def Ltr (strict : Bool) (F H F' H' : Hp) : Prop := Same F F' ∧ Same F' H' ∧ (∀ c o, H c = some o → NoL o → H' c = some o) ∧ (strict = false → Same H H')
structure Wk (K : PySem.W.Frag) (H0 : Hp) (strict : Bool) (J : It) (F H : Hp) (ds : List D) : Prop where
  go : ∀ i F' H', Ltr strict F H F' H' → i < ds.length → J.go i H'
  yld : ∀ (i : Nat) F' H' x H'', Ltr strict F H F' H' → i < ds.length → J.yld i H' x H'' → ∃ F'' d, Grow F' H' F'' H'' ∧ ds[i]? = some d ∧ Rp K F'' H0 H'' d x
  stop : ∀ F' H', Ltr strict F H F' H' → J.stop ds.length H'
def tSI (K : PySem.W.Frag) (b : Bs) (W : WX) (strict : Bool) (f : SemA) : TI := fun σ H Rw => ∃ F m, Rel K b F m σ H ∧ Pst b W σ F H (fun ds F' H' => ∀ J, Wk K b.H0 strict J F' H' ds → Rw J H') (f m)
abbrev SI (X : Cx) (b : Bs) (W : WX) (strict : Bool) (tg e : Expr) (f : SemA) : Prop := PI X tg e (tSI X.K b W strict f)
theorem PI.weak {X : Cx} {tg e : Expr} {t t' : TI} (h : PI X tg e t) (w : ∀ σ H Rw, t' σ H Rw → t σ H Rw) : PI X tg e t' := ⟨fun pins s σ H Q I q => h.run pins s σ H Q I (w _ _ _ q)⟩
theorem PI.or {X : Cx} {tg e : Expr} {t t' : TI} (h : PI X tg e t) (h' : PI X tg e t') : PI X tg e (fun σ H Rw => t σ H Rw ∨ t' σ H Rw) := ⟨fun pins s σ H Q I q => by
  rcases q with q | q
  · exact h.run pins s σ H Q I q
  · exact h'.run pins s σ H Q I q⟩
/-- the items of a list, a tuple, a text -/
def items (strict : Bool) : D → R (List D)
  | .lst t xs => if (strict && t) = true then .stuck else .ok xs
  | .fr xs => .ok xs
  | .tup xs => .ok xs
  | .str z => .ok (z.cps.toList.map fun c => .str ⟨#[c]⟩)
  | _ => .stuck
def aIt (strict : Bool) (f : SemE) : SemA := fun m => (f m).bind (items strict)
section
variable {K : PySem.W.Frag} {F H H0 : Hp} {a : Addr} {xs : List V} {ds : List D} {strict : Bool}
theorem Ltr.tup {F' H' : Hp} (l : Ltr strict F H F' H') (h : SqT K H a xs) : SqT K H' a xs := by
  rcases h with (h | ⟨o, h⟩) | h
  · exact .inl (.inl (l.2.2.1 _ _ h trivial))
  · exact .inl (.inr ⟨o, l.2.2.1 _ _ h trivial⟩)
  · exact .inr h
theorem RpL.ltr {F' H' : Hp} (n : hasTL ds = false ∨ strict = false) (l : Ltr strict F H F' H') (r : RpL K F H0 H ds xs) : RpL K F' H0 H' ds xs := by
  rcases n with n | n
  · exact (RpL.keep l.2.2.1 ds xs n r).mono l.1 (Same.refl _)
  · exact r.mono l.1 (l.2.2.2 n)
/-- a source by its list of values that lasts -/
theorem Wk.of {J : It} (n : hasTL ds = false ∨ strict = false) (r : RpL K F H0 H ds xs) (P : Hp → Prop) (hP : ∀ F' H', Ltr strict F H F' H' → P H') (h1 : ∀ (i : Nat) x H', P H' → xs[i]? = some x → J.go i H')
    (h2 : ∀ (i : Nat) H' x H'', P H' → J.yld i H' x H'' → H'' = H' ∧ ∀ y, xs[i]? = some y → y = x) (h3 : ∀ H', P H' → J.stop xs.length H') : Wk K H0 strict J F H ds where
  go := fun i F' H' l hi => h1 i (xs[i]'(by rw [← r.length]; exact hi)) H' (hP F' H' l) (by simp)
  yld := fun i F' H' x H'' l hi y => by
    obtain ⟨e, q⟩ := h2 i H' x H'' (hP F' H' l) y
    subst e
    obtain ⟨v, k1, k2⟩ := (RpL.ltr n l r).get (i := i) (d := ds[i]) (by simp [hi])
    rw [q v k1] at k2
    exact ⟨F', ds[i], Grow.refl l.2.1, by simp [hi], k2⟩
  stop := fun F' H' l => by rw [r.length]; exact h3 H' (hP F' H' l)
theorem wk_list (n : hasTL ds = false ∨ strict = false) (r : RpL K F H0 H ds xs) (hP : ∀ F' H', Ltr strict F H F' H' → SqL K H' a xs) : Wk K H0 strict (Itl K a) F H ds :=
  Wk.of n r (fun H' => SqL K H' a xs) hP (fun i x H' p e => ⟨xs, x, p, e⟩) (fun i H' x H'' p y => ⟨y.1, fun z e => Option.some.inj (e.symm.trans (y.2 xs p))⟩) (fun H' p => ⟨xs, p, Nat.le_refl _⟩)
theorem wk_tup (n : hasTL ds = false ∨ strict = false) (r : RpL K F H0 H ds xs) (hP : ∀ F' H', Ltr strict F H F' H' → SqT K H' a xs) : Wk K H0 strict (Itt K a) F H ds :=
  Wk.of n r (fun H' => SqT K H' a xs) hP (fun i x H' p e => ⟨xs, x, p, e⟩) (fun i H' x H'' p y => ⟨y.1, fun z e => Option.some.inj (e.symm.trans (y.2 xs p))⟩) (fun H' p => ⟨xs, p, Nat.le_refl _⟩)
/-- what a list among the data is, as it lasts -/
theorem Rp.lasts {t : Bool} {v : V} (s : Same F H) (h : Rp K F H0 H (.lst t ds) v) (c : (strict && t) = false) : ∃ a xs, v = .ref a ∧ RpL K F H0 H ds xs ∧ ∀ F' H', Ltr strict F H F' H' → SqL K H' a xs := by
  cases h with
  | lst p q => exact ⟨_, _, rfl, q, fun F' H' l => .inl (.inl (l.2.1 _ _ (l.1 _ _ p)))⟩
  | tmF p q => exact ⟨_, _, rfl, q, fun F' H' l => .inl (.inl (l.2.1 _ _ (l.1 _ _ p)))⟩
  | tmN p q z =>
    rw [Bool.and_true] at c
    exact ⟨_, _, rfl, z, fun F' H' l => .inl (.inl (l.2.2.2 c _ _ q))⟩
end
theorem chars_rp {K : PySem.W.Frag} {F H H0 : Hp} : ∀ cs : List Nat, RpL K F H0 H (cs.map fun c => .str ⟨#[c]⟩) (cs.map fun c => .str ⟨#[c]⟩)
  | [] => .nil
  | c :: cs => .cons (.str _) (chars_rp cs)
theorem chars_noT : ∀ cs : List Nat, hasTL (cs.map fun c => D.str ⟨#[c]⟩) = false
  | [] => rfl
  | c :: cs => by rw [List.map_cons, hasTL, chars_noT cs]; rfl
section
variable {X : Cx} {b : Bs} {W : WX} {strict : Bool} {e tg : Expr} {f : SemE} {h : SemA} {p pos : Pos}
/-- a walk over the items of what an expression gives -/
def itemsN (strict : Bool) (x : D) : R (List D) := (items strict x).bind fun ds => if (strict && hasTL ds) = true then .stuck else .ok ds
def aItN (strict : Bool) (f : SemE) : SemA := fun m => (f m).bind (itemsN strict)
theorem noT_of {ds : List D} (h : ¬ (strict && hasTL ds) = true) : hasTL ds = false ∨ strict = false := by
  cases strict <;> simp_all
theorem si_seq (hf : SE X b W e f) : SI X b W strict tg e (aItN strict f) := by
  refine PI.weak (PI.or (pi_list hf) (PI.or (pi_tup hf) (pi_str hf))) fun σ H Rw ⟨F, m, R, p⟩ => ?_
  unfold aItN itemsN at p
  cases hm : f m with
  | stuck => rw [hm] at p; exact p.elim
  | exc c =>
    rw [hm] at p
    exact .inl ⟨F, m, R, by rw [hm]; exact p⟩
  | ok x =>
    rw [hm] at p
    simp only [CT.R.bind_ok] at p
    cases x with
    | non => exact p.elim
    | bl _ => exact p.elim
    | int _ => exact p.elim
    | unk => exact p.elim
    | ex _ => exact p.elim
    | dct _ _ _ => exact p.elim
    | lst t ds =>
      refine .inl ⟨F, m, R, ?_⟩
      rw [hm]
      refine fun F1 H1 G v hv => ?_
      have s := (R.step G).sub
      simp only [items] at p
      split at p
      · exact p.elim
      · rename_i c
        simp only [CT.R.bind_ok] at p
        split at p
        · exact p.elim
        · rename_i c2
          obtain ⟨a, xs, rfl, k1, k2⟩ := hv.lasts (strict := strict) s (by simpa using c)
          exact ⟨a, rfl, ⟨xs, k2 F1 H1 ⟨Same.refl _, s, fun _ _ z _ => z, fun _ => Same.refl _⟩⟩, p F1 H1 G _ (wk_list (noT_of c2) k1 k2)⟩
    | fr ds =>
      refine .inl ⟨F, m, R, ?_⟩
      rw [hm]
      refine fun F1 H1 G v hv => ?_
      have s := (R.step G).sub
      simp only [items, CT.R.bind_ok] at p
      split at p
      · exact p.elim
      · rename_i c2
        cases hv with
        | fr k1 k2 =>
          exact ⟨_, rfl, ⟨_, s.seq k1⟩, p F1 H1 G _ (wk_list (noT_of c2) k2 fun F' H' l => l.2.1.seq (l.1.seq k1))⟩
    | tup ds =>
      refine .inr (.inl ⟨F, m, R, ?_⟩)
      rw [hm]
      refine fun F1 H1 G v hv => ?_
      have s := (R.step G).sub
      simp only [items, CT.R.bind_ok] at p
      split at p
      · exact p.elim
      · rename_i c2
        obtain ⟨a, xs, rfl, k1, k2⟩ := hv.tuple
        exact ⟨a, rfl, ⟨xs, k1⟩, p F1 H1 G _ (wk_tup (noT_of c2) k2 fun F' H' l => l.tup k1)⟩
    | str z =>
      refine .inr (.inr ⟨F, m, R, ?_⟩)
      rw [hm]
      refine fun F1 H1 G v hv => ?_
      cases hv
      simp only [items, CT.R.bind_ok, chars_noT, Bool.and_false, Bool.false_eq_true, if_false] at p
      refine ⟨z, rfl, p F1 H1 G _ ?_⟩
      refine Wk.of (xs := z.cps.toList.map fun c => .str ⟨#[c]⟩) (.inl (chars_noT _)) (chars_rp _) (fun _ => True) (fun _ _ _ => trivial) (fun i x H' _ e => ?_) (fun i H' x H'' _ y => ?_) (fun H' _ => ?_)
      · obtain ⟨h1, _⟩ := List.getElem?_eq_some_iff.mp e
        show i < z.cps.size
        simpa using h1
      · obtain ⟨e1, c, hc, rfl⟩ := y
        refine ⟨e1, fun y hy => ?_⟩
        rw [List.getElem?_map] at hy
        rw [← Array.getElem?_toList] at hc
        rw [hc] at hy
        exact (Option.some.inj hy).symm
      · show z.cps.size ≤ _
        simp
/-- range -/
def rng (lo : Int) (n : Nat) : List D := (List.range n).map fun i => D.int (lo + (i : Nat))
def rng1 : List D → R (List D)
  | [.int j] => if -(2 ^ 62) ≤ j ∧ j < 2 ^ 62 then .ok (rng 0 j.toNat) else .stuck
  | _ => .stuck
def rng2 : List D → R (List D)
  | [.int i, .int j] => if -(2 ^ 62) ≤ i ∧ i < 2 ^ 62 ∧ -(2 ^ 62) ≤ j ∧ j < 2 ^ 62 then .ok (rng i (j - i).toNat) else .stuck
  | _ => .stuck
theorem rng_length (lo : Int) (n : Nat) : (rng lo n).length = n := by simp [rng]
theorem rng_get (lo : Int) (n i : Nat) (h : i < n) : (rng lo n)[i]? = some (.int (lo + (i : Nat))) := by simp [rng, h]
theorem wk_rng {K : PySem.W.Frag} {F H H0 : Hp} {lo : Int} {n : Nat} : Wk K H0 strict (Itr lo n) F H (rng lo n) where
  go := fun i F' H' l hi => by rw [rng_length] at hi; exact hi
  yld := fun i F' H' x H'' l hi y => by
    rw [rng_length] at hi
    obtain ⟨e, rfl⟩ := y
    subst e
    exact ⟨F', _, Grow.refl l.2.1, rng_get lo n i hi, .int _⟩
  stop := fun F' H' l => by rw [rng_length]; exact Nat.le_refl _
theorem si_rng1 {a : Expr} (hg : Gl X "range") (hm : X.mg "range" = none) (ha : SA X b W [a] h) (hs : starEach [a] X.env = [(false, eval a X.env)] := by rfl) : SI X b W strict tg (.Call (.Name "range" p) [a] [] pos) (aThen h rng1) := by
  refine PI.weak (pi_range1 hg hm ha hs) fun σ H Rw ⟨F, m, R, p⟩ => ?_
  refine seqA R p fun xs F1 H1 vs R1 G1 hv p1 => ?_
  unfold rng1 at p1
  split at p1
  · obtain ⟨v, rfl, h⟩ := hv.one
    cases h
    split at p1
    · rename_i c
      exact ⟨_, rfl, c.1, c.2, p1.here R1.sub _ wk_rng⟩
    · exact p1.elim
  · exact p1.elim
theorem si_rng2 {a c : Expr} (hg : Gl X "range") (hm : X.mg "range" = none) (ha : SA X b W [a, c] h) (hs : starEach [a, c] X.env = [(false, eval a X.env), (false, eval c X.env)] := by rfl) (hs2 : starEach [c] X.env = [(false, eval c X.env)] := by rfl) :
    SI X b W strict tg (.Call (.Name "range" p) [a, c] [] pos) (aThen h rng2) := by
  refine PI.weak (pi_range2 hg hm ha hs hs2) fun σ H Rw ⟨F, m, R, p⟩ => ?_
  refine seqA R p fun xs F1 H1 vs R1 G1 hv p1 => ?_
  unfold rng2 at p1
  split at p1
  · obtain ⟨v, u, rfl, h, h'⟩ := hv.two
    cases h; cases h'
    split at p1
    · rename_i c
      exact ⟨_, _, rfl, c, p1.here R1.sub _ wk_rng⟩
    · exact p1.elim
  · exact p1.elim
/-- reversed(list or tuple) -/
def revI (strict : Bool) (x : D) : R (List D) := match x with
  | .lst t ds => if (strict && (t || hasTL ds)) = true then .stuck else .ok ds.reverse
  | .tup ds => if (strict && hasTL ds) = true then .stuck else .ok ds.reverse
  | _ => .stuck
def aRev (strict : Bool) (f : SemE) : SemA := fun m => (f m).bind (revI strict)
theorem rev_get {α : Type} {xs : List α} {i : Nat} (h : i < xs.length) : xs.reverse[i]? = xs[xs.length - 1 - i]? := by
  rw [List.getElem?_reverse h]
theorem hasTL_rev : ∀ ds : List D, hasTL ds.reverse = hasTL ds
  | [] => rfl
  | d :: ds => by rw [List.reverse_cons, hasTL_append, hasTL_rev ds, hasTL, hasTL]; simp [hasTL, Bool.or_comm]
theorem si_rev (hg : Gl X "reversed") (hm : X.mg "reversed" = none) (hf : SE X b W e f) (hs : starEach [e] X.env = (false, eval e X.env) :: starEach [] X.env := by rfl) : SI X b W strict tg (.Call (.Name "reversed" p) [e] [] pos) (aRev strict f) := by
  refine PI.weak (RT.pi_revA hg hm hf hs) fun σ H Rw ⟨F, m, R, p⟩ => ?_
  refine ⟨F, m, R, p.bind.imp fun x F1 H1 hx G z v hv => ?_⟩
  have s := (R.step G).sub
  cases x <;> first | exact z.elim | skip
  rotate_left
  · rename_i t ds
    simp only [revI] at z
    split at z
    · exact z.elim
    · rename_i c
      obtain ⟨a, xs, rfl, k1, k2⟩ := hv.lasts (strict := strict) s (by revert c; cases strict <;> cases t <;> simp)
      refine ⟨a, xs, rfl, .inl ⟨k2 F1 H1 ⟨Same.refl _, s, fun _ _ z _ => z, fun _ => Same.refl _⟩, z.here s _ ?_⟩⟩
      have W0 := Wk.of (J := Itv X.K a xs.length) (xs := xs.reverse) (n := by rw [hasTL_rev]; revert c; cases strict <;> cases t <;> simp) k1.rev (fun H' => SqL X.K H' a xs) k2 (fun i y H' q e => ?_) (fun i H' y H'' q z => ⟨z.1, fun w e => ?_⟩) (fun H' q => by show xs.length ≤ _; simp)
      · exact W0
      · obtain ⟨h1, _⟩ := List.getElem?_eq_some_iff.mp e
        have h1 : i < xs.length := by simpa using h1
        rw [rev_get h1] at e
        exact ⟨h1, xs, y, q, e⟩
      · obtain ⟨h1, _⟩ := List.getElem?_eq_some_iff.mp e
        have h1 : i < xs.length := by simpa using h1
        rw [rev_get h1] at e
        exact Option.some.inj (e.symm.trans (z.2 xs q))
  · rename_i ds
    simp only [revI] at z
    split at z
    · exact z.elim
    · rename_i c
      obtain ⟨a, xs, rfl, k1, k2⟩ := hv.tuple
      refine ⟨a, xs, rfl, .inr ⟨k1, z.here s _ ?_⟩⟩
      have W0 := Wk.of (J := RT.ItvT X.K a xs.length) (xs := xs.reverse) (strict := strict) (F := F1) (n := by rw [hasTL_rev]; revert c; cases strict <;> simp) k2.rev (fun H' => SqT X.K H' a xs) (fun F' H' l => l.tup k1) (fun i y H' q e => ?_) (fun i H' y H'' q z => ⟨z.1, fun w e => ?_⟩) (fun H' q => by show xs.length ≤ _; simp)
      · exact W0
      · obtain ⟨h1, _⟩ := List.getElem?_eq_some_iff.mp e
        have h1 : i < xs.length := by simpa using h1
        rw [rev_get h1] at e
        exact ⟨h1, xs, y, q, e⟩
      · obtain ⟨h1, _⟩ := List.getElem?_eq_some_iff.mp e
        have h1 : i < xs.length := by simpa using h1
        rw [rev_get h1] at e
        exact Option.some.inj (e.symm.trans (z.2 xs q))
/-- pairs that are made new at each turn -/
theorem Wk.pairs {K : PySem.W.Frag} {F H H0 : Hp} {J : It} {ds es : List D} {xs ys : List V} (n1 : hasTL ds = false ∨ strict = false) (n2 : hasTL es = false ∨ strict = false) (r : RpL K F H0 H ds xs) (q : RpL K F H0 H es ys) (P : Hp → Prop) (hP : ∀ F' H', Ltr strict F H F' H' → P H')
    (h1 : ∀ (i : Nat) x y H', P H' → xs[i]? = some x → ys[i]? = some y → J.go i H')
    (h2 : ∀ (i : Nat) H' v H'', P H' → J.yld i H' v H'' → ∃ T x y, v = .ref T ∧ H' T = none ∧ H'' = upd H' T (.tup [x, y]) ∧ (∀ z, xs[i]? = some z → z = x) ∧ ∀ z, ys[i]? = some z → z = y)
    (h3 : ∀ H', P H' → J.stop (min xs.length ys.length) H') : Wk K H0 strict J F H ((ds.zip es).map fun p => .tup [p.1, p.2]) where
  go := fun i F' H' l hi => by
    have hi : i < min xs.length ys.length := by simpa [r.length, q.length] using hi
    exact h1 i (xs[i]'(by omega)) (ys[i]'(by omega)) H' (hP F' H' l) (by simp) (by simp)
  yld := fun i F' H' x H'' l hi y => by
    have hi : i < min ds.length es.length := by simpa using hi
    obtain ⟨T, a, c, rfl, k1, rfl, k2, k3⟩ := h2 i H' x H'' (hP F' H' l) y
    obtain ⟨v, k4, k5⟩ := (RpL.ltr n1 l r).get (i := i) (d := ds[i]'(by omega)) (by simp)
    obtain ⟨u, k6, k7⟩ := (RpL.ltr n2 l q).get (i := i) (d := es[i]'(by omega)) (by simp)
    have e1 := k2 v k4
    have e2 := k3 u k6
    subst e1 e2
    have G := Grow.still (o := .tup [v, u]) l.2.1 k1
    refine ⟨_, .tup [ds[i]'(by omega), es[i]'(by omega)], G, ?_, .tup upd_same (.cons (k5.grow G) (.cons (k7.grow G) .nil))⟩
    have e1 : ds[i]? = some (ds[i]'(by omega)) := List.getElem?_eq_getElem _
    have e2 : es[i]? = some (es[i]'(by omega)) := List.getElem?_eq_getElem _
    have e3 : (ds.zip es)[i]? = some (ds[i]'(by omega), es[i]'(by omega)) := List.getElem?_zip_eq_some.mpr ⟨e1, e2⟩
    rw [List.getElem?_map, e3]
    rfl
  stop := fun F' H' l => by
    have := h3 H' (hP F' H' l)
    rw [← r.length, ← q.length] at this
    simpa using this
def enumL (ds : List D) : List D := ((rng 0 ds.length).zip ds).map fun p => .tup [p.1, p.2]
def enumI (strict : Bool) (x : D) : R (List D) := match x with
  | .lst t ds => if (strict && (t || hasTL ds)) = true then .stuck else .ok (enumL ds)
  | _ => .stuck
theorem rng_rp {K : PySem.W.Frag} {F H H0 : Hp} (lo : Int) : ∀ l : List Nat, RpL K F H0 H (l.map fun i => .int (lo + (i : Nat))) (l.map fun i => .int (lo + (i : Nat)))
  | [] => .nil
  | i :: l => .cons (.int _) (rng_rp lo l)
theorem rng_noT (lo : Int) (n : Nat) : hasTL (rng lo n) = false := by
  unfold rng
  induction List.range n with
  | nil => rfl
  | cons i l ih => rw [List.map_cons, hasTL, ih]; rfl
def aEnum (strict : Bool) (f : SemE) : SemA := fun m => (f m).bind (enumI strict)
theorem si_enum {elts : List Expr} {kk : Nat} {tpos : Pos} (hg : Gl X "enumerate") (hm : X.mg "enumerate" = none) (hf : SE X b W e f) (hs : starEach [e] X.env = [(false, eval e X.env)] := by rfl) : SI X b W strict (.Tuple elts kk tpos) (.Call (.Name "enumerate" p) [e] [] pos) (aEnum strict f) := by
  refine PI.weak (pi_enum hg hm (pa_cons hf pa_nil hs) hs) fun σ H Rw ⟨F, m, R, p⟩ => ?_
  refine ⟨F, m, R, p.bind.imp fun x F1 H1 hx G z v hv => ?_⟩
  have s := (R.step G).sub
  cases x <;> first | exact z.elim | skip
  · rename_i t ds
    simp only [enumI] at z
    split at z
    · exact z.elim
    · rename_i c
      obtain ⟨a, xs, rfl, k1, k2⟩ := hv.lasts (strict := strict) s (by revert c; cases strict <;> cases t <;> simp)
      refine ⟨a, xs, rfl, k2 F1 H1 ⟨Same.refl _, s, fun _ _ z _ => z, fun _ => Same.refl _⟩, z.here s _ ?_⟩
      have hl := k1.length
      refine Wk.pairs (xs := (List.range ds.length).map fun i => .int (0 + (i : Nat))) (.inl (rng_noT 0 ds.length)) (by revert c; cases strict <;> cases t <;> simp) (rng_rp 0 _) k1 (fun H' => SqL X.K H' a xs) k2 (fun i x y H' q e1 e2 => ⟨xs, y, q, e2⟩) (fun i H' v H'' q y => ?_) (fun H' q => ⟨xs, q, by simp; omega⟩)
      obtain ⟨T, x, rfl, h1, h2, h3⟩ := y
      refine ⟨T, _, x, rfl, h1, h2, fun z e => ?_, fun z e => Option.some.inj (e.symm.trans (h3 xs q))⟩
      rw [List.getElem?_map] at e
      cases hr : (List.range ds.length)[i]? with
      | none => rw [hr] at e; cases e
      | some j =>
        rw [hr] at e
        obtain ⟨h5, h6⟩ := List.getElem?_eq_some_iff.mp hr
        rw [List.getElem_range] at h6
        subst h6
        have := (Option.some.inj e).symm
        rw [this]
        simp
end

/-! ### for, while -/
def forGo (g : SemG) (body : SemS) : List D → Sl → RS
  | [], m => .nx m
  | d :: ds, m => match g d m with
    | .ok m1 => match body m1 with
      | .nx m2 => forGo g body ds m2
      | .ct m2 => forGo g body ds m2
      | .bk m2 => .nx m2
      | .rt d => .rt d
      | .exc c m2 => .exc c m2
      | .stuck => .stuck
    | _ => .stuck
def sFor (h : SemA) (g : SemG) (body : SemS) : SemS := fun m => ofR m (h m) fun ds => forGo g body ds m
def whN (t : SemT) (body : SemS) : Nat → Sl → RS
  | 0, _ => .stuck
  | n + 1, m => ofR m (t m) fun c => if c = true then (match body m with
      | .nx m2 => whN t body n m2
      | .ct m2 => whN t body n m2
      | .bk m2 => .nx m2
      | .rt d => .rt d
      | .exc c m2 => .exc c m2
      | .stuck => .stuck) else .nx m
open Classical in
noncomputable def sWhile (t : SemT) (body : SemS) : SemS := fun m => if h : ∃ n, whN t body n m ≠ .stuck then whN t body (Classical.choose h) m else .stuck
theorem whN_mono {t : SemT} {body : SemS} : ∀ {n : Nat} {m : Sl}, whN t body n m ≠ .stuck → ∀ k, n ≤ k → whN t body k m = whN t body n m
  | 0, m, h, k, _ => absurd rfl h
  | n + 1, m, h, 0, hk => absurd hk (by omega)
  | n + 1, m, h, k + 1, hk => by
    simp only [whN] at h ⊢
    cases ht : t m with
    | stuck => rfl
    | exc c => rfl
    | ok c =>
      rw [ht] at h
      simp only [ofR_ok] at h ⊢
      cases c with
      | false => rfl
      | true =>
        simp only [if_true] at h ⊢
        cases hb : body m with
        | nx m2 => rw [hb] at h; exact whN_mono (n := n) (m := m2) h k (by omega)
        | ct m2 => rw [hb] at h; exact whN_mono (n := n) (m := m2) h k (by omega)
        | bk m2 => rfl
        | rt d => rfl
        | exc c m2 => rfl
        | stuck => rfl
/-- a while by so many turns at most -/
theorem sWhile_of {t : SemT} {body : SemS} {n : Nat} {m : Sl} {r : RS} (h : whN t body n m = r) (hr : r ≠ .stuck) : sWhile t body m = r := by
  have ex : ∃ n, whN t body n m ≠ .stuck := ⟨n, by rw [h]; exact hr⟩
  unfold sWhile
  rw [dif_pos ex]
  have h1 := Classical.choose_spec ex
  have h2 : whN t body n m ≠ .stuck := by rw [h]; exact hr
  rw [← h]
  rcases Nat.le_total n (Classical.choose ex) with q | q
  · exact whN_mono h2 _ q
  · exact (whN_mono h1 _ q).symm
section
variable {X : Cx} {b : Bs} {W : WX} {e tg : Expr} {body : List Stmt} {h : SemA} {g : SemG} {k : SemS} {t : TG} {vs : List Nat} {pos : Pos} {tst : SemT}
theorem ss_for (hp : PassesOwn (model X.prog X.w) X.A X.env X.xe) (hc : X.calm = true) (hi : SI X b W true tg e h) (hg : PG X tg t) (hn : NGok X.K t g vs) (hb : SSs X b W body k) (hs : ∀ x, foldedSetIterable e X.env x = pure x := by intro _; rfl) :
    SS X b W (.For tg e body [] pos) (sFor h g k) := by
  refine PS.weak (ps_for hp hc hi hg hb hs) fun D' σ H ⟨F, m, R, p⟩ => ?_
  refine ⟨F, m, R, ?_⟩
  unfold sFor at p
  cases hh : h m with
  | stuck => rw [hh] at p; exact p.elim
  | exc c => rw [hh] at p; exact fun F1 H1 G => p σ F1 H1 (R.step G) G.prog
  | ok ds =>
    rw [hh] at p
    simp only [ofR_ok] at p
    refine fun F1 H1 G J wk => ?_
    refine ⟨fun i n σ' H' => n = ds.length - i ∧ i ≤ ds.length ∧ ∃ F' m', Rel X.K b F' m' σ' H' ∧ Prog F1 H1 F' H' ∧ Sst X.K b W F' H' D' (forGo g k (ds.drop i) m'), ⟨_, rfl, Nat.zero_le _, F1, m, R.step G, Prog.refl _ _, by rw [List.drop_zero]; exact Sst.prog G.prog p⟩, ?_⟩
    rintro i n σ' H' ⟨rfl, hi, F', m', R', P', p'⟩
    have l : Ltr true F1 H1 F' H' := ⟨P'.sub, R'.sub, P'.tups, fun z => by cases z⟩
    by_cases hlt : i < ds.length
    · refine .inr ⟨wk.go i F' H' l hlt, fun σ2 H2 => (ds.length - (i + 1) = ds.length - (i + 1) ∧ i + 1 ≤ ds.length ∧ ∃ F2 m2, Rel X.K b F2 m2 σ2 H2 ∧ Prog F1 H1 F2 H2 ∧ Sst X.K b W F2 H2 D' (forGo g k (ds.drop (i + 1)) m2)), fun σ2 H2 z => ⟨_, by omega, z⟩, fun x H2 y => ?_⟩
      obtain ⟨F2, d, G2, e2, r2⟩ := wk.yld i F' H' x H2 l hlt y
      have hd : ds.drop i = d :: ds.drop (i + 1) := by
        obtain ⟨h1, h2⟩ := List.getElem?_eq_some_iff.mp e2
        rw [← h2]
        exact List.drop_eq_getElem_cons h1
      rw [hd] at p'
      simp only [forGo] at p'
      cases hgd : g d m' with
      | stuck => rw [hgd] at p'; exact p'.elim
      | exc c => rw [hgd] at p'; exact p'.elim
      | ok m1 =>
        rw [hgd] at p'
        simp only at p'
        have R2 := R'.step G2
        refine hn b F2 m' σ' H2 d x m1 _ R2 r2 hgd fun σ3 R3 _ => ⟨F2, m1, R3, ?_⟩
        have P2 : Prog F1 H1 F2 H2 := P'.trans G2.prog
        have p2 := Sst.prog G2.prog p'
        cases hk : k m1 with
        | nx m2 => rw [hk] at p2; exact fun σ4 F4 H4 R4 q => ⟨rfl, hlt, F4, m2, R4, P2.trans q, Sst.prog q p2⟩
        | ct m2 => rw [hk] at p2; exact fun σ4 F4 H4 R4 q => ⟨rfl, hlt, F4, m2, R4, P2.trans q, Sst.prog q p2⟩
        | bk m2 => rw [hk] at p2; exact p2
        | rt d => rw [hk] at p2; exact p2
        | exc c m2 => rw [hk] at p2; exact p2
        | stuck => rw [hk] at p2; exact p2.elim
    · have e : i = ds.length := by omega
      subst e
      rw [List.drop_length] at p'
      exact .inl ⟨wk.stop F' H' l, p' σ' F' H' R' (Prog.refl _ _)⟩
theorem ss_while (hp : PassesOwn (model X.prog X.w) X.A X.env X.xe) (hc : ST X b W e tst) (hb : SSs X b W body k) : SS X b W (.While e body [] pos) (sWhile tst k) := by
  refine PS.weak (ps_while hp hc hb) fun D' σ H ⟨F, m, R, p⟩ => ?_
  have ex : ∃ n, whN tst k n m ≠ .stuck := by
    by_cases hx : ∃ n, whN tst k n m ≠ .stuck
    · exact hx
    · unfold sWhile at p
      rw [dif_neg hx] at p
      exact p.elim
  unfold sWhile at p
  rw [dif_pos ex] at p
  refine ⟨fun n σ' H' => ∃ F' m', Rel X.K b F' m' σ' H' ∧ Prog F H F' H' ∧ Sst X.K b W F' H' D' (whN tst k n m'), ⟨_, F, m, R, Prog.refl _ _, p⟩, ?_⟩
  rintro n σ' H' ⟨F', m', R', P', p'⟩
  cases n with
  | zero => exact p'.elim
  | succ n =>
    refine ⟨F', m', R', ?_⟩
    simp only [whN] at p'
    cases ht : tst m' with
    | stuck => rw [ht] at p'; exact p'.elim
    | exc c => rw [ht] at p'; exact fun F2 H2 G2 => p' σ' F2 H2 (R'.step G2) G2.prog
    | ok c =>
      rw [ht] at p'
      simp only [ofR_ok] at p'
      refine fun F2 H2 G2 => ?_
      cases c with
      | false => exact p' σ' F2 H2 (R'.step G2) G2.prog
      | true =>
        refine ⟨fun σ3 H3 => ∃ F3 m3, Rel X.K b F3 m3 σ3 H3 ∧ Prog F H F3 H3 ∧ Sst X.K b W F3 H3 D' (whN tst k n m3), fun σ3 H3 z => ⟨n, Nat.lt_succ_self n, z⟩, F2, m', R'.step G2, ?_⟩
        simp only [if_true] at p'
        have P2 : Prog F H F2 H2 := P'.trans G2.prog
        have p2 := Sst.prog G2.prog p'
        cases hk : k m' with
        | nx m2 => rw [hk] at p2; exact fun σ4 F4 H4 R4 q => ⟨F4, m2, R4, P2.trans q, Sst.prog q p2⟩
        | ct m2 => rw [hk] at p2; exact fun σ4 F4 H4 R4 q => ⟨F4, m2, R4, P2.trans q, Sst.prog q p2⟩
        | bk m2 => rw [hk] at p2; exact p2
        | rt d => rw [hk] at p2; exact p2
        | exc c m2 => rw [hk] at p2; exact p2
        | stuck => rw [hk] at p2; exact p2.elim
end
end CT

/-! CtG: comprehensions, stores, lists of one's own that change -/
namespace CT
open PySem PySem.Spec PyProof.Rows L2

/-! ### comprehensions -/
def nox {α : Type} : R α → R α
  | .ok a => .ok a
  | _ => .stuck
def lcGo (g : SemG) (t : SemT) (f : SemE) (m : Sl) : List D → R (List D)
  | [] => .ok []
  | d :: ds => (nox (g d m)).bind fun m1 => (nox (t m1)).bind fun c => if c = true then
      (nox (f m1)).bind fun x => if hasT x = true then .stuck else (lcGo g t f m ds).bind fun r => .ok (x :: r)
    else lcGo g t f m ds
def wipeM : Sl → List Nat → Sl
  | m, [] => m
  | m, v :: vs => (wipeM m vs).set v none
def aLc (h : SemA) (g : SemG) (t : SemT) (f : SemE) (vs : List Nat) : SemA := fun m => (h m).bind fun ds => (lcGo g t f (wipeM m vs) ds).bind fun r => if r.length ≤ sizeLine then .ok r else .stuck
def tYesM : SemT := fun _ => .ok true
abbrev WF : WX := fun _ _ _ _ => False
abbrev STs (X : Cx) (b : Bs) (W : WX) (es : List Expr) (f : SemT) : Prop := PTs X es (tST X.K b W f)
theorem PTs.weak {X : Cx} {e : List Expr} {t t' : TT} (h : PTs X e t) (w : ∀ σ H Q, t' σ H Q → t σ H Q) : PTs X e t' := ⟨fun pins s σ H Q I q => h.run pins s σ H Q I (w _ _ _ q)⟩
theorem sts_nil {X : Cx} {b : Bs} {W : WX} : STs X b W [] tYesM := PTs.weak pts_nil fun σ H Q ⟨F, m, R, p⟩ => p.here R.sub
theorem sts_one {X : Cx} {b : Bs} {W : WX} {e : Expr} {t : SemT} (h : ST X b W e t) : STs X b W [e] t := pts_one h
theorem nox_pst {α β : Type} {b : Bs} {W W' : WX} {σ : L2.St} {F H : Hp} {C : β → Hp → Hp → Prop} {r : R α} {k : α → R β} {a : α} (h : nox r = .ok a) : r = .ok a := by
  cases r with
  | ok a' => exact h
  | exc c => cases h
  | stuck => cases h
theorem nox_noexc {α : Type} (r : R α) (c : String) : nox r ≠ .exc c := by cases r <;> intro h <;> cases h
theorem bind_noexc {α β : Type} {r : R α} {k : α → R β} {c : String} (h : ∀ c, r ≠ .exc c) (hk : ∀ a, k a ≠ .exc c) : r.bind k ≠ .exc c := by
  cases r with
  | ok a => exact hk a
  | exc d => exact absurd rfl (h d)
  | stuck => intro z; cases z
theorem lcGo_noexc {g : SemG} {t : SemT} {f : SemE} {m : Sl} : ∀ (ds : List D) (c : String), lcGo g t f m ds ≠ .exc c
  | [], _ => fun h => by cases h
  | d :: ds, c => by
    unfold lcGo
    refine bind_noexc (nox_noexc _) fun m1 => bind_noexc (nox_noexc _) fun q => ?_
    split
    · refine bind_noexc (nox_noexc _) fun x => ?_
      split
      · intro z; cases z
      · exact bind_noexc (lcGo_noexc ds) fun r => fun z => by cases z
    · exact lcGo_noexc ds c
theorem wipe_none {i : Nat} : ∀ {vs : List Nat} {σ : L2.St}, wipe (σ.set i none) vs = (wipe σ vs).set i none
  | [], _ => rfl
  | v :: vs, σ => by
    show (wipe (σ.set i none) vs).set v none = ((wipe σ vs).set v none).set i none
    rw [wipe_none]
    by_cases h : i = v
    · subst h; rfl
    · rw [List.set_comm _ _ h]
theorem wipe_wipe : ∀ (vs : List Nat) (σ : L2.St), wipe (wipe σ vs) vs = wipe σ vs
  | [], _ => rfl
  | v :: vs, σ => by
    show (wipe ((wipe σ vs).set v none) vs).set v none = (wipe σ vs).set v none
    rw [wipe_none, wipe_wipe vs σ, List.set_set]
section
variable {K : PySem.W.Frag} {b : Bs} {F H : Hp} {m : Sl} {σ : L2.St}
theorem Rel.wipe (r : Rel K b F m σ H) : ∀ vs : List Nat, Rel K b F (wipeM m vs) (wipe σ vs) H
  | [] => r
  | v :: vs => (Rel.wipe r vs).drop
theorem lc_ok {wi : TI} {t : TG} {tt : TT} {te : TE} {g : SemG} {tq : SemT} {f : SemE} {h : SemA} {vs : List Nat} {W : WX} {Q : VK} {k : List D → Prop}
    (hn : NGok K t g vs) (hi : ∀ σ H Rw, tSI K b W false h σ H Rw → wi σ H Rw) (ht : ∀ σ H Q, tST K b WF tq σ H Q → tt σ H Q) (he : ∀ σ H Q, tSE K b WF f σ H Q → te σ H Q)
    (r : Rel K b F m σ H) (p : Pst b W σ F H (CO K b H Q) (aLc h g tq f vs m)) : tLc wi t tt te vs σ H Q := by
  refine hi _ _ _ ⟨F, m, r, ?_⟩
  unfold aLc at p
  cases hh : h m with
  | stuck => rw [hh] at p; exact p.elim
  | exc c => rw [hh] at p; exact p
  | ok ds =>
    rw [hh] at p
    simp only [CT.R.bind_ok] at p
    refine fun F1 H1 G J wk D hD => ?_
    cases hl : lcGo g tq f (wipeM m vs) ds with
    | stuck => rw [hl] at p; exact p.elim
    | exc c => exact absurd hl (lcGo_noexc ds c)
    | ok res =>
      rw [hl] at p
      simp only [CT.R.bind_ok] at p
      split at p
      rotate_left
      · exact p.elim
      rename_i hsz
      have r1 := r.step G
      have r1w := r1.wipe vs
      have d0 : b.H0 D = none := r1.grow.same.free hD
      have f1 : F1 D = none := r1.sub.free hD
      refine ⟨fun i n H' => n = ds.length - i ∧ i ≤ ds.length ∧ ∃ F' acc vacc rest, Grow F1 H1 F' H' ∧ F' D = none ∧ H' D = some (.lst vacc) ∧ RpL K F' b.H0 H' acc vacc ∧ hasTL acc = false ∧ lcGo g tq f (wipeM m vs) (ds.drop i) = .ok rest ∧ acc ++ rest = res,
        ⟨_, rfl, Nat.zero_le _, F1, [], [], res, Grow.loose r1.sub hD, f1, upd_same, .nil, rfl, by rw [List.drop_zero]; exact hl, rfl⟩, ?_⟩
      rintro i n H' ⟨rfl, hi', F', acc, vacc, rest, G', e1, e2, e3, e4, e5, e6⟩
      have l : Ltr false F1 H1 F' H' := ⟨G'.sub, G'.subH, fun c o z _ => G'.same c o z, fun _ => G'.same⟩
      by_cases hlt : i < ds.length
      · refine .inr ⟨wk.go i F' H' l hlt, fun H2 => (i + 1 ≤ ds.length ∧ ∃ F' acc vacc rest, Grow F1 H1 F' H2 ∧ F' D = none ∧ H2 D = some (.lst vacc) ∧ RpL K F' b.H0 H2 acc vacc ∧ hasTL acc = false ∧ lcGo g tq f (wipeM m vs) (ds.drop (i + 1)) = .ok rest ∧ acc ++ rest = res),
          fun H2 z => ⟨ds.length - (i + 1), by omega, rfl, z⟩, fun x H2 y => ?_⟩
        obtain ⟨F2, d, G2, k2, r2⟩ := wk.yld i F' H' x H2 l hlt y
        have hd : ds.drop i = d :: ds.drop (i + 1) := by
          obtain ⟨h1, h2⟩ := List.getElem?_eq_some_iff.mp k2
          rw [← h2]
          exact List.drop_eq_getElem_cons h1
        rw [hd] at e5
        simp only [lcGo] at e5
        cases h1 : nox (g d (wipeM m vs)) with
        | stuck => rw [h1] at e5; cases e5
        | exc c' => cases hg : g d (wipeM m vs) <;> rw [hg] at h1 <;> cases h1
        | ok m1 =>
          rw [h1] at e5
          simp only [CT.R.bind_ok] at e5
          have hg : g d (wipeM m vs) = .ok m1 := by cases hg : g d (wipeM m vs) <;> rw [hg] at h1 <;> first | exact h1 | cases h1
          have G12 := G'.trans G2
          have R2 := r1w.step G12
          refine hn b F2 _ _ H2 d x m1 _ R2 r2 hg fun σ3 R3 w3 => ⟨w3.trans (wipe_wipe vs σ), ?_⟩
          refine ht _ _ _ ⟨F2, m1, R3, ?_⟩
          cases h2 : nox (tq m1) with
          | stuck => rw [h2] at e5; cases e5
          | exc c' => cases hg : tq m1 <;> rw [hg] at h2 <;> cases h2
          | ok c' =>
            have ht' : tq m1 = .ok c' := by cases hg : tq m1 <;> rw [hg] at h2 <;> first | exact h2 | cases h2
            rw [ht']
            rw [h2] at e5
            simp only [CT.R.bind_ok] at e5
            refine fun F3 H3 G3 => ?_
            have G13 := G12.trans G3
            have fD3 : F3 D = none := by
              cases q : F3 D with
              | none => rfl
              | some o =>
                rcases G2.trans G3 |>.new D o q with z | z
                · rw [e1] at z; cases z
                · rw [e2] at z; cases z
            have hD3 : H3 D = some (.lst vacc) := (G2.trans G3).same _ _ e2
            cases c' with
            | false =>
              simp only [Bool.false_eq_true, if_false] at e5 ⊢
              exact ⟨hlt, F3, acc, vacc, rest, G13, fD3, hD3, (e3.grow G2).grow G3, e4, e5, e6⟩
            | true =>
              simp only [if_true] at e5 ⊢
              refine he _ _ _ ⟨F3, m1, R3.step G3, ?_⟩
              cases h3 : nox (f m1) with
              | stuck => rw [h3] at e5; cases e5
              | exc c' => cases hg : f m1 <;> rw [hg] at h3 <;> cases h3
              | ok z =>
                have hf' : f m1 = .ok z := by cases hg : f m1 <;> rw [hg] at h3 <;> first | exact h3 | cases h3
                rw [hf']
                rw [h3] at e5
                simp only [CT.R.bind_ok] at e5
                split at e5
                · cases e5
                rename_i hz
                have hz : hasT z = false := by simpa using hz
                refine fun F4 H4 G4 v4 r4 => ?_
                have G14 := G13.trans G4
                have hD4 : H4 D = some (.lst vacc) := G4.same _ _ hD3
                have fD4 : F4 D = none := by
                  cases q : F4 D with
                  | none => rfl
                  | some o =>
                    rcases G4.new D o q with z | z
                    · rw [fD3] at z; cases z
                    · rw [hD3] at z; cases z
                cases h4 : lcGo g tq f (wipeM m vs) (ds.drop (i + 1)) with
                | stuck => rw [h4] at e5; cases e5
                | exc c' => rw [h4] at e5; cases e5
                | ok rest' =>
                  rw [h4] at e5
                  simp only [CT.R.bind_ok] at e5
                  cases e5
                  have keep : ∀ c o, H4 c = some o → NoL o → (upd H4 D (.lst (vacc ++ [v4]))) c = some o := fun c o hc ho => by
                    rw [upd_ne (fun q => by subst q; rw [hD4] at hc; cases hc; exact False.elim ho)]; exact hc
                  have hlen := e3.length
                  have hres : acc.length < sizeLine := by
                    rw [← e6, List.length_append, List.length_cons] at hsz
                    omega
                  refine ⟨vacc, hD4, by rw [← hlen]; exact hres, hlt, F4, acc ++ [z], vacc ++ [v4], rest', ⟨fun c o hc => ?_, G14.sub, fun c o hc => ?_, G14.new⟩, fD4, upd_same, ?_, ?_, rfl, ?_⟩
                  · rw [upd_ne (fun q => by subst q; rw [hD] at hc; cases hc)]; exact G14.same _ _ hc
                  · rw [upd_ne (fun q => by subst q; rw [fD4] at hc; cases hc)]; exact G14.subH _ _ hc
                  · exact (RpL.keep keep acc vacc e4 (((e3.grow G2).grow G3).grow G4)).app (.cons (Rp.keep keep z v4 hz r4) .nil)
                  · rw [hasTL_append, e4, hasTL, hz]; rfl
                  · rw [← e6, List.append_assoc]; rfl
      · have e : i = ds.length := by omega
        subst e
        rw [List.drop_length] at e5
        cases e5
        rw [List.append_nil] at e6
        subst e6
        exact .inl ⟨wk.stop F' H' l, p F' H' (G.trans G') D vacc (G.same.free hD) e1 e2 e3⟩
end
section
variable {X : Cx} {b : Bs} {W : WX} {elt tg iter : Expr} {ifs : List Expr} {scope : Scope} {own : List (Str × Nat)} {pos spos : Pos} {t : TG} {g : SemG} {tq : SemT} {f : SemE} {h : SemA} {vs : List Nat}
theorem so_lc (hc : X.calm = true) (hN : X.N.Nodup) (hi : SI X b W false tg iter h) (ok : BlkOk X.N X.env.scope scope own) (hn : NGok X.K t g vs)
    (hg : ∀ (s : Shared) (H : Hp) (C : Addr) (cl : List (Str × Addr)) (fp : List Addr), PG (X.blk s H scope (compEnvC scope cl C X.env) fp) tg t) (ht : ∀ (s : Shared) (H : Hp) (C : Addr) (cl : List (Str × Addr)) (fp : List Addr), STs (X.blk s H scope (compEnvC scope cl C X.env) fp) b WF ifs tq)
    (he : ∀ (s : Shared) (H : Hp) (C : Addr) (cl : List (Str × Addr)) (fp : List Addr), SE (X.blk s H scope (compEnvC scope cl C X.env) fp) b WF elt f) (hs : ∀ x, foldedSetIterable iter X.env x = pure x := by intro _; rfl) (hv : own.map (·.2) = vs := by rfl) :
    SO X b W (.ListComp elt [⟨tg, iter, ifs, 0⟩] scope pos) (aLc h g tq f vs) :=
  by subst hv; exact PE.weak (pe_lc hc hN hi ok hg ht he hs) fun σ H Q ⟨F, m, R, p⟩ => lc_ok hn (fun _ _ _ z => z) (fun _ _ _ z => z) (fun _ _ _ z => z) (k := fun _ => True) R p
variable {i : Nat} {y : Str} {py : Pos}
/-- y = [..] -/
theorem ss_setLcO (hc : X.calm = true) (hN : X.N.Nodup) (hy : X.N[i]? = some y) (hyl : X.env.scope.names.lookup y = some .local) (hsw : swapsWith (.ListComp elt [⟨tg, iter, ifs, 0⟩] scope pos) (some (.Name y py)) spos.line X.env = pure true)
    (hi : SI X b W false tg iter h) (ok : BlkOk X.N X.env.scope scope own) (hn : NGok X.K t g vs)
    (hg : ∀ (s : Shared) (H : Hp) (C : Addr) (cl : List (Str × Addr)) (fp : List Addr), PG (X.blk s H scope (compEnvC scope cl C X.env) fp) tg t) (ht : ∀ (s : Shared) (H : Hp) (C : Addr) (cl : List (Str × Addr)) (fp : List Addr), STs (X.blk s H scope (compEnvC scope cl C X.env) fp) b WF ifs tq)
    (he : ∀ (s : Shared) (H : Hp) (C : Addr) (cl : List (Str × Addr)) (fp : List Addr), SE (X.blk s H scope (compEnvC scope cl C X.env) fp) b WF elt f) (hs : ∀ x, foldedSetIterable iter X.env x = pure x := by intro _; rfl) (hv : own.map (·.2) = vs := by rfl) :
    SS X b W (.Assign [.Name y py] (.ListComp elt [⟨tg, iter, ifs, 0⟩] scope pos) spos) (sSetO i (aLc h g tq f vs)) :=
  by
  subst hv
  refine PS.weak (ps_setLc (tt := tST X.K b WF tq) (te := tSE X.K b WF f) hc hN hy hyl hsw hi ok hg ht he hs) fun D' σ H ⟨F, m, R, p⟩ => ?_
  · 
    refine lc_ok (Q := fun x H1 => gName i x σ H1 D'.nx) (h := h) (g := g) (tq := tq) (f := f) hn (fun _ _ _ z => z) (fun _ _ _ z => z) (fun _ _ _ z => z) (k := fun _ => True) R ?_
    unfold sSetO at p
    cases hk : aLc h g tq f (own.map (·.2)) m with
    | stuck => rw [hk] at p; exact p.elim
    | exc c => rw [hk] at p; exact fun F1 H1 G => p σ F1 H1 (R.step G) G.prog
    | ok ds =>
      rw [hk] at p
      simp only [ofR_ok] at p
      split at p
      · exact p.elim
      · rename_i ht
        exact fun F1 H1 G a xs h0 h1 h2 hv => p _ F1 H1 (R.own G h0 h2 h1 hv (by simpa using ht)) G.prog
theorem ss_setLc (hc : X.calm = true) (hN : X.N.Nodup) (hy : X.N[i]? = some y) (hyl : X.env.scope.names.lookup y = some .local) (hsw : swapsWith (.ListComp elt [⟨tg, iter, ifs, 0⟩] scope pos) (some (.Name y py)) spos.line X.env = pure true)
    (hi : SI X b W false tg iter h) (ok : BlkOk X.N X.env.scope scope own) (hn : NGok X.K t g vs)
    (hg : ∀ (s : Shared) (H : Hp) (C : Addr) (cl : List (Str × Addr)) (fp : List Addr), PG (X.blk s H scope (compEnvC scope cl C X.env) fp) tg t) (ht : ∀ (s : Shared) (H : Hp) (C : Addr) (cl : List (Str × Addr)) (fp : List Addr), STs (X.blk s H scope (compEnvC scope cl C X.env) fp) b WF ifs tq)
    (he : ∀ (s : Shared) (H : Hp) (C : Addr) (cl : List (Str × Addr)) (fp : List Addr), SE (X.blk s H scope (compEnvC scope cl C X.env) fp) b WF elt f) (hs : ∀ x, foldedSetIterable iter X.env x = pure x := by intro _; rfl) (hv : own.map (·.2) = vs := by rfl) :
    SS X b W (.Assign [.Name y py] (.ListComp elt [⟨tg, iter, ifs, 0⟩] scope pos) spos) (sSet i (eOwn (aLc h g tq f vs))) :=
  PS.weak (ss_setLcO hc hN hy hyl hsw hi ok hn hg ht he hs hv) fun D' σ H ⟨F, m, R, p⟩ => by
    refine ⟨F, m, R, ?_⟩
    unfold sSet eOwn at p
    unfold sSetO
    cases hk : aLc h g tq f vs m with
    | stuck => rw [hk] at p; exact p
    | exc c => rw [hk] at p; exact p
    | ok ds =>
      rw [hk] at p
      simp only [CT.R.bind_ok, ofR_ok, putR, hasT, Bool.false_or] at p ⊢
      split at p
      · exact p.elim
      · rename_i ht
        rw [if_neg ht]
        simp only [ofR_ok] at p
        intro σ' F' H' R' P'
        by_cases hil : i < m.length
        · obtain ⟨F2, s2, R2⟩ := R'.freeze' (i := i) (ds := ds) (by rw [List.getElem?_set_self hil])
          rw [List.set_set] at R2
          exact p σ' F2 H' R2 ⟨P'.sub.trans s2, P'.tups⟩
        · have e : ∀ z, m.set i z = m := fun z => List.set_eq_of_length_le (by omega)
          rw [e] at R' p
          exact p σ' F' H' R' P'
end
end CT

/-! CtH: lists of one's own that change, stores into several targets, the rule for a def -/
namespace CT
open PySem PySem.Spec PyProof.Rows L2

def mine (i : Nat) (m : Sl) (k : List D → RS) : RS := match m[i]? with
  | some (some (.lst true xs)) => k xs
  | _ => .stuck
def sApp (i : Nat) (f : SemE) : SemS := fun m => mine i m fun xs => ofR m (f m) fun d => if hasT d = true then .stuck else if xs.length < sizeLine then .nx (m.set i (some (.lst true (xs ++ [d])))) else .stuck
def seqL : D → R (List D)
  | .lst _ xs => .ok xs
  | _ => .stuck
def sExt (i : Nat) (f : SemE) : SemS := fun m => mine i m fun xs => ofR m ((f m).bind seqL) fun ys => if hasTL ys = true then .stuck else if xs.length + ys.length ≤ sizeLine then .nx (m.set i (some (.lst true (xs ++ ys)))) else .stuck
theorem mine_sst {K : PySem.W.Frag} {b : Bs} {W : WX} {F H : Hp} {D' : Ends} {i : Nat} {m : Sl} {σ : L2.St} {k : List D → RS} (R : Rel K b F m σ H) (p : Sst K b W F H D' (mine i m k)) :
    ∃ xs a vs, m[i]? = some (some (.lst true xs)) ∧ σ[i]? = some (some (.ref a)) ∧ H a = some (.lst vs) ∧ RpL K F b.H0 H xs vs ∧ hasTL xs = false ∧ Sst K b W F H D' (k xs) := by
  unfold mine at p
  split at p
  · rename_i xs h
    obtain ⟨v, h1, h2⟩ := R.slot i _ h
    obtain ⟨a, vs, rfl, k1, k2, k3, k4, k5⟩ := h2.mut
    exact ⟨xs, a, vs, h, h1, k1, k4, k5, p⟩
  · exact p.elim
theorem chg_prog {F H : Hp} {a : Addr} {xs ys : List V} (h : H a = some (.lst xs)) : Prog F H F (upd H a (.lst ys)) :=
  ⟨Same.refl _, fun c o hc ho => by rw [upd_ne (fun z => by subst z; rw [h] at hc; cases hc; exact False.elim ho)]; exact hc⟩
section
variable {X : Cx} {b : Bs} {W : WX} {e : Expr} {f : SemE} {i : Nat} {x : Str} {px apos cpos pos : Pos} {o : Expr}
theorem ss_app (ho : PE X o (tVar i)) (hf : SE X b W e f)
    (hbase : attributeBase o "append" X.env (eval o X.env) = eval o X.env := by rfl)
    (hfew : ((backTo cpos (starEach [e] X.env)).all (fun x => !x.1) && (backToKw cpos (keywordEach [] X.env)).all (fun x => x.1.isSome)
      && decide ([e].length + ([] : List Keyword).length + (if ([] : List Keyword).isEmpty then 0 else 1) < 30)) = true := by rfl)
    (hline : (apos.endLine == cpos.line) = true := by rfl) (hs : starEach [e] X.env = (false, eval e X.env) :: starEach [] X.env := by rfl) (hplain : (backTo cpos (starEach [] X.env)).any (·.1) = false := by rfl)
    (hsw : swapsWith (.Call (.Attribute o "append" apos) [e] [] cpos) none pos.line X.env = pure false := by rfl) : SS X b W (.Expr (.Call (.Attribute o "append" apos) [e] [] cpos) pos) (sApp i f) := by
  refine PS.weak (ps_expr (pe_bm PySem.F.plainAttrs_list PySem.F.slot_list_append PySem.F.type_list_append mt_append ho (pa_cons hf pa_nil hs) hbase hfew hline hs hplain) hsw) fun D' σ H ⟨F, m, R, p⟩ => ?_
  obtain ⟨xs, a, vs, h1, h2, h3, h4, h5, p⟩ := mine_sst R p
  refine ⟨.ref a, h2, .inl ⟨rfl, vs, .inl (.inl h3)⟩, seqS R p fun d F1 H1 v R1 G hv q => ?_⟩
  split at q
  · exact q.elim
  rename_i hd
  split at q
  · rename_i hz
    have h3 := G.same _ _ h3
    have h4 := h4.grow G
    refine ⟨a, vs, v, rfl, rfl, h3, by rw [← h4.length]; exact hz, q σ F1 _ (R1.chg h1 h2 (h4.app (.cons hv .nil)) ?_) (chg_prog h3)⟩
    rw [hasTL_append, h5, hasTL]
    simp only [Bool.not_eq_true] at hd
    rw [hd]; rfl
  · exact q.elim
theorem ss_ext (ho : PE X o (tVar i)) (hf : SE X b W e f)
    (hbase : attributeBase o "extend" X.env (eval o X.env) = eval o X.env := by rfl)
    (hfew : ((backTo cpos (starEach [e] X.env)).all (fun x => !x.1) && (backToKw cpos (keywordEach [] X.env)).all (fun x => x.1.isSome)
      && decide ([e].length + ([] : List Keyword).length + (if ([] : List Keyword).isEmpty then 0 else 1) < 30)) = true := by rfl)
    (hline : (apos.endLine == cpos.line) = true := by rfl) (hs : starEach [e] X.env = (false, eval e X.env) :: starEach [] X.env := by rfl) (hplain : (backTo cpos (starEach [] X.env)).any (·.1) = false := by rfl)
    (hsw : swapsWith (.Call (.Attribute o "extend" apos) [e] [] cpos) none pos.line X.env = pure false := by rfl) : SS X b W (.Expr (.Call (.Attribute o "extend" apos) [e] [] cpos) pos) (sExt i f) := by
  refine PS.weak (ps_expr (pe_bm PySem.F.plainAttrs_list PySem.F.slot_list_extend PySem.F.type_list_extend mt_extend ho (pa_cons hf pa_nil hs) hbase hfew hline hs hplain) hsw) fun D' σ H ⟨F, m, R, p⟩ => ?_
  obtain ⟨xs, a, vs, h1, h2, h3, h4, h5, p⟩ := mine_sst R p
  have p' : Sst X.K b W F H D' (ofR m (f m) fun d => ofR m (seqL d) fun ys => if hasTL ys = true then .stuck else if xs.length + ys.length ≤ sizeLine then .nx (m.set i (some (.lst true (xs ++ ys)))) else .stuck) := by
    cases hf : f m <;> rw [hf] at p <;> exact p
  refine ⟨.ref a, h2, .inl ⟨rfl, vs, .inl (.inl h3)⟩, seqS R p' fun d F1 H1 v R1 G hv q => ?_⟩
  cases d <;> first | exact q.elim | skip
  rename_i t ys
  simp only [seqL, ofR_ok] at q
  split at q
  · exact q.elim
  rename_i hd
  split at q
  · rename_i hz
    have h3 := G.same _ _ h3
    have h4 := h4.grow G
    obtain ⟨c, us, rfl, k1, k2⟩ := hv.list R1.sub
    refine ⟨a, c, vs, us, rfl, rfl, h3, k1, by rw [← h4.length, ← k2.length]; exact hz, q σ F1 _ (R1.chg h1 h2 (h4.app k2) ?_) (chg_prog h3)⟩
    rw [hasTL_append, h5]
    simpa using hd
  · exact q.elim

/-! ### targets -/
def TGok (X : Cx) (b : Bs) (t : TG) (g : SemG) : Prop := ∀ (F : Hp) (m : Sl) (σ : L2.St) (H : Hp) (d : D) (v : V) (m' : Sl) (Q : L2.St → Hp → Prop), Rel X.K b F m σ H → hasT d = false → Rp X.K F b.H0 H d v → g d m = .ok m' →
  (∀ σ' F' H', Rel X.K b F' m' σ' H' → Prog F H F' H' → Q σ' H') → t v σ H Q
def TGsOk (X : Cx) (b : Bs) (t : TGs) (g : SemGs) : Prop := ∀ (F : Hp) (m : Sl) (σ : L2.St) (H : Hp) (ds : List D) (us : List V) (m' : Sl) (Q : L2.St → Hp → Prop), Rel X.K b F m σ H → hasTL ds = false → RpL X.K F b.H0 H ds us → g ds m = .ok m' →
  (∀ σ' F' H', Rel X.K b F' m' σ' H' → Prog F H F' H' → Q σ' H') → t us σ H Q
theorem tg_name : TGok X b (gName i) (putR i) := fun F m σ H d v m' Q R n hv e q => by
  unfold putR at e
  split at e
  · cases e
  · cases e
    exact q _ F H (R.put n hv) (Prog.refl _ _)
theorem tgs_nil : TGsOk X b gNil gsNil := fun F m σ H ds us m' Q R n hv e q => by
  cases ds with
  | nil => cases hv; cases e; exact ⟨rfl, q σ F H R (Prog.refl _ _)⟩
  | cons _ _ => cases e
theorem tgs_cons {t : TG} {ts : TGs} {g : SemG} {h : SemGs} (h1 : TGok X b t g) (h2 : TGsOk X b ts h) : TGsOk X b (gCons t ts) (gsCons g h) := fun F m σ H ds us m' Q R n hv e q => by
  cases ds with
  | nil => cases e
  | cons d r =>
    simp only [hasTL, Bool.or_eq_false_iff] at n
    cases hv with
    | cons a c =>
      simp only [gsCons] at e
      cases hg : g d m with
      | stuck => rw [hg] at e; cases e
      | exc c => rw [hg] at e; cases e
      | ok m1 =>
        rw [hg] at e
        simp only [CT.R.bind_ok] at e
        exact ⟨_, _, rfl, h1 F m σ H d _ m1 _ R n.1 a hg fun σ1 F1 H1 R1 P1 => h2 F1 m1 σ1 H1 r _ m' _ R1 n.2 ((RpL.keep P1.tups r _ n.2 c).mono P1.sub (Same.refl _)) e fun σ2 F2 H2 R2 P2 => q σ2 F2 H2 R2 (P1.trans P2)⟩
theorem tg_tup {ts : TGs} {h : SemGs} {n : Nat} (h2 : TGsOk X b ts h) : TGok X b (gTup X.K n ts) (gTupR n h) := fun F m σ H d v m' Q R nt hv e q => by
  cases d <;> first | (cases e; done) | skip
  rename_i ds
  simp only [gTupR] at e
  split at e
  · rename_i hl
    obtain ⟨a, xs, rfl, k1, k2⟩ := hv.tuple
    exact ⟨a, xs, rfl, k1, by rw [← k2.length]; exact hl, h2 F m σ H ds xs m' Q R nt k2 e q⟩
  · cases e
/-- x[e] = .., x one's own list -/
def subR (i : Nat) (f : SemE) : SemG := fun d m => if hasT d = true then .stuck else match m[i]? with
  | some (some (.lst true xs)) => match f m with
    | .ok (.int k) => match ixN xs.length k with
      | some j => .ok (m.set i (some (.lst true (xs.set j d))))
      | none => .stuck
    | _ => .stuck
  | _ => .stuck
theorem tg_sub {W : WX} : TGok X b (gSub (tVar i) (tSE X.K b W f) rSetL) (subR i f) := fun F m σ H d v m' Q R n hv e q => by
  unfold subR at e
  split at e
  · cases e
  split at e
  · rename_i xs hx
    split at e
    · rename_i k hf
      split at e
      · rename_i j hj
        cases e
        obtain ⟨w, h1, h2⟩ := R.slot i _ hx
        obtain ⟨a, vs, rfl, k1, k2, k3, k4, k5⟩ := h2.mut
        refine ⟨.ref a, h1, F, m, R, ?_⟩
        rw [hf]
        refine fun F1 H1 G u hu => ?_
        cases hu
        have k4' := k4.grow G
        exact ⟨a, vs, k, j, rfl, rfl, G.same _ _ k1, by rw [← k4'.length]; exact hj, q σ F1 _ ((R.step G).chg hx h1 (RpL.set (hv.grow G) j k4') (hasTL_set n j k5)) (G.prog.trans (chg_prog (G.same _ _ k1)))⟩
      · cases e
    · cases e
  · cases e
def sAsg (f : SemE) (g : SemG) : SemS := fun m => ofR m (f m) fun d => if hasT d = true then .stuck else match g d m with
  | .ok m' => .nx m'
  | _ => .stuck
theorem ss_asg {tg : Expr} {t : TG} {g : SemG} (hf : SE X b W e f) (hg : PG X tg t) (hn : TGok X b t g) (hs : swapsWithSole [tg] e pos.line X.env = pure false := by rfl) (hw : swappedStores [tg] e X.env = pure none := by rfl)
    (h1 : (assignEach [tg] X.env).map (·.2) = [assign tg X.env] := by rfl) : SS X b W (.Assign [tg] e pos) (sAsg f g) :=
  PS.weak (ps_asg hf hg hs hw h1) fun D' σ H ⟨F, m, R, p⟩ => seqS R p fun d F1 H1 v R1 G hv q => by
    split at q
    · exact q.elim
    · rename_i hd
      split at q
      · rename_i m' hg
        exact hn F1 m σ H1 d v m' _ R1 (by simpa using hd) hv hg fun σ' F' H' R' P' => q σ' F' H' R' P'
      · exact q.elim
/-- a, b = e1, e2 -/
def sPar (i j : Nat) (f g : SemE) : SemS := fun m => ofR m (f m) fun d => ofR m (g m) fun d' => if (hasT d || hasT d') = true then .stuck else .nx ((m.set i (some d)).set j (some d'))
theorem ss_par {j : Nat} {y : Str} {a c : Expr} {g : SemE} {py pt : Pos} {kt k2 pt2} (hc : X.calm = true) (hN : X.N.Nodup) (hi : X.N[i]? = some x) (hj : X.N[j]? = some y) (hij : i ≠ j)
    (hx : X.env.scope.names.lookup x = some .local) (hy : X.env.scope.names.lookup y = some .local) (ha : SE X b W a f) (hb : SE X b W c g)
    (hw : swappedStores [.Tuple [.Name x px, .Name y py] kt pt] (.Tuple [a, c] k2 pt2) X.env = pure (some [x, y])) (hst : starEach [a, c] X.env = (false, eval a X.env) :: starEach [c] X.env := by rfl) (hst2 : starEach [c] X.env = (false, eval c X.env) :: starEach [] X.env := by rfl)
    (hs : swapsWithSole [.Tuple [.Name x px, .Name y py] kt pt] (.Tuple [a, c] k2 pt2) pos.line X.env = pure false := by rfl) :
    SS X b W (.Assign [.Tuple [.Name x px, .Name y py] kt pt] (.Tuple [a, c] k2 pt2) pos) (sPar i j f g) :=
  PS.weak (ps_par hc hN hi hj hij hx hy (pa_cons ha (pa_cons hb pa_nil hst2) hst) hw hs) fun D' σ H ⟨F, m, R, p⟩ => by
    refine seqS R p fun d F1 H1 v R1 G hv q => seqS R1 q fun d' F2 H2 u R2 G2 hu q2 => ?_
    split at q2
    · exact q2.elim
    · rename_i hd
      simp only [Bool.or_eq_true, not_or, Bool.not_eq_true] at hd
      exact ⟨v, u, rfl, q2 _ F2 H2 ((R2.put hd.1 (hv.grow G2)).put hd.2 hu) (Prog.refl _ _)⟩
/-- x += e -/
def sAug (i : Nat) (op : D → D → R D) (f : SemE) : SemS := fun m => match m[i]? with
  | some (some z) => ofR m (f m) fun d => ofR m (op z d) fun r => if (hasT z || hasT r) = true then .stuck else .nx (m.set i (some r))
  | _ => .stuck
def augD : D → D → R D
  | .int i, .int j => .ok (.int (i + j))
  | .str x, .str y => if x.length + y.length ≤ sizeLine then .ok (.str (x ++ y)) else .stuck
  | _, _ => .stuck
theorem ss_aug (hN : X.N.Nodup) (hi : X.N[i]? = some x) (hx : Loc X.env.scope x) (hf : SE X b W e f) (hfn : X.fn x = true ∨ X.env.scope.names.lookup x = some .local := by first | exact .inl rfl | exact .inr rfl) : SS X b W (.AugAssign (.Name x px) .Add e pos) (sAug i augD f) :=
  PS.weak (ps_aug hN hi hx hf ((iop_add (X := X)).or (iop_add_str (X := X))) hfn) fun D' σ H ⟨F, m, R, p⟩ => by
    unfold sAug at p
    split at p
    · rename_i z hz
      obtain ⟨v, h1, h2⟩ := R.slot i _ hz
      refine ⟨v, h1, seqS R p fun d F1 H1 u R1 G hu q => ?_⟩
      have h2 := h2.rp.grow G
      cases z <;> first | exact q.elim | skip
      · cases d <;> first | exact q.elim | skip
        cases h2; cases hu
        simp only [augD, ofR_ok, hasT, Bool.or_self, Bool.false_eq_true, if_false] at q
        exact .inl ⟨_, _, rfl, rfl, q _ F1 H1 (R1.put rfl (.int _)) (Prog.refl _ _)⟩
      · cases d <;> first | exact q.elim | skip
        cases h2; cases hu
        simp only [augD] at q
        split at q
        · rename_i hl
          simp only [ofR_ok, hasT, Bool.or_self, Bool.false_eq_true, if_false] at q
          exact .inr ⟨_, _, rfl, rfl, hl, q _ F1 H1 (R1.put rfl (.str _)) (Prog.refl _ _)⟩
        · exact q.elim
    · exact p.elim
end

/-! ### a def by its body -/
def bodyF (n : Nat) (g : SemS) : List D → R D := fun ds => if ds.length = n then (match g (ds.map some) with
  | .nx _ => .ok .non
  | .rt d => .ok d
  | .exc c _ => .exc c
  | _ => .stuck) else .stuck
/-- the slots at the start: the arguments, then nothing -/
def startM (n : Nat) (g : SemS) : SemS := fun m => g (m ++ List.replicate (n - m.length) none)
def defF (n k : Nat) (g : SemS) : List D → R D := bodyF n (startM k g)
section
variable {P : Program} {w : World} {K : PySem.W.Frag} {mg : Str → Option Value} {base : Heap}
theorem def_fn {x : Str} {st : Stmt} {f : Addr} {fd : FuncData} {N ps : List Str} {k : Nat} {ex : String → Value} {g : SemS} (F : Fun K x x st f fd) (S : FnScope N ps (defScope st))
    (hbody : ∀ (cdv : Value) (A : Around) (outer : List Env) (s : Shared) (H : Hp) (E : XK) (F0 : Hp), Room k (A.deeper (envOfC x (defScope st) s.heap.objs.size f cdv)) → (A.deeper (envOfC x (defScope st) s.heap.objs.size f cdv)).guards = some [] →
      SSs (cxOf (L2.CX P w) P w K mg base N x (defScope st) f cdv A outer s H E) ⟨ex, F0, H⟩ (fun c d _ H' => E c d H') (defBody st) g) :
    FnG P w K mg base (k + 1) f fd ps (spF K ex ps.length (defF ps.length N.length g)) := by
  refine Fun.okG F S (fun vs H Q E h => ?_) (fun cdv A outer s H vs Q E hr hgd h => ?_)
  · obtain ⟨F0, ds, _, r, _, hl, _⟩ := h
    rw [← r.length, hl]
  · obtain ⟨F0, ds, s0, r, ht, hn, q⟩ := h
    refine ⟨_, hbody cdv A outer s H E F0 hr hgd, ?_⟩
    have hlv := r.length
    refine ⟨F0, ds.map some ++ List.replicate (N.length - (ds.map some).length) none, ⟨?_, Grow.refl s0, fun i d e => ?_, fun i j x y v w a e1 e2 e3 e4 o1 o2 => ?_⟩, ?_⟩
    · unfold L2.start
      simp [hlv]
    · have e' : ds[i]? = some d := by
        by_cases hi : i < ds.length
        · rw [List.getElem?_append_left (by simpa using hi)] at e
          simpa using e
        · rw [List.getElem?_append_right (by simpa using hi)] at e
          rw [List.getElem?_replicate] at e
          split at e <;> cases e
      obtain ⟨v, h1, h2⟩ := r.get e'
      refine ⟨v, ?_, .inr (.inl ⟨hasTL_get ht e', h2⟩)⟩
      unfold L2.start
      obtain ⟨h3, _⟩ := List.getElem?_eq_some_iff.mp h1
      rw [List.getElem?_append_left (by simpa using h3), List.getElem?_map, h1]
      rfl
    · exfalso
      have e' : ds[i]? = some x := by
        by_cases hi : i < ds.length
        · rw [List.getElem?_append_left (by simpa using hi)] at e1
          simpa using e1
        · rw [List.getElem?_append_right (by simpa using hi)] at e1
          rw [List.getElem?_replicate] at e1
          split at e1 <;> cases e1
      exact o1.of (hasTL_get ht e')
    · have hn' : (ds.map some).length = ds.length := by simp
      unfold defF bodyF startM at q
      rw [if_pos hn] at q
      cases hg : g (ds.map some ++ List.replicate (N.length - (ds.map some).length) none) with
      | nx m => 
        rw [hg] at q
        exact fun σ' F' H' R' _ => q F' H' .non R'.grow (.inr (.inl ⟨rfl, .non⟩))
      | rt d =>
        rw [hg] at q
        exact fun F' H' v G so => q F' H' v G so
      | exc c m =>
        rw [hg] at q
        exact fun σ' F' H' R' _ => q F' H' R'.grow
      | bk m => rw [hg] at q; exact q.elim
      | ct m => rw [hg] at q; exact q.elim
      | stuck => rw [hg] at q; exact q.elim
theorem def_ok {x : Str} {st : Stmt} {f : Addr} {fd : FuncData} {N ps : List Str} {k : Nat} {ex : String → Value} {g : SemS} (F : Fun K x x st f fd) (S : FnScope N ps (defScope st)) (hm : mg x = some (.ref f)) (hb : Binds K fd ps [])
    (hbody : ∀ (cdv : Value) (A : Around) (outer : List Env) (s : Shared) (H : Hp) (E : XK) (F0 : Hp), Room k (A.deeper (envOfC x (defScope st) s.heap.objs.size f cdv)) → (A.deeper (envOfC x (defScope st) s.heap.objs.size f cdv)).guards = some [] →
      SSs (cxOf (L2.CX P w) P w K mg base N x (defScope st) f cdv A outer s H E) ⟨ex, F0, H⟩ (fun c d _ H' => E c d H') (defBody st) g) :
    Callee P w K mg base ex x ps.length (defF ps.length N.length g) (k + 1) := ⟨f, fd, ps, def_fn F S hbody, hm, F.kp, hb⟩
end
end CT

namespace CT
open PySem PySem.Spec PyProof.Rows L2
/-- the exceptions' classes by their names -/
def exOf (mg : Str → Option Value) : String → Value := fun c => (mg (Str.ofString c)).getD .none
/-- the law's promise -/
def spLaw (K : PySem.W.Frag) : Sp := fun vs H Q _ => ∃ (a : Addr) (ns : List Int), vs = [.ref a] ∧ SqL K H a (ns.map V.int) ∧ ns.length ≤ 63 ∧ ∀ H', Q (.bl true) H'
theorem ints_rp {K : PySem.W.Frag} {F H0 H : Hp} : ∀ ns : List Int, RpL K F H0 H (ns.map D.int) (ns.map V.int)
  | [] => .nil
  | n :: ns => .cons (.int n) (ints_rp ns)
theorem ints_noT : ∀ ns : List Int, hasTL (ns.map D.int) = false
  | [] => rfl
  | n :: ns => by rw [List.map_cons, hasTL, ints_noT ns]; rfl
theorem law_sp {K : PySem.W.Frag} {ex : String → Value} {f : List D → R D} (h : ∀ ns : List Int, ns.length ≤ 63 → f [.fr (ns.map D.int)] = .ok (.bl true)) (vs : List V) (H : Hp) (Q : VK) (E : XK) (q : spLaw K vs H Q E) : spF K ex 1 f vs H Q E := by
  obtain ⟨a, ns, rfl, hS, hl, q⟩ := q
  refine ⟨H, [.fr (ns.map D.int)], Same.refl _, .cons (.fr hS (ints_rp ns)) .nil, by simp [hasTL, hasT, ints_noT], rfl, ?_⟩
  rw [h ns hl]
  intro F' H' v _ so
  cases so.rp
  exact q H'
theorem cx_no {P : Program} {w : World} {H : Hp} {s : Shared} {e : Value} {s' : Shared} (h : L2.CX P w [] H s (fun _ _ _ => False) e s') : False := by
  obtain ⟨_, _, _, _, _, _, _, _, _, _, _, _, z⟩ := h
  exact z
end CT

/-! CtZ: zip of any two or three of lists, tuples, texts -/
namespace CT
open PySem PySem.Spec PyProof.Rows L2

/-- what is drawn from: a list, a tuple, a text, with the address or the signs that tell it -/
inductive Zk where
  | L (a : Addr) | T (a : Addr) | S (z : Str) (t : Tok)
def Zk.at (K : PySem.W.Frag) (H : Hp) (xs : List V) : Zk → Prop
  | .L a => SqL K H a xs
  | .T a => SqT K H a xs
  | .S z _ => xs = z.cps.toList.map fun c => V.str ⟨#[c]⟩
def Zk.addr : Zk → List Addr
  | .L a => [a]
  | .T a => [a]
  | .S _ _ => []
def Zk.it (it : Addr) (i : Nat) (h : Heap) : Zk → Prop
  | .L a => h.IsListIter it a i
  | .T a => h.IsTupleIter it a i
  | .S z t => h.IsStrIter it (strIterType z) z t i
def Zk.val : Zk → Value
  | .L a => .ref a
  | .T a => .ref a
  | .S z t => .str z t
def Zk.obj : Zk → Obj
  | .L a => { cls := .type "list_iterator", data := .fields #[.ref a, .int 0 0] }
  | .T a => { cls := .type "tuple_iterator", data := .fields #[.ref a, .int 0 0] }
  | .S z t => { cls := .type (strIterType z), data := .fields #[.str z t, .int 0 0] }
theorem Zk.it_at {k : Zk} {it : Addr} {i : Nat} {h h' : Heap} (x : k.it it i h) (e : ∀ o, h.get? it = some o → h'.get? it = some o) : k.it it i h' := by
  cases k with
  | L a => exact Heap.IsListIter.at x e
  | T a => exact Heap.IsTupleIter.at x e
  | S z t => obtain ⟨o, h1, h2⟩ := x; exact ⟨o, e o h1, h2⟩
theorem Zk.it_live {k : Zk} {it : Addr} {i : Nat} {h : Heap} (x : k.it it i h) : ∃ o, h.get? it = some o ∧ ∀ v, o.data ≠ .cell v := by
  cases k with
  | L a => obtain ⟨o, h1, _, h3⟩ := x; exact ⟨o, h1, fun v q => by rw [h3] at q; cases q⟩
  | T a => obtain ⟨o, h1, _, h3⟩ := x; exact ⟨o, h1, fun v q => by rw [h3] at q; cases q⟩
  | S z t => obtain ⟨o, h1, _, h3⟩ := x; exact ⟨o, h1, fun v q => by rw [h3] at q; cases q⟩
section
variable {X : Cx} {pins : List (Addr × Obj)} {σ : L2.St} {H : Hp} {s : Shared} {k : Zk} {xs : List V}
/-- what it draws -/
theorem Zk.draw {prog : Program} {w : World} {A : Around} (I : Inv X pins σ H s) (hk : k.at X.K H xs) (hh : A.handled = none) {it : Addr} (ha : ∀ a ∈ k.addr, a ≠ it) :
    ∃ P St, Draws prog w A it (it :: k.addr) xs.length P St ∧ (∀ i, k.it it i s.heap → St i s.heap) ∧ (∀ i h, St i h → k.it it i h) ∧ ∀ i v, P i v → ∃ y, xs[i]? = some y ∧ RelV y v := by
  cases k with
  | L a =>
    obtain ⟨its, rv, p, _⟩ := I.list hk
    refine ⟨fun i v => its.toArray[i]? = some v, fun i h => h.IsListIter it a i ∧ h.IsList a its.toArray, (by have := Draws.list (prog := prog) (w := w) hh it a (ha a (by simp [Zk.addr])) its.toArray; rwa [show its.toArray.size = xs.length by simp [rv.length]] at this), fun i q => ⟨q, p.isList⟩, fun i h q => q.1, fun i v q => ?_⟩
    have q : its[i]? = some v := by simpa using q
    have hl := rv.length
    obtain ⟨hi, _⟩ := List.getElem?_eq_some_iff.mp q
    obtain ⟨u, hu, ru⟩ := rv.get (i := i) (x := xs[i]'(by omega)) (by simp)
    rw [q] at hu; cases hu
    exact ⟨xs[i]'(by omega), by simp, ru⟩
  | T a =>
    obtain ⟨its, rv, p, _⟩ := I.tuple hk
    refine ⟨fun i v => its.toArray[i]? = some v, fun i h => h.IsTupleIter it a i ∧ h.IsTuple a its.toArray, (by have := Draws.tuple (prog := prog) (w := w) hh it a (ha a (by simp [Zk.addr])) its.toArray; rwa [show its.toArray.size = xs.length by simp [rv.length]] at this), fun i q => ⟨q, show s.heap.IsTuple a its.toArray from p⟩, fun i h q => q.1, fun i v q => ?_⟩
    have q : its[i]? = some v := by simpa using q
    have hl := rv.length
    obtain ⟨hi, _⟩ := List.getElem?_eq_some_iff.mp q
    obtain ⟨u, hu, ru⟩ := rv.get (i := i) (x := xs[i]'(by omega)) (by simp)
    rw [q] at hu; cases hu
    exact ⟨xs[i]'(by omega), by simp, ru⟩
  | S z t =>
    have hk : xs = z.cps.toList.map fun c => V.str ⟨#[c]⟩ := hk
    subst hk
    refine ⟨_, _, (by have := Draws.text (prog := prog) (w := w) hh it z t; rwa [show z.cps.size = (z.cps.toList.map fun c => V.str ⟨#[c]⟩).length by simp] at this), fun i q => q, fun i h q => q, fun i v q => ?_⟩
    obtain ⟨c, u, h1, rfl⟩ := q
    exact ⟨V.str ⟨#[c]⟩, by rw [← Array.getElem?_toList] at h1; rw [List.getElem?_map, h1]; rfl, ⟨u, rfl⟩⟩
theorem Zk.begins (I : Inv X pins σ H s) (hk : k.at X.K H xs) : ∃ G, Begins k.val k.obj G ∧ G s.heap := by
  cases k with
  | L a => obtain ⟨its, rv, p, _⟩ := I.list hk; exact ⟨_, begins_list a its.toArray, p.isList⟩
  | T a => obtain ⟨its, rv, p, _⟩ := I.tuple hk; exact ⟨_, begins_tuple a its.toArray, p⟩
  | S z t => exact ⟨_, begins_text z t, trivial⟩
theorem Zk.lt (I : Inv X pins σ H s) (hk : k.at X.K H xs) : ∀ a ∈ k.addr, a < s.heap.objs.size := fun b hb => by
  cases k with
  | L a =>
    obtain ⟨its, rv, p, _⟩ := I.list hk
    obtain rfl : b = a := by simpa [Zk.addr] using hb
    exact p.lt
  | T a =>
    obtain ⟨its, rv, p, _⟩ := I.tuple hk
    obtain rfl : b = a := by simpa [Zk.addr] using hb
    obtain ⟨o, ho, _⟩ := id p
    exact Heap.lt_size ho
  | S z t => simp [Zk.addr] at hb
theorem Zk.inj {ys : List V} (I : Inv X pins σ H s) (hk : k.at X.K H xs) (hk' : k.at X.K H ys) : xs = ys := by
  cases k with
  | L a => exact I.list_inj hk hk'
  | T a => exact I.tuple_inj hk hk'
  | S z t => exact (show xs = _ from hk).trans (show ys = _ from hk').symm
theorem Zk.new {n : Nat} {h' : Heap} (e : h'.get? n = some k.obj) : k.it n 0 h' := by
  cases k with
  | L a => exact ⟨_, e, rfl, rfl⟩
  | T a => exact ⟨_, e, rfl, rfl⟩
  | S z t => exact ⟨_, e, rfl, rfl⟩
end
/-- two at a time -/
def ItZ (K : PySem.W.Frag) (k l : Zk) : It :=
  ⟨fun i H => ∃ xs ys : List V, k.at K H xs ∧ l.at K H ys ∧ i < xs.length ∧ i < ys.length,
    fun i H v H' => ∃ T x y, v = .ref T ∧ H T = none ∧ H' = upd H T (.tup [x, y]) ∧ (∀ xs, k.at K H xs → xs[i]? = some x) ∧ ∀ ys, l.at K H ys → ys[i]? = some y,
    fun i H => ∃ xs ys : List V, k.at K H xs ∧ l.at K H ys ∧ i ≤ xs.length ∧ i ≤ ys.length ∧ (i = xs.length ∨ i = ys.length)⟩
theorem ad_ne {a b : Nat} (h : a ≠ b) : @Ne Addr a b := h
theorem ad_no {a b : Nat} {P : Prop} (h : a ≠ b) (q : @Eq Addr a b) : P := absurd q h
theorem ad_in {a n : Nat} {l : List Addr} (h : ∀ c ∈ l, @LT.lt Nat _ c n) (g : n ≤ a) (q : a ∈ l) : False := by have := h a q; omega
theorem ad_cons {a b n : Nat} {l : List Addr} (h : ∀ c ∈ l, @LT.lt Nat _ c n) (g : n ≤ a) (e : a ≠ b) : (a : Addr) ∉ ((b : Addr) :: l) := fun q => by
  rcases List.mem_cons.mp q with q | q
  · exact e q
  · exact ad_in h g q
theorem zsep {n : Nat} {k l : Zk} (h1 : ∀ a ∈ k.addr, @LT.lt Nat _ a n) (h2 : ∀ a ∈ l.addr, @LT.lt Nat _ a n) : ZipSep2 (n + 4) (n + 2) (n + 3) n (n + 1) (n :: k.addr) ((n + 1) :: l.addr) :=
  have g : ∀ j : Nat, n ≤ n + j := fun j => by omega
  ⟨ad_ne (by omega), ad_ne (by omega), ad_ne (by omega), ad_ne (by omega), by simp, ad_cons h1 (g 4) (by omega), ad_cons h1 (g 3) (by omega), ad_ne (by omega), by simp, ad_cons h2 (g 4) (by omega), ad_cons h2 (g 3) (by omega), ad_cons h2 (g 0) (by omega), ad_cons h1 (g 1) (by omega)⟩
abbrev zfp (n : Nat) : List Addr := [n + 4, n + 2, n + 3, n, n + 1]
theorem turn_z {P : Program} {w : World} {K : PySem.W.Frag} {elts : List Expr} {kk : Nat} {tpos : Pos} {n : Nat} {k l : Zk} (h1 : ∀ a ∈ k.addr, @LT.lt Nat _ a n) (h2 : ∀ a ∈ l.addr, @LT.lt Nat _ a n) :
    Turn P w K (.Tuple elts kk tpos) (ItZ K k l) (zfp n) (n + 4) (fun i h => IsZip h (n + 4) (n + 2) (n + 3) .none ∧ IsTupOf2 h (n + 2) (.ref n) (.ref (n + 1)) ∧ (∃ x y, IsTupOf2 h (n + 3) x y) ∧ k.it n i h ∧ l.it (n + 1) i h) where
  mem := by simp
  obj := fun i h st c hc => by
    obtain ⟨q1, q2, ⟨x, y, q3⟩, q4, q5⟩ := st
    simp only [List.mem_cons, List.not_mem_nil, or_false] at hc
    rcases hc with e | e | e | e | e <;> subst e
    · exact ⟨_, q1, fun v z => by cases z⟩
    · exact ⟨_, q2, fun v z => by cases z⟩
    · exact ⟨_, q3, fun v z => by cases z⟩
    · exact Zk.it_live q4
    · exact Zk.it_live q5
  keep := fun i h h' st e => by
    obtain ⟨q1, q2, ⟨x, y, q3⟩, q4, q5⟩ := st
    exact ⟨e _ (by simp) _ q1, e _ (by simp) _ q2, ⟨x, y, e _ (by simp) _ q3⟩, Zk.it_at q4 fun o => e n (by simp) o, Zk.it_at q5 fun o => e (n + 1) (by simp) o⟩
  item := by
    intro X hP hw hK hc i pins s σ H E I hf st hg
    subst hP hw hK
    obtain ⟨q1, q2, ⟨x0, y0, q3⟩, q4, q5⟩ := st
    obtain ⟨xs, ys, hx, hy, hi, hj⟩ := hg
    obtain ⟨P1, S1, D1, a1, b1, c1⟩ := Zk.draw (prog := X.prog) (w := X.w) (A := X.A.in1) I hx (I.ok.hd hc) (it := n) (fun a ha => ad_ne (by have := h1 a ha; omega))
    obtain ⟨P2, S2, D2, a2, b2, c2⟩ := Zk.draw (prog := X.prog) (w := X.w) (A := X.A.in1) I hy (I.ok.hd hc) (it := n + 1) (fun a ha => ad_ne (by have := h2 a ha; omega))
    have zl : @LT.lt Nat _ (n + 4) s.heap.objs.size := Heap.lt_size q1
    refine wpAny_pyNext_zipD2_item (zsep h1 h2) D1 D2 q1 q2 q3 (a1 i q4) (a2 i q5) hi hj fun u1 u2 g tk p1 p2 z1 z2 s1 s2 z3 z4 z5 => ?_
    refine ⟨_, rfl, wpAny_letOwnedTupleGo_zip (s := { s with heap := g, toks := tk }) z1 fun g' z6 sb => ?_⟩
    obtain ⟨x, ex, rx⟩ := c1 i u1 p1
    obtain ⟨y, ey, ry⟩ := c2 i u2 p2
    have gT : g'.get? s.heap.objs.size = some { cls := .type "tuple", data := .seq #[u1, u2] } := (sb.2 _ (ad_ne (by omega))).trans z3
    have ob : ObjOk X.prog X.w (upd H s.heap.objs.size (.tup [x, y])) g' s.heap.objs.size (.tup [x, y]) := ⟨by show 2 ≤ sizeLine; decide, [u1, u2], .cons rx (.cons ry .nil), ⟨_, gT, rfl, _, rfl⟩⟩
    have up : ∀ c o, c ∉ zfp n → s.heap.get? c = some o → g'.get? c = some o := fun c o hc e => by
      simp only [List.mem_cons, List.not_mem_nil, or_false, not_or] at hc
      exact (sb.2 c hc.1).trans (z5 c o hc.1 hc.2.2.1 hc.2.2.2.1 hc.2.2.2.2 e)
    have J := I.turnedNew (t' := tk) (ch := zfp n) up hf (Nat.le_refl _) ob
    refine ⟨.ref s.heap.objs.size, _, J, rfl, ⟨_, x, y, rfl, I.hok.fresh (Nat.le_refl _), rfl, fun l hl => by rw [Zk.inj I hl hx]; exact ex, fun l hl => by rw [Zk.inj I hl hy]; exact ey⟩, ⟨z6, ?_, ⟨u1, u2, ?_⟩, ?_, ?_⟩, fun c hcm => ?_⟩
    · exact (sb.2 _ (ad_ne (by omega))).trans (z5 _ _ (ad_ne (by omega)) (ad_ne (by omega)) (ad_ne (by omega)) (ad_ne (by omega)) q2)
    · exact (sb.2 _ (ad_ne (by omega))).trans z2
    · exact Zk.it_at (b1 _ _ s1) fun o q => (sb.2 _ (ad_ne (by omega))).trans q
    · exact Zk.it_at (b2 _ _ s2) fun o q => (sb.2 _ (ad_ne (by omega))).trans q
    · have : @LT.lt Nat _ c s.heap.objs.size := by
        simp only [List.mem_cons, List.not_mem_nil, or_false] at hcm
        rcases hcm with e | e | e | e | e <;> (rw [e]; omega)
      rw [upd_ne (ad_ne (by omega))]
      exact (hf c hcm).1
  done := by
    intro X hP hw hK hc i pins s σ H E I hf st hg
    subst hP hw hK
    obtain ⟨q1, q2, ⟨x0, y0, q3⟩, q4, q5⟩ := st
    obtain ⟨xs, ys, hx, hy, hi, hj, he⟩ := hg
    obtain ⟨P1, S1, D1, a1, b1, c1⟩ := Zk.draw (prog := X.prog) (w := X.w) (A := X.A.in1) I hx (I.ok.hd hc) (it := n) (fun a ha => ad_ne (by have := h1 a ha; omega))
    obtain ⟨P2, S2, D2, a2, b2, c2⟩ := Zk.draw (prog := X.prog) (w := X.w) (A := X.A.in1) I hy (I.ok.hd hc) (it := n + 1) (fun a ha => ad_ne (by have := h2 a ha; omega))
    refine wpAny_pyNext_zipD2_end (zsep h1 h2) D1 D2 q1 q2 q3 (a1 i q4) (a2 i q5) hi hj he fun g tk e => ⟨rfl, I.turnedL (t' := tk) (ch := zfp n) (fun c o hc' q => ?_) hf⟩
    simp only [List.mem_cons, List.not_mem_nil, or_false, not_or] at hc'
    exact e c o hc'.1 hc'.2.2.1 hc'.2.2.2.1 hc'.2.2.2.2 q
  self := fun A i s Q E st h => wpAny_pyIter_zip st.1 h
theorem fresh_fp {X : Cx} {pins : List (Addr × Obj)} {σ : L2.St} {H : Hp} {s : Shared} (I : Inv X pins σ H s) : ∀ c, s.heap.objs.size ≤ c → FpOk X pins H c := fun c h => I.fpOk h (I.hok.fresh h)
/-- the value of a thing to be drawn from -/
def KV (K : PySem.W.Frag) (H : Hp) (v : V) (k : Zk → Prop) : Prop := (∃ a xs, v = .ref a ∧ SqL K H a xs ∧ k (.L a)) ∨ (∃ a xs, v = .ref a ∧ SqT K H a xs ∧ k (.T a)) ∨ ∃ z, v = .str z ∧ ∀ t, k (.S z t)
theorem kv_of {X : Cx} {H : Hp} {v : V} {u : Value} {k : Zk → Prop} (r : RelV v u) (h : KV X.K H v k) : ∃ z xs, z.at X.K H xs ∧ z.val = u ∧ k z := by
  rcases h with ⟨a, xs, rfl, h1, h2⟩ | ⟨a, xs, rfl, h1, h2⟩ | ⟨z, rfl, h2⟩
  · cases r; exact ⟨.L a, xs, h1, rfl, h2⟩
  · cases r; exact ⟨.T a, xs, h1, rfl, h2⟩
  · obtain ⟨t, rfl⟩ := r
    exact ⟨.S z t, _, rfl, rfl, h2 t⟩
def iZ2 (K : PySem.W.Frag) (ta : TA) : TI := fun σ H R => ta σ H fun vs H1 => ∃ v u, vs = [v, u] ∧ KV K H1 v fun k => KV K H1 u fun l => R (ItZ K k l) H1
theorem pi_z2 {X : Cx} {e e2 : Expr} {ta : TA} {p pos tpos : Pos} {elts : List Expr} {kk : Nat} (hg : Gl X "zip") (hm : X.mg "zip" = none) (ha : PA X [e, e2] ta)
    (hs : starEach [e, e2] X.env = (false, eval e X.env) :: starEach [e2] X.env := by rfl) (hpl : (backTo pos (starEach [e2] X.env)).any (·.1) = false := by rfl) :
    PI X (.Tuple elts kk tpos) (.Call (.Name "zip" p) [e, e2] [] pos) (iZ2 X.K ta) := ⟨fun pins s σ H R I h => by
  refine Call_ (ld_blt I hg hm PyProof.Rows.boot_zip (PyProof.Rows.callWith_type1 (thn (ha.run pos pins s σ H _ I h) fun us s1 hh => ?_) hs hpl))
  obtain ⟨vs, H1, I1, r1, v, u, rfl, q⟩ := hh
  cases r1 with
  | cons r rr =>
    cases rr with
    | cons r' rr =>
      cases rr
      obtain ⟨k, xs, k1, rfl, q⟩ := kv_of r q
      obtain ⟨l, ys, l1, rfl, q⟩ := kv_of r' q
      obtain ⟨G1, B1, g1⟩ := Zk.begins I1 k1
      obtain ⟨G2, B2, g2⟩ := Zk.begins I1 l1
      refine zip_begins2 B1 B2 g1 g2 fun h' z1 z2 z3 z4 z5 hsz up => wpAny_pyIter_zip z1 ?_
      have I2 : Inv X pins σ H1 { s1 with heap := h' } := I1.kept (t' := s1.toks) up
      refine ⟨s1.heap.objs.size + 4, zfp s1.heap.objs.size, _, _, H1, rfl, I2, turn_z (Zk.lt I1 k1) (Zk.lt I1 l1), ⟨z1, z2, ⟨_, _, z3⟩, Zk.new z4, Zk.new z5⟩, fun c hc => ?_, q⟩
      refine fresh_fp I1 c ?_
      simp only [List.mem_cons, List.not_mem_nil, or_false] at hc
      rcases hc with e | e | e | e | e <;> (rw [e]; first | exact Nat.le_add_right _ _ | exact Nat.le_refl _)⟩

/-! ### zip of two -/
def zipL (ds es : List D) : List D := (ds.zip es).map fun p => .tup [p.1, p.2]
def zipOk (strict : Bool) : D → R (List D)
  | .lst t ds => if (strict && (t || hasTL ds)) = true then .stuck else .ok ds
  | .fr ds => if (strict && hasTL ds) = true then .stuck else .ok ds
  | .tup ds => if (strict && hasTL ds) = true then .stuck else .ok ds
  | .str z => .ok (z.cps.toList.map fun c => .str ⟨#[c]⟩)
  | _ => .stuck
def zipI (strict : Bool) : List D → R (List D)
  | [x, y] => (zipOk strict x).bind fun ds => (zipOk strict y).bind fun es => .ok (zipL ds es)
  | _ => .stuck
def aZip (strict : Bool) (h : SemA) : SemA := fun m => (h m).bind (zipI strict)
theorem kv_rp {K : PySem.W.Frag} {F H0 H : Hp} {strict : Bool} {x : D} {v : V} {ds : List D} (s : Same F H) (r : Rp K F H0 H x v) (e : zipOk strict x = .ok ds) (k : Zk → Prop)
    (q : ∀ z xs, (hasTL ds = false ∨ strict = false) → RpL K F H0 H ds xs → (∀ F' H', Ltr strict F H F' H' → z.at K H' xs) → k z) : KV K H v k := by
  cases x with
  | lst t es =>
    simp only [zipOk] at e
    split at e
    · cases e
    · rename_i c
      cases e
      obtain ⟨a, xs, rfl, k1, k2⟩ := r.lasts (strict := strict) s (by revert c; cases strict <;> cases t <;> simp)
      exact .inl ⟨a, xs, rfl, k2 F H ⟨Same.refl _, s, fun _ _ z _ => z, fun _ => Same.refl _⟩, q (.L a) xs (by revert c; cases strict <;> cases t <;> simp) k1 k2⟩
  | fr es =>
    simp only [zipOk] at e
    split at e
    · cases e
    · rename_i c
      cases e
      cases r with
      | fr k1 k2 => exact .inl ⟨_, _, rfl, s.seq k1, q (.L _) _ (by revert c; cases strict <;> simp) k2 fun F' H' l => l.2.1.seq (l.1.seq k1)⟩
  | tup es =>
    simp only [zipOk] at e
    split at e
    · cases e
    · rename_i c
      cases e
      obtain ⟨a, xs, rfl, k1, k2⟩ := r.tuple
      exact .inr (.inl ⟨a, xs, rfl, k1, q (.T a) xs (by revert c; cases strict <;> simp) k2 fun F' H' l => l.tup k1⟩)
  | str z =>
    cases e
    cases r
    exact .inr (.inr ⟨z, rfl, fun t => q (.S z t) (z.cps.toList.map fun c => .str ⟨#[c]⟩) (.inl (chars_noT _)) (chars_rp _) fun _ _ _ => rfl⟩)
  | non => cases e
  | bl _ => cases e
  | int _ => cases e
  | unk => cases e
  | ex _ => cases e
  | dct _ _ _ => cases e
section
variable {X : Cx} {b : Bs} {W : WX} {strict : Bool} {h : SemA} {p pos : Pos}
theorem si_zip {a c : Expr} {elts : List Expr} {kk : Nat} {tpos : Pos} (hg : Gl X "zip") (hm : X.mg "zip" = none) (ha : SA X b W [a, c] h)
    (hs : starEach [a, c] X.env = (false, eval a X.env) :: starEach [c] X.env := by rfl) (hpl : (backTo pos (starEach [c] X.env)).any (·.1) = false := by rfl) :
    SI X b W strict (.Tuple elts kk tpos) (.Call (.Name "zip" p) [a, c] [] pos) (aZip strict h) := by
  refine PI.weak (pi_z2 hg hm ha hs hpl) fun σ H Rw ⟨F, m, R, p⟩ => ?_
  refine seqA R p fun xs F1 H1 vs R1 G1 hv p1 => ?_
  unfold zipI at p1
  split at p1
  · rename_i x y
    obtain ⟨v, u, rfl, h1, h2⟩ := hv.two
    refine ⟨v, u, rfl, ?_⟩
    cases e1 : zipOk strict x with
    | stuck => rw [e1] at p1; exact p1.elim
    | exc c => cases x <;> simp only [zipOk] at e1 <;> (try split at e1) <;> cases e1
    | ok ds =>
      rw [e1] at p1
      cases e2 : zipOk strict y with
      | stuck => rw [e2] at p1; exact p1.elim
      | exc c => cases y <;> simp only [zipOk] at e2 <;> (try split at e2) <;> cases e2
      | ok es =>
        rw [e2] at p1
        refine kv_rp R1.sub h1 e1 _ fun k xs n1 r1 k1 => kv_rp R1.sub h2 e2 _ fun l ys n2 r2 k2 => ?_
        refine p1.here R1.sub _ ?_
        exact Wk.pairs n1 n2 r1 r2 (fun H' => k.at X.K H' xs ∧ l.at X.K H' ys) (fun F' H' q => ⟨k1 F' H' q, k2 F' H' q⟩) (fun i x y H' q e1 e2 => ⟨xs, ys, q.1, q.2, (List.getElem?_eq_some_iff.mp e1).1, (List.getElem?_eq_some_iff.mp e2).1⟩)
          (fun i H' v H'' q z => by
            obtain ⟨T, x, y, rfl, h1, h2, h3, h4⟩ := z
            exact ⟨T, x, y, rfl, h1, h2, fun w e => Option.some.inj (e.symm.trans (h3 xs q.1)), fun w e => Option.some.inj (e.symm.trans (h4 ys q.2))⟩)
          (fun H' q => ⟨xs, ys, q.1, q.2, by omega, by omega, by omega⟩)
  · exact p1.elim
end
end CT

/-! CtX: what is raised; the module's constants -/
namespace CT
open PySem PySem.Spec PyProof.Rows L2

def ExcOk (K : PySem.W.Frag) (mg : Str → Option Value) (x : Str) : Prop := ∃ C, mg x = some (.ref C) ∧ PySem.W.excIn K C [.type "ValueError", .type "Exception", .type "BaseException", .type "object"] "ValueError.__new__" = true ∧
  PySem.W.keepIn K (.ref C) = true ∧ PySem.W.subIn K (.ref C) (.type "BaseException") = some true ∧ PySem.W.typeIn K (.ref C) = some (.type "type")
def sRaise (c : String) : SemS := fun m => .exc c m
section
variable {X : Cx} {b : Bs} {W : WX}
theorem ss_raise {x m : Str} {c : String} {j : Nat} {p p2 pos pos' : Pos} (hc : X.calm = true) (tk : Takes X W) (h : ExcOk X.K X.mg x) (hg : Gl X x) (hx : x = Str.ofString c := by rfl) (hb : b.ex = exOf X.mg := by rfl)
    (hdb : (x == ("__debug__" : Str)) = false := by decide) : SS X b W (.Raise (some (.Call (.Name x p) [.Constant (.str m) j p2] [] pos)) none pos') (sRaise c) := by
  obtain ⟨C, h1, h2, h3, h4, h5⟩ := h
  refine PS.weak (ps_raise hc tk (pmk_own PySem.F.excBase_ValueError h2 h1 h3 (raises_own h4 h5) hg hdb)) fun D' σ H ⟨F, m, R, z⟩ => ?_
  have z := z σ F H R (Prog.refl _ _)
  rw [hb] at z
  unfold exOf at z
  rw [← hx, h1] at z
  exact z
theorem se_glob {x : Str} {v : V} {d : D} {pos : Pos} (hg : Gl X x) (h : ∃ u, X.mg x = some u ∧ RelV v u) (hr : ∀ K F H0 H, Rp K F H0 H d v) (hd : (x == ("__debug__" : Str)) = false := by decide) : SE X b W (.Name x pos) (eC d) := by
  obtain ⟨u, h1, h2⟩ := h
  exact se_c (pe_glob hg h1 h2 hd) hr
end
end CT

/-! CtY: a test against None -/
namespace CT
open PySem PySem.Spec PyProof.Rows L2
section
variable {X : Cx} {b : Bs} {W : WX}
theorem st_isN {a : Expr} {f : SemE} {pos pos' : Pos} {j : Nat} (h : SE X b W a f) : ST X b W (.Compare a [.Is] [.Constant .none j pos'] pos) (tOf (e1 isNonD f)) := by
  refine PT.weak (L2.pt_cmp (pc_isN h) rfl) fun σ H Q ⟨F, m, R, p⟩ => ?_
  have e : tOf (e1 isNonD f) m = (f m).bind fun x => .ok (isNon x) := by unfold tOf e1; cases f m <;> rfl
  rw [e] at p
  refine ⟨F, m, R, p.bind.imp fun x F1 H1 _ G q v hv => ⟨_, rfl, ?_⟩⟩
  rw [rp_non hv]
  exact q.here (R.step G).sub
theorem st_notN {a : Expr} {f : SemE} {pos pos' : Pos} {j : Nat} (h : SE X b W a f) : ST X b W (.Compare a [.IsNot] [.Constant .none j pos'] pos) (tOf (e1 notNonD f)) := by
  refine PT.weak (L2.pt_cmp (pc_notN h) rfl) fun σ H Q ⟨F, m, R, p⟩ => ?_
  have e : tOf (e1 notNonD f) m = (f m).bind fun x => .ok (!isNon x) := by unfold tOf e1; cases f m <;> rfl
  rw [e] at p
  refine ⟨F, m, R, p.bind.imp fun x F1 H1 _ G q v hv => ⟨_, rfl, ?_⟩⟩
  rw [rp_non hv]
  exact q.here (R.step G).sub
/-- a list, again and again -/
def repD : D → D → R D
  | .lst _ xs, .int k => if k < 2 ^ 62 ∧ -(2 ^ 62) < k ∧ xs.length * k.toNat ≤ sizeLine then .ok (.lst false (List.replicate k.toNat xs).flatten) else .stuck
  | _, _ => .stuck
theorem RpL.rep {K : PySem.W.Frag} {F H0 H : Hp} {ds : List D} {vs : List V} (h : RpL K F H0 H ds vs) : ∀ n : Nat, RpL K F H0 H (List.replicate n ds).flatten (List.replicate n vs).flatten
  | 0 => .nil
  | n + 1 => by
    rw [List.replicate_succ, List.replicate_succ, List.flatten_cons, List.flatten_cons]
    exact h.app (RpL.rep h n)
theorem o_rep : Op2 X b W (binaryOp .Mult) repD := by
  refine ⟨_, op_rep (X := X), fun σ F H Q x y v u s hx hy p => ?_⟩
  cases x <;> first | exact p.elim | skip
  rename_i t ds
  cases y <;> first | exact p.elim | skip
  rename_i k
  obtain ⟨a, xs, rfl, h1, h2⟩ := hx.list s
  cases hy
  simp only [repD] at p
  split at p
  · rename_i hl
    refine ⟨a, k, xs, rfl, rfl, h1, by omega, by omega, by rw [← h2.length]; exact hl.2.2, fun q hq => ?_⟩
    have G := Grow.still (o := .lst (List.replicate k.toNat xs).flatten) s hq
    exact (p _ _ G) _ (.lst upd_same ((h2.grow G).rep _))
  · exact p.elim
/-- a list or a tuple read from its end -/
theorem adjust_back (n : Nat) : Builtin.Slice.sliceAdjust none none (-1) (n : Int) = ((n : Int) - 1, -1) := by
  unfold Builtin.Slice.sliceAdjust
  rfl
theorem places_back (n : Nat) : Builtin.Slice.slicePlaces ((n : Int) - 1) (-1) (-1) = n := by
  unfold Builtin.Slice.slicePlaces
  have h1 : ¬ ((-1 : Int) > 0) := by decide
  simp only [h1, if_false]
  rw [show (- -1 : Int) = 1 by decide, Int.ediv_one]
  split <;> omega
theorem pick_back (xs : Array Value) : ((List.range xs.size).filterMap fun (k : Nat) => xs[(((xs.size : Int) - 1) + (k : Int) * (-1)).toNat]?).toArray = xs.toList.reverse.toArray := by
  have e : (List.range xs.size).filterMap (fun (k : Nat) => xs[(((xs.size : Int) - 1) + (k : Int) * (-1)).toNat]?) = ((List.range xs.size).map (fun k => xs.size - 1 - k)).filterMap (xs[·]?) := by
    rw [List.filterMap_map]
    apply congrFun
    apply congrArg
    funext k
    show xs[(((xs.size : Int) - 1) + (k : Int) * (-1)).toNat]? = xs[xs.size - 1 - k]?
    have : (((xs.size : Int) - 1) + (k : Int) * (-1)).toNat = xs.size - 1 - k := by omega
    rw [this]
  rw [e, PySem.W.krv_range, List.filterMap_reverse, PySem.W.krv_all]
section
variable {prog : Program} {w : World} {A : Around} {E : Value → Shared → Prop} {s : Shared}
theorem sliceApplied_back {sl : Addr} {vl vu vs : Value} {n : Nat} {Q : Int × Int × Nat → Shared → Prop} (hs : s.heap.IsSliceOf sl vl vu vs) (pl : IsPart vl none) (pu : IsPart vu none) (ps : IsPart vs (some (-1)))
    (h : Q ((n : Int) - 1, -1, n) s) : wpAny (model prog w) A (Builtin.Slice.sliceApplied (.ref sl) (pure (n : Int))) Q E s := by
  obtain ⟨os, hos, hcs, hds⟩ := id hs
  unfold Builtin.Slice.sliceApplied Builtin.Slice.sliceFields
  refine wpAny_bind (wpAny_bind (wpAny_field hos hds (x := vl) rfl (wpAny_bind (wpAny_field hos hds (x := vu) rfl (wpAny_bind (wpAny_field hos hds (x := vs) rfl (wpAny_pure ?_)))))))
  refine wpAny_bind (HT.slicePart_ ps ?_)
  show wpAny _ _ (if ((-1 : Int) == 0) = true then _ else _) _ _ s
  rw [if_neg (by decide)]
  refine wpAny_bind (HT.slicePart_ pl (wpAny_bind (HT.slicePart_ pu (wpAny_bind (wpAny_pure ?_)))))
  show wpAny _ _ (match Builtin.Slice.sliceAdjust none none (-1) (n : Int) with | (lo, hi) => pure (lo, (-1 : Int), Builtin.Slice.slicePlaces lo hi (-1))) _ _ s
  rw [adjust_back n]
  show wpAny _ _ (pure ((n : Int) - 1, (-1 : Int), Builtin.Slice.slicePlaces ((n : Int) - 1) (-1) (-1))) _ _ s
  rw [places_back]
  exact wpAny_pure h
theorem getItem_tuple_back {t sl : Addr} {items : Array Value} {vl vu vs : Value} {Q : Value → Shared → Prop} (ht : IsTup s.heap t items) (hs : s.heap.IsSliceOf sl vl vu vs) (pl : IsPart vl none) (pu : IsPart vu none) (ps : IsPart vs (some (-1)))
    (h : Q (.ref s.heap.objs.size) { s with heap := s.heap.push { cls := .type "tuple", data := .seq items.toList.reverse.toArray } })
    (hsz : items.size ≤ sizeLine) : wpAny (model prog w) A (getItem (.ref t) (.ref sl)) Q E s := by
  have htake : sizeOk (.seq items.toList.reverse.toArray) := by
    show items.toList.reverse.toArray.size ≤ sizeLine
    rw [List.size_toArray, List.length_reverse, Array.length_toList]
    exact hsz
  obtain ⟨os, hos, hcs, hds⟩ := id hs
  have hTs : s.TypeIs (.ref sl) "slice" := ⟨os, hos, hcs⟩
  unfold getItem
  try with_reducible refine wpAny_holding ?_
  first | refine wpAny_bind (wpAny_pure ?_) | skip
  refine wpAny_bind (wpAny_sequenceKey ht.typeIs (by decide) ?_)
  refine wpAny_bind (wpAny_callSpecial?_slot (name := Str.ofString "__getitem__") ht.typeIs PyProof.Rows.slot_tuple_getitem
    (wpAny_call_entry PyProof.Rows.slot_tuple_getitem ht.typeIs entry_tuple_getitem ?_ (args_tuple_getitem _ _)))
  show wpAny _ _ (Builtin.Tuple.tupleItemsOf (.ref t) >>= _) _ _ s
  refine wpAny_bind (tupleItemsOf_ ht ?_)
  refine wpAny_bind (wpAny_typeOf hTs ?_)
  rw [if_pos (by decide)]
  refine wpAny_bind (sliceApplied_back hs pl pu ps ?_)
  have hno : ¬ ((((items.size : Int) - 1) == 0 && (-1 : Int) == 1 && items.size == items.size) = true) := by
    intro q
    rw [Bool.and_eq_true, Bool.and_eq_true] at q
    exact absurd q.1.2 (by decide)
  show wpAny _ _ (if (((items.size : Int) - 1) == 0 && (-1 : Int) == 1 && items.size == items.size) = true then _ else _) _ _ s
  rw [if_neg hno, pick_back]
  first
    | exact wpAny_bind (m := Builtin.Tuple.tupleExact _) (wpAny_newObj_type (wpAny_pure ⟨_, rfl, wpAny_pure h⟩) htake)
    | exact wpAny_bind (m := Builtin.Tuple.tupleExact _) (wpAny_newObj_type (wpAny_bind (wpAny_pure (wpAny_pure ⟨_, rfl, wpAny_pure h⟩))) htake)
    | exact wpAny_bind (wpAny_bind (m := Builtin.Tuple.tupleExact _) (wpAny_newObj_type (wpAny_pure (wpAny_pure ⟨_, rfl, wpAny_pure h⟩)) htake))
    | exact wpAny_bind (wpAny_bind (m := Builtin.Tuple.tupleExact _) (wpAny_newObj_type (wpAny_pure ⟨_, rfl, wpAny_pure h⟩) htake))
end
def tRevT (K : PySem.W.Frag) (te : TE) : TE := fun σ H Q => te σ H fun x H1 => ∃ a xs, x = .ref a ∧ ((SqL K H1 a xs ∧ ∀ p, H1 p = none → Q (.ref p) (upd H1 p (.lst xs.reverse))) ∨ (SqT K H1 a xs ∧ ∀ p, H1 p = none → Q (.ref p) (upd H1 p (.tup xs.reverse))))
section
variable {X : Cx}
theorem pe_revT {e : Expr} {te : TE} {k : Nat} {p1 p2 p3 pos : Pos} (he : PE X e te) : PE X (.Subscript e (.Slice none none (some (.UnaryOp .USub (.Constant (.int 1) k p1) p2)) p3) pos) (tRevT X.K te) := by
  refine ⟨fun pins s σ H Q I h => ?_⟩
  refine Subscript_ (thn (he.run pins s σ H _ I h) fun v s1 ⟨x, H1, I1, r1, q1⟩ => ?_)
  obtain ⟨a, xs, ex, hq⟩ := q1
  subst ex
  cases r1
  have hst : PO X (some (.UnaryOp .USub (.Constant (.int 1) k p1) p2)) (tPart (tUn (rU fun i => .int (-i)) (tC (.int 1)))) := po_some (pe_un un_neg pe_int)
  refine wpAny_Slice (thn (po_none.run pins s1 σ H1 (fun o H2 => o = none ∧ H2 = H1) I1 ⟨rfl, rfl⟩) fun vl s2 ⟨l, H2, I2, pl, el, e2⟩ => ?_)
  subst el e2
  refine thn (po_none.run pins s2 σ H2 (fun o H3 => o = none ∧ H3 = H2) I2 ⟨rfl, rfl⟩) fun vu s3 ⟨u, H3, I3, pu, eu, e3⟩ => ?_
  subst eu e3
  refine thn (hst.run pins s3 σ H3 (fun o H4 => o = some (-1) ∧ H4 = H3) I3 ⟨1, rfl, -1, rfl, rfl, rfl⟩) fun vs s4 ⟨o, H4, I4, ps, eo, e4⟩ => ?_
  subst eo e4
  have I5 : Inv X pins σ H4 { s4 with heap := s4.heap.push { cls := .type "slice", data := .fields #[vl, vu, vs] } } := I4.kept (t' := s4.toks) fun b ob q => Heap.get?_push_of_some _ q
  show wpAny (model X.prog X.w) X.A (subscriptTail e (.Slice none none (some (.UnaryOp .USub (.Constant (.int 1) k p1) p2)) p3) (.ref a) (.ref s4.heap.objs.size)) (EP X pins σ Q) X.xe { s4 with heap := s4.heap.push { cls := .type "slice", data := .fields #[vl, vu, vs] } }
  rcases hq with ⟨hx, q⟩ | ⟨hx, q⟩
  · obtain ⟨its, r, ht, hz⟩ := I5.list hx
    have hlen := r.length
    refine tail_any (ops := [.ref a, .ref s4.heap.objs.size]) ht.isList.typeIs (PySem.slot_list_getitem.lookup) ?_ (by with_unfolding_all rfl)
    refine wpAny_getItem_list_slice ht.isList (Heap.IsSliceOf.new _ vl vu vs) pl pu ps (by decide) ?_ (by rw [List.size_toArray]; omega)
    rw [PySem.W.krv_pick]
    refine ⟨.ref _, _, I5.laid (t' := s4.toks) (o := .lst xs.reverse) (fun b ob q => Heap.get?_push_of_some _ q) (Nat.le_refl _) ?_, rfl, q _ (I5.hok.fresh (Nat.le_refl _))⟩
    exact ⟨by rw [List.length_reverse]; exact hz, _, 0, r.reverse, Heap.get?_push_size _ rfl⟩
  · obtain ⟨its, r, ht, hz⟩ := I5.tuple hx
    have hlen := r.length
    refine tail_any (ops := [.ref a, .ref s4.heap.objs.size]) ht.typeIs (PyProof.Rows.slot_tuple_getitem.lookup) ?_ (by with_unfolding_all rfl)
    refine getItem_tuple_back ht (Heap.IsSliceOf.new _ vl vu vs) pl pu ps ?_ (by rw [List.size_toArray]; omega)
    refine ⟨.ref _, _, I5.laid (t' := s4.toks) (o := .tup xs.reverse) (fun b ob q => Heap.get?_push_of_some _ q) (Nat.le_refl _) ?_, rfl, q _ (I5.hok.fresh (Nat.le_refl _))⟩
    exact ⟨by rw [List.length_reverse]; exact hz, _, r.reverse, IsTup.new _ _⟩
end
def revD : D → R D
  | .lst _ xs => .ok (.lst false xs.reverse)
  | .tup xs => .ok (.tup xs.reverse)
  | _ => .stuck
theorem se_rev {e : Expr} {f : SemE} {k : Nat} {p1 p2 p3 pos : Pos} (hf : SE X b W e f) : SE X b W (.Subscript e (.Slice none none (some (.UnaryOp .USub (.Constant (.int 1) k p1) p2)) p3) pos) (e1 revD f) := by
  refine PE.weak (pe_revT hf) fun σ H Q ⟨F, m, R, p⟩ => ?_
  refine seq R p fun x F1 H1 v R1 G1 hv p1 => ?_
  cases x <;> first | exact p1.elim | skip
  · obtain ⟨a, xs, rfl, h1', h2⟩ := hv.tuple'
    refine ⟨a, xs, rfl, .inr ⟨.inl (.inl h1'), fun q hq => ?_⟩⟩
    have G := Grow.still (o := .tup xs.reverse) R1.sub hq
    exact (p1 _ _ G) _ (.tup upd_same (h2.grow G).rev)
  · obtain ⟨a, xs, rfl, h1, h2⟩ := hv.list R1.sub
    refine ⟨a, xs, rfl, .inl ⟨.inl (.inl h1), fun q hq => ?_⟩⟩
    have G := Grow.still (o := .lst xs.reverse) R1.sub hq
    exact (p1 _ _ G) _ (.lst upd_same (h2.grow G).rev)
/-- what stood in a slot stands in another -/
def sMove (i j : Nat) : SemS := fun m => match m[j]? with
  | some (some (.lst true ds)) => .nx ((m.set j none).set i (some (.lst true ds)))
  | _ => .stuck
theorem Rel.forget {K : PySem.W.Frag} {b : Bs} {F H : Hp} {m : Sl} {σ : L2.St} (j : Nat) (r : Rel K b F m σ H) : Rel K b F (m.set j none) σ H := by
  have old : ∀ {k : Nat} {d : D}, (m.set j none)[k]? = some (some d) → k ≠ j ∧ m[k]? = some (some d) := fun {k d} h => by
    by_cases c : k = j
    · subst c
      rw [List.getElem?_set_self'] at h
      cases q : m[k]? <;> rw [q] at h <;> simp at h
    · rw [List.getElem?_set_ne (fun z => c z.symm)] at h
      exact ⟨c, h⟩
  exact ⟨by simp [r.len], r.grow, fun k d q => r.slot k d (old q).2, fun p q x y v w c e1 e2 e3 e4 => r.apart p q x y v w c (old e1).2 (old e2).2 e3 e4⟩
theorem Rel.move {K : PySem.W.Frag} {b : Bs} {F H : Hp} {m : Sl} {σ : L2.St} {i j : Nat} {ds : List D} {v : V} (r : Rel K b F m σ H) (e : m[j]? = some (some (.lst true ds))) (hv : σ[j]? = some (some v)) (hs : SlotOk K F b.H0 H (.lst true ds) v) :
    Rel K b F ((m.set j none).set i (some (.lst true ds))) (σ.set i (some v)) H := by
  refine (r.forget j).putW hs fun k d w a hk h1 h2 o1 o2 => ?_
  by_cases c : k = j
  · subst c
    rw [List.getElem?_set_self'] at h1
    cases q : m[k]? <;> rw [q] at h1 <;> simp at h1
  · rw [List.getElem?_set_ne (fun z => c z.symm)] at h1
    exact c (r.apart k j d _ w v a h1 e h2 hv o2 o1)
theorem ss_move {x : Str} {px pos : Pos} {i j : Nat} {e : Expr} (hN : X.N.Nodup) (hi : X.N[i]? = some x) (hx : Loc X.env.scope x) (hf : PE X e (tVar j)) (hfn : X.fn x = true ∨ X.env.scope.names.lookup x = some .local := by first | exact .inl rfl | exact .inr rfl)
    (hs : swapsWithSole [.Name x px] e pos.line X.env = pure false := by rfl) (hw : swappedStores [.Name x px] e X.env = pure none := by rfl) : SS X b W (.Assign [.Name x px] e pos) (sMove i j) :=
  PS.weak (ps_asg hf (pg_name hN hi hx hfn) hs hw) fun D' σ H ⟨F, m, R, p⟩ => by
    unfold sMove at p
    split at p
    · rename_i ds hd
      obtain ⟨v, h1, h2⟩ := R.slot j _ hd
      exact ⟨v, h1, p _ F H (R.move hd h1 h2) (Prog.refl _ _)⟩
    · exact p.elim
/-- a new list of nobody's is changed -/
theorem Rel.tmp {K : PySem.W.Frag} {b : Bs} {F H : Hp} {m : Sl} {σ : L2.St} {a : Addr} {xs ys : List V} (r : Rel K b F m σ H) (h1 : H a = some (.lst xs)) (h2 : F a = none) (h3 : b.H0 a = none)
    (far : ∀ (j : Nat) (d : D) (v : V), m[j]? = some (some d) → σ[j]? = some (some v) → Owns H d v a → False) : Rel K b F m σ (upd H a (.lst ys)) := by
  have t : ∀ c o, H c = some o → NoL o → (upd H a (.lst ys)) c = some o := fun c o hc ho => by
    rw [upd_ne (fun z => by subst z; rw [h1] at hc; cases hc; exact False.elim ho)]; exact hc
  have na : ∀ c o, F c = some o → c ≠ a := fun c o hc z => by subst z; rw [h2] at hc; cases hc
  refine ⟨r.len, ⟨fun c o hc => ?_, r.grow.sub, fun c o hc => ?_, r.grow.new⟩, fun j d q => ?_, fun p q x y v w c e1 e2 e3 e4 o1 o2 => ?_⟩
  · rw [upd_ne (fun z => by subst z; rw [h3] at hc; cases hc)]; exact r.grow.same _ _ hc
  · rw [upd_ne (na _ _ hc)]; exact r.sub _ _ hc
  · obtain ⟨w, k1, k2⟩ := r.slot j d q
    refine ⟨w, k1, ?_⟩
    rcases k2 with ⟨ds', c, xs', rfl, rfl, z1, z2, z3, z4, z5⟩ | ⟨z1, z2⟩ | ⟨L, k, ds', t', vs, c, xs', rfl, pp⟩ | ⟨qq, ks, ds', c, kvs, rfl, pp⟩
    · have hc : c ≠ a := fun z => by subst z; exact far j _ _ q k1 (.inl ⟨_, rfl, rfl⟩)
      exact .inl ⟨ds', c, xs', rfl, rfl, by rw [upd_ne hc]; exact z1, z2, z3, RpL.keep t ds' _ z5 z4, z5⟩
    · exact .inr (.inl ⟨z1, Rp.keep t d _ z1 z2⟩)
    · have hc : c ≠ a := fun z => by subst z; exact far j _ _ q k1 (.inr (.inr ⟨L, t', vs, k, ds', rfl, pp.v, pp.t, pp.l, pp.w⟩))
      have := pp.keep t (by rw [upd_ne hc]; exact pp.al) (RpL.keep t ds' _ pp.nx pp.x) pp.nx
      rw [show L.set k (.lst true ds') = L from by have := set_self_eq (y := .lst true ds') pp.l; rwa [List.set_set] at this] at this
      exact .inr (.inr (.inl ⟨L, k, ds', t', vs, c, xs', rfl, this⟩))
    · have hc : c ≠ a := fun z => by subst z; exact far j _ _ q k1 (.inr (.inl ⟨_, _, _, rfl, pp.v⟩))
      exact .inr (.inr (.inr ⟨qq, ks, ds', c, kvs, rfl, pp.v, pp.o, by rw [upd_ne hc]; exact pp.al, pp.fa, pp.ha, pp.k, RpL.keep t ds' _ pp.nx pp.x, pp.nx⟩))
  · obtain ⟨v', k1, k2⟩ := r.slot p x e1
    obtain ⟨w', k3, k4⟩ := r.slot q y e2
    rw [e3] at k1; cases k1
    rw [e4] at k3; cases k3
    exact r.apart p q x y v w c e1 e2 e3 e4 (o1.back t k2) (o2.back t k4)
def sAppO (k : SemA) (f : SemE) : SemS := fun m => ofR m (k m) fun ds => ofR m (f m) fun d => if ds.length < sizeLine then .nx m else .stuck
theorem ss_appO {o e : Expr} {k : SemA} {f : SemE} {apos cpos pos : Pos} (ho : SO X b W o k) (hf : SE X b W e f)
    (hbase : attributeBase o "append" X.env (eval o X.env) = eval o X.env := by rfl)
    (hfew : ((backTo cpos (starEach [e] X.env)).all (fun x => !x.1) && (backToKw cpos (keywordEach [] X.env)).all (fun x => x.1.isSome)
      && decide ([e].length + ([] : List Keyword).length + (if ([] : List Keyword).isEmpty then 0 else 1) < 30)) = true := by rfl)
    (hline : (apos.endLine == cpos.line) = true := by rfl) (hs : starEach [e] X.env = (false, eval e X.env) :: starEach [] X.env := by rfl) (hplain : (backTo cpos (starEach [] X.env)).any (·.1) = false := by rfl)
    (hsw : swapsWith (.Call (.Attribute o "append" apos) [e] [] cpos) none pos.line X.env = pure false := by rfl) : SS X b W (.Expr (.Call (.Attribute o "append" apos) [e] [] cpos) pos) (sAppO k f) := by
  refine PS.weak (ps_expr (pe_bm PySem.F.plainAttrs_list PySem.F.slot_list_append PySem.F.type_list_append mt_append ho (pa_cons hf pa_nil hs) hbase hfew hline hs hplain) hsw) fun D' σ H ⟨F, m, R, p⟩ => ?_
  refine ⟨F, m, R, ?_⟩
  unfold sAppO at p
  cases hk : k m with
  | stuck => rw [hk] at p; exact p.elim
  | exc c => rw [hk] at p; exact fun F1 H1 G => p σ F1 H1 (R.step G) G.prog
  | ok ds =>
    rw [hk] at p
    simp only [ofR_ok] at p
    intro F1 H1 G a xs h0 h1 h2 hv
    have R1 := R.step G
    refine ⟨.inl ⟨rfl, xs, .inl (.inl h2)⟩, seqS R1 (Sst.prog G.prog p) fun d F2 H2 v R2 G2 hv2 q => ?_⟩
    split at q
    · rename_i hz
      have h3 := G2.same _ _ h2
      have hF : F2 a = none := by
        cases w : F2 a with
        | none => rfl
        | some o =>
          rcases G2.new a o w with z | z
          · rw [h1] at z; cases z
          · rw [h2] at z; cases z
      have far : ∀ (j : Nat) (d : D) (v : V), m[j]? = some (some d) → σ[j]? = some (some v) → Owns H2 d v a → False := fun j d v e1 e2 o => by
        obtain ⟨v', q1, q2⟩ := R.slot j _ e1
        rw [e2] at q1; cases q1
        obtain ⟨ys, hy, _⟩ := Owns.here q2 (o.back (fun b o z _ => G2.same _ _ (G.same b o z)) q2)
        rw [h0] at hy; cases hy
      exact ⟨a, xs, v, rfl, rfl, h3, by rw [← hv.length]; exact hz, q σ F2 _ (R2.tmp h3 hF (R.grow.same.free h0) far) (chg_prog h3)⟩
    · exact q.elim
/-- list(range(n)) -/
def rngO : D → R (List D)
  | .int j => if 0 ≤ j ∧ j ≤ 16777216 then .ok (rng 0 j.toNat) else .stuck
  | _ => .stuck
def aRngO (f : SemE) : SemA := fun m => (f m).bind rngO
theorem rp_rng {K : PySem.W.Frag} {F H0 H : Hp} (lo : Int) : ∀ l : List Nat, RpL K F H0 H (l.map fun i => D.int (lo + (i : Nat))) (l.map fun i => V.int (lo + (i : Nat)))
  | [] => .nil
  | _ :: l => .cons (.int _) (rp_rng lo l)
theorem so_listRg {a : Expr} {f : SemE} {p p' pos pos' : Pos} (hc : X.calm = true) (hg : Gl X "list") (hm : X.mg "list" = none) (hg' : Gl X "range") (hm' : X.mg "range" = none) (hf : SE X b W a f)
    (na : starEach [a] X.env = (false, eval a X.env) :: starEach [] X.env := by rfl)
    (nb : starEach [.Call (.Name "range" p') [a] [] pos'] X.env = (false, eval (.Call (.Name "range" p') [a] [] pos') X.env) :: starEach [] X.env := by rfl) :
    SO X b W (.Call (.Name "list" p) [.Call (.Name "range" p') [a] [] pos'] [] pos) (aRngO f) := by
  refine PE.weak (pe_listRg hc hg hm (prg_1 hg' hm' hf na) nb) fun σ H Q ⟨F, m, R, P⟩ => ?_
  refine seq R P fun x F1 H1 v R1 G1 hv p1 => ?_
  cases x <;> first | exact p1.elim | skip
  rename_i j
  cases hv
  simp only [rngO] at p1
  split at p1
  · rename_i c
    refine ⟨j, rfl, ⟨by omega, by omega, by omega, by omega, by omega⟩, fun q hq => ?_⟩
    have G := Grow.loose (o := .lst (rgV 0 j)) R1.sub hq
    have e : rgV 0 j = (List.range j.toNat).map fun i : Nat => V.int (0 + (i : Int)) := by unfold rgV; rw [Int.sub_zero]
    exact (p1 _ _ G) q (rgV 0 j) (G1.same.free hq) (R1.sub.free hq) upd_same (by rw [e]; exact rp_rng 0 _)
  · exact p1.elim
/-! ### lists of one's own within tuples -/
/-- a call's result, whatever it owns -/
def tSQ (K : PySem.W.Frag) (b : Bs) (W : WX) (h : SemE) : TE := fun σ H Q => ∃ F m, Rel K b F m σ H ∧ match h m with
  | .ok d => ∀ F1 H1 v, Grow F H F1 H1 → SlotOk K F1 H H1 d v → Q v H1
  | .exc c => ∀ F1 H1, Grow F H F1 H1 → W (b.ex c) none σ H1
  | .stuck => False
abbrev SQ (X : Cx) (b : Bs) (W : WX) (e : Expr) (h : SemE) : Prop := PE X e (tSQ X.K b W h)
def callP (f : List D → R D) : List D → R D := fun ds => if hasTL ds = true then .stuck else f ds
theorem sp_call {x : Str} {es : List Expr} {h : SemA} {n k : Nat} {f : List D → R D} {e : Expr} {p pos : Pos} (C : Callee X.prog X.w X.K X.mg X.base b.ex x n f k) (tk : Takes X W) (hr : Room k X.A) (hgd : X.A.guards = some []) (hg : Gl X x) (ha : SA X b W (e :: es) h) (hl : (e :: es).length = n) (hlen : ∀ m xs, h m = .ok xs → xs.length = (e :: es).length) (hdb : (x == ("__debug__" : Str)) = false := by decide)
    (he : starEach (e :: es) X.env = (false, eval e X.env) :: starEach es X.env := by rfl) (hpl : (backTo pos (starEach es X.env)).any (·.1) = false := by rfl) : SQ X b W (.Call (.Name x p) (e :: es) [] pos) (eA (callP f) h) := by
  obtain ⟨fa, fd, ps, F1, hm, hk, hb⟩ := C.ok
  refine PE.weak (pe_callG F1 hr hgd hg hm hk hb (fun σ => passAt tk σ) ha hdb he hpl) fun σ H Q ⟨F, m, R, p⟩ => ?_
  refine ⟨F, m, R, ?_⟩
  unfold eA at p
  cases hm : h m with
  | stuck => rw [hm] at p; exact p.elim
  | exc c => rw [hm] at p; exact p
  | ok xs =>
    rw [hm] at p
    refine fun F1 H1 G vs hv => ?_
    simp only [CT.R.bind_ok, callP] at p
    by_cases ht : hasTL xs = true
    · rw [if_pos ht] at p; exact p.elim
    · rw [if_neg ht] at p
      have ht : hasTL xs = false := by simpa using ht
      refine ⟨F1, xs, (R.step G).sub, RpL.base xs vs ht hv, ht, by rw [← hl]; exact hlen m xs hm, ?_⟩
      cases hf : f xs with
      | stuck => rw [hf] at p; exact p.elim
      | exc c => rw [hf] at p; exact fun F' H' G' => p F' H' (G.trans G')
      | ok d =>
        rw [hf] at p
        exact fun F' H' v G' so => p F' H' v (G.trans G') (so.base G.same)
def sSetP (i : Nat) (k : SemE) : SemS := fun m => ofR m (k m) fun d => .nx (m.set i (some d))
theorem ss_setP {e : Expr} {k : SemE} {i : Nat} {x : Str} {px pos : Pos} (hN : X.N.Nodup) (hi : X.N[i]? = some x) (hx : Loc X.env.scope x) (hf : SQ X b W e k) (hfn : X.fn x = true ∨ X.env.scope.names.lookup x = some .local := by first | exact .inl rfl | exact .inr rfl)
    (hs : swapsWithSole [.Name x px] e pos.line X.env = pure false := by rfl) (hw : swappedStores [.Name x px] e X.env = pure none := by rfl) : SS X b W (.Assign [.Name x px] e pos) (sSetP i k) :=
  PS.weak (ps_asg hf (pg_name hN hi hx hfn) hs hw) fun D' σ H ⟨F, m, R, p⟩ => by
    refine ⟨F, m, R, ?_⟩
    unfold sSetP at p
    cases hk : k m with
    | stuck => rw [hk] at p; exact p.elim
    | exc c => rw [hk] at p; exact fun F1 H1 G => p σ F1 H1 (R.step G) G.prog
    | ok d =>
      rw [hk] at p
      exact fun F1 H1 v G so => p _ F1 H1 (R.putN G so) G.prog
def sRetP (f : SemE) (i : Nat) : SemS := fun m => ofR m (f m) fun d => match m[i]? with
  | some (some (.lst true ds)) => if hasT d = true then .stuck else .rt (.tup [d, .lst true ds])
  | _ => .stuck
theorem ss_retP {e x : Expr} {f : SemE} {i j : Nat} {pos pos' : Pos} (hf : SE X b W e f) (hx : PE X x (tVar i)) (hs : starEach [e, x] X.env = (false, eval e X.env) :: starEach [x] X.env := by rfl) (hs' : starEach [x] X.env = (false, eval x X.env) :: starEach [] X.env := by rfl) :
    SS X b W (.Return (some (.Tuple [e, x] j pos')) pos) (sRetP f i) :=
  PS.weak (ps_ret (pe_tup (pa_cons hf (pa_cons hx pa_nil hs') hs))) fun D' σ H ⟨F, m, R, p⟩ => by
    refine seqS R p fun d F1 H1 v R1 G hv q => ?_
    split at q
    · rename_i ds hd
      split at q
      · exact q.elim
      · rename_i ht
        have ht : hasT d = false := by simpa using ht
        obtain ⟨w, h1, h2⟩ := R1.slot i _ hd
        obtain ⟨a, xs, rfl, k1, k2, k3, k4, k5⟩ := h2.mut
        refine ⟨.ref a, h1, (show 2 ≤ sizeLine by decide), fun r hr => ?_⟩
        have G2 := Grow.loose (o := .tup [v, .ref a]) R1.sub hr
        refine q F1 _ _ (R1.grow.trans G2) (.inr (.inr (.inl ⟨[d, .lst true ds], 1, ds, r, [v, .ref a], a, xs, rfl, rfl, upd_same, rfl, rfl, ?_, ?_, G2.same _ _ k1, k2, k3, k4.grow G2, k5⟩)))
        · simp [hasTL, hasT, ht]
        · exact .cons (hv.grow G2) (.cons .non .nil)
    · exact q.elim
/-- what is put at the end of a list in a tuple -/
def sAppP (i k : Nat) (f : SemE) : SemS := fun m => match m[i]? with
  | some (some (.tup L)) => (match L[k]? with
    | some (.lst true ds) => ofR m (f m) fun d => if hasT d = true then .stuck else if ds.length < sizeLine then .nx (m.set i (some (.tup (L.set k (.lst true (ds ++ [d])))))) else .stuck
    | _ => .stuck)
  | _ => .stuck
theorem ss_appP {o e : Expr} {f : SemE} {i k j : Nat} {spos npos apos cpos pos : Pos} (ho : PE X o (tVar i)) (hf : SE X b W e f)
    (hbase : attributeBase (.Subscript o (.Constant (.int k) j npos) spos) "append" X.env (eval (.Subscript o (.Constant (.int k) j npos) spos) X.env) = eval (.Subscript o (.Constant (.int k) j npos) spos) X.env := by rfl)
    (hfew : ((backTo cpos (starEach [e] X.env)).all (fun x => !x.1) && (backToKw cpos (keywordEach [] X.env)).all (fun x => x.1.isSome)
      && decide ([e].length + ([] : List Keyword).length + (if ([] : List Keyword).isEmpty then 0 else 1) < 30)) = true := by rfl)
    (hline : (apos.endLine == cpos.line) = true := by rfl) (hs : starEach [e] X.env = (false, eval e X.env) :: starEach [] X.env := by rfl) (hplain : (backTo cpos (starEach [] X.env)).any (·.1) = false := by rfl)
    (hsw : swapsWith (.Call (.Attribute (.Subscript o (.Constant (.int k) j npos) spos) "append" apos) [e] [] cpos) none pos.line X.env = pure false := by rfl) :
    SS X b W (.Expr (.Call (.Attribute (.Subscript o (.Constant (.int k) j npos) spos) "append" apos) [e] [] cpos) pos) (sAppP i k f) := by
  have hix : PE X (.Subscript o (.Constant (.int k) j npos) spos) _ := pe_ix ix_seq ho pe_int (fun _ _ => rfl)
  refine PS.weak (ps_expr (pe_bm PySem.F.plainAttrs_list PySem.F.slot_list_append PySem.F.type_list_append mt_append hix (pa_cons hf pa_nil hs) hbase hfew hline hs hplain) hsw) fun D' σ H ⟨F, m, R, p⟩ => ?_
  unfold sAppP at p
  split at p
  · rename_i L hL
    split at p
    · rename_i ds hd
      obtain ⟨v, h1, h2⟩ := R.slot i _ hL
      rcases h2 with ⟨_, _, _, z, _⟩ | ⟨z, _⟩ | ⟨L', k', ds', t, vs, a, xs, z, pp⟩ | ⟨_, _, _, _, _, z, _⟩
      · cases z
      · have := hasTL_get (by simpa only [hasT] using z) hd
        simp [hasT] at this
      · cases z
        cases pp.same hd
        have e := pp.l
        rw [hd] at e; cases e
        have hv := pp.v
        subst hv
        refine ⟨.ref t, h1, .inr (.inl ⟨t, vs, (k : Int), .ref a, rfl, rfl, .inl (.inl pp.t), atI_nat pp.w, .inl ⟨rfl, xs, .inl (.inl pp.al)⟩, seqS R p fun d F1 H1 v R1 G hv q => ?_⟩)⟩
        split at q
        · exact q.elim
        rename_i hdT
        split at q
        · rename_i hz
          have pp1 : PairOk X.K F1 b.H0 H1 L (.ref t) k ds t vs a xs := ⟨rfl, G.same _ _ pp.t, pp.l, pp.w, pp.n, pp.r.grow G, G.same _ _ pp.al, grow_free G pp.al pp.fa, pp.ha, pp.x.grow G, pp.nx⟩
          refine ⟨a, xs, v, rfl, rfl, pp1.al, by rw [← pp1.x.length]; exact hz, q σ F1 _ (R1.chgP hL h1 pp1 (pp1.x.app (.cons hv .nil)) ?_) (chg_prog pp1.al)⟩
          rw [hasTL_append, pp.nx, hasTL]
          simp only [Bool.not_eq_true] at hdT
          rw [hdT]; rfl
        · exact q.elim
      · cases z
    · exact p.elim
  · exact p.elim
end
end CT

/-! CtW: dicts of one's own, their keys tuples of ints -/
namespace CT
open PySem PySem.Spec PyProof.Rows L2

def intsOf : List D → Option (List Int)
  | [] => some []
  | .int i :: ds => (intsOf ds).map (i :: ·)
  | _ => none
def keyOf : D → Option (List Int)
  | .tup xs => intsOf xs
  | _ => none
theorem intsOf_map : ∀ l : List Int, intsOf (l.map .int) = some l
  | [] => rfl
  | i :: l => by simp [intsOf, intsOf_map l]
theorem intsOf_rp {K : PySem.W.Frag} {F H0 H : Hp} : ∀ {ds : List D} {l : List Int} {vs : List V}, intsOf ds = some l → RpL K F H0 H ds vs → vs = l.map V.int
  | [], l, _, h, .nil => by cases h; rfl
  | d :: ds, l, _, h, .cons r t => by
    cases d <;> first | (simp [intsOf] at h; done) | skip
    rename_i i
    simp only [intsOf] at h
    cases q : intsOf ds with
    | none => rw [q] at h; cases h
    | some l' =>
      rw [q] at h; cases h
      cases r
      rw [intsOf_rp q t]; rfl
theorem keyOf_rp {K : PySem.W.Frag} {F H0 H : Hp} {d : D} {l : List Int} {v : V} (h : keyOf d = some l) (r : Rp K F H0 H d v) : ∃ a, v = .ref a ∧ H a = some (.tup ((l.map (Sum.inl : Int → Key)).map kV)) := by
  cases d <;> first | (simp [keyOf] at h; done) | skip
  obtain ⟨a, xs, rfl, h1, h2⟩ := r.tuple'
  refine ⟨a, rfl, ?_⟩
  rw [h1, intsOf_rp h h2, List.map_map]
  rfl
/-- what stands at a key -/
def dAt (ks : List (List Int)) (ds : List D) (k : List Int) : Option D := match ks, ds with
  | q :: ks, d :: ds => if q = k then some d else dAt ks ds k
  | _, _ => none
def dHas (ks : List (List Int)) (k : List Int) : Bool := ks.any fun q => decide (q = k)
def dPutK (ks : List (List Int)) (k : List Int) : List (List Int) := if dHas ks k = true then ks else ks ++ [k]
def dSetV (ks : List (List Int)) (ds : List D) (k : List Int) (d : D) : List D := match ks, ds with
  | q :: ks, e :: ds => (if q = k then d else e) :: dSetV ks ds k d
  | _, _ => []
def dPutV (ks : List (List Int)) (ds : List D) (k : List Int) (d : D) : List D := if dHas ks k = true then dSetV ks ds k d else ds ++ [d]
theorem inl_inj {k l : List Int} (h : k.map (Sum.inl : Int → Key) = l.map Sum.inl) : k = l := List.map_inj_right (fun _ _ e => Sum.inl.inj e) |>.mp h
section
variable {K : PySem.W.Frag} {F H0 H : Hp}
theorem dAt_val : ∀ {ks : List (List Int)} {ds : List D} {kvs : List (List Key × V)} (k : List Int), kvs.map (·.1) = ks.map (·.map Sum.inl) → RpL K F H0 H ds (kvs.map (·.2)) →
    (∀ d, dAt ks ds k = some d → ∃ v, valV kvs (k.map Sum.inl) = some v ∧ Rp K F H0 H d v) ∧ (valV kvs (k.map Sum.inl)).isSome = dHas ks k
  | [], ds, [], k, _, _ => ⟨fun d h => by simp [dAt] at h, rfl⟩
  | q :: ks, d :: ds, p :: kvs, k, hk, .cons r t => by
    simp only [List.map_cons, List.cons.injEq] at hk
    obtain ⟨h1, h2⟩ := dAt_val k hk.2 t
    by_cases e : q = k
    · have e' : p.1 = k.map Sum.inl := by rw [hk.1, e]
      rw [valV_pos e']
      refine ⟨fun x hx => ?_, by simp [dHas, e]⟩
      simp only [dAt, if_pos e] at hx
      cases hx
      exact ⟨_, rfl, r⟩
    · have e' : ¬ p.1 = k.map Sum.inl := fun z => e (inl_inj (by rw [← hk.1]; exact z))
      rw [valV_neg e']
      refine ⟨fun x hx => ?_, by rw [h2]; simp [dHas, e]⟩
      simp only [dAt, if_neg e] at hx
      exact h1 x hx
  | [], _, _ :: _, _, hk, _ => by simp at hk
  | _ :: _, _, [], _, hk, _ => by simp at hk
theorem dSet_val : ∀ {ks : List (List Int)} {ds : List D} {kvs : List (List Key × V)} (k : List Int) {d : D} {v : V}, kvs.map (·.1) = ks.map (·.map Sum.inl) → RpL K F H0 H ds (kvs.map (·.2)) → Rp K F H0 H d v →
    RpL K F H0 H (dSetV ks ds k d) ((kvs.map fun kv => if kv.1 = k.map Sum.inl then (kv.1, v) else kv).map (·.2))
  | [], ds, [], k, _, _, _, _, _ => by simp only [dSetV]; exact .nil
  | q :: ks, d0 :: ds, p :: kvs, k, d, v, hk, .cons r t, hv => by
    simp only [List.map_cons, List.cons.injEq] at hk
    have ih := dSet_val k hk.2 t hv
    by_cases e : q = k
    · have e' : p.1 = k.map Sum.inl := by rw [hk.1, e]
      simp only [dSetV, List.map_cons, if_pos e, if_pos e']
      exact .cons hv ih
    · have e' : ¬ p.1 = k.map Sum.inl := fun z => e (inl_inj (by rw [← hk.1]; exact z))
      simp only [dSetV, List.map_cons, if_neg e, if_neg e']
      exact .cons r ih
  | [], _, _ :: _, _, _, _, hk, _, _ => by simp at hk
  | _ :: _, _, [], _, _, _, hk, _, _ => by simp at hk
theorem dPut_val {ks : List (List Int)} {ds : List D} {kvs : List (List Key × V)} {k : List Int} {d : D} {v : V} (hk : kvs.map (·.1) = ks.map (·.map Sum.inl)) (h : RpL K F H0 H ds (kvs.map (·.2))) (hv : Rp K F H0 H d v) :
    (putK kvs (k.map Sum.inl) v).map (·.1) = (dPutK ks k).map (·.map Sum.inl) ∧ RpL K F H0 H (dPutV ks ds k d) ((putK kvs (k.map Sum.inl) v).map (·.2)) := by
  have e := (dAt_val (ds := ds) k hk h).2
  rw [← valV_any] at e
  unfold putK dPutK dPutV
  by_cases c : dHas ks k = true
  · rw [if_pos (by rw [e]; exact c), if_pos c, if_pos c]
    refine ⟨?_, dSet_val k hk h hv⟩
    rw [← hk, List.map_map]
    apply List.map_congr_left
    intro p _
    simp only [Function.comp]
    split <;> rfl
  · rw [if_neg (by rw [e]; exact c), if_neg c, if_neg c]
    simp only [List.map_append, List.map_cons, List.map_nil, hk]
    exact ⟨trivial, h.app (.cons hv .nil)⟩
end
theorem hasTL_dSet {d : D} (hd : hasT d = false) : ∀ (ks : List (List Int)) (ds : List D) (k : List Int), hasTL ds = false → hasTL (dSetV ks ds k d) = false
  | [], ds, _, _ => by cases ds <;> rfl
  | _ :: _, [], _, _ => rfl
  | q :: ks, e :: ds, k, h => by
    simp only [hasTL, Bool.or_eq_false_iff] at h
    simp only [dSetV, hasTL, hasTL_dSet hd ks ds k h.2, Bool.or_false]
    split
    · exact hd
    · exact h.1
theorem hasTL_dPut {d : D} (hd : hasT d = false) {ks : List (List Int)} {ds : List D} {k : List Int} (h : hasTL ds = false) : hasTL (dPutV ks ds k d) = false := by
  unfold dPutV
  split
  · exact hasTL_dSet hd _ _ _ h
  · rw [hasTL_append, h]; simp [hasTL, hd]
/-! ### rules -/
def sNewD (i : Nat) : SemS := fun m => .nx (m.set i (some (.dct ⟨none, false⟩ [] [])))
def dctAt (i : Nat) (m : Sl) (k : DT → List (List Int) → List D → RS) : RS := match m[i]? with
  | some (some (.dct q ks ds)) => k q ks ds
  | _ => .stuck
def eDct {α : Type} (i : Nat) (m : Sl) (k : List (List Int) → List D → R α) : R α := match m[i]? with
  | some (some (.dct _ ks ds)) => k ks ds
  | _ => .stuck
def keyR (d : D) : R (List Int) := match keyOf d with
  | some k => .ok k
  | none => .stuck
def atR (ks : List (List Int)) (ds : List D) (y : D) : R D := (keyR y).bind fun k => match dAt ks ds k with
  | some d => .ok d
  | none => .stuck
def hasR (c : Bool) (ks : List (List Int)) (y : D) : R D := (keyR y).bind fun k => .ok (.bl (dHas ks k == c))
def eGetD (i : Nat) (f : SemE) : SemE := fun m => eDct i m fun ks ds => (f m).bind fun y => atR ks ds y
def eInD (c : Bool) (i : Nat) (f : SemE) : SemE := fun m => (f m).bind fun y => eDct i m fun ks ds => hasR c ks y
def eLenD (i : Nat) : SemE := fun m => match m[i]? with
  | some (some (.dct q ks ds)) => if q.l = true then .stuck else .ok (.int ks.length)
  | _ => .stuck
def sPutD (i : Nat) (f g : SemE) : SemS := fun m => ofR m (g m) fun d => dctAt i m fun q ks ds => ofR m (f m) fun y => ofR m (keyR y) fun k => if hasT d = true then .stuck else if q.l = true then .stuck else if ks.length < sizeLine then .nx (m.set i (some (.dct q (dPutK ks k) (dPutV ks ds k d)))) else .stuck
section
variable {X : Cx} {b : Bs} {W : WX} {o e : Expr} {f g : SemE} {i : Nat} {x : Str} {px pos pos' : Pos}
theorem ss_newD (hN : X.N.Nodup) (hi : X.N[i]? = some x) (hx : Loc X.env.scope x) (hfn : X.fn x = true ∨ X.env.scope.names.lookup x = some .local := by first | exact .inl rfl | exact .inr rfl)
    (hs : swapsWithSole [.Name x px] (.Dict [] [] pos') pos.line X.env = pure false := by rfl) (hw : swappedStores [.Name x px] (.Dict [] [] pos') X.env = pure none := by rfl) : SS X b W (.Assign [.Name x px] (.Dict [] [] pos') pos) (sNewD i) :=
  PS.weak (ps_asg pe_dnewT (pg_name hN hi hx hfn) hs hw) fun D' σ H ⟨F, m, R, p⟩ => by
    intro q hq
    have G := Grow.loose (o := .dT []) R.sub hq
    exact p _ F _ (R.putN G (.inr (.inr (.inr ⟨⟨none, false⟩, [], [], q, [], rfl, rfl, (fun _ z => nomatch z), ⟨_, upd_same, rfl⟩, R.sub.free hq, hq, rfl, .nil, rfl⟩)))) G.prog
theorem dct_slot {F H : Hp} {m : Sl} {σ : L2.St} {qt : DT} {ks : List (List Int)} {ds : List D} (R : Rel X.K b F m σ H) (h : m[i]? = some (some (.dct qt ks ds))) : ∃ a kvs, σ[i]? = some (some (.ref a)) ∧ DctOk X.K F b.H0 H qt ks ds (.ref a) a kvs := by
  obtain ⟨v, h1, h2⟩ := R.slot i _ h
  obtain ⟨a, kvs, p⟩ := h2.dct
  have := p.v
  subst this
  exact ⟨a, kvs, h1, p⟩
theorem DctOk.grow {F F1 H0 H H1 : Hp} {qt : DT} {ks : List (List Int)} {ds : List D} {v : V} {a : Addr} {kvs : List (List Key × V)} (g : Grow F H F1 H1) (p : DctOk X.K F H0 H qt ks ds v a kvs) : DctOk X.K F1 H0 H1 qt ks ds v a kvs :=
  ⟨p.v, p.o, p.al.imp fun u h => ⟨g.same _ _ h.1, h.2⟩, p.al.elim fun u h => grow_free g h.1 p.fa, p.ha, p.k, p.x.grow g, p.nx⟩
theorem DctOk.rd {F H0 H : Hp} {qt : DT} {ks : List (List Int)} {ds : List D} {v : V} {a : Addr} {kvs : List (List Key × V)} (p : DctOk X.K F H0 H qt ks ds v a kvs) : Rd H a (.dT kvs) := by
  obtain ⟨u, h1, h2⟩ := p.al
  unfold DU at h2
  split at h2
  · obtain ⟨od, rfl⟩ := h2; exact .inr ⟨od, h1⟩
  · rw [h2] at h1; exact .inl h1
theorem DctOk.un {F H0 H : Hp} {qt : DT} {ks : List (List Int)} {ds : List D} {v : V} {a : Addr} {kvs : List (List Key × V)} (p : DctOk X.K F H0 H qt ks ds v a kvs) (hl : qt.l = false) : H a = some (.dT kvs) := by
  obtain ⟨u, h1, h2⟩ := p.al
  rw [hl] at h2
  rw [h1]; exact congrArg _ h2
theorem DctOk.len {F H0 H : Hp} {qt : DT} {ks : List (List Int)} {ds : List D} {v : V} {a : Addr} {kvs : List (List Key × V)} (p : DctOk X.K F H0 H qt ks ds v a kvs) : kvs.length = ks.length := by
  have := congrArg List.length p.k
  simpa using this
theorem keyR_rp {F H0 H : Hp} {d : D} {k : List Int} {v : V} (h : keyR d = .ok k) (r : Rp X.K F H0 H d v) : ∃ a, v = .ref a ∧ H a = some (.tup ((k.map (Sum.inl : Int → Key)).map kV)) := by
  unfold keyR at h
  cases q : keyOf d with
  | none => rw [q] at h; cases h
  | some l => rw [q] at h; cases h; exact keyOf_rp q r
theorem dget_t {H : Hp} {a b : Addr} {kvs : List (List Key × V)} {k : List Key} (e : Rd H a (.dT kvs)) (eb : H b = some (.tup (k.map kV))) : DGet H a (.ref b) (valV kvs k) := .inr ⟨kvs, k, b, e, rfl, eb, rfl⟩
theorem se_getD (hu : X.A.units + 65 < cLine) (ho : PE X o (tVar i)) (hf : SE X b W e f) (hs : NoSl e := by exact fun _ _ => rfl) : SE X b W (.Subscript o e pos) (eGetD i f) := by
  refine PE.weak (pe_dget (by omega) ho hf hs) fun σ H Q ⟨F, m, R, p⟩ => ?_
  unfold eGetD eDct at p
  split at p
  · rename_i qt ks ds hm
    obtain ⟨a, kvs, h1, _⟩ := dct_slot R hm
    refine ⟨.ref a, h1, seq R p fun y F1 H1 v R1 G1 hv p1 => ?_⟩
    obtain ⟨a', kvs, h2, P⟩ := dct_slot R1 hm
    rw [h1] at h2; cases h2
    unfold atR at p1
    cases hk : keyR y with
    | exc c => unfold keyR at hk; split at hk <;> cases hk
    | stuck => rw [hk] at p1; exact p1.elim
    | ok k =>
      rw [hk] at p1
      simp only [CT.R.bind_ok] at p1
      obtain ⟨c, rfl, hc⟩ := keyR_rp hk hv
      split at p1
      · rename_i d hd
        obtain ⟨w, k1, k2⟩ := (dAt_val k P.k P.x).1 d hd
        exact ⟨a, w, rfl, by rw [← k1]; exact dget_t P.rd hc, p1.here R1.sub _ k2⟩
      · exact p1.elim
  · exact p.elim
theorem se_inD (hu : X.A.units + 65 < cLine) (ho : PE X o (tVar i)) (hf : SE X b W e f) (hb : behindInMarks .In o = false := by rfl) : SE X b W (.Compare e [.In] [o] pos) (eInD true i f) := by
  refine PE.weak (pe_cmp (pc_din (by omega) hf ho) hb) fun σ H Q ⟨F, m, R, p⟩ => ?_
  refine seq R p fun y F1 H1 v R1 G1 hv p1 => ?_
  unfold eDct at p1
  split at p1
  · rename_i qt ks ds hm
    obtain ⟨a, kvs, h1, P⟩ := dct_slot R1 hm
    unfold hasR at p1
    cases hk : keyR y with
    | exc c => unfold keyR at hk; split at hk <;> cases hk
    | stuck => rw [hk] at p1; exact p1.elim
    | ok k =>
      rw [hk] at p1
      simp only [CT.R.bind_ok] at p1
      obtain ⟨c, rfl, hc⟩ := keyR_rp hk hv
      refine ⟨.ref a, h1, a, _, rfl, dget_t P.rd hc, ?_⟩
      rw [(dAt_val (ds := ds) k P.k P.x).2]
      have := p1.here R1.sub (.bl (dHas ks k == true)) (.bl _)
      rwa [show (dHas ks k == true) = dHas ks k from by cases dHas ks k <;> rfl] at this
  · exact p1.elim
theorem se_notInD (hu : X.A.units + 65 < cLine) (ho : PE X o (tVar i)) (hf : SE X b W e f) (hb : behindInMarks .NotIn o = false := by rfl) : SE X b W (.Compare e [.NotIn] [o] pos) (eInD false i f) := by
  refine PE.weak (pe_cmp (pc_dnotin (by omega) hf ho) hb) fun σ H Q ⟨F, m, R, p⟩ => ?_
  refine seq R p fun y F1 H1 v R1 G1 hv p1 => ?_
  unfold eDct at p1
  split at p1
  · rename_i qt ks ds hm
    obtain ⟨a, kvs, h1, P⟩ := dct_slot R1 hm
    unfold hasR at p1
    cases hk : keyR y with
    | exc c => unfold keyR at hk; split at hk <;> cases hk
    | stuck => rw [hk] at p1; exact p1.elim
    | ok k =>
      rw [hk] at p1
      simp only [CT.R.bind_ok] at p1
      obtain ⟨c, rfl, hc⟩ := keyR_rp hk hv
      refine ⟨.ref a, h1, a, _, rfl, dget_t P.rd hc, ?_⟩
      rw [(dAt_val (ds := ds) k P.k P.x).2]
      have := p1.here R1.sub (.bl (dHas ks k == false)) (.bl _)
      rwa [show (dHas ks k == false) = !dHas ks k from by cases dHas ks k <;> rfl] at this
  · exact p1.elim
theorem st_inD (hu : X.A.units + 65 < cLine) (ho : PE X o (tVar i)) (hf : SE X b W e f) (hb : behindInMarks .In o = false := by rfl) : ST X b W (.Compare e [.In] [o] pos) (tOf (eInD true i f)) := by
  refine PT.weak (L2.pt_cmp (pc_din (by omega) hf ho) hb) fun σ H Q ⟨F, m, R, p⟩ => ?_
  have e1 : tOf (eInD true i f) m = (f m).bind fun y => eDct i m fun ks ds => (keyR y).bind fun k => .ok (dHas ks k == true) := by
    unfold tOf eInD eDct hasR
    cases f m with
    | ok y =>
      simp only [CT.R.bind_ok]
      split
      · cases keyR y <;> rfl
      · rfl
    | exc c => rfl
    | stuck => rfl
  rw [e1] at p
  refine seq R p fun y F1 H1 v R1 G1 hv p1 => ?_
  unfold eDct at p1
  split at p1
  · rename_i qt ks ds hm
    obtain ⟨a, kvs, h1, P⟩ := dct_slot R1 hm
    cases hk : keyR y with
    | exc c => unfold keyR at hk; split at hk <;> cases hk
    | stuck => rw [hk] at p1; exact p1.elim
    | ok k =>
      rw [hk] at p1
      simp only [CT.R.bind_ok] at p1
      obtain ⟨c, rfl, hc⟩ := keyR_rp hk hv
      refine ⟨.ref a, h1, a, _, rfl, dget_t P.rd hc, _, rfl, ?_⟩
      rw [(dAt_val (ds := ds) k P.k P.x).2]
      have := p1.here R1.sub
      rwa [show (dHas ks k == true) = dHas ks k from by cases dHas ks k <;> rfl] at this
  · exact p1.elim
theorem st_notInD (hu : X.A.units + 65 < cLine) (ho : PE X o (tVar i)) (hf : SE X b W e f) (hb : behindInMarks .NotIn o = false := by rfl) : ST X b W (.Compare e [.NotIn] [o] pos) (tOf (eInD false i f)) := by
  refine PT.weak (L2.pt_cmp (pc_dnotin (by omega) hf ho) hb) fun σ H Q ⟨F, m, R, p⟩ => ?_
  have e1 : tOf (eInD false i f) m = (f m).bind fun y => eDct i m fun ks ds => (keyR y).bind fun k => .ok (dHas ks k == false) := by
    unfold tOf eInD eDct hasR
    cases f m with
    | ok y =>
      simp only [CT.R.bind_ok]
      split
      · cases keyR y <;> rfl
      · rfl
    | exc c => rfl
    | stuck => rfl
  rw [e1] at p
  refine seq R p fun y F1 H1 v R1 G1 hv p1 => ?_
  unfold eDct at p1
  split at p1
  · rename_i qt ks ds hm
    obtain ⟨a, kvs, h1, P⟩ := dct_slot R1 hm
    cases hk : keyR y with
    | exc c => unfold keyR at hk; split at hk <;> cases hk
    | stuck => rw [hk] at p1; exact p1.elim
    | ok k =>
      rw [hk] at p1
      simp only [CT.R.bind_ok] at p1
      obtain ⟨c, rfl, hc⟩ := keyR_rp hk hv
      refine ⟨.ref a, h1, a, _, rfl, dget_t P.rd hc, _, rfl, ?_⟩
      rw [(dAt_val (ds := ds) k P.k P.x).2]
      have := p1.here R1.sub
      rwa [show (dHas ks k == false) = !dHas ks k from by cases dHas ks k <;> rfl] at this
  · exact p1.elim
theorem ss_putD {v : Expr} (hu : X.A.units + 65 < cLine) (ho : PE X o (tVar i)) (hf : SE X b W e f) (hg : SE X b W v g) (hs : swapsWith v (some (.Subscript o e pos')) pos.line X.env = pure false := by rfl) :
    SS X b W (.Assign [.Subscript o e pos'] v pos) (sPutD i f g) := by
  refine PS.weak (ps_dput (by omega) ho hf hg hs) fun D' σ H ⟨F, m, R, p⟩ => ?_
  refine seqS R p fun d F1 H1 w R1 G1 hw p1 => ?_
  unfold dctAt at p1
  split at p1
  · rename_i qt ks ds hm
    obtain ⟨a, _, h1, _⟩ := dct_slot R1 hm
    refine ⟨.ref a, h1, seqS R1 p1 fun y F2 H2 u R2 G2 hu p2 => ?_⟩
    obtain ⟨a', kvs, h2, P⟩ := dct_slot R2 hm
    rw [h1] at h2; cases h2
    cases hk : keyR y with
    | exc c => unfold keyR at hk; split at hk <;> cases hk
    | stuck => rw [hk] at p2; exact p2.elim
    | ok k =>
      rw [hk] at p2
      simp only [ofR_ok] at p2
      obtain ⟨c, rfl, hc⟩ := keyR_rp hk hu
      split at p2
      · exact p2.elim
      · rename_i hd
        have hd : hasT d = false := by simpa using hd
        split at p2
        · exact p2.elim
        rename_i hql
        obtain ⟨qo, ql⟩ := qt
        obtain rfl : ql = false := by simpa using hql
        split at p2
        · rename_i hl
          obtain ⟨q1, q2⟩ := dPut_val (k := k) P.k P.x (hw.grow G2)
          refine ⟨a, _, rfl, DPut.t (P.un rfl) hc (by rw [P.len]; exact hl), p2 σ F2 _ (R2.chgD hm h1 P q1 q2 (hasTL_dPut hd P.nx)) ⟨Same.refl _, fun c' o' hc' ho => ?_⟩⟩
          rw [upd_ne (fun z => by subst z; rw [P.un rfl] at hc'; cases hc'; exact False.elim ho)]; exact hc'
        · exact p2.elim
  · exact p1.elim
theorem se_lenD {px : Pos} (hg : Gl X "len") (hm : X.mg "len" = none) (ho : PE X o (tVar i)) (he : starEach [o] X.env = (false, eval o X.env) :: starEach [] X.env := by rfl) (hpl : (backTo pos (starEach [] X.env)).any (·.1) = false := by rfl) :
    SE X b W (.Call (.Name "len" px) [o] [] pos) (eLenD i) := by
  refine PE.weak (pe_callB call_len_dT hg hm PySem.boot_len (pa_cons ho pa_nil he) (by decide) (by decide) he hpl) fun σ H Q ⟨F, m, R, p⟩ => ?_
  unfold eLenD at p
  split at p
  · rename_i qt ks ds hm
    split at p
    · exact p.elim
    · rename_i hl
      obtain ⟨a, kvs, h1, P⟩ := dct_slot R hm
      refine ⟨.ref a, h1, a, kvs, rfl, P.un (by simpa using hl), ?_⟩
      have := p.here R.sub (.int (ks.length : Int)) (.int _)
      rwa [← P.len] at this
  · exact p.elim
end
end CT

/-! CtW2: a dict's pairs walked, its keys tuples -/
namespace CT
open PySem PySem.Spec PyProof.Rows L2
/-- the pairs of a dict with tuple keys, each a new tuple -/
def Itit (d : Addr) (o : Obj) (kvs : List (List Key × V)) : It :=
  ⟨fun i H => H d = some (.frz o (.dT kvs)) ∧ i < kvs.length, fun i H x H' => ∃ T k v q, kvs[i]? = some (k, v) ∧ x = .ref T ∧ H T = none ∧ H q = some (.tup (k.map kV)) ∧ H' = upd H T (.tup [.ref q, v]), fun i H => H d = some (.frz o (.dT kvs)) ∧ kvs.length ≤ i⟩
theorem frzT' {X : Cx} {pins : List (Addr × Obj)} {σ : L2.St} {H : Hp} {s : Shared} {d : Addr} {o : Obj} {kvs : List (List Key × V)} (I : Inv X pins σ H s) (h : H d = some (.frz o (.dT kvs))) :
    (d == sysModules) = false ∧ s.heap.get? d = some o ∧ o.ExactDict ∧ ∃ (es : Array DictEntry) (ep : Nat), o.data = .dict es ep ∧ es.size = kvs.length ∧
      ∀ (i : Nat) (k : List Key) (v : V), kvs[i]? = some (k, v) → ∃ (en : DictEntry) (q : Addr), es[i]? = some en ∧ en.key = .ref q ∧ H q = some (.tup (k.map kV)) ∧ RelV v en.val := by
  obtain ⟨hd, z, hs, xs, pr, o', es, ep, ho, hx, hdt, he, _⟩ := I.hok d _ h
  rw [hd] at ho
  cases ho
  refine ⟨hs, hd, hx, es, ep, hdt, ?_, fun i k v e => ?_⟩
  · have l1 : es.size = xs.length := size_of_entries he
    have l2 : kvs.length = xs.length := Paired.length pr
    omega
  · obtain ⟨b, hb, e1, e2, e3⟩ := paired_get pr e
    have q := entry_at he i
    rw [hb] at q
    exact ⟨_, b.2.1, q, rfl, e2, e3⟩
theorem turn_itemsT {P : Program} {w : World} {K : PySem.W.Frag} {d : Addr} {o : Obj} {es : Array DictEntry} {ep : Nat} {kvs : List (List Key × V)} {elts : List Expr} {kk : Nat} {tpos : Pos} (it : Addr) (hod : o.data = .dict es ep) :
    Turn P w K (.Tuple elts kk tpos) (Itit d o kvs) [it] it (fun i h => ∃ ok ov, IsItemIter h it d i kvs.length ep ok ov) where
  mem := by simp
  obj := fun i h st b hb => by
    have e : b = it := by simpa using hb
    subst e
    obtain ⟨ok, ov, e⟩ := st
    exact ⟨_, e, fun v z => nomatch z⟩
  keep := fun i h h' st k => let ⟨ok, ov, e⟩ := st; ⟨ok, ov, k it (by simp) _ e⟩
  item := by
    intro X hP hw hK hc i pins s σ H E I hf st hg
    subst hP hw hK
    obtain ⟨hd, hi⟩ := hg
    obtain ⟨hs, hgd, hx, es', ep', hdt, hsz, ent⟩ := frzT' I hd
    obtain ⟨rfl, rfl⟩ := dict_ep hod hdt
    obtain ⟨⟨k, v⟩, hkv⟩ : ∃ p, kvs[i]? = some p := ⟨kvs[i], List.getElem?_eq_getElem hi⟩
    obtain ⟨en, q, hen, hkey, hq, hval⟩ := ent i k v hkv
    obtain ⟨ok, ov, he⟩ := st
    rw [← hsz] at he
    have hlt : it < s.heap.objs.size := Heap.lt_size he
    have hi' : i < es'.size := by omega
    have een : es'[i] = en := by rw [Array.getElem?_eq_getElem hi'] at hen; exact Option.some.inj hen
    refine DT.nextI he ⟨o, hgd, hx, hdt⟩ hi' fun h' ho hT hz hk => ?_
    refine ⟨_, rfl, wpAny_letOwnedTupleGo_items (s := { s with heap := h' }) ho fun h'' he' sb => ?_⟩
    have hT2 : h''.get? s.heap.objs.size = some { cls := .type "tuple", data := .seq #[es'[i].key, es'[i].val] } := (sb.2 _ (Nat.ne_of_gt hlt)).trans hT
    rw [een, hkey] at hT2
    have new : ObjOk X.prog X.w (upd H s.heap.objs.size (.tup [.ref q, v])) h'' s.heap.objs.size (.tup [.ref q, v]) :=
      ⟨by show 2 ≤ sizeLine; decide, [.ref q, en.val], .cons rfl (.cons hval .nil), ⟨_, hT2, rfl, _, rfl⟩⟩
    have I1 : Inv X pins σ (upd H s.heap.objs.size (.tup [.ref q, v])) { s with heap := h'' } :=
      I.turnedNew (t' := s.toks) (ch := [it]) (fun b ob hb e => (sb.2 b (by simpa using hb)).trans (hk b ob (by simpa using hb) e)) hf (Nat.le_refl _) new
    refine ⟨.ref s.heap.objs.size, _, I1, rfl, ⟨_, k, v, q, hkv, rfl, I.hok.fresh (Nat.le_refl _), hq, rfl⟩, ⟨es'[i].key, es'[i].val, ?_⟩, fun b hb => ?_⟩
    · rw [← hsz]; exact he'
    · have e : b = it := by simpa using hb
      rw [e, upd_ne (Nat.ne_of_lt hlt)]
      exact (hf it (by simp)).1
  done := by
    intro X hP hw hK hc i pins s σ H E I hf st hg
    subst hP hw hK
    obtain ⟨hd, hi⟩ := hg
    obtain ⟨f0, f1, f2, f3, f4, f5⟩ := hf it (by simp)
    obtain ⟨hs, hgd, hx, es', ep', hdt, hsz, _⟩ := frzT' I hd
    obtain ⟨rfl, rfl⟩ := dict_ep hod hdt
    obtain ⟨ok, ov, he⟩ := st
    rw [← hsz] at he
    exact DT.endI (I.ok.hd hc) he ⟨o, hgd, hx, hdt⟩ (by omega) fun h' eb => ⟨rfl, I.turned (t' := s.toks) (fun b ob hb e => eb b ob hb e) f0 f1 f3 f4 f5⟩
  self := fun A i s Q E st h => let ⟨_, _, e⟩ := st; PySem.W.kcp_self e h
/-- the dict is locked -/
def iItemsT (td : TE) : TI := fun σ H R => td σ H fun x H1 => ∃ d o kvs, x = .ref d ∧ H1 d = some (.frz o (.dT kvs)) ∧ R (Itit d o kvs) H1
theorem pi_itemsT {X : Cx} {e : Expr} {td : TE} {apos cpos : Pos} {elts : List Expr} {kk : Nat} {tpos : Pos} (he : PE X e td) (hbase : attributeBase e "items" X.env (eval e X.env) = eval e X.env := by rfl) (hline : (apos.endLine == cpos.line) = true := by rfl) :
    PI X (.Tuple elts kk tpos) (.Call (.Attribute e "items" apos) [] [] cpos) (iItemsT td) := by
  refine ⟨fun pins s σ H R I h => ?_⟩
  refine wpAny_Call_method (T := "dict") (id := "dict.items") hbase rfl hline PySem.F.plainAttrs_dict PySem.F.slot_dict_items PySem.F.type_dict_items (thn (he.run pins s σ H _ I h) fun u s1 ⟨x, H1, I1, rx, d, o, kvs, ex, hd, q⟩ => ?_)
  subst ex
  obtain rfl : u = Value.ref d := rx
  obtain ⟨hs, hgd, hx, es, ep, hdt, hsz, _⟩ := frzT' I1 hd
  have hm : DT.Raw s1.heap d es ep := ⟨o, hgd, hx, hdt⟩
  refine ⟨hm.typeIs, fun b eb => ?_, ?_⟩
  · cases eb; exact ⟨o, hgd, hx.2.1⟩
  have I2 : Inv X pins σ H1 { s1 with heap := s1.heap.push { cls := .type "dict_items", data := .fields #[.ref d] } } := I1.kept (t' := s1.toks) fun b ob q => Heap.get?_push_of_some _ q
  have fin : wpAny (model X.prog X.w) X.A (pyIter (.ref s1.heap.objs.size)) (PIE X pins σ (.Tuple elts kk tpos) R) X.xe { s1 with heap := s1.heap.push { cls := .type "dict_items", data := .fields #[.ref d] } } := by
    refine DT.iterI (d := d) ⟨_, Heap.get?_push_size _ rfl, rfl, rfl⟩ (hm.push _) (pi_one (tk := s1.toks) I2 _ (turn_itemsT _ hdt) ⟨.none, .none, ?_⟩ q)
    rw [← hsz]
    exact Heap.get?_push_size _ rfl
  show wpAny _ _ (callWith cpos (.builtin "dict.items") [.ref d] [] []) _ X.xe s1
  exact method_meetsIn PySem.F.slot_dict_items PySem.F.entry_dict_items rfl (PySem.evalArgs_none ⟨rfl, hm.typeIs, PySem.F.args_dict_items_1 _, _, DT.meetsItems (es := es) (ep := ep) hs, hm, fin⟩)
end CT

/-! CtW3: for a, b in d.items(): d is locked meanwhile, and its name is not read on -/
namespace CT
open PySem PySem.Spec PyProof.Rows L2
section
variable {K : PySem.W.Frag} {F F2 H0 H H2 : Hp}
/-- what data says stays where lists, tuples and kept exceptions stay -/
structure Stays (K : PySem.W.Frag) (F H F2 H2 : Hp) : Prop where
  fl : ∀ a xs, F a = some (.lst xs) → F2 a = some (.lst xs)
  fs : ∀ a xs, SqL K F a xs → SqL K F2 a xs
  ht : ∀ a xs, H a = some (.tup xs) → H2 a = some (.tup xs)
  hl : ∀ a xs, H a = some (.lst xs) → H2 a = some (.lst xs)
  hd : ∀ a xs, H a = some (.dT xs) → True
  hx : ∀ a c, H a = some (KxO c a) → H2 a = some (KxO c a)
mutual
theorem Rp.stays (t : Stays K F H F2 H2) : ∀ (d : D) (v : V), Rp K F H0 H d v → Rp K F2 H0 H2 d v
  | .non, _, h => by cases h; exact .non
  | .bl _, _, h => by cases h; exact .bl _
  | .int _, _, h => by cases h; exact .int _
  | .str _, _, h => by cases h; exact .str _
  | .unk, _, h => by cases h; exact .unk
  | .ex _, _, h => by
    cases h with
    | ex a => exact .ex (t.hx _ _ a)
  | .dct _ _ _, _, h => by cases h; exact .dct
  | .tup ds, _, h => by
    cases h with
    | tup a b => exact .tup (t.ht _ _ a) (RpL.stays t ds _ b)
  | .lst true ds, _, h => by
    cases h with
    | tmF a b => exact .tmF (t.fl _ _ a) (RpL.stays t ds _ b)
    | tmN a b c => exact .tmN a (t.hl _ _ b) (RpL.stays t ds _ c)
  | .lst false ds, _, h => by
    cases h with
    | lst a b => exact .lst (t.fl _ _ a) (RpL.stays t ds _ b)
  | .fr ds, _, h => by
    cases h with
    | fr a b => exact .fr (t.fs _ _ a) (RpL.stays t ds _ b)
theorem RpL.stays (t : Stays K F H F2 H2) : ∀ (ds : List D) (vs : List V), RpL K F H0 H ds vs → RpL K F2 H0 H2 ds vs
  | [], _, h => by cases h; exact .nil
  | d :: ds, _, h => by
    cases h with
    | cons a b => exact .cons (Rp.stays t d _ a) (RpL.stays t ds _ b)
end
/-- objects that no data speaks of -/
def Odd (o : HO) : Prop := (∃ kvs, o = .dT kvs) ∨ ∃ od kvs, o = .frz od (.dT kvs)
theorem Odd.lst {o : HO} (h : Odd o) (xs : List V) : o ≠ .lst xs := by rcases h with ⟨_, rfl⟩ | ⟨_, _, rfl⟩ <;> intro z <;> cases z
theorem Odd.tup {o : HO} (h : Odd o) (xs : List V) : o ≠ .tup xs := by rcases h with ⟨_, rfl⟩ | ⟨_, _, rfl⟩ <;> intro z <;> cases z
theorem Odd.fl {o : HO} (h : Odd o) (od : Obj) (xs : List V) : o ≠ .frz od (.lst xs) := by rcases h with ⟨_, rfl⟩ | ⟨_, _, rfl⟩ <;> intro z <;> cases z
theorem Odd.kx {o : HO} (h : Odd o) (c : Value) (a : Addr) : o ≠ KxO c a := by rcases h with ⟨_, rfl⟩ | ⟨_, _, rfl⟩ <;> (unfold KxO; intro z; cases z)
theorem stays_at {d : Addr} {o1 o2 : HO} (s : Same F H) (h1 : H d = some o1) (od : Odd o1) (f : ∀ c, c ≠ d → F2 c = F c) : Stays K F H F2 (upd H d o2) where
  fl := fun a xs e => by rw [f a (fun z => by subst z; have := s _ _ e; rw [h1] at this; exact od.lst _ (Option.some.inj this))]; exact e
  fs := fun a xs e => by
    rcases e with (e | ⟨o, e⟩) | e
    · exact .inl (.inl (by rw [f a (fun z => by subst z; have := s _ _ e; rw [h1] at this; exact od.lst _ (Option.some.inj this))]; exact e))
    · exact .inl (.inr ⟨o, by rw [f a (fun z => by subst z; have := s _ _ e; rw [h1] at this; exact od.fl _ _ (Option.some.inj this))]; exact e⟩)
    · exact .inr e
  ht := fun a xs e => by rw [upd_ne (fun z => by subst z; rw [h1] at e; exact od.tup _ (Option.some.inj e))]; exact e
  hl := fun a xs e => by rw [upd_ne (fun z => by subst z; rw [h1] at e; exact od.lst _ (Option.some.inj e))]; exact e
  hd := fun _ _ _ => trivial
  hx := fun a c e => by rw [upd_ne (fun z => by subst z; rw [h1] at e; exact od.kx _ _ (Option.some.inj e))]; exact e
end
section
variable {K : PySem.W.Frag} {b : Bs} {F F2 H : Hp} {m : Sl} {σ : L2.St} {d : Addr} {o1 o2 : HO}
theorem Rel.swap (r : Rel K b F m σ H) (h1 : H d = some o1) (od : Odd o1) (h0 : b.H0 d = none) (f0 : b.F0 d = none) (f : ∀ c, c ≠ d → F2 c = F c) (f2 : F2 d = none ∨ F2 d = some o2)
    (far : ∀ (j : Nat) (e : D) (v : V), m[j]? = some (some e) → σ[j]? = some (some v) → Owns H e v d → False) : Rel K b F2 m σ (upd H d o2) := by
  have t := stays_at (K := K) (o2 := o2) r.sub h1 od f
  have back : ∀ (j : Nat) (e : D) (v : V) (a : Addr), m[j]? = some (some e) → σ[j]? = some (some v) → Owns (upd H d o2) e v a → Owns H e v a := fun j e v a q1 q2 o => by
    obtain ⟨w, k1, k2⟩ := r.slot j e q1
    rw [q2] at k1; cases k1
    rcases o with o | o | ⟨L, tt, vs, k, ds, rfl, rfl, p1, p2, p3⟩
    · exact .inl o
    · exact .inr (.inl o)
    · rcases k2 with ⟨ds', a', xs, z, _⟩ | ⟨z, _⟩ | ⟨L', k', ds', t', vs', a', xs, z, p⟩ | ⟨_, _, _, _, _, z, _⟩
      · cases z
      · have := hasTL_get (by simpa only [hasT] using z) p2
        simp [hasT] at this
      · cases z; cases p.v
        have q := t.ht _ _ p.t
        rw [q] at p1; cases p1
        exact .inr (.inr ⟨L, _, _, k, ds, rfl, rfl, p.t, p2, p3⟩)
      · cases z
  refine ⟨r.len, ⟨fun c o e => ?_, fun c o e => ?_, fun c o e => ?_, fun c o e => ?_⟩, fun j e q => ?_, fun p q x y v w c e1 e2 e3 e4 o1' o2' => r.apart p q x y v w c e1 e2 e3 e4 (back _ _ _ _ e1 e3 o1') (back _ _ _ _ e2 e4 o2')⟩
  · rw [upd_ne (fun z => by subst z; rw [h0] at e; cases e)]; exact r.grow.same _ _ e
  · rw [f c (fun z => by subst z; rw [f0] at e; cases e)]; exact r.grow.sub _ _ e
  · by_cases hc : c = d
    · subst hc
      rcases f2 with f2 | f2
      · rw [f2] at e; cases e
      · rw [upd_same, ← f2]; exact e
    · rw [f c hc] at e; rw [upd_ne hc]; exact r.sub _ _ e
  · by_cases hc : c = d
    · subst hc; exact .inr h0
    · rw [f c hc] at e; exact r.grow.new _ _ e
  · obtain ⟨v, k1, k2⟩ := r.slot j e q
    refine ⟨v, k1, ?_⟩
    rcases k2 with ⟨ds, a, xs, rfl, rfl, p1, p2, p3, p4, p5⟩ | ⟨z, z'⟩ | ⟨L, k, ds, t', vs, a, xs, rfl, p⟩ | ⟨qq, ks, ds, a, kvs, rfl, p⟩
    · have hc : a ≠ d := fun z => far j _ _ q k1 (.inl ⟨ds, rfl, by rw [z]⟩)
      exact .inl ⟨ds, a, xs, rfl, rfl, t.hl _ _ p1, by rw [f a hc]; exact p2, p3, RpL.stays t _ _ p4, p5⟩
    · exact .inr (.inl ⟨z, Rp.stays t _ _ z'⟩)
    · have hc : a ≠ d := fun z => far j _ _ q k1 (.inr (.inr ⟨L, t', vs, k, ds, rfl, p.v, p.t, p.l, by rw [← z]; exact p.w⟩))
      exact .inr (.inr (.inl ⟨L, k, ds, t', vs, a, xs, rfl, p.v, t.ht _ _ p.t, p.l, p.w, p.n, RpL.stays t _ _ p.r, t.hl _ _ p.al, by rw [f a hc]; exact p.fa, p.ha, RpL.stays t _ _ p.x, p.nx⟩))
    · have hc : a ≠ d := fun z => far j _ _ q k1 (.inr (.inl ⟨qq, ks, ds, rfl, by rw [← z]; exact p.v⟩))
      exact .inr (.inr (.inr ⟨qq, ks, ds, a, kvs, rfl, p.v, p.o, by rw [upd_ne hc]; exact p.al, by rw [f a hc]; exact p.fa, p.ha, p.k, RpL.stays t _ _ p.x, p.nx⟩))
theorem Owns.fa {H0 : Hp} {e : D} {v : V} {a : Addr} (s : SlotOk K F H0 H e v) (o : Owns H e v a) : F a = none := by
  rcases o with ⟨es, rfl, rfl⟩ | ⟨qq, ks, ds, rfl, rfl⟩ | ⟨L, t, vs, k, ds, rfl, rfl, h1, h2, h3⟩
  · obtain ⟨a', xs, e, _, q, _⟩ := s.mut; cases e; exact q
  · obtain ⟨a', kvs, p⟩ := s.dct; have := p.v; cases this; exact p.fa
  · rcases s with ⟨ds', a', xs, z, _⟩ | ⟨z, _⟩ | ⟨L', k', ds', t', vs', a', xs, z, p⟩ | ⟨_, _, _, _, _, z, _⟩
    · cases z
    · have := hasTL_get (by simpa only [hasT] using z) h2
      simp [hasT] at this
    · cases z; cases p.v
      rw [p.t] at h1; cases h1
      cases p.same h2
      rw [p.w] at h3; cases h3
      exact p.fa
    · cases z
end
def dPairs : List (List Int) → List D → List D
  | k :: ks, d :: ds => .tup [.tup (k.map .int), d] :: dPairs ks ds
  | _, _ => []
theorem dPairs_get : ∀ {ks : List (List Int)} {ds : List D} {i : Nat} {k : List Int} {d : D}, ks[i]? = some k → ds[i]? = some d → (dPairs ks ds)[i]? = some (.tup [.tup (k.map .int), d])
  | k :: ks, d :: ds, 0, _, _, h, h' => by simp at h h'; subst h h'; rfl
  | k :: ks, d :: ds, i + 1, _, _, h, h' => by simp only [dPairs, List.getElem?_cons_succ] at h h' ⊢; exact dPairs_get h h'
  | [], _, _, _, _, h, _ => by simp at h
  | _ :: _, [], _, _, _, _, h => by simp at h
theorem dPairs_len : ∀ {ks : List (List Int)} {ds : List D}, ks.length = ds.length → (dPairs ks ds).length = ks.length
  | [], [], _ => rfl
  | k :: ks, d :: ds, h => by simp only [dPairs, List.length_cons] at h ⊢; rw [dPairs_len (by omega)]
  | [], _ :: _, h => by simp at h
  | _ :: _, [], h => by simp at h
theorem wk_items {K : PySem.W.Frag} {F H0 H : Hp} {a : Addr} {od : Obj} {kvs : List (List Key × V)} {ks : List (List Int)} {ds : List D} (hd : H a = some (.frz od (.dT kvs))) (hk : kvs.map (·.1) = ks.map (·.map Sum.inl)) (hx : RpL K F H0 H ds (kvs.map (·.2))) (n : hasTL ds = false) :
    Wk K H0 true (Itit a od kvs) F H (dPairs ks ds) := by
  have l1 : kvs.length = ks.length := by simpa using congrArg List.length hk
  have l2 : ds.length = kvs.length := by simpa using hx.length
  have l3 := dPairs_len (ks := ks) (ds := ds) (by omega)
  refine ⟨fun i F' H' l hi => ⟨l.2.2.1 _ _ hd trivial, by omega⟩, fun i F' H' x H'' l hi y => ?_, fun F' H' l => ⟨l.2.2.1 _ _ hd trivial, by omega⟩⟩
  obtain ⟨T, k, v, q, e1, rfl, hT, hq, rfl⟩ := y
  have ek : (ks.map (·.map (Sum.inl : Int → Key)))[i]? = some k := by rw [← hk, List.getElem?_map, e1]; rfl
  rw [List.getElem?_map] at ek
  obtain ⟨k', hk', rfl⟩ : ∃ k', ks[i]? = some k' ∧ k'.map Sum.inl = k := by
    cases z : ks[i]? with
    | none => rw [z] at ek; cases ek
    | some k' => rw [z] at ek; exact ⟨k', rfl, Option.some.inj ek⟩
  have hl : i < ds.length := by omega
  have G := Grow.still (o := .tup [.ref q, v]) l.2.1 hT
  obtain ⟨w, k1, k2⟩ := hx.get (i := i) (d := ds[i]) (by simp [hl])
  rw [List.getElem?_map, e1] at k1
  cases k1
  have k3 : Rp K F' H0 H' ds[i] v := (Rp.keep l.2.2.1 _ _ (hasTL_get (i := i) n (by simp [hl])) k2).mono l.1 (Same.refl _)
  refine ⟨_, .tup [.tup (k'.map .int), ds[i]], G, dPairs_get hk' (by simp [hl]), .tup upd_same (.cons ?_ (.cons (k3.grow G) .nil))⟩
  refine .tup (G.same _ _ hq) ?_
  rw [List.map_map]
  exact ints_rp' k'
where
  ints_rp' {K : PySem.W.Frag} {F H0 H : Hp} : ∀ ns : List Int, RpL K F H0 H (ns.map D.int) (ns.map (kV ∘ Sum.inl))
    | [] => .nil
    | n :: ns => .cons (.int n) (ints_rp' ns)
def noRet : RS → RS
  | .nx m => .nx m
  | .exc c m => .exc c m
  | _ => .stuck
def sItemsD (i : Nat) (g : SemG) (k : SemS) : SemS := fun m => dctAt i m fun q ks ds => if q.l = true then .stuck else noRet (forGo g k (dPairs ks ds) (m.set i none))
section
variable {X : Cx} {b : Bs} {W : WX} {e tg : Expr} {body : List Stmt} {h : SemA} {g : SemG} {k : SemS} {t : TG} {vs : List Nat} {pos apos cpos tpos : Pos} {tst : SemT} {i : Nat} {elts : List Expr} {kk : Nat}
theorem for_core {F F1 H1 : Hp} {m : Sl} {σ : L2.St} {D' : Ends} {ds : List D} {J : It} (hn : NGok X.K t g vs) (R : Rel X.K b F1 m σ H1) (p : Sst X.K b W F1 H1 D' (forGo g k ds m)) (wk : Wk X.K b.H0 true J F1 H1 ds) :
    ∃ W' : Nat → Nat → L2.St → Hp → Prop, (∃ m, W' 0 m σ H1) ∧ ∀ i m σ H, W' i m σ H →
      (J.stop i H ∧ D'.nx σ H) ∨ (J.go i H ∧ ∃ N : L2.St → Hp → Prop, (∀ σ' H', N σ' H' → ∃ m', m' < m ∧ W' (i + 1) m' σ' H') ∧ ∀ x H', J.yld i H x H' → t x σ H' fun σ2 H2 => tSS X.K b W k { D' with nx := N, ct := N, bk := D'.nx } σ2 H2) := by
  refine ⟨fun i n σ' H' => n = ds.length - i ∧ i ≤ ds.length ∧ ∃ F' m', Rel X.K b F' m' σ' H' ∧ Prog F1 H1 F' H' ∧ Sst X.K b W F' H' D' (forGo g k (ds.drop i) m'), ⟨_, rfl, Nat.zero_le _, F1, m, R, Prog.refl _ _, by rw [List.drop_zero]; exact p⟩, ?_⟩
  rintro i n σ' H' ⟨rfl, hi, F', m', R', P', p'⟩
  have l : Ltr true F1 H1 F' H' := ⟨P'.sub, R'.sub, P'.tups, fun z => by cases z⟩
  by_cases hlt : i < ds.length
  · refine .inr ⟨wk.go i F' H' l hlt, fun σ2 H2 => (ds.length - (i + 1) = ds.length - (i + 1) ∧ i + 1 ≤ ds.length ∧ ∃ F2 m2, Rel X.K b F2 m2 σ2 H2 ∧ Prog F1 H1 F2 H2 ∧ Sst X.K b W F2 H2 D' (forGo g k (ds.drop (i + 1)) m2)), fun σ2 H2 z => ⟨_, by omega, z⟩, fun x H2 y => ?_⟩
    obtain ⟨F2, d, G2, e2, r2⟩ := wk.yld i F' H' x H2 l hlt y
    have hd : ds.drop i = d :: ds.drop (i + 1) := by
      obtain ⟨h1, h2⟩ := List.getElem?_eq_some_iff.mp e2
      rw [← h2]
      exact List.drop_eq_getElem_cons h1
    rw [hd] at p'
    simp only [forGo] at p'
    cases hgd : g d m' with
    | stuck => rw [hgd] at p'; exact p'.elim
    | exc c => rw [hgd] at p'; exact p'.elim
    | ok m1 =>
      rw [hgd] at p'
      simp only at p'
      have R2 := R'.step G2
      refine hn b F2 m' σ' H2 d x m1 _ R2 r2 hgd fun σ3 R3 _ => ⟨F2, m1, R3, ?_⟩
      have P2 : Prog F1 H1 F2 H2 := P'.trans G2.prog
      have p2 := Sst.prog G2.prog p'
      cases hk : k m1 with
      | nx m2 => rw [hk] at p2; exact fun σ4 F4 H4 R4 q => ⟨rfl, hlt, F4, m2, R4, P2.trans q, Sst.prog q p2⟩
      | ct m2 => rw [hk] at p2; exact fun σ4 F4 H4 R4 q => ⟨rfl, hlt, F4, m2, R4, P2.trans q, Sst.prog q p2⟩
      | bk m2 => rw [hk] at p2; exact p2
      | rt d => rw [hk] at p2; exact p2
      | exc c m2 => rw [hk] at p2; exact p2
      | stuck => rw [hk] at p2; exact p2.elim
  · have e : i = ds.length := by omega
    subst e
    rw [List.drop_length] at p'
    exact .inl ⟨wk.stop F' H' l, p' σ' F' H' R' (Prog.refl _ _)⟩
theorem ss_itemsD (hp : PassesOwn (model X.prog X.w) X.A X.env X.xe) (hc : X.calm = true) (ho : PE X e (tVar i)) (hg : PG X (.Tuple elts kk tpos) t) (hn : NGok X.K t g vs) (hb : SSs X b W body k)
    (hbase : attributeBase e "items" X.env (eval e X.env) = eval e X.env := by rfl) (hline : (apos.endLine == cpos.line) = true := by rfl) (hs : ∀ x, foldedSetIterable (.Call (.Attribute e "items" apos) [] [] cpos) X.env x = pure x := by intro _; rfl) :
    SS X b W (.For (.Tuple elts kk tpos) (.Call (.Attribute e "items" apos) [] [] cpos) body [] pos) (sItemsD i g k) := by
  refine PS.weak (ps_lock (ps_for hp hc (pi_itemsT (apos := apos) (cpos := cpos) ho hbase hline) hg hb hs)) fun D' σ H ⟨F, m, R, p⟩ => ?_
  unfold sItemsD dctAt at p
  split at p
  · rename_i qt ks ds hm
    simp only at p
    split at p
    · exact p.elim
    rename_i hql
    obtain ⟨a, kvs, hσ, P⟩ := dct_slot R hm
    have pal := P.un (by simpa using hql)
    refine ⟨a, .dT kvs, pal, trivial, fun od => ?_⟩
    have f0 : b.F0 a = none := by
      cases z : b.F0 a with
      | none => rfl
      | some o => have := R.grow.sub _ _ z; rw [P.fa] at this; cases this
    have far : ∀ (j : Nat) (x : D) (v : V), (m.set i none)[j]? = some (some x) → σ[j]? = some (some v) → Owns H x v a → False := fun j x v q1 q2 o => by
      by_cases c : j = i
      · subst c
        rw [List.getElem?_set_self'] at q1
        cases z : m[j]? <;> rw [z] at q1 <;> simp at q1
      · rw [List.getElem?_set_ne (fun z => c z.symm)] at q1
        exact c (R.apart j i _ _ _ _ a q1 hm q2 hσ o (.inr (.inl ⟨_, _, _, rfl, rfl⟩)))
    have R1 : Rel X.K b (upd F a (.frz od (.dT kvs))) (m.set i none) σ (upd H a (.frz od (.dT kvs))) := (R.forget i).swap pal (.inl ⟨kvs, rfl⟩) P.ha f0 (fun _ h => upd_ne h) (.inr upd_same) far
    have sF : Same F (upd F a (.frz od (.dT kvs))) := same_upd P.fa
    have hH1 : (upd H a (.frz od (.dT kvs))) a = some (.frz od (.dT kvs)) := upd_same
    have x1 : RpL X.K (upd F a (.frz od (.dT kvs))) b.H0 (upd H a (.frz od (.dT kvs))) ds (kvs.map (·.2)) := RpL.stays (stays_at R.sub pal (.inl ⟨kvs, rfl⟩) (fun _ h => upd_ne h)) _ _ P.x
    refine ⟨.ref a, hσ, a, od, kvs, rfl, hH1, ?_⟩
    refine for_core (F := upd F a (.frz od (.dT kvs))) hn R1 ?_ (wk_items hH1 P.k x1 P.nx)
    -- the ends
    have pr : ∀ {F' H' : Hp}, Prog (upd F a (.frz od (.dT kvs))) (upd H a (.frz od (.dT kvs))) F' H' → H' a = some (.frz od (.dT kvs)) := fun q => q.tups _ _ hH1 trivial
    have prg : ∀ {F' H' : Hp}, Prog (upd F a (.frz od (.dT kvs))) (upd H a (.frz od (.dT kvs))) F' H' → Prog F H F' H' := fun q => ⟨sF.trans q.sub, fun c o hc ho => q.tups c o (by rw [upd_ne (fun z => by subst z; rw [pal] at hc; cases hc; exact False.elim ho)]; exact hc) ho⟩
    cases hr : forGo g k (dPairs ks ds) (m.set i none) with
    | nx m' =>
      rw [hr] at p
      intro σ' F' H' R' q
      have hf := pr q
      refine ⟨hf, p σ' (fun c => if c = a then none else F' c) _ (R'.swap hf (.inr ⟨od, kvs, rfl⟩) P.ha f0 (fun c hc => by simp [hc]) (.inl (by simp)) fun j x v q1 q2 o => ?_) ⟨fun c o hc => ?_, fun c o hc ho => ?_⟩⟩
      · obtain ⟨w, k1, k2⟩ := R'.slot j x q1
        rw [q2] at k1; cases k1
        have z := o.fa k2
        rw [q.sub _ _ upd_same] at z; cases z
      · have hca : c ≠ a := fun z => by subst z; rw [P.fa] at hc; cases hc
        simp only [if_neg hca]
        exact q.sub _ _ (sF _ _ hc)
      · have hca : c ≠ a := fun z => by subst z; rw [pal] at hc; cases hc; exact False.elim ho
        rw [upd_ne hca]
        exact q.tups _ _ (by rw [upd_ne hca]; exact hc) ho
    | exc c m' =>
      rw [hr] at p
      exact fun σ' F' H' R' q => p σ' F' H' R' (prg q)
    | bk m' => rw [hr] at p; exact p.elim
    | ct m' => rw [hr] at p; exact p.elim
    | rt d => rw [hr] at p; exact p.elim
    | stuck => rw [hr] at p; exact p.elim
  · exact p.elim
/-- l.index(x) -/
def indexR (ys : List D) (x : D) : R D := if (SeqAt.shaped (.list (pyL ys)) && SeqAt.shaped (py x)) = true then (match ys.findIdx? fun z => eqvD z x with
    | some j => .ok (.int (j : Nat))
    | none => .stuck) else .stuck
def indexE (f g : SemE) : SemE := fun m => (f m).bind fun x => match x with
  | .lst _ ys => (g m).bind (indexR ys)
  | _ => .stuck
theorem se_index {o a : Expr} {f f' : SemE} (hu : X.A.units + 65 < cLine) (ho : SE X b W o f) (hf : SE X b W a f')
    (hbase : attributeBase o "index" X.env (eval o X.env) = eval o X.env := by rfl)
    (hfew : ((backTo cpos (starEach [a] X.env)).all (fun x => !x.1) && (backToKw cpos (keywordEach [] X.env)).all (fun x => x.1.isSome)
      && decide ([a].length + ([] : List Keyword).length + (if ([] : List Keyword).isEmpty then 0 else 1) < 30)) = true := by rfl)
    (hline : (apos.endLine == cpos.line) = true := by rfl) (hs : starEach [a] X.env = (false, eval a X.env) :: starEach [] X.env := by rfl) (hplain : (backTo cpos (starEach [] X.env)).any (·.1) = false := by rfl) :
    SE X b W (.Call (.Attribute o "index" apos) [a] [] cpos) (indexE f f') := by
  refine PE.weak (pe_bm PySem.F.plainAttrs_list PySem.F.slot_list_index PySem.F.type_list_index (mt_indexD hu) ho (pa_cons hf pa_nil hs) hbase hfew hline hs hplain) fun σ H Q ⟨F, m, R, p⟩ => ?_
  refine seq R p fun x F1 H1 v R1 G1 hv p1 => ?_
  cases x <;> first | exact p1.elim | skip
  · rename_i t ys
    obtain ⟨a', xs, rfl, k1, k2⟩ := hv.list R1.sub
    refine ⟨.inl ⟨rfl, xs, .inl (.inl k1)⟩, seq R1 p1 fun y F2 H2 u R2 G2 hu2 p2 => ?_⟩
    have hv2 := hv.grow G2
    simp only [indexR] at p2
    split at p2
    · rename_i c
      rw [Bool.and_eq_true] at c
      split at p2
      · rename_i j hj
        have d1 := Rp.dp R2.sub _ _ (by rw [okP]; exact okPL_sh c.1) hv2
        rw [py] at d1
        have hjl : j < ys.length := by
          have := List.findIdx?_eq_some_iff_getElem.mp hj
          exact this.1
        obtain ⟨_, h1, h2⟩ := List.findIdx?_eq_some_iff_getElem.mp hj
        refine ⟨a', u, _, _, j, py ys[j], rfl, rfl, d1, Rp.dp R2.sub _ _ (okP_sh c.2) hu2, c.1, c.2, by rw [pyL_map, List.getElem?_map, List.getElem?_eq_getElem hjl]; rfl, h1, fun n z hn hz => ?_, p2.here R2.sub _ (.int _)⟩
        rw [pyL_map, List.getElem?_map, List.getElem?_eq_getElem (by omega)] at hz
        cases hz
        have := h2 n hn
        simpa [eqvD] using this
      · exact p2.elim
    · exact p2.elim
end
end CT

/-! CtV1: an exception that is caught and kept -/
namespace CT
open PySem PySem.Spec PyProof.Rows L2
section
variable {X : Cx} {pins : List (Addr × Obj)} {σ : L2.St} {H : Hp} {s : Shared}
/-- an object of the heap that came since the entry is tracked from here on -/
theorem inv_track {a : Addr} {o : HO} {oe : Obj} (I : Inv X ((a, oe) :: pins) σ H s) (h0 : X.s_0.heap.get? a = none) (hp : ∀ p ∈ X.pn ++ pins, p.1 ≠ a) (new : s.heap.get? a = some oe → ObjOk X.prog X.w (upd H a o) s.heap a o) :
    Inv X pins σ (upd H a o) s := by
  obtain ⟨he, hn, hL, hF, hc⟩ := I.pin (a, oe) (List.mem_append_right _ List.mem_cons_self)
  have n0 : ∀ b u, X.s_0.heap.get? b = some u → b ≠ a := fun b u e z => by rw [z, h0] at e; cases e
  have nH : ∀ b u, H b = some u → b ≠ a := fun b u e z => by rw [z] at e; rw [show H a = none from hn] at e; cases e
  refine ⟨I.ok, I.os, I.bare, ⟨I.base.keep, I.base.slot, fun b u e n hx => ?_, I.base.there, fun b xs e => ?_, fun b ob u e => ?_, fun b ps e => ?_⟩, I.loc, I.cell, ?_, fun x c e => ?_, fun p hp' => ?_, fun b u e => ?_, I.len⟩
  · rw [upd_ne (n0 b u e)]; exact I.base.free b u e n hx
  · have q := I.base.tups b xs e; rw [upd_ne (nH b _ q)]; exact q
  · have q := I.base.frzs b ob u e; rw [upd_ne (nH b _ q)]; exact q
  · obtain ⟨m, q⟩ := I.base.tbls b ps e; exact ⟨m, by rw [upd_ne (nH b _ q)]; exact q⟩
  · rw [upd_ne (fun z => hL z.symm)]; exact I.free
  · obtain ⟨v, oc, ho, hd⟩ := I.cell x c e
    rw [upd_ne (fun z => by subst z; rw [show s.heap.get? c = some oe from he] at ho; cases ho; exact hc v hd)]
    exact I.freeC x c e
  · obtain ⟨e1, e2, e3, e4, e5⟩ := I.pin p (by
      rcases List.mem_append.mp hp' with z | z
      · exact List.mem_append_left _ z
      · exact List.mem_append_right _ (List.mem_cons_of_mem _ z))
    exact ⟨e1, by rw [upd_ne (hp p hp')]; exact e2, e3, e4, e5⟩
  · by_cases hb : b = a
    · subst hb
      rw [upd_same] at e; cases e
      exact new he
    · rw [upd_ne hb] at e
      exact (I.hok b u e).stay (fun c v _ q => q) (fun c q => by rw [upd_ne (nH c _ q)]; exact q) fun c xs q => by rw [upd_ne (nH c _ q)]; exact q
theorem inv_suite_pin {a : Addr} {q : Addr × Obj} {pn' : List (Addr × Obj)} (I : Inv (X.suite a (q :: (X.pn ++ pins))) pn' σ H s) (ok : X.Ok) : Inv X (q :: pins) σ H s :=
  ⟨ok, I.os, I.bare, I.base, I.loc, I.cell, I.free, I.freeC, fun p hp => I.pin p (List.mem_append_left _ (by
    rcases List.mem_append.mp hp with z | z
    · exact List.mem_cons_of_mem _ (List.mem_append_left _ z)
    · rcases List.mem_cons.mp z with e | z
      · rw [e]; exact List.mem_cons_self
      · exact List.mem_cons_of_mem _ (List.mem_append_right _ z))), I.hok, I.len⟩
end
/-- what the clause 'except x as n: m = n' wishes of an exception of the body: slot i is n's, slot j is m's -/
def wKeep (K : PySem.W.Frag) (c : Value) (i : Nat) (ts : TS) (Wout : WX) (D : Ends) : WX := fun cls d σ H =>
  ∃ b, PySem.W.exmOne K cls c = some b ∧ (b = true → d = none ∧ ∀ a, H a = none → ts { nx := fun σ' H' => D.nx (σ'.set i none) (upd H' a (KxO cls a)), rt := fun _ _ => False, bk := fun _ _ => False, ct := fun _ _ => False } (σ.set i (some (.ref a))) H) ∧
    (b = false → Wout cls d σ H)
section
variable {X : Cx} {x n : Str} {c : Value} {i : Nat} {body suite : List Stmt} {b₀ : Stmt} {np pos pos' : Pos} {tb : WX → TS} {ts : TS} {Wout : WX}
theorem ps_try_keep (hs : X.stack = X.env :: X.outer) (hf : X.env.frame = some X.env.locals) (hex : X.ex = []) (hN : X.N.Nodup) (hi : X.N[i]? = some n) (hln : X.env.kindOf n = some .local) (hc : Names X x c) (tk : Takes X Wout)
    (hb : ∀ (W : WX) (pn : List (Addr × Obj)) (xe : Value → Shared → Prop), Takes (X.tr pn xe) W → PassesOwn (model X.prog X.w) X.A X.env xe → PSs (X.tr pn xe) body (tb W))
    (hsu : ∀ (a : Addr) (pn : List (Addr × Obj)), PSs (X.suite a pn) (b₀ :: suite) ts) :
    PS X (.Try body [.ExceptHandler (some (.Name x np)) (some n) (b₀ :: suite) pos'] [] [] pos) (fun D σ H => tb (wKeep X.K c i ts Wout D) D σ H) := by
  refine ⟨fun pins s σ H D I h => ?_⟩
  have ok := I.ok
  have hfr : X.A.frames = some (X.env :: X.outer) := by rw [ok.frames, hs]
  refine wpAny_Try_except ?_
  refine wpAny_mono ((hb (wKeep X.K c i ts Wout D) (X.pn ++ pins) (fun e s₁ => wpAny (model X.prog X.w) X.A (noteFrame e X.env) (fun _ s₂ => wpAny (model X.prog X.w) X.A (setFlight e none) (fun _ s₃ =>
    wpAny (model X.prog X.w) X.A (handleBy e X.env [.ExceptHandler (some (.Name x np)) (some n) (b₀ :: suite) pos']) (L2.SP X pins D) X.xe s₃) X.xe s₂) X.xe s₁) (fun u s' xx => ?_) PassesOwn.looking).run [] s σ H D (I.toTry _) h) (fun f s1 hsp => ?_) (fun e s1 he => he)
  · -- caught
    obtain ⟨a, B, sI, pins', σ', H', cls, d, rfl, J', nb, up, sky, na, os, ag, b, hb1, hyes, hno⟩ := xx
    have J : Inv X pins σ' H' sI := J'.ofTry ok
    rw [hs] at sky
    show wpAny (model X.prog X.w) X.A (noteFrame (.ref a) X.env) _ _ _
    refine Sky.land Zc.steady hfr hf sky fun h3 fl3 up3 => ?_
    have J3 : Inv X pins σ' H' { s' with heap := h3 } := J.landed nb fl3.1 (up.trans up3) os ag
    obtain ⟨oe3, vs3, he3, hz3, hd3⟩ := fl3.there
    have nfr : a ∉ frs (X.env :: X.outer) := fun hm => by
      obtain ⟨_, o', e', hnf⟩ := fl3.2.2.1.mem hm
      rw [he3] at e'; cases e'
      exact hnf _ hd3
    have nL : a ≠ X.env.locals := fun z => nfr (List.mem_filterMap.mpr ⟨X.env, List.mem_cons_self, by rw [hf, z]⟩)
    have nF : a ∉ X.fs := fun hm => by
      obtain ⟨e, he, q⟩ := List.mem_filterMap.mp hm
      exact nfr (List.mem_filterMap.mpr ⟨e, List.mem_cons_of_mem _ he, q⟩)
    -- it wasn't there ahead
    have nI : sI.heap.get? a = none := by
      cases q : sI.heap.get? a with
      | none => rfl
      | some o =>
        have := nb a o q (by rw [hs]; exact nfr)
        rw [fl3.2.1] at this; cases this
    have n0 : X.s_0.heap.get? a = none := by
      cases q : X.s_0.heap.get? a with
      | none => rfl
      | some o =>
        obtain ⟨o', e⟩ := J.base.there a o q (by rw [hex]; exact fun z => nomatch z)
        rw [nI] at e; cases e
    have nP : ∀ p ∈ X.pn ++ pins, p.1 ≠ a := fun p hp z => by
      have := (J.pin p hp).1
      rw [z, nI] at this; cases this
    have S3 := J3.suite he3 hd3 na nL nF
    refine wpAny_handleBy_cons (codeAny_handlers_test ?_) (by intro q; cases q)
    have LT : PySem.W.Looks (model X.prog X.w) h3 (typeOf (.ref a)) cls := fun A Q E s k q => wpAny_typeOf_ref (k _ _ he3) (by rw [hz3.1]; exact q)
    have LM := PySem.W.exm_one (M := model X.prog X.w) (J3.kIn) LT hb1
    have test : ∀ {Q : Value → Shared → Prop} {E : Value → Shared → Prop}, Q c { s' with heap := h3 } → wpAny (model X.prog X.w) (X.A.mark (some (.ref a))) (eval (.Name x np) X.env) Q E { s' with heap := h3 } := fun {Q E} q => by
      obtain ⟨hg, hdbg, hm | ⟨hm, hv, hnn⟩⟩ := hc
      · exact ld_glob (X := X.suite a ((a, oe3) :: (X.pn ++ pins))) S3 hg hm q hdbg
      · exact ld_blt (X := X.suite a ((a, oe3) :: (X.pn ++ pins))) S3 hg hm hv q hnn hdbg
    refine test (LM.here ?_)
    cases b with
    | true =>
      obtain ⟨hdn, hyes⟩ := hyes rfl
      refine codeAny_handlers_suite_as ?_
      refine HandSPX.lands_againZ fl3 fun h4 fl4 up4 => ?_
      have J4 : Inv X pins σ' H' { s' with heap := h4 } := J.landed nb fl4.1 ((up.trans up3).trans up4) os ag
      obtain ⟨oe4, vs4, he4, hz4, hd4⟩ := fl4.there
      have S4 := J4.suite he4 hd4 na nL nF
      refine store_ok (X := X.suite a ((a, oe4) :: (X.pn ++ pins))) (v := .ref a) S4 hN hi (.inl hln) rfl (fun s5 S5 => ?_) (.inr hln)
      refine wpAny_mono ((hsu a _).run [] s5 _ H' _ S5 (hyes a na)) (fun f s6 hsp => ?_) (fun _ _ z => False.elim z)
      rcases f with _ | _ | _ | u
      · obtain ⟨σ6, H6, S6, q6⟩ := hsp
        show wpAny (model X.prog X.w) X.A (do bindName X.env n .none; unbindBehindTheSuite X.env n pos') _ X.xe s6
        refine gone_ok (inv_suite_pin S6 ok) hN hi hln fun s7 J7 => ⟨_, _, inv_track J7 n0 nP fun he7 => ?_, q6⟩
        exact ⟨⟨oe4, vs4, he7, by rw [← hdn]; exact hz4, hd4⟩, ⟨oe4, he7⟩, fun h1 h2 ⟨o, v, q, r⟩ k => ⟨o, v, k o q, r⟩⟩
      · obtain ⟨_, _, _, q6⟩ := hsp; exact q6.elim
      · obtain ⟨_, _, _, q6⟩ := hsp; exact q6.elim
      · obtain ⟨_, _, _, _, _, q6⟩ := hsp; exact q6.elim
    | false =>
      show wpAny _ X.A (handleBy (.ref a) X.env []) _ _ _
      refine wpAny_handleBy_nil ?_
      obtain ⟨k1, k2, k3, oe, vs, T, oT, ts', he, hz, hd, h1, hr⟩ := id fl3
      unfold PySem.passOn
      refine wpAny_bind (wpAny_field he hd h1 ?_)
      rw [if_neg (show ¬ ((Value.ref T == Value.none) = true) from by simp)]
      have fin : wpAny (model X.prog X.w) X.A (setFlight (.ref a) X.env.frame) (fun _ s4 => wpAny (model X.prog X.w) X.A (throw (.ref a) : Sem Flow) (L2.SP X pins D) X.xe s4) X.xe { s' with heap := h3 } := by
        rw [hf]
        refine HandSPX.setFlight_upZ fl3 fun h4 hh4 up4 => wpAny_throw (tk _ _ ?_)
        exact ⟨a, B, sI, pins, σ', H', cls, d, rfl, J, nb, (up.trans up3).trans up4, .inr (.inr (by rw [hs]; exact hh4)), na, os, ag, hno rfl⟩
      first
        | exact wpAny_bind (wpAny_pure (wpAny_bind fin))
        | exact wpAny_bind fin
  · rcases f with _ | _ | _ | u
    · obtain ⟨σ', H', J', q⟩ := hsp; exact wpAny_execs_nil ⟨σ', H', J'.ofTry ok, q⟩
    · obtain ⟨σ', H', J', q⟩ := hsp; exact ⟨σ', H', J'.ofTry ok, q⟩
    · obtain ⟨σ', H', J', q⟩ := hsp; exact ⟨σ', H', J'.ofTry ok, q⟩
    · obtain ⟨v, σ', H', J', r, q⟩ := hsp; exact ⟨v, σ', H', J'.ofTry ok, r, q⟩
end
end CT

/-! CtV2: try .. except T as n: y = n -/
namespace CT
open PySem PySem.Spec PyProof.Rows L2
def keepC (known : List String) (i j : Nat) (c : String) (m : Sl) : RS := if (known.contains c && decide (i < m.length)) = true then .nx ((m.set i none).set j (some (.ex c))) else .stuck
def sTryK (known : List String) (i j : Nat) (g : SemS) : SemS := fun m => match g m with
  | .exc c m1 => keepC known i j c m1
  | r => r
section
variable {X : Cx} {b : Bs} {W : WX} {body : List Stmt} {g : SemS} {T n y : Str} {np py pn pa pos pos' : Pos} {i j : Nat} {C : Addr} {known : List String}
theorem ss_tryK (hN : X.N.Nodup) (hi : X.N[i]? = some n) (hj : X.N[j]? = some y) (hij : i ≠ j) (hT : Names X T (.ref C)) (tk : Takes X W) (hk : ∀ c ∈ known, PySem.W.exmOne X.K (b.ex c) (.ref C) = some true ∧ b.ex c = exK X.K c)
    (hb : ∀ (W' : WX) (pn : List (Addr × Obj)) (xe : Value → Shared → Prop), Takes (X.tr pn xe) W' → PassesOwn (model X.prog X.w) X.A X.env xe → SSs (X.tr pn xe) b W' body g)
    (hy : Loc X.env.scope y) (hv : Vis X.env.scope n) (hs : X.stack = X.env :: X.outer := by rfl) (hf : X.env.frame = some X.env.locals := by rfl) (hex : X.ex = [] := by rfl) (hln : X.env.kindOf n = some .local := by rfl)
    (hfn : X.fn y = true ∨ X.env.scope.names.lookup y = some .local := by first | exact .inl rfl | exact .inr rfl) (hdb : (n == ("__debug__" : Str)) = false := by decide)
    (hsw : swapsWithSole [.Name y py] (.Name n pn) pa.line X.env = pure false := by rfl) (hw : swappedStores [.Name y py] (.Name n pn) X.env = pure none := by rfl) (hcd : (n == ("__classdict__" : Str)) = false := by decide) :
    SS X b W (.Try body [.ExceptHandler (some (.Name T np)) (some n) [.Assign [.Name y py] (.Name n pn) pa] pos'] [] [] pos) (sTryK known i j g) := by
  refine PS.weak (ps_try_keep hs hf hex hN hi hln hT tk (tb := fun W' => tSS X.K b W' g) hb (fun a pl => pss_one (ps_asg (X := X.suite a pl) (pe_var (X := X.suite a pl) hi hv hdb hcd) (pg_name (X := X.suite a pl) hN hj hy hfn) hsw hw))) fun D' σ H ⟨F, m, R, p⟩ => ?_
  refine ⟨F, m, R, ?_⟩
  unfold sTryK at p
  cases hg : g m with
  | nx m1 => rw [hg] at p; exact p
  | rt d => rw [hg] at p; exact p
  | bk m1 => rw [hg] at p; exact p
  | ct m1 => rw [hg] at p; exact p
  | stuck => rw [hg] at p; exact p
  | exc c m1 =>
    rw [hg] at p
    simp only [keepC] at p
    split at p
    · rename_i hc
      rw [Bool.and_eq_true, decide_eq_true_eq] at hc
      obtain ⟨k1, k2⟩ := hk c (by simpa using hc.1)
      intro σ' F' H' R' q
      refine ⟨true, k1, fun _ => ⟨rfl, fun a ha => ⟨.ref a, by rw [List.getElem?_set_self (by rw [← R'.len]; exact hc.2)], ?_⟩⟩, fun z => (nomatch z)⟩
      have G := Grow.loose (o := KxO (b.ex c) a) R'.sub ha
      have R1 := ((R'.step G).drop (i := i)).put (i := j) (d := .ex c) (v := .ref a) rfl (.ex (by rw [upd_same, k2]))
      have e : (((σ'.set i (some (.ref a))).set j (some (.ref a))).set i none) = (σ'.set i none).set j (some (.ref a)) := by
        rw [List.set_comm _ _ (Ne.symm hij), List.set_set]
      show D'.nx (((σ'.set i (some (.ref a))).set j (some (.ref a))).set i none) _
      rw [e]
      exact p _ F' _ R1 (q.trans G.prog)
    · exact p.elim
end
/-! ### isinstance of a kept exception -/
section
variable {X : Cx}
theorem kx_at {K : PySem.W.Frag} {D : Addr} (C : ExcC K D) {a : Addr} {o : Obj} : PySem.W.KitX K (.ref a) (.ref D) (fun h => PySem.W.InstAt h a o D none) := PySem.W.handS_kitx_exc C.hg C.hk C.hs C.hd C.ha C.hn C.ht C.hm
theorem kx_inst {H : Hp} {s : Shared} {pins : List (Addr × Obj)} {σ : L2.St} {a D : Addr} (I : Inv X pins σ H s) (h : H a = some (KxO (.ref D) a)) : ∃ o, PySem.W.InstAt s.heap a o D none := by
  obtain ⟨⟨oe, vs, h1, h2, h3⟩, _⟩ := I.hok a _ h
  obtain ⟨oc, od, oda, osl⟩ := oe
  obtain ⟨h4, h5⟩ := h2
  dsimp only at h3 h4 h5
  subst h3 h4 h5
  exact ⟨_, h1, rfl, rfl, trivial⟩
/-- one class, or a tuple of them -/
def rIsX (K : PySem.W.Frag) : List V → Hp → VK → Prop := fun xs H Q => ∃ (a D : Addr) (c : V) (u : Value) (b : Bool), xs = [.ref a, c] ∧ H a = some (KxO (.ref D) a) ∧ ExcC K D ∧ ClsV c u ∧ PySem.W.kitOne K (.ref D) u = some b ∧ Q (.bl b) H
theorem call_isX : CallR X (.builtin "isinstance") (rIsX X.K) := by
  intro pins s σ H xs us Q I r h
  obtain ⟨a, D, c, u, b, rfl, ha, C, k, e, q⟩ := h
  cases r with
  | cons r1 rt =>
    cases rt with
    | cons r2 rt =>
      cases rt
      cases r1
      have e2 := k.eq r2
      subst e2
      obtain ⟨o, J⟩ := kx_inst I ha
      exact PySem.W.kia_one (kx_at C) I.kIn J e (fun z => nomatch z) fun tk => ⟨.bl b, H, I.tok tk, rfl, q⟩
def rIsXT (K : PySem.W.Frag) : List V → Hp → VK → Prop := fun xs H Q => ∃ (a D tp : Addr) (cs : List V) (us : List Value) (b : Bool), xs = [.ref a, .ref tp] ∧ H a = some (KxO (.ref D) a) ∧ ExcC K D ∧ H tp = some (.tup cs) ∧ Paired ClsV cs us ∧ PySem.W.kitAny K (.ref D) us = some b ∧ Q (.bl b) H
theorem call_isXT : CallR X (.builtin "isinstance") (rIsXT X.K) := by
  intro pins s σ H xs us Q I r h
  obtain ⟨a, D, tp, cs, ws, b, rfl, ha, C, hT, k, e, q⟩ := h
  cases r with
  | cons r1 rt =>
    cases rt with
    | cons r2 rt =>
      cases rt
      cases r1
      cases r2
      obtain ⟨o, J⟩ := kx_inst I ha
      obtain ⟨_, its, rv, ot, h1, h2, n, h3⟩ := (show ObjOk X.prog X.w H s.heap tp (.tup cs) from I.hok tp _ hT)
      have e3 := ClsV.all k rv
      subst e3
      obtain ⟨oc, od, dt, sl⟩ := ot
      simp only at h2 h3
      subst h2 h3
      exact PySem.W.kia_tup (kx_at C) I.kIn J h1 e (fun z => nomatch z) fun tk => ⟨.bl b, H, I.tok tk, rfl, q⟩
end
/-- what stands written of the classes: this one's kept exceptions, asked for these classes -/
def KxT (K : PySem.W.Frag) (tbl : List (String × Bool)) (u : Value) : Prop := ∀ p ∈ tbl, ∃ D, exK K p.1 = .ref D ∧ ExcC K D ∧ PySem.W.kitOne K (.ref D) u = some p.2
def KxA (K : PySem.W.Frag) (tbl : List (String × Bool)) (us : List Value) : Prop := ∀ p ∈ tbl, ∃ D, exK K p.1 = .ref D ∧ ExcC K D ∧ PySem.W.kitAny K (.ref D) us = some p.2
theorem kx_nil {K : PySem.W.Frag} {u : Value} : KxT K [] u := fun _ h => nomatch h
theorem kx_cons {K : PySem.W.Frag} {u : Value} {c : String} {b : Bool} {r : List (String × Bool)} {D : Addr} (h : exK K c = .ref D ∧ ExcC K D) (k : PySem.W.kitOne K (.ref D) u = some b) (t : KxT K r u) : KxT K ((c, b) :: r) u := fun p hp => by
  rcases List.mem_cons.mp hp with e | e
  · subst e; exact ⟨D, h.1, h.2, k⟩
  · exact t p e
theorem ka_nil {K : PySem.W.Frag} {u : List Value} : KxA K [] u := fun _ h => nomatch h
theorem ka_cons {K : PySem.W.Frag} {u : List Value} {c : String} {b : Bool} {r : List (String × Bool)} {D : Addr} (h : exK K c = .ref D ∧ ExcC K D) (k : PySem.W.kitAny K (.ref D) u = some b) (t : KxA K r u) : KxA K ((c, b) :: r) u := fun p hp => by
  rcases List.mem_cons.mp hp with e | e
  · subst e; exact ⟨D, h.1, h.2, k⟩
  · exact t p e
def isxR (tbl : List (String × Bool)) : D → R D
  | .ex c => match tbl.lookup c with
    | some b => .ok (.bl b)
    | none => .stuck
  | _ => .stuck
theorem lookup_mem {tbl : List (String × Bool)} {c : String} {b : Bool} (h : tbl.lookup c = some b) : (c, b) ∈ tbl := by
  induction tbl with
  | nil => simp at h
  | cons p r ih =>
    obtain ⟨x, y⟩ := p
    rw [List.lookup_cons] at h
    split at h
    · rename_i e
      cases h
      rw [eq_of_beq e]; exact List.mem_cons_self
    · exact List.mem_cons_of_mem _ (ih h)
section
variable {X : Cx} {b : Bs} {W : WX} {a : Expr} {f : SemE} {x : Str} {p q pos tpos : Pos} {tbl : List (String × Bool)} {v : V} {u : Value} {es : List Expr} {ta : TA} {vs : List V} {us : List Value} {kk : Nat}
theorem se_isX (hg : Gl X "isinstance") (hm : X.mg "isinstance" = none) (hT : PE X (.Name x q) (tC v)) (hv : ClsV v u) (ht : KxT X.K tbl u) (hf : SE X b W a f)
    (he : starEach [a, .Name x q] X.env = (false, eval a X.env) :: starEach [.Name x q] X.env := by rfl) (hpl : (backTo pos (starEach [.Name x q] X.env)).any (·.1) = false := by rfl)
    (hs : starEach [.Name x q] X.env = (false, eval (.Name x q) X.env) :: starEach [] X.env := by rfl) : SE X b W (.Call (.Name "isinstance" p) [a, .Name x q] [] pos) (e1 (isxR tbl) f) := by
  refine PE.weak (pe_callB call_isX hg hm boot_isinstance (pa_cons hf (pa_cons hT pa_nil hs) he) (by decide) (by decide) he hpl) fun σ H Q ⟨F, m, R, p⟩ => ?_
  refine ⟨F, m, R, p.bind.imp fun y F1 H1 _ G z w hw => ?_⟩
  have s := (R.step G).sub
  cases y <;> first | exact z.elim | skip
  rename_i c
  simp only [isxR] at z
  split at z
  · rename_i bb hb
    obtain ⟨D, h1, h2, h3⟩ := ht _ (lookup_mem hb)
    cases hw with
    | ex hx =>
      rw [h1] at hx
      exact ⟨_, D, v, u, bb, rfl, hx, h2, hv, h3, z.here s _ (.bl _)⟩
  · exact z.elim
theorem se_isXT (hg : Gl X "isinstance") (hm : X.mg "isinstance" = none) (hA : PA X es ta) (hta : ∀ σ H Q, Q vs H → ta σ H Q) (hcl : Paired ClsV vs us) (hl : vs.length ≤ sizeLine) (ht : KxA X.K tbl us) (hf : SE X b W a f)
    (he : starEach [a, .Tuple es kk tpos] X.env = (false, eval a X.env) :: starEach [.Tuple es kk tpos] X.env := by rfl) (hpl : (backTo pos (starEach [.Tuple es kk tpos] X.env)).any (·.1) = false := by rfl)
    (hs : starEach [.Tuple es kk tpos] X.env = (false, eval (.Tuple es kk tpos) X.env) :: starEach [] X.env := by rfl) : SE X b W (.Call (.Name "isinstance" p) [a, .Tuple es kk tpos] [] pos) (e1 (isxR tbl) f) := by
  refine PE.weak (pe_callB call_isXT hg hm boot_isinstance (pa_cons hf (pa_cons (pe_tup hA) pa_nil hs) he) (by decide) (by decide) he hpl) fun σ H Q ⟨F, m, R, p⟩ => ?_
  refine ⟨F, m, R, p.bind.imp fun y F1 H1 _ G z w hw => ?_⟩
  have R1 := R.step G
  cases y <;> first | exact z.elim | skip
  rename_i c
  simp only [isxR] at z
  split at z
  · rename_i bb hb
    obtain ⟨D, h1, h2, h3⟩ := ht _ (lookup_mem hb)
    cases hw with
    | ex hx =>
      rw [h1] at hx
      refine hta _ _ _ ⟨hl, fun t ht' => ?_⟩
      have G2 := Grow.loose (o := .tup vs) R1.sub ht'
      exact ⟨_, D, t, vs, us, bb, rfl, G2.same _ _ hx, h2, upd_same, hcl, h3, z _ _ G2 _ (.bl _)⟩
  · exact z.elim
/-- ' '.join(words) -/
def joinD : D → D → R D
  | .str z, .lst _ ys => match strsOf ys with
    | some xs => if (xs.map (·.length)).sum + xs.length * z.length ≤ 16777216 then .ok (.str (Txt.join z xs)) else .stuck
    | none => .stuck
  | _, _ => .stuck
where strsOf : List D → Option (List Str)
    | [] => some []
    | .str x :: r => (strsOf r).map (x :: ·)
    | _ => none
def joinE (f g : SemE) : SemE := fun m => (f m).bind fun x => match x with
  | .str z => (g m).bind (joinD (.str z))
  | _ => .stuck
theorem strs_rp {K : PySem.W.Frag} {F H0 H : Hp} : ∀ {ds : List D} {l : List Str} {vs : List V}, joinD.strsOf ds = some l → RpL K F H0 H ds vs → vs = l.map V.str
  | [], l, _, h, .nil => by cases h; rfl
  | d :: ds, l, _, h, .cons r t => by
    cases d <;> first | (simp [joinD.strsOf] at h; done) | skip
    simp only [joinD.strsOf] at h
    cases q : joinD.strsOf ds with
    | none => rw [q] at h; cases h
    | some l' =>
      rw [q] at h; cases h
      cases r
      rw [strs_rp q t]; rfl
theorem se_join {o e : Expr} {g : SemE} {apos : Pos} (ho : SE X b W o f) (he : SE X b W e g) (hs : starEach [e] X.env = [(false, eval e X.env)] := by rfl) (hbase : attributeBase o "join" X.env (eval o X.env) = eval o X.env := by rfl) (hline : (apos.endLine == pos.line) = true := by rfl) :
    SE X b W (.Call (.Attribute o "join" apos) [e] [] pos) (joinE f g) := by
  refine PE.weak (pe_join ho he hs hbase hline) fun σ H Q ⟨F, m, R, p⟩ => ?_
  refine seq R p fun x F1 H1 v R1 G1 hv p1 => ?_
  cases x <;> first | exact p1.elim | skip
  rename_i z
  cases hv
  refine ⟨⟨z, rfl⟩, seq R1 p1 fun y F2 H2 u R2 G2 hu p2 => ?_⟩
  cases y <;> first | exact p2.elim | skip
  rename_i t ys
  simp only [joinD] at p2
  split at p2
  · rename_i xs hx
    split at p2
    · rename_i hl
      obtain ⟨a', us, rfl, k1, k2⟩ := hu.list R2.sub
      rw [strs_rp hx k2] at k1
      exact ⟨z, a', xs, rfl, rfl, .inl (.inl (.inl k1)), hl, p2.here R2.sub _ (.str _)⟩
    · exact p2.elim
  · exact p2.elim
end
theorem pe_cls {X : Cx} {x : Str} {C : Addr} {pos : Pos} (hg : Gl X x) (hm : X.mg x = some (.ref C)) (hd : (x == ("__debug__" : Str)) = false := by decide) : PE X (.Name x pos) (tC (.ref C)) := pe_glob hg hm rfl hd
/-! ### what is asked of the written part -/
theorem exK_of {K : PySem.W.Frag} {c : String} {v : Value} (h : PySem.W.nsIn K mainGlobals (Str.ofString c) = some (some v)) : exK K c = v := by unfold exK; rw [h]
theorem kit_ref {K : PySem.W.Frag} {D C : Addr} {b : Bool} (hd : PySem.W.hasDictIn K C = true) (ht : PySem.W.typeIn K (.ref C) = some (.type "type")) (hr : PySem.W.subIn K (.ref C) (.ref C) = some true) (h : PySem.W.subIn K (.ref D) (.ref C) = some b) : PySem.W.kitOne K (.ref D) (.ref C) = some b := by
  unfold PySem.W.kitOne
  by_cases e : D = C
  · subst e
    rw [hr] at h; cases h
    rw [if_pos (by simp)]
  · rw [if_neg (fun z => e (Value.ref.inj (eq_of_beq z)))]
    obtain ⟨cd, hc, _⟩ := PySem.W.any_some hd
    show (if ((PySem.W.clsIn K C).isSome && PySem.W.typeIn K (.ref C) == some (.type "type")) = true then PySem.W.subIn K (.ref D) (.ref C) else none) = some b
    rw [if_pos (by rw [hc, ht]; rfl)]
    exact h
theorem kit_bt {K : PySem.W.Frag} {D : Addr} {T : String} {b : Bool} (hm : PySem.W.kitMeta T = true) (h : PySem.W.subIn K (.ref D) (.type T) = some b) : PySem.W.kitOne K (.ref D) (.type T) = some b := by
  unfold PySem.W.kitOne
  rw [if_neg (by intro z; cases eq_of_beq z)]
  show (if PySem.W.kitMeta T = true then PySem.W.subIn K (.ref D) (.type T) else none) = some b
  rw [if_pos hm]; exact h
theorem w_mk {K : PySem.W.Frag} {mg : Str → Option Value} {c : String} {a : Addr} {u : Value} (hm : mg (Str.ofString c) = some (.ref a)) (hx : exK K c = .ref a) (h : PySem.W.exmOne K (.ref a) u = some true) : PySem.W.exmOne K (exOf mg c) u = some true ∧ exOf mg c = exK K c := by
  have e : exOf mg c = .ref a := by unfold exOf; rw [hm]; rfl
  rw [e, hx]; exact ⟨h, rfl⟩
theorem kn_nil {P : String → Prop} : ∀ c ∈ ([] : List String), P c := fun _ h => nomatch h
theorem kn_cons {P : String → Prop} {a : String} {r : List String} (h : P a) (t : ∀ c ∈ r, P c) : ∀ c ∈ a :: r, P c := fun c hc => by
  rcases List.mem_cons.mp hc with e | e
  · rw [e]; exact h
  · exact t c e
end CT

/-! CtBd: a dict walked by its keys; dicts that are lent to a def -/
namespace CT
open PySem PySem.Spec PyProof.Rows L2
theorem Owns.upd {H : Hp} {d a : Addr} {o2 : HO} {e : D} {v : V} (h : ∀ xs, o2 ≠ .tup xs) (o : Owns (L2.upd H d o2) e v a) : Owns H e v a := by
  rcases o with o | o | ⟨L, t, vs, k, ds, e1, e2, h1, h2, h3⟩
  · exact .inl o
  · exact .inr (.inl o)
  · refine .inr (.inr ⟨L, t, vs, k, ds, e1, e2, ?_, h2, h3⟩)
    by_cases c : t = d
    · subst c
      rw [upd_same] at h1
      exact absurd (Option.some.inj h1) (h _)
    · rw [upd_ne c] at h1; exact h1
/-- no dict that is locked -/
def unlD : D → Bool
  | .dct q _ _ => !q.l
  | _ => true
def unlS : Option D → Bool
  | some d => unlD d
  | none => true
theorem Owns.unl {K : PySem.W.Frag} {F H0 H : Hp} {e : D} {v : V} {a : Addr} {od : Obj} {kvs : List (List Key × V)} (s : SlotOk K F H0 H e v) (o : Owns H e v a) (h : H a = some (.frz od (.dT kvs))) (u : unlD e = true) : False := by
  rcases o with ⟨es, rfl, rfl⟩ | ⟨qq, ks, ds, rfl, rfl⟩ | ⟨L, t, vs, k, ds, rfl, rfl, h1, h2, h3⟩
  · obtain ⟨a', xs, e, q, _⟩ := s.mut; cases e; rw [h] at q; cases q
  · obtain ⟨a', kvs', p⟩ := s.dct
    have := p.v; cases this
    obtain ⟨w, q, q2⟩ := p.al
    rw [h] at q; cases q
    unfold DU at q2
    rw [if_neg (by simpa [unlD] using u)] at q2
    cases q2
  · rcases s with ⟨ds', a', xs, z, _⟩ | ⟨z, _⟩ | ⟨L', k', ds', t', vs', a', xs, z, p⟩ | ⟨_, _, _, _, _, z, _⟩
    · cases z
    · have := hasTL_get (by simpa only [hasT] using z) h2
      simp [hasT] at this
    · cases z; cases p.v
      rw [p.t] at h1; cases h1
      cases p.same h2
      rw [p.w] at h3; cases h3
      have q := p.al; rw [h] at q; cases q
    · cases z
theorem wk_keys {K : PySem.W.Frag} {F H0 H : Hp} {a : Addr} {od : Obj} {kvs : List (List Key × V)} {ks : List (List Int)} (hd : H a = some (.frz od (.dT kvs))) (hk : kvs.map (·.1) = ks.map (·.map Sum.inl)) :
    Wk K H0 true (Itkt a od kvs) F H (ks.map fun k => .tup (k.map .int)) := by
  have l1 : kvs.length = ks.length := by simpa using congrArg List.length hk
  refine ⟨fun i F' H' l hi => ⟨l.2.2.1 _ _ hd trivial, by rw [List.length_map] at hi; omega⟩, fun i F' H' x H'' l hi y => ?_, fun F' H' l => ⟨l.2.2.1 _ _ hd trivial, by rw [List.length_map]; omega⟩⟩
  obtain ⟨rfl, k, v, q, e1, rfl, hq⟩ := y
  have ek : (ks.map (·.map (Sum.inl : Int → Key)))[i]? = some k := by rw [← hk, List.getElem?_map, e1]; rfl
  rw [List.getElem?_map] at ek
  obtain ⟨k', hk', rfl⟩ : ∃ k', ks[i]? = some k' ∧ k'.map Sum.inl = k := by
    cases z : ks[i]? with
    | none => rw [z] at ek; cases ek
    | some k' => rw [z] at ek; exact ⟨k', rfl, Option.some.inj ek⟩
  refine ⟨F', .tup (k'.map .int), Grow.refl l.2.1, by rw [List.getElem?_map, hk']; rfl, .tup hq ?_⟩
  rw [List.map_map]
  exact wk_items.ints_rp' k'
def backK (i : Nat) : RS → RS
  | .nx m => if (m.set i none).all unlS = true then .nx (m.set i none) else .stuck
  | _ => .stuck
def sKeysD (i : Nat) (g : SemG) (k : SemS) : SemS := fun m => dctAt i m fun q ks ds => if q.l = true then .stuck else backK i (forGo g k (ks.map fun x => .tup (x.map .int)) (m.set i (some (.dct ⟨q.o, true⟩ ks ds))))
theorem set_self_eq' {α : Type} {l : List α} {i : Nat} {x : α} (h : l[i]? = some x) : l.set i x = l := by
  have := set_self_eq (y := x) h
  rwa [List.set_set] at this
section
variable {X : Cx} {b : Bs} {W : WX} {e tg : Expr} {body : List Stmt} {g : SemG} {k : SemS} {t : TG} {vs : List Nat} {pos : Pos} {i : Nat}
theorem ss_keysD (hp : PassesOwn (model X.prog X.w) X.A X.env X.xe) (hc : X.calm = true) (ho : PE X e (tVar i)) (hg : PG X tg t) (hn : NGok X.K t g vs) (hb : SSs X b W body k)
    (hs : ∀ x, foldedSetIterable e X.env x = pure x := by intro _; rfl) :
    SS X b W (.For tg e body [] pos) (sKeysD i g k) := by
  refine PS.weak (ps_lock (ps_for hp hc (pi_keys ho) hg hb hs)) fun D' σ H ⟨F, m, R, p⟩ => ?_
  unfold sKeysD dctAt at p
  split at p
  · rename_i qt ks ds hm
    simp only at p
    split at p
    · exact p.elim
    rename_i hql
    obtain ⟨a, kvs, hσ, P⟩ := dct_slot R hm
    have pal := P.un (by simpa using hql)
    refine ⟨a, .dT kvs, pal, trivial, fun od => ?_⟩
    have f0 : b.F0 a = none := by
      cases z : b.F0 a with
      | none => rfl
      | some o => have := R.grow.sub _ _ z; rw [P.fa] at this; cases this
    have far : ∀ (j : Nat) (x : D) (v : V), (m.set i none)[j]? = some (some x) → σ[j]? = some (some v) → Owns H x v a → False := fun j x v q1 q2 o => by
      by_cases c : j = i
      · subst c
        rw [List.getElem?_set_self'] at q1
        cases z : m[j]? <;> rw [z] at q1 <;> simp at q1
      · rw [List.getElem?_set_ne (fun z => c z.symm)] at q1
        exact c (R.apart j i _ _ _ _ a q1 hm q2 hσ o (.inr (.inl ⟨_, _, _, rfl, rfl⟩)))
    have R0 : Rel X.K b F (m.set i none) σ (L2.upd H a (.frz od (.dT kvs))) := (R.forget i).swap pal (.inl ⟨kvs, rfl⟩) P.ha f0 (fun _ _ => rfl) (.inl P.fa) far
    have hH1 : (L2.upd H a (.frz od (.dT kvs))) a = some (.frz od (.dT kvs)) := upd_same
    have x1 : RpL X.K F b.H0 (L2.upd H a (.frz od (.dT kvs))) ds (kvs.map (·.2)) := RpL.stays (stays_at R.sub pal (.inl ⟨kvs, rfl⟩) (fun _ _ => rfl)) _ _ P.x
    have S1 : SlotOk X.K F b.H0 (L2.upd H a (.frz od (.dT kvs))) (.dct ⟨qt.o, true⟩ ks ds) (.ref a) := .inr (.inr (.inr ⟨_, ks, ds, a, kvs, rfl, rfl, P.o, ⟨_, hH1, ⟨od, rfl⟩⟩, P.fa, P.ha, P.k, x1, P.nx⟩))
    have R1 := R0.putW (i := i) S1 fun j x w a' hj q1 q2 o1 o2 => by
      have ea : a' = a := by
        rcases o1 with ⟨_, z, _⟩ | ⟨_, _, _, _, z⟩ | ⟨_, _, _, _, _, z, _⟩
        · cases z
        · cases z; rfl
        · cases z
      subst ea
      exact far j x w q1 q2 (o2.upd fun xs z => by cases z)
    rw [List.set_set, set_self_eq' hσ] at R1
    refine ⟨.ref a, hσ, a, od, rfl, .inr ⟨kvs, hH1, ?_⟩⟩
    refine for_core (F := F) hn R1 ?_ (wk_keys hH1 P.k)
    have pr : ∀ {F' H' : Hp}, Prog F (L2.upd H a (.frz od (.dT kvs))) F' H' → H' a = some (.frz od (.dT kvs)) := fun q => q.tups _ _ hH1 trivial
    cases hr : forGo g k (ks.map fun x => .tup (x.map .int)) (m.set i (some (.dct ⟨qt.o, true⟩ ks ds))) with
    | nx m' =>
      rw [hr] at p
      simp only [backK] at p
      split at p
      · rename_i hu
        intro σ' F' H' R' q
        have hf := pr q
        refine ⟨hf, p σ' (fun c => if c = a then none else F' c) _ ((R'.forget i).swap hf (.inr ⟨od, kvs, rfl⟩) P.ha f0 (fun c hc => by simp [hc]) (.inl (by simp)) fun j x v q1 q2 o => ?_) ⟨fun c o hc => ?_, fun c o hc ho => ?_⟩⟩
        · obtain ⟨w, k1, k2⟩ := (R'.forget i).slot j x q1
          rw [q2] at k1; cases k1
          rw [List.all_eq_true] at hu
          exact o.unl k2 hf (hu (some x) (List.mem_of_getElem? q1))
        · have hca : c ≠ a := fun z => by subst z; rw [P.fa] at hc; cases hc
          simp only [if_neg hca]
          exact q.sub _ _ hc
        · have hca : c ≠ a := fun z => by subst z; rw [pal] at hc; cases hc; exact False.elim ho
          rw [upd_ne hca]
          exact q.tups _ _ (by rw [upd_ne hca]; exact hc) ho
      · exact p.elim
    | exc c m' => rw [hr] at p; exact p.elim
    | bk m' => rw [hr] at p; exact p.elim
    | ct m' => rw [hr] at p; exact p.elim
    | rt d => rw [hr] at p; exact p.elim
    | stuck => rw [hr] at p; exact p.elim
  · exact p.elim
end
/-! ### lent dicts -/
def less2 (H : Hp) (a c : Addr) : Hp := fun x => if x = a ∨ x = c then none else H x
theorem less2_ne {H : Hp} {a c x : Addr} (h1 : x ≠ a) (h2 : x ≠ c) : less2 H a c x = H x := by unfold less2; rw [if_neg (by simp [h1, h2])]
theorem less2_a {H : Hp} {a c : Addr} : less2 H a c a = none := by unfold less2; rw [if_pos (.inl rfl)]
theorem less2_c {H : Hp} {a c : Addr} : less2 H a c c = none := by unfold less2; rw [if_pos (.inr rfl)]
theorem less2_same {H : Hp} {a c : Addr} : Same (less2 H a c) H := fun x o e => by
  unfold less2 at e
  split at e
  · cases e
  · exact e
section
variable {K : PySem.W.Frag} {b : Bs} {F F' H H' : Hp} {m : Sl} {σ : L2.St} {a c : Addr} {u1 u2 : HO}
theorem Rel.lend (r : Rel K b F m σ H) (ha : H a = some u1) (oa : Odd u1) (hc : H c = some u2) (oc : Odd u2) (h0a : b.H0 a = none) (h0c : b.H0 c = none) (fa' : F' a = none) (fc' : F' c = none)
    (g : Grow F (less2 H a c) F' H') (far : ∀ (j : Nat) (e : D) (v : V) (d : Addr), m[j]? = some (some e) → σ[j]? = some (some v) → Owns H e v d → d ≠ a ∧ d ≠ c) : Rel K b F' m σ H' := by
  have st : ∀ x o, H x = some o → x ≠ a → x ≠ c → H' x = some o := fun x o e h1 h2 => g.same _ _ (by rw [less2_ne h1 h2]; exact e)
  have t : Stays K F H F' H' := by
    refine ⟨fun x xs e => g.sub _ _ e, fun x xs e => g.sub.seq e, fun x xs e => st _ _ e ?_ ?_, fun x xs e => st _ _ e ?_ ?_, fun _ _ _ => trivial, fun x cl e => st _ _ e ?_ ?_⟩
    · rintro rfl; rw [ha] at e; exact oa.tup _ (Option.some.inj e)
    · rintro rfl; rw [hc] at e; exact oc.tup _ (Option.some.inj e)
    · rintro rfl; rw [ha] at e; exact oa.lst _ (Option.some.inj e)
    · rintro rfl; rw [hc] at e; exact oc.lst _ (Option.some.inj e)
    · rintro rfl; rw [ha] at e; exact oa.kx _ _ (Option.some.inj e)
    · rintro rfl; rw [hc] at e; exact oc.kx _ _ (Option.some.inj e)
  have gf : ∀ x o, H x = some o → x ≠ a → x ≠ c → F x = none → F' x = none := fun x o e h1 h2 hf => grow_free g (by rw [less2_ne h1 h2]; exact e) hf
  have back : ∀ (j : Nat) (e : D) (v : V) (x : Addr), m[j]? = some (some e) → σ[j]? = some (some v) → Owns H' e v x → Owns H e v x := fun j e v x q1 q2 o => by
    obtain ⟨w, k1, k2⟩ := r.slot j e q1
    rw [q2] at k1; cases k1
    rcases o with o | o | ⟨L, tt, vs, k, ds, rfl, rfl, p1, p2, p3⟩
    · exact .inl o
    · exact .inr (.inl o)
    · rcases k2 with ⟨ds', a', xs, z, _⟩ | ⟨z, _⟩ | ⟨L', k', ds', t', vs', a', xs, z, p⟩ | ⟨_, _, _, _, _, z, _⟩
      · cases z
      · have := hasTL_get (by simpa only [hasT] using z) p2
        simp [hasT] at this
      · cases z; cases p.v
        have q := t.ht _ _ p.t
        rw [q] at p1; cases p1
        exact .inr (.inr ⟨L, _, _, k, ds, rfl, rfl, p.t, p2, p3⟩)
      · cases z
  refine ⟨r.len, ⟨fun x o e => ?_, r.grow.sub.trans g.sub, g.subH, fun x o e => ?_⟩, fun j e q => ?_, fun p q x y v w z e1 e2 e3 e4 o1 o2 => r.apart p q x y v w z e1 e2 e3 e4 (back _ _ _ _ e1 e3 o1) (back _ _ _ _ e2 e4 o2)⟩
  · exact st _ _ (r.grow.same _ _ e) (fun z => by subst z; rw [h0a] at e; cases e) (fun z => by subst z; rw [h0c] at e; cases e)
  · rcases g.new x o e with z | z
    · exact r.grow.new _ _ z
    · by_cases h1 : x = a
      · subst h1; rw [fa'] at e; cases e
      by_cases h2 : x = c
      · subst h2; rw [fc'] at e; cases e
      rw [less2_ne h1 h2] at z
      exact .inr (r.grow.same.free z)
  · obtain ⟨v, k1, k2⟩ := r.slot j e q
    refine ⟨v, k1, ?_⟩
    rcases k2 with ⟨ds, x, xs, rfl, rfl, p1, p2, p3, p4, p5⟩ | ⟨z, z'⟩ | ⟨L, k, ds, t', vs, x, xs, rfl, p⟩ | ⟨qq, ks, ds, x, kvs, rfl, p⟩
    · obtain ⟨h1, h2⟩ := far j _ _ x q k1 (.inl ⟨ds, rfl, rfl⟩)
      exact .inl ⟨ds, x, xs, rfl, rfl, t.hl _ _ p1, gf _ _ p1 h1 h2 p2, p3, RpL.stays t _ _ p4, p5⟩
    · exact .inr (.inl ⟨z, Rp.stays t _ _ z'⟩)
    · obtain ⟨h1, h2⟩ := far j _ _ x q k1 (.inr (.inr ⟨L, t', vs, k, ds, rfl, p.v, p.t, p.l, p.w⟩))
      exact .inr (.inr (.inl ⟨L, k, ds, t', vs, x, xs, rfl, p.v, t.ht _ _ p.t, p.l, p.w, p.n, RpL.stays t _ _ p.r, t.hl _ _ p.al, gf _ _ p.al h1 h2 p.fa, p.ha, RpL.stays t _ _ p.x, p.nx⟩))
    · obtain ⟨h1, h2⟩ := far j _ _ x q k1 (.inr (.inl ⟨qq, ks, ds, rfl, p.v⟩))
      obtain ⟨u, h3, h4⟩ := p.al
      exact .inr (.inr (.inr ⟨qq, ks, ds, x, kvs, rfl, p.v, p.o, ⟨u, st _ _ h3 h1 h2, h4⟩, gf _ _ h3 h1 h2 p.fa, p.ha, p.k, RpL.stays t _ _ p.x, p.nx⟩))
theorem DctOk.odd {H0 : Hp} {q : DT} {ks : List (List Int)} {ds : List D} {v : V} {a : Addr} {kvs : List (List Key × V)} (p : DctOk K F H0 H q ks ds v a kvs) : ∃ u, H a = some u ∧ Odd u := by
  obtain ⟨u, h1, h2⟩ := p.al
  refine ⟨u, h1, ?_⟩
  unfold DU at h2
  split at h2
  · obtain ⟨od, rfl⟩ := h2; exact .inr ⟨od, kvs, rfl⟩
  · exact .inl ⟨kvs, h2⟩
theorem dct_owns {q : DT} {ks : List (List Int)} {ds : List D} {a d : Addr} (o : Owns H (.dct q ks ds) (.ref a) d) : d = a := by
  rcases o with ⟨_, z, _⟩ | ⟨_, _, _, _, z⟩ | ⟨_, _, _, _, _, z, _⟩
  · cases z
  · cases z; rfl
  · cases z
end
/-! ### the promise of a def that is lent two dicts, told ahead of all else -/
abbrev Dk := List (List Int) × List D
/-- the lent dict's data -/
def atD (a : Addr) (l : Bool) (x : Dk) : D := .dct ⟨some a, l⟩ x.1 x.2
def spB (K : PySem.W.Frag) (n : Nat) (f : List D → R (D × Option D × Option D)) : Sp := fun vs H Q E => ∃ (F0 : Hp) (a c : Addr) (l1 l2 : Bool) (x1 x2 : Dk) (kv1 kv2 : List (List Key × V)) (ds : List D) (us : List V),
  vs = .ref a :: .ref c :: us ∧ Same F0 H ∧ a ≠ c ∧ DctOk K F0 (less2 H a c) H ⟨some a, l1⟩ x1.1 x1.2 (.ref a) a kv1 ∧ DctOk K F0 (less2 H a c) H ⟨some c, l2⟩ x2.1 x2.2 (.ref c) c kv2 ∧ RpL K F0 H H ds us ∧ hasTL ds = false ∧ ds.length = n ∧
  ∃ (d : D) (y1 y2 : Dk), f (atD a l1 x1 :: atD c l2 x2 :: ds) = .ok (d, some (atD a l1 y1), some (atD c l2 y2)) ∧ hasT d = false ∧
    ∀ F' H' v kw1 kw2, Grow F0 (less2 H a c) F' H' → Prog F0 H F' H' → Rp K F' (less2 H a c) H' d v → DctOk K F' (less2 H a c) H' ⟨some a, l1⟩ y1.1 y1.2 (.ref a) a kw1 → DctOk K F' (less2 H a c) H' ⟨some c, l2⟩ y2.1 y2.2 (.ref c) c kw2 → Q v H'
structure CalleeB (P : Program) (w : World) (K : PySem.W.Frag) (mg : Str → Option Value) (base : Heap) (x : Str) (n : Nat) (f : List D → R (D × Option D × Option D)) (k : Nat) : Prop where
  ok : ∃ fa fd ps, FnG P w K mg base k fa fd ps (spB K n f) ∧ mg x = some (.ref fa) ∧ PySem.W.keepIn K (.ref fa) = true ∧ Binds K fd ps []
/-- what a call comes to, wherever the dicts lie -/
def BOk (f : List D → R (D × Option D × Option D)) (l1 l2 : Bool) (x1 x2 : Dk) (ds : List D) (r : D × Dk × Dk) : Prop := hasT r.1 = false ∧ ∀ a c : Addr, a ≠ c → f (atD a l1 x1 :: atD c l2 x2 :: ds) = .ok (r.1, some (atD a l1 r.2.1), some (atD c l2 r.2.2))
open Classical in
noncomputable def callB (f : List D → R (D × Option D × Option D)) (l1 l2 : Bool) (x1 x2 : Dk) (ds : List D) : R (D × Dk × Dk) := if h : ∃ r, BOk f l1 l2 x1 x2 ds r then .ok h.choose else .stuck
theorem callB_of {f : List D → R (D × Option D × Option D)} {l1 l2 : Bool} {x1 x2 : Dk} {ds : List D} {r : D × Dk × Dk} (h : BOk f l1 l2 x1 x2 ds r) : callB f l1 l2 x1 x2 ds = .ok r := by
  have hx : ∃ r, BOk f l1 l2 x1 x2 ds r := ⟨r, h⟩
  unfold callB
  rw [dif_pos hx]
  congr 1
  have h2 := hx.choose_spec.2 0 1 (by decide)
  have h3 := h.2 0 1 (by decide)
  revert h2
  generalize hx.choose = z
  intro h2
  rw [h3] at h2
  injection h2 with h2
  obtain ⟨d, y1, y2⟩ := r
  obtain ⟨d', y1', y2'⟩ := z
  simp only [Prod.mk.injEq, Option.some.injEq, atD, D.dct.injEq, true_and] at h2
  obtain ⟨e1, ⟨e2, e3⟩, e4, e5⟩ := h2
  subst e1
  rw [Prod.mk.injEq, Prod.mk.injEq]
  exact ⟨rfl, (Prod.ext e2 e3).symm, (Prod.ext e4 e5).symm⟩
noncomputable def sAsgB (i j : Nat) (f : List D → R (D × Option D × Option D)) (h : SemA) (gg : SemG) : SemS := fun m => dctAt i m fun q1 k1 d1 => dctAt j m fun q2 k2 d2 => if i = j then .stuck else ofR m (h m) fun ds => if hasTL ds = true then .stuck else
  match callB f q1.l q2.l (k1, d1) (k2, d2) ds with
  | .ok r => (match gg r.1 ((m.set i (some (.dct q1 r.2.1.1 r.2.1.2))).set j (some (.dct q2 r.2.2.1 r.2.2.2))) with
    | .ok m' => .nx m'
    | _ => .stuck)
  | _ => .stuck
section
variable {X : Cx} {b : Bs} {W : WX} {x : Str} {e1 e2 tg : Expr} {es : List Expr} {h : SemA} {gg : SemG} {t : TG} {n k i j : Nat} {f : List D → R (D × Option D × Option D)} {p pos pos' : Pos}
theorem DctOk.tag {K : PySem.W.Frag} {F H0 H : Hp} {q q' : DT} {ks : List (List Int)} {ds : List D} {v : V} {a : Addr} {kvs : List (List Key × V)} (p : DctOk K F H0 H q ks ds v a kvs) (hl : q'.l = q.l) (ho : ∀ b, q'.o = some b → a = b) : DctOk K F H0 H q' ks ds v a kvs :=
  ⟨p.v, ho, by rw [hl]; exact p.al, p.fa, p.ha, p.k, p.x, p.nx⟩
theorem ss_asgB (C : CalleeB X.prog X.w X.K X.mg X.base x n f k) (tk : Takes X W) (hr : Room k X.A) (hgd : X.A.guards = some []) (hg : Gl X x) (h1 : PE X e1 (tVar i)) (h2 : PE X e2 (tVar j)) (ha : SA X b W es h) (hl : ∀ m xs, h m = .ok xs → xs.length = n)
    (ht : PG X tg t) (hn : TGok X b t gg) (hdb : (x == ("__debug__" : Str)) = false := by decide)
    (he : starEach (e1 :: e2 :: es) X.env = (false, eval e1 X.env) :: starEach (e2 :: es) X.env := by rfl) (he2 : starEach (e2 :: es) X.env = (false, eval e2 X.env) :: starEach es X.env := by rfl) (hpl : (backTo pos (starEach (e2 :: es) X.env)).any (·.1) = false := by rfl)
    (hs : swapsWithSole [tg] (.Call (.Name x p) (e1 :: e2 :: es) [] pos) pos'.line X.env = pure false := by rfl) (hw : swappedStores [tg] (.Call (.Name x p) (e1 :: e2 :: es) [] pos) X.env = pure none := by rfl)
    (hae : (assignEach [tg] X.env).map (·.2) = [assign tg X.env] := by rfl) : SS X b W (.Assign [tg] (.Call (.Name x p) (e1 :: e2 :: es) [] pos) pos') (sAsgB i j f h gg) := by
  obtain ⟨fa, fd, ps, F1, hm, hk, hb⟩ := C.ok
  refine PS.weak (ps_asg (pe_callG F1 hr hgd hg hm hk hb (fun σ => passAt tk σ) (pa_cons h1 (pa_cons h2 ha he2) he) hdb he hpl) ht hs hw hae) fun D' σ H ⟨F, m, R, q⟩ => ?_
  unfold sAsgB dctAt at q
  split at q
  · rename_i q1 k1 d1 m1
    split at q
    · rename_i q2 k2 d2 m2
      simp only at q
      split at q
      · exact q.elim
      rename_i hij
      obtain ⟨a, kv1, s1, _⟩ := dct_slot R m1
      obtain ⟨c, kv2, s2, _⟩ := dct_slot R m2
      refine ⟨.ref a, s1, .ref c, s2, F, m, R, ?_⟩
      cases hh : h m with
      | stuck => rw [hh] at q; exact q.elim
      | exc cc => rw [hh] at q; exact fun F1 H1 G => q σ F1 H1 (R.step G) G.prog
      | ok ds =>
        rw [hh] at q
        simp only [ofR_ok] at q
        refine fun F1 H1 G us hus => ?_
        have R1 := R.step G
        have q := Sst.prog G.prog q
        split at q
        · exact q.elim
        rename_i hds
        have hds : hasTL ds = false := by simpa using hds
        obtain ⟨a', kv1, s1', P1⟩ := dct_slot R1 m1
        obtain ⟨c', kv2, s2', P2⟩ := dct_slot R1 m2
        rw [s1] at s1'; cases s1'
        rw [s2] at s2'; cases s2'
        have hac : a ≠ c := fun z => by
          subst z
          exact hij (R1.apart i j _ _ _ _ a m1 m2 s1 s2 (.inr (.inl ⟨_, _, _, rfl, rfl⟩)) (.inr (.inl ⟨_, _, _, rfl, rfl⟩)))
        obtain ⟨u1, ha1, oa1⟩ := P1.odd
        obtain ⟨u2, hc1, oc1⟩ := P2.odd
        split at q
        · rename_i r hr
          obtain ⟨d, y1, y2⟩ := r
          have hB : BOk f q1.l q2.l (k1, d1) (k2, d2) ds (d, y1, y2) := by
            unfold callB at hr
            split at hr
            · rename_i hx
              have := hx.choose_spec
              injection hr with hr
              rw [hr] at this
              exact this
            · cases hr
          obtain ⟨hd, hf⟩ := hB
          have hd : hasT d = false := hd
          refine ⟨F1, a, c, q1.l, q2.l, (k1, d1), (k2, d2), kv1, kv2, ds, us, rfl, R1.sub, hac, ⟨rfl, fun _ z => Option.some.inj z, P1.al, P1.fa, less2_a, P1.k, RpL.base _ _ P1.nx P1.x, P1.nx⟩, ⟨rfl, fun _ z => Option.some.inj z, P2.al, P2.fa, less2_c, P2.k, RpL.base _ _ P2.nx P2.x, P2.nx⟩, RpL.base _ _ hds hus, hds, hl m ds hh, d, y1, y2, hf a c hac, hd, ?_⟩
          intro F2 H2 v kw1 kw2 G2 PG2 hv D1 D2
          have RR : Rel X.K b F2 ((m.set i none).set j none) σ H2 := ((R1.forget i).forget j).lend ha1 oa1 hc1 oc1 P1.ha P2.ha D1.fa D2.fa G2 fun jj e w dd w1 w2 w3 => by
            have hj : jj ≠ j := fun z => by
              subst z
              rw [List.getElem?_set_self'] at w1
              cases z : (m.set i none)[jj]? <;> rw [z] at w1 <;> simp at w1
            rw [List.getElem?_set_ne (Ne.symm hj)] at w1
            have hi : jj ≠ i := fun z => by
              subst z
              rw [List.getElem?_set_self'] at w1
              cases z : m[jj]? <;> rw [z] at w1 <;> simp at w1
            rw [List.getElem?_set_ne (Ne.symm hi)] at w1
            exact ⟨fun z => by subst z; exact hi (R1.apart jj i _ _ _ _ _ w1 m1 w2 s1 w3 (.inr (.inl ⟨_, _, _, rfl, rfl⟩))), fun z => by subst z; exact hj (R1.apart jj j _ _ _ _ _ w1 m2 w2 s2 w3 (.inr (.inl ⟨_, _, _, rfl, rfl⟩)))⟩
          have E1 : DctOk X.K F2 b.H0 H2 q1 y1.1 y1.2 (.ref a) a kw1 := ⟨rfl, P1.o, D1.al, D1.fa, P1.ha, D1.k, RpL.base _ _ D1.nx D1.x, D1.nx⟩
          have E2 : DctOk X.K F2 b.H0 H2 q2 y2.1 y2.2 (.ref c) c kw2 := ⟨rfl, P2.o, D2.al, D2.fa, P2.ha, D2.k, RpL.base _ _ D2.nx D2.x, D2.nx⟩
          -- who else owns a or c: nobody
          have nob : ∀ (jj : Nat) (e : D) (w : V) (dd : Addr), ((m.set i none).set j none)[jj]? = some (some e) → σ[jj]? = some (some w) → Owns H2 e w dd → dd ≠ a ∧ dd ≠ c := fun jj e w dd w1 w2 w3 => by
            have hj : jj ≠ j := fun z => by
              subst z
              rw [List.getElem?_set_self'] at w1
              cases z : (m.set i none)[jj]? <;> rw [z] at w1 <;> simp at w1
            rw [List.getElem?_set_ne (Ne.symm hj)] at w1
            have hi : jj ≠ i := fun z => by
              subst z
              rw [List.getElem?_set_self'] at w1
              cases z : m[jj]? <;> rw [z] at w1 <;> simp at w1
            rw [List.getElem?_set_ne (Ne.symm hi)] at w1
            obtain ⟨w', z1, z2⟩ := R1.slot jj e w1
            rw [w2] at z1; cases z1
            have w4 : Owns H1 e w dd := by
              rcases w3 with o | o | ⟨L, tt, vs, kk, dds, rfl, rfl, p1, p2, p3⟩
              · exact .inl o
              · exact .inr (.inl o)
              · rcases z2 with ⟨ds', a', xs, z, _⟩ | ⟨z, _⟩ | ⟨L', k', ds', t', vs', a', xs, z, pp⟩ | ⟨_, _, _, _, _, z, _⟩
                · cases z
                · have := hasTL_get (by simpa only [hasT] using z) p2
                  simp [hasT] at this
                · cases z; cases pp.v
                  have ne1 : tt ≠ a := fun z => by subst z; have z := pp.t; rw [ha1] at z; exact oa1.tup _ (Option.some.inj z)
                  have ne2 : tt ≠ c := fun z => by subst z; have z := pp.t; rw [hc1] at z; exact oc1.tup _ (Option.some.inj z)
                  have qq := G2.same tt _ (by rw [less2_ne ne1 ne2]; exact pp.t)
                  rw [qq] at p1; cases p1
                  exact .inr (.inr ⟨L, _, _, kk, dds, rfl, rfl, pp.t, p2, p3⟩)
                · cases z
            exact ⟨fun z => by subst z; exact hi (R1.apart jj i _ _ _ _ _ w1 m1 w2 s1 w4 (.inr (.inl ⟨_, _, _, rfl, rfl⟩))), fun z => by subst z; exact hj (R1.apart jj j _ _ _ _ _ w1 m2 w2 s2 w4 (.inr (.inl ⟨_, _, _, rfl, rfl⟩)))⟩
          have RA := RR.putW (i := i) (d := .dct q1 y1.1 y1.2) (v := .ref a) (.inr (.inr (.inr ⟨_, _, _, a, kw1, rfl, E1⟩))) fun jj e w dd hne w1 w2 w3 w4 => by
            have := dct_owns w3
            subst this
            exact (nob jj e w _ w1 w2 w4).1 rfl
          rw [set_self_eq' s1] at RA
          have RB := RA.putW (i := j) (d := .dct q2 y2.1 y2.2) (v := .ref c) (.inr (.inr (.inr ⟨_, _, _, c, kw2, rfl, E2⟩))) fun jj e w dd hne w1 w2 w3 w4 => by
            have := dct_owns w3
            subst this
            by_cases hi : jj = i
            · subst hi
              rw [s1] at w2; cases w2
              have hlt : jj < ((m.set jj none).set j none).length := by
                have := (List.getElem?_eq_some_iff.1 m1).1
                simpa using this
              rw [List.getElem?_set_self hlt] at w1
              cases w1
              exact hac (dct_owns w4).symm
            · rw [List.getElem?_set_ne (Ne.symm hi)] at w1
              exact (nob jj e w _ w1 w2 w4).2 rfl
          rw [set_self_eq' s2] at RB
          have em : (((m.set i none).set j none).set i (some (.dct q1 y1.1 y1.2))).set j (some (.dct q2 y2.1 y2.2)) = (m.set i (some (.dct q1 y1.1 y1.2))).set j (some (.dct q2 y2.1 y2.2)) := by
            rw [List.set_comm (i := j) (j := i) _ _ (Ne.symm hij), List.set_set, List.set_set]
          rw [em] at RB
          split at q
          · rename_i m' hg'
            exact hn F2 _ σ H2 d v m' _ RB hd (Rp.base d v hd hv) hg' fun σ' F' H' R' P' => q σ' F' H' R' (PG2.trans P')
          · exact q.elim
        · exact q.elim
    · exact q.elim
  · exact q.elim
end
end CT

/-! CtBe: a def that is lent two dicts: a body that ends in its one return -/
namespace CT
open PySem PySem.Spec PyProof.Rows L2
inductive RB where
  | rt (d : D) (m : Sl) | stuck
abbrev SemB := Sl → RB
def SstB (K : PySem.W.Frag) (b : Bs) (F H : Hp) (D' : Ends) : RB → Prop
  | .rt d m' => ∀ σ' F' H' v, Rel K b F' m' σ' H' → Prog F H F' H' → Rp K F' b.H0 H' d v → hasT d = false → D'.rt v H'
  | .stuck => False
theorem SstB.prog {K : PySem.W.Frag} {b : Bs} {F H F1 H1 : Hp} {D' : Ends} {r : RB} (g : Prog F H F1 H1) (p : SstB K b F H D' r) : SstB K b F1 H1 D' r := by
  cases r with
  | rt d m => exact fun σ' F' H' v R q => p σ' F' H' v R (g.trans q)
  | stuck => exact p
def tSB (K : PySem.W.Frag) (b : Bs) (g : SemB) : TS := fun D' σ H => ∃ F m, Rel K b F m σ H ∧ SstB K b F H D' (g m)
abbrev SB (X : Cx) (b : Bs) (st : List Stmt) (g : SemB) : Prop := PSs X st (tSB X.K b g)
def bRet (f : SemE) : SemB := fun m => match f m with
  | .ok d => if hasT d = true then .stuck else .rt d m
  | _ => .stuck
def bSeq (g : SemS) (h : SemB) : SemB := fun m => match g m with
  | .nx m' => h m'
  | _ => .stuck
section
variable {X : Cx} {b : Bs} {W : WX} {st : Stmt} {rest : List Stmt} {g : SemS} {h : SemB} {e : Expr} {f : SemE} {pos : Pos}
theorem sb_ret (hf : SE X b W e f) : SB X b [.Return (some e) pos] (bRet f) := by
  refine PSs.weak (pss_one (ps_ret hf)) fun D' σ H ⟨F, m, R, p⟩ => ⟨F, m, R, ?_⟩
  unfold bRet at p
  cases hm : f m with
  | stuck => rw [hm] at p; exact p.elim
  | exc c => rw [hm] at p; exact p.elim
  | ok d =>
    rw [hm] at p
    simp only at p
    split at p
    · exact p.elim
    · rename_i hd
      exact fun F1 H1 G v hv => p σ F1 H1 v (R.step G) G.prog hv (by simpa using hd)
theorem sb_cons (h1 : SS X b W st g) (h2 : SB X b rest h) : SB X b (st :: rest) (bSeq g h) := by
  refine PSs.weak (pss_cons h1 h2) fun D' σ H ⟨F, m, R, p⟩ => ⟨F, m, R, ?_⟩
  unfold bSeq at p
  cases hg : g m with
  | nx m' => rw [hg] at p; exact fun σ' F' H' R' q => ⟨F', m', R', SstB.prog q p⟩
  | bk m' => rw [hg] at p; exact p.elim
  | ct m' => rw [hg] at p; exact p.elim
  | rt d => rw [hg] at p; exact p.elim
  | exc c m' => rw [hg] at p; exact p.elim
  | stuck => rw [hg] at p; exact p.elim
end
def defB (n k : Nat) (g : SemB) : List D → R (D × Option D × Option D) := fun ds => if ds.length = n then (match g (ds.map some ++ List.replicate (k - n) none) with
  | .rt d m => .ok (d, (m[0]?).join, (m[1]?).join)
  | .stuck => .stuck) else .stuck
theorem join_some {α : Type} {o : Option (Option α)} {x : α} (h : o.join = some x) : o = some (some x) := by
  cases o with
  | none => cases h
  | some y => cases y with
    | none => cases h
    | some z => cases h; rfl
section
variable {P : Program} {w : World} {K : PySem.W.Frag} {mg : Str → Option Value} {base : Heap}
theorem def_fnB {x : Str} {st : Stmt} {f : Addr} {fd : FuncData} {N ps : List Str} {k n : Nat} {ex : String → Value} {g : SemB} (F : Fun K x x st f fd) (S : FnScope N ps (defScope st)) (hps : ps.length = n + 2)
    (hbody : ∀ (cdv : Value) (A : Around) (outer : List Env) (s : Shared) (H : Hp) (E : XK) (F0 H0 : Hp), Room k (A.deeper (envOfC x (defScope st) s.heap.objs.size f cdv)) → (A.deeper (envOfC x (defScope st) s.heap.objs.size f cdv)).guards = some [] →
      SB (cxOf (L2.CX P w) P w K mg base N x (defScope st) f cdv A outer s H E) ⟨ex, F0, H0⟩ (defBody st) g) :
    FnG P w K mg base (k + 1) f fd ps (spB K n (defB (n + 2) N.length g)) := by
  refine Fun.okG F S (fun vs H Q E h => ?_) (fun cdv A outer s H vs Q E hr hgd h => ?_)
  · obtain ⟨F0, a, c, l1, l2, x1, x2, kv1, kv2, ds, us, rfl, _, _, _, _, r, _, hl, _⟩ := h
    rw [hps, List.length_cons, List.length_cons, ← r.length, hl]
  · obtain ⟨F0, a, c, l1, l2, x1, x2, kv1, kv2, ds, us, rfl, s0, hac, P1, P2, r, ht, hn, d, y1, y2, hf, hd, q⟩ := h
    refine ⟨_, hbody cdv A outer s H E F0 (less2 H a c) hr hgd, ?_⟩
    have hlv := r.length
    have all : ∀ (i : Nat) (x : D), ((atD a l1 x1 :: atD c l2 x2 :: ds).map some ++ List.replicate (N.length - (n + 2)) none)[i]? = some (some x) → (atD a l1 x1 :: atD c l2 x2 :: ds)[i]? = some x := fun i x e => by
      by_cases hi : i < (atD a l1 x1 :: atD c l2 x2 :: ds).length
      · rw [List.getElem?_append_left (by simpa using hi)] at e
        rw [List.getElem?_map] at e
        cases z : (atD a l1 x1 :: atD c l2 x2 :: ds)[i]? with
        | none => rw [z] at e; cases e
        | some y => rw [z] at e; cases e; rfl
      · rw [List.getElem?_append_right (by simpa using hi)] at e
        rw [List.getElem?_replicate] at e
        split at e <;> cases e
    have vat : ∀ (i : Nat) (v : V), (V.ref a :: V.ref c :: us)[i]? = some v → (L2.start N (V.ref a :: V.ref c :: us))[i]? = some (some v) := fun i v h1 => by
      unfold L2.start
      obtain ⟨h3, _⟩ := List.getElem?_eq_some_iff.mp h1
      rw [List.getElem?_append_left (by simpa using h3), List.getElem?_map, h1]
      rfl
    have own : ∀ (i : Nat) (x : D) (v : V) (z : Addr), (atD a l1 x1 :: atD c l2 x2 :: ds)[i]? = some x → (L2.start N (V.ref a :: V.ref c :: us))[i]? = some (some v) → Owns H x v z → (i = 0 ∧ z = a) ∨ (i = 1 ∧ z = c) := fun i x v z e1 e2 o => by
      match i, e1 with
      | 0, e1 =>
        cases e1
        have := vat 0 _ rfl
        rw [this] at e2; cases e2
        exact .inl ⟨rfl, dct_owns o⟩
      | 1, e1 =>
        cases e1
        have := vat 1 _ rfl
        rw [this] at e2; cases e2
        exact .inr ⟨rfl, dct_owns o⟩
      | i + 2, e1 => exact (o.of (hasTL_get ht e1)).elim
    refine ⟨F0, (atD a l1 x1 :: atD c l2 x2 :: ds).map some ++ List.replicate (N.length - (n + 2)) none, ⟨?_, ⟨less2_same, Same.refl _, s0, fun _ _ e => .inl e⟩, fun i x e => ?_, fun i j x y v w z e1 e2 e3 e4 o1 o2 => ?_⟩, ?_⟩
    · unfold L2.start
      simp [hlv]
      omega
    · have e' := all i x e
      match i, e' with
      | 0, e' => cases e'; exact ⟨_, vat 0 _ rfl, .inr (.inr (.inr ⟨_, _, _, a, kv1, rfl, P1⟩))⟩
      | 1, e' => cases e'; exact ⟨_, vat 1 _ rfl, .inr (.inr (.inr ⟨_, _, _, c, kv2, rfl, P2⟩))⟩
      | i + 2, e' =>
        obtain ⟨v, h1, h2⟩ := r.get (i := i) e'
        exact ⟨v, vat (i + 2) v h1, .inr (.inl ⟨hasTL_get (i := i) ht e', Rp.base _ _ (hasTL_get (i := i) ht e') h2⟩)⟩
    · rcases own i x v z (all i x e1) e3 o1 with ⟨h1, h2⟩ | ⟨h1, h2⟩ <;> rcases own j y w z (all j y e2) e4 o2 with ⟨h3, h4⟩ | ⟨h3, h4⟩
      · omega
      · exact (hac (h2.symm.trans h4)).elim
      · exact (hac (h4.symm.trans h2)).elim
      · omega
    · unfold defB at hf
      rw [if_pos (by simp [hn])] at hf
      cases hg : g ((atD a l1 x1 :: atD c l2 x2 :: ds).map some ++ List.replicate (N.length - (n + 2)) none) with
      | stuck => rw [hg] at hf; cases hf
      | rt d' m' =>
        rw [hg] at hf
        simp only [CT.R.ok.injEq, Prod.mk.injEq] at hf
        obtain ⟨rfl, f1, f2⟩ := hf
        have f1 := join_some f1
        have f2 := join_some f2
        intro σ' F' H' v R' PG hv _
        obtain ⟨v1, _, k1⟩ := R'.slot 0 _ f1
        obtain ⟨v2, _, k2⟩ := R'.slot 1 _ f2
        obtain ⟨a', kw1, D1⟩ := k1.dct
        obtain ⟨c', kw2, D2⟩ := k2.dct
        have ea := D1.o a rfl
        have ec := D2.o c rfl
        subst ea ec
        have ev := D1.v
        have ev2 := D2.v
        subst ev ev2
        exact q F' H' v kw1 kw2 R'.grow PG hv D1 D2
end
end CT

namespace CK
open PySem PySem.Spec PyProof.Rows L2 CT
noncomputable section
def s_marks_met : List D → R D := defF 3 7 (
  (sSeq (sSet 3 (e2 ixD (eVar 0) (eC (.int 1))))
  (sSeq (sSet 4 (e2 mulD (e2 divD (eVar 2) (eVar 3)) (eA lenD (aCons (e2 ixD (eVar 0) (eC (.int 2))) aNil))))
  (sSeq (sSet 5 (e2 modD (eVar 2) (eVar 3)))
  (sRet (e2 addD (eVar 4) (eA lenD (aCons (eOwn (aLc (aItN false (e2 ixD (eVar 0) (eC (.int 2)))) (putR 6) (tOf (eChain ltD leD (eC (.int 0)) (e2 addD (e2 modD (e2 subD (e2 subD (eVar 6) (eVar 1)) (eC (.int 1))) (eVar 3)) (eC (.int 1))) (eVar 5))) (eVar 6) [6])) aNil))))))))
def s_marks_left : List D → R D := defF 3 7 (
  (sSeq (sSet 3 (e2 ixD (eVar 0) (eC (.int 1))))
  (sSeq (sSet 4 (e2 mulD (e2 divD (eVar 2) (eVar 3)) (eA lenD (aCons (e2 ixD (eVar 0) (eC (.int 2))) aNil))))
  (sSeq (sSet 5 (e2 modD (eVar 2) (eVar 3)))
  (sRet (e2 addD (eVar 4) (eA lenD (aCons (eOwn (aLc (aItN false (e2 ixD (eVar 0) (eC (.int 2)))) (putR 6) (tOf (e2 ltD (e2 modD (e2 subD (eVar 1) (eVar 6)) (eVar 3)) (eVar 5))) (eVar 6) [6])) aNil))))))))
def s_part_pushed : List D → R D := defF 4 5 (
  (sSeq (sIf (tOf (e2 eqD (e2 ixD (eVar 0) (eC (.int 0))) (eC (.str "wheel")))) (sSeq (sSet 4 (eA (callF s_marks_left) (aCons (eVar 0) (aCons (eVar 1) (aCons (eVar 3) aNil)))))
  (sSeq (sIf (tOf (e2 eqD (eVar 2) (eC (.int 1)))) (sSet 4 (eA (callF s_marks_met) (aCons (eVar 0) (aCons (eVar 1) (aCons (eVar 3) aNil))))) sNop)
  (sRet (eA mkTup (aCons (e2 modD (e2 addD (eVar 1) (e2 mulD (eVar 2) (eVar 3))) (e2 ixD (eVar 0) (eC (.int 1)))) (aCons (eVar 4) aNil)))))) sNop)
  (sSeq (sIf (tOf (e2 eqD (e2 ixD (eVar 0) (eC (.int 0))) (eC (.str "click")))) (sRet (eA mkTup (aCons (eC (.int 0)) (aCons (e2 mulD (eVar 3) (eA intD (aCons (e2 eqD (eVar 2) (eC (.int 1))) aNil))) aNil)))) sNop)
  (sSeq (sIf (tOf (e2 eqD (e2 ixD (eVar 0) (eC (.int 0))) (eC (.str "rocker")))) (sSeq (sIf (tOf (e2 eqD (eVar 3) (eC (.int 0)))) (sRet (eA mkTup (aCons (eVar 1) (aCons (eC (.int 0)) aNil)))) sNop)
  (sRet (eA mkTup (aCons (eA intD (aCons (e2 eqD (eVar 2) (eC (.int 1))) aNil)) (aCons (eA intD (aCons (eAnd (e2 eqD (eVar 2) (eC (.int 1))) (e2 eqD (eVar 1) (eC (.int 0)))) aNil)) aNil))))) sNop)
  (sSeq (sIf (tOf (e2 eqD (eVar 2) (eC (.int 1)))) (sRet (eA mkTup (aCons (e2 modD (e2 addD (eVar 1) (eVar 3)) (e2 ixD (eVar 0) (eC (.int 1)))) (aCons (e2 divD (e2 addD (eVar 1) (eVar 3)) (e2 ixD (eVar 0) (eC (.int 1)))) aNil)))) sNop)
  (sRet (eA mkTup (aCons (eA maxD (aCons (eC (.int 0)) (aCons (e2 subD (eVar 1) (eVar 3)) aNil))) (aCons (eC (.int 0)) aNil)))))))))
def s_pushed_often : List D → R D := defF 5 7 (
  (sSeq (sSetO 5 (aThen (aCons (eVar 1) aNil) listO))
  (sSeq (sFor (aThen (aCons (eVar 2) (aCons (eA lenD (aCons (eVar 0) aNil)) aNil)) rng2) (putR 6) (sAsg (eA (callF s_part_pushed) (aCons (e2 ixD (eVar 0) (eVar 6)) (aCons (e2 ixD (eVar 5) (eVar 6)) (aCons (eVar 3) (aCons (eVar 4) aNil))))) (gTupR 2 (gsCons (subR 5 (eVar 6)) (gsCons (putR 4) gsNil)))))
  (sRet (eA mkTup (aCons (eA tupleD (aCons (eVar 5) aNil)) (aCons (e2 mulD (eVar 3) (eVar 4)) aNil)))))))
def s_pushed : List D → R D := defF 4 4 (
  (sRet (eA (callF s_pushed_often) (aCons (eVar 0) (aCons (eVar 1) (aCons (eVar 2) (aCons (eVar 3) (aCons (eC (.int 1)) aNil))))))))
def s_law_mix : List D → R D := defF 2 4 (
  (sSeq (sIf (tOf (e2 geD (eVar 0) (e2 powD (eC (.int 10)) (eC (.int 18))))) (sSeq (sFor (aThen (aCons (eVar 1) aNil) rng1) (putR 2) (sSet 0 (e2 divD (eVar 0) (e2 powD (eC (.int 10)) (eC (.int 6))))))
  (sRet (e2 modD (eVar 0) (e2 powD (eC (.int 10)) (eC (.int 6)))))) sNop)
  (sSeq (sSet 3 (e2 modD (e2 mulD (e2 addD (e2 addD (e2 modD (eVar 0) (eC (.int 1000003))) (e2 mulD (e2 mulD (eVar 1) (eVar 1)) (eC (.int 7919)))) (eVar 1)) (eC (.int 48271))) (eC (.int 2147483629))))
  (sSeq (sSet 3 (e2 modD (e2 mulD (eVar 3) (eVar 3)) (eC (.int 2147483587))))
  (sRet (e2 divD (e2 modD (e2 mulD (eVar 3) (e2 addD (eVar 3) (eC (.int 2)))) (eC (.int 2147483579))) (eC (.int 7))))))))
def s_law_places : List D → R D := defF 1 1 (
  (sSeq (sIf (CT.tOr (tOf (e2 eqD (e2 ixD (eVar 0) (eC (.int 0))) (eC (.str "wheel")))) (tOf (e2 eqD (e2 ixD (eVar 0) (eC (.int 0))) (eC (.str "spring"))))) (sRet (e2 ixD (eVar 0) (eC (.int 1)))) sNop)
  (sRet (e2 addD (eC (.int 1)) (eA intD (aCons (e2 eqD (e2 ixD (eVar 0) (eC (.int 0))) (eC (.str "rocker"))) aNil))))))
def s_law_part : List D → R D := defF 2 6 (
  (sSeq (sSet 2 (e2 modD (eVar 0) (eC (.int 8))))
  (sSeq (sSet 3 (e2 addD (eC (.int 1)) (e2 modD (e2 divD (eVar 0) (eC (.int 8))) (eA maxD (aCons (eC (.int 1)) (aCons (eA minD (aCons (eVar 1) (aCons (e2 ixD (eOwn (aThen (aCons (eC (.int 7)) (aCons (eC (.int 7)) (aCons (eC (.int 7)) (aCons (eC (.int 500)) aNil)))) mkLst)) (e2 modD (e2 divD (eVar 0) (eC (.int 262144))) (eC (.int 4)))) aNil))) aNil))))))
  (sSeq (sIf (tOf (e2 ltD (eVar 2) (eC (.int 4)))) (sSeq (sSet 4 (eOwn (aLc (aThen (aCons (eVar 3) aNil) rng1) (putR 5) (tOf (e2 eqD (e2 modD (e2 divD (e2 divD (eVar 0) (eC (.int 64))) (e2 shlD (eC (.int 1)) (eVar 5))) (eC (.int 2))) (eC (.int 1)))) (eVar 5) [5])))
  (sSeq (sIf (tOf (e2 eqD (e2 modD (e2 divD (eVar 0) (eC (.int 8192))) (eC (.int 4))) (eC (.int 1)))) (sSet 4 (eOwn (aThen (aCons (e2 modD (e2 divD (eVar 0) (eC (.int 32768))) (eVar 3)) aNil) mkLst))) sNop)
  (sRet (eA mkTup (aCons (eC (.str "wheel")) (aCons (eVar 3) (aCons (eA tupleD (aCons (eVar 4) aNil)) aNil))))))) sNop)
  (sSeq (sIf (tOf (e2 eqD (eVar 2) (eC (.int 4)))) (sRet (eA mkTup (aCons (eC (.str "click")) aNil))) sNop)
  (sSeq (sIf (CT.tAnd (tOf (e2 eqD (eVar 2) (eC (.int 5)))) (tOf (e2 gtD (eVar 1) (eC (.int 1))))) (sRet (eA mkTup (aCons (eC (.str "rocker")) aNil))) sNop)
  (sRet (eA mkTup (aCons (eC (.str "spring")) (aCons (eVar 3) aNil))))))))))
def s_law_train : List D → R D := defF 3 6 (
  (sSeq (sSetO 3 (aThen aNil mkLst))
  (sSeq (sSet 4 (eVar 2))
  (sSeq (sFor (aThen (aCons (e2 addD (eC (.int 1)) (e2 modD (eA (callF s_law_mix) (aCons (eVar 0) (aCons (eVar 1) aNil))) (eC (.int 5)))) aNil) rng1) (putR 5) (sSeq (sApp 3 (eA (callF s_law_part) (aCons (eA (callF s_law_mix) (aCons (eVar 0) (aCons (e2 addD (e2 addD (eVar 1) (eC (.int 1))) (eVar 5)) aNil))) (aCons (eVar 4) aNil))))
  (sSet 4 (e2 divD (eVar 4) (eA (callF s_law_places) (aCons (e2 ixD (eVar 3) (eVar 5)) aNil))))))
  (sRetV 3)))))
def s_law_stand : List D → R D := defF 2 4 (
  (sSeq (sSetO 2 (aThen aNil mkLst))
  (sSeq (sFor (aItN true (eVar 0)) (putR 3) (sSeq (sApp 2 (e2 modD (eVar 1) (eA (callF s_law_places) (aCons (eVar 3) aNil))))
  (sSet 1 (e2 divD (eVar 1) (eC (.int 7))))))
  (sRet (eA tupleD (aCons (eVar 2) aNil))))))
def s_law_part_pushed : List D → R D := defF 3 4 (
  (sSeq (sIf (tOf (e2 eqD (e2 ixD (eVar 0) (eC (.int 0))) (eC (.str "wheel")))) (sSeq (sSet 3 (e2 modD (e2 addD (eVar 1) (eVar 2)) (e2 ixD (eVar 0) (eC (.int 1)))))
  (sSeq (sIf (tOf (e2 eqD (eVar 2) (eC (.int 1)))) (sRet (eA mkTup (aCons (eVar 3) (aCons (eA intD (aCons (e2 inD (eVar 3) (e2 ixD (eVar 0) (eC (.int 2)))) aNil)) aNil)))) sNop)
  (sRet (eA mkTup (aCons (eVar 3) (aCons (e2 subD (eC (.int 0)) (eA intD (aCons (e2 inD (eVar 1) (e2 ixD (eVar 0) (eC (.int 2)))) aNil))) aNil)))))) sNop)
  (sSeq (sIf (tOf (e2 eqD (e2 ixD (eVar 0) (eC (.int 0))) (eC (.str "click")))) (sRet (eA mkTup (aCons (eC (.int 0)) (aCons (eA intD (aCons (e2 eqD (eVar 2) (eC (.int 1))) aNil)) aNil)))) sNop)
  (sSeq (sIf (tOf (e2 eqD (e2 ixD (eVar 0) (eC (.int 0))) (eC (.str "rocker")))) (sRet (eA mkTup (aCons (eA intD (aCons (e2 eqD (eVar 2) (eC (.int 1))) aNil)) (aCons (eA intD (aCons (eAnd (e2 eqD (eVar 2) (eC (.int 1))) (e2 eqD (eVar 1) (eC (.int 0)))) aNil)) aNil)))) sNop)
  (sSeq (sIf (CT.tAnd (tOf (e2 eqD (eVar 2) (eC (.int 1)))) (tOf (e2 eqD (eVar 1) (e2 subD (e2 ixD (eVar 0) (eC (.int 1))) (eC (.int 1)))))) (sRet (eA mkTup (aCons (eC (.int 0)) (aCons (eC (.int 1)) aNil)))) sNop)
  (sRet (eA mkTup (aCons (eA maxD (aCons (eC (.int 0)) (aCons (e2 addD (eVar 1) (eVar 2)) aNil))) (aCons (eC (.int 0)) aNil)))))))))
def s_law_pushed : List D → R D := defF 4 7 (
  (sSeq (sSetO 4 (aThen (aCons (eVar 1) aNil) listO))
  (sSeq (sSet 5 (eVar 3))
  (sSeq (sFor (aThen (aCons (eVar 2) (aCons (eA lenD (aCons (eVar 0) aNil)) aNil)) rng2) (putR 6) (sIf (tOf (e2 neD (eVar 5) (eC (.int 0)))) (sAsg (eA (callF s_law_part_pushed) (aCons (e2 ixD (eVar 0) (eVar 6)) (aCons (e2 ixD (eVar 4) (eVar 6)) (aCons (eVar 5) aNil)))) (gTupR 2 (gsCons (subR 4 (eVar 6)) (gsCons (putR 5) gsNil)))) sNop))
  (sRet (eA mkTup (aCons (eA tupleD (aCons (eVar 4) aNil)) (aCons (eVar 5) aNil))))))))
def s_law_is : List D → R D := defF 2 3 (
  (sSeq (sIf (CT.tOr (CT.tNot (tOf (e1 (isiD "tuple") (eVar 0)))) (CT.tOr (tOf (e2 neD (eA lenD (aCons (eVar 0) aNil)) (eC (.int 2)))) (CT.tOr (CT.tNot (tOf (e1 (isiD "tuple") (e2 ixD (eVar 0) (eC (.int 0)))))) (tOf (e2 neD (eVar 0) (eVar 1)))))) (sRet (eC (.bl false))) sNop)
  (sSeq (sFor (aItN true (e2 addD (e2 ixD (eVar 0) (eC (.int 0))) (eA mkTup (aCons (e2 ixD (eVar 0) (eC (.int 1))) aNil)))) (putR 2) (sIf (CT.tOr (CT.tNot (tOf (e1 (isiD "int") (eVar 2)))) (tOf (e1 (isiD "bool") (eVar 2)))) (sRet (eC (.bl false))) sNop))
  (sRet (eC (.bl true))))))
def s_law_cut : List D → R D := defF 1 3 (
  (sSeq (sSet 1 (e2 powD (e2 powD (eC (.int 10)) (eC (.int 60))) (eC (.int 60))))
  (sRet (eOwn (aLc (aItN false (eVar 0)) (putR 2) tYesM (e2 ixD (eOwn (aThen (aCons (eVar 2) (aCons (e2 addD (eVar 1) (e2 modD (eVar 2) (eVar 1))) aNil)) mkLst)) (eA intD (aCons (e2 geD (eVar 2) (eVar 1)) aNil))) [2])))))
def s_is_whole : List D → R D := defF 1 1 (
  (sRet (eAnd (e1 (isiD "int") (eVar 0)) (eNot (e1 (isiD "bool") (eVar 0))))))
def s_is_marks : List D → R D := defF 2 5 (
  (sSeq (sIf (CT.tOr (CT.tNot (tOf (e1 (isiD "tuple") (eVar 1)))) (CT.tNot (tOf (eA allD (aCons (eOwn (aLc (aItN false (eVar 1)) (putR 2) tYesM (eAnd (eA (callF s_is_whole) (aCons (eVar 2) aNil)) (eChain leD ltD (eC (.int 0)) (eVar 2) (eVar 0))) [2])) aNil))))) (sRet (eC (.bl false))) sNop)
  (sRet (eA allD (aCons (eOwn (aLc (aZip false (aCons (eVar 1) (aCons (eCut (eVar 1) (pSo (eC (.int 1))) pNo) aNil))) (gTupR 2 (gsCons (putR 3) (gsCons (putR 4) gsNil))) tYesM (e2 ltD (eVar 3) (eVar 4)) [3, 4])) aNil)))))
def s_is_part : List D → R D := defF 1 1 (
  (sSeq (sIf (CT.tOr (CT.tNot (tOf (e1 (isiD "tuple") (eVar 0)))) (CT.tOr (tOf (e2 eqD (eVar 0) (eA mkTup aNil))) (CT.tNot (tOf (e1 (isiD "str") (e2 ixD (eVar 0) (eC (.int 0)))))))) (sRet (eC (.bl false))) sNop)
  (sSeq (sIf (tOf (e2 inD (e2 ixD (eVar 0) (eC (.int 0))) (eOwn (aThen (aCons (eC (.str "click")) (aCons (eC (.str "rocker")) aNil)) mkLst)))) (sRet (e2 eqD (eA lenD (aCons (eVar 0) aNil)) (eC (.int 1)))) sNop)
  (sSeq (sIf (tOf (e2 eqD (e2 ixD (eVar 0) (eC (.int 0))) (eC (.str "spring")))) (sRet (eAnd (e2 eqD (eA lenD (aCons (eVar 0) aNil)) (eC (.int 2))) (eAnd (eA (callF s_is_whole) (aCons (e2 ixD (eVar 0) (eC (.int 1))) aNil)) (e2 geD (e2 ixD (eVar 0) (eC (.int 1))) (eC (.int 1)))))) sNop)
  (sSeq (sIf (CT.tOr (tOf (e2 neD (e2 ixD (eVar 0) (eC (.int 0))) (eC (.str "wheel")))) (tOf (e2 neD (eA lenD (aCons (eVar 0) aNil)) (eC (.int 3))))) (sRet (eC (.bl false))) sNop)
  (sRet (eAnd (eA (callF s_is_whole) (aCons (e2 ixD (eVar 0) (eC (.int 1))) aNil)) (eAnd (e2 geD (e2 ixD (eVar 0) (eC (.int 1))) (eC (.int 1))) (eA (callF s_is_marks) (aCons (e2 ixD (eVar 0) (eC (.int 1))) (aCons (e2 ixD (eVar 0) (eC (.int 2))) aNil)))))))))))
def s_check_train : List D → R D := defF 1 2 (
  (sIf (CT.tOr (CT.tNot (tOf (e1 (isiD "list") (eVar 0)))) (CT.tOr (tOf (e2 eqD (eVar 0) (eOwn (aThen aNil mkLst)))) (CT.tNot (tOf (eA allD (aCons (eOwn (aLc (aItN false (eVar 0)) (putR 1) tYesM (eA (callF s_is_part) (aCons (eVar 1) aNil)) [1])) aNil)))))) (sRaise "NoTrain") sNop))
def s_places : List D → R D := defF 1 1 (
  (sSeq (sIf (tOf (e2 inD (e2 ixD (eVar 0) (eC (.int 0))) (eOwn (aThen (aCons (eC (.str "wheel")) (aCons (eC (.str "spring")) aNil)) mkLst)))) (sRet (e2 ixD (eVar 0) (eC (.int 1)))) sNop)
  (sRet (e2 addD (eC (.int 1)) (eA intD (aCons (e2 eqD (e2 ixD (eVar 0) (eC (.int 0))) (eC (.str "rocker"))) aNil))))))
def s_stand_count : List D → R D := defF 1 3 (
  (sSeq (sExp (eA (callF s_check_train) (aCons (eVar 0) aNil)))
  (sSeq (sSet 1 (eC (.int 1)))
  (sSeq (sFor (aItN true (eVar 0)) (putR 2) (sSet 1 (e2 mulD (eVar 1) (eA (callF s_places) (aCons (eVar 2) aNil)))))
  (sRet (eVar 1))))))
def s_stands_of : List D → R D := defF 1 6 (
  (sSeq (sExp (eA (callF s_check_train) (aCons (eVar 0) aNil)))
  (sSeq (sSetO 1 (aThen (aCons (eA mkTup aNil) aNil) mkLst))
  (sSeq (sFor (aItN true (eVar 0)) (putR 2) (sSeq (sSetO 3 (aThen aNil mkLst))
  (sSeq (sFreeze 1 (sFor (aItN true (eVar 1)) (putR 4) (sExt 3 (eOwn (aLc (aThen (aCons (eA (callF s_places) (aCons (eVar 2) aNil)) aNil) rng1) (putR 5) tYesM (e2 addD (eVar 4) (eA mkTup (aCons (eVar 5) aNil))) [5])))))
  (sMove 1 3))))
  (sRetV 1)))))
def s_law_all : List D → R D := defF 1 6 (
  (sSeq (sSet 1 (eOwn (aThen (aCons (eA mkTup aNil) aNil) mkLst)))
  (sSeq (sFor (aItN true (eVar 0)) (putR 2) (sSeq (sSetO 3 (aThen aNil mkLst))
  (sSeq (sFor (aItN true (eVar 1)) (putR 4) (sFor (aThen (aCons (eA (callF s_law_places) (aCons (eVar 2) aNil)) aNil) rng1) (putR 5) (sApp 3 (e2 addD (eVar 4) (eA mkTup (aCons (eVar 5) aNil))))))
  (sFreeze 3 (sSet 1 (eVar 3))))))
  (sRet (eVar 1)))))
def s_law_part_2 : List D → R D := defF 2 6 (
  (sSeq (sSet 2 (e2 modD (eVar 0) (eC (.int 8))))
  (sSeq (sSet 3 (e2 addD (eC (.int 1)) (e2 modD (e2 divD (eVar 0) (eC (.int 8))) (eA maxD (aCons (eC (.int 1)) (aCons (eA minD (aCons (eVar 1) (aCons (eC (.int 7)) aNil))) aNil))))))
  (sSeq (sIf (tOf (e2 ltD (eVar 2) (eC (.int 4)))) (sSeq (sSet 4 (eOwn (aLc (aThen (aCons (eVar 3) aNil) rng1) (putR 5) (tOf (e2 eqD (e2 modD (e2 divD (e2 divD (eVar 0) (eC (.int 64))) (e2 shlD (eC (.int 1)) (eVar 5))) (eC (.int 2))) (eC (.int 1)))) (eVar 5) [5])))
  (sSeq (sIf (tOf (e2 eqD (e2 modD (e2 divD (eVar 0) (eC (.int 8192))) (eC (.int 4))) (eC (.int 1)))) (sSet 4 (eOwn (aThen (aCons (e2 modD (e2 divD (eVar 0) (eC (.int 32768))) (eVar 3)) aNil) mkLst))) sNop)
  (sRet (eA mkTup (aCons (eC (.str "wheel")) (aCons (eVar 3) (aCons (eA tupleD (aCons (eVar 4) aNil)) aNil))))))) sNop)
  (sSeq (sIf (tOf (e2 eqD (eVar 2) (eC (.int 4)))) (sRet (eA mkTup (aCons (eC (.str "click")) aNil))) sNop)
  (sSeq (sIf (CT.tAnd (tOf (e2 eqD (eVar 2) (eC (.int 5)))) (tOf (e2 gtD (eVar 1) (eC (.int 1))))) (sRet (eA mkTup (aCons (eC (.str "rocker")) aNil))) sNop)
  (sRet (eA mkTup (aCons (eC (.str "spring")) (aCons (eVar 3) aNil))))))))))
def s_law_train_2 : List D → R D := defF 3 6 (
  (sSeq (sSetO 3 (aThen aNil mkLst))
  (sSeq (sSet 4 (eVar 2))
  (sSeq (sFor (aThen (aCons (e2 addD (eC (.int 1)) (e2 modD (eA (callF s_law_mix) (aCons (eVar 0) (aCons (eVar 1) aNil))) (eC (.int 5)))) aNil) rng1) (putR 5) (sSeq (sApp 3 (eA (callF s_law_part_2) (aCons (eA (callF s_law_mix) (aCons (eVar 0) (aCons (e2 addD (e2 addD (eVar 1) (eC (.int 1))) (eVar 5)) aNil))) (aCons (eVar 4) aNil))))
  (sSet 4 (e2 divD (eVar 4) (eA (callF s_law_places) (aCons (e2 ixD (eVar 3) (eVar 5)) aNil))))))
  (sRetV 3)))))
def s_is_stand : List D → R D := defF 2 4 (
  (sSeq (sIf (CT.tOr (CT.tNot (tOf (e1 (isiD "tuple") (eVar 1)))) (tOf (e2 neD (eA lenD (aCons (eVar 1) aNil)) (eA lenD (aCons (eVar 0) aNil))))) (sRet (eC (.bl false))) sNop)
  (sRet (eA allD (aCons (eOwn (aLc (aZip false (aCons (eVar 0) (aCons (eVar 1) aNil))) (gTupR 2 (gsCons (putR 2) (gsCons (putR 3) gsNil))) tYesM (eAnd (eA (callF s_is_whole) (aCons (eVar 3) aNil)) (eChain leD ltD (eC (.int 0)) (eVar 3) (eA (callF s_places) (aCons (eVar 2) aNil)))) [2, 3])) aNil)))))
def s_check_stand : List D → R D := defF 2 2 (
  (sSeq (sExp (eA (callF s_check_train) (aCons (eVar 0) aNil)))
  (sIf (CT.tNot (tOf (eA (callF s_is_stand) (aCons (eVar 0) (aCons (eVar 1) aNil))))) (sRaise "NoStand") sNop)))
def s_is_deed : List D → R D := defF 2 6 (
  (sSeq (sIf (CT.tOr (CT.tNot (tOf (e1 (isiD "tuple") (eVar 1)))) (CT.tOr (tOf (e2 neD (eA lenD (aCons (eVar 1) aNil)) (eC (.int 3)))) (CT.tNot (tOf (eA allD (aCons (eOwn (aLc (aItN false (eVar 1)) (putR 5) tYesM (eA (callF s_is_whole) (aCons (eVar 5) aNil)) [5])) aNil)))))) (sRet (eC (.bl false))) sNop)
  (sSeq (sAsg (eVar 1) (gTupR 3 (gsCons (putR 2) (gsCons (putR 3) (gsCons (putR 4) gsNil)))))
  (sRet (eAnd (eChain leD ltD (eC (.int 0)) (eVar 2) (eA lenD (aCons (eVar 0) aNil))) (eAnd (e2 inD (eVar 3) (eOwn (aThen (aCons (eC (.int 1)) (aCons (e2 subD (eC (.int 0)) (eC (.int 1))) aNil)) mkLst))) (e2 geD (eVar 4) (eC (.int 0)))))))))
def s_check_row : List D → R D := defF 2 3 (
  (sIf (CT.tOr (CT.tNot (tOf (e1 (isiD "list") (eVar 1)))) (CT.tNot (tOf (eA allD (aCons (eOwn (aLc (aItN false (eVar 1)) (putR 2) tYesM (eA (callF s_is_deed) (aCons (eVar 0) (aCons (eVar 2) aNil))) [2])) aNil))))) (sRaise "NoRow") sNop))
def s_walked : List D → R D := defF 3 8 (
  (sSeq (sSet 3 (eC (.int 0)))
  (sSeq (sFor (aItN true (eVar 2)) (gTupR 3 (gsCons (putR 4) (gsCons (putR 5) (gsCons (putR 6) gsNil)))) (sSeq (sAsg (eA (callF s_pushed_often) (aCons (eVar 0) (aCons (eVar 1) (aCons (eVar 4) (aCons (eVar 5) (aCons (eVar 6) aNil)))))) (gTupR 2 (gsCons (putR 1) (gsCons (putR 7) gsNil))))
  (sAug 3 augD (eVar 7))))
  (sRet (eA mkTup (aCons (eVar 1) (aCons (eVar 3) aNil)))))))
def s_left : List D → R D := defF 3 3 (
  (sSeq (sExp (eA (callF s_check_stand) (aCons (eVar 0) (aCons (eVar 1) aNil))))
  (sSeq (sExp (eA (callF s_check_row) (aCons (eVar 0) (aCons (eVar 2) aNil))))
  (sRet (eA (callF s_walked) (aCons (eVar 0) (aCons (eVar 1) (aCons (eVar 2) aNil))))))))
def s_law_row : List D → R D := defF 4 7 (
  (sSeq (sSetO 4 (aThen aNil mkLst))
  (sSeq (sFor (aThen (aCons (e2 modD (eA (callF s_law_mix) (aCons (eVar 1) (aCons (eVar 2) aNil))) (eC (.int 6))) aNil) rng1) (putR 5) (sSeq (sSet 6 (eA (callF s_law_mix) (aCons (eVar 1) (aCons (e2 addD (e2 addD (eVar 2) (eC (.int 1))) (eVar 5)) aNil))))
  (sApp 4 (eA mkTup (aCons (e2 modD (eVar 6) (eA lenD (aCons (eVar 0) aNil))) (aCons (e2 subD (eC (.int 1)) (e2 mulD (eC (.int 2)) (e2 modD (e2 divD (eVar 6) (eC (.int 5))) (eC (.int 2))))) (aCons (e2 modD (e2 divD (eVar 6) (eC (.int 10))) (e2 addD (eVar 3) (eC (.int 1)))) aNil)))))))
  (sRetV 4))))
def s_law_walked : List D → R D := defF 3 9 (
  (sSeq (sSet 3 (eC (.int 0)))
  (sSeq (sFor (aItN true (eVar 2)) (gTupR 3 (gsCons (putR 4) (gsCons (putR 5) (gsCons (putR 6) gsNil)))) (sFor (aThen (aCons (eVar 6) aNil) rng1) (putR 7) (sSeq (sAsg (eA (callF s_law_pushed) (aCons (eVar 0) (aCons (eVar 1) (aCons (eVar 4) (aCons (eVar 5) aNil))))) (gTupR 2 (gsCons (putR 1) (gsCons (putR 8) gsNil))))
  (sSet 3 (e2 addD (eVar 3) (eVar 8))))))
  (sRet (eA mkTup (aCons (eVar 1) (aCons (eVar 3) aNil)))))))
def s_law_part_often : List D → R D := defF 4 7 (
  (sSeq (sIf (tOf (e2 eqD (e2 ixD (eVar 0) (eC (.int 0))) (eC (.str "click")))) (sRet (eA mkTup (aCons (eC (.int 0)) (aCons (e2 mulD (eVar 3) (eA intD (aCons (e2 eqD (eVar 2) (eC (.int 1))) aNil))) aNil)))) sNop)
  (sSeq (sIf (tOf (e2 eqD (e2 ixD (eVar 0) (eC (.int 0))) (eC (.str "rocker")))) (sSeq (sIf (tOf (e2 eqD (eVar 3) (eC (.int 0)))) (sRet (eA mkTup (aCons (eVar 1) (aCons (eC (.int 0)) aNil)))) sNop)
  (sRet (eA mkTup (aCons (eA intD (aCons (e2 eqD (eVar 2) (eC (.int 1))) aNil)) (aCons (eA intD (aCons (eAnd (e2 eqD (eVar 2) (eC (.int 1))) (e2 eqD (eVar 1) (eC (.int 0)))) aNil)) aNil))))) sNop)
  (sSeq (sIf (tOf (e2 eqD (e2 ixD (eVar 0) (eC (.int 0))) (eC (.str "spring")))) (sSeq (sIf (tOf (e2 eqD (eVar 2) (eC (.int 1)))) (sRet (eA mkTup (aCons (e2 modD (e2 addD (eVar 1) (eVar 3)) (e2 ixD (eVar 0) (eC (.int 1)))) (aCons (e2 divD (e2 addD (eVar 1) (eVar 3)) (e2 ixD (eVar 0) (eC (.int 1)))) aNil)))) sNop)
  (sRet (eA mkTup (aCons (eA maxD (aCons (eC (.int 0)) (aCons (e2 subD (eVar 1) (eVar 3)) aNil))) (aCons (eC (.int 0)) aNil))))) sNop)
  (sSeq (sSet 4 (eC (.int 0)))
  (sSeq (sFor (aItN true (e2 ixD (eVar 0) (eC (.int 2)))) (putR 5) (sSeq (sSet 6 (e2 subD (eVar 1) (eVar 5)))
  (sIf (tOf (e2 eqD (eVar 2) (eC (.int 1)))) (sSet 4 (e2 subD (e2 addD (eVar 4) (e2 divD (e2 addD (eVar 6) (eVar 3)) (e2 ixD (eVar 0) (eC (.int 1))))) (e2 divD (eVar 6) (e2 ixD (eVar 0) (eC (.int 1)))))) (sSet 4 (e2 subD (e2 addD (eVar 4) (e2 divD (eVar 6) (e2 ixD (eVar 0) (eC (.int 1))))) (e2 divD (e2 subD (eVar 6) (eVar 3)) (e2 ixD (eVar 0) (eC (.int 1)))))))))
  (sRet (eA mkTup (aCons (e2 modD (e2 addD (eVar 1) (e2 mulD (eVar 2) (eVar 3))) (e2 ixD (eVar 0) (eC (.int 1)))) (aCons (eVar 4) aNil))))))))))
def s_law_often : List D → R D := defF 5 7 (
  (sSeq (sSetO 5 (aThen (aCons (eVar 1) aNil) listO))
  (sSeq (sFor (aThen (aCons (eVar 2) (aCons (eA lenD (aCons (eVar 0) aNil)) aNil)) rng2) (putR 6) (sAsg (eA (callF s_law_part_often) (aCons (e2 ixD (eVar 0) (eVar 6)) (aCons (e2 ixD (eVar 5) (eVar 6)) (aCons (eVar 3) (aCons (eVar 4) aNil))))) (gTupR 2 (gsCons (subR 5 (eVar 6)) (gsCons (putR 4) gsNil)))))
  (sRet (eA mkTup (aCons (eA tupleD (aCons (eVar 5) aNil)) (aCons (e2 mulD (eVar 3) (eVar 4)) aNil)))))))
def s_law_gone : List D → R D := defF 3 8 (
  (sSeq (sSet 3 (eC (.int 0)))
  (sSeq (sFor (aItN true (eVar 2)) (gTupR 3 (gsCons (putR 4) (gsCons (putR 5) (gsCons (putR 6) gsNil)))) (sSeq (sAsg (eA (callF s_law_often) (aCons (eVar 0) (aCons (eVar 1) (aCons (eVar 4) (aCons (eVar 5) (aCons (eVar 6) aNil)))))) (gTupR 2 (gsCons (putR 1) (gsCons (putR 7) gsNil))))
  (sSet 3 (e2 addD (eVar 3) (eVar 7)))))
  (sRet (eA mkTup (aCons (eVar 1) (aCons (eVar 3) aNil)))))))
def s_law_far : List D → R D := defF 3 3 (
  (sRet (e2 addD (e2 mulD (eA (callF s_law_mix) (aCons (eVar 0) (aCons (eVar 1) aNil))) (e2 ixD (eOwn (aThen (aCons (eC (.int 1)) (aCons (e2 powD (eC (.int 10)) (eC (.int 6))) (aCons (e2 powD (eC (.int 10)) (eC (.int 12))) (aCons (e2 powD (eC (.int 10)) (eC (.int 20))) aNil)))) mkLst)) (e2 modD (eVar 2) (eC (.int 4))))) (eA (callF s_law_mix) (aCons (eVar 0) (aCons (e2 addD (eVar 1) (eC (.int 1))) aNil))))))
def s_law_great_train : List D → R D := defF 2 10 (
  (sSeq (sSetO 2 (aThen aNil mkLst))
  (sSeq (sFor (aThen (aCons (e2 addD (eC (.int 1)) (e2 modD (eA (callF s_law_mix) (aCons (eVar 0) (aCons (eVar 1) aNil))) (eC (.int 8)))) aNil) rng1) (putR 3) (sSeq (sSet 4 (eA (callF s_law_mix) (aCons (eVar 0) (aCons (e2 addD (e2 addD (eVar 1) (eC (.int 1))) (eVar 3)) aNil))))
  (sSeq (sSet 5 (e2 addD (eC (.int 1)) (eA (callF s_law_far) (aCons (eVar 0) (aCons (e2 addD (e2 addD (eVar 1) (eC (.int 9))) (e2 mulD (eC (.int 2)) (eVar 3))) (aCons (eVar 4) aNil))))))
  (sSeq (sSetO 6 (aLc (aThen (aCons (eA minD (aCons (eVar 5) (aCons (eC (.int 8)) aNil))) aNil) rng1) (putR 8) (tOf (e2 eqD (e2 modD (e2 divD (e2 divD (eVar 4) (eC (.int 64))) (e2 shlD (eC (.int 1)) (eVar 8))) (eC (.int 2))) (eC (.int 1)))) (eVar 8) [8]))
  (sSeq (sIf (CT.tAnd (tOf (e2 gtD (eVar 5) (eC (.int 300)))) (tOf (e2 eqD (e2 modD (e2 divD (eVar 4) (eC (.int 4096))) (eC (.int 2))) (eC (.int 1))))) (sSetO 6 (a2 catL (eVar 6) (eOwn (aLc (aThen (aCons (e2 modD (e2 divD (eVar 4) (eC (.int 8192))) (eC (.int 20))) aNil) rng1) (putR 9) tYesM (e2 addD (e2 divD (eVar 5) (eC (.int 3))) (e2 mulD (eC (.int 5)) (eVar 9))) [9])))) sNop)
  (sSeq (sIf (CT.tAnd (tOf (e2 gtD (eVar 5) (eC (.int 20)))) (tOf (e2 eqD (e2 modD (e2 divD (eVar 4) (eC (.int 1024))) (eC (.int 2))) (eC (.int 1))))) (sApp 6 (e2 subD (e2 subD (eVar 5) (eC (.int 1))) (e2 modD (e2 divD (eVar 4) (eC (.int 2048))) (eC (.int 3))))) sNop)
  (sSeq (sSet 7 (eOwn (aThen (aCons (eA mkTup (aCons (eC (.str "wheel")) (aCons (eVar 5) (aCons (eA tupleD (aCons (eVar 6) aNil)) aNil)))) (aCons (eA mkTup (aCons (eC (.str "spring")) (aCons (eVar 5) aNil))) (aCons (eA mkTup (aCons (eC (.str "click")) aNil)) (aCons (eA mkTup (aCons (eC (.str "rocker")) aNil)) aNil)))) mkLst)))
  (sApp 2 (e2 ixD (eVar 7) (e2 ixD (eOwn (aThen (aCons (eC (.int 0)) (aCons (eC (.int 0)) (aCons (eC (.int 0)) (aCons (eC (.int 0)) (aCons (eC (.int 1)) (aCons (eC (.int 1)) (aCons (eC (.int 2)) (aCons (eC (.int 3)) aNil)))))))) mkLst)) (e2 modD (e2 divD (eVar 4) (eC (.int 4))) (eC (.int 8)))))))))))))
  (sRetV 2))))
def s_law_great_stand : List D → R D := defF 3 5 (
  (sRet (eA tupleD (aCons (eOwn (aLc (aEnum false (eVar 0)) (gTupR 2 (gsCons (putR 3) (gsCons (putR 4) gsNil))) tYesM (e2 modD (eA (callF s_law_far) (aCons (eVar 1) (aCons (e2 addD (eVar 2) (eVar 3)) (aCons (e2 addD (eVar 3) (eC (.int 1))) aNil)))) (eA (callF s_law_places) (aCons (eVar 4) aNil))) [3, 4])) aNil))))
def s_law_deeds : List D → R D := defF 3 7 (
  (sSeq (sSetO 3 (aThen aNil mkLst))
  (sSeq (sFor (aThen (aCons (e2 addD (eC (.int 1)) (e2 modD (eA (callF s_law_mix) (aCons (eVar 1) (aCons (eVar 2) aNil))) (eC (.int 5)))) aNil) rng1) (putR 4) (sSeq (sSet 5 (eA (callF s_law_mix) (aCons (eVar 1) (aCons (e2 addD (e2 addD (eVar 2) (eC (.int 1))) (eVar 4)) aNil))))
  (sSeq (sSet 6 (eA (callF s_law_far) (aCons (eVar 1) (aCons (e2 addD (e2 addD (eVar 2) (eC (.int 6))) (e2 mulD (eC (.int 2)) (eVar 4))) (aCons (e2 divD (eVar 5) (eC (.int 3))) aNil)))))
  (sApp 3 (eA mkTup (aCons (e2 modD (e2 divD (eVar 5) (eC (.int 12))) (eA lenD (aCons (eVar 0) aNil))) (aCons (e2 subD (eC (.int 1)) (e2 mulD (eC (.int 2)) (e2 modD (e2 divD (eVar 5) (eC (.int 64))) (eC (.int 2))))) (aCons (e2 mulD (eVar 6) (eA intD (aCons (e2 gtD (e2 modD (e2 divD (eVar 5) (eC (.int 128))) (eC (.int 16))) (eC (.int 0))) aNil))) aNil))))))))
  (sRetV 3))))
def s_left_often : List D → R D := defF 4 15 (
  (sSeq (sExp (eA (callF s_check_stand) (aCons (eVar 0) (aCons (eVar 1) aNil))))
  (sSeq (sExp (eA (callF s_check_row) (aCons (eVar 0) (aCons (eVar 2) aNil))))
  (sSeq (sIf (CT.tOr (CT.tNot (tOf (eA (callF s_is_whole) (aCons (eVar 3) aNil)))) (tOf (e2 ltD (eVar 3) (eC (.int 0))))) (sRaise "NoCount") sNop)
  (sSeq (sNewD 4)
  (sSeq (sSetO 5 (aThen aNil mkLst))
  (sSeq (sSet 6 (eC (.int 0)))
  (sSeq (sWhile (CT.tAnd (tOf (eInD false 4 (eVar 1))) (tOf (e2 ltD (eA lenD (aCons (eVar 5) aNil)) (eVar 3)))) (sSeq (sPutD 4 (eVar 1) (eA lenD (aCons (eVar 5) aNil)))
  (sSeq (sApp 5 (eVar 6))
  (sSeq (sAsg (eA (callF s_walked) (aCons (eVar 0) (aCons (eVar 1) (aCons (eVar 2) aNil)))) (gTupR 2 (gsCons (putR 1) (gsCons (putR 7) gsNil))))
  (sAug 6 augD (eVar 7))))))
  (sSeq (sIf (tOf (eInD false 4 (eVar 1))) (sRet (eA mkTup (aCons (eVar 1) (aCons (eVar 6) aNil)))) sNop)
  (sSeq (sSet 8 (eGetD 4 (eVar 1)))
  (sSeq (sSet 9 (e2 subD (eA lenD (aCons (eVar 5) aNil)) (eVar 8)))
  (sSeq (sSet 10 (e2 subD (eVar 3) (eA lenD (aCons (eVar 5) aNil))))
  (sSeq (sSet 11 (e2 subD (eVar 6) (e2 ixD (eVar 5) (eVar 8))))
  (sSeq (sSet 12 (e2 addD (eVar 8) (e2 modD (eVar 10) (eVar 9))))
  (sSeq (sItemsD 4 (gTupR 2 (gsCons (putR 13) (gsCons (putR 14) gsNil))) (sIf (tOf (e2 eqD (eVar 14) (eVar 12))) (sSet 1 (eVar 13)) sNop))
  (sRet (eA mkTup (aCons (eVar 1) (aCons (e2 subD (e2 addD (e2 addD (eVar 6) (e2 mulD (e2 divD (eVar 10) (eVar 9)) (eVar 11))) (e2 ixD (eVar 5) (eVar 12))) (e2 ixD (eVar 5) (eVar 8))) aNil)))))))))))))))))))
def s_law_cell_at : List D → R D := defF 2 2 (
  (sSeq (sIf (tOf (e2 ltD (eVar 1) (eA lenD (aCons (eVar 0) aNil)))) (sRet (e2 ixD (eVar 0) (eVar 1))) sNop)
  (sRet (eC (.int 0)))))
def s_law_round : List D → R D := defF 4 11 (
  (sSeq (sSetO 4 (aThen (aCons (eVar 1) aNil) mkLst))
  (sSeq (sSetO 5 (aThen (aCons (eC (.int 0)) aNil) mkLst))
  (sWhile (tOf (eC (.bl true))) (sSeq (sAsg (eA (callF s_law_gone) (aCons (eVar 0) (aCons (e2 ixD (eVar 4) (e2 subD (eA lenD (aCons (eVar 4) aNil)) (eC (.int 1)))) (aCons (eVar 2) aNil)))) (gTupR 2 (gsCons (putR 1) (gsCons (putR 6) gsNil))))
  (sSeq (sIf (tOf (e2 inD (eVar 1) (eVar 4))) (sSeq (sSet 7 (indexE (eVar 4) (eVar 1)))
  (sSeq (sSet 8 (e2 subD (eA lenD (aCons (eVar 4) aNil)) (eVar 7)))
  (sSeq (sSet 9 (e2 subD (e2 addD (e2 ixD (eVar 5) (e2 subD (eA lenD (aCons (eVar 5) aNil)) (eC (.int 1)))) (eVar 6)) (e2 ixD (eVar 5) (eVar 7))))
  (sSeq (sIf (tOf (e2 ltD (eVar 3) (eA lenD (aCons (eVar 4) aNil)))) (sRet (eA mkTup (aCons (e2 ixD (eVar 4) (eVar 3)) (aCons (e2 ixD (eVar 5) (eVar 3)) aNil)))) sNop)
  (sSeq (sSet 10 (e2 modD (e2 subD (eVar 3) (eVar 7)) (eVar 8)))
  (sRet (eA mkTup (aCons (e2 ixD (eVar 4) (e2 addD (eVar 7) (eVar 10))) (aCons (e2 addD (e2 ixD (eVar 5) (e2 addD (eVar 7) (eVar 10))) (e2 mulD (e2 divD (e2 subD (eVar 3) (eVar 7)) (eVar 8)) (eVar 9))) aNil))))))))) sNop)
  (sSeq (sApp 4 (eVar 1))
  (sApp 5 (e2 addD (e2 ixD (eVar 5) (e2 subD (eA lenD (aCons (eVar 5) aNil)) (eC (.int 1)))) (eVar 6))))))))))
def s_law_plain : List D → R D := defF 4 7 (
  (sSeq (sSet 4 (eC (.int 0)))
  (sSeq (sFor (aThen (aCons (eVar 3) aNil) rng1) (putR 5) (sSeq (sAsg (eA (callF s_law_gone) (aCons (eVar 0) (aCons (eVar 1) (aCons (eVar 2) aNil)))) (gTupR 2 (gsCons (putR 1) (gsCons (putR 6) gsNil))))
  (sSet 4 (e2 addD (eVar 4) (eVar 6)))))
  (sRet (eA mkTup (aCons (eVar 1) (aCons (eVar 4) aNil)))))))
def s_law_long : List D → R D := defF 1 6 (
  (sSeq (sSet 1 (e2 addD (eC (.int 1100)) (e2 modD (eA (callF s_law_mix) (aCons (eVar 0) (aCons (eC (.int 20)) aNil))) (eC (.int 900)))))
  (sSeq (sSet 2 (e2 addD (e2 mulD (eA (callF s_law_mix) (aCons (eVar 0) (aCons (eC (.int 21)) aNil))) (e2 powD (eC (.int 10)) (eC (.int 15)))) (eA (callF s_law_mix) (aCons (eVar 0) (aCons (eC (.int 22)) aNil)))))
  (sSeq (sFor (aItN true (eOwn (aThen (aCons (eOwn (aThen (aCons (eA mkTup (aCons (eC (.str "wheel")) (aCons (eVar 1) (aCons (eA mkTup (aCons (eC (.int 0)) (aCons (eC (.int 7)) aNil))) aNil)))) aNil) mkLst)) (aCons (eOwn (aThen (aCons (eA mkTup (aCons (eC (.str "spring")) (aCons (eVar 1) aNil))) aNil) mkLst)) aNil)) mkLst))) (putR 3) (sFor (aItN true (eOwn (aThen (aCons (eC (.int 1)) (aCons (e2 subD (eC (.int 0)) (eC (.int 1))) aNil)) mkLst))) (putR 4) (sSeq (sSet 5 (eA (callF s_left_often) (aCons (eVar 3) (aCons (eA mkTup (aCons (e2 divD (eVar 1) (eC (.int 2))) aNil)) (aCons (eOwn (aThen (aCons (eA mkTup (aCons (eC (.int 0)) (aCons (eVar 4) (aCons (eC (.int 1)) aNil)))) aNil) mkLst)) (aCons (eVar 2) aNil))))))
  (sIf (CT.tNot (tOf (eA (callF s_law_is) (aCons (eVar 5) (aCons (eA (callF s_law_gone) (aCons (eVar 3) (aCons (eA mkTup (aCons (e2 divD (eVar 1) (eC (.int 2))) aNil)) (aCons (eOwn (aThen (aCons (eA mkTup (aCons (eC (.int 0)) (aCons (eVar 4) (aCons (eVar 2) aNil)))) aNil) mkLst)) aNil)))) aNil))))) (sRet (eC (.bl false))) sNop))))
  (sRet (eC (.bl true)))))))
def s_law_places_2 : List D → R D := defF 1 1 (
  (sSeq (sIf (tOf (e2 inD (e2 ixD (eVar 0) (eC (.int 0))) (eOwn (aThen (aCons (eC (.str "wheel")) (aCons (eC (.str "spring")) aNil)) mkLst)))) (sRet (e2 ixD (eVar 0) (eC (.int 1)))) sNop)
  (sRet (e2 addD (eC (.int 1)) (eA intD (aCons (e2 eqD (e2 ixD (eVar 0) (eC (.int 0))) (eC (.str "rocker"))) aNil))))))
def s_rows_alike : List D → R D := defF 3 4 (
  (sSeq (sExp (eA (callF s_check_train) (aCons (eVar 0) aNil)))
  (sSeq (sExp (eA (callF s_check_row) (aCons (eVar 0) (aCons (eVar 1) aNil))))
  (sSeq (sExp (eA (callF s_check_row) (aCons (eVar 0) (aCons (eVar 2) aNil))))
  (sSeq (sFor (aItN true (eA (callF s_stands_of) (aCons (eVar 0) aNil))) (putR 3) (sIf (tOf (e2 neD (eA (callF s_walked) (aCons (eVar 0) (aCons (eVar 3) (aCons (eVar 1) aNil)))) (eA (callF s_walked) (aCons (eVar 0) (aCons (eVar 3) (aCons (eVar 2) aNil)))))) (sRet (eA mkTup (aCons (eC (.str "apart")) (aCons (eVar 3) aNil)))) sNop))
  (sRet (eA mkTup (aCons (eC (.str "alike")) aNil))))))))
def s_law_other : List D → R D := defF 3 13 (
  (sSeq (sSet 3 (eA (callF s_law_mix) (aCons (eVar 2) (aCons (eC (.int 14)) aNil))))
  (sSeq (sSet 4 (e2 modD (eVar 3) (eC (.int 8))))
  (sSeq (sIf (CT.tOr (tOf (e2 eqD (eVar 4) (eC (.int 0)))) (tOf (e2 eqD (eVar 1) (eOwn (aThen aNil mkLst))))) (sRet (eA (callF s_law_row) (aCons (eVar 0) (aCons (eVar 2) (aCons (eC (.int 15)) (aCons (eC (.int 30)) aNil)))))) sNop)
  (sSeq (sSet 5 (e2 modD (e2 divD (eVar 3) (eC (.int 8))) (eA lenD (aCons (eVar 1) aNil))))
  (sSeq (sAsg (e2 ixD (eVar 1) (eVar 5)) (gTupR 3 (gsCons (putR 6) (gsCons (putR 7) (gsCons (putR 8) gsNil)))))
  (sSeq (sIf (tOf (e2 eqD (eVar 4) (eC (.int 1)))) (sSeq (sSet 9 (e2 modD (e2 divD (eVar 3) (eC (.int 64))) (eA lenD (aCons (eVar 1) aNil))))
  (sSeq (sSetO 10 (aThen (aCons (eVar 1) aNil) listO))
  (sSeq (sAsg (eA mkTup (aCons (e2 ixD (eVar 1) (eVar 9)) (aCons (e2 ixD (eVar 1) (eVar 5)) aNil))) (gTupR 2 (gsCons (subR 10 (eVar 5)) (gsCons (subR 10 (eVar 9)) gsNil))))
  (sRetV 10)))) sNop)
  (sSeq (sIf (tOf (e2 eqD (eVar 4) (eC (.int 2)))) (sSeq (sSet 11 (e2 modD (e2 divD (eVar 3) (eC (.int 64))) (eA lenD (aCons (eVar 0) aNil))))
  (sRet (e2 addD (e2 addD (eCut (eVar 1) pNo (pSo (eVar 5))) (eOwn (aThen (aCons (eA mkTup (aCons (eVar 11) (aCons (eC (.int 1)) (aCons (eC (.int 1)) aNil)))) (aCons (eA mkTup (aCons (eVar 11) (aCons (e2 subD (eC (.int 0)) (eC (.int 1))) (aCons (eC (.int 1)) aNil)))) aNil)) mkLst))) (eCut (eVar 1) (pSo (eVar 5)) pNo)))) sNop)
  (sSeq (sIf (tOf (e2 eqD (eVar 4) (eC (.int 3)))) (sRet (e2 addD (e2 addD (eCut (eVar 1) pNo (pSo (eVar 5))) (eOwn (aThen (aCons (eA mkTup (aCons (eVar 6) (aCons (eVar 7) (aCons (e2 divD (eVar 8) (eC (.int 3))) aNil)))) (aCons (eA mkTup (aCons (eVar 6) (aCons (eVar 7) (aCons (e2 subD (eVar 8) (e2 divD (eVar 8) (eC (.int 3)))) aNil)))) aNil)) mkLst))) (eCut (eVar 1) (pSo (e2 addD (eVar 5) (eC (.int 1)))) pNo))) sNop)
  (sSeq (sIf (tOf (e2 eqD (eVar 4) (eC (.int 4)))) (sSeq (sSet 12 (e2 mulD (eA (callF s_law_places) (aCons (e2 ixD (eVar 0) (eVar 6)) aNil)) (e2 addD (eC (.int 1)) (e2 modD (e2 divD (eVar 3) (eC (.int 64))) (eC (.int 3))))))
  (sRet (e2 addD (e2 addD (eCut (eVar 1) pNo (pSo (eVar 5))) (eOwn (aThen (aCons (eA mkTup (aCons (eVar 6) (aCons (eVar 7) (aCons (e2 addD (eVar 8) (eVar 12)) aNil)))) aNil) mkLst))) (eCut (eVar 1) (pSo (e2 addD (eVar 5) (eC (.int 1)))) pNo)))) sNop)
  (sSeq (sIf (tOf (e2 eqD (eVar 4) (eC (.int 5)))) (sRet (eCut (eVar 1) pNo (pSo (e1 negD (eC (.int 1)))))) sNop)
  (sSeq (sIf (tOf (e2 eqD (eVar 4) (eC (.int 6)))) (sRet (e2 addD (e2 addD (eCut (eVar 1) pNo (pSo (eVar 5))) (eOwn (aThen (aCons (eA mkTup (aCons (eVar 6) (aCons (eVar 7) (aCons (eC (.int 0)) aNil)))) aNil) mkLst))) (eCut (eVar 1) (pSo (eVar 5)) pNo))) sNop)
  (sRet (eOwn (aThen (aCons (eVar 1) aNil) listO)))))))))))))))
def s_law_due_3 : List D → R D := defF 3 4 (
  (sSeq (sFor (aItN true (eA (callF s_law_all) (aCons (eVar 0) aNil))) (putR 3) (sIf (tOf (e2 neD (eA (callF s_law_gone) (aCons (eVar 0) (aCons (eVar 3) (aCons (eVar 1) aNil)))) (eA (callF s_law_gone) (aCons (eVar 0) (aCons (eVar 3) (aCons (eVar 2) aNil)))))) (sRet (eA mkTup (aCons (eC (.str "apart")) (aCons (eVar 3) aNil)))) sNop))
  (sRet (eA mkTup (aCons (eC (.str "alike")) aNil)))))
def s_common : List D → R D := defF 2 2 (
  (sSeq (sWhile (tOf (e2 neD (eVar 1) (eC (.int 0)))) (sPar 0 1 (eVar 1) (e2 modD (eVar 0) (eVar 1))))
  (sRet (eVar 0))))
def s_tail_and_round : List D → R (D × Option D × Option D) := defB 3 9 (
  (bSeq (sNewD 3)
  (bSeq (sSetO 4 (aThen aNil mkLst))
  (bSeq (sSet 5 (eVar 2))
  (bSeq (sWhile (CT.tAnd (tOf (eInD false 3 (eVar 5))) (tOf (eInD false 1 (eVar 5)))) (sSeq (sPutD 3 (eVar 5) (eLenD 3))
  (sSeq (sApp 4 (eVar 5))
  (sSet 5 (eGetD 0 (eVar 5))))))
  (bSeq (sIf (tOf (eInD true 1 (eVar 5))) (sAsg (eGetD 1 (eVar 5)) (gTupR 2 (gsCons (putR 6) (gsCons (putR 7) gsNil)))) (sSeq (sSet 6 (eC (.int 0)))
  (sSeq (sSet 7 (e2 subD (eLenD 3) (eGetD 3 (eVar 5))))
  (sSeq (sFreeze 4 (sFor (aItN true (eCut (eVar 4) (pSo (eGetD 3 (eVar 5))) pNo)) (putR 8) (sPutD 1 (eVar 8) (eA mkTup (aCons (eC (.int 0)) (aCons (eVar 7) aNil))))))
  (sSetO 4 (aCut (eVar 4) pNo (pSo (eGetD 3 (eVar 5)))))))))
  (bSeq (sFreeze 4 (sFor (aRev true (eVar 4)) (putR 8) (sSeq (sAug 6 augD (eC (.int 1)))
  (sPutD 1 (eVar 8) (eA mkTup (aCons (eVar 6) (aCons (eVar 7) aNil)))))))
  (bRet (eGetD 1 (eVar 2))))))))))
def s_row_round : List D → R D := defF 2 9 (
  (sSeq (sExp (eA (callF s_check_train) (aCons (eVar 0) aNil)))
  (sSeq (sExp (eA (callF s_check_row) (aCons (eVar 0) (aCons (eVar 1) aNil))))
  (sSeq (sNewD 2)
  (sSeq (sFor (aItN true (eA (callF s_stands_of) (aCons (eVar 0) aNil))) (putR 3) (sPutD 2 (eVar 3) (e2 ixD (eA (callF s_walked) (aCons (eVar 0) (aCons (eVar 3) (aCons (eVar 1) aNil)))) (eC (.int 0)))))
  (sSeq (sSet 4 (eC (.int 0)))
  (sSeq (sSet 5 (eC (.int 1)))
  (sSeq (sNewD 6)
  (sSeq (sKeysD 2 (putR 3) (sSeq (sAsgB 2 6 s_tail_and_round (aCons (eVar 3) aNil) (gTupR 2 (gsCons (putR 7) (gsCons (putR 8) gsNil))))
  (sSeq (sSet 4 (eA maxD (aCons (eVar 4) (aCons (eVar 7) aNil))))
  (sSet 5 (e2 divD (e2 mulD (eVar 5) (eVar 8)) (eA (callF s_common) (aCons (eVar 5) (aCons (eVar 8) aNil))))))))
  (sRet (eA mkTup (aCons (eVar 4) (aCons (eVar 5) aNil)))))))))))))
def s_law_divisor : List D → R D := defF 2 2 (
  (sSeq (sWhile (tOf (e2 neD (eVar 1) (eC (.int 0)))) (sPar 0 1 (eVar 1) (e2 modD (eVar 0) (eVar 1))))
  (sRet (eVar 0))))
def s_law_same : List D → R D := defF 4 5 (
  (sSeq (sFor (aItN true (eA (callF s_stands_of) (aCons (eVar 0) aNil))) (putR 4) (sIf (tOf (e2 neD (e2 ixD (eA (callF s_left_often) (aCons (eVar 0) (aCons (eVar 4) (aCons (eVar 1) (aCons (eVar 2) aNil))))) (eC (.int 0))) (e2 ixD (eA (callF s_left_often) (aCons (eVar 0) (aCons (eVar 4) (aCons (eVar 1) (aCons (eVar 3) aNil))))) (eC (.int 0))))) (sRet (eC (.bl false))) sNop))
  (sRet (eC (.bl true)))))
def s_law_primes : List D → R D := defF 1 3 (
  (sSeq (sSetO 1 (aThen aNil mkLst))
  (sSeq (sSet 2 (eC (.int 2)))
  (sSeq (sWhile (tOf (e2 leD (e2 mulD (eVar 2) (eVar 2)) (eVar 0))) (sSeq (sIf (tOf (e2 eqD (e2 modD (eVar 0) (eVar 2)) (eC (.int 0)))) (sApp 1 (eVar 2)) sNop)
  (sSeq (sWhile (tOf (e2 eqD (e2 modD (eVar 0) (eVar 2)) (eC (.int 0)))) (sSet 0 (e2 divD (eVar 0) (eVar 2))))
  (sSet 2 (e2 addD (eVar 2) (eC (.int 1)))))))
  (sRet (e2 addD (eVar 1) (e2 repD (eOwn (aThen (aCons (eVar 0) aNil) mkLst)) (eA intD (aCons (e2 gtD (eVar 0) (eC (.int 1))) aNil)))))))))
def s_law_round_right : List D → R D := defF 3 6 (
  (sSeq (sAsg (eA (callF s_row_round) (aCons (eVar 0) (aCons (eVar 1) aNil))) (gTupR 2 (gsCons (putR 3) (gsCons (putR 4) gsNil))))
  (sSeq (sIf (CT.tOr (tOf (e2 ltD (eVar 3) (eC (.int 0)))) (CT.tOr (tOf (e2 ltD (eVar 4) (eC (.int 1)))) (CT.tNot (tOf (eA (callF s_law_same) (aCons (eVar 0) (aCons (eVar 1) (aCons (eVar 3) (aCons (e2 addD (eVar 3) (eVar 4)) aNil))))))))) (sRet (eC (.bl false))) sNop)
  (sSeq (sIf (CT.tNot (tOf (eA (callF s_law_same) (aCons (eVar 0) (aCons (eVar 1) (aCons (e2 addD (eVar 3) (eC (.int 3))) (aCons (e2 addD (e2 addD (eVar 3) (eC (.int 3))) (e2 mulD (eVar 4) (eVar 2))) aNil))))))) (sRet (eC (.bl false))) sNop)
  (sSeq (sIf (CT.tAnd (tOf (e2 gtD (eVar 3) (eC (.int 0)))) (tOf (eA (callF s_law_same) (aCons (eVar 0) (aCons (eVar 1) (aCons (e2 subD (eVar 3) (eC (.int 1))) (aCons (e2 addD (e2 subD (eVar 3) (eC (.int 1))) (eVar 4)) aNil))))))) (sRet (eC (.bl false))) sNop)
  (sSeq (sFor (aItN true (eA (callF s_law_primes) (aCons (eVar 4) aNil))) (putR 5) (sIf (tOf (eA (callF s_law_same) (aCons (eVar 0) (aCons (eVar 1) (aCons (eVar 3) (aCons (e2 addD (eVar 3) (e2 divD (eVar 4) (eVar 5))) aNil)))))) (sRet (eC (.bl false))) sNop))
  (sRet (eC (.bl true)))))))))
def s_law_pair_right : List D → R D := defF 4 7 (
  (sSeq (sSet 4 (eA (callF s_rows_alike) (aCons (eVar 0) (aCons (eVar 1) (aCons (eVar 2) aNil)))))
  (sSeq (sSet 5 (eA (callF s_stands_of) (aCons (eVar 0) aNil)))
  (sSeq (sIf (tOf (e2 eqD (eVar 4) (eA mkTup (aCons (eC (.str "alike")) aNil)))) (sSeq (sIf (tOf (e2 neD (eA (callF s_rows_alike) (aCons (eVar 0) (aCons (e2 addD (eVar 3) (eVar 1)) (aCons (e2 addD (eVar 3) (eVar 2)) aNil)))) (eVar 4))) (sRet (eC (.bl false))) sNop)
  (sRet (e2 eqD (eA (callF s_rows_alike) (aCons (eVar 0) (aCons (e2 addD (eVar 1) (eVar 3)) (aCons (e2 addD (eVar 2) (eVar 3)) aNil)))) (eVar 4)))) sNop)
  (sSeq (sFor (aItN true (eCut (eVar 5) pNo (pSo (indexE (eVar 5) (e2 ixD (eVar 4) (eC (.int 1))))))) (putR 6) (sIf (tOf (e2 neD (eA (callF s_left) (aCons (eVar 0) (aCons (eVar 6) (aCons (eVar 1) aNil)))) (eA (callF s_left) (aCons (eVar 0) (aCons (eVar 6) (aCons (eVar 2) aNil)))))) (sRet (eC (.bl false))) sNop))
  (sRet (eAnd (e2 neD (eA (callF s_left) (aCons (eVar 0) (aCons (e2 ixD (eVar 4) (eC (.int 1))) (aCons (eVar 1) aNil)))) (eA (callF s_left) (aCons (eVar 0) (aCons (e2 ixD (eVar 4) (eC (.int 1))) (aCons (eVar 2) aNil))))) (e2 eqD (eA (callF s_rows_alike) (aCons (eVar 0) (aCons (eVar 2) (aCons (eVar 1) aNil)))) (eVar 4)))))))))
def s_law_12 : List D → R D := defF 1 9 (
  (sSeq (sSet 0 (eA (callF s_law_cut) (aCons (eVar 0) aNil)))
  (sSeq (sFor (aItN true (e2 addD (eCut (eVar 0) pNo (pSo (eC (.int 3)))) (eOwn (aThen (aCons (eC (.int 0)) aNil) mkLst)))) (putR 1) (sSeq (sSet 2 (eA (callF s_law_train_2) (aCons (eVar 1) (aCons (eC (.int 0)) (aCons (eC (.int 60)) aNil)))))
  (sSeq (sSet 3 (eA (callF s_law_row) (aCons (eVar 2) (aCons (eVar 1) (aCons (eC (.int 8)) (aCons (eC (.int 30)) aNil))))))
  (sSeq (sSet 4 (eA (callF s_law_row) (aCons (eVar 2) (aCons (eVar 1) (aCons (eC (.int 14)) (aCons (eC (.int 3)) aNil))))))
  (sSeq (sSet 5 (eA (callF s_law_row) (aCons (eVar 2) (aCons (eVar 1) (aCons (eC (.int 20)) (aCons (eC (.int 9)) aNil))))))
  (sSeq (sIf (CT.tNot (tOf (eA (callF s_law_round_right) (aCons (eVar 2) (aCons (eVar 3) (aCons (e2 addD (e2 mulD (eA (callF s_law_mix) (aCons (eVar 1) (aCons (eC (.int 26)) aNil))) (e2 powD (eC (.int 10)) (eC (.int 12)))) (eC (.int 1))) aNil)))))) (sRet (eC (.bl false))) sNop)
  (sSeq (sSet 6 (eOwn (aThen (aCons (eA mkTup (aCons (eVar 4) (aCons (e2 addD (eVar 4) (eOwn (aThen (aCons (eA mkTup (aCons (eC (.int 0)) (aCons (eC (.int 1)) (aCons (eC (.int 0)) aNil)))) aNil) mkLst))) aNil))) (aCons (eA mkTup (aCons (eVar 3) (aCons (eVar 4) aNil))) (aCons (eA mkTup (aCons (e2 addD (eVar 3) (eVar 4)) (aCons (e2 addD (eVar 4) (eVar 3)) aNil))) aNil))) mkLst)))
  (sFor (aItN true (eVar 6)) (gTupR 2 (gsCons (putR 7) (gsCons (putR 8) gsNil))) (sIf (CT.tNot (tOf (eA (callF s_law_pair_right) (aCons (eVar 2) (aCons (eVar 7) (aCons (eVar 8) (aCons (eVar 5) aNil))))))) (sRet (eC (.bl false))) sNop)))))))))
  (sRet (eC (.bl true))))))
def s_worn : List D → R D := defF 2 7 (
  (sSeq (sExp (eA (callF s_check_train) (aCons (eVar 0) aNil)))
  (sSeq (sIf (tOf (e1 isNonD (eVar 1))) (sRetO (aThen (aCons (eVar 0) aNil) listO)) sNop)
  (sSeq (sAsg (eVar 1) (gTupR 2 (gsCons (putR 2) (gsCons (putR 3) gsNil))))
  (sSeq (sSet 4 (e2 ixD (eVar 0) (eVar 2)))
  (sSeq (sSet 5 (eA tupleD (aCons (eOwn (aLc (aItN false (e2 ixD (eVar 4) (eC (.int 2)))) (putR 6) (tOf (e2 neD (eVar 6) (eVar 3))) (eVar 6) [6])) aNil)))
  (sRetO (a2 catL (e2 addD (eCut (eVar 0) pNo (pSo (eVar 2))) (eOwn (aThen (aCons (eA mkTup (aCons (eC (.str "wheel")) (aCons (e2 ixD (eVar 4) (eC (.int 1))) (aCons (eVar 5) aNil)))) aNil) mkLst))) (eCut (eVar 0) (pSo (e2 addD (eVar 2) (eC (.int 1)))) pNo)))))))))
def s_law_digit : List D → R D := defF 3 4 (
  (sSeq (sFor (aThen (aCons (eVar 2) aNil) rng1) (putR 3) (sSet 0 (e2 divD (eVar 0) (eVar 1))))
  (sRet (e2 modD (eVar 0) (eVar 1)))))
def s_law_part_7 : List D → R D := defF 2 5 (
  (sSeq (sSet 2 (e2 addD (eC (.int 1)) (e2 modD (e2 divD (eVar 0) (eC (.int 8))) (eVar 1))))
  (sSeq (sIf (tOf (e2 gtD (e2 modD (eVar 0) (eC (.int 8))) (eC (.int 3)))) (sRet (e2 ixD (eOwn (aThen (aCons (eA mkTup (aCons (eC (.str "click")) aNil)) (aCons (eA mkTup (aCons (eC (.str "rocker")) aNil)) (aCons (eA mkTup (aCons (eC (.str "spring")) (aCons (eVar 2) aNil))) (aCons (eA mkTup (aCons (eC (.str "rocker")) aNil)) aNil)))) mkLst)) (e2 modD (eVar 0) (eC (.int 4))))) sNop)
  (sSeq (sSet 3 (eOwn (aLc (aThen (aCons (eVar 2) aNil) rng1) (putR 4) (CT.tOr (tOf (e2 eqD (eA (callF s_law_digit) (aCons (e2 divD (eVar 0) (eC (.int 64))) (aCons (eC (.int 2)) (aCons (eVar 4) aNil)))) (eC (.int 1)))) (tOf (e2 eqD (e2 modD (e2 divD (eVar 0) (eC (.int 512))) (eC (.int 5))) (eC (.int 1))))) (eVar 4) [4])))
  (sRet (eA mkTup (aCons (eC (.str "wheel")) (aCons (eVar 2) (aCons (eA tupleD (aCons (eVar 3) aNil)) aNil)))))))))
def s_law_train_9 : List D → R D := defF 5 9 (
  (sSeq (sSetO 5 (aThen aNil mkLst))
  (sSeq (sSet 6 (eA mkTup aNil))
  (sSeq (sFor (aThen (aCons (eVar 2) aNil) rng1) (putR 7) (sSeq (sSet 8 (eA (callF s_law_part_7) (aCons (eA (callF s_law_mix) (aCons (eVar 0) (aCons (e2 addD (eVar 1) (e2 mulD (eC (.int 2)) (eVar 7))) aNil))) (aCons (eVar 3) aNil))))
  (sSeq (sIf (tOf (e2 gtD (eA (callF s_law_places_2) (aCons (eVar 8) aNil)) (eVar 4))) (sSet 8 (eA mkTup (aCons (eC (.str "click")) aNil))) sNop)
  (sSeq (sSet 4 (e2 divD (eVar 4) (eA (callF s_law_places_2) (aCons (eVar 8) aNil))))
  (sSeq (sApp 5 (eVar 8))
  (sSet 6 (e2 addD (eVar 6) (eA mkTup (aCons (e2 modD (eA (callF s_law_mix) (aCons (eVar 0) (aCons (e2 addD (e2 addD (eVar 1) (e2 mulD (eC (.int 2)) (eVar 7))) (eC (.int 1))) aNil))) (eA (callF s_law_places_2) (aCons (eVar 8) aNil))) aNil)))))))))
  (sRet (eA mkTup (aCons (eVar 5) (aCons (eVar 6) aNil))))))))
def s_joined : List D → R D := defF 2 2 (
  (sSeq (sExp (eA (callF s_check_train) (aCons (eVar 0) aNil)))
  (sSeq (sExp (eA (callF s_check_train) (aCons (eVar 1) aNil)))
  (sRetO (a2 catL (eVar 0) (eVar 1))))))
def s_together : List D → R D := defF 4 4 (
  (sSeq (sExp (eA (callF s_check_stand) (aCons (eVar 0) (aCons (eVar 1) aNil))))
  (sSeq (sExp (eA (callF s_check_stand) (aCons (eVar 2) (aCons (eVar 3) aNil))))
  (sRet (e2 addD (eVar 1) (eVar 3))))))
def s_parted : List D → R D := defF 3 3 (
  (sSeq (sExp (eA (callF s_check_train) (aCons (eVar 0) aNil)))
  (sSeq (sExp (eA (callF s_check_train) (aCons (eVar 1) aNil)))
  (sSeq (sIf (CT.tNot (tOf (eA (callF s_is_stand) (aCons (e2 addD (eVar 0) (eVar 1)) (aCons (eVar 2) aNil))))) (sRaise "NoStand") sNop)
  (sRet (eA mkTup (aCons (eCut (eVar 2) pNo (pSo (eA lenD (aCons (eVar 0) aNil)))) (aCons (eCut (eVar 2) (pSo (eA lenD (aCons (eVar 0) aNil))) pNo) aNil))))))))
def s_law_both_3 : List D → R D := defF 4 10 (
  (sSeq (sSet 4 (eOwn (aThen (aCons (eOwn (aThen (aCons (eVar 0) aNil) listO)) (aCons (eOwn (aThen (aCons (eVar 2) aNil) listO)) aNil)) mkLst)))
  (sSeq (sFor (aThen (aCons (eC (.int 2)) aNil) rng1) (putR 5) (sSeq (sSetO 6 (aThen (aCons (e2 ixD (eVar 4) (eC (.int 0))) (aCons (e2 ixD (eVar 4) (eC (.int 1))) aNil)) (callO s_joined)))
  (sSeq (sIf (CT.tOr (CT.tNot (tOf (e1 (isiD "list") (eVar 6)))) (CT.tOr (tOf (e2 neD (eVar 6) (e2 addD (eVar 0) (eVar 2)))) (tOf (e2 neD (eVar 4) (eOwn (aThen (aCons (eVar 0) (aCons (eVar 2) aNil)) mkLst)))))) (sRet (eC (.bl false))) sNop)
  (sSeq (sApp 6 (eA mkTup (aCons (eC (.str "click")) aNil)))
  (sAsg (eA mkTup (aCons (eC (.str "rocker")) aNil)) (subR 6 (eC (.int 0))))))))
  (sSeq (sSet 7 (eA (callF s_together) (aCons (e2 ixD (eVar 4) (eC (.int 0))) (aCons (eVar 1) (aCons (e2 ixD (eVar 4) (eC (.int 1))) (aCons (eVar 3) aNil))))))
  (sSeq (sIf (CT.tOr (CT.tNot (tOf (e1 (isiD "tuple") (eVar 7)))) (tOf (e2 neD (eVar 7) (e2 addD (eVar 1) (eVar 3))))) (sRet (eC (.bl false))) sNop)
  (sSeq (sSet 8 (eA (callF s_parted) (aCons (e2 ixD (eVar 4) (eC (.int 0))) (aCons (e2 ixD (eVar 4) (eC (.int 1))) (aCons (eVar 7) aNil)))))
  (sSeq (sIf (CT.tOr (CT.tNot (tOf (e1 (isiD "tuple") (eVar 8)))) (CT.tOr (tOf (e2 neD (eVar 8) (eA mkTup (aCons (eVar 1) (aCons (eVar 3) aNil))))) (tOf (e2 inD (eC (.bl false)) (eOwn (aLc (aItN false (eVar 8)) (putR 9) tYesM (e1 (isiD "tuple") (eVar 9)) [9])))))) (sRet (eC (.bl false))) sNop)
  (sRet (e2 eqD (eVar 4) (eOwn (aThen (aCons (eVar 0) (aCons (eVar 2) aNil)) mkLst)))))))))))
def s_check_signs : List D → R D := defF 1 2 (
  (sIf (CT.tOr (CT.tNot (tOf (e1 (isiD "list") (eVar 0)))) (CT.tNot (tOf (eA allD (aCons (eOwn (aLc (aItN false (eVar 0)) (putR 1) tYesM (eAnd (eA (callF s_is_whole) (aCons (eVar 1) aNil)) (eChain leD leD (e1 negD (eC (.int 1))) (eVar 1) (eC (.int 1)))) [1])) aNil))))) (sRaise "NoPushes") sNop))
def s_fed_p : List D → R D := defF 3 6 (
  (sSeq (sExp (eA (callF s_check_stand) (aCons (eVar 0) (aCons (eVar 1) aNil))))
  (sSeq (sExp (eA (callF s_check_signs) (aCons (eVar 2) aNil)))
  (sSeq (sSetO 3 (aThen aNil mkLst))
  (sSeq (sFor (aItN true (eVar 2)) (putR 4) (sSeq (sSet 5 (eC (.int 0)))
  (sSeq (sIf (tOf (e2 neD (eVar 4) (eC (.int 0)))) (sAsg (eA (callF s_pushed) (aCons (eVar 0) (aCons (eVar 1) (aCons (eC (.int 0)) (aCons (eVar 4) aNil))))) (gTupR 2 (gsCons (putR 1) (gsCons (putR 5) gsNil)))) sNop)
  (sApp 3 (eVar 5)))))
  (sRetP (eVar 1) 3))))))
def s_law_signs : List D → R D := defF 2 9 (
  (sSeq (sSet 2 (eA (callF s_law_mix) (aCons (eVar 0) (aCons (eVar 1) aNil))))
  (sSeq (sSet 3 (e2 ixD (eOwn (aThen (aCons (e2 modD (e2 divD (eVar 2) (eC (.int 4))) (eC (.int 5))) (aCons (e2 modD (e2 divD (eVar 2) (eC (.int 4))) (eC (.int 61))) (aCons (eC (.int 30)) (aCons (eC (.int 12)) aNil)))) mkLst)) (e2 modD (eVar 2) (eC (.int 4)))))
  (sSeq (sIf (tOf (e2 eqD (e2 modD (e2 divD (eVar 2) (eC (.int 4096))) (eC (.int 8))) (eC (.int 3)))) (sSet 3 (e2 addD (eC (.int 200)) (e2 modD (e2 divD (eVar 2) (eC (.int 32768))) (eC (.int 101))))) sNop)
  (sSeq (sSet 4 (e2 subD (eC (.int 1)) (e2 mulD (eC (.int 2)) (e2 modD (e2 divD (eVar 2) (eC (.int 256))) (eC (.int 2))))))
  (sSeq (sSetO 5 (aThen aNil mkLst))
  (sSeq (sFor (aThen (aCons (eVar 3) aNil) rng1) (putR 6) (sSeq (sSet 7 (e2 divD (eA (callF s_law_mix) (aCons (eVar 0) (aCons (e2 addD (e2 addD (eVar 1) (eC (.int 1))) (e2 modD (eVar 6) (eC (.int 40)))) aNil))) (e2 addD (eC (.int 1)) (e2 divD (eVar 6) (eC (.int 40))))))
  (sApp 5 (e2 ixD (eOwn (aThen (aCons (eVar 4) (aCons (eVar 4) (aCons (eVar 4) (aCons (e2 ixD (eOwn (aThen (aCons (eC (.int 0)) (aCons (eC (.int 1)) (aCons (e1 negD (eC (.int 1))) aNil))) mkLst)) (e2 modD (e2 divD (eVar 7) (eC (.int 8))) (eC (.int 3)))) aNil)))) mkLst)) (e2 modD (eVar 7) (e2 ixD (eOwn (aThen (aCons (eC (.int 4)) (aCons (eC (.int 1)) aNil)) mkLst)) (e2 divD (e2 modD (e2 divD (eVar 2) (eC (.int 512))) (eC (.int 4))) (eC (.int 3)))))))))
  (sSeq (sIf (tOf (e2 eqD (e2 modD (e2 divD (eVar 2) (eC (.int 512))) (eC (.int 4))) (eC (.int 2)))) (sSetO 5 (a2 catL (eVar 5) (eOwn (aLc (aItN false (eVar 5)) (putR 8) tYesM (e2 subD (eC (.int 0)) (eVar 8)) [8])))) sNop)
  (sRet (eCut (eVar 5) pNo (pSo (eC (.int 300)))))))))))))
def s_law_pushed_3 : List D → R D := defF 4 8 (
  (sSeq (sSetO 4 (aThen (aCons (eVar 1) aNil) listO))
  (sSeq (sSet 5 (eVar 2))
  (sSeq (sWhile (CT.tAnd (tOf (e2 neD (eVar 3) (eC (.int 0)))) (tOf (e2 ltD (eVar 5) (eA lenD (aCons (eVar 0) aNil))))) (sSeq (sSet 6 (e2 ixD (eVar 0) (eVar 5)))
  (sSeq (sSet 7 (e2 ixD (eVar 4) (eVar 5)))
  (sSeq (sIf (tOf (e2 eqD (e2 ixD (eVar 6) (eC (.int 0))) (eC (.str "wheel")))) (sSeq (sAsg (e2 modD (e2 addD (eVar 7) (eVar 3)) (e2 ixD (eVar 6) (eC (.int 1)))) (subR 4 (eVar 5)))
  (sSet 3 (e2 mulD (eVar 3) (eA intD (aCons (e2 inD (e2 ixD (eOwn (aThen (aCons (eVar 7) (aCons (e2 ixD (eVar 4) (eVar 5)) aNil)) mkLst)) (eA intD (aCons (e2 eqD (eVar 3) (eC (.int 1))) aNil))) (e2 ixD (eVar 6) (eC (.int 2)))) aNil))))) (sIf (tOf (e2 eqD (e2 ixD (eVar 6) (eC (.int 0))) (eC (.str "click")))) (sSet 3 (eA maxD (aCons (eC (.int 0)) (aCons (eVar 3) aNil)))) (sIf (tOf (e2 eqD (e2 ixD (eVar 6) (eC (.int 0))) (eC (.str "rocker")))) (sSeq (sAsg (eA intD (aCons (e2 eqD (eVar 3) (eC (.int 1))) aNil)) (subR 4 (eVar 5)))
  (sSet 3 (eA intD (aCons (eAnd (e2 eqD (eVar 3) (eC (.int 1))) (e2 eqD (eVar 7) (eC (.int 0)))) aNil)))) (sIf (tOf (e2 eqD (eVar 3) (eC (.int 1)))) (sSeq (sAsg (e2 modD (e2 addD (eVar 7) (eC (.int 1))) (e2 ixD (eVar 6) (eC (.int 1)))) (subR 4 (eVar 5)))
  (sSet 3 (eA intD (aCons (e2 eqD (eVar 7) (e2 subD (e2 ixD (eVar 6) (eC (.int 1))) (eC (.int 1)))) aNil)))) (sSeq (sAsg (eA maxD (aCons (eC (.int 0)) (aCons (e2 subD (eVar 7) (eC (.int 1))) aNil))) (subR 4 (eVar 5)))
  (sSet 3 (eC (.int 0))))))))
  (sSet 5 (e2 addD (eVar 5) (eC (.int 1))))))))
  (sRet (eA mkTup (aCons (eA tupleD (aCons (eVar 4) aNil)) (aCons (eVar 3) aNil))))))))
def s_law_fed : List D → R D := defF 3 6 (
  (sSeq (sSetO 3 (aThen aNil mkLst))
  (sSeq (sFor (aItN true (eVar 2)) (putR 4) (sSeq (sAsg (eA (callF s_law_pushed_3) (aCons (eVar 0) (aCons (eVar 1) (aCons (eC (.int 0)) (aCons (eVar 4) aNil))))) (gTupR 2 (gsCons (putR 1) (gsCons (putR 5) gsNil))))
  (sApp 3 (eVar 5))))
  (sRet (eA mkTup (aCons (eVar 1) (aCons (eVar 3) aNil)))))))
def s_law_signs_2 : List D → R D := defF 2 5 (
  (sSeq (sSet 2 (e2 ixD (eOwn (aThen (aCons (e2 modD (e2 divD (eA (callF s_law_mix) (aCons (eVar 0) (aCons (eVar 1) aNil))) (eC (.int 2))) (eC (.int 6))) (aCons (e2 modD (e2 divD (eA (callF s_law_mix) (aCons (eVar 0) (aCons (eVar 1) aNil))) (eC (.int 2))) (eC (.int 41))) aNil)) mkLst)) (e2 modD (eA (callF s_law_mix) (aCons (eVar 0) (aCons (eVar 1) aNil))) (eC (.int 2)))))
  (sSeq (sSet 3 (eOwn (aThen (aCons (eC (.int 1)) (aCons (eC (.int 1)) (aCons (eC (.int 1)) (aCons (eC (.int 1)) (aCons (e1 negD (eC (.int 1))) (aCons (eC (.int 0)) aNil)))))) mkLst)))
  (sRet (eOwn (aLc (aThen (aCons (eVar 2) aNil) rng1) (putR 4) tYesM (e2 ixD (eVar 3) (e2 modD (e2 divD (eA (callF s_law_mix) (aCons (eVar 0) (aCons (e2 addD (e2 addD (eVar 1) (eC (.int 1))) (e2 modD (eVar 4) (eC (.int 20)))) aNil))) (e2 ixD (eOwn (aThen (aCons (eC (.int 1)) (aCons (eC (.int 6)) aNil)) mkLst)) (e2 divD (eVar 4) (eC (.int 20))))) (eC (.int 6)))) [4]))))))
def s_law_row_7 : List D → R D := defF 3 7 (
  (sSeq (sSetO 3 (aThen aNil mkLst))
  (sSeq (sFor (aThen (aCons (e2 modD (eA (callF s_law_mix) (aCons (eVar 0) (aCons (eVar 1) aNil))) (eC (.int 7))) aNil) rng1) (putR 4) (sSeq (sSet 5 (eA (callF s_law_mix) (aCons (eVar 0) (aCons (e2 addD (e2 addD (eVar 1) (eC (.int 1))) (eVar 4)) aNil))))
  (sSeq (sSet 6 (e2 ixD (eOwn (aThen (aCons (e2 modD (e2 divD (eVar 5) (eC (.int 64))) (eC (.int 10))) (aCons (e2 modD (e2 divD (eVar 5) (eC (.int 64))) (eC (.int 1000))) (aCons (e2 addD (e2 mulD (e2 divD (eVar 5) (eC (.int 64))) (e2 powD (eC (.int 10)) (eC (.int 24)))) (eVar 5)) (aCons (eC (.int 1)) aNil)))) mkLst)) (e2 modD (e2 divD (eVar 5) (eC (.int 16))) (eC (.int 4)))))
  (sApp 3 (eA mkTup (aCons (e2 modD (e2 modD (e2 divD (eVar 5) (eC (.int 2))) (eC (.int 8))) (eVar 2)) (aCons (e2 ixD (eOwn (aThen (aCons (eC (.int 1)) (aCons (e1 negD (eC (.int 1))) aNil)) mkLst)) (e2 modD (eVar 5) (eC (.int 2)))) (aCons (eVar 6) aNil))))))))
  (sRetV 3))))
def s_law_deeds_2 : List D → R D := defF 5 10 (
  (sSeq (sSet 5 (eC (.int 0)))
  (sSeq (sFor (aItN true (eVar 4)) (gTupR 3 (gsCons (putR 6) (gsCons (putR 7) (gsCons (putR 8) gsNil)))) (sSeq (sIf (tOf (e2 ltD (eVar 6) (eA lenD (aCons (eVar 0) aNil)))) (sSeq (sAsg (eA (callF s_left) (aCons (eVar 0) (aCons (eVar 1) (aCons (eOwn (aThen (aCons (eA mkTup (aCons (eVar 6) (aCons (eVar 7) (aCons (eVar 8) aNil)))) aNil) mkLst)) aNil)))) (gTupR 2 (gsCons (putR 1) (gsCons (putR 8) gsNil))))
  (sSeq (sSet 7 (e2 ixD (eOwn (aThen (aCons (eC (.int 1)) (aCons (e1 negD (eC (.int 1))) aNil)) mkLst)) (eA intD (aCons (e2 ltD (eVar 8) (eC (.int 0))) aNil))))
  (sSeq (sSet 8 (eA absD (aCons (eVar 8) aNil)))
  (sSet 6 (eA lenD (aCons (eVar 0) aNil)))))) sNop)
  (sSeq (sAsg (eA (callF s_left) (aCons (eVar 2) (aCons (eVar 3) (aCons (eOwn (aThen (aCons (eA mkTup (aCons (e2 subD (eVar 6) (eA lenD (aCons (eVar 0) aNil))) (aCons (eVar 7) (aCons (eVar 8) aNil)))) aNil) mkLst)) aNil)))) (gTupR 2 (gsCons (putR 3) (gsCons (putR 9) gsNil))))
  (sSet 5 (e2 addD (eVar 5) (eVar 9))))))
  (sRet (eA mkTup (aCons (e2 addD (eVar 1) (eVar 3)) (aCons (eVar 5) aNil)))))))
def s_fed : List D → R D := defF 3 6 (
  (sSeq (sExp (eA (callF s_check_stand) (aCons (eVar 0) (aCons (eVar 1) aNil))))
  (sSeq (sExp (eA (callF s_check_signs) (aCons (eVar 2) aNil)))
  (sSeq (sSetO 3 (aThen aNil mkLst))
  (sSeq (sFor (aItN true (eVar 2)) (putR 4) (sSeq (sSet 5 (eC (.int 0)))
  (sSeq (sIf (tOf (e2 neD (eVar 4) (eC (.int 0)))) (sAsg (eA (callF s_pushed) (aCons (eVar 0) (aCons (eVar 1) (aCons (eC (.int 0)) (aCons (eVar 4) aNil))))) (gTupR 2 (gsCons (putR 1) (gsCons (putR 5) gsNil)))) sNop)
  (sApp 3 (eVar 5)))))
  (sRet (eA mkTup (aCons (eVar 1) (aCons (eVar 3) aNil)))))))))
def s_law_two_3 : List D → R D := defF 5 10 (
  (sSeq (sAsg (eA (callF s_fed) (aCons (eVar 0) (aCons (eVar 1) (aCons (eVar 4) aNil)))) (gTupR 2 (gsCons (putR 5) (gsCons (putR 6) gsNil))))
  (sSeq (sAsg (eA (callF s_fed) (aCons (eVar 2) (aCons (eVar 3) (aCons (eVar 6) aNil)))) (gTupR 2 (gsCons (putR 7) (gsCons (putR 8) gsNil))))
  (sSeq (sSet 9 (eA (callF s_fed) (aCons (eA (callF s_joined) (aCons (eVar 0) (aCons (eVar 2) aNil))) (aCons (eA (callF s_together) (aCons (eVar 0) (aCons (eVar 1) (aCons (eVar 2) (aCons (eVar 3) aNil))))) (aCons (eVar 4) aNil)))))
  (sRet (eAnd (e2 eqD (eVar 9) (eA mkTup (aCons (e2 addD (eVar 5) (eVar 7)) (aCons (eVar 8) aNil)))) (e2 eqD (eA (callF s_parted) (aCons (eVar 0) (aCons (eVar 2) (aCons (e2 ixD (eVar 9) (eC (.int 0))) aNil)))) (eA mkTup (aCons (eVar 5) (aCons (eVar 7) aNil))))))))))
def s_ring_shown : List D → R D := defF 2 5 (
  (sSeq (sAsg (eA (callF s_pushed) (aCons (eVar 0) (aCons (eVar 1) (aCons (eC (.int 0)) (aCons (eC (.int 1)) aNil))))) (gTupR 2 (gsCons (putR 2) (gsCons (putR 3) gsNil))))
  (sSeq (sSetO 4 (aThen (aCons (eVar 3) aNil) mkLst))
  (sSeq (sWhile (tOf (e2 neD (eVar 2) (eVar 1))) (sSeq (sAsg (eA (callF s_pushed) (aCons (eVar 0) (aCons (eVar 2) (aCons (eC (.int 0)) (aCons (eC (.int 1)) aNil))))) (gTupR 2 (gsCons (putR 2) (gsCons (putR 3) gsNil))))
  (sApp 4 (eVar 3))))
  (sRetV 4)))))
def s_least_wheel : List D → R D := defF 2 7 (
  (sSeq (sExp (eA (callF s_check_stand) (aCons (eVar 0) (aCons (eVar 1) aNil))))
  (sSeq (sIf (tOf (eA anyD (aCons (eOwn (aLc (aItN false (eVar 0)) (putR 5) tYesM (e2 neD (e2 ixD (eVar 5) (eC (.int 0))) (eC (.str "wheel"))) [5])) aNil))) (sRaise "NoWheel") sNop)
  (sSeq (sSet 2 (eA (callF s_ring_shown) (aCons (eVar 0) (aCons (eVar 1) aNil))))
  (sSeq (sSet 3 (eA lenD (aCons (eVar 2) aNil)))
  (sSeq (sSet 4 (eC (.int 1)))
  (sSeq (sWhile (CT.tOr (tOf (e2 neD (e2 modD (eVar 3) (eVar 4)) (eC (.int 0)))) (tOf (e2 neD (eVar 2) (e2 repD (eCut (eVar 2) pNo (pSo (eVar 4))) (e2 divD (eVar 3) (eVar 4)))))) (sAug 4 augD (eC (.int 1))))
  (sRet (eA mkTup (aCons (eC (.str "wheel")) (aCons (eVar 4) (aCons (eA tupleD (aCons (eOwn (aLc (aThen (aCons (eVar 4) aNil) rng1) (putR 6) (tOf (e2 eqD (e2 ixD (eVar 2) (e2 subD (eVar 6) (eC (.int 1)))) (eC (.int 1)))) (eVar 6) [6])) aNil)) aNil))))))))))))
def s_law_wheels : List D → R D := defF 1 8 (
  (sSeq (sSetO 1 (aThen aNil mkLst))
  (sSeq (sSet 2 (eA mkTup aNil))
  (sSeq (sSet 3 (eC (.int 500)))
  (sSeq (sFor (aThen (aCons (e2 addD (eC (.int 1)) (e2 modD (eA (callF s_law_mix) (aCons (eVar 0) (aCons (eC (.int 20)) aNil))) (eC (.int 4)))) aNil) rng1) (putR 4) (sSeq (sSet 5 (eA (callF s_law_mix) (aCons (eVar 0) (aCons (e2 mulD (eC (.int 2)) (eVar 4)) aNil))))
  (sSeq (sSet 6 (eA (callF s_law_part_7) (aCons (e2 addD (e2 mulD (e2 divD (eVar 5) (eC (.int 8))) (eC (.int 8))) (e2 modD (eVar 5) (eC (.int 4)))) (aCons (eC (.int 6)) aNil))))
  (sSeq (sIf (tOf (e2 eqD (e2 modD (eA (callF s_law_mix) (aCons (eVar 0) (aCons (eC (.int 21)) aNil))) (eC (.int 2))) (eC (.int 1)))) (sSet 6 (eA mkTup (aCons (eC (.str "wheel")) (aCons (e2 mulD (eC (.int 2)) (e2 ixD (eVar 6) (eC (.int 1)))) (aCons (e2 addD (e2 ixD (eVar 6) (eC (.int 2))) (eA tupleD (aCons (eOwn (aLc (aItN false (e2 ixD (eVar 6) (eC (.int 2)))) (putR 7) tYesM (e2 addD (eVar 7) (e2 ixD (eVar 6) (eC (.int 1)))) [7])) aNil))) aNil))))) sNop)
  (sSeq (sIf (tOf (e2 gtD (e2 ixD (eVar 6) (eC (.int 1))) (eVar 3))) (sSet 6 (eA mkTup (aCons (eC (.str "wheel")) (aCons (eC (.int 1)) (aCons (eCut (e2 ixD (eVar 6) (eC (.int 2))) pNo (pSo (eC (.int 0)))) aNil))))) sNop)
  (sSeq (sSet 3 (e2 divD (eVar 3) (e2 ixD (eVar 6) (eC (.int 1)))))
  (sSeq (sApp 1 (eVar 6))
  (sSet 2 (e2 addD (eVar 2) (eA mkTup (aCons (e2 modD (eA (callF s_law_mix) (aCons (eVar 0) (aCons (e2 addD (e2 mulD (eC (.int 2)) (eVar 4)) (eC (.int 1))) aNil))) (e2 ixD (eVar 6) (eC (.int 1)))) aNil)))))))))))
  (sRet (eA mkTup (aCons (eVar 1) (aCons (eVar 2) aNil)))))))))
def s_law_due_11 : List D → R D := defF 2 9 (
  (sSeq (sSet 2 (eC (.int 1)))
  (sSeq (sFor (aItN true (eVar 0)) (putR 3) (sSet 2 (e2 mulD (eVar 2) (e2 ixD (eVar 3) (eC (.int 1))))))
  (sSeq (sSetO 4 (aThen aNil mkLst))
  (sSeq (sFor (aThen (aCons (e2 mulD (eC (.int 2)) (eVar 2)) aNil) rng1) (putR 5) (sSeq (sAsg (eA (callF s_law_pushed_3) (aCons (eVar 0) (aCons (eVar 1) (aCons (eC (.int 0)) (aCons (eC (.int 1)) aNil))))) (gTupR 2 (gsCons (putR 1) (gsCons (putR 6) gsNil))))
  (sApp 4 (eVar 6))))
  (sSeq (sSet 7 (eC (.int 1)))
  (sSeq (sWhile (tOf (e2 neD (eCut (eVar 4) (pSo (eVar 7)) pNo) (eCut (eVar 4) pNo (pSo (e2 subD (e2 mulD (eC (.int 2)) (eVar 2)) (eVar 7)))))) (sSet 7 (e2 addD (eVar 7) (eC (.int 1)))))
  (sRet (eA mkTup (aCons (eC (.str "wheel")) (aCons (eVar 7) (aCons (eA tupleD (aCons (eOwn (aLc (aThen (aCons (eVar 7) aNil) rng1) (putR 8) (tOf (e2 eqD (e2 ixD (eVar 4) (e2 subD (e2 addD (eVar 8) (eVar 7)) (eC (.int 1)))) (eC (.int 1)))) (eVar 8) [8])) aNil)) aNil))))))))))))
def s_law_great_3 : List D → R D := defF 1 8 (
  (sSeq (sSet 1 (eA (callF s_law_mix) (aCons (eVar 0) (aCons (eC (.int 30)) aNil))))
  (sSeq (sSet 2 (eA (callF s_law_mix) (aCons (eVar 0) (aCons (eC (.int 31)) aNil))))
  (sSeq (sSet 3 (e2 addD (eC (.int 501)) (e2 modD (eVar 1) (eC (.int 1500)))))
  (sSeq (sSetO 4 (aThen (aCons (eOwn (aThen (aCons (eA mkTup (aCons (eC (.str "wheel")) (aCons (eVar 3) (aCons (eA mkTup (aCons (eC (.int 0)) (aCons (e2 addD (eC (.int 1)) (e2 modD (eVar 2) (eC (.int 500)))) aNil))) aNil)))) aNil) mkLst)) aNil) mkLst))
  (sSeq (sApp 4 (eOwn (aThen (aCons (eA mkTup (aCons (eC (.str "wheel")) (aCons (e2 addD (eC (.int 23)) (e2 modD (eVar 1) (eC (.int 22)))) (aCons (eA mkTup (aCons (eC (.int 0)) aNil)) aNil)))) (aCons (eA mkTup (aCons (eC (.str "wheel")) (aCons (e2 addD (eC (.int 23)) (e2 modD (eVar 2) (eC (.int 22)))) (aCons (eA mkTup (aCons (eC (.int 0)) (aCons (e2 addD (eC (.int 1)) (e2 modD (eVar 2) (eC (.int 21)))) aNil))) aNil)))) aNil)) mkLst)))
  (sSeq (sApp 4 (eOwn (aThen (aCons (eA mkTup (aCons (eC (.str "wheel")) (aCons (e2 addD (eC (.int 23)) (e2 modD (eVar 2) (eC (.int 22)))) (aCons (eA mkTup aNil) aNil)))) (aCons (eA mkTup (aCons (eC (.str "wheel")) (aCons (e2 addD (eC (.int 23)) (e2 modD (eVar 1) (eC (.int 22)))) (aCons (eA mkTup (aCons (eC (.int 0)) aNil)) aNil)))) aNil)) mkLst)))
  (sSeq (sSet 5 (e2 ixD (eVar 4) (e2 modD (eA (callF s_law_mix) (aCons (eVar 0) (aCons (eC (.int 32)) aNil))) (eC (.int 3)))))
  (sRet (eA mkTup (aCons (eVar 5) (aCons (eA tupleD (aCons (eOwn (aLc (aEnum false (eVar 5)) (gTupR 2 (gsCons (putR 6) (gsCons (putR 7) gsNil))) tYesM (e2 modD (eA (callF s_law_mix) (aCons (eVar 0) (aCons (e2 addD (eC (.int 33)) (eVar 6)) aNil))) (e2 ixD (eVar 7) (eC (.int 1)))) [6, 7])) aNil)) aNil))))))))))))
def s_law_still_right : List D → R D := defF 1 7 (
  (sSeq (sSet 1 (e2 addD (e2 addD (e2 powD (eC (.int 10)) (eC (.int 30))) (e2 mulD (eA (callF s_law_mix) (aCons (eVar 0) (aCons (eC (.int 35)) aNil))) (e2 powD (eC (.int 10)) (eC (.int 30))))) (eA (callF s_law_mix) (aCons (eVar 0) (aCons (eC (.int 36)) aNil)))))
  (sSeq (sSet 2 (eA (callF s_worn) (aCons (eOwn (aThen (aCons (eA mkTup (aCons (eC (.str "wheel")) (aCons (eVar 1) (aCons (eA mkTup (aCons (eC (.int 5)) (aCons (eC (.int 6)) aNil))) aNil)))) aNil) mkLst)) (aCons (eA mkTup (aCons (eC (.int 0)) (aCons (eC (.int 5)) aNil))) aNil))))
  (sSeq (sSet 3 (eA (callF s_worn) (aCons (eOwn (aThen (aCons (eA mkTup (aCons (eC (.str "wheel")) (aCons (eC (.int 1)) (aCons (eA mkTup (aCons (eC (.int 0)) aNil)) aNil)))) aNil) mkLst)) (aCons (eA mkTup (aCons (eC (.int 0)) (aCons (eC (.int 0)) aNil))) aNil))))
  (sSeq (sSet 4 (eA (callF s_law_mix) (aCons (eVar 0) (aCons (eC (.int 37)) aNil))))
  (sSeq (sAsg (eA (callF s_law_wheels) (aCons (eVar 0) aNil)) (gTupR 2 (gsCons (putR 5) (gsCons (putR 6) gsNil))))
  (sSeq (sIf (tOf (e2 neD (eA (callF s_least_wheel) (aCons (eA (callF s_joined) (aCons (eVar 3) (aCons (eVar 2) aNil))) (aCons (eA mkTup (aCons (eC (.int 0)) (aCons (eVar 4) aNil))) aNil))) (eA mkTup (aCons (eC (.str "wheel")) (aCons (eC (.int 1)) (aCons (eA mkTup aNil) aNil)))))) (sRet (eC (.bl false))) sNop)
  (sRet (e2 eqD (eA (callF s_least_wheel) (aCons (eA (callF s_joined) (aCons (eA (callF s_joined) (aCons (eVar 5) (aCons (eVar 3) aNil))) (aCons (eVar 2) aNil))) (aCons (e2 addD (eVar 6) (eA mkTup (aCons (eC (.int 0)) (aCons (eVar 4) aNil)))) aNil))) (eA mkTup (aCons (eC (.str "wheel")) (aCons (eC (.int 1)) (aCons (eA mkTup aNil) aNil)))))))))))))
def s_law_wheels_2 : List D → R D := defF 3 8 (
  (sSeq (sSetO 3 (aThen aNil mkLst))
  (sSeq (sSet 4 (eA mkTup aNil))
  (sSeq (sFor (aThen (aCons (e2 addD (eC (.int 1)) (e2 modD (eA (callF s_law_mix) (aCons (eVar 0) (aCons (eVar 1) aNil))) (eC (.int 4)))) aNil) rng1) (putR 5) (sSeq (sSet 6 (eA (callF s_law_mix) (aCons (eVar 0) (aCons (e2 addD (e2 addD (eVar 1) (eC (.int 1))) (e2 mulD (eC (.int 2)) (eVar 5))) aNil))))
  (sSeq (sSet 7 (eA (callF s_law_part_7) (aCons (e2 addD (e2 mulD (e2 divD (eVar 6) (eC (.int 8))) (eC (.int 8))) (e2 modD (eVar 6) (eC (.int 4)))) (aCons (eC (.int 6)) aNil))))
  (sSeq (sIf (tOf (e2 gtD (e2 ixD (eVar 7) (eC (.int 1))) (eVar 2))) (sSet 7 (eA mkTup (aCons (eC (.str "wheel")) (aCons (eC (.int 1)) (aCons (eCut (e2 ixD (eVar 7) (eC (.int 2))) pNo (pSo (eC (.int 0)))) aNil))))) sNop)
  (sSeq (sSet 2 (e2 divD (eVar 2) (e2 ixD (eVar 7) (eC (.int 1)))))
  (sSeq (sApp 3 (eVar 7))
  (sSet 4 (e2 addD (eVar 4) (eA mkTup (aCons (e2 modD (eA (callF s_law_mix) (aCons (eVar 0) (aCons (e2 addD (e2 addD (eVar 1) (eC (.int 2))) (e2 mulD (eC (.int 2)) (eVar 5))) aNil))) (e2 ixD (eVar 7) (eC (.int 1)))) aNil))))))))))
  (sRet (eA mkTup (aCons (eVar 3) (aCons (eVar 4) aNil))))))))
def s_one_way : List D → R D := defF 1 2 (
  (sSeq (sExp (eA (callF s_check_train) (aCons (eVar 0) aNil)))
  (sRet (eA anyD (aCons (eOwn (aLc (aItN false (eVar 0)) (putR 1) tYesM (eOr (e2 neD (e2 ixD (eVar 1) (eC (.int 0))) (eC (.str "wheel"))) (e2 eqD (e2 ixD (eVar 1) (eC (.int 2))) (eA mkTup aNil))) [1])) aNil)))))
def s_law_stands : List D → R D := defF 1 6 (
  (sSeq (sSet 1 (eOwn (aThen (aCons (eA mkTup aNil) aNil) mkLst)))
  (sSeq (sFor (aItN true (eVar 0)) (putR 2) (sSeq (sSetO 3 (aThen aNil mkLst))
  (sSeq (sFor (aItN true (eVar 1)) (putR 4) (sExt 3 (eOwn (aLc (aThen (aCons (eA (callF s_law_places_2) (aCons (eVar 2) aNil)) aNil) rng1) (putR 5) tYesM (e2 addD (eVar 4) (eA mkTup (aCons (eVar 5) aNil))) [5]))))
  (sFreeze 3 (sSet 1 (eVar 3))))))
  (sRet (eVar 1)))))
def s_law_due_12 : List D → R D := defF 1 3 (
  (sSeq (sFor (aItN true (eA (callF s_law_stands) (aCons (eVar 0) aNil))) (putR 1) (sFor (aItN true (eOwn (aThen (aCons (eC (.int 1)) (aCons (e1 negD (eC (.int 1))) aNil)) mkLst))) (putR 2) (sIf (tOf (e2 eqD (e2 ixD (eA (callF s_law_pushed_3) (aCons (eVar 0) (aCons (eVar 1) (aCons (eC (.int 0)) (aCons (eVar 2) aNil))))) (eC (.int 1))) (e1 negD (eC (.int 1))))) (sRet (eC (.bl false))) sNop)))
  (sRet (eC (.bl true)))))
def s_law_great_right : List D → R D := defF 2 7 (
  (sSeq (sSet 2 (e2 addD (e2 addD (e2 powD (eC (.int 10)) (eC (.int 30))) (e2 mulD (eA (callF s_law_mix) (aCons (eVar 1) (aCons (eC (.int 41)) aNil))) (e2 powD (eC (.int 10)) (eC (.int 30))))) (eA (callF s_law_mix) (aCons (eVar 1) (aCons (eC (.int 42)) aNil)))))
  (sSeq (sSet 3 (eA (callF s_worn) (aCons (eOwn (aThen (aCons (eA mkTup (aCons (eC (.str "wheel")) (aCons (eVar 2) (aCons (eA mkTup (aCons (eC (.int 5)) (aCons (eC (.int 6)) aNil))) aNil)))) aNil) mkLst)) (aCons (eA mkTup (aCons (eC (.int 0)) (aCons (eC (.int 5)) aNil))) aNil))))
  (sSeq (sSet 4 (eA (callF s_worn) (aCons (eOwn (aThen (aCons (eA mkTup (aCons (eC (.str "wheel")) (aCons (eVar 2) (aCons (eA mkTup (aCons (eC (.int 5)) aNil)) aNil)))) aNil) mkLst)) (aCons (eA mkTup (aCons (eC (.int 0)) (aCons (eC (.int 5)) aNil))) aNil))))
  (sSeq (sSet 5 (eA (callF s_law_due_12) (aCons (eVar 0) aNil)))
  (sSeq (sSet 6 (eOwn (aThen (aCons (eA (callF s_one_way) (aCons (eVar 3) aNil)) (aCons (eA (callF s_one_way) (aCons (eA (callF s_joined) (aCons (eVar 3) (aCons (eVar 0) aNil))) aNil)) (aCons (eA (callF s_one_way) (aCons (eA (callF s_joined) (aCons (eVar 0) (aCons (eVar 3) aNil))) aNil)) (aCons (eA (callF s_one_way) (aCons (eVar 4) aNil)) aNil)))) mkLst)))
  (sRet (e2 eqD (eVar 6) (eOwn (aThen (aCons (eC (.bl false)) (aCons (eVar 5) (aCons (eVar 5) (aCons (eC (.bl true)) aNil)))) mkLst))))))))))
end
end CK

/-! CtS: reckoning with the semantics -/
namespace CT
open PySem PySem.Spec PyProof.Rows L2
section
variable (m : Sl) (f g h : SemE) (op : D → D → R D) (a : SemA)
@[simp] theorem eVar_0 {x : D} {r : Sl} : eVar 0 (some x :: r) = .ok x := nr rfl
@[simp] theorem eVar_s {x : Option D} {r : Sl} {i : Nat} : eVar (i + 1) (x :: r) = eVar i r := nr rfl
@[simp] theorem eVar_1 {x y : Option D} {z : D} {r : Sl} : eVar 1 (x :: some z :: r) = .ok z := nr rfl
@[simp] theorem eC_eq (d : D) : eC d m = .ok d := nr rfl
@[simp] theorem e2_eq : e2 op f g m = (f m).bind fun x => (g m).bind fun y => op x y := nr rfl
@[simp] theorem e1_eq (o : D → R D) : e1 o f m = (f m).bind o := nr rfl
@[simp] theorem eA_eq (o : List D → R D) : eA o a m = (a m).bind o := nr rfl
@[simp] theorem aNil_eq : aNil m = .ok [] := nr rfl
@[simp] theorem aCons_eq : aCons f a m = (f m).bind fun x => (a m).bind fun xs => .ok (x :: xs) := nr rfl
@[simp] theorem tOf_eq : tOf f m = (f m).bind asB := nr rfl
@[simp] theorem tNot_eq (t : SemT) : CT.tNot t m = (t m).bind fun c => .ok (!c) := nr rfl
@[simp] theorem tAnd_eq (t u : SemT) : CT.tAnd t u m = (t m).bind fun c => if c = true then u m else .ok false := nr rfl
@[simp] theorem tOr_eq (t u : SemT) : CT.tOr t u m = (t m).bind fun c => if c = true then .ok true else u m := nr rfl
@[simp] theorem eAnd_eq : eAnd f g m = (f m).bind fun x => (asB x).bind fun c => if c = true then g m else .ok (.bl false) := nr rfl
@[simp] theorem eOr_eq : eOr f g m = (f m).bind fun x => (asB x).bind fun c => if c = true then .ok (.bl true) else g m := nr rfl
@[simp] theorem eNot_eq : eNot f m = (f m).bind fun x => (asB x).bind fun c => .ok (.bl (!c)) := nr rfl
@[simp] theorem eIf_eq (t : SemT) : eIf t f g m = (t m).bind fun c => if c = true then f m else g m := nr rfl
@[simp] theorem eOwn_eq : eOwn a m = (a m).bind fun xs => .ok (.lst false xs) := nr rfl
@[simp] theorem aThen_eq (k : List D → R (List D)) : aThen a k m = (a m).bind k := nr rfl
@[simp] theorem a2_eq (o : D → D → R (List D)) : a2 o f g m = (f m).bind fun x => (g m).bind fun y => o x y := nr rfl
@[simp] theorem aItN_eq (s : Bool) : aItN s f m = (f m).bind (itemsN s) := nr rfl
@[simp] theorem aRev_eq (s : Bool) : aRev s f m = (f m).bind (revI s) := nr rfl
@[simp] theorem aEnum_eq (s : Bool) : aEnum s f m = (f m).bind (enumI s) := nr rfl
@[simp] theorem eChain_eq (p q : D → D → R D) : eChain p q f g h m = (f m).bind fun x => (g m).bind fun y => (p x y).bind fun z => (asB z).bind fun c => if c = true then (h m).bind fun w => q y w else .ok (.bl false) := nr rfl
@[simp] theorem pNo_eq : pNo m = .ok none := nr rfl
@[simp] theorem pSo_eq : pSo f m = (f m).bind fun d => (asI d).bind fun i => .ok (some i) := nr rfl
@[simp] theorem eCut_eq (p q : SemP) : eCut f p q m = (f m).bind fun x => (p m).bind fun lo => (q m).bind fun hi => cutD x lo hi := nr rfl
@[simp] theorem aCut_eq (p q : SemP) : aCut f p q m = (f m).bind fun x => (p m).bind fun lo => (q m).bind fun hi => cutO x lo hi := nr rfl
@[simp] theorem aLc_eq (gg : SemG) (t : SemT) (vs : List Nat) : aLc a gg t f vs m = (a m).bind fun ds => (lcGo gg t f (wipeM m vs) ds).bind fun r => if r.length ≤ sizeLine then .ok r else .stuck := nr rfl
@[simp] theorem tYesM_eq : tYesM m = .ok true := nr rfl
@[simp] theorem asB_bl (c : Bool) : asB (.bl c) = .ok c := nr rfl
@[simp] theorem asI_int (i : Int) : asI (.int i) = .ok i := nr rfl
@[simp] theorem wipeM_nil : wipeM m [] = m := nr rfl
@[simp] theorem wipeM_cons (v : Nat) (vs : List Nat) : wipeM m (v :: vs) = (wipeM m vs).set v none := nr rfl
-- statements
variable (s t : SemS)
@[simp] theorem sNop_eq : sNop m = .nx m := nr rfl
@[simp] theorem sSeq_eq : sSeq s t m = sThen (s m) t := nr rfl
@[simp] theorem sExp_eq : sExp f m = ofR m (f m) fun _ => .nx m := nr rfl
def kRet (d : D) : RS := .rt (still d)
@[simp] theorem kRet_eq (d : D) : kRet d = .rt (still d) := nr rfl
@[simp] theorem sRet_eq : sRet f m = ofR m (f m) kRet := nr rfl
@[simp] theorem sRetO_eq : sRetO a m = ofR m (a m) fun ds => if hasTL ds = true then .stuck else .rt (.lst true ds) := nr rfl
@[simp] theorem sRetN_eq : sRetN m = .rt .non := nr rfl
def kIf (s t : SemS) (m : Sl) (c : Bool) : RS := if c = true then s m else t m
@[simp] theorem kIf_t : kIf s t m true = s m := nr rfl
@[simp] theorem kIf_f : kIf s t m false = t m := nr rfl
@[simp] theorem sIf_eq (c : SemT) : sIf c s t m = ofR m (c m) (kIf s t m) := nr rfl
@[simp] theorem sBreak_eq : sBreak m = .bk m := nr rfl
@[simp] theorem sCont_eq : sCont m = .ct m := nr rfl
def kSet (i : Nat) (m : Sl) (d : D) : RS := ofR m (putR i d m) fun m' => .nx m'
@[simp] theorem kSet_eq (i : Nat) (d : D) : kSet i m d = if hasT d = true then .stuck else .nx (m.set i (some d)) := by unfold kSet putR; split <;> rfl
@[simp] theorem sSet_eq (i : Nat) : sSet i f m = ofR m (f m) (kSet i m) := nr rfl
@[simp] theorem sSetO_eq (i : Nat) : sSetO i a m = ofR m (a m) fun ds => if hasTL ds = true then .stuck else .nx (m.set i (some (.lst true ds))) := nr rfl
@[simp] theorem putR_eq (i : Nat) (d : D) : putR i d m = if hasT d = true then .stuck else .ok (m.set i (some d)) := nr rfl
@[simp] theorem sApp_eq (i : Nat) : sApp i f m = mine i m fun xs => ofR m (f m) fun d => if hasT d = true then .stuck else if xs.length < sizeLine then .nx (m.set i (some (.lst true (xs ++ [d])))) else .stuck := nr rfl
@[simp] theorem sExt_eq (i : Nat) : sExt i f m = mine i m fun xs => ofR m ((f m).bind seqL) fun ys => if hasTL ys = true then .stuck else if xs.length + ys.length ≤ sizeLine then .nx (m.set i (some (.lst true (xs ++ ys)))) else .stuck := nr rfl
@[simp] theorem sAsg_eq (gg : SemG) : sAsg f gg m = ofR m (f m) fun d => if hasT d = true then .stuck else match gg d m with
  | .ok m' => .nx m'
  | _ => .stuck := nr rfl
@[simp] theorem sPar_eq (i j : Nat) : sPar i j f g m = ofR m (f m) fun d => ofR m (g m) fun d' => if (hasT d || hasT d') = true then .stuck else .nx ((m.set i (some d)).set j (some d')) := nr rfl
@[simp] theorem sFor_eq (gg : SemG) : sFor a gg s m = ofR m (a m) fun ds => forGo gg s ds m := nr rfl
@[simp] theorem gsNil_nil : gsNil [] m = .ok m := nr rfl
@[simp] theorem gsCons_cons (gg : SemG) (hh : SemGs) (d : D) (r : List D) : gsCons gg hh (d :: r) m = (gg d m).bind fun m1 => hh r m1 := nr rfl
@[simp] theorem gTupR_tup (n : Nat) (hh : SemGs) (ds : List D) : gTupR n hh (.tup ds) m = if ds.length = n then hh ds m else .stuck := nr rfl
end
@[simp] theorem hasT_int (i : Int) : hasT (.int i) = false := nr rfl
@[simp] theorem hasT_bl (b : Bool) : hasT (.bl b) = false := nr rfl
@[simp] theorem hasT_str (x : Str) : hasT (.str x) = false := nr rfl
@[simp] theorem hasT_non : hasT .non = false := nr rfl
@[simp] theorem hasT_tup (xs : List D) : hasT (.tup xs) = hasTL xs := nr rfl
@[simp] theorem hasT_lst (t : Bool) (xs : List D) : hasT (.lst t xs) = (t || hasTL xs) := nr rfl
@[simp] theorem hasT_fr (xs : List D) : hasT (.fr xs) = hasTL xs := nr rfl
@[simp] theorem hasTL_nil : hasTL [] = false := nr rfl
@[simp] theorem hasTL_cons (x : D) (xs : List D) : hasTL (x :: xs) = (hasT x || hasTL xs) := nr rfl
@[simp] theorem still_int (i : Int) : still (.int i) = .int i := nr rfl
@[simp] theorem still_bl (b : Bool) : still (.bl b) = .bl b := nr rfl
@[simp] theorem still_str (x : Str) : still (.str x) = .str x := nr rfl
@[simp] theorem still_non : still .non = .non := nr rfl
@[simp] theorem still_tup (xs : List D) : still (.tup xs) = .tup (stillL xs) := nr rfl
@[simp] theorem still_lst (t : Bool) (xs : List D) : still (.lst t xs) = .lst false (stillL xs) := nr rfl
@[simp] theorem still_fr (xs : List D) : still (.fr xs) = .fr (stillL xs) := nr rfl
@[simp] theorem stillL_nil : stillL [] = [] := nr rfl
@[simp] theorem stillL_cons (x : D) (xs : List D) : stillL (x :: xs) = still x :: stillL xs := nr rfl
@[simp] theorem isFlat_int (i : Int) : isFlat (.int i) = true := nr rfl
@[simp] theorem isFlat_bl (i : Bool) : isFlat (.bl i) = true := nr rfl
@[simp] theorem isFlat_str (i : Str) : isFlat (.str i) = true := nr rfl
@[simp] theorem isFlat_non : isFlat .non = true := nr rfl
@[simp] theorem isFlat_tup (xs : List D) : isFlat (.tup xs) = isFlatL xs := nr rfl
@[simp] theorem isFlatL_nil : isFlatL [] = true := nr rfl
@[simp] theorem isFlatL_cons (x : D) (xs : List D) : isFlatL (x :: xs) = (isFlat x && isFlatL xs) := nr rfl
theorem hasTL_all {xs : List D} (h : ∀ x ∈ xs, hasT x = false) : hasTL xs = false := by
  induction xs with
  | nil => rfl
  | cons x xs ih => rw [hasTL_cons, h x (by simp), ih fun y hy => h y (by simp [hy])]; rfl
theorem hasTL_map {α : Type} {f : α → D} (h : ∀ a, hasT (f a) = false) (l : List α) : hasTL (l.map f) = false := hasTL_all fun x hx => by
  obtain ⟨a, _, rfl⟩ := List.mem_map.mp hx
  exact h a
theorem stillL_map {α : Type} {f : α → D} (h : ∀ a, still (f a) = f a) (l : List α) : stillL (l.map f) = l.map f := by
  induction l with
  | nil => rfl
  | cons a l ih => rw [List.map_cons, stillL_cons, h, ih]
theorem isFlatL_map {α : Type} {f : α → D} (h : ∀ a, isFlat (f a) = true) (l : List α) : isFlatL (l.map f) = true := by
  induction l with
  | nil => rfl
  | cons a l ih => rw [List.map_cons, isFlatL_cons, h, ih]; rfl
/-- a tuple, a list of ints -/
@[simp] theorem hasTL_ints (l : List Int) : hasTL (l.map D.int) = false := hasTL_map (fun _ => rfl) l
@[simp] theorem stillL_ints (l : List Int) : stillL (l.map D.int) = l.map D.int := stillL_map (fun _ => rfl) l
@[simp] theorem isFlatL_ints (l : List Int) : isFlatL (l.map D.int) = true := isFlatL_map (fun _ => rfl) l
-- operators
@[simp] theorem addD_int (i j : Int) : addD (.int i) (.int j) = .ok (.int (i + j)) := nr rfl
@[simp] theorem subD_int (i j : Int) : subD (.int i) (.int j) = .ok (.int (i - j)) := nr rfl
@[simp] theorem negD_int (i : Int) : negD (.int i) = .ok (.int (-i)) := nr rfl
@[simp] theorem ltD_int (i j : Int) : ltD (.int i) (.int j) = .ok (.bl (decide (i < j))) := nr rfl
@[simp] theorem leD_int (i j : Int) : leD (.int i) (.int j) = .ok (.bl (decide (i ≤ j))) := nr rfl
@[simp] theorem gtD_int (i j : Int) : gtD (.int i) (.int j) = .ok (.bl (decide (j < i))) := nr rfl
@[simp] theorem geD_int (i j : Int) : geD (.int i) (.int j) = .ok (.bl (decide (j ≤ i))) := nr rfl
theorem mulD_ok {i j : Int} (h : mulOk i j) : mulD (.int i) (.int j) = .ok (.int (i * j)) := by simp only [mulD]; rw [if_pos h]
theorem mulD_l {i j : Int} (h : -(2 ^ 64) < i ∧ i < 2 ^ 64) : mulD (.int i) (.int j) = .ok (.int (i * j)) := mulD_ok (.inl h)
theorem mulD_r {i j : Int} (h : -(2 ^ 64) < j ∧ j < 2 ^ 64) : mulD (.int i) (.int j) = .ok (.int (i * j)) := mulD_ok (.inr (.inl h))
theorem modD_ok {i j : Int} (h : 0 < j) : modD (.int i) (.int j) = .ok (.int (i % j)) := by
  simp only [modD]; rw [if_pos (by omega), Int.fmod_eq_emod_of_nonneg i (by omega)]
theorem divD_ok {i j : Int} (h : 0 < j) (h2 : divOk j) : divD (.int i) (.int j) = .ok (.int (i / j)) := by
  simp only [divD]; rw [if_pos h2, Int.fdiv_eq_ediv_of_nonneg i (by omega)]
theorem divD_s {i j : Int} (h : 0 < j) (h2 : j < 1073741824) : divD (.int i) (.int j) = .ok (.int (i / j)) := divD_ok h (.inl ⟨by omega, by omega⟩)
@[simp] theorem intD_int (i : Int) : intD [.int i] = .ok (.int i) := nr rfl
@[simp] theorem intD_bl (c : Bool) : intD [.bl c] = .ok (.int (if c then 1 else 0)) := nr rfl
@[simp] theorem maxD_int (i j : Int) : maxD [.int i, .int j] = .ok (.int (if j > i then j else i)) := nr rfl
@[simp] theorem minD_int (i j : Int) : minD [.int i, .int j] = .ok (.int (if j < i then j else i)) := nr rfl
@[simp] theorem absD_int (i : Int) : absD [.int i] = .ok (.int (if i < 0 then -i else i)) := nr rfl
@[simp] theorem lenD_lst (t : Bool) (xs : List D) : lenD [.lst t xs] = .ok (.int xs.length) := nr rfl
@[simp] theorem lenD_fr (xs : List D) : lenD [.fr xs] = .ok (.int xs.length) := nr rfl
@[simp] theorem lenD_tup (xs : List D) : lenD [.tup xs] = .ok (.int xs.length) := nr rfl
@[simp] theorem tupleD_lst (t : Bool) (xs : List D) : tupleD [.lst t xs] = .ok (.tup xs) := nr rfl
@[simp] theorem tupleD_tup (xs : List D) : tupleD [.tup xs] = .ok (.tup xs) := nr rfl
@[simp] theorem listO_lst (t : Bool) (xs : List D) : listO [.lst t xs] = .ok xs := nr rfl
@[simp] theorem listO_tup (xs : List D) : listO [.tup xs] = .ok xs := nr rfl
@[simp] theorem listO_fr (xs : List D) : listO [.fr xs] = .ok xs := nr rfl
@[simp] theorem isNonD_eq (x : D) : isNonD x = .ok (.bl (isNon x)) := nr rfl
@[simp] theorem notNonD_eq (x : D) : notNonD x = .ok (.bl (!isNon x)) := nr rfl
@[simp] theorem notInD_eq (x y : D) : notInD x y = (inD x y).bind fun d => (asB d).bind fun c => .ok (.bl (!c)) := nr rfl
theorem sizeBig : (sizeLine : Nat) = 16777216 := sizeLine_eq
theorem small {n : Nat} (h : n ≤ 16777216) : n ≤ sizeLine := by rw [sizeBig]; exact h
@[simp] theorem mkTup_0 : mkTup [] = .ok (.tup []) := by unfold mkTup; rw [if_pos (small (by simp))]
@[simp] theorem mkTup_1 (a : D) : mkTup [a] = .ok (.tup [a]) := by unfold mkTup; rw [if_pos (small (by simp))]
@[simp] theorem mkTup_2 (a b : D) : mkTup [a, b] = .ok (.tup [a, b]) := by unfold mkTup; rw [if_pos (small (by simp))]
@[simp] theorem mkTup_3 (a b c : D) : mkTup [a, b, c] = .ok (.tup [a, b, c]) := by unfold mkTup; rw [if_pos (small (by simp))]
@[simp] theorem mkTup_4 (a b c d : D) : mkTup [a, b, c, d] = .ok (.tup [a, b, c, d]) := by unfold mkTup; rw [if_pos (small (by simp))]
theorem mkLst_s {xs : List D} (h : xs.length ≤ 16777216) : mkLst xs = .ok xs := by unfold mkLst; rw [if_pos (small h)]
@[simp] theorem mkLst_0 : mkLst [] = .ok [] := mkLst_s (by simp)
@[simp] theorem mkLst_1 (a : D) : mkLst [a] = .ok [a] := mkLst_s (by simp)
@[simp] theorem mkLst_2 (a b : D) : mkLst [a, b] = .ok [a, b] := mkLst_s (by simp)
@[simp] theorem mkLst_3 (a b c : D) : mkLst [a, b, c] = .ok [a, b, c] := mkLst_s (by simp)
@[simp] theorem mkLst_4 (a b c d : D) : mkLst [a, b, c, d] = .ok [a, b, c, d] := mkLst_s (by simp)
-- a def
theorem defF_eq (n k : Nat) (g : SemS) (ds : List D) (h : ds.length = n) : defF n k g ds = match g (ds.map some ++ List.replicate (k - n) none) with
  | .nx _ => .ok .non
  | .rt d => .ok d
  | .exc c _ => .exc c
  | _ => .stuck := by
  unfold defF bodyF startM
  rw [if_pos h, List.length_map, h]
  all_goals (cases g (List.map some ds ++ List.replicate (k - n) none) <;> rfl)
@[simp] theorem callF_eq (f : List D → R D) (ds : List D) : callF f ds = (f (stillL ds)).bind fun d => if hasTL ds = true then (if isFlat (still d) = true then .ok (still d) else .stuck) else .ok (still d) := nr rfl
@[simp] theorem mine_0 {xs : List D} {r : Sl} {k : List D → RS} : mine 0 (some (.lst true xs) :: r) k = k xs := nr rfl
@[simp] theorem mine_s {x : Option D} {r : Sl} {i : Nat} {k : List D → RS} : mine (i + 1) (x :: r) k = mine i r k := nr rfl

/-! ### data of small depth, without wild texts -/
mutual
def lay : D → Bool
  | .tup xs => layL xs
  | .lst _ xs => layL xs
  | .fr xs => layL xs
  | .str x => PyData.strOk x
  | .non => true
  | .bl _ => true
  | .int _ => true
  | .unk => true
  | .ex _ => true
  | .dct _ _ _ => true
def layL : List D → Bool
  | [] => true
  | x :: xs => lay x && layL xs
end
mutual
theorem lay_py : ∀ d, PyData.canLay0 (py d) = lay d
  | .tup xs => by simp only [py, PyData.canLay0, lay, layL_py xs]
  | .lst _ xs => by simp only [py, PyData.canLay0, lay, layL_py xs]
  | .fr xs => by simp only [py, PyData.canLay0, lay, layL_py xs]
  | .str _ => by simp only [py, PyData.canLay0, lay]
  | .non => by simp only [py, PyData.canLay0, lay]
  | .bl _ => by simp only [py, PyData.canLay0, lay]
  | .int _ => by simp only [py, PyData.canLay0, lay]
  | .unk => by simp only [py, lay]; decide +kernel
  | .ex _ => by simp only [py, lay]; decide +kernel
  | .dct _ _ _ => by simp only [py, lay]; decide +kernel
theorem layL_py : ∀ ds, PyData.canLayAll0 (pyL ds) = layL ds
  | [] => by simp only [pyL, PyData.canLayAll0, layL]
  | x :: xs => by simp only [pyL, PyData.canLayAll0, layL, lay_py x, layL_py xs]
end
/-- good data of depth n at most -/
def Sh (n : Nat) (d : D) : Prop := lay d = true ∧ PyData.depth (py d) ≤ n
theorem Sh.mono {n k : Nat} {d : D} (h : Sh n d) (l : n ≤ k) : Sh k d := ⟨h.1, Nat.le_trans h.2 l⟩
theorem sh_int (n : Nat) (i : Int) : Sh n (.int i) := ⟨rfl, by simp [py, PyData.depth]⟩
theorem sh_bl (n : Nat) (i : Bool) : Sh n (.bl i) := ⟨rfl, by simp [py, PyData.depth]⟩
theorem sh_non (n : Nat) : Sh n .non := ⟨rfl, by simp [py, PyData.depth]⟩
theorem sh_str {n : Nat} {x : Str} (h : PyData.strOk x = true) : Sh n (.str x) := ⟨h, by simp [py, PyData.depth]⟩
theorem shL {n : Nat} : ∀ {xs : List D}, (∀ x ∈ xs, Sh n x) → layL xs = true ∧ PyData.depthAll (pyL xs) ≤ n
  | [], _ => ⟨rfl, by simp [pyL, PyData.depthAll]⟩
  | x :: xs, h => by
    obtain ⟨h1, h2⟩ := shL (xs := xs) fun y hy => h y (by simp [hy])
    obtain ⟨k1, k2⟩ := h x (by simp)
    refine ⟨by simp [layL, k1, h1], ?_⟩
    simp only [pyL, PyData.depthAll]
    omega
theorem sh_tup {n : Nat} {xs : List D} (h : ∀ x ∈ xs, Sh n x) : Sh (n + 1) (.tup xs) := by
  obtain ⟨h1, h2⟩ := shL h
  exact ⟨h1, by simp only [py, PyData.depth]; omega⟩
theorem sh_lst {n : Nat} {t : Bool} {xs : List D} (h : ∀ x ∈ xs, Sh n x) : Sh (n + 1) (.lst t xs) := by
  obtain ⟨h1, h2⟩ := shL h
  exact ⟨h1, by simp only [py, PyData.depth]; omega⟩
theorem sh_fr {n : Nat} {xs : List D} (h : ∀ x ∈ xs, Sh n x) : Sh (n + 1) (.fr xs) := by
  obtain ⟨h1, h2⟩ := shL h
  exact ⟨h1, by simp only [py, PyData.depth]; omega⟩
theorem sh_shaped {n : Nat} {d : D} (h : Sh n d) (l : n ≤ 64) : SeqAt.shaped (py d) = true := by
  unfold SeqAt.shaped
  rw [lay_py, h.1]
  simp only [Bool.true_and, decide_eq_true_eq]
  exact Nat.le_trans h.2 l
theorem eqD_ok {x y : D} (hx : Sh 64 x) (hy : Sh 64 y) : eqD x y = .ok (.bl (eqvD x y)) := by
  unfold eqD
  rw [sh_shaped hx (by omega), sh_shaped hy (by omega)]
  rfl
theorem neD_ok {x y : D} (hx : Sh 64 x) (hy : Sh 64 y) : neD x y = .ok (.bl (!eqvD x y)) := by
  unfold neD
  rw [sh_shaped hx (by omega), sh_shaped hy (by omega)]
  rfl
theorem eqv_self {x : D} (h : lay x = true) : eqvD x x = true := SeqAt.eqv_refl _ (by rw [lay_py]; exact h)
theorem eqv_py {x y : D} (e : py x = py y) (h : lay x = true) : eqvD x y = true := by
  unfold eqvD
  rw [← e]
  exact eqv_self h
@[simp] theorem eqD_int (i j : Int) : eqD (.int i) (.int j) = .ok (.bl (decide (i = j))) := by
  rw [eqD_ok (sh_int _ _) (sh_int _ _)]
  simp only [eqvD, py, PyData.eqv]
  rw [Bool.beq_eq_decide_eq]
@[simp] theorem neD_int (i j : Int) : neD (.int i) (.int j) = .ok (.bl (!decide (i = j))) := by
  rw [neD_ok (sh_int _ _) (sh_int _ _)]
  simp only [eqvD, py, PyData.eqv]
  rw [Bool.beq_eq_decide_eq]
theorem eqD_str {x y : Str} (hx : PyData.strOk x = true) (hy : PyData.strOk y = true) : eqD (.str x) (.str y) = .ok (.bl (x == y)) := by
  rw [eqD_ok (sh_str hx) (sh_str hy)]
  simp [eqvD, py, PyData.eqv]
theorem neD_str {x y : Str} (hx : PyData.strOk x = true) (hy : PyData.strOk y = true) : neD (.str x) (.str y) = .ok (.bl (!(x == y))) := by
  rw [neD_ok (sh_str hx) (sh_str hy)]
  simp [eqvD, py, PyData.eqv]
theorem eqD_strs (x y : Str) : eqD (.str x) (.str y) = .ok (.bl (x == y)) := by
  unfold eqD
  rw [if_pos (by simp [strs2])]
  simp [eqvD, py, PyData.eqv]
theorem neD_strs (x y : Str) : neD (.str x) (.str y) = .ok (.bl (!(x == y))) := by
  unfold neD
  rw [if_pos (by simp [strs2])]
  simp [eqvD, py, PyData.eqv]
end CT

/-! CtT1: trains as data, and what a push does -/
namespace CK
open PySem PySem.Spec PyProof.Rows L2 CT

inductive Part where
  | wheel (z : Int) (ms : List Int) | click | rocker | spring (k : Int)
  deriving DecidableEq
def encP : Part → D
  | .wheel z ms => .tup [.str "wheel", .int z, .tup (ms.map .int)]
  | .click => .tup [.str "click"]
  | .rocker => .tup [.str "rocker"]
  | .spring k => .tup [.str "spring", .int k]
def nplaces : Part → Int
  | .wheel z _ => z
  | .click => 1
  | .rocker => 2
  | .spring k => k
def PartOk : Part → Prop
  | .wheel z ms => 1 ≤ z ∧ z < 2 ^ 2000 ∧ ms.length ≤ 1000000 ∧ (∀ m ∈ ms, 0 ≤ m ∧ m < z) ∧ ms.Pairwise (· < ·)
  | .click => True
  | .rocker => True
  | .spring k => 1 ≤ k ∧ k < 2 ^ 2000
@[simp] theorem s_ww : eqD (.str "wheel") (.str "wheel") = .ok (.bl true) := by rw [eqD_str (by decide +kernel) (by decide +kernel)]; congr 2
@[simp] theorem s_cw : eqD (.str "click") (.str "wheel") = .ok (.bl false) := by rw [eqD_str (by decide +kernel) (by decide +kernel)]; congr 2
@[simp] theorem s_rw : eqD (.str "rocker") (.str "wheel") = .ok (.bl false) := by rw [eqD_str (by decide +kernel) (by decide +kernel)]; congr 2
@[simp] theorem s_sw : eqD (.str "spring") (.str "wheel") = .ok (.bl false) := by rw [eqD_str (by decide +kernel) (by decide +kernel)]; congr 2
@[simp] theorem s_cc : eqD (.str "click") (.str "click") = .ok (.bl true) := by rw [eqD_str (by decide +kernel) (by decide +kernel)]; congr 2
@[simp] theorem s_rc : eqD (.str "rocker") (.str "click") = .ok (.bl false) := by rw [eqD_str (by decide +kernel) (by decide +kernel)]; congr 2
@[simp] theorem s_sc : eqD (.str "spring") (.str "click") = .ok (.bl false) := by rw [eqD_str (by decide +kernel) (by decide +kernel)]; congr 2
@[simp] theorem s_rr : eqD (.str "rocker") (.str "rocker") = .ok (.bl true) := by rw [eqD_str (by decide +kernel) (by decide +kernel)]; congr 2
@[simp] theorem s_sr : eqD (.str "spring") (.str "rocker") = .ok (.bl false) := by rw [eqD_str (by decide +kernel) (by decide +kernel)]; congr 2
@[simp] theorem s_cr : eqD (.str "click") (.str "rocker") = .ok (.bl false) := by rw [eqD_str (by decide +kernel) (by decide +kernel)]; congr 2
@[simp] theorem s_wr : eqD (.str "wheel") (.str "rocker") = .ok (.bl false) := by rw [eqD_str (by decide +kernel) (by decide +kernel)]; congr 2
@[simp] theorem s_ss : eqD (.str "spring") (.str "spring") = .ok (.bl true) := by rw [eqD_str (by decide +kernel) (by decide +kernel)]; congr 2
@[simp] theorem s_rs : eqD (.str "rocker") (.str "spring") = .ok (.bl false) := by rw [eqD_str (by decide +kernel) (by decide +kernel)]; congr 2
@[simp] theorem s_cs : eqD (.str "click") (.str "spring") = .ok (.bl false) := by rw [eqD_str (by decide +kernel) (by decide +kernel)]; congr 2
@[simp] theorem s_ws : eqD (.str "wheel") (.str "spring") = .ok (.bl false) := by rw [eqD_str (by decide +kernel) (by decide +kernel)]; congr 2
@[simp] theorem hasT_encP (q : Part) : hasT (encP q) = false := by cases q <;> simp [encP]
@[simp] theorem still_encP (q : Part) : still (encP q) = encP q := by cases q <;> simp [encP]
@[simp] theorem isFlat_encP (q : Part) : isFlat (encP q) = true := by cases q <;> simp [encP]
@[simp] theorem hasTL_encP (l : List Part) : hasTL (l.map encP) = false := hasTL_map hasT_encP l
@[simp] theorem stillL_encP (l : List Part) : stillL (l.map encP) = l.map encP := stillL_map still_encP l
theorem atI_of {α : Type} {xs : List α} {i : Nat} {x : α} (h : xs[i]? = some x) : atI xs (i : Int) = some x := by
  obtain ⟨h1, _⟩ := List.getElem?_eq_some_iff.mp h
  unfold atI ixN
  rw [if_pos (by omega), if_pos (by omega)]
  simpa using h
theorem ixD_tup {xs : List D} {i : Nat} {x : D} (h : xs[i]? = some x) : ixD (.tup xs) (.int (i : Int)) = .ok x := by
  simp only [ixD]; rw [atI_of h]
theorem ixD_lst {t : Bool} {xs : List D} {i : Nat} {x : D} (h : xs[i]? = some x) : ixD (.lst t xs) (.int (i : Int)) = .ok x := by
  simp only [ixD]; rw [atI_of h]
theorem ixD_fr {xs : List D} {i : Nat} {x : D} (h : xs[i]? = some x) : ixD (.fr xs) (.int (i : Int)) = .ok x := by
  simp only [ixD]; rw [atI_of h]
@[simp] theorem ixD_0 (x : D) (r : List D) : ixD (.tup (x :: r)) (.int 0) = .ok x := ixD_tup (i := 0) rfl
@[simp] theorem ixD_1 (x y : D) (r : List D) : ixD (.tup (x :: y :: r)) (.int 1) = .ok y := ixD_tup (i := 1) rfl
@[simp] theorem ixD_2 (x y z : D) (r : List D) : ixD (.tup (x :: y :: z :: r)) (.int 2) = .ok z := ixD_tup (i := 2) rfl
@[simp] theorem ixD_l0 (t : Bool) (x : D) (r : List D) : ixD (.lst t (x :: r)) (.int 0) = .ok x := ixD_lst (i := 0) rfl
@[simp] theorem ixD_l1 (t : Bool) (x y : D) (r : List D) : ixD (.lst t (x :: y :: r)) (.int 1) = .ok y := ixD_lst (i := 1) rfl
/-- an int list walked by a comprehension -/
theorem lcGo_map {α : Type} (enc : α → D) {g : SemG} {t : SemT} {f : SemE} {m : Sl} (c : α → Bool) (x : α → D) : ∀ xs : List α,
    (∀ a ∈ xs, ∃ m1, g (enc a) m = .ok m1 ∧ t m1 = .ok (c a) ∧ (c a = true → f m1 = .ok (x a) ∧ hasT (x a) = false)) → lcGo g t f m (xs.map enc) = .ok ((xs.filter c).map x)
  | [], _ => rfl
  | a :: xs, h => by
    obtain ⟨m1, h1, h2, h3⟩ := h a (by simp)
    have ih := lcGo_map enc (g := g) (t := t) (f := f) (m := m) c x xs fun b hb => h b (by simp [hb])
    rw [List.map_cons, lcGo, h1]
    simp only [nox, CT.R.bind_ok, h2]
    cases hc : c a with
    | false => simp [hc, ih]
    | true =>
      obtain ⟨k1, k2⟩ := h3 hc
      simp [hc, k1, k2, ih, nox]

def metN (z p n : Int) (ms : List Int) : Int := n / z * ms.length + ((ms.filter fun m => decide (0 < (m - p - 1) % z + 1) && decide ((m - p - 1) % z + 1 ≤ n % z)).length : Nat)
def leftN (z p n : Int) (ms : List Int) : Int := n / z * ms.length + ((ms.filter fun m => decide ((p - m) % z < n % z)).length : Nat)
theorem divOk_z {z : Int} (h1 : 1 ≤ z) (h2 : z < 2 ^ 2000) : divOk z := by
  refine .inr ⟨by omega, ?_⟩
  have h : z.natAbs < 2 ^ 2000 := by omega
  exact Nat.lt_of_lt_of_le (PySem.Flt.log2_lt_of (by decide) h) (by decide)
theorem filt_small {α : Type} {l : List α} {n : Nat} (c : α → Bool) (x : α → D) (h : l.length ≤ n) (hn : n ≤ 16777216) : ((l.filter c).map x).length ≤ sizeLine := by
  rw [List.length_map]
  exact small (by have := List.length_filter_le c l; omega)
theorem r_marks_met (z p n : Int) (ms : List Int) (h : PartOk (.wheel z ms)) : s_marks_met [encP (.wheel z ms), .int p, .int n] = .ok (.int (metN z p n ms)) := by
  obtain ⟨h1, h2, h3, h4, h5⟩ := h
  have e := lcGo_map D.int (g := putR 6) (t := tOf (eChain ltD leD (eC (.int 0)) (e2 addD (e2 modD (e2 subD (e2 subD (eVar 6) (eVar 1)) (eC (.int 1))) (eVar 3)) (eC (.int 1))) (eVar 5))) (f := eVar 6)
    (m := [some (encP (.wheel z ms)), some (.int p), some (.int n), some (.int z), some (.int (n / z * ms.length)), some (.int (n % z)), none]) (fun m => decide (0 < (m - p - 1) % z + 1) && decide ((m - p - 1) % z + 1 ≤ n % z)) D.int ms
    (fun a _ => by
      refine ⟨[some (encP (.wheel z ms)), some (.int p), some (.int n), some (.int z), some (.int (n / z * ms.length)), some (.int (n % z)), some (.int a)], by simp, ?_, fun _ => by simp⟩
      simp [modD_ok (show 0 < z by omega)]
      by_cases hc : 0 < (a - p - 1) % z + 1 <;> simp [hc])
  unfold s_marks_met
  rw [defF_eq _ _ _ _ (by rfl)]
  simp [encP, divD_ok (show 0 < z by omega) (divOk_z h1 h2), modD_ok (show 0 < z by omega), mulD_r (i := n / z) (j := (ms.length : Int)) (by omega), itemsN, items]
  simp [encP] at e
  rw [e, CT.R.bind_ok, if_pos (filt_small _ _ h3 (by decide))]
  simp [metN]
theorem r_marks_left (z p n : Int) (ms : List Int) (h : PartOk (.wheel z ms)) : s_marks_left [encP (.wheel z ms), .int p, .int n] = .ok (.int (leftN z p n ms)) := by
  obtain ⟨h1, h2, h3, h4, h5⟩ := h
  have e := lcGo_map D.int (g := putR 6) (t := tOf (e2 ltD (e2 modD (e2 subD (eVar 1) (eVar 6)) (eVar 3)) (eVar 5))) (f := eVar 6)
    (m := [some (encP (.wheel z ms)), some (.int p), some (.int n), some (.int z), some (.int (n / z * ms.length)), some (.int (n % z)), none]) (fun m => decide ((p - m) % z < n % z)) D.int ms
    (fun a _ => by
      refine ⟨[some (encP (.wheel z ms)), some (.int p), some (.int n), some (.int z), some (.int (n / z * ms.length)), some (.int (n % z)), some (.int a)], by simp, ?_, fun _ => by simp⟩
      simp [modD_ok (show 0 < z by omega)])
  unfold s_marks_left
  rw [defF_eq _ _ _ _ (by rfl)]
  simp [encP, divD_ok (show 0 < z by omega) (divOk_z h1 h2), modD_ok (show 0 < z by omega), mulD_r (i := n / z) (j := (ms.length : Int)) (by omega), itemsN, items]
  simp [encP] at e
  rw [e, CT.R.bind_ok, if_pos (filt_small _ _ h3 (by decide))]
  simp [leftN]
def b2 (c : Bool) : Int := if c then 1 else 0
/-- what so many pushes of one way do to a part: its place, what it gives -/
def pushP : Part → Int → Int → Int → Int × Int
  | .wheel z ms, p, w, n => ((p + w * n) % z, if w = 1 then metN z p n ms else leftN z p n ms)
  | .click, _, w, n => (0, n * if w = 1 then 1 else 0)
  | .rocker, p, w, n => if n = 0 then (p, 0) else (if w = 1 then 1 else 0, if w = 1 ∧ p = 0 then 1 else 0)
  | .spring k, p, w, n => if w = 1 then ((p + n) % k, (p + n) / k) else (if 0 < p - n then p - n else 0, 0)
def encI2 (x : Int × Int) : D := .tup [.int x.1, .int x.2]
theorem r_part_pushed (q : Part) (p w n : Int) (h : PartOk q) (hw : w = 1 ∨ w = -1) : s_part_pushed [encP q, .int p, .int w, .int n] = .ok (encI2 (pushP q p w n)) := by
  unfold s_part_pushed
  rw [defF_eq _ _ _ _ (by rfl)]
  have hm : mulD (.int w) (.int n) = .ok (.int (w * n)) := mulD_l (by omega)
  cases q with
  | wheel z ms =>
    have e1 := r_marks_left z p n ms h
    have e2 := r_marks_met z p n ms h
    obtain ⟨h1, h2, h3, h4, h5⟩ := h
    simp only [encP] at e1 e2
    rcases hw with rfl | rfl
    · simp [encP, e1, e2, hm, modD_ok (show 0 < z by omega), pushP, encI2]
    · simp [encP, e1, e2, hm, modD_ok (show 0 < z by omega), pushP, encI2]
  | click =>
    rcases hw with rfl | rfl
    · simp [encP, mulD_r (i := n) (j := 1) (by omega), pushP, encI2]
    · simp [encP, mulD_r (i := n) (j := 0) (by omega), pushP, encI2]
  | rocker =>
    rcases hw with rfl | rfl
    · by_cases hn : n = 0
      · simp [encP, pushP, encI2, hn]
      · by_cases hp : p = 0 <;> simp [encP, pushP, encI2, hn, hp]
    · by_cases hn : n = 0 <;> simp [encP, pushP, encI2, hn]
  | spring k =>
    obtain ⟨h1, h2⟩ := h
    rcases hw with rfl | rfl
    · simp [encP, modD_ok (show 0 < k by omega), divD_ok (show 0 < k by omega) (divOk_z h1 h2), pushP, encI2]
    · simp [encP, pushP, encI2]
end CK

/-! CtU: what a run of statements comes to, by what is wanted of it -/
namespace CT
open PySem PySem.Spec PyProof.Rows L2

/-- what is wanted -/
structure Po where
  nx : Sl → Prop
  ct : Sl → Prop := fun _ => False
  bk : Sl → Prop := fun _ => False
  rt : D → Prop := fun _ => False
  ex : String → Prop := fun _ => False
def wp (r : RS) (Q : Po) : Prop := match r with
  | .nx m => Q.nx m
  | .ct m => Q.ct m
  | .bk m => Q.bk m
  | .rt d => Q.rt d
  | .exc c _ => Q.ex c
  | .stuck => False
def wpR {α : Type} (r : R α) (Q : α → Prop) (E : String → Prop := fun _ => False) : Prop := match r with
  | .ok a => Q a
  | .exc c => E c
  | .stuck => False
@[simp] theorem wpR_ok {α : Type} (a : α) (Q : α → Prop) (E) : wpR (.ok a) Q E = Q a := nr rfl
@[simp] theorem wpR_exc {α : Type} (c : String) (Q : α → Prop) (E) : wpR (.exc c) Q E = E c := nr rfl
@[simp] theorem wpR_stuck {α : Type} (Q : α → Prop) (E) : wpR .stuck Q E = False := nr rfl
@[simp] theorem wpR_bind {α β : Type} (r : R α) (k : α → R β) (Q : β → Prop) (E) : wpR (r.bind k) Q E = wpR r (fun a => wpR (k a) Q E) E := by cases r <;> rfl
theorem wpR_ite {α : Type} {c : Prop} [Decidable c] (a b : R α) (Q : α → Prop) (E) : wpR (if c then a else b) Q E ↔ (c → wpR a Q E) ∧ (¬c → wpR b Q E) := by by_cases h : c <;> simp [h]
theorem wpR_eq {α : Type} {r : R α} {a : α} (h : wpR r (fun x => x = a)) : r = .ok a := by
  cases r with
  | ok x => exact congrArg _ h
  | exc c => exact h.elim
  | stuck => exact h.elim
theorem wpR_of {α : Type} {r : R α} {a : α} {Q : α → Prop} {E} (e : r = .ok a) (h : Q a) : wpR r Q E := by subst e; exact h
theorem wpR_ex {α : Type} {r : R α} {Q : α → Prop} (h : wpR r Q) : ∃ a, r = .ok a ∧ Q a := by
  cases r with
  | ok x => exact ⟨x, rfl, h⟩
  | exc c => exact h.elim
  | stuck => exact h.elim
theorem wpR_imp {α : Type} {r : R α} {Q Q' : α → Prop} {E E'} (h : wpR r Q E) (hq : ∀ a, Q a → Q' a) (he : ∀ c, E c → E' c) : wpR r Q' E' := by
  cases r with
  | ok x => exact hq _ h
  | exc c => exact he _ h
  | stuck => exact h
section
variable {Q : Po}
@[simp] theorem wp_nx (m : Sl) : wp (.nx m) Q = Q.nx m := nr rfl
@[simp] theorem wp_ct (m : Sl) : wp (.ct m) Q = Q.ct m := nr rfl
@[simp] theorem wp_bk (m : Sl) : wp (.bk m) Q = Q.bk m := nr rfl
@[simp] theorem wp_rt (d : D) : wp (.rt d) Q = Q.rt d := nr rfl
@[simp] theorem wp_exc (c : String) (m : Sl) : wp (.exc c m) Q = Q.ex c := nr rfl
@[simp] theorem wp_stuck : wp .stuck Q = False := nr rfl
def thP (k : Sl → RS) (Q : Po) : Po := ⟨fun m => wp (k m) Q, Q.ct, Q.bk, Q.rt, Q.ex⟩
@[simp] theorem thP_nx (k : Sl → RS) (m : Sl) : (thP k Q).nx m = wp (k m) Q := nr rfl
@[simp] theorem thP_ct (k : Sl → RS) : (thP k Q).ct = Q.ct := nr rfl
@[simp] theorem thP_bk (k : Sl → RS) : (thP k Q).bk = Q.bk := nr rfl
@[simp] theorem thP_rt (k : Sl → RS) : (thP k Q).rt = Q.rt := nr rfl
@[simp] theorem thP_ex (k : Sl → RS) : (thP k Q).ex = Q.ex := nr rfl
@[simp] theorem wp_then (r : RS) (k : Sl → RS) : wp (sThen r k) Q = wp r (thP k Q) := by cases r <;> rfl
def kP {α : Type} (k : α → RS) (Q : Po) (a : α) : Prop := wp (k a) Q
@[simp] theorem kP_eq {α : Type} (k : α → RS) (a : α) : kP k Q a = wp (k a) Q := nr rfl
@[simp] theorem wp_ofR {α : Type} (m : Sl) (r : R α) (k : α → RS) : wp (ofR m r k) Q = wpR r (kP k Q) Q.ex := by cases r <;> rfl
theorem wp_ite {c : Prop} [Decidable c] (a b : RS) : wp (if c then a else b) Q ↔ (c → wp a Q) ∧ (¬c → wp b Q) := by by_cases h : c <;> simp [h]
theorem wp_imp {r : RS} {Q' : Po} (h : wp r Q) (h1 : ∀ m, Q.nx m → Q'.nx m) (h2 : ∀ m, Q.ct m → Q'.ct m) (h3 : ∀ m, Q.bk m → Q'.bk m) (h4 : ∀ d, Q.rt d → Q'.rt d) (h5 : ∀ c, Q.ex c → Q'.ex c) : wp r Q' := by
  cases r with
  | nx m => exact h1 _ h
  | ct m => exact h2 _ h
  | bk m => exact h3 _ h
  | rt m => exact h4 _ h
  | exc c m => exact h5 _ h
  | stuck => exact h
def wpG (r : R Sl) (Q : Sl → Prop) : Prop := match r with
  | .ok m => Q m
  | _ => False
@[simp] theorem wpG_ok (m : Sl) (Q : Sl → Prop) : wpG (.ok m) Q = Q m := nr rfl
theorem wpG_ite {c : Prop} [Decidable c] (a b : R Sl) (Q : Sl → Prop) : wpG (if c then a else b) Q ↔ (c → wpG a Q) ∧ (¬c → wpG b Q) := by by_cases h : c <;> simp [h]
@[simp] theorem wp_matchG (r : R Sl) : wp (match r with | .ok m' => RS.nx m' | _ => .stuck) Q = wpG r Q.nx := by cases r <;> rfl
@[simp] theorem wp_for_nil (g : SemG) (body : SemS) (m : Sl) : wp (forGo g body [] m) Q = Q.nx m := nr rfl
@[simp] theorem wp_for_cons (g : SemG) (body : SemS) (d : D) (ds : List D) (m : Sl) : wp (forGo g body (d :: ds) m) Q = wpG (g d m) fun m1 => wp (body m1) ⟨fun m2 => wp (forGo g body ds m2) Q, fun m2 => wp (forGo g body ds m2) Q, Q.nx, Q.rt, Q.ex⟩ := by
  simp only [forGo]
  cases g d m with
  | ok m1 => simp only [wpG_ok]; cases body m1 <;> rfl
  | exc c => rfl
  | stuck => rfl
/-- a for by what holds between its turns -/
theorem wp_for {g : SemG} {body : SemS} {ds : List D} {m : Sl} (I : Nat → Sl → Prop) (h0 : I 0 m)
    (hs : ∀ i d, ds[i]? = some d → ∀ m, I i m → wpG (g d m) fun m1 => wp (body m1) ⟨I (i + 1), I (i + 1), Q.nx, Q.rt, Q.ex⟩) (hk : ∀ m', I ds.length m' → Q.nx m') : wp (forGo g body ds m) Q := by
  have gen : ∀ (n i : Nat) (m : Sl), i + n = ds.length → I i m → wp (forGo g body (ds.drop i) m) Q := by
    intro n
    induction n with
    | zero => intro i m e h; rw [List.drop_eq_nil_of_le (by omega)]; rw [show i = ds.length by omega] at h; exact hk m h
    | succ n ih =>
      intro i m e h
      have hi : i < ds.length := by omega
      rw [List.drop_eq_getElem_cons hi, wp_for_cons]
      have := hs i ds[i] (by simp [hi]) m h
      cases hg : g ds[i] m with
      | ok m1 =>
        rw [hg] at this
        exact wp_imp this (fun m2 z => ih (i + 1) m2 (by omega) z) (fun m2 z => ih (i + 1) m2 (by omega) z) (fun _ z => z) (fun _ z => z) (fun _ z => z)
      | exc c => rw [hg] at this; exact this
      | stuck => rw [hg] at this; exact this
  exact gen ds.length 0 m (by omega) h0
/-- over a range -/
theorem wp_rng {g : SemG} {body : SemS} {lo : Int} {n : Nat} {m : Sl} (I : Nat → Sl → Prop) (h0 : I 0 m)
    (hs : ∀ i, i < n → ∀ m, I i m → wpG (g (.int (lo + (i : Nat))) m) fun m1 => wp (body m1) ⟨I (i + 1), I (i + 1), Q.nx, Q.rt, Q.ex⟩) (hk : ∀ m', I n m' → Q.nx m') : wp (forGo g body (rng lo n) m) Q :=
  wp_for I h0 (fun i d e m h => by
    obtain ⟨h1, h2⟩ := List.getElem?_eq_some_iff.mp e
    rw [rng_length] at h1
    rw [rng_get lo n i h1] at e
    cases e
    exact hs i h1 m h) (fun m' h => hk m' (by rw [rng_length] at h; exact h))
/-- over what stands for a list -/
theorem wp_map {α : Type} {enc : α → D} {xs : List α} {g : SemG} {body : SemS} {m : Sl} (I : Nat → Sl → Prop) (h0 : I 0 m)
    (hs : ∀ i a, xs[i]? = some a → ∀ m, I i m → wpG (g (enc a) m) fun m1 => wp (body m1) ⟨I (i + 1), I (i + 1), Q.nx, Q.rt, Q.ex⟩) (hk : ∀ m', I xs.length m' → Q.nx m') : wp (forGo g body (xs.map enc) m) Q :=
  wp_for I h0 (fun i d e m h => by
    rw [List.getElem?_map] at e
    cases hx : xs[i]? with
    | none => rw [hx] at e; cases e
    | some a => rw [hx] at e; cases e; exact hs i a hx m h) (fun m' h => hk m' (by rw [List.length_map] at h; exact h))
/-- where nothing is carried on -/
theorem wp_each {α : Type} {enc : α → D} {xs : List α} {g : SemG} {body : SemS} {m : Sl} (I : Sl → Prop) (h0 : I m)
    (hs : ∀ a ∈ xs, ∀ m, I m → wpG (g (enc a) m) fun m1 => wp (body m1) ⟨I, I, Q.nx, Q.rt, Q.ex⟩) (hk : ∀ m', I m' → Q.nx m') : wp (forGo g body (xs.map enc) m) Q :=
  wp_map (fun _ => I) h0 (fun i a e m h => hs a (List.mem_of_getElem? e) m h) hk
theorem wp_rngE {g : SemG} {body : SemS} {lo : Int} {n : Nat} {m : Sl} (I : Sl → Prop) (h0 : I m)
    (hs : ∀ i, i < n → ∀ m, I m → wpG (g (.int (lo + (i : Nat))) m) fun m1 => wp (body m1) ⟨I, I, Q.nx, Q.rt, Q.ex⟩) (hk : ∀ m', I m' → Q.nx m') : wp (forGo g body (rng lo n) m) Q :=
  wp_rng (fun _ => I) h0 hs hk
/-- a while by what holds ahead of each turn, and a number that falls -/
theorem wp_while {t : SemT} {body : SemS} {m : Sl} (I : Nat → Sl → Prop) (n : Nat) (h0 : I n m)
    (hs : ∀ n m, I n m → ∃ c, t m = .ok c ∧ (c = true → wp (body m) ⟨fun m' => ∃ k, k < n ∧ I k m', fun m' => ∃ k, k < n ∧ I k m', Q.nx, Q.rt, Q.ex⟩) ∧ (c = false → Q.nx m)) : wp (sWhile t body m) Q := by
  have gen : ∀ (n : Nat) (m : Sl), I n m → ∃ k, wp (whN t body k m) Q := by
    intro n
    induction n using Nat.strongRecOn with
    | ind n ih =>
      intro m h
      obtain ⟨c, h1, h2, h3⟩ := hs n m h
      cases c with
      | false => exact ⟨1, by simp only [whN, h1, ofR_ok]; exact h3 rfl⟩
      | true =>
        have h2 := h2 rfl
        cases hb : body m with
        | nx m2 =>
          rw [hb] at h2
          obtain ⟨k, hk, hI⟩ := h2
          obtain ⟨j, hj⟩ := ih k hk m2 hI
          exact ⟨j + 1, by simp only [whN, h1, ofR_ok, if_true, hb]; exact hj⟩
        | ct m2 =>
          rw [hb] at h2
          obtain ⟨k, hk, hI⟩ := h2
          obtain ⟨j, hj⟩ := ih k hk m2 hI
          exact ⟨j + 1, by simp only [whN, h1, ofR_ok, if_true, hb]; exact hj⟩
        | bk m2 => rw [hb] at h2; exact ⟨1, by simp only [whN, h1, ofR_ok, if_true, hb]; exact h2⟩
        | rt d => rw [hb] at h2; exact ⟨1, by simp only [whN, h1, ofR_ok, if_true, hb]; exact h2⟩
        | exc c m2 => rw [hb] at h2; exact ⟨1, by simp only [whN, h1, ofR_ok, if_true, hb]; exact h2⟩
        | stuck => rw [hb] at h2; exact h2.elim
  obtain ⟨k, hk⟩ := gen n m h0
  have hne : whN t body k m ≠ .stuck := fun e => by rw [e] at hk; exact hk
  rw [sWhile_of rfl hne]
  exact hk
end
/-- a def by its body's run -/
def fin (r : RS) : R D := match r with
  | .nx _ => .ok .non
  | .rt d => .ok d
  | .exc c _ => .exc c
  | _ => .stuck
theorem def_run {n k : Nat} {g : SemS} {ds : List D} {Q : D → Prop} {E : String → Prop} (h : ds.length = n) (w : wp (g (ds.map some ++ List.replicate (k - n) none)) ⟨fun _ => Q .non, fun _ => False, fun _ => False, Q, E⟩) : wpR (defF n k g ds) Q E := by
  rw [defF_eq _ _ _ _ h]
  cases hg : g (List.map some ds ++ List.replicate (k - n) none) <;> rw [hg] at w <;> exact w
theorem def_ok1 {n k : Nat} {g : SemS} {ds : List D} {d : D} (h : ds.length = n) (w : wp (g (ds.map some ++ List.replicate (k - n) none)) ⟨fun _ => D.non = d, fun _ => False, fun _ => False, fun x => x = d, fun _ => False⟩) : defF n k g ds = .ok d :=
  wpR_eq (def_run h w)
theorem def_ex1 {n k : Nat} {g : SemS} {ds : List D} {c : String} (h : ds.length = n) (w : wp (g (ds.map some ++ List.replicate (k - n) none)) ⟨fun _ => False, fun _ => False, fun _ => False, fun _ => False, fun x => x = c⟩) : defF n k g ds = .exc c := by
  have := def_run (Q := fun _ => False) (E := fun x => x = c) h w
  cases hd : defF n k g ds with
  | ok x => rw [hd] at this; exact this.elim
  | exc e => rw [hd] at this; exact congrArg _ this
  | stuck => rw [hd] at this; exact this.elim
@[simp] theorem rng1_int {j : Int} (h : -(2 ^ 62) ≤ j ∧ j < 2 ^ 62) : rng1 [.int j] = .ok (rng 0 j.toNat) := by simp only [rng1]; rw [if_pos h]
@[simp] theorem rng2_int {i j : Int} (h : -(2 ^ 62) ≤ i ∧ i < 2 ^ 62 ∧ -(2 ^ 62) ≤ j ∧ j < 2 ^ 62) : rng2 [.int i, .int j] = .ok (rng i (j - i).toNat) := by simp only [rng2]; rw [if_pos h]
@[simp] theorem itemsN_lst {xs : List D} {s : Bool} (h : hasTL xs = false) : itemsN s (.lst false xs) = .ok xs := by simp [itemsN, items, h]
@[simp] theorem itemsN_tup {xs : List D} {s : Bool} (h : hasTL xs = false) : itemsN s (.tup xs) = .ok xs := by simp [itemsN, items, h]
@[simp] theorem itemsN_fr {xs : List D} {s : Bool} (h : hasTL xs = false) : itemsN s (.fr xs) = .ok xs := by simp [itemsN, items, h]
@[simp] theorem itemsN_own {xs : List D} {t : Bool} : itemsN false (.lst t xs) = .ok xs := by simp [itemsN, items]
theorem powD_lit {i j : Int} (h : 0 ≤ j ∧ (Builtin.Int.intBits i : Int) * j ≤ 2 ^ 27) : powD (.int i) (.int j) = .ok (.int (i ^ j.toNat)) := by simp only [powD]; rw [if_pos h]
@[simp] theorem pow10_18 : powD (.int 10) (.int 18) = .ok (.int 1000000000000000000) := by rw [powD_lit (by decide +kernel)]; rfl
@[simp] theorem pow10_6 : powD (.int 10) (.int 6) = .ok (.int 1000000) := by rw [powD_lit (by decide +kernel)]; rfl
end CT

/-! PtA: draws; trains and stands that are drawn -/
namespace CK
open PySem PySem.Spec PyProof.Rows L2 CT

/-! ### draws -/
def tenth (c : Int) : Nat → Int
  | 0 => c
  | k + 1 => tenth c k / 1000000
def mixN (c k : Int) : Int := if 1000000000000000000 ≤ c then tenth c k.toNat % 1000000 else
  let n := (c % 1000003 + k * k * 7919 + k) * 48271 % 2147483629
  let n := n * n % 2147483587
  n * (n + 2) % 2147483579 / 7
theorem mixN_lo (c k : Int) : 0 ≤ mixN c k := by
  unfold mixN; split <;> (try simp only) <;> omega
theorem mixN_hi (c k : Int) : mixN c k < 306783369 := by
  unfold mixN; split <;> (try simp only) <;> omega
theorem r_mix (c k : Int) (h0 : 0 ≤ k) (h1 : k < 1000000) : s_law_mix [.int c, .int k] = .ok (.int (mixN c k)) := by
  unfold s_law_mix
  refine def_ok1 rfl ?_
  have hkk : k * k ≤ 1000000 * 1000000 := by
    have := Int.mul_le_mul_of_nonneg_right (show k ≤ 1000000 by omega) h0; omega
  have hk0 : 0 ≤ k * k := Int.mul_nonneg h0 h0
  simp
  by_cases hc : 1000000000000000000 ≤ c
  · simp (disch := omega) [hc]
    refine wp_rng (fun i m => ∃ x, m = [some (.int (tenth c i)), some (.int k), x, none]) ⟨none, rfl⟩ (fun i hi m hm => ?_) (fun m hm => ?_)
    · obtain ⟨x, rfl⟩ := hm
      simp [divD_s, tenth]
    · obtain ⟨x, rfl⟩ := hm
      simp [modD_ok, mixN, hc]
  · have e1 : mulD (.int k) (.int k) = .ok (.int (k * k)) := mulD_l (by omega)
    have e2 : mulD (.int (k * k)) (.int 7919) = .ok (.int (k * k * 7919)) := mulD_r (by omega)
    have e3 : mulD (.int (c % 1000003 + k * k * 7919 + k)) (.int 48271) = .ok (.int ((c % 1000003 + k * k * 7919 + k) * 48271)) := mulD_r (by omega)
    have e4 : ∀ n : Int, mulD (.int (n % 2147483629)) (.int (n % 2147483629)) = .ok (.int (n % 2147483629 * (n % 2147483629))) := fun n => mulD_l (by omega)
    have e5 : ∀ n : Int, mulD (.int (n % 2147483587)) (.int (n % 2147483587 + 2)) = .ok (.int (n % 2147483587 * (n % 2147483587 + 2))) := fun n => mulD_l (by omega)
    simp [hc, modD_ok, e1, e2, e3, e4, e5, divD_s, mixN]
theorem cf_mix (c k : Int) (h0 : 0 ≤ k) (h1 : k < 1000000) : callF s_law_mix [.int c, .int k] = .ok (.int (mixN c k)) := by simp [r_mix c k h0 h1]
/-- a script's cells, cut -/
def big : Int := (10 ^ 60) ^ 60
def cutN (c : Int) : Int := if big ≤ c then big + c % big else c
theorem big_pos : 0 < big := by decide +kernel
@[simp] theorem pow_big : powD (.int 1000000000000000000000000000000000000000000000000000000000000) (.int 60) = .ok (.int big) := by rw [powD_lit (by decide +kernel)]; rfl
@[simp] theorem pow_60 : powD (.int 10) (.int 60) = .ok (.int 1000000000000000000000000000000000000000000000000000000000000) := by rw [powD_lit (by decide +kernel)]; rfl
theorem filt_true {α : Type} (l : List α) : l.filter (fun _ => true) = l := List.filter_eq_self.mpr (fun _ _ => rfl)
theorem lcGo_map1 {α : Type} (enc : α → D) {g : SemG} {f : SemE} {m : Sl} (x : α → D) (xs : List α)
    (h : ∀ a ∈ xs, ∃ m1, g (enc a) m = .ok m1 ∧ f m1 = .ok (x a) ∧ hasT (x a) = false) : lcGo g tYesM f m (xs.map enc) = .ok (xs.map x) := by
  rw [lcGo_map enc (fun _ => true) x xs fun a ha => ?_, filt_true]
  obtain ⟨m1, h1, h2, h3⟩ := h a ha
  exact ⟨m1, h1, rfl, fun _ => ⟨h2, h3⟩⟩
def cutL (ns : List Int) : List Int := ns.map cutN
theorem r_cut (ns : List Int) (h : ns.length ≤ 63) : s_law_cut [.fr (ns.map .int)] = .ok (.lst false ((cutL ns).map .int)) := by
  have e := lcGo_map1 D.int (g := putR 2) (f := e2 ixD (eOwn (aThen (aCons (eVar 2) (aCons (e2 addD (eVar 1) (e2 modD (eVar 2) (eVar 1))) aNil)) mkLst)) (eA intD (aCons (e2 geD (eVar 2) (eVar 1)) aNil)))
    (m := [some (.fr (ns.map .int)), some (.int big), none]) (fun n => D.int (cutN n)) ns
    (fun a _ => by
      refine ⟨[some (.fr (ns.map .int)), some (.int big), some (.int a)], by simp, ?_, rfl⟩
      simp [modD_ok big_pos, cutN]
      by_cases hc : big ≤ a <;> simp [hc])
  unfold s_law_cut
  refine def_ok1 rfl ?_
  simp
  rw [e]
  simp [small (show ns.length ≤ 16777216 by omega), cutL]
  exact stillL_map (fun _ => rfl) ns
end CK

/-! PtB: trains and stands that are drawn -/
namespace CK
open PySem PySem.Spec PyProof.Rows L2 CT

theorem r_places (q : Part) : s_law_places [encP q] = .ok (.int (nplaces q)) := by
  unfold s_law_places
  refine def_ok1 rfl ?_
  cases q <;> simp [encP, nplaces]
theorem cf_places (q : Part) : callF s_law_places [encP q] = .ok (.int (nplaces q)) := by simp [r_places]
theorem nplaces_pos {q : Part} (h : PartOk q) : 1 ≤ nplaces q := by
  cases q <;> simp only [PartOk, nplaces] at h ⊢ <;> omega
theorem shl_one (j : Nat) (h : (j : Int) ≤ 8000) : shlD (.int 1) (.int (j : Int)) = .ok (.int (2 ^ j)) := by
  simp only [shlD]
  rw [if_pos ⟨by omega, by omega, by decide⟩]
  simp
theorem divOk_two (j : Nat) (h : (j : Int) ≤ 8000) : divOk (2 ^ j) := by
  refine .inr ⟨Int.pow_pos (by decide), ?_⟩
  have e : ((2 : Int) ^ j).natAbs = 2 ^ j := by rw [Int.natAbs_pow]; rfl
  rw [e, Nat.log2_two_pow]
  omega
theorem rng_map (n : Nat) : rng 0 n = (List.range n).map fun i : Nat => D.int (i : Int) := by
  unfold rng; congr 1; funext i; rw [Int.zero_add]
theorem range_sorted (n : Nat) : ((List.range n).map fun i : Nat => (i : Int)).Pairwise (· < ·) := by
  rw [List.pairwise_map]
  exact List.pairwise_lt_range.imp (by intro a b h; omega)
/-- bits of a draw as marks -/
def bits (pick : Int) (n : Nat) : List Int := ((List.range n).filter fun i : Nat => decide (pick / 64 / 2 ^ i % 2 = 1)).map fun i : Nat => (i : Int)
theorem bits_ok {pick : Int} {n : Nat} : (∀ m ∈ bits pick n, 0 ≤ m ∧ m < n) ∧ (bits pick n).Pairwise (· < ·) ∧ (bits pick n).length ≤ n := by
  unfold bits
  refine ⟨fun m hm => ?_, ?_, ?_⟩
  · obtain ⟨i, hi, rfl⟩ := List.mem_map.mp hm
    have := List.mem_range.mp (List.mem_filter.mp hi).1
    omega
  · rw [List.pairwise_map]
    exact (List.pairwise_lt_range.filter _).imp (by intro a b h; omega)
  · rw [List.length_map]
    exact Nat.le_trans (List.length_filter_le _ _) (by simp)
theorem eqD_ints (i j : Int) : eqD (.int i) (.int j) = .ok (.bl (decide (i = j))) := eqD_int i j
theorem r_part (pick most : Int) (h0 : 0 ≤ pick) (h1 : 1 ≤ most) (h2 : most ≤ 500) : ∃ q, s_law_part [.int pick, .int most] = .ok (encP q) ∧ PartOk q ∧ nplaces q ≤ most := by
  obtain ⟨z, hz, z1, z2⟩ : ∃ z, (∃ w : Int, ixD (.lst false [.int 7, .int 7, .int 7, .int 500]) (.int (pick / 262144 % 4)) = .ok (.int w) ∧ z = 1 + pick / 8 % (if (if w < most then w else most) > 1 then (if w < most then w else most) else 1)) ∧ 1 ≤ z ∧ z ≤ most := by
    have : pick / 262144 % 4 = 0 ∨ pick / 262144 % 4 = 1 ∨ pick / 262144 % 4 = 2 ∨ pick / 262144 % 4 = 3 := by omega
    have key : ∀ w : Int, 1 ≤ w → 1 ≤ 1 + pick / 8 % (if (if w < most then w else most) > 1 then (if w < most then w else most) else 1) ∧ 1 + pick / 8 % (if (if w < most then w else most) > 1 then (if w < most then w else most) else 1) ≤ most := fun w hw => by
      have hp : 0 < (if (if w < most then w else most) > 1 then (if w < most then w else most) else 1) := by split <;> omega
      have hl : (if (if w < most then w else most) > 1 then (if w < most then w else most) else 1) ≤ most := by split <;> (try split) <;> omega
      have a1 := Int.emod_nonneg (pick / 8) (show (if (if w < most then w else most) > 1 then (if w < most then w else most) else 1) ≠ 0 by omega)
      have a2 := Int.emod_lt_of_pos (pick / 8) hp
      omega
    rcases this with e | e | e | e
    · exact ⟨_, ⟨7, by rw [e]; simp, rfl⟩, key 7 (by omega)⟩
    · exact ⟨_, ⟨7, by rw [e]; simp, rfl⟩, key 7 (by omega)⟩
    · exact ⟨_, ⟨7, by rw [e]; exact ixD_lst (i := 2) rfl, rfl⟩, key 7 (by omega)⟩
    · exact ⟨_, ⟨500, by rw [e]; exact ixD_lst (i := 3) rfl, rfl⟩, key 500 (by omega)⟩
  obtain ⟨w, hw, rfl⟩ := hz
  have hp : 0 < (if (if w < most then w else most) > 1 then (if w < most then w else most) else 1) := by split <;> omega
  generalize hg : 1 + pick / 8 % (if (if w < most then w else most) > 1 then (if w < most then w else most) else 1) = z at z1 z2
  have hb := bits_ok (pick := pick) (n := z.toNat)
  have hlz : 0 ≤ pick / 32768 % z ∧ pick / 32768 % z < z := ⟨Int.emod_nonneg _ (by omega), Int.emod_lt_of_pos _ (by omega)⟩
  have zb : z < 2 ^ 2000 := Int.lt_of_le_of_lt (b := 500) (by omega) (by decide)
  have main : wpR (s_law_part [.int pick, .int most]) (fun d => ∃ q, d = encP q ∧ PartOk q ∧ nplaces q ≤ most) := by
    have e := fun (m1 m2 m3 m4 : Option D) => lcGo_map (fun i : Nat => D.int (i : Int)) (g := putR 5) (t := tOf (e2 eqD (e2 modD (e2 divD (e2 divD (eVar 0) (eC (.int 64))) (e2 shlD (eC (.int 1)) (eVar 5))) (eC (.int 2))) (eC (.int 1)))) (f := eVar 5)
      (m := [some (.int pick), m1, m2, m3, m4, none]) (fun i : Nat => decide (pick / 64 / 2 ^ i % 2 = 1)) (fun i : Nat => D.int (i : Int)) (List.range z.toNat)
      (fun a ha => by
        have ha := List.mem_range.mp ha
        refine ⟨[some (.int pick), m1, m2, m3, m4, some (.int (a : Int))], by simp, ?_, fun _ => by simp⟩
        have := shl_one a (by omega)
        simp [divD_s, modD_ok, this, divD_ok (Int.pow_pos (show (0 : Int) < 2 by decide)) (divOk_two a (by omega))])
    have e' : ∀ m1 m2 m3 m4, lcGo (putR 5) (tOf (e2 eqD (e2 modD (e2 divD (e2 divD (eVar 0) (eC (.int 64))) (e2 shlD (eC (.int 1)) (eVar 5))) (eC (.int 2))) (eC (.int 1)))) (eVar 5) [some (.int pick), m1, m2, m3, m4, none] ((List.range z.toNat).map fun i : Nat => D.int (i : Int)) = .ok ((bits pick z.toNat).map D.int) := fun m1 m2 m3 m4 => by rw [e]; simp [bits]
    unfold s_law_part
    refine def_run rfl ?_
    simp (disch := omega) [divD_s, modD_ok, hw, modD_ok hp]
    rw [hg]
    by_cases c1 : pick % 8 < 4
    · simp (disch := omega) [c1, rng_map, e', divD_s, modD_ok, small (show (bits pick z.toNat).length ≤ 16777216 by omega)]
      by_cases c2 : pick / 8192 % 4 = 1
      · simp (disch := omega) [c2, divD_s, modD_ok]
        exact ⟨.wheel z [pick / 32768 % z], by simp [encP], ⟨z1, zb, by simp, by simpa using hlz, by simp⟩, z2⟩
      · simp (disch := omega) [c2]
        refine ⟨.wheel z (bits pick z.toNat), by simp [encP], ⟨z1, zb, by omega, fun m hm => ?_, hb.2.1⟩, z2⟩
        have := hb.1 m hm; omega
    · simp [c1]
      by_cases c2 : pick % 8 = 4
      · simp [c2]; exact ⟨.click, rfl, trivial, h1⟩
      · by_cases c3 : pick % 8 = 5 ∧ 1 < most
        · simp [c3.1, c3.2]; exact ⟨.rocker, rfl, trivial, by simp [nplaces]; omega⟩
        · by_cases c4 : pick % 8 = 5
          · have : ¬ 1 < most := fun h => c3 ⟨c4, h⟩
            simp [c4, this]; exact ⟨.spring z, rfl, ⟨z1, zb⟩, z2⟩
          · simp [c2, c4]; exact ⟨.spring z, rfl, ⟨z1, zb⟩, z2⟩
  obtain ⟨d, e, q, rfl, h⟩ := wpR_ex main
  exact ⟨q, e, h⟩
end CK

/-! PtC: trains, stands; pushes through a train -/
namespace CK
open PySem PySem.Spec PyProof.Rows L2 CT

def prodN (l : List Part) : Int := l.foldr (fun q n => nplaces q * n) 1
theorem prodN_app (l : List Part) (q : Part) : prodN (l ++ [q]) = prodN l * nplaces q := by
  induction l with
  | nil => simp [prodN]
  | cons a l ih => simp only [prodN, List.cons_append, List.foldr_cons] at ih ⊢; rw [ih, Int.mul_assoc]
theorem prodN_pos {l : List Part} (h : ∀ q ∈ l, PartOk q) : 1 ≤ prodN l := by
  induction l with
  | nil => simp [prodN]
  | cons a l ih =>
    have h1 := nplaces_pos (h a (by simp))
    have h2 := ih fun q hq => h q (by simp [hq])
    have := Int.mul_le_mul_of_nonneg_right h1 (show 0 ≤ prodN l by omega)
    simp only [prodN, List.foldr_cons] at *
    omega
def TrainOk (l : List Part) : Prop := (∀ q ∈ l, PartOk q) ∧ l.length ≤ 1000
theorem ixD_at {t : Bool} {xs ys : List D} {x : D} {i : Nat} (h : xs.length = i) : ixD (.lst t (xs ++ x :: ys)) (.int (i : Int)) = .ok x := ixD_lst (by subst h; simp)
/-- a drawn train -/
theorem r_train (c p most : Int) (h0 : 0 ≤ p) (h1 : p < 100000) (h2 : 1 ≤ most) (h3 : most ≤ 500) : ∃ l, s_law_train [.int c, .int p, .int most] = .ok (.lst true (l.map encP)) ∧ TrainOk l ∧ prodN l ≤ most ∧ 1 ≤ l.length ∧ l.length ≤ 5 := by
  have main : wpR (s_law_train [.int c, .int p, .int most]) (fun d => ∃ l, d = .lst true (l.map encP) ∧ TrainOk l ∧ prodN l ≤ most ∧ 1 ≤ l.length ∧ l.length ≤ 5) := by
    unfold s_law_train
    refine def_run rfl ?_
    have hm := mixN_lo c p
    have hm5 : 0 ≤ mixN c p % 5 ∧ mixN c p % 5 < 5 := by omega
    simp (disch := omega) [r_mix, modD_ok]
    obtain ⟨I, hI⟩ : ∃ I : Nat → Sl → Prop, I = fun i m => ∃ l room x, m = [some (.int c), some (.int p), some (.int most), some (.lst true (l.map encP)), some (.int room), x] ∧ l.length = i ∧ (∀ q ∈ l, PartOk q) ∧ 1 ≤ room ∧ room ≤ most ∧ prodN l * room ≤ most := ⟨_, rfl⟩
    refine wp_rng I (by rw [hI]; exact ⟨[], most, none, rfl, rfl, by simp, h2, by omega, by simp [prodN]⟩) (fun i hi m hm => ?_) (fun m hm => ?_)
    · rw [hI] at hm
      obtain ⟨l, room, x, rfl, hl, hq, hr, hr2, hp⟩ := hm
      have hlo := mixN_lo c (p + 1 + i)
      obtain ⟨q, e, hq1, hq2⟩ := r_part (mixN c (p + 1 + i)) room hlo hr (by omega)
      have hq3 := nplaces_pos hq1
      simp (disch := omega) [r_mix, e, show l.length < sizeLine by rw [sizeBig]; omega, ixD_at (t := true) (xs := l.map encP) (x := encP q) (ys := []) (i := i) (by simp [hl]), r_places, divD_s]
      rw [hI]
      refine ⟨l ++ [q], room / nplaces q, some (.int i), by simp, by simp [hl], ?_, ?_, ?_, ?_⟩
      · intro a ha
        rcases List.mem_append.mp ha with h | h
        · exact hq a h
        · rw [List.mem_singleton.mp h]; exact hq1
      · exact (Int.le_ediv_iff_mul_le (by omega)).mpr (by omega)
      · have := Int.ediv_le_self (nplaces q) (show 0 ≤ room by omega); omega
      · rw [prodN_app, Int.mul_assoc]
        have a1 : nplaces q * (room / nplaces q) ≤ room := Int.mul_ediv_self_le (by omega)
        have a2 := prodN_pos hq
        have := Int.mul_le_mul_of_nonneg_left a1 (show 0 ≤ prodN l by omega)
        omega
    · rw [hI] at hm
      obtain ⟨l, room, x, rfl, hl, hq, hr, hr2, hp⟩ := hm
      have hpp := prodN_pos hq
      have : prodN l * 1 ≤ prodN l * room := Int.mul_le_mul_of_nonneg_left hr (by omega)
      simp [sRetV]
      exact ⟨l, ⟨rfl, ⟨hq, by omega⟩, by omega, by omega, by omega⟩⟩
  obtain ⟨d, e, l, rfl, h⟩ := wpR_ex main
  exact ⟨l, e, h⟩
def StandOk : List Part → List Int → Prop
  | [], [] => True
  | q :: qs, p :: ps => 0 ≤ p ∧ p < nplaces q ∧ StandOk qs ps
  | _, _ => False
theorem StandOk.length : ∀ {l : List Part} {st : List Int}, StandOk l st → st.length = l.length
  | [], [], _ => rfl
  | _ :: _, _ :: _, h => by simp [StandOk.length h.2.2]
theorem StandOk.app : ∀ {l : List Part} {st : List Int} {q : Part} {p : Int}, StandOk l st → 0 ≤ p → p < nplaces q → StandOk (l ++ [q]) (st ++ [p])
  | [], [], _, _, _, h1, h2 => ⟨h1, h2, trivial⟩
  | _ :: _, _ :: _, _, _, h, h1, h2 => ⟨h.1, h.2.1, h.2.2.app h1 h2⟩
theorem r_stand (l : List Part) (pick : Int) (h : TrainOk l) : ∃ st, s_law_stand [.lst false (l.map encP), .int pick] = .ok (.tup (st.map .int)) ∧ StandOk l st := by
  have main : wpR (s_law_stand [.lst false (l.map encP), .int pick]) (fun d => ∃ st, d = .tup (st.map .int) ∧ StandOk l st) := by
    unfold s_law_stand
    refine def_run rfl ?_
    simp
    obtain ⟨I, hI⟩ : ∃ I : Nat → Sl → Prop, I = fun i m => ∃ st pick x, m = [some (.lst false (l.map encP)), some (.int pick), some (.lst true (st.map .int)), x] ∧ StandOk (l.take i) st := ⟨_, rfl⟩
    refine wp_map I (by rw [hI]; exact ⟨[], pick, none, rfl, trivial⟩) (fun i q hi m hm => ?_) (fun m hm => ?_)
    · rw [hI] at hm
      obtain ⟨st, pick, x, rfl, hs⟩ := hm
      obtain ⟨hi1, hi2⟩ := List.getElem?_eq_some_iff.mp hi
      have hq := h.1 q (List.mem_of_getElem? hi)
      have hq1 := nplaces_pos hq
      have hl := hs.length
      have hl2 := h.2
      simp at hl
      simp (disch := omega) [r_places, modD_ok, divD_s, show st.length < sizeLine by rw [sizeBig]; omega]
      rw [hI]
      refine ⟨st ++ [pick % nplaces q], pick / 7, _, by simp; rfl, ?_⟩
      rw [List.take_add_one, hi]
      exact hs.app (Int.emod_nonneg _ (by omega)) (Int.emod_lt_of_pos _ (by omega))
    · rw [hI] at hm
      obtain ⟨st, pick, x, rfl, hs⟩ := hm
      rw [List.take_length] at hs
      simp
      exact ⟨st, rfl, hs⟩
  obtain ⟨d, e, l, rfl, h⟩ := wpR_ex main
  exact ⟨l, e, h⟩
/-- pushes that come to the first part of a train -/
def pushT : List Part → List Int → Int → Int → List Int × Int
  | q :: qs, p :: ps, w, n => ((pushP q p w n).1 :: (pushT qs ps w (pushP q p w n).2).1, (pushT qs ps w (pushP q p w n).2).2)
  | _, ps, _, n => (ps, n)
def pushI (l : List Part) (st : List Int) (i : Nat) (w n : Int) : List Int × Int := (st.take i ++ (pushT (l.drop i) (st.drop i) w n).1, w * (pushT (l.drop i) (st.drop i) w n).2)
def encR (x : List Int × Int) : D := .tup [.tup (x.1.map .int), .int x.2]
theorem ixN_nat {n i : Nat} (h : i < n) : ixN n (i : Int) = some i := by
  unfold ixN; rw [if_pos (by omega), if_pos (by omega)]; simp
theorem set_mid {α : Type} {xs ys : List α} {x y : α} {i : Nat} (h : xs.length = i) : (xs ++ x :: ys).set i y = xs ++ y :: ys := by subst h; simp
theorem r_pushed_often (l : List Part) (st : List Int) (i : Nat) (w n : Int) (h : TrainOk l) (hs : st.length = l.length) (hi : i ≤ l.length) (hw : w = 1 ∨ w = -1) :
    s_pushed_often [.lst false (l.map encP), .tup (st.map .int), .int (i : Int), .int w, .int n] = .ok (encR (pushI l st i w n)) := by
  unfold s_pushed_often
  refine def_ok1 rfl ?_
  have hl2 := h.2
  simp (disch := omega)
  obtain ⟨I, hI⟩ : ∃ I : Nat → Sl → Prop, I = fun k m => ∃ done n' x, m = [some (.lst false (l.map encP)), some (.tup (st.map .int)), some (.int (i : Int)), some (.int w), some (.int n'), some (.lst true ((st.take i ++ done ++ st.drop (i + k)).map .int)), x] ∧ done.length = k ∧
      pushT (l.drop i) (st.drop i) w n = (done ++ (pushT (l.drop (i + k)) (st.drop (i + k)) w n').1, (pushT (l.drop (i + k)) (st.drop (i + k)) w n').2) := ⟨_, rfl⟩
  refine wp_rng I (by rw [hI]; exact ⟨[], n, none, by simp, rfl, by simp⟩) (fun k hk m hm => ?_) (fun m hm => ?_)
  · rw [hI] at hm
    obtain ⟨done, n', x, rfl, hd, hp⟩ := hm
    have hk' : i + k < l.length := by omega
    have hks : i + k < st.length := by omega
    have e0 : (i : Int) + (k : Int) = ((i + k : Nat) : Int) := by omega
    have d1 : st.drop (i + k) = st[i + k] :: st.drop (i + k + 1) := List.drop_eq_getElem_cons hks
    have d2 : l.drop (i + k) = l[i + k] :: l.drop (i + k + 1) := List.drop_eq_getElem_cons hk'
    have len : (st.take i ++ done).length = i + k := by rw [List.length_append, List.length_take, hd]; omega
    have e1 : ixD (.lst false (l.map encP)) (.int ((i : Int) + (k : Int))) = .ok (encP l[i + k]) := by rw [e0]; exact ixD_lst (by simp [hk'])
    have e2 : ixD (.lst true ((st.take i ++ done ++ st.drop (i + k)).map .int)) (.int ((i : Int) + (k : Int))) = .ok (.int st[i + k]) := by
      rw [e0, d1, List.map_append, List.map_cons]; exact ixD_at (by rw [List.length_map, len])
    have e3 := r_part_pushed l[i + k] st[i + k] w n' (h.1 _ (List.getElem_mem hk')) hw
    have e4 : ixN ((st.take i ++ done ++ st.drop (i + k)).map D.int).length ((i : Int) + (k : Int)) = some (i + k) := by rw [e0]; exact ixN_nat (by rw [List.length_map, List.length_append, len, List.length_drop]; omega)
    have e5 : ∀ y, ((st.take i ++ done ++ st.drop (i + k)).map D.int).set (i + k) (.int y) = (st.take i ++ (done ++ [y]) ++ st.drop (i + (k + 1))).map .int := fun y => by
      rw [d1, List.map_append, List.map_cons, set_mid (by rw [List.length_map, len])]
      simp [Nat.add_assoc]
    have e6 : hasTL ((st.take i ++ done ++ st.drop (i + k)).map D.int) = false := hasTL_ints _
    generalize (st.take i ++ done ++ st.drop (i + k)).map D.int = L at e2 e4 e5 e6
    simp [e1, e2, e3, encI2, subR, e4, e5, e6]
    rw [hI]
    refine ⟨done ++ [(pushP l[i + k] st[i + k] w n').1], (pushP l[i + k] st[i + k] w n').2, some (.int (i + k)), by simp, by simp [hd], ?_⟩
    rw [hp, d1, d2]
    simp [pushT, Nat.add_assoc]
  · rw [hI] at hm
    obtain ⟨done, n', x, rfl, hd, hp⟩ := hm
    have e : i + (l.length - i) = l.length := by omega
    rw [e] at hp ⊢
    have d1 : st.drop l.length = [] := List.drop_eq_nil_of_le (by omega)
    have d2 : l.drop l.length = [] := List.drop_eq_nil_of_le (by omega)
    rw [d1, d2] at hp
    simp only [pushT, List.append_nil] at hp
    have hm : ∀ j, mulD (.int w) (.int j) = .ok (.int (w * j)) := fun j => mulD_l (by omega)
    rw [d1]
    simp [hm, encR, pushI, hp]
    rw [← List.map_take, ← List.map_append, stillL_ints]
end CK

/-! PtD: a push told part by part; marks counted one by one -/
namespace CK
open PySem PySem.Spec PyProof.Rows L2 CT

/-! ### marks counted one by one -/
theorem div0 {a z : Int} (h0 : 0 ≤ a) (h1 : a < z) : a / z = 0 := Int.ediv_eq_zero_of_lt h0 h1
theorem div1 {a z : Int} (h0 : z ≤ a) (h1 : a < z + z) (hz : 1 ≤ z) : a / z = 1 := by
  have h := Int.add_mul_ediv_left (a - z) 1 (show z ≠ 0 by omega)
  rw [Int.mul_one, Int.sub_add_cancel, div0 (a := a - z) (z := z) (by omega) (by omega)] at h
  omega
theorem divm {a z : Int} (h0 : a < 0) (h1 : -z ≤ a) : a / z = -1 := by
  have h := Int.add_mul_ediv_left a 1 (show z ≠ 0 by omega)
  rw [Int.mul_one, div0 (a := a + z) (z := z) (by omega) (by omega)] at h
  omega
theorem one_met {z : Int} (hz : 1 ≤ z) (p m n : Int) (hn : 0 ≤ n) : (p - m + n) / z - (p - m) / z = n / z + (if 0 < (m - p - 1) % z + 1 ∧ (m - p - 1) % z + 1 ≤ n % z then 1 else 0) := by
  generalize ha : p - m = a
  have e1 : (m - p - 1) % z = z - 1 - a % z := by
    have h1 := Int.emod_add_mul_ediv a z
    have h2 := Int.emod_nonneg a (show z ≠ 0 by omega)
    have h3 := Int.emod_lt_of_pos a (show 0 < z by omega)
    have : m - p - 1 = (z - 1 - a % z) + z * (-(a / z) - 1) := by rw [Int.mul_sub, Int.mul_neg]; omega
    rw [this, Int.add_mul_emod_self_left, Int.emod_eq_of_lt (by omega) (by omega)]
  have h2 := Int.emod_nonneg a (show z ≠ 0 by omega)
  have h3 := Int.emod_lt_of_pos a (show 0 < z by omega)
  have k2 := Int.emod_nonneg n (show z ≠ 0 by omega)
  have k3 := Int.emod_lt_of_pos n (show 0 < z by omega)
  have e2 : (a + n) / z = a / z + n / z + (a % z + n % z) / z := by
    have h1 := Int.emod_add_mul_ediv a z
    have k1 := Int.emod_add_mul_ediv n z
    have e : a + n = (a % z + n % z) + z * (a / z + n / z) := by rw [Int.mul_add]; omega
    have := Int.add_mul_ediv_left (a % z + n % z) (a / z + n / z) (show z ≠ 0 by omega)
    rw [← e] at this
    omega
  rw [e2, e1]
  by_cases hc : z ≤ a % z + n % z
  · rw [if_pos (by omega), div1 hc (by omega) hz]
    omega
  · rw [if_neg (by omega), div0 (a := a % z + n % z) (by omega) (by omega)]
    omega
theorem one_left {z : Int} (hz : 1 ≤ z) (p m n : Int) (hn : 0 ≤ n) : (p - m) / z - (p - m - n) / z = n / z + (if (p - m) % z < n % z then 1 else 0) := by
  generalize ha : p - m = a
  have h1 := Int.emod_add_mul_ediv a z
  have k1 := Int.emod_add_mul_ediv n z
  have h2 := Int.emod_nonneg a (show z ≠ 0 by omega)
  have h3 := Int.emod_lt_of_pos a (show 0 < z by omega)
  have k2 := Int.emod_nonneg n (show z ≠ 0 by omega)
  have k3 := Int.emod_lt_of_pos n (show 0 < z by omega)
  have e2 : (a - n) / z = a / z - n / z + (a % z - n % z) / z := by
    have e : a - n = (a % z - n % z) + z * (a / z - n / z) := by rw [Int.mul_sub]; omega
    have := Int.add_mul_ediv_left (a % z - n % z) (a / z - n / z) (show z ≠ 0 by omega)
    rw [← e] at this
    omega
  rw [e2]
  by_cases hc : a % z < n % z
  · rw [if_pos hc, divm (a := a % z - n % z) (by omega) (by omega)]
    omega
  · rw [if_neg hc, div0 (a := a % z - n % z) (by omega) (by omega)]
    omega
def sumI (l : List Int) : Int := l.foldr (· + ·) 0
@[simp] theorem sumI_nil : sumI [] = 0 := rfl
@[simp] theorem sumI_cons (a : Int) (l : List Int) : sumI (a :: l) = a + sumI l := rfl
theorem metN_sum {z : Int} (hz : 1 ≤ z) (p n : Int) (hn : 0 ≤ n) : ∀ ms : List Int, metN z p n ms = sumI (ms.map fun m => (p - m + n) / z - (p - m) / z)
  | [] => by simp [metN]
  | m :: ms => by
    have ih := metN_sum hz p n hn ms
    unfold metN at ih ⊢
    rw [List.map_cons, sumI_cons, ← ih, one_met hz p m n hn, List.length_cons, List.filter_cons]
    rw [show ((ms.length + 1 : Nat) : Int) = (ms.length : Int) + 1 by omega, Int.mul_add, Int.mul_one]
    by_cases hc : 0 < (m - p - 1) % z + 1 ∧ (m - p - 1) % z + 1 ≤ n % z
    · rw [if_pos hc, if_pos (by simpa using hc), List.length_cons]; omega
    · rw [if_neg hc, if_neg (by simpa using hc)]; omega
theorem leftN_sum {z : Int} (hz : 1 ≤ z) (p n : Int) (hn : 0 ≤ n) : ∀ ms : List Int, leftN z p n ms = sumI (ms.map fun m => (p - m) / z - (p - m - n) / z)
  | [] => by simp [leftN]
  | m :: ms => by
    have ih := leftN_sum hz p n hn ms
    unfold leftN at ih ⊢
    rw [List.map_cons, sumI_cons, ← ih, one_left hz p m n hn, List.length_cons, List.filter_cons]
    rw [show ((ms.length + 1 : Nat) : Int) = (ms.length : Int) + 1 by omega, Int.mul_add, Int.mul_one]
    by_cases hc : (p - m) % z < n % z
    · rw [if_pos hc, if_pos (by simpa using hc), List.length_cons]; omega
    · rw [if_neg hc, if_neg (by simpa using hc)]; omega
/-- what one push does to a part, told plainly -/
def pushL : Part → Int → Int → Int × Int
  | .wheel z ms, p, w => ((p + w) % z, if w = 1 then (if (p + w) % z ∈ ms then 1 else 0) else 0 - (if p ∈ ms then 1 else 0))
  | .click, _, w => (0, if w = 1 then 1 else 0)
  | .rocker, p, w => (if w = 1 then 1 else 0, if w = 1 ∧ p = 0 then 1 else 0)
  | .spring k, p, w => if w = 1 ∧ p = k - 1 then (0, 1) else (if 0 < p + w then p + w else 0, 0)
theorem sum_hit {z : Int} (c : Int → Int) (p' : Int) : ∀ ms : List Int, ms.Pairwise (· < ·) → (∀ m ∈ ms, c m = if p' = m then 1 else 0) → sumI (ms.map c) = if p' ∈ ms then 1 else 0
  | [], _, _ => by simp
  | m :: ms, h, hc => by
    rw [List.pairwise_cons] at h
    have ih := sum_hit (z := z) c p' ms h.2 fun m hm => hc m (by simp [hm])
    rw [List.map_cons, sumI_cons, ih, hc m (by simp)]
    by_cases e : p' = m
    · subst e
      have : p' ∉ ms := fun hm => by have := h.1 _ hm; omega
      simp [this]
    · simp [e]
theorem pushP_one {q : Part} {p w : Int} (h : PartOk q) (h0 : 0 ≤ p) (h1 : p < nplaces q) (hw : w = 1 ∨ w = -1) :
    (pushP q p w 1).1 = (pushL q p w).1 ∧ w * (pushP q p w 1).2 = (pushL q p w).2 ∧ ((pushP q p w 1).2 = 0 ∨ (pushP q p w 1).2 = 1) := by
  cases q with
  | wheel z ms =>
    obtain ⟨hz, _, _, hm, hp⟩ := h
    simp only [nplaces] at h1
    have e1 : metN z p 1 ms = if (p + 1) % z ∈ ms then 1 else 0 := by
      rw [metN_sum hz p 1 (by omega)]
      refine sum_hit (z := z) _ _ ms hp fun m hm' => ?_
      have := hm m hm'
      by_cases e : p + 1 = z
      · rw [e, Int.emod_self]
        by_cases em : m = 0
        · subst em
          rw [show p - 0 + 1 = z by omega, Int.ediv_self (by omega), Int.ediv_eq_zero_of_lt (by omega) (by omega)]; simp
        · rw [div0 (a := p - m) (by omega) (by omega), div0 (by omega) (by omega), if_neg (by omega)]; rfl
      · rw [Int.emod_eq_of_lt (by omega) (by omega)]
        by_cases c : m ≤ p
        · rw [div0 (a := p - m) (by omega) (by omega), div0 (by omega) (by omega), if_neg (by omega)]; rfl
        · have d1 : (p - m) / z = -1 := divm (by omega) (by omega)
          by_cases c2 : p + 1 = m
          · rw [d1, if_pos c2, Int.ediv_eq_zero_of_lt (by omega) (by omega)]; rfl
          · have d2 : (p - m + 1) / z = -1 := divm (by omega) (by omega)
            rw [d1, d2, if_neg c2]; rfl
    have e2 : leftN z p 1 ms = if p ∈ ms then 1 else 0 := by
      rw [leftN_sum hz p 1 (by omega)]
      refine sum_hit (z := z) _ _ ms hp fun m hm' => ?_
      have := hm m hm'
      by_cases c : m < p
      · rw [div0 (a := p - m) (by omega) (by omega), div0 (by omega) (by omega), if_neg (by omega)]; rfl
      · by_cases c2 : p = m
        · have d2 : (p - m - 1) / z = -1 := divm (by omega) (by omega)
          rw [d2, if_pos c2, Int.ediv_eq_zero_of_lt (by omega) (by omega)]; rfl
        · have d1 : (p - m) / z = -1 := divm (by omega) (by omega)
          by_cases c3 : m - p = z - 1 + 1
          · omega
          · have d2 : (p - m - 1) / z = -1 := divm (by omega) (by omega)
            rw [d1, d2, if_neg c2]; rfl
    rcases hw with rfl | rfl
    · refine ⟨by simp [pushP, pushL], ?_, ?_⟩
      · simp [pushP, pushL, e1]
      · simp only [pushP, if_true, e1]; split <;> simp
    · refine ⟨by simp [pushP, pushL], ?_, ?_⟩
      · simp [pushP, pushL, e2]
      · simp [pushP, e2]; exact (Classical.em _).symm
  | click => rcases hw with rfl | rfl <;> simp [pushP, pushL]
  | rocker => rcases hw with rfl | rfl <;> (by_cases e : p = 0 <;> simp [pushP, pushL, e])
  | spring k =>
    obtain ⟨hk, _⟩ := h
    simp only [nplaces] at h1
    rcases hw with rfl | rfl
    · by_cases e : p = k - 1
      · subst e
        simp [pushP, pushL, Int.ediv_self (show k ≠ 0 by omega)]
      · have a1 : (p + 1) % k = p + 1 := Int.emod_eq_of_lt (by omega) (by omega)
        have a2 : (p + 1) / k = 0 := Int.ediv_eq_zero_of_lt (by omega) (by omega)
        simp [pushP, pushL, e, a1, a2]
        omega
    · simp [pushP, pushL]
      split <;> split <;> omega
theorem pushP_zero {q : Part} {p w : Int} (h : PartOk q) (h0 : 0 ≤ p) (h1 : p < nplaces q) : pushP q p w 0 = (p, 0) := by
  cases q with
  | wheel z ms =>
    obtain ⟨hz, hx1, hx2, hm, hp⟩ := h
    clear hx2
    simp only [nplaces] at h1
    have e1 : metN z p 0 ms = 0 := by
      rw [metN_sum hz p 0 (by omega)]
      clear hm hp
      induction ms with
      | nil => rfl
      | cons m ms ih => rw [List.map_cons, sumI_cons, ih]; simp
    have e2 : leftN z p 0 ms = 0 := by
      rw [leftN_sum hz p 0 (by omega)]
      clear hm hp e1
      induction ms with
      | nil => rfl
      | cons m ms ih => rw [List.map_cons, sumI_cons, ih]; simp
    simp [pushP, e1, e2, Int.emod_eq_of_lt h0 h1]
  | click => simp only [nplaces] at h1; simp [pushP]; omega
  | rocker => simp [pushP]
  | spring k =>
    simp only [nplaces] at h1
    simp [pushP, Int.emod_eq_of_lt h0 h1, Int.ediv_eq_zero_of_lt h0 h1]
    omega
theorem pushT_zero : ∀ {l : List Part} {st : List Int} {w : Int}, (∀ q ∈ l, PartOk q) → StandOk l st → pushT l st w 0 = (st, 0)
  | [], [], _, _, _ => rfl
  | q :: l, p :: st, w, h, hs => by
    have hq := h q (by simp)
    rw [pushT, pushP_zero hq hs.1 hs.2.1, pushT_zero (fun a ha => h a (by simp [ha])) hs.2.2]
/-- .. through a train -/
def lawT : List Part → List Int → Int → List Int × Int
  | q :: qs, p :: ps, w => if w = 0 then (p :: ps, 0) else ((pushL q p w).1 :: (lawT qs ps (pushL q p w).2).1, (lawT qs ps (pushL q p w).2).2)
  | _, ps, w => (ps, w)
theorem lawT_zero : ∀ (l : List Part) (st : List Int), lawT l st 0 = (st, 0)
  | [], _ => rfl
  | _ :: _, [] => rfl
  | _ :: _, _ :: _ => rfl
theorem lawT_eq : ∀ {l : List Part} {st : List Int} {w : Int}, (∀ q ∈ l, PartOk q) → StandOk l st → (w = 1 ∨ w = -1) → lawT l st w = ((pushT l st w 1).1, w * (pushT l st w 1).2)
  | [], [], w, _, _, _ => by simp [lawT, pushT]
  | q :: l, p :: st, w, h, hs, hw => by
    have hq := h q (by simp)
    obtain ⟨h1, h2, h3⟩ := pushP_one hq hs.1 hs.2.1 hw
    have h' : ∀ q ∈ l, PartOk q := fun a ha => h a (by simp [ha])
    rw [lawT, if_neg (by omega), pushT, ← h1, ← h2]
    rcases h3 with h3 | h3
    · rw [h3, Int.mul_zero, lawT_zero, pushT_zero h' hs.2.2]; simp
    · rw [h3, Int.mul_one, lawT_eq h' hs.2.2 hw]
def lawI (l : List Part) (st : List Int) (i : Nat) (w : Int) : List Int × Int := (st.take i ++ (lawT (l.drop i) (st.drop i) w).1, (lawT (l.drop i) (st.drop i) w).2)
theorem StandOk.drop : ∀ {l : List Part} {st : List Int} (i : Nat), StandOk l st → StandOk (l.drop i) (st.drop i)
  | _, _, 0, h => h
  | [], [], _ + 1, h => h
  | _ :: _, _ :: _, i + 1, h => h.2.2.drop i
theorem lawI_eq {l : List Part} {st : List Int} {i : Nat} {w : Int} (h : ∀ q ∈ l, PartOk q) (hs : StandOk l st) (hw : w = 1 ∨ w = -1) : lawI l st i w = pushI l st i w 1 := by
  unfold lawI pushI
  rw [lawT_eq (fun q hq => h q (List.mem_of_mem_drop hq)) (hs.drop i) hw]
end CK

/-! PtE: what a law's own pushing comes to -/
namespace CK
open PySem PySem.Spec PyProof.Rows L2 CT

theorem neD_self {x : D} (h : Sh 64 x) : neD x x = .ok (.bl false) := by rw [neD_ok h h, eqv_self h.1]; rfl
theorem eqD_self {x : D} (h : Sh 64 x) : eqD x x = .ok (.bl true) := by rw [eqD_ok h h, eqv_self h.1]
theorem neD_py {x y : D} (e : py x = py y) (h : Sh 64 x) (h' : Sh 64 y) : neD x y = .ok (.bl false) := by rw [neD_ok h h', eqv_py e h.1]; rfl
theorem eqD_py {x y : D} (e : py x = py y) (h : Sh 64 x) (h' : Sh 64 y) : eqD x y = .ok (.bl true) := by rw [eqD_ok h h', eqv_py e h.1]
theorem shl_map {α : Type} {f : α → D} {n : Nat} (h : ∀ a, Sh n (f a)) (l : List α) : ∀ x ∈ l.map f, Sh n x := fun x hx => by
  obtain ⟨a, _, rfl⟩ := List.mem_map.mp hx; exact h a
theorem sh_ints (l : List Int) (n : Nat) : Sh (n + 1) (.tup (l.map .int)) := sh_tup (shl_map (fun a => sh_int _ a) l)
theorem sh_encP (q : Part) : Sh 3 (encP q) := by
  have hs : ∀ s : Str, PyData.strOk s = true → Sh 2 (.str s) := fun s h => sh_str h
  cases q with
  | wheel z ms => exact sh_tup (by
      intro x hx
      simp only [List.mem_cons, List.not_mem_nil, or_false] at hx
      rcases hx with rfl | rfl | rfl
      · exact hs _ (by decide +kernel)
      · exact sh_int _ _
      · exact sh_ints ms 1)
  | click => exact sh_tup (by
      intro x hx
      simp only [List.mem_cons, List.not_mem_nil, or_false] at hx
      rcases hx with rfl
      exact hs _ (by decide +kernel))
  | rocker => exact sh_tup (by
      intro x hx
      simp only [List.mem_cons, List.not_mem_nil, or_false] at hx
      rcases hx with rfl
      exact hs _ (by decide +kernel))
  | spring k => exact sh_tup (by
      intro x hx
      simp only [List.mem_cons, List.not_mem_nil, or_false] at hx
      rcases hx with rfl | rfl
      · exact hs _ (by decide +kernel)
      · exact sh_int _ _)
theorem sh_train (t : Bool) (l : List Part) : Sh 64 (.lst t (l.map encP)) := (sh_lst (shl_map sh_encP l)).mono (by omega)
theorem sh_encR (x : List Int × Int) : Sh 64 (encR x) := by
  refine Sh.mono (n := 2) (sh_tup ?_) (by omega)
  intro y hy
  simp only [List.mem_cons, List.not_mem_nil, or_false] at hy
  rcases hy with rfl | rfl
  · exact sh_ints x.1 0
  · exact sh_int _ _
theorem py_lst (t t' : Bool) (xs : List D) : py (.lst t xs) = py (.lst t' xs) := by simp only [py]
theorem ne_train (t t' : Bool) (l : List Part) : neD (.lst t (l.map encP)) (.lst t' (l.map encP)) = .ok (.bl false) := neD_py (py_lst _ _ _) (sh_train _ _) (sh_train _ _)
theorem scs (ms : List Int) : (ms.map D.int).all isSc = true := by rw [List.all_map]; simp [isSc, Function.comp_def]
theorem mem_ints (x : Int) (ms : List Int) : memD (.int x) (ms.map .int) = decide (x ∈ ms) := by
  unfold memD
  rw [List.any_map]
  induction ms with
  | nil => rfl
  | cons m ms ih =>
    rw [List.any_cons, ih]
    simp only [Function.comp, eqvD, py, PyData.eqv, List.mem_cons]
    by_cases h : m = x
    · subst h; simp
    · have : ¬ x = m := fun e => h e.symm
      simp [h, this]
@[simp] theorem inD_ints (x : Int) (ms : List Int) : inD (.int x) (.tup (ms.map .int)) = .ok (.bl (decide (x ∈ ms))) := by
  simp only [inD]
  rw [if_pos (by rw [scs]; rfl), mem_ints]
@[simp] theorem hasT_encR (x : List Int × Int) : hasT (encR x) = false := by simp [encR]
@[simp] theorem still_encR (x : List Int × Int) : still (encR x) = encR x := by simp [encR]
@[simp] theorem isFlat_encR (x : List Int × Int) : isFlat (encR x) = true := by simp [encR]
theorem r_law_part_pushed (q : Part) (p w : Int) (h : PartOk q) (hw : w = 1 ∨ w = -1) : s_law_part_pushed [encP q, .int p, .int w] = .ok (encI2 (pushL q p w)) := by
  unfold s_law_part_pushed
  refine def_ok1 rfl ?_
  cases q with
  | wheel z ms =>
    obtain ⟨h1, h2, h3, h4, h5⟩ := h
    rcases hw with rfl | rfl
    · simp [encP, modD_ok (show 0 < z by omega), pushL, encI2]
    · simp [encP, modD_ok (show 0 < z by omega), pushL, encI2]
  | click => rcases hw with rfl | rfl <;> simp [encP, pushL, encI2]
  | rocker => rcases hw with rfl | rfl <;> (by_cases e : p = 0 <;> simp [encP, pushL, encI2, e])
  | spring k =>
    rcases hw with rfl | rfl
    · by_cases e : p = k - 1 <;> simp [encP, pushL, encI2, e]
    · simp [encP, pushL, encI2]
theorem pushL_sgn {q : Part} {p w : Int} (hw : w = 1 ∨ w = -1) : (pushL q p w).2 = 0 ∨ (pushL q p w).2 = 1 ∨ (pushL q p w).2 = -1 := by
  cases q with
  | wheel z ms =>
    rcases hw with rfl | rfl
    · by_cases e : (p + 1) % z ∈ ms <;> simp [pushL, e]
    · by_cases e : p ∈ ms <;> simp [pushL, e]
  | click => rcases hw with rfl | rfl <;> simp [pushL]
  | rocker => rcases hw with rfl | rfl <;> simp [pushL]; omega
  | spring k => rcases hw with rfl | rfl <;> simp [pushL]; split <;> simp
theorem r_law_pushed (l : List Part) (st : List Int) (i : Nat) (w : Int) (h : TrainOk l) (hs : st.length = l.length) (hi : i ≤ l.length) (hw : w = 1 ∨ w = -1) :
    s_law_pushed [.lst false (l.map encP), .tup (st.map .int), .int (i : Int), .int w] = .ok (encR (lawI l st i w)) := by
  unfold s_law_pushed
  refine def_ok1 rfl ?_
  have hl2 := h.2
  simp (disch := omega)
  obtain ⟨I, hI⟩ : ∃ I : Nat → Sl → Prop, I = fun k m => ∃ done n' x, m = [some (.lst false (l.map encP)), some (.tup (st.map .int)), some (.int (i : Int)), some (.int w), some (.lst true ((st.take i ++ done ++ st.drop (i + k)).map .int)), some (.int n'), x] ∧ done.length = k ∧ (n' = 0 ∨ n' = 1 ∨ n' = -1) ∧
      lawT (l.drop i) (st.drop i) w = (done ++ (lawT (l.drop (i + k)) (st.drop (i + k)) n').1, (lawT (l.drop (i + k)) (st.drop (i + k)) n').2) := ⟨_, rfl⟩
  refine wp_rng I (by rw [hI]; exact ⟨[], w, none, by simp, rfl, by omega, by simp⟩) (fun k hk m hm => ?_) (fun m hm => ?_)
  · rw [hI] at hm
    obtain ⟨done, n', x, rfl, hd, hn, hp⟩ := hm
    have hk' : i + k < l.length := by omega
    have hks : i + k < st.length := by omega
    have e0 : (i : Int) + (k : Int) = ((i + k : Nat) : Int) := by omega
    have d1 : st.drop (i + k) = st[i + k] :: st.drop (i + k + 1) := List.drop_eq_getElem_cons hks
    have d2 : l.drop (i + k) = l[i + k] :: l.drop (i + k + 1) := List.drop_eq_getElem_cons hk'
    by_cases hz : n' = 0
    · subst hz
      rw [lawT_zero, d1] at hp
      simp
      rw [hI]
      refine ⟨done ++ [st[i + k]], 0, some (.int (i + k)), by rw [← List.map_drop, d1]; simp [Nat.add_assoc], by simp [hd], by omega, ?_⟩
      rw [hp, lawT_zero]
      simp [Nat.add_assoc]
    · have len : (st.take i ++ done).length = i + k := by rw [List.length_append, List.length_take, hd]; omega
      have e1 : ixD (.lst false (l.map encP)) (.int ((i : Int) + (k : Int))) = .ok (encP l[i + k]) := by rw [e0]; exact ixD_lst (by simp [hk'])
      have e2 : ixD (.lst true ((st.take i ++ done ++ st.drop (i + k)).map .int)) (.int ((i : Int) + (k : Int))) = .ok (.int st[i + k]) := by
        rw [e0, d1, List.map_append, List.map_cons]; exact ixD_at (by rw [List.length_map, len])
      have e3 := r_law_part_pushed l[i + k] st[i + k] n' (h.1 _ (List.getElem_mem hk')) (by omega)
      have e4 : ixN ((st.take i ++ done ++ st.drop (i + k)).map D.int).length ((i : Int) + (k : Int)) = some (i + k) := by rw [e0]; exact ixN_nat (by rw [List.length_map, List.length_append, len, List.length_drop]; omega)
      have e5 : ∀ y, ((st.take i ++ done ++ st.drop (i + k)).map D.int).set (i + k) (.int y) = (st.take i ++ (done ++ [y]) ++ st.drop (i + (k + 1))).map .int := fun y => by
        rw [d1, List.map_append, List.map_cons, set_mid (by rw [List.length_map, len])]
        simp [Nat.add_assoc]
      have e6 : hasTL ((st.take i ++ done ++ st.drop (i + k)).map D.int) = false := hasTL_ints _
      generalize (st.take i ++ done ++ st.drop (i + k)).map D.int = L at e2 e4 e5 e6
      simp [hz, e1, e2, e3, encI2, subR, e4, e5, e6]
      rw [hI]
      refine ⟨done ++ [(pushL l[i + k] st[i + k] n').1], (pushL l[i + k] st[i + k] n').2, some (.int (i + k)), by simp, by simp [hd], pushL_sgn (by omega), ?_⟩
      rw [hp, d1, d2]
      simp [lawT, hz, Nat.add_assoc]
  · rw [hI] at hm
    obtain ⟨done, n', x, rfl, hd, hn, hp⟩ := hm
    have e : i + (l.length - i) = l.length := by omega
    rw [e] at hp ⊢
    have d1 : st.drop l.length = [] := List.drop_eq_nil_of_le (by omega)
    have d2 : l.drop l.length = [] := List.drop_eq_nil_of_le (by omega)
    rw [d1, d2] at hp
    simp only [lawT, List.append_nil] at hp
    rw [d1]
    simp [encR, lawI, hp]
    rw [← List.map_take, ← List.map_append, stillL_ints]
theorem isiD_of {T : String} {x : D} {c : Bool} (h : kitB (tyD x) T = some c) : isiD T x = .ok (.bl c) := by unfold isiD; rw [h]
@[simp] theorem isiD_tup (xs : List D) : isiD "tuple" (.tup xs) = .ok (.bl true) := isiD_of (show kitB "tuple" "tuple" = _ by decide +kernel)
@[simp] theorem isiD_ii (i : Int) : isiD "int" (.int i) = .ok (.bl true) := isiD_of (show kitB "int" "int" = _ by decide +kernel)
@[simp] theorem isiD_ib (i : Int) : isiD "bool" (.int i) = .ok (.bl false) := isiD_of (show kitB "int" "bool" = _ by decide +kernel)
theorem addD_tup {xs ys : List D} (h : xs.length + ys.length ≤ 16777216) : addD (.tup xs) (.tup ys) = .ok (.tup (xs ++ ys)) := by
  simp only [addD]; rw [if_pos (small h)]
theorem r_is (x : List Int × Int) (h : x.1.length ≤ 1000000) : s_law_is [encR x, encR x] = .ok (.bl true) := by
  unfold s_law_is
  refine def_ok1 rfl ?_
  have e := neD_self (sh_encR x)
  simp only [encR] at e
  simp (disch := simp; omega) [encR, e, addD_tup, hasTL_append]
  rw [itemsN_tup (by simp [hasTL_append])]
  simp only [CT.wpR_ok]
  obtain ⟨I, hI⟩ : ∃ I : Sl → Prop, I = fun m => ∃ z, m = [some (.tup [.tup (x.1.map .int), .int x.2]), some (.tup [.tup (x.1.map .int), .int x.2]), z] := ⟨_, rfl⟩
  rw [show x.1.map D.int ++ [D.int x.2] = (x.1 ++ [x.2]).map D.int by simp]
  refine wp_each I (by rw [hI]; exact ⟨none, rfl⟩) (fun a ha m hm => ?_) (fun m hm => ?_)
  · rw [hI] at hm; obtain ⟨z, rfl⟩ := hm
    simp
    rw [hI]; exact ⟨_, rfl⟩
  · rw [hI] at hm; obtain ⟨z, rfl⟩ := hm
    simp
theorem r_pushed (l : List Part) (st : List Int) (i : Nat) (w : Int) (h : TrainOk l) (hs : st.length = l.length) (hi : i ≤ l.length) (hw : w = 1 ∨ w = -1) :
    s_pushed [.lst false (l.map encP), .tup (st.map .int), .int (i : Int), .int w] = .ok (encR (pushI l st i w 1)) := by
  unfold s_pushed
  refine def_ok1 rfl ?_
  simp [r_pushed_often l st i w 1 h hs hi hw]
theorem pushI_len (l : List Part) (st : List Int) (i : Nat) (w n : Int) : (pushI l st i w n).1.length = st.length := by
  have : ∀ (l : List Part) (st : List Int) (w n : Int), (pushT l st w n).1.length = st.length := fun l => by
    induction l with
    | nil => intro st w n; rfl
    | cons q l ih => intro st w n; cases st with
      | nil => rfl
      | cons p st => simp [pushT, ih]
  simp [pushI, this]; omega
end CK

/-! PtF: slices, sums of lists -/
namespace CK
open PySem PySem.Spec PyProof.Rows L2 CT

theorem cut_head {α : Type} (xs : List α) (n : Nat) : cutA xs none (some (n : Int)) = xs.take n := by
  unfold cutA
  rw [HT.sIx_none, HT.sIx_nat, List.drop_zero, Nat.sub_zero]
  rcases Nat.le_total n xs.length with h | h
  · rw [Nat.min_eq_left h]
  · rw [Nat.min_eq_right h, List.take_length, List.take_of_length_le h]
theorem cut_tail {α : Type} (xs : List α) (n : Nat) : cutA xs (some (n : Int)) none = xs.drop n := by
  unfold cutA
  rw [HT.sIx_none, HT.sIx_nat]
  rcases Nat.le_total n xs.length with h | h
  · rw [Nat.min_eq_left h, List.take_of_length_le (by simp)]
  · rw [Nat.min_eq_right h, List.drop_length, List.drop_of_length_le h]; simp
theorem cut_all {α : Type} (xs : List α) : cutA xs none none = xs := by
  unfold cutA
  rw [HT.sIx_none, HT.sIx_none]; simp
@[simp] theorem cutD_lst (t : Bool) (xs : List D) (lo hi : Option Int) : cutD (.lst t xs) lo hi = .ok (.lst false (cutA xs lo hi)) := nr rfl
@[simp] theorem cutD_fr (xs : List D) (lo hi : Option Int) : cutD (.fr xs) lo hi = .ok (.lst false (cutA xs lo hi)) := nr rfl
@[simp] theorem cutD_tup (xs : List D) (lo hi : Option Int) : cutD (.tup xs) lo hi = .ok (.tup (cutA xs lo hi)) := nr rfl
theorem addD_lst {t t' : Bool} {xs ys : List D} (h : xs.length + ys.length ≤ 16777216) : addD (.lst t xs) (.lst t' ys) = .ok (.lst false (xs ++ ys)) := by
  simp only [addD]; rw [if_pos (small h)]
/-- the cells that a law goes through -/
def cells (ns : List Int) (n : Nat) : List Int := (cutL ns).take n ++ [0]
theorem cells_len (ns : List Int) (n : Nat) (h : ns.length ≤ 63) : (cells ns n).length ≤ 64 := by simp [cells, cutL]; omega
theorem e_cells (ns : List Int) (h : ns.length ≤ 63) (k : Int) (hk : 0 ≤ k) : addD (.lst false (cutA ((cutL ns).map D.int) none (some k))) (.lst false [.int 0]) = .ok (.lst false ((cells ns k.toNat).map .int)) := by
  obtain ⟨n, rfl⟩ := Int.eq_ofNat_of_zero_le hk
  rw [cut_head, addD_lst (by simp [cutL]; omega)]
  simp [cells]
end CK

/-! PtG: the same draws, smaller parts -/
namespace CK
open PySem PySem.Spec PyProof.Rows L2 CT
theorem r_part_2 (pick most : Int) (h0 : 0 ≤ pick) (h1 : 1 ≤ most) (h2 : most ≤ 500) : ∃ q, s_law_part_2 [.int pick, .int most] = .ok (encP q) ∧ PartOk q ∧ nplaces q ≤ most := by
  have hp : 0 < (if (if 7 < most then 7 else most) > 1 then (if 7 < most then 7 else most) else 1) := by split <;> omega
  have hl : (if (if 7 < most then 7 else most) > 1 then (if 7 < most then 7 else most) else 1) ≤ most := by split <;> (try split) <;> omega
  have a1 := Int.emod_nonneg (pick / 8) (show (if (if 7 < most then 7 else most) > 1 then (if 7 < most then 7 else most) else 1) ≠ 0 by omega)
  have a2 := Int.emod_lt_of_pos (pick / 8) hp
  have z1 : 1 ≤ 1 + pick / 8 % (if (if 7 < most then 7 else most) > 1 then (if 7 < most then 7 else most) else 1) := by omega
  have z2 : 1 + pick / 8 % (if (if 7 < most then 7 else most) > 1 then (if 7 < most then 7 else most) else 1) ≤ most := by omega
  clear a1 a2 hl
  generalize hg : 1 + pick / 8 % (if (if 7 < most then 7 else most) > 1 then (if 7 < most then 7 else most) else 1) = z at z1 z2
  have hb := bits_ok (pick := pick) (n := z.toNat)
  have hlz : 0 ≤ pick / 32768 % z ∧ pick / 32768 % z < z := ⟨Int.emod_nonneg _ (by omega), Int.emod_lt_of_pos _ (by omega)⟩
  have zb : z < 2 ^ 2000 := Int.lt_of_le_of_lt (b := 500) (by omega) (by decide)
  have main : wpR (s_law_part_2 [.int pick, .int most]) (fun d => ∃ q, d = encP q ∧ PartOk q ∧ nplaces q ≤ most) := by
    have e := fun (m1 m2 m3 m4 : Option D) => lcGo_map (fun i : Nat => D.int (i : Int)) (g := putR 5) (t := tOf (e2 eqD (e2 modD (e2 divD (e2 divD (eVar 0) (eC (.int 64))) (e2 shlD (eC (.int 1)) (eVar 5))) (eC (.int 2))) (eC (.int 1)))) (f := eVar 5)
      (m := [some (.int pick), m1, m2, m3, m4, none]) (fun i : Nat => decide (pick / 64 / 2 ^ i % 2 = 1)) (fun i : Nat => D.int (i : Int)) (List.range z.toNat)
      (fun a ha => by
        have ha := List.mem_range.mp ha
        refine ⟨[some (.int pick), m1, m2, m3, m4, some (.int (a : Int))], by simp, ?_, fun _ => by simp⟩
        have := shl_one a (by omega)
        simp [divD_s, modD_ok, this, divD_ok (Int.pow_pos (show (0 : Int) < 2 by decide)) (divOk_two a (by omega))])
    have e' : ∀ m1 m2 m3 m4, lcGo (putR 5) (tOf (e2 eqD (e2 modD (e2 divD (e2 divD (eVar 0) (eC (.int 64))) (e2 shlD (eC (.int 1)) (eVar 5))) (eC (.int 2))) (eC (.int 1)))) (eVar 5) [some (.int pick), m1, m2, m3, m4, none] ((List.range z.toNat).map fun i : Nat => D.int (i : Int)) = .ok ((bits pick z.toNat).map D.int) := fun m1 m2 m3 m4 => by rw [e]; simp [bits]
    unfold s_law_part_2
    refine def_run rfl ?_
    simp (disch := omega) [divD_s, modD_ok, modD_ok hp]
    rw [hg]
    by_cases c1 : pick % 8 < 4
    · simp (disch := omega) [c1, rng_map, e', divD_s, modD_ok, small (show (bits pick z.toNat).length ≤ 16777216 by omega)]
      by_cases c2 : pick / 8192 % 4 = 1
      · simp (disch := omega) [c2, divD_s, modD_ok]
        exact ⟨.wheel z [pick / 32768 % z], by simp [encP], ⟨z1, zb, by simp, by simpa using hlz, by simp⟩, z2⟩
      · simp (disch := omega) [c2]
        refine ⟨.wheel z (bits pick z.toNat), by simp [encP], ⟨z1, zb, by omega, fun m hm => ?_, hb.2.1⟩, z2⟩
        have := hb.1 m hm; omega
    · simp [c1]
      by_cases c2 : pick % 8 = 4
      · simp [c2]; exact ⟨.click, rfl, trivial, h1⟩
      · by_cases c3 : pick % 8 = 5 ∧ 1 < most
        · simp [c3.1, c3.2]; exact ⟨.rocker, rfl, trivial, by simp [nplaces]; omega⟩
        · by_cases c4 : pick % 8 = 5
          · have : ¬ 1 < most := fun h => c3 ⟨c4, h⟩
            simp [c4, this]; exact ⟨.spring z, rfl, ⟨z1, zb⟩, z2⟩
          · simp [c2, c4]; exact ⟨.spring z, rfl, ⟨z1, zb⟩, z2⟩
  obtain ⟨d, e, q, rfl, h⟩ := wpR_ex main
  exact ⟨q, e, h⟩
theorem r_train_2 (c p most : Int) (h0 : 0 ≤ p) (h1 : p < 100000) (h2 : 1 ≤ most) (h3 : most ≤ 500) : ∃ l, s_law_train_2 [.int c, .int p, .int most] = .ok (.lst true (l.map encP)) ∧ TrainOk l ∧ prodN l ≤ most ∧ 1 ≤ l.length ∧ l.length ≤ 5 := by
  have main : wpR (s_law_train_2 [.int c, .int p, .int most]) (fun d => ∃ l, d = .lst true (l.map encP) ∧ TrainOk l ∧ prodN l ≤ most ∧ 1 ≤ l.length ∧ l.length ≤ 5) := by
    unfold s_law_train_2
    refine def_run rfl ?_
    have hm := mixN_lo c p
    have hm5 : 0 ≤ mixN c p % 5 ∧ mixN c p % 5 < 5 := by omega
    simp (disch := omega) [r_mix, modD_ok]
    obtain ⟨I, hI⟩ : ∃ I : Nat → Sl → Prop, I = fun i m => ∃ l room x, m = [some (.int c), some (.int p), some (.int most), some (.lst true (l.map encP)), some (.int room), x] ∧ l.length = i ∧ (∀ q ∈ l, PartOk q) ∧ 1 ≤ room ∧ room ≤ most ∧ prodN l * room ≤ most := ⟨_, rfl⟩
    refine wp_rng I (by rw [hI]; exact ⟨[], most, none, rfl, rfl, by simp, h2, by omega, by simp [prodN]⟩) (fun i hi m hm => ?_) (fun m hm => ?_)
    · rw [hI] at hm
      obtain ⟨l, room, x, rfl, hl, hq, hr, hr2, hp⟩ := hm
      have hlo := mixN_lo c (p + 1 + i)
      obtain ⟨q, e, hq1, hq2⟩ := r_part_2 (mixN c (p + 1 + i)) room hlo hr (by omega)
      have hq3 := nplaces_pos hq1
      simp (disch := omega) [r_mix, e, show l.length < sizeLine by rw [sizeBig]; omega, ixD_at (t := true) (xs := l.map encP) (x := encP q) (ys := []) (i := i) (by simp [hl]), r_places, divD_s]
      rw [hI]
      refine ⟨l ++ [q], room / nplaces q, some (.int i), by simp, by simp [hl], ?_, ?_, ?_, ?_⟩
      · intro a ha
        rcases List.mem_append.mp ha with h | h
        · exact hq a h
        · rw [List.mem_singleton.mp h]; exact hq1
      · exact (Int.le_ediv_iff_mul_le (by omega)).mpr (by omega)
      · have := Int.ediv_le_self (nplaces q) (show 0 ≤ room by omega); omega
      · rw [prodN_app, Int.mul_assoc]
        have a1 : nplaces q * (room / nplaces q) ≤ room := Int.mul_ediv_self_le (by omega)
        have a2 := prodN_pos hq
        have := Int.mul_le_mul_of_nonneg_left a1 (show 0 ≤ prodN l by omega)
        omega
    · rw [hI] at hm
      obtain ⟨l, room, x, rfl, hl, hq, hr, hr2, hp⟩ := hm
      have hpp := prodN_pos hq
      have : prodN l * 1 ≤ prodN l * room := Int.mul_le_mul_of_nonneg_left hr (by omega)
      simp [sRetV]
      exact ⟨l, ⟨rfl, ⟨hq, by omega⟩, by omega, by omega, by omega⟩⟩
  obtain ⟨d, e, l, rfl, h⟩ := wpR_ex main
  exact ⟨l, e, h⟩
end CK

/-! PtH: what the program's checks tell of anything -/
namespace CK
open PySem PySem.Spec PyProof.Rows L2 CT
@[simp] theorem isi_tuple_non : isiD "tuple" .non = .ok (.bl false) := isiD_of (show kitB "NoneType" "tuple" = _ by decide +kernel)
@[simp] theorem isi_tuple_bl (b : Bool) : isiD "tuple" (.bl b) = .ok (.bl false) := isiD_of (show kitB "bool" "tuple" = _ by decide +kernel)
@[simp] theorem isi_tuple_int (i : Int) : isiD "tuple" (.int i) = .ok (.bl false) := isiD_of (show kitB "int" "tuple" = _ by decide +kernel)
@[simp] theorem isi_tuple_str (x : Str) : isiD "tuple" (.str x) = .ok (.bl false) := isiD_of (show kitB "str" "tuple" = _ by decide +kernel)
@[simp] theorem isi_tuple_lst (t : Bool) (xs : List D) : isiD "tuple" (.lst t xs) = .ok (.bl false) := isiD_of (show kitB "list" "tuple" = _ by decide +kernel)
@[simp] theorem isi_tuple_fr (xs : List D) : isiD "tuple" (.fr xs) = .ok (.bl false) := isiD_of (show kitB "list" "tuple" = _ by decide +kernel)
@[simp] theorem isi_list_non : isiD "list" .non = .ok (.bl false) := isiD_of (show kitB "NoneType" "list" = _ by decide +kernel)
@[simp] theorem isi_list_bl (b : Bool) : isiD "list" (.bl b) = .ok (.bl false) := isiD_of (show kitB "bool" "list" = _ by decide +kernel)
@[simp] theorem isi_list_int (i : Int) : isiD "list" (.int i) = .ok (.bl false) := isiD_of (show kitB "int" "list" = _ by decide +kernel)
@[simp] theorem isi_list_str (x : Str) : isiD "list" (.str x) = .ok (.bl false) := isiD_of (show kitB "str" "list" = _ by decide +kernel)
@[simp] theorem isi_list_tup (xs : List D) : isiD "list" (.tup xs) = .ok (.bl false) := isiD_of (show kitB "tuple" "list" = _ by decide +kernel)
@[simp] theorem isi_list_lst (t : Bool) (xs : List D) : isiD "list" (.lst t xs) = .ok (.bl true) := isiD_of (show kitB "list" "list" = _ by decide +kernel)
@[simp] theorem isi_list_fr (xs : List D) : isiD "list" (.fr xs) = .ok (.bl true) := isiD_of (show kitB "list" "list" = _ by decide +kernel)
@[simp] theorem isi_int_non : isiD "int" .non = .ok (.bl false) := isiD_of (show kitB "NoneType" "int" = _ by decide +kernel)
@[simp] theorem isi_int_bl (b : Bool) : isiD "int" (.bl b) = .ok (.bl true) := isiD_of (show kitB "bool" "int" = _ by decide +kernel)
@[simp] theorem isi_int_str (x : Str) : isiD "int" (.str x) = .ok (.bl false) := isiD_of (show kitB "str" "int" = _ by decide +kernel)
@[simp] theorem isi_int_tup (xs : List D) : isiD "int" (.tup xs) = .ok (.bl false) := isiD_of (show kitB "tuple" "int" = _ by decide +kernel)
@[simp] theorem isi_int_lst (t : Bool) (xs : List D) : isiD "int" (.lst t xs) = .ok (.bl false) := isiD_of (show kitB "list" "int" = _ by decide +kernel)
@[simp] theorem isi_int_fr (xs : List D) : isiD "int" (.fr xs) = .ok (.bl false) := isiD_of (show kitB "list" "int" = _ by decide +kernel)
@[simp] theorem isi_bool_non : isiD "bool" .non = .ok (.bl false) := isiD_of (show kitB "NoneType" "bool" = _ by decide +kernel)
@[simp] theorem isi_bool_bl (b : Bool) : isiD "bool" (.bl b) = .ok (.bl true) := isiD_of (show kitB "bool" "bool" = _ by decide +kernel)
@[simp] theorem isi_bool_str (x : Str) : isiD "bool" (.str x) = .ok (.bl false) := isiD_of (show kitB "str" "bool" = _ by decide +kernel)
@[simp] theorem isi_bool_tup (xs : List D) : isiD "bool" (.tup xs) = .ok (.bl false) := isiD_of (show kitB "tuple" "bool" = _ by decide +kernel)
@[simp] theorem isi_bool_lst (t : Bool) (xs : List D) : isiD "bool" (.lst t xs) = .ok (.bl false) := isiD_of (show kitB "list" "bool" = _ by decide +kernel)
@[simp] theorem isi_bool_fr (xs : List D) : isiD "bool" (.fr xs) = .ok (.bl false) := isiD_of (show kitB "list" "bool" = _ by decide +kernel)
@[simp] theorem isi_str_non : isiD "str" .non = .ok (.bl false) := isiD_of (show kitB "NoneType" "str" = _ by decide +kernel)
@[simp] theorem isi_str_bl (b : Bool) : isiD "str" (.bl b) = .ok (.bl false) := isiD_of (show kitB "bool" "str" = _ by decide +kernel)
@[simp] theorem isi_str_int (i : Int) : isiD "str" (.int i) = .ok (.bl false) := isiD_of (show kitB "int" "str" = _ by decide +kernel)
@[simp] theorem isi_str_str (x : Str) : isiD "str" (.str x) = .ok (.bl true) := isiD_of (show kitB "str" "str" = _ by decide +kernel)
@[simp] theorem isi_str_tup (xs : List D) : isiD "str" (.tup xs) = .ok (.bl false) := isiD_of (show kitB "tuple" "str" = _ by decide +kernel)
@[simp] theorem isi_str_lst (t : Bool) (xs : List D) : isiD "str" (.lst t xs) = .ok (.bl false) := isiD_of (show kitB "list" "str" = _ by decide +kernel)
@[simp] theorem isi_str_fr (xs : List D) : isiD "str" (.fr xs) = .ok (.bl false) := isiD_of (show kitB "list" "str" = _ by decide +kernel)
mutual
/-- no list or tuple within is huge -/
def bd : D → Bool
  | .tup xs => decide (xs.length ≤ 1000000) && bdL xs
  | .lst _ xs => decide (xs.length ≤ 1000000) && bdL xs
  | .fr xs => decide (xs.length ≤ 1000000) && bdL xs
  | .str _ => true
  | .non => true
  | .bl _ => true
  | .int _ => true
  | .unk => false
  | .ex _ => false
  | .dct _ _ _ => false
def bdL : List D → Bool
  | [] => true
  | x :: xs => bd x && bdL xs
end
structure Good (d : D) : Prop where
  t : hasT d = false
  s : Sh 64 d
  b : bd d = true
theorem layL_mem {x : D} : ∀ {xs : List D}, layL xs = true → x ∈ xs → lay x = true
  | y :: xs, h, hm => by
    simp only [layL, Bool.and_eq_true] at h
    rcases List.mem_cons.mp hm with e | e
    · rw [e]; exact h.1
    · exact layL_mem h.2 e
theorem depth_mem {x : D} : ∀ {xs : List D}, x ∈ xs → PyData.depth (py x) ≤ PyData.depthAll (pyL xs)
  | y :: xs, hm => by
    simp only [pyL, PyData.depthAll]
    rcases List.mem_cons.mp hm with e | e
    · rw [e]; omega
    · have := depth_mem (xs := xs) e; omega
theorem bdL_mem {x : D} : ∀ {xs : List D}, bdL xs = true → x ∈ xs → bd x = true
  | y :: xs, h, hm => by
    simp only [bdL, Bool.and_eq_true] at h
    rcases List.mem_cons.mp hm with e | e
    · rw [e]; exact h.1
    · exact bdL_mem h.2 e
theorem hasTL_mem {x : D} : ∀ {xs : List D}, hasTL xs = false → x ∈ xs → hasT x = false
  | y :: xs, h, hm => by
    simp only [hasTL, Bool.or_eq_false_iff] at h
    rcases List.mem_cons.mp hm with e | e
    · rw [e]; exact h.1
    · exact hasTL_mem h.2 e
theorem Good.mem {xs : List D} {x : D} (h : Good (.tup xs)) (hm : x ∈ xs) : Good x :=
  ⟨hasTL_mem h.t hm, ⟨layL_mem h.s.1 hm, by have := h.s.2; have := depth_mem hm; simp only [py, PyData.depth] at *; omega⟩, bdL_mem (by have := h.b; simp only [bd, Bool.and_eq_true] at this; exact this.2) hm⟩
theorem Good.memL {t : Bool} {xs : List D} {x : D} (h : Good (.lst t xs)) (hm : x ∈ xs) : Good x :=
  ⟨hasTL_mem (by have := h.t; simp only [hasT, Bool.or_eq_false_iff] at this; exact this.2) hm, ⟨layL_mem h.s.1 hm, by have := h.s.2; have := depth_mem hm; simp only [py, PyData.depth] at *; omega⟩, bdL_mem (by have := h.b; simp only [bd, Bool.and_eq_true] at this; exact this.2) hm⟩
theorem Good.memF {xs : List D} {x : D} (h : Good (.fr xs)) (hm : x ∈ xs) : Good x :=
  ⟨hasTL_mem h.t hm, ⟨layL_mem h.s.1 hm, by have := h.s.2; have := depth_mem hm; simp only [py, PyData.depth] at *; omega⟩, bdL_mem (by have := h.b; simp only [bd, Bool.and_eq_true] at this; exact this.2) hm⟩
theorem Good.len {xs : List D} (h : Good (.tup xs)) : xs.length ≤ 1000000 := by have := h.b; simp only [bd, Bool.and_eq_true, decide_eq_true_eq] at this; exact this.1
theorem Good.lenL {t : Bool} {xs : List D} (h : Good (.lst t xs)) : xs.length ≤ 1000000 := by have := h.b; simp only [bd, Bool.and_eq_true, decide_eq_true_eq] at this; exact this.1
theorem Good.lenF {xs : List D} (h : Good (.fr xs)) : xs.length ≤ 1000000 := by have := h.b; simp only [bd, Bool.and_eq_true, decide_eq_true_eq] at this; exact this.1
theorem bools_map : ∀ bs : List Bool, bools (bs.map D.bl) = some bs
  | [] => rfl
  | b :: bs => by rw [List.map_cons, bools, bools_map bs]; rfl
@[simp] theorem allD_bls (t : Bool) (bs : List Bool) : allD [.lst t (bs.map D.bl)] = .ok (.bl (bs.all id)) := by simp only [allD, bools_map]
@[simp] theorem anyD_bls (t : Bool) (bs : List Bool) : anyD [.lst t (bs.map D.bl)] = .ok (.bl (bs.any id)) := by simp only [anyD, bools_map]
@[simp] theorem allD_f {α : Type} (t : Bool) (c : α → Bool) (xs : List α) : allD [.lst t (xs.map fun a => D.bl (c a))] = .ok (.bl (xs.all c)) := by
  rw [show (xs.map fun a => D.bl (c a)) = (xs.map c).map D.bl by rw [List.map_map]; rfl, allD_bls, List.all_map]; rfl
@[simp] theorem allD_o {α : Type} (t : Bool) (c : α → Bool) (xs : List α) : allD [.lst t (xs.map (D.bl ∘ c))] = .ok (.bl (xs.all c)) := allD_f t c xs
@[simp] theorem anyD_f {α : Type} (t : Bool) (c : α → Bool) (xs : List α) : anyD [.lst t (xs.map fun a => D.bl (c a))] = .ok (.bl (xs.any c)) := by
  rw [show (xs.map fun a => D.bl (c a)) = (xs.map c).map D.bl by rw [List.map_map]; rfl, anyD_bls, List.any_map]; rfl
@[simp] theorem anyD_o {α : Type} (t : Bool) (c : α → Bool) (xs : List α) : anyD [.lst t (xs.map (D.bl ∘ c))] = .ok (.bl (xs.any c)) := anyD_f t c xs
@[simp] theorem aZip_eq (s : Bool) (h : SemA) (m : Sl) : aZip s h m = (h m).bind (zipI s) := nr rfl
@[simp] theorem sRaise_eq (c : String) (m : Sl) : sRaise c m = .exc c m := nr rfl
theorem zip_tt {xs ys : List D} : zipI false [.tup xs, .tup ys] = .ok (zipL xs ys) := by simp [zipI, zipOk]
theorem zip_lt {t : Bool} {xs ys : List D} : zipI false [.lst t xs, .tup ys] = .ok (zipL xs ys) := by simp [zipI, zipOk]
theorem zip_ft {xs ys : List D} : zipI false [.fr xs, .tup ys] = .ok (zipL xs ys) := by simp [zipI, zipOk]
theorem zip_ll {t u : Bool} {xs ys : List D} : zipI false [.lst t xs, .lst u ys] = .ok (zipL xs ys) := by simp [zipI, zipOk]
theorem zip_llS {xs ys : List D} (h : hasTL xs = false) (h' : hasTL ys = false) : zipI true [.lst false xs, .lst false ys] = .ok (zipL xs ys) := by simp [zipI, zipOk, h, h']
/-- a comprehension of truths over anything -/
theorem lcGo_bl {g : SemG} {f : SemE} {m : Sl} (c : D → Bool) (xs : List D) (h : ∀ a ∈ xs, ∃ m1, g a m = .ok m1 ∧ f m1 = .ok (.bl (c a))) : lcGo g tYesM f m xs = .ok ((xs.map c).map D.bl) := by
  have := lcGo_map1 id (g := g) (f := f) (m := m) (fun a => D.bl (c a)) xs (fun a ha => by obtain ⟨m1, h1, h2⟩ := h a ha; exact ⟨m1, h1, h2, rfl⟩)
  rw [List.map_id] at this
  rw [this, List.map_map]; rfl
def isWholeB : D → Bool
  | .int _ => true
  | _ => false
/-- no data -/
def isX : D → Bool
  | .unk => true
  | .ex _ => true
  | .dct _ _ _ => true
  | .non => false
  | .bl _ => false
  | .int _ => false
  | .str _ => false
  | .tup _ => false
  | .lst _ _ => false
  | .fr _ => false
theorem isX_unk : isX .unk = true := rfl
theorem isX_ex (c : String) : isX (.ex c) = true := rfl
theorem isX_dct (q : DT) (k : List (List Int)) (v : List D) : isX (.dct q k v) = true := rfl
@[simp] theorem isX_non : isX .non = false := nr rfl
@[simp] theorem isX_bl (b : Bool) : isX (.bl b) = false := nr rfl
@[simp] theorem isX_int (b : Int) : isX (.int b) = false := nr rfl
@[simp] theorem isX_str (b : Str) : isX (.str b) = false := nr rfl
@[simp] theorem isX_tup (b : List D) : isX (.tup b) = false := nr rfl
@[simp] theorem isX_lst (t : Bool) (b : List D) : isX (.lst t b) = false := nr rfl
@[simp] theorem isX_fr (b : List D) : isX (.fr b) = false := nr rfl
theorem isX_of {d : D} (h : Sh 64 d) : isX d = false := by
  cases d <;> first | rfl | (exfalso; exact far_depth (Nat.le_trans h.2 (by decide)))
theorem Good.nx {d : D} (h : Good d) : isX d = false := isX_of h.s
theorem r_is_whole (d : D) (h : isX d = false) : s_is_whole [d] = .ok (.bl (isWholeB d)) := by
  unfold s_is_whole
  refine def_ok1 rfl ?_
  cases d <;> first | (cases h; done) | simp [isWholeB]
theorem isX_still (d : D) (h : isX d = false) : isX (still d) = false := by cases d <;> first | rfl | (cases h; done)
theorem cf_is_whole (d : D) (h : isX d = false) : callF s_is_whole [d] = .ok (.bl (isWholeB d)) := by
  have : isWholeB (still d) = isWholeB d := by cases d <;> rfl
  simp [r_is_whole _ (isX_still d h), this]
def inB (z : Int) : D → Bool
  | .int m => decide (0 ≤ m) && decide (m < z)
  | _ => false
def ltB : D → D → Bool
  | .int i, .int j => decide (i < j)
  | _, _ => false
def risB : List D → Bool
  | x :: y :: r => ltB x y && risB (y :: r)
  | _ => true
def isMarksB (z : Int) : D → Bool
  | .tup xs => xs.all (inB z) && risB xs
  | _ => false
theorem ris_zip : ∀ xs : List D, ((xs.zip (xs.drop 1)).map fun p => ltB p.1 p.2).all id = risB xs
  | [] => rfl
  | [x] => rfl
  | x :: y :: r => by
    have := ris_zip (y :: r)
    simp only [List.drop_succ_cons, List.drop_zero, List.zip_cons_cons, List.map_cons, List.all_cons, id] at this ⊢
    rw [risB, ← this]
theorem inB_int {z : Int} {d : D} (h : inB z d = true) : ∃ m, d = .int m ∧ 0 ≤ m ∧ m < z := by
  cases d <;> simp [inB] at h
  exact ⟨_, rfl, h.1, h.2⟩
theorem zip_mem_drop {α : Type} {xs : List α} {p : α × α} (h : p ∈ xs.zip (xs.drop 1)) : p.1 ∈ xs ∧ p.2 ∈ xs := by
  obtain ⟨a, b⟩ := p
  have := List.of_mem_zip h
  exact ⟨this.1, List.mem_of_mem_drop this.2⟩
theorem r_is_marks (z : Int) (d : D) (h : Good d) : s_is_marks [.int z, d] = .ok (.bl (isMarksB z d)) := by
  unfold s_is_marks
  refine def_ok1 rfl ?_
  cases d with
  | unk => exact absurd h.nx (by simp [isX_unk])
  | ex _ => exact absurd h.nx (by simp [isX_ex])
  | dct _ _ _ => exact absurd h.nx (by simp [isX_dct])
  | tup xs =>
    have ht : hasTL xs = false := h.t
    have hl := h.len
    have e := lcGo_bl (g := putR 2) (f := eAnd (eA (callF s_is_whole) (aCons (eVar 2) aNil)) (eChain leD ltD (eC (.int 0)) (eVar 2) (eVar 0))) (m := [some (.int z), some (.tup xs), none, none, none]) (inB z) xs (fun a ha => by
      have h1 := hasTL_mem ht ha
      refine ⟨[some (.int z), some (.tup xs), some a, none, none], by simp [h1], ?_⟩
      have hx := (h.mem ha).nx
      have h2 := cf_is_whole a hx
      cases a <;> first | (cases hx; done) | (simp [r_is_whole, isWholeB, inB, h1] at h2 ⊢; done) | skip
      simp [r_is_whole, isWholeB, inB, h1] at h2 ⊢
      rename_i m
      by_cases c : 0 ≤ m <;> simp [c])
    simp [itemsN, items, ht]
    rw [e]
    simp [-List.all_eq_true, -List.all_eq_false, small (show xs.length ≤ 16777216 by omega)]
    by_cases c : xs.all (inB z) = true
    · have hi : ∀ x ∈ xs, ∃ m, x = .int m := fun x hx => by
        obtain ⟨m, e, _⟩ := inB_int (List.all_eq_true.mp c x hx)
        exact ⟨m, e⟩
      have e2 := lcGo_map1 (fun p : D × D => D.tup [p.1, p.2]) (g := gTupR 2 (gsCons (putR 3) (gsCons (putR 4) gsNil))) (f := e2 ltD (eVar 3) (eVar 4)) (m := [some (.int z), some (.tup xs), none, none, none]) (fun p => D.bl (ltB p.1 p.2)) (xs.zip (xs.drop 1)) (fun p hp => by
        obtain ⟨k1, k2⟩ := zip_mem_drop hp
        obtain ⟨i, h1⟩ := hi _ k1
        obtain ⟨j, h2⟩ := hi _ k2
        refine ⟨[some (.int z), some (.tup xs), none, some p.1, some p.2], by simp [h1, h2], ?_, rfl⟩
        simp [h1, h2, ltB])
      have hz : (xs.zip (xs.drop 1)).length ≤ 16777216 := by simp; omega
      have hr := ris_zip xs
      rw [List.all_map] at hr
      have ec : cutA xs (some 1) none = xs.drop 1 := cut_tail xs 1
      simp [-List.all_eq_true, -List.all_eq_false, c, zip_tt, ec, zipL]
      simp at e2
      rw [e2]
      simp [-List.all_eq_true, -List.all_eq_false, show xs.length ≤ sizeLine + 1 by rw [sizeBig]; omega, isMarksB, c]
      rw [← hr]
      simp [-List.all_eq_true, -List.all_eq_false, Function.comp_def]
    · rw [Bool.not_eq_true] at c
      simp [-List.all_eq_true, -List.all_eq_false, c, isMarksB]
  | non => simp [isMarksB]
  | bl _ => simp [isMarksB]
  | int _ => simp [isMarksB]
  | str _ => simp [isMarksB]
  | lst _ _ => simp [isMarksB]
  | fr _ => simp [isMarksB]

theorem str_mem (s a b : Str) (hs : PyData.strOk s = true) (ha : PyData.strOk a = true) (hb : PyData.strOk b = true) : inD (.str s) (.lst false [.str a, .str b]) = .ok (.bl (a == s || b == s)) := by
  simp only [inD]
  have h1 : Sh 64 (.str s) := sh_str hs
  have h2 : Sh 64 (.lst false [.str a, .str b]) := (sh_lst (n := 1) (by
    intro x hx
    simp only [List.mem_cons, List.not_mem_nil, or_false] at hx
    rcases hx with rfl | rfl
    · exact sh_str ha
    · exact sh_str hb)).mono (by omega)
  have h3 := sh_shaped h2 (by omega)
  simp only [py] at h3
  rw [if_pos (by rw [sh_shaped h1 (by omega), h3]; rfl)]
  simp [memD, eqvD, py, PyData.eqv]
def isPartB : D → Bool
  | .tup [.str s] => s == "click" || s == "rocker"
  | .tup [.str s, .int k] => s == "spring" && decide (1 ≤ k)
  | .tup [.str s, .int z, m] => s == "wheel" && decide (1 ≤ z) && isMarksB z m
  | _ => false
theorem strOk_lit : PyData.strOk "click" = true ∧ PyData.strOk "rocker" = true ∧ PyData.strOk "spring" = true ∧ PyData.strOk "wheel" = true := ⟨by decide +kernel, by decide +kernel, by decide +kernel, by decide +kernel⟩
theorem str_ne1 {a b : Str} (h : (a == b) = false) : (b == a) = false := by
  cases e : b == a with
  | false => rfl
  | true => rw [eq_of_beq e] at h; simp at h
theorem good_str {x : Str} (h : Good (.str x)) : PyData.strOk x = true := h.s.1
theorem eq_nil {xs : List D} (h : Good (.tup xs)) : eqD (.tup xs) (.tup []) = .ok (.bl xs.isEmpty) := by
  rw [eqD_ok h.s (sh_tup (n := 63) (by simp))]
  cases xs with
  | nil => rfl
  | cons x xs => simp [eqvD, py, pyL, PyData.eqv, PyData.eqvAll]
theorem eqs {s a : Str} (hs : PyData.strOk s = true) (ha : PyData.strOk a = true) : eqD (.str s) (.str a) = .ok (.bl (s == a)) := eqD_str hs ha
theorem nes {s a : Str} (hs : PyData.strOk s = true) (ha : PyData.strOk a = true) : neD (.str s) (.str a) = .ok (.bl (!(s == a))) := neD_str hs ha
theorem r_is_part (d : D) (h : Good d) : s_is_part [d] = .ok (.bl (isPartB d)) := by
  unfold s_is_part
  refine def_ok1 rfl ?_
  cases d with
  | unk => exact absurd h.nx (by simp [isX_unk])
  | ex _ => exact absurd h.nx (by simp [isX_ex])
  | dct _ _ _ => exact absurd h.nx (by simp [isX_dct])
  | tup xs =>
    have hn := eq_nil h
    cases xs with
    | nil => simp [hn, isPartB]
    | cons x r =>
      have hx := h.mem (x := x) (by simp)
      have hl := h.len
      cases x with
      | unk => exact absurd hx.nx (by simp [isX_unk])
      | ex _ => exact absurd hx.nx (by simp [isX_ex])
      | dct _ _ _ => exact absurd hx.nx (by simp [isX_dct])
      | str s =>
        have hs := good_str hx
        have e1 := str_mem s "click" "rocker" hs (by decide +kernel) (by decide +kernel)
        have e2 := eqs (a := "spring") hs (by decide +kernel)
        have e3 := nes (a := "wheel") hs (by decide +kernel)
        by_cases c1 : ("click" == s || "rocker" == s) = true
        · rw [c1] at e1
          have c1' : (s == "click" || s == "rocker") = true := by
            rw [Bool.or_eq_true] at c1 ⊢
            exact c1.imp (fun e => by rw [eq_of_beq e]; simp) (fun e => by rw [eq_of_beq e]; simp)
          have c2 : (s == "spring") = false := by
            rw [Bool.or_eq_true] at c1'
            rcases c1' with e | e <;> (rw [eq_of_beq e]; decide +kernel)
          have c3 : (s == "wheel") = false := by
            rw [Bool.or_eq_true] at c1'
            rcases c1' with e | e <;> (rw [eq_of_beq e]; decide +kernel)
          simp [hn, e1]
          match r with
          | [] => simp [isPartB, c1']
          | [y] => cases y <;> simp [isPartB, c2]
          | [y, z] => cases y <;> simp [isPartB, c3]
          | y :: z :: u :: v => simp [isPartB]; omega
        · rw [Bool.not_eq_true] at c1
          rw [c1] at e1
          have c1' : (s == "click" || s == "rocker") = false := by
            rw [Bool.or_eq_false_iff] at c1 ⊢
            exact ⟨str_ne1 c1.1, str_ne1 c1.2⟩
          by_cases c2 : (s == "spring") = true
          · rw [c2] at e2
            have c3 : (s == "wheel") = false := by rw [eq_of_beq c2]; decide +kernel
            simp [hn, e1, e2]
            match r with
            | [] => simp [isPartB, c1']
            | [y] =>
              have hy := (h.mem (x := y) (by simp)).nx
              cases y <;> first | (cases hy; done) | simp [isPartB, c2, cf_is_whole, r_is_whole, isWholeB]
            | [y, z] => cases y <;> simp [isPartB, c3]
            | y :: z :: u :: v =>
              have : ¬ (v.length : Int) + 1 + 1 + 1 + 1 = 2 := by omega
              simp [isPartB, this]
          · rw [Bool.not_eq_true] at c2
            rw [c2] at e2
            by_cases c3 : (s == "wheel") = true
            · rw [c3] at e3
              simp [hn, e1, e2, e3]
              match r with
              | [] => simp [isPartB, c1']
              | [y] => cases y <;> simp [isPartB, c2]
              | [y, z] =>
                have hz := h.mem (x := z) (by simp)
                have hy := (h.mem (x := y) (by simp)).nx
                cases y with
                | unk => cases hy
                | ex _ => cases hy
                | dct _ _ _ => cases hy
                | int i =>
                  have e4 := r_is_marks i z hz
                  have e5 : still z = z := still_of z hz.t
                  by_cases c4 : 1 ≤ i <;> simp [isPartB, c3, cf_is_whole, r_is_whole, isWholeB, c4, e4, e5, hz.t]
                | _ => simp [isPartB, c3, cf_is_whole, r_is_whole, isWholeB]
              | y :: z :: u :: v =>
                have : ¬ (v.length : Int) + 1 + 1 + 1 + 1 = 3 := by omega
                simp [isPartB, this]
            · rw [Bool.not_eq_true] at c3
              rw [c3] at e3
              simp [hn, e1, e2, e3]
              match r with
              | [] => simp [isPartB, c1']
              | [y] => cases y <;> simp [isPartB, c2]
              | [y, z] => cases y <;> simp [isPartB, c3]
              | y :: z :: u :: v => simp [isPartB]
      | _ => simp [hn, isPartB]
  | _ => simp [isPartB]
end CK

/-! PtI: trains, stands, rows looked at -/
namespace CK
open PySem PySem.Spec PyProof.Rows L2 CT

theorem cf_is_part (d : D) (h : Good d) : callF s_is_part [d] = .ok (.bl (isPartB d)) := by
  simp [still_of d h.t, r_is_part d h, h.t]
theorem eq_nilL {t : Bool} {xs : List D} (h : Good (.lst t xs)) : eqD (.lst t xs) (.lst false []) = .ok (.bl xs.isEmpty) := by
  rw [eqD_ok h.s (sh_lst (n := 63) (by simp))]
  cases xs with
  | nil => rfl
  | cons x xs => simp [eqvD, py, pyL, PyData.eqv, PyData.eqvAll]
theorem eq_nilF {xs : List D} (h : Good (.fr xs)) : eqD (.fr xs) (.lst false []) = .ok (.bl xs.isEmpty) := by
  rw [eqD_ok h.s (sh_lst (n := 63) (by simp))]
  cases xs with
  | nil => rfl
  | cons x xs => simp [eqvD, py, pyL, PyData.eqv, PyData.eqvAll]
def partsB (xs : List D) : Bool := !xs.isEmpty && xs.all isPartB
def isTrainB : D → Bool
  | .lst _ xs => partsB xs
  | .fr xs => partsB xs
  | _ => false
theorem r_check_train (d : D) (h : Good d) : s_check_train [d] = if isTrainB d = true then .ok .non else .exc "NoTrain" := by
  have main : ∀ xs, (d = .lst false xs ∨ d = .fr xs) → (∀ x ∈ xs, Good x) → xs.length ≤ 1000000 → eqD d (.lst false []) = .ok (.bl xs.isEmpty) → s_check_train [d] = if isTrainB d = true then .ok .non else .exc "NoTrain" := fun xs hd hg hl he => by
    have e := lcGo_bl (g := putR 1) (f := eA (callF s_is_part) (aCons (eVar 1) aNil)) (m := [some d, none]) isPartB xs (fun a ha => by
      have h1 := hg a ha
      exact ⟨[some d, some a], by simp [h1.t], by simp [-callF_eq, cf_is_part a h1]⟩)
    have hT : isTrainB d = partsB xs := by rcases hd with rfl | rfl <;> rfl
    have hi : isiD "list" d = .ok (.bl true) := by rcases hd with rfl | rfl <;> simp
    have hit : itemsN false d = .ok xs := by rcases hd with rfl | rfl <;> simp [itemsN, items]
    rw [hT]
    unfold s_check_train
    by_cases c1 : xs.isEmpty = true
    · rw [if_neg (by simp [partsB, c1])]
      refine def_ex1 rfl ?_
      rw [c1] at he
      simp [hi, he]
    · rw [Bool.not_eq_true] at c1
      rw [c1] at he
      by_cases c2 : xs.all isPartB = true
      · rw [if_pos (by simp only [partsB, c1, c2]; rfl)]
        refine def_ok1 rfl ?_
        simp [hi, he, hit]
        rw [e]
        simp [-List.all_eq_true, -List.all_eq_false, small (show xs.length ≤ 16777216 by omega), c2]
      · rw [Bool.not_eq_true] at c2
        rw [if_neg (by simp only [partsB, c1, c2]; simp)]
        refine def_ex1 rfl ?_
        simp [hi, he, hit]
        rw [e]
        simp [-List.all_eq_true, -List.all_eq_false, small (show xs.length ≤ 16777216 by omega), c2]
  cases d with
  | unk => exact absurd h.nx (by simp [isX_unk])
  | ex _ => exact absurd h.nx (by simp [isX_ex])
  | dct _ _ _ => exact absurd h.nx (by simp [isX_dct])
  | lst t xs =>
    have ht : t = false := by have := h.t; simp only [hasT, Bool.or_eq_false_iff] at this; exact this.1
    subst ht
    exact main xs (.inl rfl) (fun x hx => h.memL hx) h.lenL (eq_nilL h)
  | fr xs => exact main xs (.inr rfl) (fun x hx => h.memF hx) h.lenF (eq_nilF h)
  | non => rw [if_neg (by simp [isTrainB])]; unfold s_check_train; exact def_ex1 rfl (by simp)
  | bl _ => rw [if_neg (by simp [isTrainB])]; unfold s_check_train; exact def_ex1 rfl (by simp)
  | int _ => rw [if_neg (by simp [isTrainB])]; unfold s_check_train; exact def_ex1 rfl (by simp)
  | str _ => rw [if_neg (by simp [isTrainB])]; unfold s_check_train; exact def_ex1 rfl (by simp)
  | tup _ => rw [if_neg (by simp [isTrainB])]; unfold s_check_train; exact def_ex1 rfl (by simp)
/-! a good train -/
theorem bdL_all {xs : List D} (h : ∀ x ∈ xs, bd x = true) : bdL xs = true := by
  induction xs with
  | nil => rfl
  | cons x xs ih => simp only [bdL, h x (by simp), ih fun y hy => h y (by simp [hy]), Bool.and_self]
theorem bd_ints (l : List Int) : bdL (l.map D.int) = true := bdL_all fun x hx => by obtain ⟨a, _, rfl⟩ := List.mem_map.mp hx; rfl
theorem good_encP {q : Part} (h : PartOk q) (hm : ∀ z ms, q = .wheel z ms → ms.length ≤ 1000000) : Good (encP q) := ⟨hasT_encP q, (sh_encP q).mono (by omega), by
  cases q with
  | wheel z ms => simp [encP, bd, bdL, bd_ints]; exact hm z ms rfl
  | _ => simp [encP, bd, bdL]⟩
def MarksS (l : List Part) : Prop := ∀ z ms, Part.wheel z ms ∈ l → ms.length ≤ 1000000
theorem good_train {l : List Part} (h : TrainOk l) (hm : MarksS l) (t : D) (ht : t = .lst false (l.map encP) ∨ t = .fr (l.map encP)) : Good t := by
  have hg : ∀ x ∈ l.map encP, Good x := fun x hx => by
    obtain ⟨q, hq, rfl⟩ := List.mem_map.mp hx
    exact good_encP (h.1 q hq) fun z ms e => hm z ms (e ▸ hq)
  have hl := h.2
  rcases ht with rfl | rfl
  · exact ⟨by simp, sh_train _ _, by simp only [bd, bdL_all fun x hx => (hg x hx).b]; simp; omega⟩
  · exact ⟨by simp, (sh_fr (shl_map sh_encP l)).mono (by omega), by simp only [bd, bdL_all fun x hx => (hg x hx).b]; simp; omega⟩
theorem ris_ints : ∀ {ms : List Int}, ms.Pairwise (· < ·) → risB (ms.map D.int) = true
  | [], _ => rfl
  | [_], _ => rfl
  | a :: b :: r, h => by
    rw [List.pairwise_cons] at h
    have := ris_ints h.2
    simp only [List.map_cons] at this ⊢
    rw [risB, this]
    simp [ltB, h.1 b (by simp)]
theorem isPart_encP {q : Part} (h : PartOk q) : isPartB (encP q) = true := by
  cases q with
  | wheel z ms =>
    obtain ⟨h1, h2, h3, h4, h5⟩ := h
    simp only [encP, isPartB, isMarksB, ris_ints h5, Bool.and_true, Bool.and_eq_true]
    refine ⟨⟨by decide +kernel, by simpa using h1⟩, ?_⟩
    rw [List.all_map, List.all_eq_true]
    intro m hm
    simp [inB, h4 m hm]
  | click => decide +kernel
  | rocker => decide +kernel
  | spring k => simp only [encP, isPartB, Bool.and_eq_true]; exact ⟨by decide +kernel, by simpa using h.1⟩
theorem parts_encP {l : List Part} (h : ∀ q ∈ l, PartOk q) (hn : l ≠ []) : partsB (l.map encP) = true := by
  unfold partsB
  rw [Bool.and_eq_true, List.all_map, List.all_eq_true]
  refine ⟨by cases l <;> simp at hn ⊢, fun q hq => isPart_encP (h q hq)⟩
/-- a train as the program takes it -/
structure Trn (l : List Part) : Prop where
  ok : TrainOk l
  m : MarksS l
  ne : l ≠ []
theorem marks_of {l : List Part} (h : TrainOk l) : MarksS l := fun z ms hz => (h.1 _ hz).2.2.1
theorem trn_of {l : List Part} (h : TrainOk l) (hl : 1 ≤ l.length) : Trn l := ⟨h, marks_of h, by intro e; subst e; simp at hl⟩
theorem r_check_trn {l : List Part} (h : Trn l) : s_check_train [.lst false (l.map encP)] = .ok .non := by
  rw [r_check_train _ (good_train h.ok h.m _ (.inl rfl))]
  exact if_pos (parts_encP h.ok.1 h.ne)
theorem r_check_trnF {l : List Part} (h : Trn l) : s_check_train [.fr (l.map encP)] = .ok .non := by
  rw [r_check_train _ (good_train h.ok h.m _ (.inr rfl))]
  exact if_pos (parts_encP h.ok.1 h.ne)
theorem r_places_p (q : Part) : s_places [encP q] = .ok (.int (nplaces q)) := by
  unfold s_places
  refine def_ok1 rfl ?_
  have hm : ∀ s : Str, PyData.strOk s = true → inD (.str s) (.lst false [.str "wheel", .str "spring"]) = .ok (.bl ("wheel" == s || "spring" == s)) := fun s hs => str_mem s "wheel" "spring" hs (by decide +kernel) (by decide +kernel)
  have m1 := hm "wheel" (by decide +kernel)
  have m2 := hm "click" (by decide +kernel)
  have m3 := hm "rocker" (by decide +kernel)
  have m4 := hm "spring" (by decide +kernel)
  rw [show ((("wheel" : Str) == "wheel" || ("spring" : Str) == "wheel") = true) by decide +kernel] at m1
  rw [show ((("wheel" : Str) == "click" || ("spring" : Str) == "click") = false) by decide +kernel] at m2
  rw [show ((("wheel" : Str) == "rocker" || ("spring" : Str) == "rocker") = false) by decide +kernel] at m3
  rw [show ((("wheel" : Str) == "spring" || ("spring" : Str) == "spring") = true) by decide +kernel] at m4
  cases q <;> simp [encP, nplaces, m1, m2, m3, m4]
/-- whether something is a stand -/
def placesB : List Part → List D → Bool
  | [], [] => true
  | q :: qs, .int p :: ps => decide (0 ≤ p) && decide (p < nplaces q) && placesB qs ps
  | _, _ => false
def isStandB (l : List Part) : D → Bool
  | .tup xs => placesB l xs
  | _ => false
def plB (q : Part) : D → Bool
  | .int p => decide (0 ≤ p) && decide (p < nplaces q)
  | _ => false
theorem placesB_zip : ∀ {l : List Part} {xs : List D}, xs.length = l.length → ((l.zip xs).all fun p => plB p.1 p.2) = placesB l xs
  | [], [], _ => rfl
  | q :: l, x :: xs, h => by
    have := placesB_zip (l := l) (xs := xs) (by simpa using h)
    rw [List.zip_cons_cons, List.all_cons, this]
    cases x <;> simp [plB, placesB]
theorem placesB_len : ∀ {l : List Part} {xs : List D}, placesB l xs = true → xs.length = l.length
  | [], [], _ => rfl
  | q :: l, .int p :: xs, h => by
    simp only [placesB, Bool.and_eq_true] at h
    simp [placesB_len h.2]
  | [], _ :: _, h => by simp [placesB] at h
  | _ :: _, [], h => by simp [placesB] at h
  | _ :: _, .non :: _, h => by simp [placesB] at h
  | _ :: _, .bl _ :: _, h => by simp [placesB] at h
  | _ :: _, .str _ :: _, h => by simp [placesB] at h
  | _ :: _, .tup _ :: _, h => by simp [placesB] at h
  | _ :: _, .lst _ _ :: _, h => by simp [placesB] at h
  | _ :: _, .fr _ :: _, h => by simp [placesB] at h
  | _ :: _, .unk :: _, h => by simp [placesB] at h
  | _ :: _, .ex _ :: _, h => by simp [placesB] at h
  | _ :: _, .dct _ _ _ :: _, h => by simp [placesB] at h
theorem r_is_stand {l : List Part} (hl : l.length ≤ 1000) (tr : D) (htr : tr = .lst false (l.map encP) ∨ tr = .fr (l.map encP)) (d : D) (h : Good d) : s_is_stand [tr, d] = .ok (.bl (isStandB l d)) := by
  have e0 : lenD [tr] = .ok (.int l.length) := by rcases htr with rfl | rfl <;> simp
  unfold s_is_stand
  refine def_ok1 rfl ?_
  cases d with
  | unk => exact absurd h.nx (by simp [isX_unk])
  | ex _ => exact absurd h.nx (by simp [isX_ex])
  | dct _ _ _ => exact absurd h.nx (by simp [isX_dct])
  | tup xs =>
    have ht : hasTL xs = false := h.t
    by_cases c : xs.length = l.length
    · have e1 : zipI false [tr, .tup xs] = .ok ((l.zip xs).map fun p => D.tup [encP p.1, p.2]) := by
        rcases htr with rfl | rfl
        · rw [zip_lt]; simp [zipL, List.zip_map_left]
        · rw [zip_ft]; simp [zipL, List.zip_map_left]
      have hx : ∀ p ∈ l.zip xs, hasT p.2 = false := fun p hp => hasTL_mem ht (List.of_mem_zip hp).2
      have e := lcGo_map1 (fun p : Part × D => D.tup [encP p.1, p.2]) (g := gTupR 2 (gsCons (putR 2) (gsCons (putR 3) gsNil))) (f := eAnd (eA (callF s_is_whole) (aCons (eVar 3) aNil)) (eChain leD ltD (eC (.int 0)) (eVar 3) (eA (callF s_places) (aCons (eVar 2) aNil))))
        (m := [some tr, some (.tup xs), none, none]) (fun p => D.bl (plB p.1 p.2)) (l.zip xs) (fun p hp => by
          refine ⟨[some tr, some (.tup xs), some (encP p.1), some p.2], by simp [hx p hp], ?_, rfl⟩
          obtain ⟨q, y⟩ := p
          simp only
          have hy : isX y = false := (h.mem (List.of_mem_zip hp).2).nx
          cases y with
          | unk => exact absurd hy (by simp [isX_unk])
          | ex _ => exact absurd hy (by simp [isX_ex])
          | dct _ _ _ => exact absurd hy (by simp [isX_dct])
          | int i => by_cases c0 : 0 ≤ i <;> simp [cf_is_whole, r_is_whole, isWholeB, r_places_p, plB, c0]
          | _ => simp [-callF_eq, cf_is_whole, isWholeB, plB])
      simp [c, e0, e1]
      rw [e]
      simp [-List.all_eq_true, -List.all_eq_false, small (show min l.length xs.length ≤ 16777216 by omega)]
      exact placesB_zip c
    · have c' : ¬ (xs.length : Int) = (l.length : Int) := by omega
      simp [c', e0, isStandB]
      cases e : placesB l xs with
      | false => rfl
      | true => exact absurd (placesB_len e) c
  | _ => simp [isStandB]
theorem isStand_ok : ∀ {l : List Part} {st : List Int}, StandOk l st → placesB l (st.map D.int) = true
  | [], [], _ => rfl
  | q :: l, p :: st, h => by
    simp only [List.map_cons, placesB, isStand_ok h.2.2, Bool.and_true, Bool.and_eq_true]
    exact ⟨by simpa using h.1, by simpa using h.2.1⟩
theorem good_stand {st : List Int} (h : st.length ≤ 1000000) : Good (.tup (st.map .int)) := ⟨by simp, (sh_ints st 0).mono (by omega), by simp only [bd, bd_ints]; simp; omega⟩
theorem still_good {d : D} (h : Good d) : still d = d := still_of d h.t
theorem r_check_stand {l : List Part} (h : Trn l) (tr : D) (htr : tr = .lst false (l.map encP) ∨ tr = .fr (l.map encP)) (d : D) (hd : Good d) : s_check_stand [tr, d] = if isStandB l d = true then .ok .non else .exc "NoStand" := by
  have gt := good_train h.ok h.m tr htr
  have e1 : s_check_train [tr] = .ok .non := by rcases htr with rfl | rfl; exact r_check_trn h; exact r_check_trnF h
  have e2 := r_is_stand h.ok.2 tr htr d hd
  have gd := hd.t
  by_cases c : isStandB l d = true
  · rw [if_pos c]; rw [c] at e2
    unfold s_check_stand
    exact def_ok1 rfl (by simp [still_good gt, still_good hd, e1, e2, gt.t, hd.t])
  · rw [if_neg c]; rw [Bool.not_eq_true] at c; rw [c] at e2
    unfold s_check_stand
    exact def_ex1 rfl (by simp [still_good gt, still_good hd, e1, e2, gt.t, hd.t])
theorem r_check_std {l : List Part} {st : List Int} (h : Trn l) (hs : StandOk l st) : s_check_stand [.lst false (l.map encP), .tup (st.map .int)] = .ok .non := by
  rw [r_check_stand h _ (.inl rfl) _ (good_stand (by have := hs.length; have := h.ok.2; omega))]
  exact if_pos (show isStandB l (.tup (st.map .int)) = true from isStand_ok hs)

/-! ### deeds and rows -/
structure Deed where
  i : Int
  w : Int
  n : Int
  deriving DecidableEq
def encDd (d : Deed) : D := .tup [.int d.i, .int d.w, .int d.n]
def DeedOk (len : Nat) (d : Deed) : Prop := 0 ≤ d.i ∧ d.i < len ∧ (d.w = 1 ∨ d.w = -1) ∧ 0 ≤ d.n
def isDeedB (len : Nat) : D → Bool
  | .tup [.int i, .int w, .int n] => decide (0 ≤ i) && decide (i < len) && (decide (1 = w) || decide (-1 = w)) && decide (0 ≤ n)
  | _ => false
theorem sh_il (l : List Int) (t : Bool) : Sh 64 (.lst t (l.map .int)) := (sh_lst (n := 1) (shl_map (fun a => sh_int _ a) l)).mono (by omega)
theorem inD_intsL (t : Bool) (x : Int) (ms : List Int) : inD (.int x) (.lst t (ms.map .int)) = .ok (.bl (decide (x ∈ ms))) := by
  simp only [inD]
  have h3 := sh_shaped (sh_il ms t) (by omega)
  simp only [py] at h3
  rw [if_pos (by rw [sh_shaped (sh_int 64 x) (by omega), h3]; rfl), mem_ints]
theorem in_ways (w : Int) : inD (.int w) (.lst false [.int 1, .int (-1)]) = .ok (.bl (decide (1 = w) || decide (-1 = w))) := by
  have := inD_intsL false w [1, -1]
  simp only [List.map_cons, List.map_nil] at this
  rw [this]
  congr 2
  simp only [List.mem_cons, List.not_mem_nil, or_false, Bool.decide_or]
  congr 1 <;> (congr 1; exact propext ⟨fun h => h.symm, fun h => h.symm⟩)
theorem r_is_deed {l : List Part} (tr : D) (htr : tr = .lst false (l.map encP) ∨ tr = .fr (l.map encP)) (d : D) (h : Good d) : s_is_deed [tr, d] = .ok (.bl (isDeedB l.length d)) := by
  have e0 : lenD [tr] = .ok (.int l.length) := by rcases htr with rfl | rfl <;> simp
  unfold s_is_deed
  refine def_ok1 rfl ?_
  cases d with
  | unk => exact absurd h.nx (by simp [isX_unk])
  | ex _ => exact absurd h.nx (by simp [isX_ex])
  | dct _ _ _ => exact absurd h.nx (by simp [isX_dct])
  | tup xs =>
    have hx := h.len
    have ht : hasTL xs = false := h.t
    have e := lcGo_bl (g := putR 5) (f := eA (callF s_is_whole) (aCons (eVar 5) aNil)) (m := [some tr, some (.tup xs), none, none, none, none]) isWholeB xs (fun a ha => by
      exact ⟨[some tr, some (.tup xs), none, none, none, some a], by simp [hasTL_mem ht ha], by simp [-callF_eq, cf_is_whole a (h.mem ha).nx]⟩)
    by_cases c : xs.length = 3
    · have c' : (xs.length : Int) = 3 := by omega
      simp [c', itemsN, items]
      rw [e]
      simp [-List.all_eq_true, -List.all_eq_false, small (show xs.length ≤ 16777216 by omega)]
      match xs, c with
      | [x, y, z], _ =>
        have h1 : hasT x = false := hasTL_mem ht (by simp)
        have h2 : hasT y = false := hasTL_mem ht (by simp)
        have h3 : hasT z = false := hasTL_mem ht (by simp)
        cases x with
        | int i => cases y with
          | int w => cases z with
            | int n =>
              have hw := in_ways w
              by_cases c0 : 0 ≤ i
              · by_cases c1 : i < l.length
                · cases c2 : (decide (1 = w) || decide (-1 = w)) with
                  | false => rw [c2] at hw; simp only [Bool.or_eq_false_iff, decide_eq_false_iff_not] at c2; simp [isWholeB, c0, c1, e0, hw, isDeedB, c2]
                  | true => rw [c2] at hw; simp only [Bool.or_eq_true, decide_eq_true_eq] at c2; simp [isWholeB, c0, c1, e0, hw, isDeedB, c2]
                · simp [isWholeB, c0, c1, e0, isDeedB]
              · simp [isWholeB, c0, isDeedB]
            | _ => simp [isWholeB, isDeedB]
          | _ => simp [isWholeB, isDeedB]
        | _ => simp [isWholeB, isDeedB]
    · have c' : ¬ (xs.length : Int) = 3 := by omega
      have e3 : isDeedB l.length (.tup xs) = false := by
        match xs, c with
        | [], _ => rfl
        | [_], _ => simp [isDeedB]
        | [_, _], _ => simp [isDeedB]
        | [_, _, _], c => simp at c
        | _ :: _ :: _ :: _ :: _, _ => simp [isDeedB]
      simp [c', e3]
  | _ => simp [isDeedB]
def isRowB (len : Nat) : D → Bool
  | .lst _ xs => xs.all (isDeedB len)
  | .fr xs => xs.all (isDeedB len)
  | _ => false
theorem r_check_row {l : List Part} (hl : TrainOk l) (tr : D) (htr : tr = .lst false (l.map encP) ∨ tr = .fr (l.map encP)) (d : D) (h : Good d) : s_check_row [tr, d] = if isRowB l.length d = true then .ok .non else .exc "NoRow" := by
  have htT : hasT tr = false := by rcases htr with rfl | rfl <;> simp
  have hst : still tr = tr := still_of tr htT
  have main : ∀ xs, (d = .lst false xs ∨ d = .fr xs) → (∀ x ∈ xs, Good x) → xs.length ≤ 1000000 → s_check_row [tr, d] = if isRowB l.length d = true then .ok .non else .exc "NoRow" := fun xs hd hg hx => by
    have e := lcGo_bl (g := putR 2) (f := eA (callF s_is_deed) (aCons (eVar 0) (aCons (eVar 2) aNil))) (m := [some tr, some d, none]) (isDeedB l.length) xs (fun a ha => by
      have h1 := hg a ha
      refine ⟨[some tr, some d, some a], by simp [h1.t], ?_⟩
      simp [hst, still_good h1, r_is_deed tr htr a h1, htT, h1.t])
    have hT : isRowB l.length d = xs.all (isDeedB l.length) := by rcases hd with rfl | rfl <;> rfl
    have hi : isiD "list" d = .ok (.bl true) := by rcases hd with rfl | rfl <;> simp
    have hit : itemsN false d = .ok xs := by rcases hd with rfl | rfl <;> simp [itemsN, items]
    rw [hT]
    unfold s_check_row
    by_cases c2 : xs.all (isDeedB l.length) = true
    · rw [if_pos c2]
      refine def_ok1 rfl ?_
      simp [hi, hit]
      rw [e]
      simp [-List.all_eq_true, -List.all_eq_false, small (show xs.length ≤ 16777216 by omega), c2]
    · rw [if_neg c2]
      rw [Bool.not_eq_true] at c2
      refine def_ex1 rfl ?_
      simp [hi, hit]
      rw [e]
      simp [-List.all_eq_true, -List.all_eq_false, small (show xs.length ≤ 16777216 by omega), c2]
  cases d with
  | unk => exact absurd h.nx (by simp [isX_unk])
  | ex _ => exact absurd h.nx (by simp [isX_ex])
  | dct _ _ _ => exact absurd h.nx (by simp [isX_dct])
  | lst t xs =>
    have ht : t = false := by have := h.t; simp only [hasT, Bool.or_eq_false_iff] at this; exact this.1
    subst ht
    exact main xs (.inl rfl) (fun x hx => h.memL hx) h.lenL
  | fr xs => exact main xs (.inr rfl) (fun x hx => h.memF hx) h.lenF
  | non => rw [if_neg (by simp [isRowB])]; unfold s_check_row; exact def_ex1 rfl (by simp)
  | bl _ => rw [if_neg (by simp [isRowB])]; unfold s_check_row; exact def_ex1 rfl (by simp)
  | int _ => rw [if_neg (by simp [isRowB])]; unfold s_check_row; exact def_ex1 rfl (by simp)
  | str _ => rw [if_neg (by simp [isRowB])]; unfold s_check_row; exact def_ex1 rfl (by simp)
  | tup _ => rw [if_neg (by simp [isRowB])]; unfold s_check_row; exact def_ex1 rfl (by simp)
@[simp] theorem hasT_encDd (d : Deed) : hasT (encDd d) = false := by simp [encDd]
@[simp] theorem still_encDd (d : Deed) : still (encDd d) = encDd d := by simp [encDd]
@[simp] theorem isFlat_encDd (d : Deed) : isFlat (encDd d) = true := by simp [encDd]
@[simp] theorem hasTL_encDd (l : List Deed) : hasTL (l.map encDd) = false := hasTL_map hasT_encDd l
@[simp] theorem stillL_encDd (l : List Deed) : stillL (l.map encDd) = l.map encDd := stillL_map still_encDd l
theorem sh_encDd (d : Deed) : Sh 2 (encDd d) := sh_ints [d.i, d.w, d.n] 1
theorem good_row {row : List Deed} (h : row.length ≤ 1000000) : Good (.lst false (row.map encDd)) :=
  ⟨by simp, (sh_lst (shl_map sh_encDd row)).mono (by omega), by simp only [bd, bdL_all (xs := row.map encDd) fun x hx => by obtain ⟨a, _, rfl⟩ := List.mem_map.mp hx; simp [encDd, bd, bdL]]; simp; omega⟩
def RowOk (len : Nat) (row : List Deed) : Prop := (∀ d ∈ row, DeedOk len d) ∧ row.length ≤ 1000000
theorem isRow_ok {len : Nat} {row : List Deed} (h : RowOk len row) : (row.map encDd).all (isDeedB len) = true := by
  rw [List.all_map, List.all_eq_true]
  intro d hd
  obtain ⟨h1, h2, h3, h4⟩ := h.1 d hd
  simp only [Function.comp, encDd, isDeedB, Bool.and_eq_true, Bool.or_eq_true, decide_eq_true_eq]
  exact ⟨⟨⟨h1, h2⟩, h3.imp (·.symm) (·.symm)⟩, h4⟩
theorem r_check_rw {l : List Part} {row : List Deed} (h : TrainOk l) (hr : RowOk l.length row) : s_check_row [.lst false (l.map encP), .lst false (row.map encDd)] = .ok .non := by
  rw [r_check_row h _ (.inl rfl) _ (good_row hr.2)]
  exact if_pos (show isRowB l.length (.lst false (row.map encDd)) = true from isRow_ok hr)
/-- a row walked -/
def walkN (l : List Part) : List Int → List Deed → List Int × Int
  | st, [] => (st, 0)
  | st, d :: row => ((walkN l (pushI l st d.i.toNat d.w d.n).1 row).1, (pushI l st d.i.toNat d.w d.n).2 + (walkN l (pushI l st d.i.toNat d.w d.n).1 row).2)
theorem walkN_len (l : List Part) : ∀ (row : List Deed) (st : List Int), (walkN l st row).1.length = st.length
  | [], _ => rfl
  | d :: row, st => by rw [walkN, walkN_len l row, pushI_len]
@[simp] theorem sAug_eq (i : Nat) (op : D → D → R D) (f : SemE) (m : Sl) : sAug i op f m = match m[i]? with
  | some (some z) => ofR m (f m) fun d => ofR m (op z d) fun r => if (hasT z || hasT r) = true then .stuck else .nx (m.set i (some r))
  | _ => .stuck := nr rfl
@[simp] theorem augD_int (i j : Int) : augD (.int i) (.int j) = .ok (.int (i + j)) := nr rfl
theorem r_walked {l : List Part} {st : List Int} {row : List Deed} (h : TrainOk l) (hs : st.length = l.length) (hr : RowOk l.length row) :
    s_walked [.lst false (l.map encP), .tup (st.map .int), .lst false (row.map encDd)] = .ok (encR (walkN l st row)) := by
  unfold s_walked
  refine def_ok1 rfl ?_
  simp
  obtain ⟨I, hI⟩ : ∃ I : Nat → Sl → Prop, I = fun k m => ∃ st' n x y z u, m = [some (.lst false (l.map encP)), some (.tup (st'.map .int)), some (.lst false (row.map encDd)), some (.int n), x, y, z, u] ∧ st'.length = l.length ∧
      walkN l st row = ((walkN l st' (row.drop k)).1, n + (walkN l st' (row.drop k)).2) := ⟨_, rfl⟩
  refine wp_map I ?_ (fun k d hk m hm => ?_) (fun m hm => ?_)
  · rw [hI]; exact ⟨st, 0, none, none, none, none, rfl, hs, by simp⟩
  · rw [hI] at hm
    obtain ⟨st', n, x, y, z, u, rfl, hs', hw⟩ := hm
    obtain ⟨d1, d2, d3, d4⟩ := hr.1 d (List.mem_of_getElem? hk)
    obtain ⟨j, hj⟩ := Int.eq_ofNat_of_zero_le d1
    have e := r_pushed_often l st' j d.w d.n h hs' (by omega) d3
    have hd : row.drop k = d :: row.drop (k + 1) := by
      obtain ⟨h1, h2⟩ := List.getElem?_eq_some_iff.mp hk
      rw [← h2]; exact List.drop_eq_getElem_cons h1
    rw [hd, walkN] at hw
    simp [encDd, hj, e, encR]
    rw [hI]
    refine ⟨(pushI l st' j d.w d.n).1, n + (pushI l st' j d.w d.n).2, _, _, _, _, rfl, by rw [pushI_len, hs'], ?_⟩
    rw [hw, hj, Int.toNat_natCast, Int.add_assoc]
  · rw [hI] at hm
    obtain ⟨st', n, x, y, z, u, rfl, hs', hw⟩ := hm
    rw [List.drop_length, walkN] at hw
    simp [hw, encR]
theorem r_left {l : List Part} {st : List Int} {row : List Deed} (h : Trn l) (hs : StandOk l st) (hr : RowOk l.length row) :
    s_left [.lst false (l.map encP), .tup (st.map .int), .lst false (row.map encDd)] = .ok (encR (walkN l st row)) := by
  unfold s_left
  refine def_ok1 rfl ?_
  simp [r_check_std h hs, r_check_rw h.ok hr, r_walked h.ok hs.length hr]
end CK

/-! PtJ: many pushes are pushes one by one -/
namespace CK
open PySem PySem.Spec PyProof.Rows L2 CT

theorem sumI_add {α : Type} (f g : α → Int) : ∀ l : List α, sumI (l.map fun a => f a + g a) = sumI (l.map f) + sumI (l.map g)
  | [] => rfl
  | a :: l => by simp only [List.map_cons, sumI_cons, sumI_add f g l]; omega
theorem sumI_congr {α : Type} {f g : α → Int} : ∀ {l : List α}, (∀ a ∈ l, f a = g a) → sumI (l.map f) = sumI (l.map g)
  | [], _ => rfl
  | a :: l, h => by
    have ih := sumI_congr (f := f) (g := g) (l := l) fun b hb => h b (by simp [hb])
    simp only [List.map_cons, sumI_cons, h a (by simp), ih]
theorem sumI_nonneg : ∀ {l : List Int}, (∀ a ∈ l, 0 ≤ a) → 0 ≤ sumI l
  | [], _ => by simp
  | a :: l, h => by
    have := h a (by simp)
    have := sumI_nonneg (l := l) fun b hb => h b (by simp [hb])
    rw [sumI_cons]; omega
/-- a number is its rest and the whole -/
theorem rest_of (x : Int) {z : Int} : x % z = x - z * (x / z) := by have := Int.emod_add_mul_ediv x z; omega
theorem div_shift {z : Int} (hz : 1 ≤ z) (y k : Int) : (y - z * k) / z = y / z - k := by
  have := Int.add_mul_ediv_left y (-k) (show z ≠ 0 by omega)
  rw [Int.mul_neg] at this
  rw [Int.sub_eq_add_neg, this]; omega
theorem div_mono {z a b : Int} (hz : 1 ≤ z) (h : a ≤ b) : a / z ≤ b / z := Int.ediv_le_ediv (by omega) h
theorem pushP_range {q : Part} {p w n : Int} (h : PartOk q) (h0 : 0 ≤ p) (h1 : p < nplaces q) (hw : w = 1 ∨ w = -1) (hn : 0 ≤ n) :
    0 ≤ (pushP q p w n).1 ∧ (pushP q p w n).1 < nplaces q ∧ 0 ≤ (pushP q p w n).2 := by
  cases q with
  | wheel z ms =>
    obtain ⟨hz, _⟩ := h
    simp only [pushP, nplaces]
    refine ⟨Int.emod_nonneg _ (by omega), Int.emod_lt_of_pos _ (by omega), ?_⟩
    split
    · rw [metN_sum hz p n hn]
      refine sumI_nonneg fun a ha => ?_
      obtain ⟨m, _, rfl⟩ := List.mem_map.mp ha
      have := div_mono hz (show p - m ≤ p - m + n by omega); omega
    · rw [leftN_sum hz p n hn]
      refine sumI_nonneg fun a ha => ?_
      obtain ⟨m, _, rfl⟩ := List.mem_map.mp ha
      have := div_mono hz (show p - m - n ≤ p - m by omega); omega
  | click => rcases hw with rfl | rfl <;> simp [pushP, nplaces, hn]
  | rocker =>
    simp only [nplaces] at h1
    simp only [pushP, nplaces]
    split
    · exact ⟨h0, h1, by simp⟩
    · refine ⟨?_, ?_, ?_⟩
      · simp only; split <;> omega
      · simp only; split <;> omega
      · simp only; split <;> omega
  | spring k =>
    obtain ⟨hk, _⟩ := h
    simp only [nplaces] at h1
    simp only [pushP, nplaces]
    split
    · exact ⟨Int.emod_nonneg _ (by omega), Int.emod_lt_of_pos _ (by omega), Int.ediv_nonneg (by omega) (by omega)⟩
    · refine ⟨?_, ?_, by simp⟩
      · simp only; split <;> omega
      · simp only; split <;> omega
theorem pushP_add {q : Part} {p w a b : Int} (h : PartOk q) (h0 : 0 ≤ p) (h1 : p < nplaces q) (hw : w = 1 ∨ w = -1) (ha : 0 ≤ a) (hb : 0 ≤ b) :
    pushP q p w (a + b) = ((pushP q (pushP q p w a).1 w b).1, (pushP q p w a).2 + (pushP q (pushP q p w a).1 w b).2) := by
  cases q with
  | wheel z ms =>
    obtain ⟨hz, _⟩ := h
    rcases hw with rfl | rfl
    · simp only [pushP, if_true, Int.one_mul]
      rw [metN_sum hz p (a + b) (by omega), metN_sum hz p a ha, metN_sum hz _ b hb, ← sumI_add]
      refine Prod.ext ?_ (sumI_congr fun m _ => ?_)
      · simp only; rw [Int.emod_add_emod, Int.add_assoc]
      · rw [rest_of (p + a) (z := z)]
        have e1 := div_shift hz (p + a - m + b) ((p + a) / z)
        have e2 := div_shift hz (p + a - m) ((p + a) / z)
        rw [show p + a - z * ((p + a) / z) - m + b = p + a - m + b - z * ((p + a) / z) by omega, show p + a - z * ((p + a) / z) - m = p + a - m - z * ((p + a) / z) by omega, e1, e2]
        rw [show p - m + (a + b) = p + a - m + b by omega, show p - m + a = p + a - m by omega]
        omega
    · have n1 : ¬ ((-1 : Int) = 1) := by omega
      simp only [pushP, if_neg n1]
      rw [leftN_sum hz p (a + b) (by omega), leftN_sum hz p a ha, leftN_sum hz _ b hb, ← sumI_add]
      refine Prod.ext ?_ (sumI_congr fun m _ => ?_)
      · simp only; rw [Int.emod_add_emod]; congr 1; omega
      · rw [rest_of (p + -1 * a) (z := z)]
        have e1 := div_shift hz (p + -1 * a - m - b) ((p + -1 * a) / z)
        have e2 := div_shift hz (p + -1 * a - m) ((p + -1 * a) / z)
        rw [show p + -1 * a - z * ((p + -1 * a) / z) - m - b = p + -1 * a - m - b - z * ((p + -1 * a) / z) by omega, show p + -1 * a - z * ((p + -1 * a) / z) - m = p + -1 * a - m - z * ((p + -1 * a) / z) by omega, e1, e2]
        rw [show p - m - (a + b) = p + -1 * a - m - b by omega, show p - m - a = p + -1 * a - m by omega]
        omega
  | click => simp [pushP, Int.add_mul]
  | rocker =>
    simp only [nplaces] at h1
    have : p = 0 ∨ p = 1 := by omega
    by_cases ea : a = 0
    · subst ea; simp [pushP]
    · by_cases eb : b = 0
      · subst eb; simp [pushP, ea]
      · have e : ¬ a + b = 0 := by omega
        rcases hw with rfl | rfl <;> rcases this with rfl | rfl <;> simp [pushP, ea, eb, e]
  | spring k =>
    obtain ⟨hk, _⟩ := h
    rcases hw with rfl | rfl
    · simp only [pushP, if_true]
      refine Prod.ext ?_ ?_
      · simp only; rw [Int.emod_add_emod, Int.add_assoc]
      · simp only
        rw [rest_of (p + a) (z := k), show p + a - k * ((p + a) / k) + b = p + (a + b) - k * ((p + a) / k) by omega, div_shift hk]; omega
    · have n1 : ¬ ((-1 : Int) = 1) := by omega
      simp only [pushP, if_neg n1]
      refine Prod.ext ?_ (by simp)
      simp only; split <;> split <;> (try split) <;> omega
theorem pushT_ok : ∀ {l : List Part} {st : List Int} {w n : Int}, (∀ q ∈ l, PartOk q) → StandOk l st → (w = 1 ∨ w = -1) → 0 ≤ n → StandOk l (pushT l st w n).1 ∧ 0 ≤ (pushT l st w n).2
  | [], [], _, _, _, _, _, hn => ⟨trivial, hn⟩
  | q :: l, p :: st, w, n, h, hs, hw, hn => by
    obtain ⟨a1, a2, a3⟩ := pushP_range (h q (by simp)) hs.1 hs.2.1 hw hn
    have ih := pushT_ok (l := l) (st := st) (w := w) (fun a ha => h a (by simp [ha])) hs.2.2 hw a3
    exact ⟨⟨a1, a2, ih.1⟩, ih.2⟩
theorem pushT_add : ∀ {l : List Part} {st : List Int} {w a b : Int}, (∀ q ∈ l, PartOk q) → StandOk l st → (w = 1 ∨ w = -1) → 0 ≤ a → 0 ≤ b →
    pushT l st w (a + b) = ((pushT l (pushT l st w a).1 w b).1, (pushT l st w a).2 + (pushT l (pushT l st w a).1 w b).2)
  | [], [], _, _, _, _, _, _, _, _ => rfl
  | q :: l, p :: st, w, a, b, h, hs, hw, ha, hb => by
    have hq := h q (by simp)
    have h' : ∀ q ∈ l, PartOk q := fun c hc => h c (by simp [hc])
    obtain ⟨a1, a2, a3⟩ := pushP_range hq hs.1 hs.2.1 hw ha
    obtain ⟨b1, b2, b3⟩ := pushP_range hq a1 a2 hw hb
    have e := pushP_add hq hs.1 hs.2.1 hw ha hb
    simp only [pushT]
    rw [e]
    simp only
    rw [pushT_add h' hs.2.2 hw a3 b3]
theorem StandOk.take_app : ∀ {l : List Part} {st : List Int} (i : Nat) {t : List Int}, StandOk l st → StandOk (l.drop i) t → StandOk l (st.take i ++ t)
  | _, _, 0, _, _, h => by simpa using h
  | [], [], _ + 1, t, h, h' => by simpa using h'
  | _ :: _, _ :: _, i + 1, t, h, h' => ⟨h.1, h.2.1, StandOk.take_app i h.2.2 h'⟩
theorem pushI_ok {l : List Part} {st : List Int} {i : Nat} {w n : Int} (h : ∀ q ∈ l, PartOk q) (hs : StandOk l st) (hw : w = 1 ∨ w = -1) (hn : 0 ≤ n) : StandOk l (pushI l st i w n).1 :=
  hs.take_app i (pushT_ok (fun q hq => h q (List.mem_of_mem_drop hq)) (hs.drop i) hw hn).1
theorem take_take_drop {α : Type} {st t : List α} {i : Nat} (h : i ≤ st.length) : (st.take i ++ t).take i = st.take i ∧ (st.take i ++ t).drop i = t := by
  constructor
  · rw [List.take_append_of_le_length (by simp; omega), List.take_take, Nat.min_self]
  · rw [List.drop_append_of_le_length (by simp; omega), List.drop_eq_nil_of_le (by simp; omega)]; rfl
theorem pushI_add {l : List Part} {st : List Int} {i : Nat} {w a b : Int} (h : ∀ q ∈ l, PartOk q) (hs : StandOk l st) (hi : i ≤ l.length) (hw : w = 1 ∨ w = -1) (ha : 0 ≤ a) (hb : 0 ≤ b) :
    pushI l st i w (a + b) = ((pushI l (pushI l st i w a).1 i w b).1, (pushI l st i w a).2 + (pushI l (pushI l st i w a).1 i w b).2) := by
  have h' : ∀ q ∈ l.drop i, PartOk q := fun q hq => h q (List.mem_of_mem_drop hq)
  unfold pushI
  have := hs.length
  obtain ⟨e1, e2⟩ := take_take_drop (st := st) (t := (pushT (l.drop i) (st.drop i) w a).1) (i := i) (by omega)
  simp only [e1, e2]
  rw [pushT_add h' (hs.drop i) hw ha hb]
  simp only [Int.mul_add]
theorem pushI_zero {l : List Part} {st : List Int} {i : Nat} {w : Int} (h : ∀ q ∈ l, PartOk q) (hs : StandOk l st) : pushI l st i w 0 = (st, 0) := by
  unfold pushI
  rw [pushT_zero (fun q hq => h q (List.mem_of_mem_drop hq)) (hs.drop i)]
  simp
theorem walkN_ok {l : List Part} (h : ∀ q ∈ l, PartOk q) : ∀ {row : List Deed} {st : List Int}, StandOk l st → (∀ d ∈ row, DeedOk l.length d) → StandOk l (walkN l st row).1
  | [], _, hs, _ => hs
  | d :: row, st, hs, hr => by
    have hd := hr d (by simp)
    rw [walkN]
    exact walkN_ok h (pushI_ok h hs hd.2.2.1 hd.2.2.2) fun e he => hr e (by simp [he])
end CK

/-! PtK: rows that are drawn; rows walked push by push -/
namespace CK
open PySem PySem.Spec PyProof.Rows L2 CT

theorem r_law_row (l : List Part) (c p most : Int) (h : Trn l) (h0 : 0 ≤ p) (h1 : p < 100000) (h2 : 0 ≤ most) (h3 : most < 2 ^ 40) :
    ∃ row, s_law_row [.lst false (l.map encP), .int c, .int p, .int most] = .ok (.lst true (row.map encDd)) ∧ RowOk l.length row ∧ row.length ≤ 5 ∧ ∀ d ∈ row, d.n ≤ most := by
  have main : wpR (s_law_row [.lst false (l.map encP), .int c, .int p, .int most]) (fun d => ∃ row, d = .lst true (row.map encDd) ∧ RowOk l.length row ∧ row.length ≤ 5 ∧ ∀ d ∈ row, d.n ≤ most) := by
    unfold s_law_row
    refine def_run rfl ?_
    have hl : 0 < (l.length : Int) := by have := h.ne; have := List.length_pos_iff.mpr this; omega
    have hm := mixN_lo c p
    have hm5 : 0 ≤ mixN c p % 6 ∧ mixN c p % 6 < 6 := by omega
    simp (disch := omega) [r_mix, modD_ok]
    obtain ⟨I, hI⟩ : ∃ I : Nat → Sl → Prop, I = fun i m => ∃ (row : List Deed) (x y : Option D), m = [some (.lst false (l.map encP)), some (.int c), some (.int p), some (.int most), some (.lst true (row.map encDd)), x, y] ∧ row.length = i ∧ (∀ d ∈ row, DeedOk l.length d) ∧ ∀ d ∈ row, d.n ≤ most := ⟨_, rfl⟩
    refine wp_rng I ?_ (fun i hi m hm => ?_) (fun m hm => ?_)
    · rw [hI]; exact ⟨[], none, none, rfl, rfl, by simp, by simp⟩
    · rw [hI] at hm
      obtain ⟨row, x, y, rfl, hrl, hr, hrm⟩ := hm
      have hlo := mixN_lo c (p + 1 + i)
      generalize hN : mixN c (p + 1 + i) = N at hlo
      have b1 := Int.emod_nonneg N (show (l.length : Int) ≠ 0 by omega)
      have b2 := Int.emod_lt_of_pos N hl
      have b3 := Int.emod_nonneg (N / 10) (show most + 1 ≠ 0 by omega)
      have b4 := Int.emod_lt_of_pos (N / 10) (show 0 < most + 1 by omega)
      simp (disch := omega) [r_mix, hN, modD_ok, divD_s, mulD_l, show row.length < sizeLine by rw [sizeBig]; omega]
      rw [hI]
      refine ⟨row ++ [⟨N % l.length, 1 - 2 * (N / 5 % 2), N / 10 % (most + 1)⟩], some (.int i), some (.int N), by simp [encDd], by simp [hrl], ?_, ?_⟩
      · intro d hd
        rcases List.mem_append.mp hd with hd | hd
        · exact hr d hd
        · rw [List.mem_singleton.mp hd]; exact ⟨b1, b2, by simp only; omega, b3⟩
      · intro d hd
        rcases List.mem_append.mp hd with hd | hd
        · exact hrm d hd
        · rw [List.mem_singleton.mp hd]; simp only; omega
    · rw [hI] at hm
      obtain ⟨row, x, y, rfl, hrl, hr, hrm⟩ := hm
      simp [sRetV]
      exact ⟨row, rfl, ⟨hr, by omega⟩, by omega, hrm⟩
  obtain ⟨d, e, l, rfl, h⟩ := wpR_ex main
  exact ⟨l, e, h⟩
theorem r_law_walked {l : List Part} {st : List Int} {row : List Deed} (h : TrainOk l) (hs : StandOk l st) (hr : RowOk l.length row) (hn : ∀ d ∈ row, d.n < 2 ^ 62) :
    s_law_walked [.lst false (l.map encP), .tup (st.map .int), .lst false (row.map encDd)] = .ok (encR (walkN l st row)) := by
  unfold s_law_walked
  refine def_ok1 rfl ?_
  simp
  obtain ⟨I, hI⟩ : ∃ I : Nat → Sl → Prop, I = fun k m => ∃ st' n x y z u v, m = [some (.lst false (l.map encP)), some (.tup (st'.map .int)), some (.lst false (row.map encDd)), some (.int n), x, y, z, u, v] ∧ StandOk l st' ∧
      walkN l st row = ((walkN l st' (row.drop k)).1, n + (walkN l st' (row.drop k)).2) := ⟨_, rfl⟩
  refine wp_map I ?_ (fun k d hk m hm => ?_) (fun m hm => ?_)
  · rw [hI]; exact ⟨st, 0, none, none, none, none, none, rfl, hs, by simp⟩
  · rw [hI] at hm
    obtain ⟨st', n, x, y, z, u, v, rfl, hs', hw⟩ := hm
    have hdm := List.mem_of_getElem? hk
    obtain ⟨d1, d2, d3, d4⟩ := hr.1 d hdm
    have d5 := hn d hdm
    obtain ⟨j, hj⟩ := Int.eq_ofNat_of_zero_le d1
    have hd : row.drop k = d :: row.drop (k + 1) := by
      obtain ⟨h1, h2⟩ := List.getElem?_eq_some_iff.mp hk
      rw [← h2]; exact List.drop_eq_getElem_cons h1
    rw [hd, walkN] at hw
    simp (disch := omega) [encDd]
    obtain ⟨J, hJ⟩ : ∃ J : Nat → Sl → Prop, J = fun t m => ∃ u v, m = [some (.lst false (l.map encP)), some (.tup ((pushI l st' j d.w t).1.map .int)), some (.lst false (row.map encDd)), some (.int (n + (pushI l st' j d.w t).2)), some (.int j), some (.int d.w), some (.int d.n), u, v] := ⟨_, rfl⟩
    refine wp_rng J ?_ (fun t ht m hm => ?_) (fun m hm => ?_)
    · have e0 := pushI_zero (i := j) (w := d.w) h.1 hs'
      rw [hJ]
      exact ⟨u, v, by simp [e0, hj]⟩
    · rw [hJ] at hm
      obtain ⟨u, v, rfl⟩ := hm
      have ok := pushI_ok (i := j) (n := t) h.1 hs' d3 (by omega)
      have e := r_law_pushed l (pushI l st' j d.w t).1 j d.w h ok.length (by omega) d3
      rw [lawI_eq h.1 ok d3] at e
      have ad := pushI_add (i := j) (a := t) (b := 1) h.1 hs' (by omega) d3 (by omega) (by omega)
      simp [e, encR]
      rw [hJ]
      exact ⟨some (.int t), some (.int (pushI l (pushI l st' j d.w t).1 j d.w 1).2), by simp [ad, Int.add_assoc]⟩
    · have e1 : ((d.n.toNat : Nat) : Int) = d.n := by omega
      rw [hJ] at hm
      simp only [e1] at hm
      obtain ⟨u, v, rfl⟩ := hm
      show I (k + 1) _
      rw [hI]
      refine ⟨_, _, _, _, _, _, _, rfl, pushI_ok (i := j) h.1 hs' d3 d4, ?_⟩
      rw [hw, hj, Int.toNat_natCast, Int.add_assoc]
  · rw [hI] at hm
    obtain ⟨st', n, x, y, z, u, v, rfl, hs', hw⟩ := hm
    rw [List.drop_length, walkN] at hw
    simp [hw, encR]
end CK

/-! PtL: pushes reckoned at once, the law's way -/
namespace CK
open PySem PySem.Spec PyProof.Rows L2 CT

@[simp] theorem s_wc : eqD (.str "wheel") (.str "click") = .ok (.bl false) := by rw [eqD_str (by decide +kernel) (by decide +kernel)]; congr 2
theorem divD_z {i z : Int} (h1 : 1 ≤ z) (h2 : z < 2 ^ 2000) : divD (.int i) (.int z) = .ok (.int (i / z)) := divD_ok (by omega) (divOk_z h1 h2)
theorem modD_z {i z : Int} (h1 : 1 ≤ z) : modD (.int i) (.int z) = .ok (.int (i % z)) := modD_ok (by omega)
theorem r_law_part_often (q : Part) (p w n : Int) (h : PartOk q) (hw : w = 1 ∨ w = -1) (hn : 0 ≤ n) : s_law_part_often [encP q, .int p, .int w, .int n] = .ok (encI2 (pushP q p w n)) := by
  unfold s_law_part_often
  refine def_ok1 rfl ?_
  have hm : mulD (.int w) (.int n) = .ok (.int (w * n)) := mulD_l (by omega)
  cases q with
  | wheel z ms =>
    obtain ⟨h1, h2, h3, h4, h5⟩ := h
    simp [encP]
    obtain ⟨I, hI⟩ : ∃ I : Nat → Sl → Prop, I = fun k m => ∃ (g : Int) (x y : Option D), m = [some (encP (.wheel z ms)), some (.int p), some (.int w), some (.int n), some (.int g), x, y] ∧
        (if w = 1 then sumI (ms.map fun m => (p - m + n) / z - (p - m) / z) = g + sumI ((ms.drop k).map fun m => (p - m + n) / z - (p - m) / z)
          else sumI (ms.map fun m => (p - m) / z - (p - m - n) / z) = g + sumI ((ms.drop k).map fun m => (p - m) / z - (p - m - n) / z)) := ⟨_, rfl⟩
    refine wp_map I ?_ (fun k a hk m hm' => ?_) (fun m hm' => ?_)
    · rw [hI]; exact ⟨0, none, none, by simp [encP], by split <;> simp⟩
    · rw [hI] at hm'
      obtain ⟨g, x, y, rfl, hg⟩ := hm'
      have hd : ms.drop k = a :: ms.drop (k + 1) := by
        obtain ⟨e1, e2⟩ := List.getElem?_eq_some_iff.mp hk
        rw [← e2]; exact List.drop_eq_getElem_cons e1
      rw [hd] at hg
      rcases hw with rfl | rfl
      · simp [encP, divD_z h1 h2]
        rw [hI]
        refine ⟨g + (p - a + n) / z - (p - a) / z, some (.int a), some (.int (p - a)), by simp [encP], ?_⟩
        simp only [if_true, List.map_cons, sumI_cons] at hg ⊢
        rw [hg]; omega
      · simp [encP, divD_z h1 h2]
        rw [hI]
        refine ⟨g + (p - a) / z - (p - a - n) / z, some (.int a), some (.int (p - a)), by simp [encP], ?_⟩
        simp only [show ¬ (-1 : Int) = 1 by omega, if_false, List.map_cons, sumI_cons] at hg ⊢
        rw [hg]; omega
    · rw [hI] at hm'
      obtain ⟨g, x, y, rfl, hg⟩ := hm'
      rw [List.drop_length] at hg
      rcases hw with rfl | rfl
      · simp at hg
        simp [encP, hm, modD_z h1, pushP, encI2, metN_sum h1 p n hn, hg]
      · simp at hg
        simp [encP, hm, modD_z h1, pushP, encI2, leftN_sum h1 p n hn, hg]
  | click =>
    rcases hw with rfl | rfl
    · simp [encP, mulD_r (i := n) (j := 1) (by omega), pushP, encI2]
    · simp [encP, mulD_r (i := n) (j := 0) (by omega), pushP, encI2]
  | rocker =>
    rcases hw with rfl | rfl
    · by_cases hn : n = 0
      · simp [encP, pushP, encI2, hn]
      · by_cases hp : p = 0 <;> simp [encP, pushP, encI2, hn, hp]
    · by_cases hn : n = 0 <;> simp [encP, pushP, encI2, hn]
  | spring k =>
    obtain ⟨h1, h2⟩ := h
    rcases hw with rfl | rfl
    · simp [encP, modD_z h1, divD_z h1 h2, pushP, encI2]
    · simp [encP, pushP, encI2]
theorem r_law_often (l : List Part) (st : List Int) (i : Nat) (w n : Int) (h : TrainOk l) (hs : StandOk l st) (hi : i ≤ l.length) (hw : w = 1 ∨ w = -1) (hn : 0 ≤ n) :
    s_law_often [.lst false (l.map encP), .tup (st.map .int), .int (i : Int), .int w, .int n] = .ok (encR (pushI l st i w n)) := by
  unfold s_law_often
  refine def_ok1 rfl ?_
  have hl2 := h.2
  have hsl := hs.length
  simp (disch := omega)
  obtain ⟨I, hI⟩ : ∃ I : Nat → Sl → Prop, I = fun k m => ∃ (done : List Int) (n' : Int) (x : Option D), m = [some (.lst false (l.map encP)), some (.tup (st.map .int)), some (.int (i : Int)), some (.int w), some (.int n'), some (.lst true ((st.take i ++ done ++ st.drop (i + k)).map .int)), x] ∧ done.length = k ∧ 0 ≤ n' ∧
      pushT (l.drop i) (st.drop i) w n = (done ++ (pushT (l.drop (i + k)) (st.drop (i + k)) w n').1, (pushT (l.drop (i + k)) (st.drop (i + k)) w n').2) := ⟨_, rfl⟩
  refine wp_rng I (by rw [hI]; exact ⟨[], n, none, by simp, rfl, hn, by simp⟩) (fun k hk m hm => ?_) (fun m hm => ?_)
  · rw [hI] at hm
    obtain ⟨done, n', x, rfl, hd, hn', hp⟩ := hm
    have hk' : i + k < l.length := by omega
    have hks : i + k < st.length := by omega
    have e0 : (i : Int) + (k : Int) = ((i + k : Nat) : Int) := by omega
    have d1 : st.drop (i + k) = st[i + k] :: st.drop (i + k + 1) := List.drop_eq_getElem_cons hks
    have d2 : l.drop (i + k) = l[i + k] :: l.drop (i + k + 1) := List.drop_eq_getElem_cons hk'
    have hso := hs.drop (i + k)
    rw [d1, d2] at hso
    have hq := h.1 _ (List.getElem_mem hk')
    have len : (st.take i ++ done).length = i + k := by rw [List.length_append, List.length_take, hd]; omega
    have e1 : ixD (.lst false (l.map encP)) (.int ((i : Int) + (k : Int))) = .ok (encP l[i + k]) := by rw [e0]; exact ixD_lst (by simp [hk'])
    have e2 : ixD (.lst true ((st.take i ++ done ++ st.drop (i + k)).map .int)) (.int ((i : Int) + (k : Int))) = .ok (.int st[i + k]) := by
      rw [e0, d1, List.map_append, List.map_cons]; exact ixD_at (by rw [List.length_map, len])
    have e3 := r_law_part_often l[i + k] st[i + k] w n' hq hw hn'
    have e4 : ixN ((st.take i ++ done ++ st.drop (i + k)).map D.int).length ((i : Int) + (k : Int)) = some (i + k) := by rw [e0]; exact ixN_nat (by rw [List.length_map, List.length_append, len, List.length_drop]; omega)
    have e5 : ∀ y, ((st.take i ++ done ++ st.drop (i + k)).map D.int).set (i + k) (.int y) = (st.take i ++ (done ++ [y]) ++ st.drop (i + (k + 1))).map .int := fun y => by
      rw [d1, List.map_append, List.map_cons, set_mid (by rw [List.length_map, len])]
      simp [Nat.add_assoc]
    have e6 : hasTL ((st.take i ++ done ++ st.drop (i + k)).map D.int) = false := hasTL_ints _
    generalize (st.take i ++ done ++ st.drop (i + k)).map D.int = L at e2 e4 e5 e6
    simp [e1, e2, e3, encI2, subR, e4, e5, e6]
    rw [hI]
    refine ⟨done ++ [(pushP l[i + k] st[i + k] w n').1], (pushP l[i + k] st[i + k] w n').2, some (.int (i + k)), by simp, by simp [hd], (pushP_range hq hso.1 hso.2.1 hw hn').2.2, ?_⟩
    rw [hp, d1, d2]
    simp [pushT, Nat.add_assoc]
  · rw [hI] at hm
    obtain ⟨done, n', x, rfl, hd, hn', hp⟩ := hm
    have e : i + (l.length - i) = l.length := by omega
    rw [e] at hp ⊢
    have d1 : st.drop l.length = [] := List.drop_eq_nil_of_le (by omega)
    have d2 : l.drop l.length = [] := List.drop_eq_nil_of_le (by omega)
    rw [d1, d2] at hp
    simp only [pushT, List.append_nil] at hp
    have hm : ∀ j, mulD (.int w) (.int j) = .ok (.int (w * j)) := fun j => mulD_l (by omega)
    rw [d1]
    simp [hm, encR, pushI, hp]
    rw [← List.map_take, ← List.map_append, stillL_ints]
theorem r_law_gone {l : List Part} {st : List Int} {row : List Deed} (h : TrainOk l) (hs : StandOk l st) (hr : RowOk l.length row) :
    s_law_gone [.lst false (l.map encP), .tup (st.map .int), .lst false (row.map encDd)] = .ok (encR (walkN l st row)) := by
  unfold s_law_gone
  refine def_ok1 rfl ?_
  simp
  obtain ⟨I, hI⟩ : ∃ I : Nat → Sl → Prop, I = fun k m => ∃ (st' : List Int) (n : Int) (x y z u : Option D), m = [some (.lst false (l.map encP)), some (.tup (st'.map .int)), some (.lst false (row.map encDd)), some (.int n), x, y, z, u] ∧ StandOk l st' ∧
      walkN l st row = ((walkN l st' (row.drop k)).1, n + (walkN l st' (row.drop k)).2) := ⟨_, rfl⟩
  refine wp_map I ?_ (fun k d hk m hm => ?_) (fun m hm => ?_)
  · rw [hI]; exact ⟨st, 0, none, none, none, none, rfl, hs, by simp⟩
  · rw [hI] at hm
    obtain ⟨st', n, x, y, z, u, rfl, hs', hw⟩ := hm
    obtain ⟨d1, d2, d3, d4⟩ := hr.1 d (List.mem_of_getElem? hk)
    obtain ⟨j, hj⟩ := Int.eq_ofNat_of_zero_le d1
    have e := r_law_often l st' j d.w d.n h hs' (by omega) d3 d4
    have hd : row.drop k = d :: row.drop (k + 1) := by
      obtain ⟨h1, h2⟩ := List.getElem?_eq_some_iff.mp hk
      rw [← h2]; exact List.drop_eq_getElem_cons h1
    rw [hd, walkN] at hw
    simp [encDd, hj, e, encR]
    rw [hI]
    refine ⟨(pushI l st' j d.w d.n).1, n + (pushI l st' j d.w d.n).2, _, _, _, _, rfl, pushI_ok h.1 hs' d3 d4, ?_⟩
    rw [hw, hj, Int.toNat_natCast, Int.add_assoc]
  · rw [hI] at hm
    obtain ⟨st', n, x, y, z, u, rfl, hs', hw⟩ := hm
    rw [List.drop_length, walkN] at hw
    simp [hw, encR]
/-- a great draw -/
def pwN (k : Int) : Int := if k % 4 = 0 then 1 else if k % 4 = 1 then 1000000 else if k % 4 = 2 then 1000000000000 else 100000000000000000000
def farN (c p k : Int) : Int := mixN c p * pwN k + mixN c (p + 1)
theorem farN_b (c p k : Int) : 0 ≤ farN c p k ∧ farN c p k < 10 ^ 30 := by
  have m1 := mixN_lo c p
  have m2 := mixN_hi c p
  have m3 := mixN_lo c (p + 1)
  have m4 := mixN_hi c (p + 1)
  have j : 0 ≤ pwN k ∧ pwN k ≤ 100000000000000000000 := by unfold pwN; split <;> (try split) <;> (try split) <;> omega
  have b1 : 0 ≤ mixN c p * pwN k := Int.mul_nonneg m1 j.1
  have b2 : mixN c p * pwN k ≤ mixN c p * 100000000000000000000 := Int.mul_le_mul_of_nonneg_left j.2 m1
  unfold farN; omega
theorem r_farN (c p k : Int) (h0 : 0 ≤ p) (h1 : p < 100000) : s_law_far [.int c, .int p, .int k] = .ok (.int (farN c p k)) := by
  have m1 := mixN_lo c p
  have m2 := mixN_hi c p
  have hk : k % 4 = 0 ∨ k % 4 = 1 ∨ k % 4 = 2 ∨ k % 4 = 3 := by omega
  have p12 : powD (.int 10) (.int 12) = .ok (.int 1000000000000) := by rw [powD_lit (by decide +kernel)]; rfl
  have p20 : powD (.int 10) (.int 20) = .ok (.int 100000000000000000000) := by rw [powD_lit (by decide +kernel)]; rfl
  have e : ixD (.lst false [.int 1, .int 1000000, .int 1000000000000, .int 100000000000000000000]) (.int (k % 4)) = .ok (.int (pwN k)) := by
    unfold pwN
    rcases hk with e | e | e | e <;> rw [e]
    · simp
    · simp
    · exact ixD_lst (i := 2) rfl
    · exact ixD_lst (i := 3) rfl
  unfold s_law_far
  refine def_ok1 rfl ?_
  simp (disch := omega) [r_mix, p12, p20, modD_ok, e, mulD_l, farN]
theorem r_far (c p k : Int) (h0 : 0 ≤ p) (h1 : p < 100000) : ∃ v, s_law_far [.int c, .int p, .int k] = .ok (.int v) ∧ 0 ≤ v ∧ v < 10 ^ 30 := ⟨_, r_farN c p k h0 h1, farN_b c p k⟩
end CK

/-! PtM: great trains, stands, rows -/
namespace CK
open PySem PySem.Spec PyProof.Rows L2 CT
def encRow (row : List Deed) : D := .lst false (row.map encDd)
theorem sh_tr (l : List Part) (row : List Deed) : Sh 64 (.lst false [.lst false (l.map encP), .lst false (row.map encDd)]) := by
  refine Sh.mono (n := 5) (sh_lst ?_) (by omega)
  intro x hx
  simp only [List.mem_cons, List.not_mem_nil, or_false] at hx
  rcases hx with rfl | rfl
  · exact sh_lst (shl_map sh_encP l)
  · exact (sh_lst (shl_map sh_encDd row)).mono (by omega)
theorem RowOk.app {n : Nat} {a b : List Deed} (h : RowOk n a) (h' : RowOk n b) (hl : a.length + b.length ≤ 1000000) : RowOk n (a ++ b) :=
  ⟨fun d hd => by rcases List.mem_append.mp hd with q | q; exact h.1 d q; exact h'.1 d q, by simpa using hl⟩
theorem wp_cut {r : RS} {Q : Po} (P : Sl → Prop) (h : wp r ⟨P, fun _ => False, fun _ => False, fun _ => False, fun _ => False⟩) (k : ∀ m, P m → Q.nx m) : wp r Q :=
  wp_imp h k (fun _ z => z.elim) (fun _ z => z.elim) (fun _ z => z.elim) (fun _ z => z.elim)
def MarksOk (z : Int) (ms : List Int) : Prop := (∀ m ∈ ms, 0 ≤ m ∧ m < z) ∧ ms.Pairwise (· < ·)
theorem pw_app {a b : List Int} (h : a.Pairwise (· < ·)) (h' : b.Pairwise (· < ·)) (hab : ∀ x ∈ a, ∀ y ∈ b, x < y) : (a ++ b).Pairwise (· < ·) := List.pairwise_append.mpr ⟨h, h', hab⟩
theorem catL_ok {t u : Bool} {xs ys : List D} (h : xs.length + ys.length ≤ 16777216) : catL (.lst t xs) (.lst u ys) = .ok (xs ++ ys) := by simp only [catL]; rw [if_pos (small h)]
theorem r_great_train (c : Int) : ∃ l, s_law_great_train [.int c, .int 0] = .ok (.lst true (l.map encP)) ∧ TrainOk l ∧ 1 ≤ l.length ∧ l.length ≤ 8 := by
  have main : wpR (s_law_great_train [.int c, .int 0]) (fun d => ∃ l, d = .lst true (l.map encP) ∧ TrainOk l ∧ 1 ≤ l.length ∧ l.length ≤ 8) := by
    unfold s_law_great_train
    refine def_run rfl ?_
    have hm := mixN_lo c 0
    have hm5 : 0 ≤ mixN c 0 % 8 ∧ mixN c 0 % 8 < 8 := by omega
    simp (disch := omega) [r_mix, modD_ok]
    obtain ⟨I, hI⟩ : ∃ I : Nat → Sl → Prop, I = fun i m => ∃ (l : List Part) (x0 x1 x2 x3 x4 x5 x6 : Option D), m = [some (.int c), some (.int 0), some (.lst true (l.map encP)), x0, x1, x2, x3, x4, x5, x6] ∧ l.length = i ∧ (∀ q ∈ l, PartOk q) := ⟨_, rfl⟩
    refine wp_rng I ?_ (fun i hi m hm => ?_) (fun m hm => ?_)
    · rw [hI]; exact ⟨[], _, _, _, _, _, _, _, rfl, rfl, by simp⟩
    · rw [hI] at hm
      obtain ⟨l, x0, x1, x2, x3, x4, x5, x6, rfl, hll, hl⟩ := hm
      have hlo := mixN_lo c (1 + i)
      generalize hN : mixN c (1 + i) = N at hlo
      obtain ⟨v, hv, v0, v1⟩ := r_far c (9 + 2 * i) N (by omega) (by omega)
      have e0 : ((0 : Int) + 1 + i) = 1 + i := by omega
      have hz0 : (10 : Int) ^ 30 < 2 ^ 2000 := by
        have : (10 : Int) ^ 30 ≤ 2 ^ 100 := by decide +kernel
        exact Int.lt_of_le_of_lt this (by decide +kernel)
      generalize hz : 1 + v = z
      have z1 : 1 ≤ z := by omega
      have z2 : z < 2 ^ 2000 := by
        have : z ≤ 10 ^ 30 := by omega
        exact Int.lt_of_le_of_lt this hz0
      obtain ⟨mn, hmn⟩ : ∃ mn : Int, mn = if 8 < z then 8 else z := ⟨_, rfl⟩
      have m0 : 1 ≤ mn ∧ mn ≤ 8 ∧ mn ≤ z := by rw [hmn]; split <;> omega
      have hb := bits_ok (pick := N) (n := mn.toNat)
      have e1 := fun (m0 m1 m2 m3 m4 m5 m6 m7 : Option D) => lcGo_map (fun i : Nat => D.int (i : Int)) (g := putR 8) (t := tOf (e2 eqD (e2 modD (e2 divD (e2 divD (eVar 4) (eC (.int 64))) (e2 shlD (eC (.int 1)) (eVar 8))) (eC (.int 2))) (eC (.int 1)))) (f := eVar 8)
        (m := [m0, m1, m2, m3, some (.int N), m4, m5, m6, none, m7]) (fun i : Nat => decide (N / 64 / 2 ^ i % 2 = 1)) (fun i : Nat => D.int (i : Int)) (List.range mn.toNat)
        (fun a ha => by
          have ha := List.mem_range.mp ha
          refine ⟨[m0, m1, m2, m3, some (.int N), m4, m5, m6, some (.int (a : Int)), m7], by simp, ?_, fun _ => by simp⟩
          have := shl_one a (by omega)
          simp [divD_s, modD_ok, this, divD_ok (Int.pow_pos (show (0 : Int) < 2 by decide)) (divOk_two a (by omega))])
      have e1' : ∀ m0 m1 m2 m3 m4 m5 m6 m7, lcGo (putR 8) (tOf (e2 eqD (e2 modD (e2 divD (e2 divD (eVar 4) (eC (.int 64))) (e2 shlD (eC (.int 1)) (eVar 8))) (eC (.int 2))) (eC (.int 1)))) (eVar 8) [m0, m1, m2, m3, some (.int N), m4, m5, m6, none, m7] ((List.range mn.toNat).map fun i : Nat => D.int (i : Int)) = .ok ((bits N mn.toNat).map D.int) := fun m0 m1 m2 m3 m4 m5 m6 m7 => by rw [e1]; simp [bits]
      have hmin : minD [.int z, .int 8] = .ok (.int mn) := by rw [minD_int, hmn]
      simp (maxSteps := 3000000) (disch := omega) [-sIf_eq, mulD_l, r_mix, hN, hv, hz, rng_map, hmin, e1', small (show (bits N mn.toNat).length ≤ 16777216 by omega)]
      obtain ⟨P, hP⟩ : ∃ P : Sl → Prop, P = fun m => ∃ (ms : List Int) (y : Option D), m = [some (.int c), some (.int 0), some (.lst true (l.map encP)), some (.int i), some (.int N), some (.int z), some (.lst true (ms.map .int)), x4, x5, y] ∧ MarksOk z ms ∧ ms.length ≤ 30 ∧ ∀ m ∈ ms, 20 < z → m < z - 3 := ⟨_, rfl⟩
      refine wp_cut P ?_ (fun m hm => ?_)
      · by_cases c1 : 300 < z ∧ N / 4096 % 2 = 1
        · have hn20 : 0 ≤ N / 8192 % 20 ∧ N / 8192 % 20 < 20 := by omega
          have e3 := fun (m0 m1 m2 m3 m4 m5 m6 m7 : Option D) => lcGo_map1 (fun i : Nat => D.int (i : Int)) (g := putR 9) (f := e2 addD (e2 divD (eVar 5) (eC (.int 3))) (e2 mulD (eC (.int 5)) (eVar 9)))
            (m := [m0, m1, m2, m3, m4, some (.int z), m5, m6, m7, none]) (fun i : Nat => D.int (z / 3 + 5 * i)) (List.range (N / 8192 % 20).toNat) (fun a ha => by
              have ha := List.mem_range.mp ha
              refine ⟨[m0, m1, m2, m3, m4, some (.int z), m5, m6, m7, some (.int a)], by simp, ?_, rfl⟩
              simp (disch := omega) [divD_s, mulD_l])
          obtain ⟨M2, hM2⟩ : ∃ M2 : List Int, M2 = (List.range (N / 8192 % 20).toNat).map fun i : Nat => z / 3 + 5 * i := ⟨_, rfl⟩
          have e3' : ∀ m0 m1 m2 m3 m4 m5 m6 m7, lcGo (putR 9) tYesM (e2 addD (e2 divD (eVar 5) (eC (.int 3))) (e2 mulD (eC (.int 5)) (eVar 9))) [m0, m1, m2, m3, m4, some (.int z), m5, m6, m7, none] ((List.range (N / 8192 % 20).toNat).map fun i : Nat => D.int (i : Int)) = .ok (M2.map D.int) := fun m0 m1 m2 m3 m4 m5 m6 m7 => by rw [e3, hM2]; simp
          have l2 : M2.length ≤ 20 := by rw [hM2]; simp; omega
          have ec : catL (.lst true ((bits N mn.toNat).map .int)) (.lst false (M2.map .int)) = .ok ((bits N mn.toNat ++ M2).map .int) := by rw [catL_ok (by simp; omega)]; simp
          simp (disch := omega) [c1.1, c1.2, divD_s, modD_ok, rng_map, e3', small (show M2.length ≤ 16777216 by omega), -List.map_append, ec]
          rw [hP]
          refine ⟨bits N mn.toNat ++ M2, _, rfl, ⟨fun m hm => ?_, pw_app hb.2.1 ?_ ?_⟩, by simp; omega, fun m hm _ => ?_⟩
          · rcases List.mem_append.mp hm with q | q
            · have := hb.1 m q; omega
            · rw [hM2] at q; obtain ⟨j, hj, rfl⟩ := List.mem_map.mp q; have := List.mem_range.mp hj; omega
          · rw [hM2, List.pairwise_map]; exact List.pairwise_lt_range.imp (by intro a b h; omega)
          · intro x hx y hy
            have := hb.1 x hx
            rw [hM2] at hy; obtain ⟨j, hj, rfl⟩ := List.mem_map.mp hy; omega
          · rcases List.mem_append.mp hm with q | q
            · have := hb.1 m q; omega
            · rw [hM2] at q; obtain ⟨j, hj, rfl⟩ := List.mem_map.mp q; have := List.mem_range.mp hj; omega
        · have key : P [some (.int c), some (.int 0), some (.lst true (l.map encP)), some (.int i), some (.int N), some (.int z), some (.lst true ((bits N mn.toNat).map .int)), x4, x5, x6] := by
            rw [hP]
            exact ⟨bits N mn.toNat, x6, rfl, ⟨fun m hm => by have := hb.1 m hm; omega, hb.2.1⟩, by omega, fun m hm hz => by have := hb.1 m hm; omega⟩
          by_cases c2 : 300 < z
          · have c3 : ¬ N / 4096 % 2 = 1 := fun e => c1 ⟨c2, e⟩
            simp (disch := omega) [c2, c3, divD_s, modD_ok]
            exact key
          · simp [c2]
            exact key
      · rw [hP] at hm
        obtain ⟨ms, y, rfl, hms, hml, hmz⟩ := hm
        simp [-sIf_eq]
        obtain ⟨P2, hP2⟩ : ∃ P : Sl → Prop, P = fun m => ∃ (ms : List Int), m = [some (.int c), some (.int 0), some (.lst true (l.map encP)), some (.int i), some (.int N), some (.int z), some (.lst true (ms.map .int)), x4, x5, y] ∧ MarksOk z ms ∧ ms.length ≤ 31 := ⟨_, rfl⟩
        refine wp_cut P2 ?_ (fun m hm => ?_)
        · by_cases c1 : 20 < z
          · by_cases c2 : N / 1024 % 2 = 1
            · simp (disch := omega) [c1, c2, divD_s, modD_ok, show ms.length < sizeLine by rw [sizeBig]; omega]
              rw [hP2]
              refine ⟨ms ++ [z - 1 - N / 2048 % 3], by simp, ⟨fun m hm => ?_, pw_app hms.2 (by simp) ?_⟩, by simp; omega⟩
              · rcases List.mem_append.mp hm with q | q
                · exact hms.1 m q
                · rw [List.mem_singleton.mp q]; omega
              · intro x hx y hy
                rw [List.mem_singleton.mp hy]
                have := hmz x hx c1; omega
            · simp (disch := omega) [c1, c2, divD_s, modD_ok]
              rw [hP2]; exact ⟨ms, rfl, hms, by omega⟩
          · simp [c1]
            rw [hP2]; exact ⟨ms, rfl, hms, by omega⟩
        · rw [hP2] at hm
          obtain ⟨ms, rfl, hms, hml⟩ := hm
          have hidx : N / 4 % 8 = 0 ∨ N / 4 % 8 = 1 ∨ N / 4 % 8 = 2 ∨ N / 4 % 8 = 3 ∨ N / 4 % 8 = 4 ∨ N / 4 % 8 = 5 ∨ N / 4 % 8 = 6 ∨ N / 4 % 8 = 7 := by omega
          have hw : PartOk (.wheel z ms) := ⟨z1, z2, by omega, hms.1, hms.2⟩
          have hs : PartOk (.spring z) := ⟨z1, z2⟩
          have hl5 : mkLst [.int 0, .int 0, .int 0, .int 0, .int 1, .int 1, .int 2, .int 3] = .ok [.int 0, .int 0, .int 0, .int 0, .int 1, .int 1, .int 2, .int 3] := mkLst_s (by simp)
          obtain ⟨q, k, hk1, hk2, hq⟩ : ∃ q : Part, ∃ k : Int, ixD (.lst false [.int 0, .int 0, .int 0, .int 0, .int 1, .int 1, .int 2, .int 3]) (.int (N / 4 % 8)) = .ok (.int k) ∧ ixD (.lst false [encP (.wheel z ms), encP (.spring z), encP .click, encP .rocker]) (.int k) = .ok (encP q) ∧ PartOk q := by
            rcases hidx with e | e | e | e | e | e | e | e <;> rw [e]
            · exact ⟨_, 0, ixD_lst (i := 0) rfl, ixD_lst (i := 0) rfl, hw⟩
            · exact ⟨_, 0, ixD_lst (i := 1) rfl, ixD_lst (i := 0) rfl, hw⟩
            · exact ⟨_, 0, ixD_lst (i := 2) rfl, ixD_lst (i := 0) rfl, hw⟩
            · exact ⟨_, 0, ixD_lst (i := 3) rfl, ixD_lst (i := 0) rfl, hw⟩
            · exact ⟨_, 1, ixD_lst (i := 4) rfl, ixD_lst (i := 1) rfl, hs⟩
            · exact ⟨_, 1, ixD_lst (i := 5) rfl, ixD_lst (i := 1) rfl, hs⟩
            · exact ⟨_, 2, ixD_lst (i := 6) rfl, ixD_lst (i := 2) rfl, trivial⟩
            · exact ⟨_, 3, ixD_lst (i := 7) rfl, ixD_lst (i := 3) rfl, trivial⟩
          simp only [encP] at hk2
          simp (disch := omega) [divD_s, modD_ok, hl5, hk1, hk2, show l.length < sizeLine by rw [sizeBig]; omega]
          have hT := hasT_encP q
          simp only [encP] at hT
          simp [hT]
          rw [hI]
          refine ⟨l ++ [q], _, _, _, _, _, _, _, by simp [encP]; exact ⟨rfl, rfl, rfl, rfl, rfl, rfl, rfl⟩, by simp [hll], ?_⟩
          intro a ha
          rcases List.mem_append.mp ha with h | h
          · exact hl a h
          · rw [List.mem_singleton.mp h]; exact hq
    · rw [hI] at hm
      obtain ⟨l, x0, x1, x2, x3, x4, x5, x6, rfl, hll, hl⟩ := hm
      simp [sRetV]
      exact ⟨l, rfl, ⟨hl, by omega⟩, by omega, by omega⟩
  obtain ⟨d, e, l, rfl, h⟩ := wpR_ex main
  exact ⟨l, e, h⟩

theorem enumL_map {α : Type} (enc : α → D) (l : List α) : enumL (l.map enc) = l.zipIdx.map fun p => D.tup [.int (p.2 : Int), enc p.1] := by
  apply List.ext_getElem?
  intro i
  unfold enumL rng
  rw [List.getElem?_map, List.getElem?_map, List.getElem?_zipIdx]
  by_cases h : i < l.length
  · have h1 : l[i]? = some l[i] := List.getElem?_eq_getElem h
    rw [h1]
    have hz : (((List.range (l.map enc).length).map fun i => D.int ((0 : Int) + (i : Nat))).zip (l.map enc))[i]? = some (D.int i, enc l[i]) := List.getElem?_zip_eq_some.mpr ⟨by simp [h], by simp [h]⟩
    rw [hz]
    simp
  · have h1 : l[i]? = none := List.getElem?_eq_none (by omega)
    rw [h1, List.getElem?_eq_none (by simp; omega)]
    rfl
theorem StandOk_of : ∀ {l : List Part} {st : List Int}, st.length = l.length → (∀ (i : Nat) (p : Int) (q : Part), st[i]? = some p → l[i]? = some q → 0 ≤ p ∧ p < nplaces q) → StandOk l st
  | [], [], _, _ => trivial
  | q :: l, p :: st, h, hp => by
    obtain ⟨a, b⟩ := hp 0 p q (by simp) (by simp)
    exact ⟨a, b, StandOk_of (by simpa using h) fun i x y h1 h2 => hp (i + 1) x y (by simpa using h1) (by simpa using h2)⟩
theorem r_great_stand {l : List Part} (h : TrainOk l) (c p : Int) (h0 : 0 ≤ p) (h1 : p < 1000) : ∃ st, s_law_great_stand [.lst false (l.map encP), .int c, .int p] = .ok (.tup (st.map .int)) ∧ StandOk l st := by
  have hl := h.2
  have e := lcGo_map1 (fun p : Part × Nat => D.tup [.int (p.2 : Int), encP p.1]) (g := gTupR 2 (gsCons (putR 3) (gsCons (putR 4) gsNil))) (f := e2 modD (eA (callF s_law_far) (aCons (eVar 1) (aCons (e2 addD (eVar 2) (eVar 3)) (aCons (e2 addD (eVar 3) (eC (.int 1))) aNil)))) (eA (callF s_law_places) (aCons (eVar 4) aNil)))
    (m := [some (.lst false (l.map encP)), some (.int c), some (.int p), none, none]) (fun q => D.int (farN c (p + q.2) (q.2 + 1) % nplaces q.1)) l.zipIdx (fun q hq => by
      obtain ⟨q, i⟩ := q
      have hi := List.mem_zipIdx hq
      have hq' : PartOk q := h.1 q (by rw [hi.2.2]; exact List.getElem_mem _)
      have hn := nplaces_pos hq'
      refine ⟨[some (.lst false (l.map encP)), some (.int c), some (.int p), some (.int i), some (encP q)], by simp, ?_, rfl⟩
      simp (disch := omega) [r_farN, r_places, modD_ok])
  obtain ⟨st, hst⟩ : ∃ st : List Int, st = l.zipIdx.map fun q => farN c (p + q.2) (q.2 + 1) % nplaces q.1 := ⟨_, rfl⟩
  refine ⟨st, ?_, StandOk_of (by rw [hst]; simp) fun i x q hx hq => ?_⟩
  · unfold s_law_great_stand
    refine def_ok1 rfl ?_
    have hE : enumI false (.lst false (l.map encP)) = .ok (l.zipIdx.map fun p => D.tup [.int (p.2 : Int), encP p.1]) := by rw [← enumL_map]; simp [enumI]
    simp [hE]
    rw [e]
    have e2 : (l.zipIdx.map fun q => D.int (farN c (p + q.2) (q.2 + 1) % nplaces q.1)) = st.map D.int := by rw [hst, List.map_map]; rfl
    rw [e2]
    simp [small (show st.length ≤ 16777216 by rw [hst]; simp; omega)]
  · rw [hst, List.getElem?_map, List.getElem?_zipIdx, hq] at hx
    simp at hx
    have hn := nplaces_pos (h.1 q (List.mem_of_getElem? hq))
    rw [← hx]
    exact ⟨Int.emod_nonneg _ (by omega), Int.emod_lt_of_pos _ (by omega)⟩
theorem r_deeds {l : List Part} (h : Trn l) (c p : Int) (h0 : 0 ≤ p) (h1 : p < 1000) : ∃ row, s_law_deeds [.lst false (l.map encP), .int c, .int p] = .ok (.lst true (row.map encDd)) ∧ RowOk l.length row ∧ row.length ≤ 5 := by
  have main : wpR (s_law_deeds [.lst false (l.map encP), .int c, .int p]) (fun d => ∃ row, d = .lst true (row.map encDd) ∧ RowOk l.length row ∧ row.length ≤ 5) := by
    unfold s_law_deeds
    refine def_run rfl ?_
    have hl : 0 < (l.length : Int) := by have := h.ne; have := List.length_pos_iff.mpr this; omega
    have hm := mixN_lo c p
    have hm5 : 0 ≤ mixN c p % 5 ∧ mixN c p % 5 < 5 := by omega
    simp (disch := omega) [r_mix, modD_ok]
    obtain ⟨I, hI⟩ : ∃ I : Nat → Sl → Prop, I = fun i m => ∃ (row : List Deed) (x y z : Option D), m = [some (.lst false (l.map encP)), some (.int c), some (.int p), some (.lst true (row.map encDd)), x, y, z] ∧ row.length = i ∧ (∀ d ∈ row, DeedOk l.length d) := ⟨_, rfl⟩
    refine wp_rng I ?_ (fun i hi m hm => ?_) (fun m hm => ?_)
    · rw [hI]; exact ⟨[], none, none, none, rfl, rfl, by simp⟩
    · rw [hI] at hm
      obtain ⟨row, x, y, z, rfl, hrl, hr⟩ := hm
      have hlo := mixN_lo c (p + 1 + i)
      generalize hN : mixN c (p + 1 + i) = N at hlo
      have hf := farN_b c (p + 6 + 2 * i) (N / 3)
      generalize hF : farN c (p + 6 + 2 * i) (N / 3) = F at hf
      have b1 := Int.emod_nonneg (N / 12) (show (l.length : Int) ≠ 0 by omega)
      have b2 := Int.emod_lt_of_pos (N / 12) hl
      obtain ⟨t, ht, ht1⟩ : ∃ t : Int, t = (if 0 < N / 128 % 16 then 1 else 0) ∧ (t = 0 ∨ t = 1) := ⟨_, rfl, by split <;> omega⟩
      have hF0 : 0 ≤ F * t := by rcases ht1 with e | e <;> rw [e] <;> omega
      simp (disch := omega) [r_mix, hN, modD_ok, divD_s, mulD_l, r_farN, hF, ← ht, mulD_r, show row.length < sizeLine by rw [sizeBig]; omega]
      rw [hI]
      refine ⟨row ++ [⟨N / 12 % l.length, 1 - 2 * (N / 64 % 2), F * t⟩], some (.int i), some (.int N), some (.int F), by simp [encDd], by simp [hrl], ?_⟩
      intro d hd
      rcases List.mem_append.mp hd with hd | hd
      · exact hr d hd
      · rw [List.mem_singleton.mp hd]; exact ⟨b1, b2, by simp only; omega, hF0⟩
    · rw [hI] at hm
      obtain ⟨row, x, y, z, rfl, hrl, hr⟩ := hm
      simp [sRetV]
      exact ⟨row, rfl, ⟨hr, by omega⟩, by omega⟩
  obtain ⟨d, e, l, rfl, h⟩ := wpR_ex main
  exact ⟨l, e, h⟩

def halves : List Deed → List Deed
  | [] => []
  | d :: row => ⟨d.i, d.w, d.n / 2⟩ :: ⟨d.i, d.w, d.n - d.n / 2⟩ :: halves row
theorem halves_app : ∀ a b : List Deed, halves (a ++ b) = halves a ++ halves b
  | [], b => rfl
  | d :: a, b => by simp [halves, halves_app a b]
theorem halves_len : ∀ a : List Deed, (halves a).length = 2 * a.length
  | [] => rfl
  | d :: a => by simp [halves, halves_len a]; omega
theorem halves_ok {n : Nat} : ∀ {row : List Deed}, (∀ d ∈ row, DeedOk n d) → ∀ d ∈ halves row, DeedOk n d
  | [], _, d, hd => by simp [halves] at hd
  | e :: row, h, d, hd => by
    obtain ⟨a1, a2, a3, a4⟩ := h e (by simp)
    simp only [halves, List.mem_cons] at hd
    rcases hd with rfl | rfl | hd
    · exact ⟨a1, a2, a3, by simp only; omega⟩
    · exact ⟨a1, a2, a3, by simp only; omega⟩
    · exact halves_ok (fun x hx => h x (by simp [hx])) d hd
theorem walkN_halves {l : List Part} (h : ∀ q ∈ l, PartOk q) : ∀ {row : List Deed} {st : List Int}, StandOk l st → (∀ d ∈ row, DeedOk l.length d) → walkN l st (halves row) = walkN l st row
  | [], _, _, _ => rfl
  | d :: row, st, hs, hr => by
    obtain ⟨a1, a2, a3, a4⟩ := hr d (by simp)
    have ok := pushI_ok (i := d.i.toNat) h hs a3 a4
    have ih := walkN_halves h (row := row) (st := (pushI l st d.i.toNat d.w d.n).1) ok fun x hx => hr x (by simp [hx])
    have e := pushI_add (i := d.i.toNat) (a := d.n / 2) (b := d.n - d.n / 2) h hs (by omega) a3 (by omega) (by omega)
    rw [show d.n / 2 + (d.n - d.n / 2) = d.n by omega] at e
    rw [e] at ih
    simp only [halves, walkN, e, ih, Int.add_assoc]
theorem encR_eq (x : List Int × Int) : encR x = .tup [.tup (x.1.map .int), .int x.2] := rfl
end CK

/-! PtN: all stands of a train -/
namespace CK
open PySem PySem.Spec PyProof.Rows L2 CT

def encS (st : List Int) : D := .tup (st.map .int)
@[simp] theorem hasT_encS (s : List Int) : hasT (encS s) = false := by simp [encS]
@[simp] theorem still_encS (s : List Int) : still (encS s) = encS s := by simp [encS]
@[simp] theorem isFlat_encS (s : List Int) : isFlat (encS s) = true := by simp [encS]
@[simp] theorem hasTL_encS (l : List (List Int)) : hasTL (l.map encS) = false := hasTL_map hasT_encS l
@[simp] theorem stillL_encS (l : List (List Int)) : stillL (l.map encS) = l.map encS := stillL_map still_encS l
def more1 (q : Part) (st : List Int) : List (List Int) := (List.range (nplaces q).toNat).map fun i : Nat => st ++ [(i : Int)]
def moreS (q : Part) (told : List (List Int)) : List (List Int) := told.flatMap (more1 q)
def allF : List (List Int) → List Part → List (List Int)
  | told, [] => told
  | told, q :: l => allF (moreS q told) l
def allS (l : List Part) : List (List Int) := allF [[]] l
theorem allF_app : ∀ (told : List (List Int)) (a b : List Part), allF told (a ++ b) = allF (allF told a) b
  | _, [], _ => rfl
  | told, q :: a, b => allF_app (moreS q told) a b
theorem moreS_len {q : Part} (hq : PartOk q) : ∀ told : List (List Int), ((moreS q told).length : Int) = told.length * nplaces q
  | [] => by simp [moreS]
  | t :: told => by
    have ih := moreS_len hq told
    have hn := nplaces_pos hq
    simp only [moreS, List.flatMap_cons, List.length_append, more1, List.length_map, List.length_range, List.length_cons] at ih ⊢
    rw [Int.natCast_add, ih, Int.natCast_add, Int.add_mul]
    have : ((nplaces q).toNat : Int) = nplaces q := by omega
    omega
theorem allF_len : ∀ {l : List Part} {told : List (List Int)}, (∀ q ∈ l, PartOk q) → ((allF told l).length : Int) = told.length * prodN l
  | [], told, _ => by simp [allF, prodN]
  | q :: l, told, h => by
    rw [allF, allF_len fun a ha => h a (by simp [ha]), moreS_len (h q (by simp)), Int.mul_assoc]
    rfl
theorem allS_len {l : List Part} (h : ∀ q ∈ l, PartOk q) : ((allS l).length : Int) = prodN l := by
  unfold allS; rw [allF_len h]; simp
theorem prodN_app2 (a b : List Part) : prodN (a ++ b) = prodN a * prodN b := by
  induction a with
  | nil => simp [prodN]
  | cons q a ih => simp only [prodN, List.cons_append, List.foldr_cons] at ih ⊢; rw [ih, Int.mul_assoc]
theorem prodN_take {l : List Part} (h : ∀ q ∈ l, PartOk q) (k : Nat) : prodN (l.take k) ≤ prodN l := by
  have e := prodN_app2 (l.take k) (l.drop k)
  rw [List.take_append_drop] at e
  have h1 := prodN_pos (l := l.take k) fun q hq => h q (List.mem_of_mem_take hq)
  have h2 := prodN_pos (l := l.drop k) fun q hq => h q (List.mem_of_mem_drop hq)
  have : prodN (l.take k) * 1 ≤ prodN (l.take k) * prodN (l.drop k) := Int.mul_le_mul_of_nonneg_left h2 (by omega)
  omega
theorem allF_ok : ∀ {l : List Part} {told : List (List Int)} {a : List Part}, (∀ st ∈ told, StandOk a st) → ∀ st ∈ allF told l, StandOk (a ++ l) st
  | [], told, a, h, st, hs => by simpa using h st hs
  | q :: l, told, a, h, st, hs => by
    have := allF_ok (l := l) (told := moreS q told) (a := a ++ [q]) (fun s hs => by
      simp only [moreS, more1, List.mem_flatMap, List.mem_map, List.mem_range] at hs
      obtain ⟨t, ht, i, hi, rfl⟩ := hs
      exact (h t ht).app (by omega) (by omega)) st hs
    simpa using this
theorem allS_ok {l : List Part} {st : List Int} (hs : st ∈ allS l) : StandOk l st := by
  simpa using allF_ok (l := l) (told := [[]]) (a := []) (by simp [StandOk]) st hs
theorem add1 {st : List Int} {x : Int} (h : st.length ≤ 10000) : addD (encS st) (.tup [.int x]) = .ok (encS (st ++ [x])) := by
  unfold encS; rw [addD_tup (by simp; omega)]; simp
theorem r_stands_of {l : List Part} (h : Trn l) (hp : prodN l ≤ 100000) : s_stands_of [.lst false (l.map encP)] = .ok (.lst true ((allS l).map encS)) := by
  unfold s_stands_of
  refine def_ok1 rfl ?_
  simp [r_check_trn h]
  obtain ⟨I, hI⟩ : ∃ I : Nat → Sl → Prop, I = fun k m => ∃ (a2 a3 a4 a5 : Option D), m = [some (.lst false (l.map encP)), some (.lst true ((allF [[]] (l.take k)).map encS)), a2, a3, a4, a5] := ⟨_, rfl⟩
  refine wp_map I ?_ (fun k q hk m hm => ?_) (fun m hm => ?_)
  · rw [hI]; simp [allF, encS]
  · rw [hI] at hm
    obtain ⟨a2, a3, a4, a5, rfl⟩ := hm
    have hq := h.ok.1 q (List.mem_of_getElem? hk)
    have hn := nplaces_pos hq
    have htk : l.take (k + 1) = l.take k ++ [q] := by rw [List.take_add_one, hk]; rfl
    have hT : ∀ st ∈ allF [[]] (l.take k), st.length ≤ 10000 := fun st hst => by
      have := (allF_ok (a := []) (by simp [StandOk]) st hst).length
      have := h.ok.2
      simp at *; omega
    have hlen := allF_len (l := l.take k) (told := [[]]) fun q hq => h.ok.1 q (List.mem_of_mem_take hq)
    have hpt := prodN_take h.ok.1 (k + 1)
    rw [htk, prodN_app] at hpt
    have e9 : allF [[]] (l.take (k + 1)) = moreS q (allF [[]] (l.take k)) := by rw [htk, allF_app]; rfl
    generalize allF [[]] (l.take k) = T at hT hlen e9
    simp only [List.length_singleton, Int.natCast_one, Int.one_mul] at hlen
    rw [← hlen] at hpt
    simp [sFreeze]
    obtain ⟨J, hJ⟩ : ∃ J : Nat → Sl → Prop, J = fun j m => ∃ (a4 a5 : Option D), m = [some (.lst false (l.map encP)), some (.lst false (T.map encS)), some (encP q), some (.lst true ((moreS q (T.take j)).map encS)), a4, a5] := ⟨_, rfl⟩
    refine wp_map J ?_ (fun j st hj m hm => ?_) (fun m hm => ?_)
    · rw [hJ]; simp [moreS]
    · rw [hJ] at hm
      obtain ⟨a4, a5, rfl⟩ := hm
      have hst := hT st (List.mem_of_getElem? hj)
      have e := lcGo_map1 (fun i : Nat => D.int (i : Int)) (g := putR 5) (f := e2 addD (eVar 4) (eA mkTup (aCons (eVar 5) aNil)))
        (m := [some (.lst false (l.map encP)), some (.lst false (T.map encS)), some (encP q), some (.lst true ((moreS q (T.take j)).map encS)), some (encS st), none]) (fun i : Nat => encS (st ++ [(i : Int)])) (List.range (nplaces q).toNat) (fun i hi => by
          exact ⟨[some (.lst false (l.map encP)), some (.lst false (T.map encS)), some (encP q), some (.lst true ((moreS q (T.take j)).map encS)), some (encS st), some (.int i)], by simp, by simp [add1 hst], by simp⟩)
      have hl1 : nplaces q ≤ 100000 := by
        have h1 : 1 * nplaces q ≤ (T.length : Int) * nplaces q := Int.mul_le_mul_of_nonneg_right (by have := List.getElem?_eq_some_iff.mp hj; have := this.1; omega) (by omega)
        omega
      have hl2 := moreS_len hq (T.take j)
      have hl3 : ((T.take j).length : Int) * nplaces q ≤ (T.length : Int) * nplaces q := Int.mul_le_mul_of_nonneg_right (by simp; omega) (by omega)
      have e2 : (List.range (nplaces q).toNat).map (fun i : Nat => encS (st ++ [(i : Int)])) = (more1 q st).map encS := by unfold more1; rw [List.map_map]; rfl
      rw [e2] at e
      have hl4 : (more1 q st).length = (nplaces q).toNat := by simp [more1]
      simp (disch := omega) [r_places_p, rng_map]
      rw [e]
      simp [seqL, small (show (more1 q st).length ≤ 16777216 by omega), small (show (moreS q (T.take j)).length + (more1 q st).length ≤ 16777216 by omega)]
      rw [hJ]
      exact ⟨_, _, by rw [List.take_add_one, hj]; simp [moreS]; exact ⟨rfl, rfl⟩⟩
    · rw [hJ] at hm
      obtain ⟨a4, a5, rfl⟩ := hm
      rw [List.take_length]
      simp [sMove]
      rw [hI]
      rw [← e9]
      exact ⟨_, _, _, _, rfl⟩
  · rw [hI] at hm
    obtain ⟨a2, a3, a4, a5, rfl⟩ := hm
    rw [List.take_length]
    simp [allS, sRetV]
end CK

/-! PtO: all stands, the law's way; rows held against one another -/
namespace CK
open PySem PySem.Spec PyProof.Rows L2 CT

theorem r_law_all {l : List Part} (h : Trn l) (hp : prodN l ≤ 100000) : s_law_all [.lst false (l.map encP)] = .ok (.lst false ((allS l).map encS)) := by
  unfold s_law_all
  refine def_ok1 rfl ?_
  simp
  obtain ⟨I, hI⟩ : ∃ I : Nat → Sl → Prop, I = fun k m => ∃ (a2 a3 a4 a5 : Option D), m = [some (.lst false (l.map encP)), some (.lst false ((allF [[]] (l.take k)).map encS)), a2, a3, a4, a5] := ⟨_, rfl⟩
  refine wp_map I ?_ (fun k q hk m hm => ?_) (fun m hm => ?_)
  · rw [hI]; simp [allF, encS]
  · rw [hI] at hm
    obtain ⟨a2, a3, a4, a5, rfl⟩ := hm
    have hq := h.ok.1 q (List.mem_of_getElem? hk)
    have hn := nplaces_pos hq
    have htk : l.take (k + 1) = l.take k ++ [q] := by rw [List.take_add_one, hk]; rfl
    have hT : ∀ st ∈ allF [[]] (l.take k), st.length ≤ 10000 := fun st hst => by
      have := (allF_ok (a := []) (by simp [StandOk]) st hst).length
      have := h.ok.2
      simp at *; omega
    have hlen := allF_len (l := l.take k) (told := [[]]) fun q hq => h.ok.1 q (List.mem_of_mem_take hq)
    have hpt := prodN_take h.ok.1 (k + 1)
    rw [htk, prodN_app] at hpt
    have e9 : allF [[]] (l.take (k + 1)) = moreS q (allF [[]] (l.take k)) := by rw [htk, allF_app]; rfl
    generalize allF [[]] (l.take k) = T at hT hlen e9
    simp only [List.length_singleton, Int.natCast_one, Int.one_mul] at hlen
    rw [← hlen] at hpt
    simp
    obtain ⟨J, hJ⟩ : ∃ J : Nat → Sl → Prop, J = fun j m => ∃ (a4 a5 : Option D), m = [some (.lst false (l.map encP)), some (.lst false (T.map encS)), some (encP q), some (.lst true ((moreS q (T.take j)).map encS)), a4, a5] := ⟨_, rfl⟩
    refine wp_map J ?_ (fun j st hj m hm => ?_) (fun m hm => ?_)
    · rw [hJ]; simp [moreS]
    · rw [hJ] at hm
      obtain ⟨a4, a5, rfl⟩ := hm
      have hst := hT st (List.mem_of_getElem? hj)
      have hl1 : nplaces q ≤ 100000 := by
        have h1 : 1 * nplaces q ≤ (T.length : Int) * nplaces q := Int.mul_le_mul_of_nonneg_right (by have := List.getElem?_eq_some_iff.mp hj; have := this.1; omega) (by omega)
        omega
      have hl2 := moreS_len hq (T.take j)
      have hl3 : ((T.take j).length : Int) * nplaces q ≤ (T.length : Int) * nplaces q := Int.mul_le_mul_of_nonneg_right (by simp; omega) (by omega)
      generalize hM : moreS q (T.take j) = M at hl2
      simp (disch := omega) [r_places]
      obtain ⟨L, hL⟩ : ∃ L : Nat → Sl → Prop, L = fun i m => ∃ (a5 : Option D), m = [some (.lst false (l.map encP)), some (.lst false (T.map encS)), some (encP q), some (.lst true ((M ++ (List.range i).map fun i : Nat => st ++ [(i : Int)]).map encS)), some (encS st), a5] := ⟨_, rfl⟩
      refine wp_rng L ?_ (fun i hi m hm => ?_) (fun m hm => ?_)
      · rw [hL]; simp
      · rw [hL] at hm
        obtain ⟨a5, rfl⟩ := hm
        simp [add1 hst]
        rw [if_pos (by rw [sizeBig]; omega)]
        simp
        rw [hL]
        exact ⟨_, by simp [List.range_succ]; rfl⟩
      · rw [hL] at hm
        obtain ⟨a5, rfl⟩ := hm
        show J (j + 1) _
        rw [hJ]
        refine ⟨some (encS st), a5, ?_⟩
        rw [List.take_add_one, hj]
        simp only [moreS, Option.toList, List.flatMap_append, List.flatMap_cons, List.flatMap_nil, List.append_nil]
        rw [show List.flatMap (more1 q) (T.take j) = M from hM]
        rfl
    · rw [hJ] at hm
      obtain ⟨a4, a5, rfl⟩ := hm
      rw [List.take_length]
      simp [sFreeze]
      rw [hI]
      rw [← e9]
      exact ⟨_, _, _, _, rfl⟩
  · rw [hI] at hm
    obtain ⟨a2, a3, a4, a5, rfl⟩ := hm
    rw [List.take_length]
    simp [allS]
theorem r_stand_count {l : List Part} (h : Trn l) (hp : prodN l < 2 ^ 64) : s_stand_count [.lst false (l.map encP)] = .ok (.int (prodN l)) := by
  unfold s_stand_count
  refine def_ok1 rfl ?_
  simp [r_check_trn h]
  obtain ⟨I, hI⟩ : ∃ I : Nat → Sl → Prop, I = fun k m => ∃ (a2 : Option D), m = [some (.lst false (l.map encP)), some (.int (prodN (l.take k))), a2] := ⟨_, rfl⟩
  refine wp_map I ?_ (fun k q hk m hm => ?_) (fun m hm => ?_)
  · rw [hI]; simp [prodN]
  · rw [hI] at hm
    obtain ⟨a2, rfl⟩ := hm
    have hm : mulD (.int (prodN (l.take k))) (.int (nplaces q)) = .ok (.int (prodN (l.take k) * nplaces q)) := by
      have h1 := prodN_take h.ok.1 k
      have h2 := prodN_pos (l := l.take k) fun q hq => h.ok.1 q (List.mem_of_mem_take hq)
      exact mulD_l (by omega)
    simp [r_places_p, hm]
    rw [hI]
    exact ⟨_, by rw [List.take_add_one, hk]; simp [prodN_app]; rfl⟩
  · rw [hI] at hm
    obtain ⟨a2, rfl⟩ := hm
    rw [List.take_length]
    simp
/-! ### texts and numbers held against one another -/
theorem eqvAll_ints : ∀ a b : List Int, PyData.eqvAll (pyL (a.map D.int)) (pyL (b.map D.int)) = decide (a = b)
  | [], [] => by simp [pyL, PyData.eqvAll]
  | [], _ :: _ => by simp [pyL, PyData.eqvAll]
  | _ :: _, [] => by simp [pyL, PyData.eqvAll]
  | x :: a, y :: b => by
    simp only [List.map_cons, pyL, PyData.eqvAll, eqvAll_ints a b, py, PyData.eqv, List.cons.injEq, Bool.decide_and]
    rfl
theorem eqv_S (a b : List Int) : eqvD (encS a) (encS b) = decide (a = b) := by
  unfold eqvD encS
  simp only [py, PyData.eqv, eqvAll_ints]
theorem sh_encS (s : List Int) : Sh 64 (encS s) := (sh_ints s 0).mono (by omega)
theorem eqD_S (a b : List Int) : eqD (encS a) (encS b) = .ok (.bl (decide (a = b))) := by rw [eqD_ok (sh_encS a) (sh_encS b), eqv_S]
theorem neD_S (a b : List Int) : neD (encS a) (encS b) = .ok (.bl (!decide (a = b))) := by rw [neD_ok (sh_encS a) (sh_encS b), eqv_S]
theorem eqv_R (x y : List Int × Int) : eqvD (encR x) (encR y) = decide (x = y) := by
  have := eqv_S x.1 y.1
  unfold eqvD encS at this
  unfold eqvD encR
  simp only [py, pyL, PyData.eqv, PyData.eqvAll] at this ⊢
  rw [this, Bool.and_true]
  by_cases h1 : x.1 = y.1 <;> by_cases h2 : x.2 = y.2 <;> simp [Prod.ext_iff, h1, h2]
theorem neD_R (x y : List Int × Int) : neD (encR x) (encR y) = .ok (.bl (!decide (x = y))) := by rw [neD_ok (sh_encR x) (sh_encR y), eqv_R]
theorem eqD_R (x y : List Int × Int) : eqD (encR x) (encR y) = .ok (.bl (decide (x = y))) := by rw [eqD_ok (sh_encR x) (sh_encR y), eqv_R]
/-- the first stand from which two rows leave unlike things -/
def apartR (l : List Part) (r1 r2 : List Deed) : List (List Int) → D
  | [] => .tup [.str "alike"]
  | st :: S => if walkN l st r1 = walkN l st r2 then apartR l r1 r2 S else .tup [.str "apart", encS st]
theorem apartR_flat (l : List Part) (r1 r2 : List Deed) : ∀ S, hasT (apartR l r1 r2 S) = false ∧ still (apartR l r1 r2 S) = apartR l r1 r2 S
  | [] => by simp [apartR]
  | st :: S => by
    rw [apartR]; split
    · exact apartR_flat l r1 r2 S
    · simp

theorem apartR_sh (l : List Part) (r1 r2 : List Deed) : ∀ S, Sh 64 (apartR l r1 r2 S)
  | [] => (sh_tup (n := 1) (by
    intro x hx
    simp only [List.mem_cons, List.not_mem_nil, or_false] at hx
    rw [hx]; exact sh_str (by decide +kernel))).mono (by omega)
  | st :: S => by
    rw [apartR]; split
    · exact apartR_sh l r1 r2 S
    · refine (sh_tup (n := 2) ?_).mono (by omega)
      intro x hx
      simp only [List.mem_cons, List.not_mem_nil, or_false] at hx
      rcases hx with rfl | rfl
      · exact sh_str (by decide +kernel)
      · exact (sh_ints st 0).mono (by omega)
theorem cf_stands_of {l : List Part} (h : Trn l) (hp : prodN l ≤ 100000) : callF s_stands_of [.lst false (l.map encP)] = .ok (.lst false ((allS l).map encS)) := by
  simp [r_stands_of h hp]
theorem r_rows_alike {l : List Part} {r1 r2 : List Deed} (h : Trn l) (hp : prodN l ≤ 100000) (h1 : RowOk l.length r1) (h2 : RowOk l.length r2) :
    s_rows_alike [.lst false (l.map encP), .lst false (r1.map encDd), .lst false (r2.map encDd)] = .ok (apartR l r1 r2 (allS l)) := by
  unfold s_rows_alike
  refine def_ok1 rfl ?_
  simp [r_check_trn h, r_check_rw h.ok h1, r_check_rw h.ok h2, r_stands_of h hp]
  obtain ⟨I, hI⟩ : ∃ I : Nat → Sl → Prop, I = fun k m => ∃ (a3 : Option D), m = [some (.lst false (l.map encP)), some (.lst false (r1.map encDd)), some (.lst false (r2.map encDd)), a3] ∧ apartR l r1 r2 (allS l) = apartR l r1 r2 ((allS l).drop k) := ⟨_, rfl⟩
  refine wp_map I ?_ (fun k st hk m hm => ?_) (fun m hm => ?_)
  · rw [hI]; exact ⟨_, rfl, by simp⟩
  · rw [hI] at hm
    obtain ⟨a3, rfl, he⟩ := hm
    have hs := allS_ok (List.mem_of_getElem? hk)
    have w1 := r_walked h.ok hs.length h1
    have w2 := r_walked h.ok hs.length h2
    have hd : (allS l).drop k = st :: (allS l).drop (k + 1) := by
      obtain ⟨h1, h2⟩ := List.getElem?_eq_some_iff.mp hk
      rw [← h2]; exact List.drop_eq_getElem_cons h1
    rw [hd, apartR] at he
    by_cases c : walkN l st r1 = walkN l st r2
    · rw [if_pos c] at he
      simp [encS, w1, w2, neD_R, c]
      rw [hI]
      exact ⟨_, rfl, he⟩
    · rw [if_neg c] at he
      simp [encS, w1, w2, neD_R, c]
      rw [he]; simp [encS]
  · rw [hI] at hm
    obtain ⟨a3, rfl, he⟩ := hm
    rw [List.drop_length, apartR] at he
    simp [he]
theorem r_due_3 {l : List Part} {r1 r2 : List Deed} (h : Trn l) (hp : prodN l ≤ 100000) (h1 : RowOk l.length r1) (h2 : RowOk l.length r2) :
    s_law_due_3 [.lst false (l.map encP), .lst false (r1.map encDd), .lst false (r2.map encDd)] = .ok (apartR l r1 r2 (allS l)) := by
  unfold s_law_due_3
  refine def_ok1 rfl ?_
  simp [r_law_all h hp]
  obtain ⟨I, hI⟩ : ∃ I : Nat → Sl → Prop, I = fun k m => ∃ (a3 : Option D), m = [some (.lst false (l.map encP)), some (.lst false (r1.map encDd)), some (.lst false (r2.map encDd)), a3] ∧ apartR l r1 r2 (allS l) = apartR l r1 r2 ((allS l).drop k) := ⟨_, rfl⟩
  refine wp_map I ?_ (fun k st hk m hm => ?_) (fun m hm => ?_)
  · rw [hI]; exact ⟨_, rfl, by simp⟩
  · rw [hI] at hm
    obtain ⟨a3, rfl, he⟩ := hm
    have hs := allS_ok (List.mem_of_getElem? hk)
    have w1 := r_law_gone h.ok hs h1
    have w2 := r_law_gone h.ok hs h2
    have hd : (allS l).drop k = st :: (allS l).drop (k + 1) := by
      obtain ⟨h1, h2⟩ := List.getElem?_eq_some_iff.mp hk
      rw [← h2]; exact List.drop_eq_getElem_cons h1
    rw [hd, apartR] at he
    by_cases c : walkN l st r1 = walkN l st r2
    · rw [if_pos c] at he
      simp [encS, w1, w2, neD_R, c]
      rw [hI]
      exact ⟨_, rfl, he⟩
    · rw [if_neg c] at he
      simp [encS, w1, w2, neD_R, c]
      rw [he]; simp [encS]
  · rw [hI] at hm
    obtain ⟨a3, rfl, he⟩ := hm
    rw [List.drop_length, apartR] at he
    simp [he]

/-! ### a place of one's own list is set -/
def mineR (i : Nat) (m : Sl) (k : List D → R Sl) : R Sl := match m[i]? with
  | some (some (.lst true xs)) => k xs
  | _ => .stuck
@[simp] theorem mineR_0 {xs : List D} {r : Sl} {k : List D → R Sl} : mineR 0 (some (.lst true xs) :: r) k = k xs := nr rfl
@[simp] theorem mineR_s {x : Option D} {r : Sl} {i : Nat} {k : List D → R Sl} : mineR (i + 1) (x :: r) k = mineR i r k := nr rfl
def asIR (r : R D) (k : Int → R Sl) : R Sl := match r with
  | .ok (.int i) => k i
  | _ => .stuck
@[simp] theorem asIR_int {i : Int} {k : Int → R Sl} : asIR (.ok (.int i)) k = k i := nr rfl
def setN (xs : List D) (i : Int) (d : D) (k : List D → R Sl) : R Sl := match ixN xs.length i with
  | some j => k (xs.set j d)
  | none => .stuck
theorem setN_nat {xs : List D} {i : Nat} {d : D} {k : List D → R Sl} (h : i < xs.length) : setN xs (i : Int) d k = k (xs.set i d) := by unfold setN; rw [ixN_nat h]
theorem setN_at {xs ys : List D} {x d : D} {i : Nat} {k : List D → R Sl} (h : xs.length = i) : setN (xs ++ x :: ys) (i : Int) d k = k (xs ++ d :: ys) := by
  rw [setN_nat (by subst h; simp), set_mid h]
theorem subR_eq (i : Nat) (f : SemE) (d : D) (m : Sl) : subR i f d m = if hasT d = true then .stuck else mineR i m fun xs => asIR (f m) fun k => setN xs k d fun ys => .ok (m.set i (some (.lst true ys))) := by
  unfold subR
  split
  · rfl
  · unfold mineR
    cases h1 : m[i]? with
    | none => rfl
    | some o =>
      cases o with
      | none => rfl
      | some z =>
        cases z with
        | lst t xs =>
          cases t with
          | false => rfl
          | true =>
            simp only
            cases h2 : f m with
            | ok v =>
              cases v with
              | int k => (simp only [asIR, setN]) <;> (cases ixN xs.length k <;> rfl)
              | _ => rfl
            | exc c => rfl
            | stuck => rfl
        | _ => rfl
theorem set_map {α : Type} (enc : α → D) (xs : List α) (i : Nat) (x : α) : (xs.map enc).set i (enc x) = (xs.set i x).map enc := by rw [List.map_set]
@[simp] theorem ixD_l2 (t : Bool) (x y z : D) (r : List D) : ixD (.lst t (x :: y :: z :: r)) (.int 2) = .ok z := ixD_lst (i := 2) rfl
@[simp] theorem ixD_l3 (t : Bool) (x y z u : D) (r : List D) : ixD (.lst t (x :: y :: z :: u :: r)) (.int 3) = .ok u := ixD_lst (i := 3) rfl
@[simp] theorem ixD_l4 (t : Bool) (x y z u v : D) (r : List D) : ixD (.lst t (x :: y :: z :: u :: v :: r)) (.int 4) = .ok v := ixD_lst (i := 4) rfl
@[simp] theorem ixD_l5 (t : Bool) (x y z u v a : D) (r : List D) : ixD (.lst t (x :: y :: z :: u :: v :: a :: r)) (.int 5) = .ok a := ixD_lst (i := 5) rfl
@[simp] theorem ixD_l6 (t : Bool) (x y z u v a b : D) (r : List D) : ixD (.lst t (x :: y :: z :: u :: v :: a :: b :: r)) (.int 6) = .ok b := ixD_lst (i := 6) rfl
@[simp] theorem ixD_l7 (t : Bool) (x y z u v a b c : D) (r : List D) : ixD (.lst t (x :: y :: z :: u :: v :: a :: b :: c :: r)) (.int 7) = .ok c := ixD_lst (i := 7) rfl
@[simp] theorem ixD_t3 (x y z u : D) (r : List D) : ixD (.tup (x :: y :: z :: u :: r)) (.int 3) = .ok u := ixD_tup (i := 3) rfl
@[simp] theorem ixD_t4 (x y z u v : D) (r : List D) : ixD (.tup (x :: y :: z :: u :: v :: r)) (.int 4) = .ok v := ixD_tup (i := 4) rfl
end CK

/-! PtP: draws of the later laws; trains behind one another -/
namespace CK
open PySem PySem.Spec PyProof.Rows L2 CT

theorem r_places_l2 (q : Part) : s_law_places_2 [encP q] = .ok (.int (nplaces q)) := r_places_p q
def digN (n : Int) : Nat → Int
  | 0 => n
  | k + 1 => digN n k / 2
theorem r_digit (n : Int) (k : Int) (h0 : 0 ≤ k) (h1 : k < 1000000) : s_law_digit [.int n, .int 2, .int k] = .ok (.int (digN n k.toNat % 2)) := by
  unfold s_law_digit
  refine def_ok1 rfl ?_
  simp (disch := omega)
  refine wp_rng (fun i m => ∃ x, m = [some (.int (digN n i)), some (.int 2), some (.int k), x]) ⟨none, rfl⟩ (fun i hi m hm => ?_) (fun m hm => ?_)
  · obtain ⟨x, rfl⟩ := hm
    simp [divD_s, digN]
  · obtain ⟨x, rfl⟩ := hm
    simp [modD_ok]
def bits7 (pick : Int) (n : Nat) : List Int := ((List.range n).filter fun i : Nat => decide (digN (pick / 64) i % 2 = 1) || decide (pick / 512 % 5 = 1)).map fun i : Nat => (i : Int)
theorem range_filt_ok (c : Nat → Bool) (n : Nat) (l : List Int) (hl : l = ((List.range n).filter c).map fun i : Nat => (i : Int)) : (∀ m ∈ l, 0 ≤ m ∧ m < n) ∧ l.Pairwise (· < ·) ∧ l.length ≤ n := by
  subst hl
  refine ⟨fun m hm => ?_, ?_, ?_⟩
  · obtain ⟨i, hi, rfl⟩ := List.mem_map.mp hm
    have := List.mem_range.mp (List.mem_filter.mp hi).1
    omega
  · rw [List.pairwise_map]
    exact (List.pairwise_lt_range.filter _).imp (by intro a b h; omega)
  · rw [List.length_map]
    exact Nat.le_trans (List.length_filter_le _ _) (by simp)
theorem r_part_7 (pick most : Int) (h0 : 0 ≤ pick) (h1 : 1 ≤ most) (h2 : most ≤ 1000) : ∃ q, s_law_part_7 [.int pick, .int most] = .ok (encP q) ∧ PartOk q ∧ (nplaces q ≤ most ∨ nplaces q ≤ 2) := by
  have main : wpR (s_law_part_7 [.int pick, .int most]) (fun d => ∃ q, d = encP q ∧ PartOk q ∧ (nplaces q ≤ most ∨ nplaces q ≤ 2)) := by
    obtain ⟨z, hz⟩ : ∃ z, z = 1 + pick / 8 % most := ⟨_, rfl⟩
    have a1 := Int.emod_nonneg (pick / 8) (show most ≠ 0 by omega)
    have a2 := Int.emod_lt_of_pos (pick / 8) (show 0 < most by omega)
    have z1 : 1 ≤ z := by omega
    have z2 : z ≤ most := by omega
    have zb : z < 2 ^ 2000 := Int.lt_of_le_of_lt (b := 2 ^ 100) (by omega) (by decide +kernel)
    have hb := range_filt_ok _ z.toNat _ (show bits7 pick z.toNat = _ from rfl)
    have e := fun (m1 m2 m3 : Option D) => lcGo_map (fun i : Nat => D.int (i : Int)) (g := putR 4) (t := CT.tOr (tOf (e2 eqD (eA (callF s_law_digit) (aCons (e2 divD (eVar 0) (eC (.int 64))) (aCons (eC (.int 2)) (aCons (eVar 4) aNil)))) (eC (.int 1)))) (tOf (e2 eqD (e2 modD (e2 divD (eVar 0) (eC (.int 512))) (eC (.int 5))) (eC (.int 1))))) (f := eVar 4)
      (m := [some (.int pick), m1, m2, m3, none]) (fun i : Nat => decide (digN (pick / 64) i % 2 = 1) || decide (pick / 512 % 5 = 1)) (fun i : Nat => D.int (i : Int)) (List.range z.toNat)
      (fun a ha => by
        have ha := List.mem_range.mp ha
        refine ⟨[some (.int pick), m1, m2, m3, some (.int (a : Int))], by simp, ?_, fun _ => by simp⟩
        by_cases c : digN (pick / 64) a % 2 = 1 <;> simp (disch := omega) [divD_s, modD_ok, r_digit, c])
    have e' : ∀ m1 m2 m3, lcGo (putR 4) (CT.tOr (tOf (e2 eqD (eA (callF s_law_digit) (aCons (e2 divD (eVar 0) (eC (.int 64))) (aCons (eC (.int 2)) (aCons (eVar 4) aNil)))) (eC (.int 1)))) (tOf (e2 eqD (e2 modD (e2 divD (eVar 0) (eC (.int 512))) (eC (.int 5))) (eC (.int 1))))) (eVar 4) [some (.int pick), m1, m2, m3, none] ((List.range z.toNat).map fun i : Nat => D.int (i : Int)) = .ok ((bits7 pick z.toNat).map D.int) := fun m1 m2 m3 => by rw [e]; simp [bits7]
    unfold s_law_part_7
    refine def_run rfl ?_
    by_cases c1 : 3 < pick % 8
    · have hidx : pick % 4 = 0 ∨ pick % 4 = 1 ∨ pick % 4 = 2 ∨ pick % 4 = 3 := by omega
      have hs : PartOk (.spring z) := ⟨z1, zb⟩
      obtain ⟨q, hq1, hq2, hq3⟩ : ∃ q : Part, ixD (.lst false [encP .click, encP .rocker, encP (.spring z), encP .rocker]) (.int (pick % 4)) = .ok (encP q) ∧ PartOk q ∧ (nplaces q ≤ most ∨ nplaces q ≤ 2) := by
        rcases hidx with e | e | e | e <;> rw [e]
        · exact ⟨.click, ixD_lst (i := 0) rfl, trivial, by simp [nplaces]⟩
        · exact ⟨.rocker, ixD_lst (i := 1) rfl, trivial, by simp [nplaces]⟩
        · exact ⟨.spring z, ixD_lst (i := 2) rfl, hs, by simp [nplaces, z2]⟩
        · exact ⟨.rocker, ixD_lst (i := 3) rfl, trivial, by simp [nplaces]⟩
      simp only [encP] at hq1
      simp (disch := omega) [divD_s, modD_ok, ← hz, c1, hq1]
      have := still_encP q
      simp only [encP] at this
      exact ⟨q, this, hq2, hq3⟩
    · simp (disch := omega) [divD_s, modD_ok, ← hz, c1, rng_map, e', small (show (bits7 pick z.toNat).length ≤ 16777216 by omega)]
      exact ⟨.wheel z (bits7 pick z.toNat), by simp [encP], ⟨z1, zb, by omega, fun m hm => by have := hb.1 m hm; omega, hb.2.1⟩, .inl z2⟩
  obtain ⟨d, e, q, rfl, h⟩ := wpR_ex main
  exact ⟨q, e, h⟩
theorem r_train_9 (c p many most room : Int) (h0 : 0 ≤ p) (h1 : p < 1000) (h2 : 1 ≤ most) (h3 : most ≤ 1000) (h4 : 1 ≤ room) (h5 : room ≤ 100000) (h6 : 0 ≤ many) (h7 : many ≤ 100) :
    ∃ l st, s_law_train_9 [.int c, .int p, .int many, .int most, .int room] = .ok (.tup [.lst false (l.map encP), encS st]) ∧ TrainOk l ∧ StandOk l st ∧ prodN l ≤ room ∧ (l.length : Int) = many := by
  have main : wpR (s_law_train_9 [.int c, .int p, .int many, .int most, .int room]) (fun d => ∃ l st, d = .tup [.lst false (l.map encP), encS st] ∧ TrainOk l ∧ StandOk l st ∧ prodN l ≤ room ∧ (l.length : Int) = many) := by
    unfold s_law_train_9
    refine def_run rfl ?_
    simp (disch := omega)
    obtain ⟨I, hI⟩ : ∃ I : Nat → Sl → Prop, I = fun i m => ∃ (l : List Part) (st : List Int) (r : Int) (x y : Option D), m = [some (.int c), some (.int p), some (.int many), some (.int most), some (.int r), some (.lst true (l.map encP)), some (encS st), x, y] ∧ l.length = i ∧ (∀ q ∈ l, PartOk q) ∧ StandOk l st ∧ 1 ≤ r ∧ r ≤ room ∧ prodN l * r ≤ room := ⟨_, rfl⟩
    refine wp_rng I ?_ (fun i hi m hm => ?_) (fun m hm => ?_)
    · rw [hI]; exact ⟨[], [], room, none, none, by simp [encS], rfl, by simp, trivial, h4, by omega, by simp [prodN]⟩
    · rw [hI] at hm
      obtain ⟨l, st, r, x, y, rfl, hl, hq, hs, hr1, hr2, hp⟩ := hm
      have hlo := mixN_lo c (p + 2 * i)
      have hlo2 := mixN_lo c (p + 2 * i + 1)
      obtain ⟨q0, e0, k0, k1⟩ := r_part_7 (mixN c (p + 2 * i)) most hlo h2 h3
      have hsl := hs.length
      have n0 := nplaces_pos k0
      have sl : st.length ≤ 10000 := by omega
      have fin : ∀ q : Part, PartOk q → nplaces q ≤ r → I (i + 1) [some (.int c), some (.int p), some (.int many), some (.int most), some (.int (r / nplaces q)), some (.lst true ((l ++ [q]).map encP)), some (encS (st ++ [mixN c (p + 2 * i + 1) % nplaces q])), some (.int i), some (encP q)] := fun q hqo hqn => by
        have n1 := nplaces_pos hqo
        rw [hI]
        refine ⟨l ++ [q], st ++ [mixN c (p + 2 * i + 1) % nplaces q], r / nplaces q, _, _, rfl, by simp [hl], ?_, hs.app (Int.emod_nonneg _ (by omega)) (Int.emod_lt_of_pos _ (by omega)), ?_, ?_, ?_⟩
        · intro a ha
          rcases List.mem_append.mp ha with h | h
          · exact hq a h
          · rw [List.mem_singleton.mp h]; exact hqo
        · exact (Int.le_ediv_iff_mul_le (by omega)).mpr (by omega)
        · have := Int.ediv_le_self (nplaces q) (show 0 ≤ r by omega); omega
        · rw [prodN_app, Int.mul_assoc]
          have a1 : nplaces q * (r / nplaces q) ≤ r := Int.mul_ediv_self_le (by omega)
          have a2 := prodN_pos hq
          have := Int.mul_le_mul_of_nonneg_left a1 (show 0 ≤ prodN l by omega)
          omega
      have hls : l.length < sizeLine := by rw [sizeBig]; omega
      by_cases c1 : r < nplaces q0
      · have f := fin .click trivial (by simp [nplaces]; omega)
        have pc := r_places_l2 .click
        simp only [encP, nplaces, List.map_append, List.map_cons, List.map_nil] at f pc
        simp (disch := omega) [r_mix, mulD_l, e0, r_places_l2, c1, pc, divD_s, modD_ok, add1 sl, hls]
        simpa using f
      · have f := fin q0 k0 (by omega)
        simp (disch := omega) [r_mix, mulD_l, e0, r_places_l2, c1, divD_s, modD_ok, add1 sl, hls]
        simpa using f
    · rw [hI] at hm
      obtain ⟨l, st, r, x, y, rfl, hl, hq, hs, hr1, hr2, hp⟩ := hm
      have hpp := prodN_pos hq
      have : prodN l * 1 ≤ prodN l * r := Int.mul_le_mul_of_nonneg_left hr1 (by omega)
      simp
      exact ⟨l, st, ⟨rfl, rfl⟩, ⟨hq, by omega⟩, hs, by omega, by omega⟩
  obtain ⟨d, e, l, st, rfl, h⟩ := wpR_ex main
  exact ⟨l, st, e, h⟩
/-! ### trains behind one another -/
theorem TrainOk.app {a b : List Part} (h : TrainOk a) (h' : TrainOk b) (hl : a.length + b.length ≤ 1000) : TrainOk (a ++ b) :=
  ⟨fun q hq => by rcases List.mem_append.mp hq with z | z; exact h.1 q z; exact h'.1 q z, by simpa using hl⟩
theorem Trn.app {a b : List Part} (h : Trn a) (h' : Trn b) (hl : a.length + b.length ≤ 1000) : Trn (a ++ b) :=
  trn_of (h.ok.app h'.ok hl) (by have := List.length_pos_iff.mpr h.ne; simp; omega)
theorem StandOk.join : ∀ {a b : List Part} {s t : List Int}, StandOk a s → StandOk b t → StandOk (a ++ b) (s ++ t)
  | [], _, [], _, _, h => h
  | _ :: _, _, _ :: _, _, h, h' => ⟨h.1, h.2.1, h.2.2.join h'⟩
theorem cat_trains {t u : Bool} {a b : List Part} (h : a.length + b.length ≤ 2000) : catL (.lst t (a.map encP)) (.lst u (b.map encP)) = .ok ((a ++ b).map encP) := by rw [catL_ok (by simp; omega)]; simp
theorem add_trains {t u : Bool} {a b : List Part} (h : a.length + b.length ≤ 2000) : addD (.lst t (a.map encP)) (.lst u (b.map encP)) = .ok (.lst false ((a ++ b).map encP)) := by rw [addD_lst (by simp; omega)]; simp
theorem add_stands {s t : List Int} (h : s.length + t.length ≤ 100000) : addD (encS s) (encS t) = .ok (encS (s ++ t)) := by unfold encS; rw [addD_tup (by simp; omega)]; simp
@[simp] theorem sRetO_eq' (a : SemA) (m : Sl) : sRetO a m = ofR m (a m) fun ds => if hasTL ds = true then .stuck else .rt (.lst true ds) := nr rfl
theorem r_joined {a b : List Part} (h : Trn a) (h' : Trn b) (hl : a.length + b.length ≤ 1000) : s_joined [.lst false (a.map encP), .lst false (b.map encP)] = .ok (.lst true ((a ++ b).map encP)) := by
  unfold s_joined
  refine def_ok1 rfl ?_
  simp [-List.map_append, r_check_trn h, r_check_trn h', cat_trains (show a.length + b.length ≤ 2000 by omega)]
theorem r_check_stdS {l : List Part} {st : List Int} (h : Trn l) (hs : StandOk l st) : s_check_stand [.lst false (l.map encP), encS st] = .ok .non := r_check_std h hs
theorem r_together {a b : List Part} {s t : List Int} (h : Trn a) (h' : Trn b) (hs : StandOk a s) (ht : StandOk b t) : s_together [.lst false (a.map encP), encS s, .lst false (b.map encP), encS t] = .ok (encS (s ++ t)) := by
  have := hs.length; have := ht.length; have := h.ok.2; have := h'.ok.2
  unfold s_together
  refine def_ok1 rfl ?_
  simp [r_check_stdS h hs, r_check_stdS h' ht, add_stands (show s.length + t.length ≤ 100000 by omega)]
theorem good_S {st : List Int} (h : st.length ≤ 1000000) : Good (encS st) := good_stand h
theorem r_parted {a b : List Part} {s t : List Int} (h : Trn a) (h' : Trn b) (hs : StandOk a s) (ht : StandOk b t) (hl : a.length + b.length ≤ 1000) : s_parted [.lst false (a.map encP), .lst false (b.map encP), encS (s ++ t)] = .ok (.tup [encS s, encS t]) := by
  have l1 := hs.length; have l2 := ht.length; have := h.ok.2; have := h'.ok.2
  have hj := hs.join ht
  have e1 := r_is_stand (l := a ++ b) (by simpa using hl) _ (.inl rfl) (encS (s ++ t)) (good_S (by simp; omega))
  rw [show isStandB (a ++ b) (encS (s ++ t)) = true from isStand_ok hj] at e1
  have c1 : cutA ((s ++ t).map D.int) none (some (a.length : Int)) = s.map D.int := by rw [cut_head, ← List.map_take, ← l1]; simp
  have c2 : cutA ((s ++ t).map D.int) (some (a.length : Int)) none = t.map D.int := by rw [cut_tail, ← List.map_drop, ← l1]; simp
  have c3 : cutD (encS (s ++ t)) none (some (a.length : Int)) = .ok (encS s) := by unfold encS; rw [cutD_tup, c1]
  have c4 : cutD (encS (s ++ t)) (some (a.length : Int)) none = .ok (encS t) := by unfold encS; rw [cutD_tup, c2]
  unfold s_parted
  refine def_ok1 rfl ?_
  simp [-List.map_append, r_check_trn h, r_check_trn h', add_trains (show a.length + b.length ≤ 2000 by omega), e1, c3, c4]
end CK

/-! PtQ: a push, the later laws' way; one-way trains; worn trains -/
namespace CK
open PySem PySem.Spec PyProof.Rows L2 CT

@[simp] theorem ixb_t (x y : D) : ixD (.lst false [x, y]) (.int (if True then 1 else 0)) = .ok y := by simp
theorem r_law_pushed_3 (l : List Part) (st : List Int) (i : Nat) (w : Int) (h : TrainOk l) (hs : StandOk l st) (hi : i ≤ l.length) (hw : w = 1 ∨ w = -1) :
    s_law_pushed_3 [.lst false (l.map encP), encS st, .int (i : Int), .int w] = .ok (encR (lawI l st i w)) := by
  unfold s_law_pushed_3
  refine def_ok1 rfl ?_
  have hl2 := h.2
  have hsl := hs.length
  simp [encS]
  obtain ⟨I, hI⟩ : ∃ I : Nat → Sl → Prop, I = fun n m => ∃ (k : Nat) (done : List Int) (n' : Int) (x y : Option D), m = [some (.lst false (l.map encP)), some (.tup (st.map .int)), some (.int (i : Int)), some (.int n'), some (.lst true ((st.take i ++ done ++ st.drop (i + k)).map .int)), some (.int ((i + k : Nat) : Int)), x, y] ∧ done.length = k ∧ i + k ≤ l.length ∧ n = l.length - (i + k) ∧ (n' = 0 ∨ n' = 1 ∨ n' = -1) ∧
      lawT (l.drop i) (st.drop i) w = (done ++ (lawT (l.drop (i + k)) (st.drop (i + k)) n').1, (lawT (l.drop (i + k)) (st.drop (i + k)) n').2) := ⟨_, rfl⟩
  have fin : ∀ (k : Nat) (done : List Int) (n' : Int) (x y : Option D), done.length = k → lawT (l.drop i) (st.drop i) w = (done ++ st.drop (i + k), n') →
      wp (sRet (eA mkTup (aCons (eA tupleD (aCons (eVar 4) aNil)) (aCons (eVar 3) aNil))) [some (.lst false (l.map encP)), some (.tup (st.map .int)), some (.int (i : Int)), some (.int n'), some (.lst true ((st.take i ++ done ++ st.drop (i + k)).map .int)), some (.int ((i + k : Nat) : Int)), x, y]) ⟨fun m => D.non = encR (lawI l st i w), fun _ => False, fun _ => False, fun x => x = encR (lawI l st i w), fun _ => False⟩ := fun k done n' x y hd he => by
    have e : lawI l st i w = (st.take i ++ done ++ st.drop (i + k), n') := by unfold lawI; rw [he, List.append_assoc]
    rw [e]
    generalize st.take i ++ done ++ st.drop (i + k) = L
    simp [encR]
  refine wp_while I (l.length - i) ?_ (fun n m hm => ?_)
  · rw [hI]; exact ⟨0, [], w, none, none, by simp, rfl, by omega, by simp, by omega, by simp⟩
  · rw [hI] at hm
    obtain ⟨k, done, n', x, y, rfl, hd, hk, hn, hn', hp⟩ := hm
    by_cases hz : n' = 0
    · subst hz
      refine ⟨false, by simp, ⟨fun c => Bool.noConfusion c, fun _ => ?_⟩⟩
      rw [lawT_zero] at hp
      exact fin k done 0 x y hd hp
    · by_cases hlt : i + k < l.length
      · refine ⟨true, by simp [hz]; omega, ⟨fun _ => ?_, fun c => Bool.noConfusion c⟩⟩
        have hks : i + k < st.length := by omega
        have d1 : st.drop (i + k) = st[i + k] :: st.drop (i + k + 1) := List.drop_eq_getElem_cons hks
        have d2 : l.drop (i + k) = l[i + k] :: l.drop (i + k + 1) := List.drop_eq_getElem_cons hlt
        have hso := hs.drop (i + k)
        rw [d1, d2] at hso
        have hq := h.1 _ (List.getElem_mem hlt)
        have len : (st.take i ++ done).length = i + k := by rw [List.length_append, List.length_take, hd]; omega
        have e1 : ixD (.lst false (l.map encP)) (.int ((i + k : Nat) : Int)) = .ok (encP l[i + k]) := ixD_lst (by simp [hlt])
        have e2 : ∀ z, ixD (.lst true ((st.take i ++ done).map .int ++ z :: (st.drop (i + k + 1)).map .int)) (.int ((i + k : Nat) : Int)) = .ok z := fun z => ixD_at (by rw [List.length_map, len])
        have e4 : ∀ (z d : D) (kk : List D → R Sl), setN ((st.take i ++ done).map .int ++ z :: (st.drop (i + k + 1)).map .int) ((i + k : Nat) : Int) d kk = kk ((st.take i ++ done).map .int ++ d :: (st.drop (i + k + 1)).map .int) := fun z d kk => setN_at (by rw [List.length_map, len])
        have eL : (st.take i ++ done ++ st.drop (i + k)).map D.int = (st.take i ++ done).map .int ++ D.int st[i + k] :: (st.drop (i + k + 1)).map .int := by rw [d1, List.map_append, List.map_cons]
        have hT : ∀ z : Int, hasTL ((st.take i ++ done).map D.int ++ D.int z :: (st.drop (i + k + 1)).map .int) = false := fun z => by rw [hasTL_append, hasTL_ints, hasTL_cons, hasTL_ints]; rfl
        have nxt : ∀ (p' n2 : Int) (x y : Option D), pushL l[i + k] st[i + k] n' = (p', n2) → (n2 = 0 ∨ n2 = 1 ∨ n2 = -1) → ∃ n1, n1 < n ∧ I n1 [some (.lst false (l.map encP)), some (.tup (st.map .int)), some (.int (i : Int)), some (.int n2), some (.lst true ((st.take i ++ done).map .int ++ D.int p' :: (st.drop (i + k + 1)).map .int)), some (.int ((i + k : Nat) + 1 : Int)), x, y] := fun p' n2 x y hpl hn2 => by
          refine ⟨l.length - (i + (k + 1)), by omega, ?_⟩
          rw [hI]
          refine ⟨k + 1, done ++ [p'], n2, x, y, ?_, by simp [hd], by omega, rfl, hn2, ?_⟩
          · rw [show i + (k + 1) = i + k + 1 by omega]
            simp
          · rw [hp, d1, d2, lawT, if_neg hz, hpl]
            simp [Nat.add_assoc]
        rw [eL]
        generalize hLa : (st.take i ++ done).map D.int = La at *
        generalize hLb : (st.drop (i + k + 1)).map D.int = Lb at *
        generalize ((i + k : Nat) : Int) = at' at *
        generalize l[i + k] = q at *
        generalize st[i + k] = p at *
        obtain ⟨hp0, hp1, _⟩ := hso
        have hww : n' = 1 ∨ n' = -1 := by omega
        cases q with
        | wheel z ms =>
          have h1 := hq.1
          have hx := still_encP (.wheel z ms)
          have hy := hasT_encP (.wheel z ms)
          simp only [encP] at e1 hx hy
          rcases hww with rfl | rfl
          · by_cases c : (p + 1) % z ∈ ms
            · simp [e1, e2, e4, subR_eq, modD_z h1, hT, hy, c, mulD_l]
              exact nxt _ 1 _ _ (by simp [pushL, c]) (by omega)
            · simp [e1, e2, e4, subR_eq, modD_z h1, hT, hy, c, mulD_l]
              exact nxt _ 0 _ _ (by simp [pushL, c]) (by omega)
          · have hm : ∀ j, mulD (.int (-1)) (.int j) = .ok (.int (-1 * j)) := fun j => mulD_l (by omega)
            by_cases c : p ∈ ms
            · simp [e1, e2, e4, subR_eq, modD_z h1, hT, hy, c, hm]
              exact nxt _ (-1) _ _ (by simp [pushL, c]) (by omega)
            · simp [e1, e2, e4, subR_eq, modD_z h1, hT, hy, c, hm]
              exact nxt _ 0 _ _ (by simp [pushL, c]) (by omega)
        | click =>
          simp only [nplaces] at hp1
          have : p = 0 := by omega
          subst this
          simp only [encP] at e1
          rcases hww with rfl | rfl
          · simp [e1, e2]
            exact nxt 0 1 _ _ (by simp [pushL]) (by omega)
          · simp [e1, e2]
            exact nxt 0 0 _ _ (by simp [pushL]) (by omega)
        | rocker =>
          simp only [encP] at e1
          rcases hww with rfl | rfl
          · by_cases c : p = 0
            · simp [e1, e2, e4, subR_eq, hT, c]
              exact nxt 1 1 _ _ (by simp [pushL, c]) (by omega)
            · simp [e1, e2, e4, subR_eq, hT, c]
              exact nxt 1 0 _ _ (by simp [pushL, c]) (by omega)
          · simp [e1, e2, e4, subR_eq, hT]
            exact nxt 0 0 _ _ (by simp [pushL]) (by omega)
        | spring kk =>
          have h1 := hq.1
          simp only [nplaces] at hp1
          simp only [encP] at e1
          rcases hww with rfl | rfl
          · by_cases c : p = kk - 1
            · simp [e1, e2, e4, subR_eq, hT, c, modD_z h1]
              exact nxt 0 1 _ _ (by simp [pushL, c]) (by omega)
            · have e8 : (p + 1) % kk = p + 1 := Int.emod_eq_of_lt (by omega) (by omega)
              simp [e1, e2, e4, subR_eq, hT, c, modD_z h1, e8]
              exact nxt (p + 1) 0 _ _ (by simp [pushL, c]; omega) (by omega)
          · simp [e1, e2, e4, subR_eq, hT]
            have e9 : (if 1 < p then p - 1 else 0) = (pushL (.spring kk) p (-1)).1 := by simp [pushL]; split <;> split <;> omega
            rw [e9]
            exact nxt _ 0 _ _ (by simp [pushL]) (by omega)
      · refine ⟨false, by simp [hz]; omega, ⟨fun c => Bool.noConfusion c, fun _ => ?_⟩⟩
        have ek : i + k = l.length := by omega
        have d1 : st.drop (i + k) = [] := List.drop_eq_nil_of_le (by omega)
        have d2 : l.drop (i + k) = [] := List.drop_eq_nil_of_le (by omega)
        refine fin k done n' x y hd ?_
        rw [hp, d1, d2]
        simp [lawT]
end CK

/-! PtR: one-way trains; worn trains; trains of wheels -/
namespace CK
open PySem PySem.Spec PyProof.Rows L2 CT

def bare : Part → Bool
  | .wheel _ ms => ms.isEmpty
  | _ => true
def oneW (l : List Part) : Bool := l.any bare
theorem mem_allF : ∀ {l : List Part} {told : List (List Int)} {s t : List Int}, (∀ q ∈ l, PartOk q) → s ∈ told → StandOk l t → s ++ t ∈ allF told l
  | [], told, s, [], _, hs, _ => by simpa [allF] using hs
  | q :: l, told, s, p :: t, h, hs, ht => by
    have hm : s ++ [p] ∈ moreS q told := by
      simp only [moreS, more1, List.mem_flatMap, List.mem_map, List.mem_range]
      have h0 := ht.1; have h1 := ht.2.1
      exact ⟨s, hs, p.toNat, by omega, by rw [show ((p.toNat : Nat) : Int) = p by omega]⟩
    have := mem_allF (l := l) (told := moreS q told) (s := s ++ [p]) (t := t) (fun a ha => h a (by simp [ha])) hm ht.2.2
    simpa [allF] using this
theorem allS_mem {l : List Part} {st : List Int} (h : ∀ q ∈ l, PartOk q) (hs : StandOk l st) : st ∈ allS l := by
  have := mem_allF (l := l) (told := [[]]) (s := []) (t := st) h (by simp) hs
  show st ∈ allF [[]] l
  simpa using this
theorem pushL_pos {q : Part} {p : Int} : 0 ≤ (pushL q p 1).2 := by
  cases q <;> simp only [pushL, if_true] <;> (try split) <;> simp
theorem lawT_pos : ∀ {l : List Part} {st : List Int} {w : Int}, 0 ≤ w → (w = 0 ∨ w = 1) → 0 ≤ (lawT l st w).2
  | [], st, w, h, _ => by simpa [lawT] using h
  | q :: l, [], w, h, _ => by simpa [lawT] using h
  | q :: l, p :: st, w, h, hw => by
    rw [lawT]
    split
    · simp
    · have : w = 1 := by omega
      subst this
      have h1 := pushL_pos (q := q) (p := p)
      have h2 := pushL_sgn (q := q) (p := p) (w := 1) (by omega)
      exact lawT_pos h1 (by omega)
theorem pushL_bare {q : Part} {p : Int} (h : bare q = true) : (pushL q p (-1)).2 = 0 := by
  cases q with
  | wheel z ms =>
    simp only [bare, List.isEmpty_iff] at h
    subst h; simp [pushL]
  | _ => simp [pushL]
theorem lawT_one : ∀ {l : List Part} {st : List Int} {w : Int}, st.length = l.length → oneW l = true → (w = 0 ∨ w = 1 ∨ w = -1) → (lawT l st w).2 ≠ -1
  | [], _, _, _, h, _ => by simp [oneW] at h
  | q :: l, [], _, hl, _, _ => by simp at hl
  | q :: l, p :: st, w, hl, h, hw => by
    rw [lawT]
    split
    · simp
    · rename_i hz
      by_cases c : w = 1
      · subst c
        have h1 := pushL_pos (q := q) (p := p)
        have h2 := pushL_sgn (q := q) (p := p) (w := 1) (by omega)
        have := lawT_pos (l := l) (st := st) h1 (by omega)
        simp only; omega
      · have c2 : w = -1 := by omega
        subst c2
        simp only
        cases hb : bare q with
        | true => rw [pushL_bare hb, lawT_zero]; simp
        | false =>
          simp only [oneW, List.any_cons, hb, Bool.false_or] at h
          exact lawT_one (by simpa using hl) h (by have := pushL_sgn (q := q) (p := p) (w := -1) (by omega); omega)
theorem lawT_back : ∀ {l : List Part}, (∀ q ∈ l, PartOk q) → oneW l = false → ∃ st, StandOk l st ∧ (lawT l st (-1)).2 = -1
  | [], _, _ => ⟨[], trivial, rfl⟩
  | q :: l, h, ho => by
    simp only [oneW, List.any_cons, Bool.or_eq_false_iff] at ho
    obtain ⟨st, h1, h2⟩ := lawT_back (l := l) (fun a ha => h a (by simp [ha])) ho.2
    cases q with
    | wheel z ms =>
      cases ms with
      | nil => simp [bare] at ho
      | cons m ms =>
        have hq := h (.wheel z (m :: ms)) (by simp)
        have := hq.2.2.2.1 m (by simp)
        refine ⟨m :: st, ⟨this.1, this.2, h1⟩, ?_⟩
        rw [lawT, if_neg (by omega)]
        have e : (pushL (.wheel z (m :: ms)) m (-1)).2 = -1 := by simp [pushL]
        rw [e]; exact h2
    | click => simp [bare] at ho
    | rocker => simp [bare] at ho
    | spring k => simp [bare] at ho
@[simp] theorem t_ww : neD (.str "wheel") (.str "wheel") = .ok (.bl false) := by rw [neD_str (by decide +kernel) (by decide +kernel)]; congr 2
@[simp] theorem t_cw : neD (.str "click") (.str "wheel") = .ok (.bl true) := by rw [neD_str (by decide +kernel) (by decide +kernel)]; congr 2
@[simp] theorem t_rw : neD (.str "rocker") (.str "wheel") = .ok (.bl true) := by rw [neD_str (by decide +kernel) (by decide +kernel)]; congr 2
@[simp] theorem t_sw : neD (.str "spring") (.str "wheel") = .ok (.bl true) := by rw [neD_str (by decide +kernel) (by decide +kernel)]; congr 2
theorem eq_nil_ints {ms : List Int} (h : ms.length ≤ 1000000) : eqD (.tup (ms.map .int)) (.tup []) = .ok (.bl ms.isEmpty) := by
  rw [eq_nil (good_stand h)]; cases ms <;> rfl
theorem r_one_way {l : List Part} (h : Trn l) : s_one_way [.lst false (l.map encP)] = .ok (.bl (oneW l)) := by
  have e := lcGo_map1 encP (g := putR 1) (f := eOr (e2 neD (e2 ixD (eVar 1) (eC (.int 0))) (eC (.str "wheel"))) (e2 eqD (e2 ixD (eVar 1) (eC (.int 2))) (eA mkTup aNil))) (m := [some (.lst false (l.map encP)), none]) (fun q => D.bl (bare q)) l (fun q hq => by
    refine ⟨[some (.lst false (l.map encP)), some (encP q)], by simp, ?_, rfl⟩
    have hqo := h.ok.1 q hq
    cases q with
    | wheel z ms => simp [encP, bare, eq_nil_ints hqo.2.2.1]
    | _ => simp [encP, bare])
  unfold s_one_way
  refine def_ok1 rfl ?_
  have := h.ok.2
  simp [r_check_trn h]
  rw [e]
  simp [-List.any_eq_true, -List.any_eq_false, small (show l.length ≤ 16777216 by omega), oneW]
theorem r_law_stands {l : List Part} (h : Trn l) (hp : prodN l ≤ 100000) : s_law_stands [.lst false (l.map encP)] = .ok (.lst false ((allS l).map encS)) := by
  unfold s_law_stands
  refine def_ok1 rfl ?_
  simp
  obtain ⟨I, hI⟩ : ∃ I : Nat → Sl → Prop, I = fun k m => ∃ (a2 a3 a4 a5 : Option D), m = [some (.lst false (l.map encP)), some (.lst false ((allF [[]] (l.take k)).map encS)), a2, a3, a4, a5] := ⟨_, rfl⟩
  refine wp_map I ?_ (fun k q hk m hm => ?_) (fun m hm => ?_)
  · rw [hI]; simp [allF, encS]
  · rw [hI] at hm
    obtain ⟨a2, a3, a4, a5, rfl⟩ := hm
    have hq := h.ok.1 q (List.mem_of_getElem? hk)
    have hn := nplaces_pos hq
    have htk : l.take (k + 1) = l.take k ++ [q] := by rw [List.take_add_one, hk]; rfl
    have hT : ∀ st ∈ allF [[]] (l.take k), st.length ≤ 10000 := fun st hst => by
      have := (allF_ok (a := []) (by simp [StandOk]) st hst).length
      have := h.ok.2
      simp at *; omega
    have hlen := allF_len (l := l.take k) (told := [[]]) fun q hq => h.ok.1 q (List.mem_of_mem_take hq)
    have hpt := prodN_take h.ok.1 (k + 1)
    rw [htk, prodN_app] at hpt
    have e9 : allF [[]] (l.take (k + 1)) = moreS q (allF [[]] (l.take k)) := by rw [htk, allF_app]; rfl
    generalize allF [[]] (l.take k) = T at hT hlen e9
    simp only [List.length_singleton, Int.natCast_one, Int.one_mul] at hlen
    rw [← hlen] at hpt
    simp
    obtain ⟨J, hJ⟩ : ∃ J : Nat → Sl → Prop, J = fun j m => ∃ (a4 a5 : Option D), m = [some (.lst false (l.map encP)), some (.lst false (T.map encS)), some (encP q), some (.lst true ((moreS q (T.take j)).map encS)), a4, a5] := ⟨_, rfl⟩
    refine wp_map J ?_ (fun j st hj m hm => ?_) (fun m hm => ?_)
    · rw [hJ]; simp [moreS]
    · rw [hJ] at hm
      obtain ⟨a4, a5, rfl⟩ := hm
      have hst := hT st (List.mem_of_getElem? hj)
      have e := lcGo_map1 (fun i : Nat => D.int (i : Int)) (g := putR 5) (f := e2 addD (eVar 4) (eA mkTup (aCons (eVar 5) aNil)))
        (m := [some (.lst false (l.map encP)), some (.lst false (T.map encS)), some (encP q), some (.lst true ((moreS q (T.take j)).map encS)), some (encS st), none]) (fun i : Nat => encS (st ++ [(i : Int)])) (List.range (nplaces q).toNat) (fun i hi => by
          exact ⟨[some (.lst false (l.map encP)), some (.lst false (T.map encS)), some (encP q), some (.lst true ((moreS q (T.take j)).map encS)), some (encS st), some (.int i)], by simp, by simp [add1 hst], by simp⟩)
      have hl1 : nplaces q ≤ 100000 := by
        have h1 : 1 * nplaces q ≤ (T.length : Int) * nplaces q := Int.mul_le_mul_of_nonneg_right (by have := List.getElem?_eq_some_iff.mp hj; have := this.1; omega) (by omega)
        omega
      have hl2 := moreS_len hq (T.take j)
      have hl3 : ((T.take j).length : Int) * nplaces q ≤ (T.length : Int) * nplaces q := Int.mul_le_mul_of_nonneg_right (by simp; omega) (by omega)
      have e2 : (List.range (nplaces q).toNat).map (fun i : Nat => encS (st ++ [(i : Int)])) = (more1 q st).map encS := by unfold more1; rw [List.map_map]; rfl
      rw [e2] at e
      have hl4 : (more1 q st).length = (nplaces q).toNat := by simp [more1]
      simp (disch := omega) [r_places_l2, rng_map]
      rw [e]
      simp [seqL, small (show (more1 q st).length ≤ 16777216 by omega), small (show (moreS q (T.take j)).length + (more1 q st).length ≤ 16777216 by omega)]
      rw [hJ]
      exact ⟨_, _, by rw [List.take_add_one, hj]; simp [moreS]; exact ⟨rfl, rfl⟩⟩
    · rw [hJ] at hm
      obtain ⟨a4, a5, rfl⟩ := hm
      rw [List.take_length]
      simp [sFreeze]
      rw [hI]
      rw [← e9]
      exact ⟨_, _, _, _, rfl⟩
  · rw [hI] at hm
    obtain ⟨a2, a3, a4, a5, rfl⟩ := hm
    rw [List.take_length]
    simp [allS]
theorem r_due_12 {l : List Part} (h : Trn l) (hp : prodN l ≤ 100000) : s_law_due_12 [.lst false (l.map encP)] = .ok (.bl (oneW l)) := by
  unfold s_law_due_12
  refine def_ok1 rfl ?_
  simp [r_law_stands h hp]
  obtain ⟨I, hI⟩ : ∃ I : Nat → Sl → Prop, I = fun k m => ∃ (a1 a2 : Option D), m = [some (.lst false (l.map encP)), a1, a2] ∧ (oneW l = false → ∃ st ∈ (allS l).drop k, (lawI l st 0 (-1)).2 = -1) := ⟨_, rfl⟩
  refine wp_map I ?_ (fun k st hk m hm => ?_) (fun m hm => ?_)
  · rw [hI]
    refine ⟨_, _, rfl, fun ho => ?_⟩
    obtain ⟨st, h1, h2⟩ := lawT_back h.ok.1 ho
    exact ⟨st, by simpa using allS_mem h.ok.1 h1, by simpa [lawI] using h2⟩
  · rw [hI] at hm
    obtain ⟨a1, a2, rfl, hw⟩ := hm
    have hs := allS_ok (List.mem_of_getElem? hk)
    have p1 := r_law_pushed_3 l st 0 1 h.ok hs (by omega) (by omega)
    have p2 := r_law_pushed_3 l st 0 (-1) h.ok hs (by omega) (by omega)
    have n1 : (lawI l st 0 1).2 ≠ -1 := by
      have := lawT_pos (l := l) (st := st) (w := 1) (by omega) (by omega)
      simp [lawI]; omega
    have hd : (allS l).drop k = st :: (allS l).drop (k + 1) := by
      obtain ⟨h1, h2⟩ := List.getElem?_eq_some_iff.mp hk
      rw [← h2]; exact List.drop_eq_getElem_cons h1
    simp only [Int.ofNat_zero, Int.natCast_zero, Int.cast_ofNat_Int] at p1 p2
    by_cases c : (lawI l st 0 (-1)).2 = -1
    · have ho : oneW l = false := by
        cases ho : oneW l with
        | false => rfl
        | true => exact absurd (by simpa [lawI] using c) (lawT_one (w := -1) hs.length ho (by omega))
      simp [p1, p2, encR, n1, c, ho]
    · simp [p1, p2, encR, n1, c]
      rw [hI]
      refine ⟨_, _, rfl, fun ho => ?_⟩
      obtain ⟨t, t1, t2⟩ := hw ho
      rw [hd] at t1
      rcases List.mem_cons.mp t1 with e | e
      · rw [e] at t2; exact absurd t2 c
      · exact ⟨t, e, t2⟩
  · rw [hI] at hm
    obtain ⟨a1, a2, rfl, hw⟩ := hm
    have ho : oneW l = true := by
      cases ho : oneW l with
      | true => rfl
      | false => obtain ⟨t, t1, _⟩ := hw ho; simp at t1
    simp [ho]

def wornP (q : Part) (m : Int) : Part := match q with
  | .wheel z ms => .wheel z (ms.filter fun x => !decide (x = m))
  | q => q
theorem wornP_ok {q : Part} (h : PartOk q) (m : Int) : PartOk (wornP q m) := by
  cases q with
  | wheel z ms =>
    obtain ⟨h1, h2, h3, h4, h5⟩ := h
    exact ⟨h1, h2, Nat.le_trans (List.length_filter_le _ _) h3, fun x hx => h4 x (List.mem_filter.mp hx).1, h5.filter _⟩
  | click => trivial
  | rocker => trivial
  | spring k => exact h
theorem r_worn {l : List Part} {i : Nat} {z m : Int} {ms : List Int} (h : Trn l) (hi : l[i]? = some (.wheel z ms)) :
    s_worn [.lst false (l.map encP), .tup [.int (i : Int), .int m]] = .ok (.lst true ((l.take i ++ wornP (.wheel z ms) m :: l.drop (i + 1)).map encP)) := by
  have hlt := (List.getElem?_eq_some_iff.mp hi).1
  have hl := h.ok.2
  have hq := h.ok.1 _ (List.mem_of_getElem? hi)
  have e0 : ixD (.lst false (l.map encP)) (.int (i : Int)) = .ok (encP (.wheel z ms)) := ixD_lst (by simp [hi])
  have c1 : cutA (l.map encP) none (some (i : Int)) = (l.take i).map encP := by rw [cut_head, List.map_take]
  have c2 : cutA (l.map encP) (some ((i : Int) + 1)) none = (l.drop (i + 1)).map encP := by rw [show (i : Int) + 1 = ((i + 1 : Nat) : Int) by omega, cut_tail, List.map_drop]
  obtain ⟨M, hM⟩ : ∃ M, M = ms.filter fun x => !decide (x = m) := ⟨_, rfl⟩
  have hMl : M.length ≤ 1000000 := by rw [hM]; exact Nat.le_trans (List.length_filter_le _ _) hq.2.2.1
  have e := lcGo_map D.int (g := putR 6) (t := tOf (e2 neD (eVar 6) (eVar 3))) (f := eVar 6)
    (m := [some (.lst false (l.map encP)), some (.tup [.int (i : Int), .int m]), some (.int i), some (.int m), some (encP (.wheel z ms)), none, none]) (fun x => !decide (x = m)) D.int ms (fun a ha =>
      ⟨[some (.lst false (l.map encP)), some (.tup [.int (i : Int), .int m]), some (.int i), some (.int m), some (encP (.wheel z ms)), none, some (.int a)], by simp, by simp, fun _ => by simp⟩)
  rw [← hM] at e
  have a1 : addD (.lst false ((l.take i).map encP)) (.lst false [encP (.wheel z M)]) = .ok (.lst false ((l.take i ++ [Part.wheel z M]).map encP)) := by rw [addD_lst (by simp; omega)]; simp
  have a2 : catL (.lst false ((l.take i ++ [Part.wheel z M]).map encP)) (.lst false ((l.drop (i + 1)).map encP)) = .ok ((l.take i ++ wornP (.wheel z ms) m :: l.drop (i + 1)).map encP) := by
    rw [catL_ok (by simp; omega)]; simp [wornP, hM]
  unfold s_worn
  refine def_ok1 rfl ?_
  simp only [encP] at e0 e a1
  simp [-List.map_append, -List.map_take, -List.map_drop, r_check_trn h, isNon, e0]
  rw [e]
  simp [-List.map_append, -List.map_take, -List.map_drop, small (show M.length ≤ 16777216 by omega), c1, c2, a1, a2]
theorem r_worn0 {l : List Part} (h : Trn l) : s_worn [.lst false (l.map encP), .non] = .ok (.lst true (l.map encP)) := by
  unfold s_worn
  refine def_ok1 rfl ?_
  simp [r_check_trn h, isNon]
/-- a draw that is a wheel -/
theorem r_part_7w (pick most : Int) (h0 : 0 ≤ pick) (h1 : 1 ≤ most) (h2 : most ≤ 1000) (h3 : pick % 8 ≤ 3) : ∃ z ms, s_law_part_7 [.int pick, .int most] = .ok (encP (.wheel z ms)) ∧ PartOk (.wheel z ms) ∧ z ≤ most := by
  have main : wpR (s_law_part_7 [.int pick, .int most]) (fun d => ∃ z ms, d = encP (.wheel z ms) ∧ PartOk (.wheel z ms) ∧ z ≤ most) := by
    obtain ⟨z, hz⟩ : ∃ z, z = 1 + pick / 8 % most := ⟨_, rfl⟩
    have a1 := Int.emod_nonneg (pick / 8) (show most ≠ 0 by omega)
    have a2 := Int.emod_lt_of_pos (pick / 8) (show 0 < most by omega)
    have z1 : 1 ≤ z := by omega
    have z2 : z ≤ most := by omega
    have zb : z < 2 ^ 2000 := Int.lt_of_le_of_lt (b := 2 ^ 100) (by omega) (by decide +kernel)
    have hb := range_filt_ok _ z.toNat _ (show bits7 pick z.toNat = _ from rfl)
    have e := fun (m1 m2 m3 : Option D) => lcGo_map (fun i : Nat => D.int (i : Int)) (g := putR 4) (t := CT.tOr (tOf (e2 eqD (eA (callF s_law_digit) (aCons (e2 divD (eVar 0) (eC (.int 64))) (aCons (eC (.int 2)) (aCons (eVar 4) aNil)))) (eC (.int 1)))) (tOf (e2 eqD (e2 modD (e2 divD (eVar 0) (eC (.int 512))) (eC (.int 5))) (eC (.int 1))))) (f := eVar 4)
      (m := [some (.int pick), m1, m2, m3, none]) (fun i : Nat => decide (digN (pick / 64) i % 2 = 1) || decide (pick / 512 % 5 = 1)) (fun i : Nat => D.int (i : Int)) (List.range z.toNat)
      (fun a ha => by
        have ha := List.mem_range.mp ha
        refine ⟨[some (.int pick), m1, m2, m3, some (.int (a : Int))], by simp, ?_, fun _ => by simp⟩
        by_cases c : digN (pick / 64) a % 2 = 1 <;> simp (disch := omega) [divD_s, modD_ok, r_digit, c])
    have e' : ∀ m1 m2 m3, lcGo (putR 4) (CT.tOr (tOf (e2 eqD (eA (callF s_law_digit) (aCons (e2 divD (eVar 0) (eC (.int 64))) (aCons (eC (.int 2)) (aCons (eVar 4) aNil)))) (eC (.int 1)))) (tOf (e2 eqD (e2 modD (e2 divD (eVar 0) (eC (.int 512))) (eC (.int 5))) (eC (.int 1))))) (eVar 4) [some (.int pick), m1, m2, m3, none] ((List.range z.toNat).map fun i : Nat => D.int (i : Int)) = .ok ((bits7 pick z.toNat).map D.int) := fun m1 m2 m3 => by rw [e]; simp [bits7]
    unfold s_law_part_7
    refine def_run rfl ?_
    have c1 : ¬ 3 < pick % 8 := by omega
    simp (disch := omega) [divD_s, modD_ok, ← hz, c1, rng_map, e', small (show (bits7 pick z.toNat).length ≤ 16777216 by omega)]
    exact ⟨z, bits7 pick z.toNat, by simp [encP], ⟨z1, zb, by omega, fun m hm => by have := hb.1 m hm; omega, hb.2.1⟩, z2⟩
  obtain ⟨d, e, z, ms, rfl, h⟩ := wpR_ex main
  exact ⟨z, ms, e, h⟩
def isWheel : Part → Prop
  | .wheel _ _ => True
  | _ => False
theorem r_wheels_2 (c p room : Int) (h0 : 0 ≤ p) (h1 : p < 1000) (h4 : 1 ≤ room) (h5 : room ≤ 100000) :
    ∃ l st, s_law_wheels_2 [.int c, .int p, .int room] = .ok (.tup [.lst false (l.map encP), encS st]) ∧ TrainOk l ∧ StandOk l st ∧ prodN l ≤ room ∧ 1 ≤ l.length ∧ l.length ≤ 4 ∧ ∀ q ∈ l, isWheel q := by
  have main : wpR (s_law_wheels_2 [.int c, .int p, .int room]) (fun d => ∃ l st, d = .tup [.lst false (l.map encP), encS st] ∧ TrainOk l ∧ StandOk l st ∧ prodN l ≤ room ∧ 1 ≤ l.length ∧ l.length ≤ 4 ∧ ∀ q ∈ l, isWheel q) := by
    unfold s_law_wheels_2
    refine def_run rfl ?_
    have hm := mixN_lo c p
    have hm5 : 0 ≤ mixN c p % 4 ∧ mixN c p % 4 < 4 := by omega
    simp (disch := omega) [r_mix, modD_ok]
    obtain ⟨I, hI⟩ : ∃ I : Nat → Sl → Prop, I = fun i m => ∃ (l : List Part) (st : List Int) (r : Int) (x y z : Option D), m = [some (.int c), some (.int p), some (.int r), some (.lst true (l.map encP)), some (encS st), x, y, z] ∧ l.length = i ∧ (∀ q ∈ l, PartOk q) ∧ StandOk l st ∧ 1 ≤ r ∧ r ≤ room ∧ prodN l * r ≤ room ∧ ∀ q ∈ l, isWheel q := ⟨_, rfl⟩
    refine wp_rng I ?_ (fun i hi m hm => ?_) (fun m hm => ?_)
    · rw [hI]; exact ⟨[], [], room, none, none, none, by simp [encS], rfl, by simp, trivial, h4, by omega, by simp [prodN], by simp⟩
    · rw [hI] at hm
      obtain ⟨l, st, r, x, y, z, rfl, hl, hq, hs, hr1, hr2, hp, hw⟩ := hm
      have hlo := mixN_lo c (p + 1 + 2 * i)
      have hlo2 := mixN_lo c (p + 2 + 2 * i)
      generalize hN : mixN c (p + 1 + 2 * i) = N at hlo
      obtain ⟨z0, ms0, e0, k0, k1⟩ := r_part_7w (N / 8 * 8 + N % 4) 6 (by omega) (by omega) (by omega) (by omega)
      have hsl := hs.length
      have sl : st.length ≤ 10000 := by omega
      have hls : l.length < sizeLine := by rw [sizeBig]; omega
      have fin : ∀ z ms, PartOk (.wheel z ms) → z ≤ r → I (i + 1) [some (.int c), some (.int p), some (.int (r / z)), some (.lst true ((l ++ [Part.wheel z ms]).map encP)), some (encS (st ++ [mixN c (p + 2 + 2 * i) % z])), some (.int i), some (.int N), some (encP (.wheel z ms))] := fun z ms hqo hqn => by
        have n1 := hqo.1
        rw [hI]
        refine ⟨l ++ [Part.wheel z ms], st ++ [mixN c (p + 2 + 2 * i) % z], r / z, _, _, _, rfl, by simp [hl], ?_, hs.app (Int.emod_nonneg _ (by omega)) (Int.emod_lt_of_pos _ (by omega)), ?_, ?_, ?_, ?_⟩
        · intro a ha
          rcases List.mem_append.mp ha with h | h
          · exact hq a h
          · rw [List.mem_singleton.mp h]; exact hqo
        · exact (Int.le_ediv_iff_mul_le (by omega)).mpr (by omega)
        · have := Int.ediv_le_self z (show 0 ≤ r by omega); omega
        · rw [prodN_app, Int.mul_assoc]
          have a1 : z * (r / z) ≤ r := Int.mul_ediv_self_le (by omega)
          have a2 := prodN_pos hq
          have := Int.mul_le_mul_of_nonneg_left a1 (show 0 ≤ prodN l by omega)
          exact Int.le_trans this hp
        · intro a ha
          rcases List.mem_append.mp ha with h | h
          · exact hw a h
          · rw [List.mem_singleton.mp h]; trivial
      have zp := k0.1
      by_cases c1 : r < z0
      · have f := fin 1 [] ⟨by omega, by decide +kernel, by simp, by simp, by simp⟩ (by omega)
        have cu : cutA (ms0.map D.int) none (some 0) = [] := by rw [show (0 : Int) = ((0 : Nat) : Int) from rfl, cut_head]; rfl
        simp only [encP, List.map_append, List.map_cons, List.map_nil] at f e0
        simp (disch := omega) [r_mix, hN, mulD_l, mulD_r, e0, c1, cu, divD_s, modD_ok, add1 sl, hls]
        simpa using f
      · have f := fin z0 ms0 k0 (by omega)
        have hT := hasT_encP (.wheel z0 ms0)
        simp only [encP, List.map_append, List.map_cons, List.map_nil] at f e0 hT
        simp (disch := omega) [r_mix, hN, mulD_l, mulD_r, e0, c1, divD_s, modD_ok, add1 sl, hls, hT]
        simpa using f
    · rw [hI] at hm
      obtain ⟨l, st, r, x, y, z, rfl, hl, hq, hs, hr1, hr2, hp, hw⟩ := hm
      have hpp := prodN_pos hq
      have : prodN l * 1 ≤ prodN l * r := Int.mul_le_mul_of_nonneg_left hr1 (by omega)
      simp
      exact ⟨l, st, ⟨rfl, rfl⟩, ⟨hq, by omega⟩, hs, by omega, by omega, by omega, hw⟩
  obtain ⟨d, e, l, st, rfl, h⟩ := wpR_ex main
  exact ⟨l, st, e, h⟩
end CK

namespace CK
open PySem PySem.Spec PyProof.Rows L2 CT
@[simp] theorem stillL_append (xs ys : List D) : stillL (xs ++ ys) = stillL xs ++ stillL ys := by
  induction xs with
  | nil => rfl
  | cons x xs ih => simp only [List.cons_append, stillL_cons, ih]
theorem oneW_app (a b : List Part) : oneW (a ++ b) = (oneW a || oneW b) := by simp [oneW]
theorem sh_bls (t : Bool) (l : List Bool) : Sh 64 (.lst t (l.map .bl)) := (sh_lst (n := 1) (shl_map (fun a => sh_bl _ a) l)).mono (by omega)
theorem r_great_right {l : List Part} (h : Trn l) (hp : prodN l ≤ 100000) (hl : l.length ≤ 100) (c : Int) : s_law_great_right [.lst false (l.map encP), .int c] = .ok (.bl true) := by
  have p30 : powD (.int 10) (.int 30) = .ok (.int 1000000000000000000000000000000) := by rw [powD_lit (by decide +kernel)]; rfl
  have m1 := mixN_lo c 41
  have m2 := mixN_hi c 41
  have m3 := mixN_lo c 42
  have m4 := mixN_hi c 42
  obtain ⟨z, hz⟩ : ∃ z, z = 1000000000000000000000000000000 + mixN c 41 * 1000000000000000000000000000000 + mixN c 42 := ⟨_, rfl⟩
  have z1 : 10 ≤ z := by omega
  have zb : z < 2 ^ 2000 := Int.lt_of_le_of_lt (b := 2 ^ 200) (by omega) (by decide +kernel)
  have k1 : PartOk (.wheel z [5, 6]) := ⟨by omega, zb, by simp, by simp; omega, by simp⟩
  have k2 : PartOk (.wheel z [5]) := ⟨by omega, zb, by simp, by simp; omega, by simp⟩
  have t1 : Trn [.wheel z [5, 6]] := trn_of ⟨by simpa using k1, by simp⟩ (by simp)
  have t2 : Trn [.wheel z [5]] := trn_of ⟨by simpa using k2, by simp⟩ (by simp)
  have w1 := r_worn (i := 0) (z := z) (ms := [5, 6]) (m := 5) t1 rfl
  have w2 := r_worn (i := 0) (z := z) (ms := [5]) (m := 5) t2 rfl
  simp [wornP] at w1 w2
  have t3 : Trn [.wheel z [6]] := trn_of ⟨by simpa [wornP] using wornP_ok k1 5, by simp⟩ (by simp)
  have t4 : Trn [.wheel z []] := trn_of ⟨by simpa [wornP] using wornP_ok k2 5, by simp⟩ (by simp)
  have o1 := r_one_way t3
  have o4 := r_one_way t4
  have j2 := r_joined t3 h (by simp; omega)
  have j3 := r_joined h t3 (by simp; omega)
  have o2 := r_one_way (t3.app h (by simp; omega))
  have o3 := r_one_way (h.app t3 (by simp; omega))
  rw [oneW_app] at o2 o3
  have b1 : oneW [.wheel z [6]] = false := rfl
  have b4 : oneW [.wheel z []] = true := rfl
  rw [b1] at o1 o2 o3
  rw [b4] at o4
  rw [Bool.false_or] at o2
  rw [Bool.or_false] at o3
  have d := r_due_12 h hp
  have e := eqD_self (sh_bls false [false, oneW l, oneW l, true])
  simp only [List.map_cons, List.map_nil] at e
  simp only [List.map_append, List.map_cons, List.map_nil, encP, List.cons_append, List.nil_append] at o1 o2 o3 o4 j2 j3 w1 w2
  unfold s_law_great_right
  refine def_ok1 rfl ?_
  simp (disch := omega) [r_mix, p30, mulD_l, ← hz, w1, w2, o1, o2, o3, o4, j2, j3, d, stillL_encP, hasTL_append, e]

end CK

namespace CK
open PySem PySem.Spec PyProof.Rows L2 CT
theorem sh_2t (a b : List Part) : Sh 64 (.lst false [.lst false (a.map encP), .lst false (b.map encP)]) := by
  refine Sh.mono (n := 5) (sh_lst ?_) (by omega)
  intro x hx
  simp only [List.mem_cons, List.not_mem_nil, or_false] at hx
  rcases hx with rfl | rfl <;> exact sh_lst (shl_map sh_encP _)
theorem sh_2s (s t : List Int) : Sh 64 (.tup [encS s, encS t]) := by
  refine Sh.mono (n := 2) (sh_tup ?_) (by omega)
  intro x hx
  simp only [List.mem_cons, List.not_mem_nil, or_false] at hx
  rcases hx with rfl | rfl <;> exact sh_ints _ 0
theorem r_both_3 {a b : List Part} {s t : List Int} (h : Trn a) (h' : Trn b) (hs : StandOk a s) (ht : StandOk b t) (hl : a.length + b.length ≤ 100) :
    s_law_both_3 [.lst false (a.map encP), encS s, .lst false (b.map encP), encS t] = .ok (.bl true) := by
  have l1 := hs.length; have l2 := ht.length
  obtain ⟨X, hX⟩ : ∃ X : D, X = .lst false [.lst false (a.map encP), .lst false (b.map encP)] := ⟨_, rfl⟩
  have x0 : ixD X (.int 0) = .ok (.lst false (a.map encP)) := by rw [hX]; simp
  have x1 : ixD X (.int 1) = .ok (.lst false (b.map encP)) := by rw [hX]; simp
  have xe : neD X X = .ok (.bl false) := by rw [hX]; exact neD_self (sh_2t a b)
  have xq : eqD X X = .ok (.bl true) := by rw [hX]; exact eqD_self (sh_2t a b)
  have xt : hasT X = false := by rw [hX]; simp
  have j := r_joined h h' (by omega)
  have tg := r_together h h' hs ht
  have pt := r_parted h h' hs ht (by omega)
  have ne1 : neD (.lst true ((a ++ b).map encP)) (.lst false ((a ++ b).map encP)) = .ok (.bl false) := ne_train _ _ _
  have at' := add_trains (t := false) (u := false) (a := a) (b := b) (by omega)
  have as' := add_stands (s := s) (t := t) (by omega)
  have ne2 := neD_self (sh_encS (s ++ t))
  have ne3 := neD_self (sh_2s s t)
  have pos : 0 < (a ++ b).length := by have := List.length_pos_iff.mpr h.ne; simp; omega
  unfold s_law_both_3
  refine def_ok1 rfl ?_
  simp [← hX, xt]
  obtain ⟨J, hJ⟩ : ∃ J : Sl → Prop, J = fun m => ∃ (a5 a6 a7 a8 a9 : Option D), m = [some (.lst false (a.map encP)), some (encS s), some (.lst false (b.map encP)), some (encS t), some X, a5, a6, a7, a8, a9] := ⟨_, rfl⟩
  refine wp_rngE J ?_ (fun i hi m hm => ?_) (fun m hm => ?_)
  · rw [hJ]; simp
  · rw [hJ] at hm; obtain ⟨a5, a6, a7, a8, a9, rfl⟩ := hm
    have hsz : (a ++ b).length < sizeLine := by rw [sizeBig]; simp; omega
    generalize (a ++ b) = ab at *
    simp [x0, x1, callO, j, ne1, at', ← hX, xe, hsz, subR_eq]
    rw [show (0 : Int) = ((0 : Nat) : Int) from rfl, setN_nat (by simp)]
    simp
    rw [hJ]; simp
  · rw [hJ] at hm; obtain ⟨a5, a6, a7, a8, a9, rfl⟩ := hm
    have i1 : isiD "tuple" (encS (s ++ t)) = .ok (.bl true) := by simp [encS]
    have i2 : isiD "tuple" (encS s) = .ok (.bl true) := by simp [encS]
    have i3 : isiD "tuple" (encS t) = .ok (.bl true) := by simp [encS]
    have inf : inD (.bl false) (.lst false [.bl true, .bl true]) = .ok (.bl false) := by
      simp only [inD]
      rw [if_pos (by decide +kernel)]
      rfl
    simp [x0, x1, tg, i1, as', ne2, pt, ne3, itemsN, items, lcGo, nox, i2, i3, small (show 2 ≤ 16777216 by omega), inf, ← hX, xq]
end CK

/-! PtS: signs fed; joined trains -/
namespace CK
open PySem PySem.Spec PyProof.Rows L2 CT

def fedN (l : List Part) : List Int → List Int → List Int × List Int
  | st, [] => (st, [])
  | st, s :: ss => ((fedN l (lawT l st s).1 ss).1, (lawT l st s).2 :: (fedN l (lawT l st s).1 ss).2)
def Signs (ss : List Int) : Prop := (∀ s ∈ ss, s = 0 ∨ s = 1 ∨ s = -1) ∧ ss.length ≤ 100000
def encF (x : List Int × List Int) : D := .tup [encS x.1, .lst false (x.2.map .int)]
theorem lawT_sgn : ∀ {l : List Part} {st : List Int} {w : Int}, (w = 0 ∨ w = 1 ∨ w = -1) → ((lawT l st w).2 = 0 ∨ (lawT l st w).2 = 1 ∨ (lawT l st w).2 = -1)
  | [], _, w, h => by simpa [lawT] using h
  | q :: l, [], w, h => by simpa [lawT] using h
  | q :: l, p :: st, w, h => by
    rw [lawT]
    split
    · simp
    · exact lawT_sgn (pushL_sgn (by omega))
theorem lawT_ok {l : List Part} {st : List Int} {w : Int} (h : ∀ q ∈ l, PartOk q) (hs : StandOk l st) (hw : w = 0 ∨ w = 1 ∨ w = -1) : StandOk l (lawT l st w).1 := by
  rcases hw with rfl | hw
  · rw [lawT_zero]; exact hs
  · rw [lawT_eq h hs hw]; exact (pushT_ok h hs hw (by omega)).1
theorem lawT_app : ∀ {a b : List Part} {s t : List Int} {w : Int}, s.length = a.length → lawT (a ++ b) (s ++ t) w = ((lawT a s w).1 ++ (lawT b t (lawT a s w).2).1, (lawT b t (lawT a s w).2).2)
  | [], b, [], t, w, _ => by simp [lawT]
  | q :: a, b, p :: s, t, w, h => by
    simp only [List.cons_append, lawT]
    split
    · rename_i e; simp [lawT_zero]
    · rw [lawT_app (by simpa using h)]; rfl
theorem fedN_ok {l : List Part} (h : ∀ q ∈ l, PartOk q) : ∀ {ss : List Int} {st : List Int}, StandOk l st → (∀ s ∈ ss, s = 0 ∨ s = 1 ∨ s = -1) → StandOk l (fedN l st ss).1 ∧ (∀ s ∈ (fedN l st ss).2, s = 0 ∨ s = 1 ∨ s = -1) ∧ (fedN l st ss).2.length = ss.length
  | [], st, hs, _ => ⟨hs, by simp [fedN], rfl⟩
  | s :: ss, st, hs, hw => by
    obtain ⟨h1, h2, h3⟩ := fedN_ok h (ss := ss) (lawT_ok h hs (hw s (by simp))) fun x hx => hw x (by simp [hx])
    refine ⟨h1, fun x hx => ?_, by simp [fedN, h3]⟩
    rcases List.mem_cons.mp hx with e | e
    · rw [e]; exact lawT_sgn (hw s (by simp))
    · exact h2 x e
theorem fedN_app {a b : List Part} (h : ∀ q ∈ a, PartOk q) : ∀ {ss : List Int} {s t : List Int}, StandOk a s → (∀ x ∈ ss, x = 0 ∨ x = 1 ∨ x = -1) →
    fedN (a ++ b) (s ++ t) ss = ((fedN a s ss).1 ++ (fedN b t (fedN a s ss).2).1, (fedN b t (fedN a s ss).2).2)
  | [], s, t, _, _ => rfl
  | x :: ss, s, t, hs, hw => by
    have e := lawT_app (b := b) (t := t) (w := x) hs.length
    have ih := fedN_app (b := b) h (ss := ss) (s := (lawT a s x).1) (t := (lawT b t (lawT a s x).2).1) (lawT_ok h hs (hw x (by simp))) fun y hy => hw y (by simp [hy])
    simp only [fedN, e, ih]
theorem r_check_signs {ss : List Int} (h : Signs ss) : s_check_signs [.lst false (ss.map .int)] = .ok .non := by
  have e := lcGo_map1 D.int (g := putR 1) (f := eAnd (eA (callF s_is_whole) (aCons (eVar 1) aNil)) (eChain leD leD (e1 negD (eC (.int 1))) (eVar 1) (eC (.int 1)))) (m := [some (.lst false (ss.map .int)), none]) (fun s => D.bl (decide (-1 ≤ s) && decide (s ≤ 1))) ss (fun s hs => by
    refine ⟨[some (.lst false (ss.map .int)), some (.int s)], by simp, ?_, rfl⟩
    by_cases c : -1 ≤ s <;> simp [r_is_whole, isWholeB, c])
  have ha : ss.all (fun s => decide (-1 ≤ s) && decide (s ≤ 1)) = true := by
    rw [List.all_eq_true]
    intro s hs
    have := h.1 s hs
    simp; omega
  unfold s_check_signs
  refine def_ok1 rfl ?_
  simp
  rw [e]
  have := h.2
  simp [-List.all_eq_true, -List.all_eq_false, small (show ss.length ≤ 16777216 by omega), ha]
theorem r_fed {l : List Part} {st ss : List Int} (h : Trn l) (hs : StandOk l st) (hg : Signs ss) : s_fed [.lst false (l.map encP), encS st, .lst false (ss.map .int)] = .ok (encF (fedN l st ss)) := by
  have hgl := hg.2
  unfold s_fed
  refine def_ok1 rfl ?_
  simp [r_check_stdS h hs, r_check_signs hg]
  obtain ⟨I, hI⟩ : ∃ I : Nat → Sl → Prop, I = fun k m => ∃ (st' sh : List Int) (a4 a5 : Option D), m = [some (.lst false (l.map encP)), some (encS st'), some (.lst false (ss.map .int)), some (.lst true (sh.map .int)), a4, a5] ∧ StandOk l st' ∧ sh.length = k ∧
      fedN l st ss = ((fedN l st' (ss.drop k)).1, sh ++ (fedN l st' (ss.drop k)).2) := ⟨_, rfl⟩
  refine wp_map I ?_ (fun k s hk m hm => ?_) (fun m hm => ?_)
  · rw [hI]; exact ⟨st, [], none, none, by simp, hs, rfl, by simp⟩
  · rw [hI] at hm
    obtain ⟨st', sh, a4, a5, rfl, hs', hl, hw⟩ := hm
    have hw1 := hg.1 s (List.mem_of_getElem? hk)
    have hkl := (List.getElem?_eq_some_iff.mp hk).1
    have hd : ss.drop k = s :: ss.drop (k + 1) := by
      obtain ⟨h1, h2⟩ := List.getElem?_eq_some_iff.mp hk
      rw [← h2]; exact List.drop_eq_getElem_cons h1
    rw [hd, fedN] at hw
    have hsz : sh.length < sizeLine := by rw [sizeBig]; omega
    have fin : I (k + 1) [some (.lst false (l.map encP)), some (encS (lawT l st' s).1), some (.lst false (ss.map .int)), some (.lst true ((sh ++ [(lawT l st' s).2]).map .int)), some (.int s), some (.int (lawT l st' s).2)] := by
      rw [hI]
      exact ⟨_, _, _, _, rfl, lawT_ok h.ok.1 hs' hw1, by simp [hl], by rw [hw]; simp⟩
    by_cases c : s = 0
    · subst c
      rw [lawT_zero] at fin
      simp [hsz]
      simpa using fin
    · have p := r_pushed l st' 0 s h.ok hs'.length (by omega) (by omega)
      rw [← lawI_eq h.ok.1 hs' (by omega)] at p
      simp only [lawI, List.take_zero, List.drop_zero, List.nil_append, encR, Int.natCast_zero, Int.cast_ofNat_Int] at p
      have p' : s_pushed [.lst false (l.map encP), encS st', .int 0, .int s] = .ok (.tup [encS (lawT l st' s).1, .int (lawT l st' s).2]) := p
      simp [c, p', hsz]
      simpa using fin
  · rw [hI] at hm
    obtain ⟨st', sh, a4, a5, rfl, hs', hl, hw⟩ := hm
    rw [List.drop_length, fedN] at hw
    simp [hw, encF]
theorem pushT_app : ∀ {a b : List Part} {s t : List Int} {w n : Int}, s.length = a.length → pushT (a ++ b) (s ++ t) w n = ((pushT a s w n).1 ++ (pushT b t w (pushT a s w n).2).1, (pushT b t w (pushT a s w n).2).2)
  | [], b, [], t, w, n, _ => by simp [pushT]
  | q :: a, b, p :: s, t, w, n, h => by
    simp only [List.cons_append, pushT]
    rw [pushT_app (by simpa using h)]
theorem pushI_left {a b : List Part} {s t : List Int} {i : Nat} {w n : Int} (hl : s.length = a.length) (hi : i ≤ a.length) :
    pushI (a ++ b) (s ++ t) i w n = ((pushI a s i w n).1 ++ (pushT b t w (pushT (a.drop i) (s.drop i) w n).2).1, w * (pushT b t w (pushT (a.drop i) (s.drop i) w n).2).2) := by
  unfold pushI
  rw [List.drop_append_of_le_length hi, List.drop_append_of_le_length (by omega), List.take_append_of_le_length (by omega), pushT_app (by simp; omega)]
  simp
theorem pushI_right {a b : List Part} {s t : List Int} {i : Nat} {w n : Int} (hl : s.length = a.length) (hi : a.length ≤ i) :
    pushI (a ++ b) (s ++ t) i w n = (s ++ (pushI b t (i - a.length) w n).1, (pushI b t (i - a.length) w n).2) := by
  unfold pushI
  have e1 : (a ++ b).drop i = b.drop (i - a.length) := by rw [List.drop_append, List.drop_eq_nil_of_le hi]; rfl
  have e2 : (s ++ t).drop i = t.drop (i - a.length) := by rw [List.drop_append, List.drop_eq_nil_of_le (by omega), hl]; rfl
  have e3 : (s ++ t).take i = s ++ t.take (i - a.length) := by rw [List.take_append, List.take_of_length_le (by omega), hl]
  rw [e1, e2, e3]
  simp
end CK

namespace CK
open PySem PySem.Spec PyProof.Rows L2 CT
theorem r_signs_2 (c p : Int) (h0 : 0 ≤ p) (h1 : p < 1000) : ∃ ss, s_law_signs_2 [.int c, .int p] = .ok (.lst false (ss.map .int)) ∧ Signs ss := by
  have hlo := mixN_lo c p
  obtain ⟨n, hn, n0, n1⟩ : ∃ n, ixD (.lst false [.int (mixN c p / 2 % 6), .int (mixN c p / 2 % 41)]) (.int (mixN c p % 2)) = .ok (.int n) ∧ 0 ≤ n ∧ n ≤ 40 := by
    have : mixN c p % 2 = 0 ∨ mixN c p % 2 = 1 := by omega
    rcases this with e | e <;> rw [e]
    · exact ⟨_, ixD_lst (i := 0) rfl, by omega, by omega⟩
    · exact ⟨_, ixD_lst (i := 1) rfl, by omega, by omega⟩
  have el : ∀ k : Nat, k < n.toNat → ∃ s : Int, (s = 0 ∨ s = 1 ∨ s = -1) ∧ ∀ m2 : D, e2 ixD (eVar 3) (e2 modD (e2 divD (eA (callF s_law_mix) (aCons (eVar 0) (aCons (e2 addD (e2 addD (eVar 1) (eC (.int 1))) (e2 modD (eVar 4) (eC (.int 20)))) aNil))) (e2 ixD (eOwn (aThen (aCons (eC (.int 1)) (aCons (eC (.int 6)) aNil)) mkLst)) (e2 divD (eVar 4) (eC (.int 20))))) (eC (.int 6)))
      [some (.int c), some (.int p), some m2, some (.lst false [.int 1, .int 1, .int 1, .int 1, .int (-1), .int 0]), some (.int (k : Int))] = .ok (.int s) := fun k hk => by
    obtain ⟨d, hd, hd1⟩ : ∃ d : Int, ixD (.lst false [.int 1, .int 6]) (.int ((k : Int) / 20)) = .ok (.int d) ∧ (d = 1 ∨ d = 6) := by
      have : (k : Int) / 20 = 0 ∨ (k : Int) / 20 = 1 := by omega
      rcases this with e | e <;> rw [e]
      · exact ⟨1, ixD_lst (i := 0) rfl, .inl rfl⟩
      · exact ⟨6, ixD_lst (i := 1) rfl, .inr rfl⟩
    have h2 := mixN_lo c (p + 1 + (k : Int) % 20)
    generalize hN : mixN c (p + 1 + (k : Int) % 20) = N at h2
    have hdp : 0 < d ∧ d < 100 := by omega
    obtain ⟨s, hs, hs1⟩ : ∃ s : Int, ixD (.lst false [.int 1, .int 1, .int 1, .int 1, .int (-1), .int 0]) (.int (N / d % 6)) = .ok (.int s) ∧ (s = 0 ∨ s = 1 ∨ s = -1) := by
      have : N / d % 6 = 0 ∨ N / d % 6 = 1 ∨ N / d % 6 = 2 ∨ N / d % 6 = 3 ∨ N / d % 6 = 4 ∨ N / d % 6 = 5 := by omega
      rcases this with e | e | e | e | e | e <;> rw [e]
      · exact ⟨1, ixD_lst (i := 0) rfl, by omega⟩
      · exact ⟨1, ixD_lst (i := 1) rfl, by omega⟩
      · exact ⟨1, ixD_lst (i := 2) rfl, by omega⟩
      · exact ⟨1, ixD_lst (i := 3) rfl, by omega⟩
      · exact ⟨-1, ixD_lst (i := 4) rfl, by omega⟩
      · exact ⟨0, ixD_lst (i := 5) rfl, by omega⟩
    refine ⟨s, hs1, fun m2 => ?_⟩
    simp (disch := omega) [r_mix, hN, modD_ok, divD_s, hd, hs]
  obtain ⟨f, hf⟩ : ∃ f : Nat → Int, ∀ k, k < n.toNat → ((f k = 0 ∨ f k = 1 ∨ f k = -1) ∧ ∀ m2 : D, e2 ixD (eVar 3) (e2 modD (e2 divD (eA (callF s_law_mix) (aCons (eVar 0) (aCons (e2 addD (e2 addD (eVar 1) (eC (.int 1))) (e2 modD (eVar 4) (eC (.int 20)))) aNil))) (e2 ixD (eOwn (aThen (aCons (eC (.int 1)) (aCons (eC (.int 6)) aNil)) mkLst)) (e2 divD (eVar 4) (eC (.int 20))))) (eC (.int 6)))
      [some (.int c), some (.int p), some m2, some (.lst false [.int 1, .int 1, .int 1, .int 1, .int (-1), .int 0]), some (.int (k : Int))] = .ok (.int (f k))) := by
    refine ⟨fun k => if h : k < n.toNat then Classical.choose (el k h) else 0, fun k hk => ?_⟩
    simp only [dif_pos hk]
    exact ⟨(Classical.choose_spec (el k hk)).1, fun m2 => (Classical.choose_spec (el k hk)).2 m2⟩
  obtain ⟨ss, hss⟩ : ∃ ss : List Int, ss = (List.range n.toNat).map f := ⟨_, rfl⟩
  have e := lcGo_map1 (fun i : Nat => D.int (i : Int)) (g := putR 4) (f := e2 ixD (eVar 3) (e2 modD (e2 divD (eA (callF s_law_mix) (aCons (eVar 0) (aCons (e2 addD (e2 addD (eVar 1) (eC (.int 1))) (e2 modD (eVar 4) (eC (.int 20)))) aNil))) (e2 ixD (eOwn (aThen (aCons (eC (.int 1)) (aCons (eC (.int 6)) aNil)) mkLst)) (e2 divD (eVar 4) (eC (.int 20))))) (eC (.int 6))))
    (m := [some (.int c), some (.int p), some (.int n), some (.lst false [.int 1, .int 1, .int 1, .int 1, .int (-1), .int 0]), none]) (fun k => D.int (f k)) (List.range n.toNat) (fun k hk => by
      refine ⟨[some (.int c), some (.int p), some (.int n), some (.lst false [.int 1, .int 1, .int 1, .int 1, .int (-1), .int 0]), some (.int (k : Int))], by simp, ?_, rfl⟩
      exact (hf k (List.mem_range.mp hk)).2 _)
  rw [show ((List.range n.toNat).map fun k => D.int (f k)) = ss.map D.int by rw [hss, List.map_map]; rfl] at e
  have hl : ss.length ≤ 40 := by rw [hss]; simp; omega
  refine ⟨ss, ?_, fun s hs => ?_, by omega⟩
  · unfold s_law_signs_2
    refine def_ok1 rfl ?_
    have l6 : mkLst [.int 1, .int 1, .int 1, .int 1, .int (-1), .int 0] = .ok [.int 1, .int 1, .int 1, .int 1, .int (-1), .int 0] := mkLst_s (by simp)
    simp (disch := omega) [r_mix, divD_s, modD_ok, hn, l6, rng_map]
    rw [e]
    simp [small (show ss.length ≤ 16777216 by omega)]
  · rw [hss] at hs
    obtain ⟨k, hk, rfl⟩ := List.mem_map.mp hs
    exact (hf k (List.mem_range.mp hk)).1
theorem r_row_7 (c p : Int) (len : Nat) (h0 : 0 ≤ p) (h1 : p < 1000) (hl : 1 ≤ len) (hl2 : len ≤ 1000) : ∃ row, s_law_row_7 [.int c, .int p, .int (len : Int)] = .ok (.lst true (row.map encDd)) ∧ RowOk len row ∧ row.length ≤ 6 := by
  have main : wpR (s_law_row_7 [.int c, .int p, .int (len : Int)]) (fun d => ∃ row, d = .lst true (row.map encDd) ∧ RowOk len row ∧ row.length ≤ 6) := by
    unfold s_law_row_7
    refine def_run rfl ?_
    have hm := mixN_lo c p
    have hm5 : 0 ≤ mixN c p % 7 ∧ mixN c p % 7 < 7 := by omega
    simp (disch := omega) [r_mix, modD_ok]
    obtain ⟨I, hI⟩ : ∃ I : Nat → Sl → Prop, I = fun i m => ∃ (row : List Deed) (x y z : Option D), m = [some (.int c), some (.int p), some (.int (len : Int)), some (.lst true (row.map encDd)), x, y, z] ∧ row.length = i ∧ (∀ d ∈ row, DeedOk len d) := ⟨_, rfl⟩
    refine wp_rng I ?_ (fun i hi m hm => ?_) (fun m hm => ?_)
    · rw [hI]; exact ⟨[], none, none, none, rfl, rfl, by simp⟩
    · rw [hI] at hm
      obtain ⟨row, x, y, z, rfl, hrl, hr⟩ := hm
      have hlo := mixN_lo c (p + 1 + i)
      generalize hN : mixN c (p + 1 + i) = N at hlo
      have b1 := Int.emod_nonneg (N / 2 % 8) (show (len : Int) ≠ 0 by omega)
      have b2 := Int.emod_lt_of_pos (N / 2 % 8) (show 0 < (len : Int) by omega)
      have p24 : powD (.int 10) (.int 24) = .ok (.int 1000000000000000000000000) := by rw [powD_lit (by decide +kernel)]; rfl
      obtain ⟨t, ht, ht0⟩ : ∃ t : Int, ixD (.lst false [.int (N / 64 % 10), .int (N / 64 % 1000), .int (N / 64 * 1000000000000000000000000 + N), .int 1]) (.int (N / 16 % 4)) = .ok (.int t) ∧ 0 ≤ t := by
        have : N / 16 % 4 = 0 ∨ N / 16 % 4 = 1 ∨ N / 16 % 4 = 2 ∨ N / 16 % 4 = 3 := by omega
        rcases this with e | e | e | e <;> rw [e]
        · exact ⟨_, ixD_lst (i := 0) rfl, by omega⟩
        · exact ⟨_, ixD_lst (i := 1) rfl, by omega⟩
        · exact ⟨_, ixD_lst (i := 2) rfl, by omega⟩
        · exact ⟨_, ixD_lst (i := 3) rfl, by omega⟩
      obtain ⟨w, hw, hw1⟩ : ∃ w : Int, ixD (.lst false [.int 1, .int (-1)]) (.int (N % 2)) = .ok (.int w) ∧ (w = 1 ∨ w = -1) := by
        have : N % 2 = 0 ∨ N % 2 = 1 := by omega
        rcases this with e | e <;> rw [e]
        · exact ⟨_, ixD_lst (i := 0) rfl, by omega⟩
        · exact ⟨_, ixD_lst (i := 1) rfl, by omega⟩
      have hx := mixN_hi c (p + 1 + i)
      rw [hN] at hx
      simp (disch := omega) [r_mix, hN, modD_ok, divD_s, mulD_l, p24, ht, hw, show row.length < sizeLine by rw [sizeBig]; omega]
      rw [hI]
      refine ⟨row ++ [⟨N / 2 % 8 % len, w, t⟩], some (.int i), some (.int N), some (.int t), by simp [encDd], by simp [hrl], ?_⟩
      intro d hd
      rcases List.mem_append.mp hd with hd | hd
      · exact hr d hd
      · rw [List.mem_singleton.mp hd]; exact ⟨b1, b2, hw1, ht0⟩
    · rw [hI] at hm
      obtain ⟨row, x, y, z, rfl, hrl, hr⟩ := hm
      simp [sRetV]
      exact ⟨row, rfl, ⟨hr, by omega⟩, by omega⟩
  obtain ⟨d, e, l, rfl, h⟩ := wpR_ex main
  exact ⟨l, e, h⟩
theorem walkN_one (l : List Part) (st : List Int) (d : Deed) : walkN l st [d] = pushI l st d.i.toNat d.w d.n := by simp [walkN]
theorem r_deeds_2 {a b : List Part} {s t : List Int} {row : List Deed} (h : Trn a) (h' : Trn b) (hs : StandOk a s) (ht : StandOk b t) (hr : RowOk (a.length + b.length) row) (hl : a.length + b.length ≤ 100) :
    s_law_deeds_2 [.lst false (a.map encP), encS s, .lst false (b.map encP), encS t, .lst false (row.map encDd)] = .ok (encR (walkN (a ++ b) (s ++ t) row)) := by
  have hb0 : 0 < b.length := List.length_pos_iff.mpr h'.ne
  unfold s_law_deeds_2
  refine def_ok1 rfl ?_
  simp
  obtain ⟨I, hI⟩ : ∃ I : Nat → Sl → Prop, I = fun k m => ∃ (s' t' : List Int) (n : Int) (x y z u : Option D), m = [some (.lst false (a.map encP)), some (encS s'), some (.lst false (b.map encP)), some (encS t'), some (.lst false (row.map encDd)), some (.int n), x, y, z, u] ∧ StandOk a s' ∧ StandOk b t' ∧
      walkN (a ++ b) (s ++ t) row = ((walkN (a ++ b) (s' ++ t') (row.drop k)).1, n + (walkN (a ++ b) (s' ++ t') (row.drop k)).2) := ⟨_, rfl⟩
  refine wp_map I ?_ (fun k d hk m hm => ?_) (fun m hm => ?_)
  · rw [hI]; exact ⟨s, t, 0, none, none, none, none, rfl, hs, ht, by simp⟩
  · rw [hI] at hm
    obtain ⟨s', t', n, x, y, z, u, rfl, hs', ht', hw⟩ := hm
    obtain ⟨d1, d2, d3, d4⟩ := hr.1 d (List.mem_of_getElem? hk)
    obtain ⟨j, hj⟩ := Int.eq_ofNat_of_zero_le d1
    have hd : row.drop k = d :: row.drop (k + 1) := by
      obtain ⟨h1, h2⟩ := List.getElem?_eq_some_iff.mp hk
      rw [← h2]; exact List.drop_eq_getElem_cons h1
    rw [hd, walkN] at hw
    have nxt : ∀ (s2 t2 : List Int) (n2 : Int) (x y z u : Option D), pushI (a ++ b) (s' ++ t') d.i.toNat d.w d.n = (s2 ++ t2, n2) → StandOk a s2 → StandOk b t2 → I (k + 1) [some (.lst false (a.map encP)), some (encS s2), some (.lst false (b.map encP)), some (encS t2), some (.lst false (row.map encDd)), some (.int (n + n2)), x, y, z, u] := fun s2 t2 n2 x y z u he k1 k2 => by
      rw [hI]
      refine ⟨s2, t2, n + n2, x, y, z, u, rfl, k1, k2, ?_⟩
      rw [hw, he]; simp [Int.add_assoc]
    rw [hj, Int.toNat_natCast] at nxt
    by_cases c : j < a.length
    · have r1 : RowOk a.length [d] := ⟨by simp; exact ⟨d1, by omega, d3, d4⟩, by simp⟩
      have l1 := r_left h hs' r1
      rw [walkN_one, hj, Int.toNat_natCast] at l1
      simp only [List.map_cons, List.map_nil, encDd, hj] at l1
      have e9 := pushI_left (b := b) (t := t') (i := j) (w := d.w) (n := d.n) hs'.length (by omega)
      obtain ⟨k1, k2⟩ := pushT_ok (w := d.w) (n := d.n) (fun q hq => h.ok.1 q (List.mem_of_mem_drop hq)) (hs'.drop j) d3 d4
      have k3 := pushI_ok (i := j) h.ok.1 hs' d3 d4
      have e8 : (pushI a s' j d.w d.n).2 = d.w * (pushT (a.drop j) (s'.drop j) d.w d.n).2 := rfl
      generalize (pushT (a.drop j) (s'.drop j) d.w d.n).2 = N at *
      obtain ⟨S2, hS2⟩ : ∃ S2, S2 = (pushI a s' j d.w d.n).1 := ⟨_, rfl⟩
      have l1' : s_left [.lst false (a.map encP), encS s', .lst false [.tup [.int (j : Int), .int d.w, .int d.n]]] = .ok (.tup [encS S2, .int (d.w * N)]) := by rw [hS2, ← e8]; exact l1
      rw [← hS2] at e9 k3
      have cj : (j : Int) < (a.length : Int) := by omega
      obtain ⟨W, hW, hW1, hW2⟩ : ∃ W : Int, (∀ i, i = (if d.w * N < 0 then (1 : Int) else 0) → ixD (.lst false [.int 1, .int (-1)]) (.int i) = .ok (.int W)) ∧ (W = 1 ∨ W = -1) ∧ (0 < N → W = d.w) := by
        rcases d3 with e | e
        · rw [e]; exact ⟨1, fun i hi => by rw [if_neg (by omega)] at hi; rw [hi]; simp, by omega, fun _ => rfl⟩
        · rw [e]
          by_cases c2 : 0 < N
          · exact ⟨-1, fun i hi => by rw [if_pos (by omega)] at hi; rw [hi]; simp, by omega, fun _ => rfl⟩
          · exact ⟨1, fun i hi => by rw [if_neg (by omega)] at hi; rw [hi]; simp, by omega, fun h => absurd h c2⟩
      have hW' := hW _ rfl
      have ab : (if d.w * N < 0 then -(d.w * N) else d.w * N) = N := by rcases d3 with e | e <;> rw [e] <;> split <;> omega
      have r2 : RowOk b.length [⟨0, W, N⟩] := ⟨by simp; exact ⟨by simp, by show (0 : Int) < _; omega, hW1, k2⟩, by simp⟩
      have l2 := r_left h' ht' r2
      rw [walkN_one] at l2
      simp only [List.map_cons, List.map_nil, encDd] at l2
      have l2' : s_left [.lst false (b.map encP), encS t', .lst false [.tup [.int 0, .int W, .int N]]] = .ok (.tup [encS (pushI b t' 0 W N).1, .int (pushI b t' 0 W N).2]) := l2
      have k4 := pushI_ok (i := 0) h'.ok.1 ht' hW1 k2
      have e7 : pushI (a ++ b) (s' ++ t') j d.w d.n = (S2 ++ (pushI b t' 0 W N).1, (pushI b t' 0 W N).2) := by
        rw [e9]
        by_cases c2 : 0 < N
        · rw [hW2 c2]; rfl
        · have : N = 0 := by omega
          subst this
          have z0 := pushI_zero (i := 0) (w := W) h'.ok.1 ht'
          rw [z0, pushT_zero h'.ok.1 ht']; simp
      simp only [encDd, hj]
      simp [cj, l1', hW', ab, l2']
      exact nxt _ _ _ _ _ _ _ e7 k3 k4
    · have cj : ¬ (j : Int) < (a.length : Int) := by omega
      have e6 : (j : Int) - (a.length : Int) = ((j - a.length : Nat) : Int) := by omega
      have r2 : RowOk b.length [⟨(j - a.length : Nat), d.w, d.n⟩] := ⟨by simp; exact ⟨Int.natCast_nonneg _, by show ((j - a.length : Nat) : Int) < _; omega, d3, d4⟩, by simp⟩
      have l2 := r_left h' ht' r2
      rw [walkN_one, Int.toNat_natCast] at l2
      simp only [List.map_cons, List.map_nil, encDd] at l2
      rw [← e6] at l2
      obtain ⟨X, hX⟩ : ∃ X, X = pushI b t' (j - a.length) d.w d.n := ⟨_, rfl⟩
      have l2' : s_left [.lst false (b.map encP), encS t', .lst false [.tup [.int ((j : Int) - (a.length : Int)), .int d.w, .int d.n]]] = .ok (.tup [encS X.1, .int X.2]) := by rw [hX]; exact l2
      have k4 := pushI_ok (i := j - a.length) h'.ok.1 ht' d3 d4
      have e7 := pushI_right (b := b) (t := t') (i := j) (w := d.w) (n := d.n) hs'.length (by omega)
      rw [← hX] at k4 e7
      simp only [encDd, hj]
      simp [cj, l2']
      exact nxt _ _ _ _ _ _ _ e7 hs' k4
  · rw [hI] at hm
    obtain ⟨s', t', n, x, y, z, u, rfl, hs', ht', hw⟩ := hm
    rw [List.drop_length, walkN] at hw
    have l1 := hs'.length
    have l2 := ht'.length
    simp [hw, encR, add_stands (show s'.length + t'.length ≤ 100000 by omega)]
    simp [encS]
theorem sh_encF (x : List Int × List Int) : Sh 64 (encF x) := by
  refine Sh.mono (n := 3) (sh_tup ?_) (by omega)
  intro y hy
  simp only [List.mem_cons, List.not_mem_nil, or_false] at hy
  rcases hy with rfl | rfl
  · exact sh_ints x.1 1
  · exact sh_lst (shl_map (fun a => sh_int _ a) x.2)
theorem r_two_3 {a b : List Part} {s t ss : List Int} (h : Trn a) (h' : Trn b) (hs : StandOk a s) (ht : StandOk b t) (hg : Signs ss) (hl : a.length + b.length ≤ 100) :
    s_law_two_3 [.lst false (a.map encP), encS s, .lst false (b.map encP), encS t, .lst false (ss.map .int)] = .ok (.bl true) := by
  obtain ⟨k1, k2, k3⟩ := fedN_ok h.ok.1 hs hg.1
  have hg2 : Signs (fedN a s ss).2 := ⟨k2, by rw [k3]; exact hg.2⟩
  obtain ⟨m1, m2, m3⟩ := fedN_ok h'.ok.1 ht hg2.1
  have f1 := r_fed h hs hg
  have f2 := r_fed h' ht hg2
  have tj := h.app h' (by omega)
  have f3 := r_fed tj (hs.join ht) hg
  rw [fedN_app h.ok.1 hs hg.1] at f3
  have j := r_joined h h' (by omega)
  have tg := r_together h h' hs ht
  have pt := r_parted h h' k1 m1 (by omega)
  have l1 := k1.length
  have l2 := m1.length
  have as' := add_stands (s := (fedN a s ss).1) (t := (fedN b t (fedN a s ss).2).1) (by omega)
  have eq1 := eqD_self (sh_encF ((fedN a s ss).1 ++ (fedN b t (fedN a s ss).2).1, (fedN b t (fedN a s ss).2).2))
  have eq2 := eqD_self (sh_2s (fedN a s ss).1 (fedN b t (fedN a s ss).2).1)
  simp only [encF] at f1 f2 f3 eq1
  generalize (fedN b t (fedN a s ss).2).2 = o2 at *
  generalize (fedN b t (fedN a s ss).2).1 = t2 at *
  generalize (fedN a s ss).2 = o1 at *
  generalize (fedN a s ss).1 = s2 at *
  obtain ⟨ab, hab⟩ : ∃ ab, ab = a ++ b := ⟨_, rfl⟩
  rw [← hab] at f3 j
  unfold s_law_two_3
  refine def_ok1 rfl ?_
  simp [f1, f2, f3, j, tg, pt, as', eq1, eq2]
end CK

/-! PtU1: signs drawn; fed with the told list as one's own -/
namespace CK
open PySem PySem.Spec PyProof.Rows L2 CT
def encFo (x : List Int × List Int) : D := .tup [encS x.1, .lst true (x.2.map .int)]
theorem r_fed_p {l : List Part} {st ss : List Int} (h : Trn l) (hs : StandOk l st) (hg : Signs ss) : s_fed_p [.lst false (l.map encP), encS st, .lst false (ss.map .int)] = .ok (encFo (fedN l st ss)) := by
  have hgl := hg.2
  unfold s_fed_p
  refine def_ok1 rfl ?_
  simp [r_check_stdS h hs, r_check_signs hg]
  obtain ⟨I, hI⟩ : ∃ I : Nat → Sl → Prop, I = fun k m => ∃ (st' sh : List Int) (a4 a5 : Option D), m = [some (.lst false (l.map encP)), some (encS st'), some (.lst false (ss.map .int)), some (.lst true (sh.map .int)), a4, a5] ∧ StandOk l st' ∧ sh.length = k ∧
      fedN l st ss = ((fedN l st' (ss.drop k)).1, sh ++ (fedN l st' (ss.drop k)).2) := ⟨_, rfl⟩
  refine wp_map I ?_ (fun k s hk m hm => ?_) (fun m hm => ?_)
  · rw [hI]; exact ⟨st, [], none, none, by simp, hs, rfl, by simp⟩
  · rw [hI] at hm
    obtain ⟨st', sh, a4, a5, rfl, hs', hl, hw⟩ := hm
    have hw1 := hg.1 s (List.mem_of_getElem? hk)
    have hkl := (List.getElem?_eq_some_iff.mp hk).1
    have hd : ss.drop k = s :: ss.drop (k + 1) := by
      obtain ⟨h1, h2⟩ := List.getElem?_eq_some_iff.mp hk
      rw [← h2]; exact List.drop_eq_getElem_cons h1
    rw [hd, fedN] at hw
    have hsz : sh.length < sizeLine := by rw [sizeBig]; omega
    have fin : I (k + 1) [some (.lst false (l.map encP)), some (encS (lawT l st' s).1), some (.lst false (ss.map .int)), some (.lst true ((sh ++ [(lawT l st' s).2]).map .int)), some (.int s), some (.int (lawT l st' s).2)] := by
      rw [hI]
      exact ⟨_, _, _, _, rfl, lawT_ok h.ok.1 hs' hw1, by simp [hl], by rw [hw]; simp⟩
    by_cases c : s = 0
    · subst c
      rw [lawT_zero] at fin
      simp [hsz]
      simpa using fin
    · have p := r_pushed l st' 0 s h.ok hs'.length (by omega) (by omega)
      rw [← lawI_eq h.ok.1 hs' (by omega)] at p
      simp only [lawI, List.take_zero, List.drop_zero, List.nil_append, encR, Int.natCast_zero, Int.cast_ofNat_Int] at p
      have p' : s_pushed [.lst false (l.map encP), encS st', .int 0, .int s] = .ok (.tup [encS (lawT l st' s).1, .int (lawT l st' s).2]) := p
      simp [c, p', hsz]
      simpa using fin
  · rw [hI] at hm
    obtain ⟨st', sh, a4, a5, rfl, hs', hl, hw⟩ := hm
    rw [List.drop_length, fedN] at hw
    simp [hw, encFo, sRetP]
theorem r_pushed_3z (l : List Part) (st : List Int) (hs : StandOk l st) (h2 : l.length ≤ 100000) : s_law_pushed_3 [.lst false (l.map encP), encS st, .int 0, .int 0] = .ok (.tup [encS st, .int 0]) := by
  have hsl := hs.length
  unfold s_law_pushed_3
  refine def_ok1 rfl ?_
  simp [encS, small (show st.length ≤ 16777216 by omega)]
  obtain ⟨I, hI⟩ : ∃ I : Nat → Sl → Prop, I = fun k m => m = [some (.lst false (l.map encP)), some (encS st), some (.int 0), some (.int 0), some (.lst true (st.map .int)), some (.int 0), none, none] := ⟨_, rfl⟩
  refine wp_while I 0 ?_ (fun k m hm => ?_)
  · rw [hI]; rfl
  · rw [hI] at hm
    subst hm
    simp [encS, small (show st.length ≤ 16777216 by omega)]
theorem r_law_fed {l : List Part} {st ss : List Int} (h : Trn l) (hs : StandOk l st) (hg : Signs ss) : s_law_fed [.lst false (l.map encP), encS st, .lst false (ss.map .int)] = .ok (encF (fedN l st ss)) := by
  have hgl := hg.2
  have hl2 := h.ok.2
  unfold s_law_fed
  refine def_ok1 rfl ?_
  simp
  obtain ⟨I, hI⟩ : ∃ I : Nat → Sl → Prop, I = fun k m => ∃ (st' sh : List Int) (a4 a5 : Option D), m = [some (.lst false (l.map encP)), some (encS st'), some (.lst false (ss.map .int)), some (.lst true (sh.map .int)), a4, a5] ∧ StandOk l st' ∧ sh.length = k ∧
      fedN l st ss = ((fedN l st' (ss.drop k)).1, sh ++ (fedN l st' (ss.drop k)).2) := ⟨_, rfl⟩
  refine wp_map I ?_ (fun k s hk m hm => ?_) (fun m hm => ?_)
  · rw [hI]; exact ⟨st, [], none, none, by simp, hs, rfl, by simp⟩
  · rw [hI] at hm
    obtain ⟨st', sh, a4, a5, rfl, hs', hl, hw⟩ := hm
    have hw1 := hg.1 s (List.mem_of_getElem? hk)
    have hkl := (List.getElem?_eq_some_iff.mp hk).1
    have hd : ss.drop k = s :: ss.drop (k + 1) := by
      obtain ⟨h1, h2⟩ := List.getElem?_eq_some_iff.mp hk
      rw [← h2]; exact List.drop_eq_getElem_cons h1
    rw [hd, fedN] at hw
    have hsz : sh.length < sizeLine := by rw [sizeBig]; omega
    have fin : I (k + 1) [some (.lst false (l.map encP)), some (encS (lawT l st' s).1), some (.lst false (ss.map .int)), some (.lst true ((sh ++ [(lawT l st' s).2]).map .int)), some (.int s), some (.int (lawT l st' s).2)] := by
      rw [hI]
      exact ⟨_, _, _, _, rfl, lawT_ok h.ok.1 hs' hw1, by simp [hl], by rw [hw]; simp⟩
    have p' : s_law_pushed_3 [.lst false (l.map encP), encS st', .int 0, .int s] = .ok (.tup [encS (lawT l st' s).1, .int (lawT l st' s).2]) := by
      by_cases c : s = 0
      · subst c
        rw [lawT_zero]
        exact r_pushed_3z l st' hs' (by omega)
      · have p := r_law_pushed_3 l st' 0 s h.ok hs' (by omega) (by omega)
        simp only [lawI, List.take_zero, List.drop_zero, List.nil_append, encR, Int.natCast_zero, Int.cast_ofNat_Int] at p
        exact p
    simp [p', hsz]
    simpa using fin
  · rw [hI] at hm
    obtain ⟨st', sh, a4, a5, rfl, hs', hl, hw⟩ := hm
    rw [List.drop_length, fedN] at hw
    simp [hw, encF]
theorem ixD_3 {a b c : Int} {n : Int} (h : n = 0 ∨ n = 1 ∨ n = 2) : ∃ x : Int, ixD (.lst false [.int a, .int b, .int c]) (.int n) = .ok (.int x) ∧ (x = a ∨ x = b ∨ x = c) := by
  rcases h with e | e | e <;> rw [e]
  · exact ⟨_, ixD_lst (i := 0) rfl, .inl rfl⟩
  · exact ⟨_, ixD_lst (i := 1) rfl, .inr (.inl rfl)⟩
  · exact ⟨_, ixD_lst (i := 2) rfl, .inr (.inr rfl)⟩
theorem ixD_4 {a b c d : Int} {n : Int} (h : n = 0 ∨ n = 1 ∨ n = 2 ∨ n = 3) : ∃ x : Int, ixD (.lst false [.int a, .int b, .int c, .int d]) (.int n) = .ok (.int x) ∧ (x = a ∨ x = b ∨ x = c ∨ x = d) := by
  rcases h with e | e | e | e <;> rw [e]
  · exact ⟨_, ixD_lst (i := 0) rfl, .inl rfl⟩
  · exact ⟨_, ixD_lst (i := 1) rfl, .inr (.inl rfl)⟩
  · exact ⟨_, ixD_lst (i := 2) rfl, .inr (.inr (.inl rfl))⟩
  · exact ⟨_, ixD_lst (i := 3) rfl, .inr (.inr (.inr rfl))⟩
theorem ixD_2i {a b : Int} {n : Int} (h : n = 0 ∨ n = 1) : ∃ x : Int, ixD (.lst false [.int a, .int b]) (.int n) = .ok (.int x) ∧ (x = a ∨ x = b) := by
  rcases h with e | e <;> rw [e]
  · exact ⟨_, ixD_lst (i := 0) rfl, .inl rfl⟩
  · exact ⟨_, ixD_lst (i := 1) rfl, .inr rfl⟩
theorem cutA_map' {α β : Type} (f : α → β) (xs : List α) (lo hi : Option Int) : cutA (xs.map f) lo hi = (cutA xs lo hi).map f := by
  unfold cutA; simp [List.map_drop, List.map_take]
theorem cutA_sub {α : Type} {xs : List α} {lo hi : Option Int} {x : α} (h : x ∈ cutA xs lo hi) : x ∈ xs := List.mem_of_mem_drop (List.mem_of_mem_take h)
theorem cutA_len {α : Type} {xs : List α} {lo hi : Option Int} : (cutA xs lo hi).length ≤ xs.length := by
  unfold cutA; simp [List.length_take, List.length_drop]; omega
theorem r_law_signs (c p : Int) (h0 : 0 ≤ p) (h1 : p < 1000) : ∃ ss, s_law_signs [.int c, .int p] = .ok (.lst false (ss.map .int)) ∧ Signs ss := by
  have main : wpR (s_law_signs [.int c, .int p]) (fun d => ∃ ss : List Int, d = .lst false (ss.map .int) ∧ Signs ss) := by
    have hm := mixN_lo c p
    obtain ⟨n, hn, hn1⟩ := ixD_4 (a := mixN c p / 4 % 5) (b := mixN c p / 4 % 61) (c := 30) (d := 12) (n := mixN c p % 4) (by omega)
    have hn2 : 0 ≤ n ∧ n ≤ 100 := by omega
    unfold s_law_signs
    refine def_run rfl ?_
    simp (disch := omega) [r_mix, modD_ok, divD_s, hn, -sIf_eq]
    obtain ⟨P, hP⟩ : ∃ P : Sl → Prop, P = fun m => ∃ q : Int, m = [some (.int c), some (.int p), some (.int (mixN c p)), some (.int q), none, none, none, none, none] ∧ 0 ≤ q ∧ q ≤ 400 := ⟨_, rfl⟩
    refine wp_cut P ?_ fun m hm2 => ?_
    · rw [hP]
      by_cases e : mixN c p / 4096 % 8 = 3
      · simp (disch := omega) [modD_ok, divD_s, e]
        omega
      · simp (disch := omega) [modD_ok, divD_s, e]
        omega
    rw [hP] at hm2
    obtain ⟨q, rfl, q0, q1⟩ := hm2
    generalize hM : mixN c p = M at *
    obtain ⟨w, hw, hw1⟩ : ∃ w, w = 1 - 2 * (M / 256 % 2) ∧ (w = 1 ∨ w = -1) := ⟨_, rfl, by omega⟩
    simp (disch := omega) [modD_ok, divD_s, mulD_l, ← hw]
    obtain ⟨I, hI⟩ : ∃ I : Nat → Sl → Prop, I = fun i m => ∃ (ss : List Int) (x y z : Option D), m = [some (.int c), some (.int p), some (.int M), some (.int q), some (.int w), some (.lst true (ss.map .int)), x, y, z] ∧ ss.length = i ∧ (∀ s ∈ ss, s = 0 ∨ s = 1 ∨ s = -1) := ⟨_, rfl⟩
    refine wp_rng I ?_ (fun i hi m hm => ?_) (fun m hm => ?_)
    · rw [hI]; exact ⟨[], none, none, none, rfl, rfl, by simp⟩
    · rw [hI] at hm
      obtain ⟨ss, x, y, z, rfl, hl, hs⟩ := hm
      have hi2 : i < 400 := by omega
      have hlo := mixN_lo c (p + 1 + (i : Int) % 40)
      generalize hN : mixN c (p + 1 + (i : Int) % 40) = N at hlo
      have hd0 : 0 ≤ (i : Int) / 40 ∧ (i : Int) / 40 < 100 := by omega
      have hq : 0 ≤ N / (1 + (i : Int) / 40) := Int.ediv_nonneg hlo (by omega)
      obtain ⟨T, hT⟩ : ∃ T, T = N / (1 + (i : Int) / 40) := ⟨_, rfl⟩
      rw [← hT] at hq
      have hdv : divD (.int N) (.int (1 + (i : Int) / 40)) = .ok (.int T) := by rw [hT]; exact divD_s (by omega) (by omega)
      obtain ⟨u, hu, hu1⟩ := ixD_3 (a := 0) (b := 1) (c := -1) (n := T / 8 % 3) (by omega)
      obtain ⟨d, hd, hd1⟩ := ixD_2i (a := 4) (b := 1) (n := M / 512 % 4 / 3) (by omega)
      obtain ⟨s, hs1, hs2⟩ := ixD_4 (a := w) (b := w) (c := w) (d := u) (n := T % d) (by rcases hd1 with e | e <;> rw [e] <;> omega)
      have hmd : modD (.int T) (.int d) = .ok (.int (T % d)) := modD_ok (by omega)
      simp (disch := omega) [r_mix, hN, modD_ok, divD_s, hdv, hu, hd, hmd, hs1, show ss.length < sizeLine by rw [sizeBig]; omega]
      rw [hI]
      refine ⟨ss ++ [s], some (.int i), some (.int T), z, by simp, by simp [hl], fun y hy => ?_⟩
      rcases List.mem_append.mp hy with hy | hy
      · exact hs y hy
      · rw [List.mem_singleton.mp hy]; omega
    · rw [hI] at hm
      obtain ⟨ss, x, y, z, rfl, hl, hs⟩ := hm
      have hl4 : ss.length ≤ 400 := by omega
      simp (disch := omega) [modD_ok, divD_s, -sIf_eq]
      obtain ⟨P, hP⟩ : ∃ P : Sl → Prop, P = fun m => ∃ (ss : List Int) (x y z : Option D), m = [some (.int c), some (.int p), some (.int M), some (.int q), some (.int w), some (.lst true (ss.map .int)), x, y, z] ∧ ss.length ≤ 800 ∧ (∀ s ∈ ss, s = 0 ∨ s = 1 ∨ s = -1) := ⟨_, rfl⟩
      refine wp_cut P ?_ fun m hm2 => ?_
      · rw [hP]
        by_cases e : M / 512 % 4 = 2
        · have e1 := lcGo_map1 D.int (g := putR 8) (f := e2 subD (eC (.int 0)) (eVar 8)) (m := [some (.int c), some (.int p), some (.int M), some (.int q), some (.int w), some (.lst true (ss.map .int)), x, y, none]) (fun s => D.int (0 - s)) ss (fun s hs => ⟨[some (.int c), some (.int p), some (.int M), some (.int q), some (.int w), some (.lst true (ss.map .int)), x, y, some (.int s)], by simp, by simp, rfl⟩)
          simp (disch := omega) [modD_ok, divD_s, e]
          rw [e1]
          rw [show (ss.map fun s => D.int (0 - s)) = (ss.map fun s => 0 - s).map D.int by rw [List.map_map]; rfl]
          obtain ⟨r, hr⟩ : ∃ r, r = ss.map fun s => 0 - s := ⟨_, rfl⟩
          have hr1 : r.length = ss.length := by rw [hr]; simp
          have hr2 : ∀ s ∈ r, s = 0 ∨ s = 1 ∨ s = -1 := fun s h => by
            rw [hr] at h
            obtain ⟨u, hu, rfl⟩ := List.mem_map.mp h
            have := hs u hu
            omega
          rw [← hr]
          simp [small (show r.length ≤ 16777216 by omega), catL_ok (show (ss.map D.int).length + (r.map D.int).length ≤ 16777216 by simp; omega)]
          rw [← List.map_append]
          rw [if_neg (by rw [ints_noT]; simp)]
          refine ⟨ss ++ r, ⟨x, y, z, rfl⟩, by simp; omega, fun s h => ?_⟩
          rcases List.mem_append.mp h with h | h
          · exact hs s h
          · exact hr2 s h
        · simp (disch := omega) [modD_ok, divD_s, e]
          exact ⟨ss, rfl, by omega, hs⟩
      rw [hP] at hm2
      obtain ⟨ss, x, y, z, rfl, hl5, hs⟩ := hm2
      simp [cutA_map']
      have hlen : (cutA ss none (some 300)).length ≤ ss.length := cutA_len
      refine ⟨cutA ss none (some 300), rfl, fun s h => hs s (cutA_sub h), by omega⟩
  obtain ⟨d, e, l, rfl, h⟩ := wpR_ex main
  exact ⟨l, e, h⟩
end CK

/-! PtV: what comes again -/
namespace CK
open PySem PySem.Spec PyProof.Rows L2 CT
def Per (f : Nat → Int) (t : Nat) : Prop := ∀ i, f (i + t) = f i
def tbl (f : Nat → Int) (n : Nat) : List Int := (List.range n).map f
theorem Per.mul {f : Nat → Int} {t : Nat} (h : Per f t) : ∀ q i, f (i + t * q) = f i
  | 0, i => rfl
  | q + 1, i => by rw [Nat.mul_succ, ← Nat.add_assoc, h]; exact h.mul q i
theorem Per.mod {f : Nat → Int} {t : Nat} (h : Per f t) (i : Nat) : f (i % t) = f i := by
  have := h.mul (i / t) (i % t)
  rw [Nat.mod_add_div] at this
  exact this.symm
theorem per_least {f : Nat → Int} {N : Nat} (h1 : 1 ≤ N) (h : Per f N) : ∃ p, 1 ≤ p ∧ p ≤ N ∧ Per f p ∧ ∀ t, 1 ≤ t → Per f t → p ≤ t := by
  induction N using Nat.strongRecOn with
  | ind N ih =>
    by_cases c : ∃ t, 1 ≤ t ∧ t < N ∧ Per f t
    · obtain ⟨t, a, b, d⟩ := c
      obtain ⟨p, p1, p2, p3, p4⟩ := ih t b a d
      exact ⟨p, p1, by omega, p3, p4⟩
    · exact ⟨N, h1, Nat.le_refl _, h, fun t a b => by
        by_cases c2 : t < N
        · exact absurd ⟨t, a, c2, b⟩ c
        · omega⟩
theorem per_dvd {f : Nat → Int} {p R : Nat} (h1 : 1 ≤ p) (h : Per f p) (hl : ∀ t, 1 ≤ t → Per f t → p ≤ t) (hR : Per f R) : R % p = 0 := by
  by_cases c : R % p = 0
  · exact c
  · have : Per f (R % p) := fun i => by
      have e := h.mul (R / p) (i + R % p)
      rw [Nat.add_assoc, Nat.mod_add_div, hR] at e
      exact e.symm
    have a := hl _ (by omega) this
    have b := Nat.mod_lt R (show 0 < p by omega)
    omega
theorem rep_tbl (f : Nat → Int) (t : Nat) : ∀ q : Nat, (List.replicate q (tbl f t)).flatten = tbl (fun i => f (i % t)) (t * q)
  | 0 => by simp [tbl]
  | q + 1 => by
    rw [List.replicate_succ', List.flatten_append, rep_tbl f t q, Nat.mul_succ]
    simp only [tbl, List.range_add, List.map_append, List.map_map, List.flatten_cons, List.flatten_nil, List.append_nil, List.append_cancel_left_eq]
    refine List.map_congr_left fun i hi => ?_
    have := List.mem_range.mp hi
    simp only [Function.comp]
    rw [Nat.mul_add_mod, Nat.mod_eq_of_lt this]
theorem tbl_eq {f g : Nat → Int} {n : Nat} : tbl f n = tbl g n ↔ ∀ i, i < n → f i = g i := by
  unfold tbl
  rw [List.map_inj_left]
  exact ⟨fun h i hi => h i (List.mem_range.mpr hi), fun h i hi => h i (List.mem_range.mp hi)⟩
theorem tbl_take (f : Nat → Int) {n m : Nat} (h : m ≤ n) : (tbl f n).take m = tbl f m := by
  unfold tbl
  rw [← List.map_take, List.take_range, Nat.min_eq_left h]
theorem tbl_drop (f : Nat → Int) {n m : Nat} (h : m ≤ n) : (tbl f n).drop m = tbl (fun i => f (i + m)) (n - m) := by
  obtain ⟨k, rfl⟩ := Nat.exists_eq_add_of_le h
  unfold tbl
  rw [List.range_add, List.map_append, List.drop_append_of_le_length (by simp), List.drop_of_length_le (by simp)]
  simp only [List.nil_append, List.map_map, Nat.add_sub_cancel_left]
  refine List.map_congr_left fun i hi => ?_
  simp [Nat.add_comm]
theorem ring_iff {f : Nat → Int} {t R : Nat} (h1 : 1 ≤ t) (hR1 : 1 ≤ R) (hR : Per f R) (hd : R % t = 0) : tbl f R = (List.replicate (R / t) ((tbl f R).take t)).flatten ↔ Per f t := by
  have hle : t ≤ R := Nat.le_of_dvd (by omega) (Nat.dvd_of_mod_eq_zero hd)
  have hm : t * (R / t) = R := Nat.mul_div_cancel' (Nat.dvd_of_mod_eq_zero hd)
  rw [tbl_take f hle, rep_tbl, hm, tbl_eq]
  constructor
  · intro h i
    have key : ∀ j, f j = f (j % t) := fun j => by
      have a := h (j % R) (Nat.mod_lt _ (by omega))
      rw [hR.mod, Nat.mod_mod_of_dvd _ (Nat.dvd_of_mod_eq_zero hd)] at a
      exact a
    rw [key (i + t), Nat.add_mod_right, ← key]
  · intro h i _
    exact (h.mod i).symm
theorem window_iff {f : Nat → Int} {t N : Nat} (hN : 1 ≤ N) (h : Per f N) (ht : t ≤ N) : (tbl f (2 * N)).drop t = (tbl f (2 * N)).take (2 * N - t) ↔ Per f t := by
  rw [tbl_drop f (by omega), tbl_take f (by omega), tbl_eq]
  constructor
  · intro k i
    have a := k (i % N) (by have := Nat.mod_lt i (show 0 < N by omega); omega)
    rw [h.mod] at a
    rw [← a, ← h.mod (i % N + t), Nat.mod_add_mod, h.mod]
  · intro k i _
    exact k i
theorem tbl_succ (f : Nat → Int) (n : Nat) : tbl f (n + 1) = tbl f n ++ [f n] := by simp [tbl, List.range_succ]
theorem tbl_len (f : Nat → Int) (n : Nat) : (tbl f n).length = n := by simp [tbl]
/-! ### the walk of a train of wheels -/
theorem pushP_turn {z p k : Int} {ms : List Int} (h : PartOk (.wheel z ms)) (h0 : 0 ≤ p) (h1 : p < z) : pushP (.wheel z ms) p 1 (z * k) = (p, k * (ms.length : Int)) := by
  have hz := h.1
  have e1 : z * k / z = k := Int.mul_ediv_cancel_left _ (by omega)
  have e2 : z * k % z = 0 := Int.mul_emod_right _ _
  have e3 : (ms.filter fun m => decide (0 < (m - p - 1) % z + 1) && decide ((m - p - 1) % z + 1 ≤ 0)) = [] := List.filter_eq_nil_iff.mpr fun m _ => by
    simp
  have e4 : (p + 1 * (z * k)) % z = p := by rw [Int.one_mul, Int.add_mul_emod_self_left, Int.emod_eq_of_lt h0 h1]
  simp only [pushP, if_true, e4, metN, e1, e2, e3, List.length_nil]
  simp
theorem pushT_turn : ∀ {l : List Part} {st : List Int} (m : Int), (∀ q ∈ l, PartOk q) → (∀ q ∈ l, isWheel q) → StandOk l st → (pushT l st 1 (prodN l * m)).1 = st
  | [], [], _, _, _, _ => rfl
  | q :: l, p :: st, m, h, hw, hs => by
    have hq := h q (by simp)
    cases q with
    | wheel z ms =>
      have e : prodN (.wheel z ms :: l) * m = z * (prodN l * m) := by simp only [prodN, List.foldr_cons]; rw [Int.mul_assoc]; rfl
      have hp := pushP_turn (k := prodN l * m) hq hs.1 hs.2.1
      rw [e, pushT, hp]
      simp only
      rw [Int.mul_assoc, pushT_turn (m * (ms.length : Int)) (fun a ha => h a (by simp [ha])) (fun a ha => hw a (by simp [ha])) hs.2.2]
    | click => exact absurd (hw .click (by simp)) (fun x => x)
    | rocker => exact absurd (hw .rocker (by simp)) (fun x => x)
    | spring k => exact absurd (hw (.spring k) (by simp)) (fun x => x)
def stN (l : List Part) (st : List Int) (k : Nat) : List Int := (pushT l st 1 (k : Int)).1
def outN (l : List Part) (st : List Int) (k : Nat) : Int := (lawT l (stN l st k) 1).2
section
variable {l : List Part} {st : List Int} (h : ∀ q ∈ l, PartOk q) (hs : StandOk l st)
include h hs
theorem stN_ok (k : Nat) : StandOk l (stN l st k) := (pushT_ok h hs (.inl rfl) (by omega)).1
theorem stN_zero : stN l st 0 = st := by unfold stN; rw [Int.natCast_zero, pushT_zero h hs]
theorem stN_succ (k : Nat) : stN l st (k + 1) = (lawT l (stN l st k) 1).1 := by
  rw [lawT_eq h (stN_ok h hs k) (.inl rfl)]
  unfold stN
  rw [Int.natCast_add, pushT_add h hs (.inl rfl) (by omega) (by omega)]
  rfl
theorem stN_add {N : Nat} (e : stN l st N = st) (k : Nat) : stN l st (k + N) = stN l st k := by
  unfold stN at e ⊢
  rw [Nat.add_comm, Int.natCast_add, pushT_add h hs (.inl rfl) (by omega) (by omega), e]
theorem outN_per {N : Nat} (e : stN l st N = st) : Per (outN l st) N := fun i => by unfold outN; rw [stN_add h hs e]
theorem outN_01 (k : Nat) : outN l st k = 0 ∨ outN l st k = 1 := by
  have a := lawT_pos (l := l) (st := stN l st k) (w := 1) (by omega) (by omega)
  have b := lawT_sgn (l := l) (st := stN l st k) (w := 1) (by omega)
  unfold outN; omega
theorem pushI_step (k : Nat) : pushI l (stN l st k) 0 1 1 = (stN l st (k + 1), outN l st k) := by
  have e := lawT_eq h (stN_ok h hs k) (w := 1) (.inl rfl)
  rw [stN_succ h hs, outN, e]
  simp [pushI]
theorem lawI_step (k : Nat) : lawI l (stN l st k) 0 1 = (stN l st (k + 1), outN l st k) := by
  rw [stN_succ h hs, outN]
  simp [lawI]
theorem ring_least {N : Nat} (h1 : 1 ≤ N) (e : stN l st N = st) : ∃ R, 1 ≤ R ∧ R ≤ N ∧ stN l st R = st ∧ ∀ k, 1 ≤ k → k < R → stN l st k ≠ st := by
  induction N using Nat.strongRecOn with
  | ind N ih =>
    by_cases c : ∃ t, 1 ≤ t ∧ t < N ∧ stN l st t = st
    · obtain ⟨t, a, b, d⟩ := c
      obtain ⟨p, p1, p2, p3, p4⟩ := ih t b a d
      exact ⟨p, p1, by omega, p3, p4⟩
    · exact ⟨N, h1, Nat.le_refl _, e, fun t a b d => c ⟨t, a, b, d⟩⟩
end
/-- the marks of the least wheel -/
def leastM (f : Nat → Int) (p : Nat) : List Int := ((List.range p).filter fun i => decide (f (i + p - 1) = 1)).map fun i : Nat => (i : Int)
end CK

/-! PtV2: rings and least wheels -/
namespace CK
open PySem PySem.Spec PyProof.Rows L2 CT
theorem sh_intsL (t : Bool) (s : List Int) : Sh 64 (.lst t (s.map .int)) := (sh_lst (n := 1) (shl_map (fun a => sh_int _ a) s)).mono (by omega)
theorem eqv_L (t u : Bool) (a b : List Int) : eqvD (.lst t (a.map .int)) (.lst u (b.map .int)) = decide (a = b) := by
  unfold eqvD
  simp only [py, PyData.eqv, eqvAll_ints]
theorem neD_L (t u : Bool) (a b : List Int) : neD (.lst t (a.map .int)) (.lst u (b.map .int)) = .ok (.bl (!decide (a = b))) := by rw [neD_ok (sh_intsL _ a) (sh_intsL _ b), eqv_L]
theorem repD_ok {t : Bool} {a : List Int} {k : Nat} (h : a.length * k ≤ 1000000) (h2 : k < 2 ^ 40) : repD (.lst t (a.map .int)) (.int (k : Int)) = .ok (.lst false ((List.replicate k a).flatten.map .int)) := by
  simp only [repD]
  rw [if_pos ⟨by omega, by omega, by rw [sizeBig]; simp; omega⟩]
  congr 2
  simp [List.map_flatten]
theorem r_ring_shown {l : List Part} {st : List Int} {R : Nat} (h : Trn l) (hs : StandOk l st) (h1 : 1 ≤ R) (h2 : R ≤ 100000) (e : stN l st R = st) (hl : ∀ k, 1 ≤ k → k < R → stN l st k ≠ st) :
    s_ring_shown [.lst false (l.map encP), encS st] = .ok (.lst true ((tbl (outN l st) R).map .int)) := by
  have ps : ∀ k : Nat, s_pushed [.lst false (l.map encP), encS (stN l st k), .int 0, .int 1] = .ok (.tup [encS (stN l st (k + 1)), .int (outN l st k)]) := fun k => by
    have := r_pushed l (stN l st k) 0 1 h.ok (stN_ok h.ok.1 hs k).length (by omega) (by omega)
    rw [pushI_step h.ok.1 hs] at this
    exact this
  have p0 := ps 0
  rw [stN_zero h.ok.1 hs] at p0
  unfold s_ring_shown
  refine def_ok1 rfl ?_
  simp [p0]
  obtain ⟨I, hI⟩ : ∃ I : Nat → Sl → Prop, I = fun n m => ∃ (k : Nat) (x : Option D), m = [some (.lst false (l.map encP)), some (encS st), some (encS (stN l st k)), x, some (.lst true ((tbl (outN l st) k).map .int))] ∧ 1 ≤ k ∧ k ≤ R ∧ n = R - k := ⟨_, rfl⟩
  refine wp_while I (R - 1) ?_ (fun n m hm => ?_)
  · rw [hI]; exact ⟨1, _, by simp [tbl]; rfl, by omega, h1, rfl⟩
  · rw [hI] at hm
    obtain ⟨k, x, rfl, k1, k2, hn⟩ := hm
    refine ⟨!decide (stN l st k = st), by simp [neD_S], fun hc => ?_, fun hc => ?_⟩
    · have hk : k ≠ R := fun c => by subst c; simp [e] at hc
      simp [ps, tbl_len, show k < sizeLine by rw [sizeBig]; omega]
      rw [hI]
      exact ⟨n - 1, by omega, k + 1, _, by simp [tbl_succ]; rfl, by omega, by omega, by omega⟩
    · have hk : stN l st k = st := by simpa using hc
      have : k = R := by
        by_cases c : k = R
        · exact c
        · exact absurd hk (hl k k1 (by omega))
      subst this
      simp [sRetV]
theorem ix_last {t : Bool} {a : List Int} {x : Int} (h1 : 1 ≤ a.length) (h : a[a.length - 1]? = some x) : ixD (.lst t (a.map .int)) (.int (-1)) = .ok (.int x) := by
  have e : atI (a.map D.int) (-1) = some (.int x) := by
    unfold atI ixN
    rw [if_neg (by omega), if_pos (by simp; omega)]
    simp only [List.length_map]
    rw [show ((-1 : Int) + (a.length : Int)).toNat = a.length - 1 by omega, Option.bind_some, List.getElem?_map, h]; rfl
  simp only [ixD]; rw [e]
theorem tbl_get {f : Nat → Int} {n i : Nat} (h : i < n) : (tbl f n)[i]? = some (f i) := by
  unfold tbl; rw [List.getElem?_map, List.getElem?_range h]; rfl
theorem ix_shown {f : Nat → Int} {p R i : Nat} (p1 : 1 ≤ p) (pp : Per f p) (hR : 1 ≤ R) (hd : R % p = 0) (hi : i < p) : ixD (.lst false ((tbl f R).map .int)) (.int ((i : Int) - 1)) = .ok (.int (f (i + p - 1))) := by
  have hle : p ≤ R := Nat.le_of_dvd (by omega) (Nat.dvd_of_mod_eq_zero hd)
  cases i with
  | zero =>
    rw [show ((0 : Nat) : Int) - 1 = -1 by omega]
    refine ix_last (by rw [tbl_len]; exact hR) ?_
    rw [tbl_len, tbl_get (by omega), Nat.zero_add]
    congr 1
    have := pp.mul (R / p - 1) (p - 1)
    have hm : p * (R / p) = R := Nat.mul_div_cancel' (Nat.dvd_of_mod_eq_zero hd)
    have hq : 1 ≤ R / p := Nat.div_pos hle (by omega)
    rw [Nat.mul_sub, hm, Nat.mul_one, show p - 1 + (R - p) = R - 1 by omega] at this
    exact this
  | succ j =>
    rw [show ((j + 1 : Nat) : Int) - 1 = (j : Int) by omega]
    rw [ixD_lst (i := j) (x := .int (f j)) (by rw [List.getElem?_map, tbl_get (by omega)]; rfl), show j + 1 + p - 1 = j + p by omega, pp]
theorem leastM_len (f : Nat → Int) (p : Nat) : (leastM f p).length ≤ p := by
  unfold leastM; rw [List.length_map]; exact Nat.le_trans (List.length_filter_le _ _) (by simp)
theorem r_least_wheel {l : List Part} {st : List Int} {N p : Nat} (h : Trn l) (hs : StandOk l st) (hw : ∀ q ∈ l, isWheel q) (h1 : 1 ≤ N) (h2 : N ≤ 100000) (e : stN l st N = st)
    (p1 : 1 ≤ p) (pp : Per (outN l st) p) (pl : ∀ t, 1 ≤ t → Per (outN l st) t → p ≤ t) :
    s_least_wheel [.lst false (l.map encP), encS st] = .ok (encP (.wheel p (leastM (outN l st) p))) := by
  obtain ⟨R, R1, R2, Re, Rl⟩ := ring_least h.ok.1 hs h1 e
  have rs := r_ring_shown h hs R1 (by omega) Re Rl
  have Rp := outN_per h.ok.1 hs Re
  have hd := per_dvd p1 pp pl Rp
  have hle := pl R R1 Rp
  generalize outN l st = f at *
  have hlen := tbl_len f R
  have e1 := lcGo_map1 encP (g := putR 5) (f := e2 neD (e2 ixD (eVar 5) (eC (.int 0))) (eC (.str "wheel"))) (m := [some (.lst false (l.map encP)), some (encS st), none, none, none, none, none]) (fun q => D.bl false) l (fun q hq => by
    refine ⟨[some (.lst false (l.map encP)), some (encS st), none, none, none, some (encP q), none], by simp, ?_, rfl⟩
    have := hw q hq
    cases q with
    | wheel z ms => simp [encP]
    | click => exact absurd this (fun x => x)
    | rocker => exact absurd this (fun x => x)
    | spring k => exact absurd this (fun x => x))
  have an : (l.map fun _ => D.bl false) = (l.map fun _ => false).map .bl := by rw [List.map_map]; rfl
  have e3 := lcGo_map (fun i : Nat => D.int (i : Int)) (g := putR 6) (t := tOf (e2 eqD (e2 ixD (eVar 2) (e2 subD (eVar 6) (eC (.int 1)))) (eC (.int 1)))) (f := eVar 6)
    (m := [some (.lst false (l.map encP)), some (encS st), some (.lst false ((tbl f R).map .int)), some (.int R), some (.int p), none, none]) (fun i => decide (f (i + p - 1) = 1)) (fun i : Nat => D.int (i : Int)) (List.range p) (fun i hi =>
      ⟨[some (.lst false (l.map encP)), some (encS st), some (.lst false ((tbl f R).map .int)), some (.int R), some (.int p), none, some (.int i)], by simp, by
        have := ix_shown (f := f) p1 pp R1 hd (List.mem_range.mp hi)
        simp [this], fun _ => by simp⟩)
  have e4 : ((List.range p).filter fun i => decide (f (i + p - 1) = 1)).map (fun i : Nat => D.int (i : Int)) = (leastM f p).map D.int := by unfold leastM; rw [List.map_map]; rfl
  rw [e4] at e3
  have hml := leastM_len f p
  have hll := h.ok.2
  unfold s_least_wheel
  refine def_ok1 rfl ?_
  simp [r_check_stdS h hs]
  rw [e1]
  have anyF : (l.any fun _ => false) = false := by simp
  simp [small (show l.length ≤ 16777216 by omega), rs, hlen, anyF]
  obtain ⟨I, hI⟩ : ∃ I : Nat → Sl → Prop, I = fun n m => ∃ (t : Nat), m = [some (.lst false (l.map encP)), some (encS st), some (.lst false ((tbl f R).map .int)), some (.int R), some (.int t), none, none] ∧ 1 ≤ t ∧ t ≤ p ∧ n = p - t := ⟨_, rfl⟩
  refine wp_while I (p - 1) ?_ (fun n m hm => ?_)
  · rw [hI]; exact ⟨1, rfl, by omega, p1, rfl⟩
  · rw [hI] at hm
    obtain ⟨t, rfl, t1, t2, hn⟩ := hm
    have ht : (1 : Int) ≤ (t : Int) := by omega
    refine ⟨!decide (t = p), ?_, fun hc => ?_, fun hc => ?_⟩
    · have hm : (R : Int) % (t : Int) = ((R % t : Nat) : Int) := (Int.natCast_emod R t).symm
      have hv : (R : Int) / (t : Int) = ((R / t : Nat) : Int) := (Int.natCast_ediv R t).symm
      by_cases hdv : R % t = 0
      · have cu : cutA ((tbl f R).map D.int) none (some (t : Int)) = ((tbl f R).take t).map .int := by rw [cut_head, List.map_take]
        have hle2 : t ≤ R := by omega
        have hmm : t * (R / t) = R := Nat.mul_div_cancel' (Nat.dvd_of_mod_eq_zero hdv)
        have hq : R / t ≤ R := Nat.div_le_self _ _
        have rp := repD_ok (t := false) (a := (tbl f R).take t) (k := R / t) (by rw [List.length_take, hlen, Nat.min_eq_left hle2, hmm]; omega) (by omega)
        have ne := neD_L false false (tbl f R) (List.replicate (R / t) ((tbl f R).take t)).flatten
        have dd : decide (tbl f R = (List.replicate (R / t) ((tbl f R).take t)).flatten) = decide (t = p) := by
          rw [decide_eq_decide, ring_iff t1 R1 Rp hdv]
          exact ⟨fun c => by have := pl t t1 c; omega, fun c => by rw [c]; exact pp⟩
        rw [dd] at ne
        rw [← hv] at rp
        rw [hdv, Int.natCast_zero] at hm
        generalize (List.replicate (R / t) ((tbl f R).take t)).flatten = A at *
        generalize (tbl f R).take t = B at *
        simp (disch := omega) [-List.map_take, modD_ok, divD_s, hm, cu, rp, ne]
      · have tp : t ≠ p := fun c => hdv (by rw [c]; exact hd)
        have hm' : (R : Int) % (t : Int) ≠ 0 := by omega
        simp (disch := omega) [modD_ok, hm', tp]
    · have : t ≠ p := by simpa using hc
      simp
      rw [hI]
      exact ⟨n - 1, by omega, t + 1, by simp, by omega, by omega, by omega⟩
    · have : t = p := by simpa using hc
      subst this
      simp (disch := omega) [rng_map]
      rw [e3]
      simp [small (show (leastM f t).length ≤ 16777216 by omega), encP]
end CK

/-! PtV3: the law's own least wheel; the trains of law 84 -/
namespace CK
open PySem PySem.Spec PyProof.Rows L2 CT
theorem nplaces_wheel {q : Part} (h : isWheel q) : ixD (encP q) (.int 1) = .ok (.int (nplaces q)) := by
  cases q with
  | wheel z ms => simp [encP, nplaces]
  | click => exact absurd h (fun x => x)
  | rocker => exact absurd h (fun x => x)
  | spring k => exact absurd h (fun x => x)
theorem r_due_11 {l : List Part} {st : List Int} {N p : Nat} (h : Trn l) (hs : StandOk l st) (hw : ∀ q ∈ l, isWheel q) (hN : prodN l = (N : Int)) (h1 : 1 ≤ N) (h2 : N ≤ 100000) (e : stN l st N = st)
    (p1 : 1 ≤ p) (pp : Per (outN l st) p) (pl : ∀ t, 1 ≤ t → Per (outN l st) t → p ≤ t) :
    s_law_due_11 [.lst false (l.map encP), encS st] = .ok (encP (.wheel p (leastM (outN l st) p))) := by
  have ps : ∀ k : Nat, s_law_pushed_3 [.lst false (l.map encP), encS (stN l st k), .int 0, .int 1] = .ok (.tup [encS (stN l st (k + 1)), .int (outN l st k)]) := fun k => by
    have := r_law_pushed_3 l (stN l st k) 0 1 h.ok (stN_ok h.ok.1 hs k) (by omega) (by omega)
    rw [lawI_step h.ok.1 hs] at this
    exact this
  have pN := outN_per h.ok.1 hs e
  have hpN := pl N h1 pN
  have s0 := stN_zero h.ok.1 hs
  unfold s_law_due_11
  refine def_ok1 rfl ?_
  simp
  obtain ⟨I, hI⟩ : ∃ I : Nat → Sl → Prop, I = fun k m => ∃ (x : Option D), m = [some (.lst false (l.map encP)), some (encS st), some (.int (prodN (l.take k))), x, none, none, none, none, none] := ⟨_, rfl⟩
  refine wp_map I ?_ (fun k q hk m hm => ?_) (fun m hm => ?_)
  · rw [hI]; exact ⟨none, by simp [prodN]⟩
  · rw [hI] at hm
    obtain ⟨x, rfl⟩ := hm
    have hq := hw q (List.mem_of_getElem? hk)
    have hb := prodN_take h.ok.1 k
    have hp0 := prodN_pos (l := l.take k) fun q hq => h.ok.1 q (List.mem_of_mem_take hq)
    have htk : l.take (k + 1) = l.take k ++ [q] := by rw [List.take_add_one, hk]; rfl
    simp (disch := omega) [nplaces_wheel hq, mulD_l]
    rw [hI]
    exact ⟨_, by rw [htk, prodN_app]⟩
  · rw [hI] at hm
    obtain ⟨x, rfl⟩ := hm
    rw [List.take_length, hN]
    simp (disch := omega) [mulD_l]
    obtain ⟨J, hJ⟩ : ∃ J : Nat → Sl → Prop, J = fun k m => ∃ (y z : Option D), m = [some (.lst false (l.map encP)), some (encS (stN l st k)), some (.int N), x, some (.lst true ((tbl (outN l st) k).map .int)), y, z, none, none] := ⟨_, rfl⟩
    refine wp_rng J ?_ (fun k hk m hm => ?_) (fun m hm => ?_)
    · rw [hJ]; exact ⟨none, none, by simp [tbl, s0]⟩
    · rw [hJ] at hm
      obtain ⟨y, z, rfl⟩ := hm
      simp [ps, tbl_len, show k < sizeLine by rw [sizeBig]; omega]
      rw [hJ]
      exact ⟨_, _, by simp [tbl_succ]; exact ⟨rfl, rfl⟩⟩
    · rw [hJ] at hm
      obtain ⟨y, z, rfl⟩ := hm
      rw [show (2 * (N : Int)).toNat = 2 * N by omega]
      generalize stN l st (2 * N) = s2
      generalize outN l st = f at *
      have hlen := tbl_len f (2 * N)
      have e3 := lcGo_map (fun i : Nat => D.int (i : Int)) (g := putR 8) (t := tOf (e2 eqD (e2 ixD (eVar 4) (e2 subD (e2 addD (eVar 8) (eVar 7)) (eC (.int 1)))) (eC (.int 1)))) (f := eVar 8)
        (m := [some (.lst false (l.map encP)), some (encS s2), some (.int N), x, some (.lst true ((tbl f (2 * N)).map .int)), y, z, some (.int p), none]) (fun i => decide (f (i + p - 1) = 1)) (fun i : Nat => D.int (i : Int)) (List.range p) (fun i hi =>
          ⟨[some (.lst false (l.map encP)), some (encS s2), some (.int N), x, some (.lst true ((tbl f (2 * N)).map .int)), y, z, some (.int p), some (.int i)], by simp, by
            have hi := List.mem_range.mp hi
            have := ixD_lst (t := true) (xs := (tbl f (2 * N)).map D.int) (i := i + p - 1) (x := .int (f (i + p - 1))) (by rw [List.getElem?_map, tbl_get (by omega)]; rfl)
            rw [show ((i + p - 1 : Nat) : Int) = (i : Int) + (p : Int) - 1 by omega] at this
            simp [this], fun _ => by simp⟩)
      have e4 : ((List.range p).filter fun i => decide (f (i + p - 1) = 1)).map (fun i : Nat => D.int (i : Int)) = (leastM f p).map D.int := by unfold leastM; rw [List.map_map]; rfl
      rw [e4] at e3
      have hml := leastM_len f p
      simp
      obtain ⟨W, hW⟩ : ∃ W : Nat → Sl → Prop, W = fun n m => ∃ (t : Nat), m = [some (.lst false (l.map encP)), some (encS s2), some (.int N), x, some (.lst true ((tbl f (2 * N)).map .int)), y, z, some (.int t), none] ∧ 1 ≤ t ∧ t ≤ p ∧ n = p - t := ⟨_, rfl⟩
      refine wp_while W (p - 1) ?_ (fun n m hm => ?_)
      · rw [hW]; exact ⟨1, rfl, by omega, p1, rfl⟩
      · rw [hW] at hm
        obtain ⟨t, rfl, t1, t2, hn⟩ := hm
        refine ⟨!decide (t = p), ?_, fun hc => ?_, fun hc => ?_⟩
        · have c1 : cutA ((tbl f (2 * N)).map D.int) (some (t : Int)) none = ((tbl f (2 * N)).drop t).map .int := by rw [cut_tail, List.map_drop]
          have c2 : cutA ((tbl f (2 * N)).map D.int) none (some (2 * (N : Int) - (t : Int))) = ((tbl f (2 * N)).take (2 * N - t)).map .int := by
            rw [show 2 * (N : Int) - (t : Int) = ((2 * N - t : Nat) : Int) by omega, cut_head, List.map_take]
          have ne := neD_L false false ((tbl f (2 * N)).drop t) ((tbl f (2 * N)).take (2 * N - t))
          have dd : decide ((tbl f (2 * N)).drop t = (tbl f (2 * N)).take (2 * N - t)) = decide (t = p) := by
            rw [decide_eq_decide, window_iff h1 pN (by omega)]
            exact ⟨fun c => by have := pl t t1 c; omega, fun c => by rw [c]; exact pp⟩
          rw [dd] at ne
          generalize (tbl f (2 * N)).drop t = A at *
          generalize (tbl f (2 * N)).take (2 * N - t) = B at *
          simp (disch := omega) [-List.map_take, -List.map_drop, mulD_l, c1, c2, ne]
        · simp
          rw [hW]
          have : t ≠ p := by simpa using hc
          exact ⟨n - 1, by omega, t + 1, by simp, by omega, by omega, by omega⟩
        · have : t = p := by simpa using hc
          subst this
          simp (disch := omega) [rng_map]
          rw [e3]
          simp [small (show (leastM f t).length ≤ 16777216 by omega), encP]
end CK

/-! PtV4: the trains of law 84 -/
namespace CK
open PySem PySem.Spec PyProof.Rows L2 CT
theorem marks_len : ∀ (ms : List Int) (a z : Int), ms.Pairwise (· < ·) → (∀ m ∈ ms, a ≤ m ∧ m < z) → ms.length ≤ (z - a).toNat
  | [], _, _, _, _ => by simp
  | x :: r, a, z, hp, h => by
    have h1 := List.pairwise_cons.mp hp
    have h2 := h x (by simp)
    have := marks_len r (x + 1) z h1.2 fun m hm => ⟨by have := h1.1 m hm; omega, (h m (by simp [hm])).2⟩
    simp only [List.length_cons]; omega
theorem dbl_ok {z : Int} {ms : List Int} (h : PartOk (.wheel z ms)) (hz : z ≤ 1000) : PartOk (.wheel (2 * z) (ms ++ ms.map fun m => m + z)) := by
  obtain ⟨h1, h2, h3, h4, h5⟩ := h
  have hl := marks_len ms 0 z h5 fun m hm => h4 m hm
  refine ⟨by omega, Int.lt_of_le_of_lt (b := 2 ^ 100) (by omega) (by decide +kernel), by simp; omega, fun m hm => ?_, pw_app h5 ?_ fun x hx y hy => ?_⟩
  · rcases List.mem_append.mp hm with hm | hm
    · have := h4 m hm; omega
    · obtain ⟨y, hy, rfl⟩ := List.mem_map.mp hm
      have := h4 y hy; omega
  · rw [List.pairwise_map]; exact h5.imp fun h => by omega
  · obtain ⟨w, hw, rfl⟩ := List.mem_map.mp hy
    have a := h4 x hx
    have b := h4 w hw
    omega
theorem r_wheels (c : Int) :
    ∃ l st, s_law_wheels [.int c] = .ok (.tup [.lst false (l.map encP), encS st]) ∧ TrainOk l ∧ StandOk l st ∧ prodN l ≤ 500 ∧ 1 ≤ l.length ∧ l.length ≤ 4 ∧ ∀ q ∈ l, isWheel q := by
  have main : wpR (s_law_wheels [.int c]) (fun d => ∃ l st, d = .tup [.lst false (l.map encP), encS st] ∧ TrainOk l ∧ StandOk l st ∧ prodN l ≤ 500 ∧ 1 ≤ l.length ∧ l.length ≤ 4 ∧ ∀ q ∈ l, isWheel q) := by
    unfold s_law_wheels
    refine def_run rfl ?_
    have hm := mixN_lo c 20
    have hm2 := mixN_lo c 21
    have hm5 : 0 ≤ mixN c 20 % 4 ∧ mixN c 20 % 4 < 4 := by omega
    simp (disch := omega) [r_mix, modD_ok]
    obtain ⟨I, hI⟩ : ∃ I : Nat → Sl → Prop, I = fun i m => ∃ (l : List Part) (st : List Int) (r : Int) (x y z u : Option D), m = [some (.int c), some (.lst true (l.map encP)), some (encS st), some (.int r), x, y, z, u] ∧ l.length = i ∧ (∀ q ∈ l, PartOk q) ∧ StandOk l st ∧ 1 ≤ r ∧ r ≤ 500 ∧ prodN l * r ≤ 500 ∧ ∀ q ∈ l, isWheel q := ⟨_, rfl⟩
    refine wp_rng I ?_ (fun i hi m hm => ?_) (fun m hm => ?_)
    · rw [hI]; exact ⟨[], [], 500, none, none, none, none, by simp [encS], rfl, by simp, trivial, by omega, by omega, by simp [prodN], by simp⟩
    · rw [hI] at hm
      obtain ⟨l, st, r, x, y, z, u, rfl, hl, hq, hs, hr1, hr2, hp, hw⟩ := hm
      have hlo := mixN_lo c (2 * i)
      have hlo2 := mixN_lo c (2 * i + 1)
      generalize hN : mixN c (2 * i) = N at hlo
      obtain ⟨z0, ms0, e0, k0, k1⟩ := r_part_7w (N / 8 * 8 + N % 4) 6 (by omega) (by omega) (by omega) (by omega)
      have hsl := hs.length
      have sl : st.length ≤ 10000 := by omega
      have hls : l.length < sizeLine := by rw [sizeBig]; omega
      have fin : ∀ z ms u, PartOk (.wheel z ms) → z ≤ r → I (i + 1) [some (.int c), some (.lst true ((l ++ [Part.wheel z ms]).map encP)), some (encS (st ++ [mixN c (2 * i + 1) % z])), some (.int (r / z)), some (.int i), some (.int N), some (encP (.wheel z ms)), u] := fun z ms u hqo hqn => by
        have n1 := hqo.1
        rw [hI]
        refine ⟨l ++ [Part.wheel z ms], st ++ [mixN c (2 * i + 1) % z], r / z, _, _, _, _, rfl, by simp [hl], ?_, hs.app (Int.emod_nonneg _ (by omega)) (Int.emod_lt_of_pos _ (by omega)), ?_, ?_, ?_, ?_⟩
        · intro a ha
          rcases List.mem_append.mp ha with h | h
          · exact hq a h
          · rw [List.mem_singleton.mp h]; exact hqo
        · exact (Int.le_ediv_iff_mul_le (by omega)).mpr (by omega)
        · have := Int.ediv_le_self z (show 0 ≤ r by omega); omega
        · rw [prodN_app, Int.mul_assoc]
          have a1 : z * (r / z) ≤ r := Int.mul_ediv_self_le (by omega)
          have a2 := prodN_pos hq
          have := Int.mul_le_mul_of_nonneg_left a1 (show 0 ≤ prodN l by omega)
          exact Int.le_trans this hp
        · intro a ha
          rcases List.mem_append.mp ha with h | h
          · exact hw a h
          · rw [List.mem_singleton.mp h]; trivial
      have zp := k0.1
      have f1 := fun u => fin 1 [] u ⟨by omega, by decide +kernel, by simp, by simp, by simp⟩ (by omega)
      have cu : ∀ xs : List D, cutA xs none (some 0) = [] := fun xs => by rw [show (0 : Int) = ((0 : Nat) : Int) from rfl, cut_head]; rfl
      by_cases c0 : mixN c 21 % 2 = 1
      · have kd := dbl_ok k0 (by omega)
        have ml := k0.2.2.1
        have e5 := lcGo_map1 D.int (g := putR 7) (f := e2 addD (eVar 7) (e2 ixD (eVar 6) (eC (.int 1))))
          (m := [some (.int c), some (.lst true (l.map encP)), some (encS st), some (.int r), some (.int i), some (.int N), some (encP (.wheel z0 ms0)), none]) (fun m : Int => D.int (m + z0)) ms0 (fun a ha =>
            ⟨[some (.int c), some (.lst true (l.map encP)), some (encS st), some (.int r), some (.int i), some (.int N), some (encP (.wheel z0 ms0)), some (.int a)], by simp, by simp [encP], by simp⟩)
        have e6 : (ms0.map fun m : Int => D.int (m + z0)) = (ms0.map fun m => m + z0).map D.int := by rw [List.map_map]; rfl
        rw [e6] at e5
        have e7 : addD (.tup (ms0.map .int)) (.tup ((ms0.map fun m => m + z0).map .int)) = .ok (.tup ((ms0 ++ ms0.map fun m => m + z0).map .int)) := by rw [addD_tup (by simp; omega)]; simp
        have ml2 : (ms0.map fun m => m + z0).length ≤ 1000000 := by simp; omega
        have hT := hasT_encP (.wheel (2 * z0) (ms0 ++ ms0.map fun m => m + z0))
        have f2 := fun u h => fin (2 * z0) (ms0 ++ ms0.map fun m => m + z0) u kd h
        generalize (ms0 ++ ms0.map fun m => m + z0) = M at *
        generalize (ms0.map fun m => m + z0) = M2 at *
        simp only [encP, List.map_append, List.map_cons, List.map_nil] at f1 f2 e0 hT e5
        simp (disch := omega) [r_mix, hN, mulD_l, mulD_r, e0, divD_s, modD_ok, c0, itemsN, items]
        rw [e5]
        by_cases c1 : r < 2 * z0
        · simp (disch := omega) [r_mix, hN, mulD_l, mulD_r, e7, small (show M2.length ≤ 16777216 by omega), c1, cu, divD_s, modD_ok, add1 sl, hls]
          simpa using f1 _
        · simp (disch := omega) [r_mix, hN, mulD_l, mulD_r, e7, small (show M2.length ≤ 16777216 by omega), c1, divD_s, modD_ok, add1 sl, hls, hT]
          simpa using f2 _ (by omega)
      · by_cases c1 : r < z0
        · simp only [encP, List.map_append, List.map_cons, List.map_nil] at f1 e0
          simp (disch := omega) [r_mix, hN, mulD_l, mulD_r, e0, c0, c1, cu, divD_s, modD_ok, add1 sl, hls]
          simpa using f1 _
        · have f := fun u => fin z0 ms0 u k0 (by omega)
          have hT := hasT_encP (.wheel z0 ms0)
          simp only [encP, List.map_append, List.map_cons, List.map_nil] at f e0 hT
          simp (disch := omega) [r_mix, hN, mulD_l, mulD_r, e0, c0, c1, divD_s, modD_ok, add1 sl, hls, hT]
          simpa using f _
    · rw [hI] at hm
      obtain ⟨l, st, r, x, y, z, u, rfl, hl, hq, hs, hr1, hr2, hp, hw⟩ := hm
      have hpp := prodN_pos hq
      have : prodN l * 1 ≤ prodN l * r := Int.mul_le_mul_of_nonneg_left hr1 (by omega)
      simp
      exact ⟨l, st, ⟨rfl, rfl⟩, ⟨hq, by omega⟩, hs, by omega, by omega, by omega, hw⟩
  obtain ⟨d, e, l, st, rfl, h⟩ := wpR_ex main
  exact ⟨l, st, e, h⟩
end CK

/-! PtV5: great wheels -/
namespace CK
open PySem PySem.Spec PyProof.Rows L2 CT
theorem r_great_3 (c : Int) :
    ∃ l st, s_law_great_3 [.int c] = .ok (.tup [.lst false (l.map encP), encS st]) ∧ TrainOk l ∧ StandOk l st ∧ prodN l ≤ 2001 ∧ 1 ≤ l.length ∧ l.length ≤ 4 ∧ ∀ q ∈ l, isWheel q := by
  have m1 := mixN_lo c 30
  have m2 := mixN_lo c 31
  have m3 := mixN_lo c 32
  have main : wpR (s_law_great_3 [.int c]) (fun d => ∃ l st, d = .tup [.lst false (l.map encP), encS st] ∧ TrainOk l ∧ StandOk l st ∧ prodN l ≤ 2001 ∧ 1 ≤ l.length ∧ l.length ≤ 4 ∧ ∀ q ∈ l, isWheel q) := by
    generalize hd : mixN c 30 = d at m1
    generalize he : mixN c 31 = e at m2
    have sz : ∀ n : Nat, n ≤ 100 → n < sizeLine := fun n h => by rw [sizeBig]; omega
    obtain ⟨T, hT⟩ : ∃ T : List (List Part), T = [[.wheel (501 + d % 1500) [0, 1 + e % 500]], [.wheel (23 + d % 22) [0], .wheel (23 + e % 22) [0, 1 + e % 21]], [.wheel (23 + e % 22) [], .wheel (23 + d % 22) [0]]] := ⟨_, rfl⟩
    have hTl : ∃ l : List Part, T[(mixN c 32 % 3).toNat]? = some l ∧ TrainOk l ∧ prodN l ≤ 2001 ∧ 1 ≤ l.length ∧ l.length ≤ 4 ∧ ∀ q ∈ l, isWheel q := by
      have b1 : ∀ k : Int, 0 ≤ k → k < 10000 → k < 2 ^ 2000 := fun k _ h => Int.lt_of_le_of_lt (b := 2 ^ 100) (by omega) (by decide +kernel)
      have P0 : PartOk (.wheel (501 + d % 1500) [0, 1 + e % 500]) := ⟨by omega, b1 _ (by omega) (by omega), by simp, by simp; omega, by simp; omega⟩
      have P1 : PartOk (.wheel (23 + d % 22) [0]) := ⟨by omega, b1 _ (by omega) (by omega), by simp, by simp; omega, by simp⟩
      have P2 : PartOk (.wheel (23 + e % 22) [0, 1 + e % 21]) := ⟨by omega, b1 _ (by omega) (by omega), by simp, by simp; omega, by simp; omega⟩
      have P3 : PartOk (.wheel (23 + e % 22) []) := ⟨by omega, b1 _ (by omega) (by omega), by simp, by simp, by simp⟩
      have pr : ∀ a b : Int, 0 ≤ a → a ≤ 44 → 0 ≤ b → b ≤ 44 → a * b ≤ 2001 := fun a b h1 h2 h3 h4 => by
        have := Int.mul_le_mul h2 h4 h3 (show (0 : Int) ≤ 44 by omega)
        omega
      have : mixN c 32 % 3 = 0 ∨ mixN c 32 % 3 = 1 ∨ mixN c 32 % 3 = 2 := by omega
      rcases this with h | h | h <;> rw [h, hT]
      · exact ⟨_, rfl, ⟨by simpa using P0, by simp⟩, by simp [prodN, nplaces]; omega, by simp, by simp, by simp [isWheel]⟩
      · exact ⟨_, rfl, ⟨by simpa using ⟨P1, P2⟩, by simp⟩, by simp [prodN, nplaces]; exact pr _ _ (by omega) (by omega) (by omega) (by omega), by simp, by simp, by simp [isWheel]⟩
      · exact ⟨_, rfl, ⟨by simpa using ⟨P3, P1⟩, by simp⟩, by simp [prodN, nplaces]; exact pr _ _ (by omega) (by omega) (by omega) (by omega), by simp, by simp, by simp [isWheel]⟩
    obtain ⟨l, hl, hok, hp, l1, l2, hw⟩ := hTl
    have hix : ixD (.lst true (T.map fun l => .lst false (l.map encP))) (.int (mixN c 32 % 3)) = .ok (.lst false (l.map encP)) := by
      have := ixD_lst (t := true) (xs := T.map fun l => D.lst false (l.map encP)) (i := (mixN c 32 % 3).toNat) (x := .lst false (l.map encP)) (by rw [List.getElem?_map, hl]; rfl)
      rw [show (((mixN c 32 % 3).toNat : Nat) : Int) = mixN c 32 % 3 by omega] at this
      exact this
    rw [hT] at hix
    simp only [List.map_cons, List.map_nil, encP] at hix
    have ec := fun (v4 : Option D) => lcGo_map1 (fun p : Part × Nat => D.tup [.int (p.2 : Int), encP p.1]) (g := gTupR 2 (gsCons (putR 6) (gsCons (putR 7) gsNil))) (f := e2 modD (eA (callF s_law_mix) (aCons (eVar 0) (aCons (e2 addD (eC (.int 33)) (eVar 6)) aNil))) (e2 ixD (eVar 7) (eC (.int 1))))
      (m := [some (.int c), some (.int d), some (.int e), some (.int (501 + d % 1500)), v4, some (.lst false (l.map encP)), none, none]) (fun q => D.int (mixN c (33 + q.2) % nplaces q.1)) l.zipIdx (fun q hq => by
        obtain ⟨q, i⟩ := q
        have hi := List.mem_zipIdx hq
        have hm : q ∈ l := by rw [hi.2.2]; exact List.getElem_mem _
        have hn := nplaces_pos (hok.1 q hm)
        refine ⟨[some (.int c), some (.int d), some (.int e), some (.int (501 + d % 1500)), v4, some (.lst false (l.map encP)), some (.int i), some (encP q)], by simp, ?_, rfl⟩
        simp (disch := omega) [r_mix, nplaces_wheel (hw q hm), modD_ok])
    obtain ⟨st, hst⟩ : ∃ st : List Int, st = l.zipIdx.map fun q => mixN c (33 + q.2) % nplaces q.1 := ⟨_, rfl⟩
    have e2 : (l.zipIdx.map fun q => D.int (mixN c (33 + q.2) % nplaces q.1)) = st.map D.int := by rw [hst, List.map_map]; rfl
    rw [e2] at ec
    have hE : enumI false (.lst false (l.map encP)) = .ok (l.zipIdx.map fun p => D.tup [.int (p.2 : Int), encP p.1]) := by rw [← enumL_map]; simp [enumI]
    have sok : StandOk l st := StandOk_of (by rw [hst]; simp) fun i x q hx hq => by
      rw [hst, List.getElem?_map, List.getElem?_zipIdx, hq] at hx
      simp at hx
      have hn := nplaces_pos (hok.1 q (List.mem_of_getElem? hq))
      rw [← hx]
      exact ⟨Int.emod_nonneg _ (by omega), Int.emod_lt_of_pos _ (by omega)⟩
    have sl := sok.length
    unfold s_law_great_3
    refine def_run rfl ?_
    simp (disch := omega) [r_mix, hd, he, modD_ok, sz, hix, hE]
    rw [ec]
    simp [small (show st.length ≤ 16777216 by omega)]
    exact ⟨l, st, ⟨rfl, rfl⟩, hok, sok, hp, l1, l2, hw⟩
  obtain ⟨d, e, l, st, rfl, h⟩ := wpR_ex main
  exact ⟨l, st, e, h⟩
end CK

/-! PtV6: a still wheel -/
namespace CK
open PySem PySem.Spec PyProof.Rows L2 CT
theorem lawT_still : ∀ {l : List Part} {st : List Int} {w : Int}, st.length = l.length → Part.wheel 1 [] ∈ l → (w = 0 ∨ w = 1 ∨ w = -1) → (lawT l st w).2 = 0
  | [], _, _, _, h, _ => by simp at h
  | q :: l, [], _, hl, _, _ => by simp at hl
  | q :: l, p :: st, w, hl, h, hw => by
    rw [lawT]
    split
    · rfl
    · rename_i hz
      simp only
      rcases List.mem_cons.mp h with e | h
      · subst e
        have : (pushL (.wheel 1 []) p w).2 = 0 := by
          have : w = 1 ∨ w = -1 := by omega
          rcases this with e | e <;> subst e <;> simp [pushL]
        rw [this, lawT_zero]
      · exact lawT_still (by simpa using hl) h (by have := pushL_sgn (q := q) (p := p) (w := w) (by omega); omega)
theorem stN_still {a g : List Part} {s t : List Int} (ha : ∀ q ∈ a, PartOk q) (hw : ∀ q ∈ a, isWheel q) (hg : ∀ q ∈ g, PartOk q) (hs : StandOk a s) (ht : StandOk g t) :
    stN (a ++ .wheel 1 [] :: g) (s ++ 0 :: t) (prodN a).toNat = s ++ 0 :: t := by
  have hp := prodN_pos ha
  have e1 := pushT_turn 1 ha hw hs
  rw [Int.mul_one] at e1
  unfold stN
  rw [show (((prodN a).toNat : Nat) : Int) = prodN a by omega, pushT_app hs.length, e1, pushT]
  have e2 : pushP (.wheel 1 []) 0 1 (pushT a s 1 (prodN a)).2 = (0, 0) := by simp [pushP, metN, Int.emod_one]
  rw [e2]
  simp only
  rw [pushT_zero hg ht]
theorem isW (z : Int) (ms : List Int) : isWheel (.wheel z ms) := trivial
theorem StandOk.glue {a b : List Part} {s t : List Int} (h : StandOk a s) (h' : StandOk b t) : StandOk (a ++ b) (s ++ t) := h.join h'
theorem r_least_still {a g : List Part} {s t : List Int} (h : Trn (a ++ .wheel 1 [] :: g)) (ha : ∀ q ∈ a, PartOk q) (hw : ∀ q ∈ a ++ .wheel 1 [] :: g, isWheel q) (hs : StandOk a s) (ht : StandOk g t) (hp : prodN a ≤ 100000) :
    s_least_wheel [.lst false ((a ++ .wheel 1 [] :: g).map encP), encS (s ++ 0 :: t)] = .ok (encP (.wheel 1 [])) := by
  have hg : ∀ q ∈ g, PartOk q := fun q hq => h.ok.1 q (by simp [hq])
  have hpp := prodN_pos ha
  have st : StandOk (a ++ .wheel 1 [] :: g) (s ++ 0 :: t) := hs.glue (b := .wheel 1 [] :: g) (t := 0 :: t) ⟨by omega, by simp [nplaces], ht⟩
  have z : ∀ k, outN (a ++ .wheel 1 [] :: g) (s ++ 0 :: t) k = 0 := fun k => lawT_still (stN_ok h.ok.1 st k).length (by simp) (by omega)
  have := r_least_wheel (N := (prodN a).toNat) (p := 1) h st hw (by omega) (by omega) (stN_still ha (fun q hq => hw q (by simp [hq])) hg hs ht) (by omega) (fun i => by rw [z, z]) (fun t ht _ => ht)
  rw [this]
  congr 2
  have e : leastM (outN (a ++ .wheel 1 [] :: g) (s ++ 0 :: t)) 1 = [] := by simp [leastM, z]
  rw [e]; rfl
theorem r_still_right (c : Int) : s_law_still_right [.int c] = .ok (.bl true) := by
  have p30 : powD (.int 10) (.int 30) = .ok (.int 1000000000000000000000000000000) := by rw [powD_lit (by decide +kernel)]; rfl
  have m1 := mixN_lo c 35
  have m2 := mixN_hi c 35
  have m3 := mixN_lo c 36
  have m4 := mixN_hi c 36
  have m5 := mixN_lo c 37
  have m6 := mixN_hi c 37
  obtain ⟨z, hz⟩ : ∃ z, z = 1000000000000000000000000000000 + mixN c 35 * 1000000000000000000000000000000 + mixN c 36 := ⟨_, rfl⟩
  have z1 : 10 ≤ z := by omega
  have zb : z < 2 ^ 2000 := Int.lt_of_le_of_lt (b := 2 ^ 200) (by omega) (by decide +kernel)
  have zm : mixN c 37 < z := by omega
  obtain ⟨l, s, ew, hok, hs, hp, l1, l2, hw⟩ := r_wheels c
  have k1 : PartOk (.wheel z [5, 6]) := ⟨by omega, zb, by simp, by simp; omega, by simp⟩
  have k2 : PartOk (.wheel 1 [0]) := ⟨by omega, by decide +kernel, by simp, by simp, by simp⟩
  have k3 : PartOk (.wheel z [6]) := ⟨by omega, zb, by simp, by simp; omega, by simp⟩
  have k4 : PartOk (.wheel 1 []) := ⟨by omega, by decide +kernel, by simp, by simp, by simp⟩
  have t1 : Trn [.wheel z [5, 6]] := trn_of ⟨by simpa using k1, by simp⟩ (by simp)
  have t2 : Trn [.wheel 1 [0]] := trn_of ⟨by simpa using k2, by simp⟩ (by simp)
  have t3 : Trn [.wheel z [6]] := trn_of ⟨by simpa using k3, by simp⟩ (by simp)
  have t4 : Trn [.wheel 1 []] := trn_of ⟨by simpa using k4, by simp⟩ (by simp)
  have tl := trn_of hok (by omega)
  have w1 := r_worn (i := 0) (z := z) (ms := [5, 6]) (m := 5) t1 rfl
  have w2 := r_worn (i := 0) (z := 1) (ms := [0]) (m := 0) t2 rfl
  simp [wornP] at w1 w2
  have j1 := r_joined t4 t3 (by simp)
  have j2 := r_joined tl t4 (by simp; omega)
  have tl4 := tl.app t4 (by simp; omega)
  have j3 := r_joined tl4 t3 (by simp; omega)
  have g1 : StandOk [.wheel z [6]] [mixN c 37] := ⟨m5, by simpa [nplaces] using zm, trivial⟩
  have s1 := r_least_still (a := []) (s := []) (g := [.wheel z [6]]) (t := [mixN c 37]) (t4.app t3 (by simp)) (by simp) (by simp [isWheel]) trivial g1 (by simp [prodN])
  have hw' : ∀ q ∈ l ++ Part.wheel 1 [] :: [.wheel z [6]], isWheel q := fun q hq => by
    rcases List.mem_append.mp hq with h | h
    · exact hw q h
    · simp at h; rcases h with h | h <;> rw [h] <;> trivial
  have tt : Trn (l ++ Part.wheel 1 [] :: [.wheel z [6]]) := by simpa using tl4.app t3 (by simp; omega)
  have s2 := r_least_still (a := l) (s := s) (g := [.wheel z [6]]) (t := [mixN c 37]) tt hok.1 hw' hs g1 (by omega)
  have ad : addD (encS s) (.tup [.int 0, .int (mixN c 37)]) = .ok (encS (s ++ 0 :: [mixN c 37])) := by have := hs.length; exact add_stands (s := s) (t := [0, mixN c 37]) (by simp; omega)
  have ne := neD_self ((sh_encP (.wheel 1 [])).mono (show 3 ≤ 64 by omega))
  have eq := eqD_self ((sh_encP (.wheel 1 [])).mono (show 3 ≤ 64 by omega))
  have en : encS ([] ++ 0 :: [mixN c 37]) = .tup [.int 0, .int (mixN c 37)] := rfl
  rw [en] at s1
  rw [show l ++ [Part.wheel 1 []] ++ [.wheel z [6]] = l ++ Part.wheel 1 [] :: [.wheel z [6]] by simp] at j3
  generalize s ++ 0 :: [mixN c 37] = S at *
  obtain ⟨A, hA⟩ : ∃ A, A = (l ++ Part.wheel 1 [] :: [.wheel z [6]]).map encP := ⟨_, rfl⟩
  obtain ⟨B, hB⟩ : ∃ B, B = (l ++ [Part.wheel 1 []]).map encP := ⟨_, rfl⟩
  rw [← hA] at j3 s2
  rw [← hB] at j2 j3
  have stA : stillL A = A := by rw [hA, stillL_encP]
  have stB : stillL B = B := by rw [hB, stillL_encP]
  have hA2 : hasTL A = false := by rw [hA, hasTL_encP]
  have hB2 : hasTL B = false := by rw [hB, hasTL_encP]
  simp only [List.map_append, List.map_cons, List.map_nil, encP, List.cons_append, List.nil_append] at j1 j2 j3 w1 w2 s1 s2 ne eq
  unfold s_law_still_right
  refine def_ok1 rfl ?_
  simp (disch := omega) [r_mix, p30, mulD_l, ← hz, w1, w2, j1, j2, j3, ew, s1, s2, ad, ne, eq, stA, stB, hA2, hB2]
end CK

/-! PtV7: small things for law 84 -/
namespace CK
open PySem PySem.Spec PyProof.Rows L2 CT
theorem r_cell_at0 (L : List Int) : ∃ v, s_law_cell_at [.lst false (L.map .int), .int 0] = .ok (.int v) := by
  cases L with
  | nil =>
    refine ⟨0, ?_⟩
    unfold s_law_cell_at
    refine def_ok1 rfl ?_
    simp
  | cons x r =>
    refine ⟨x, ?_⟩
    have e : ixD (.lst false (D.int x :: r.map .int)) (.int 0) = .ok (.int x) := ixD_lst (i := 0) rfl
    have p : (0 : Int) < (r.length : Int) + 1 := by omega
    unfold s_law_cell_at
    refine def_ok1 rfl ?_
    simp [e, p]
theorem inD_bls (l : List Int) : inD (.bl true) (.lst false (l.map fun _ => .bl false)) = .ok (.bl false) := by
  have sh : Sh 64 (.lst false (l.map fun _ => D.bl false)) := (sh_lst (n := 1) (shl_map (fun a => sh_bl _ false) l)).mono (by omega)
  simp only [inD]
  have h3 := sh_shaped sh (by omega)
  simp only [py] at h3
  rw [if_pos (by rw [sh_shaped (sh_bl 64 true) (by omega), h3]; rfl)]
  congr 2
  unfold memD
  rw [List.any_map, List.any_eq_false]
  intro x _
  simp [Function.comp, eqvD, py, PyData.eqv]
theorem leastM_ok (f : Nat → Int) {p : Nat} (p1 : 1 ≤ p) (p2 : p ≤ 100000) : PartOk (.wheel p (leastM f p)) := by
  have hb := range_filt_ok (fun i => decide (f (i + p - 1) = 1)) p (leastM f p) rfl
  exact ⟨by omega, Int.lt_of_le_of_lt (b := 2 ^ 100) (by omega) (by decide +kernel), by omega, hb.1, hb.2.1⟩
/-- what is asked of a found wheel -/
theorem found_ok {l : List Part} {st : List Int} (h : TrainOk l) (hl : 1 ≤ l.length) (hs : StandOk l st) (hw : ∀ q ∈ l, isWheel q) (hp : prodN l ≤ 100000) :
    ∃ (p : Int) (M : List Int), s_least_wheel [.lst false (l.map encP), encS st] = .ok (encP (.wheel p M)) ∧ s_law_due_11 [.lst false (l.map encP), encS st] = .ok (encP (.wheel p M)) ∧ PartOk (.wheel p M) ∧ M.length ≤ 1000000 := by
  have t := trn_of h hl
  have hpp := prodN_pos h.1
  have e := pushT_turn 1 h.1 hw hs
  rw [Int.mul_one] at e
  have hN : prodN l = ((prodN l).toNat : Int) := by omega
  have eN : stN l st (prodN l).toNat = st := by unfold stN; rw [← hN, e]
  obtain ⟨p, p1, p2, p3, p4⟩ := per_least (N := (prodN l).toNat) (by omega) (outN_per h.1 hs eN)
  have a := r_least_wheel t hs hw (by omega) (by omega) eN p1 p3 p4
  have b := r_due_11 t hs hw hN (by omega) (by omega) eN p1 p3 p4
  have ok := leastM_ok (outN l st) p1 (by omega)
  exact ⟨_, _, a, b, ok, ok.2.2.1⟩
end CK

/-! PtU2: what comes again; dicts reckoned with -/
namespace CK
open PySem PySem.Spec PyProof.Rows L2 CT
/-! ### orbits -/
section
variable {α : Type} (f : α → α) (g : α → Int)
def orb : Nat → α → α
  | 0, s => s
  | n + 1, s => f (orb n s)
def gsum : Nat → α → Int
  | 0, _ => 0
  | n + 1, s => gsum n s + g (orb f n s)
theorem orb_add (a : Nat) : ∀ (b : Nat) (s : α), orb f (a + b) s = orb f b (orb f a s)
  | 0, _ => rfl
  | b + 1, s => by rw [← Nat.add_assoc, orb, orb, orb_add a b s]
theorem gsum_add (a : Nat) : ∀ (b : Nat) (s : α), gsum f g (a + b) s = gsum f g a s + gsum f g b (orb f a s)
  | 0, s => by simp [gsum]
  | b + 1, s => by rw [← Nat.add_assoc, gsum, gsum, gsum_add a b s, orb_add f a b s]; omega
theorem orb_mul {c : Nat} {t : α} (h : orb f c t = t) : ∀ q : Nat, orb f (c * q) t = t ∧ gsum f g (c * q) t = (q : Int) * gsum f g c t
  | 0 => ⟨rfl, by simp [gsum]⟩
  | q + 1 => by
    obtain ⟨h1, h2⟩ := orb_mul h q
    rw [Nat.mul_succ, orb_add, gsum_add, h1, h, h2]
    refine ⟨rfl, ?_⟩
    rw [Int.natCast_add, Int.add_mul]; simp
/-- from i on it comes again each c -/
theorem orb_per {i c : Nat} {s : α} (h : orb f (i + c) s = orb f i s) (n : Nat) :
    orb f (i + n) s = orb f (i + n % c) s ∧ gsum f g (i + n) s = gsum f g (i + n % c) s + (n / c : Nat) * (gsum f g (i + c) s - gsum f g i s) := by
  rw [orb_add] at h
  have hq := orb_mul f g h (n / c)
  have e : n = c * (n / c) + n % c := (Nat.div_add_mod n c).symm
  constructor
  · rw [orb_add f i n, orb_add f i (n % c)]
    rw [show orb f n (orb f i s) = orb f (c * (n / c) + n % c) (orb f i s) from congrArg (fun k => orb f k _) e, orb_add, hq.1]
  · rw [gsum_add f g i n, gsum_add f g i (n % c), gsum_add f g i c]
    rw [show gsum f g n (orb f i s) = gsum f g (c * (n / c) + n % c) (orb f i s) from congrArg (fun k => gsum f g k _) e, gsum_add, hq.1, hq.2]
    rw [show gsum f g i s + gsum f g c (orb f i s) - gsum f g i s = gsum f g c (orb f i s) by omega]
    omega
def orbL (k : Nat) (s : α) : List α := (List.range k).map fun i => orb f i s
theorem orbL_succ (k : Nat) (s : α) : orbL f (k + 1) s = orbL f k s ++ [orb f k s] := by unfold orbL; rw [List.range_succ]; simp
theorem orbL_len (k : Nat) (s : α) : (orbL f k s).length = k := by simp [orbL]
theorem orbL_get {k i : Nat} {s : α} (h : i < k) : (orbL f k s)[i]? = some (orb f i s) := by simp [orbL, h]
theorem mem_orbL {k : Nat} {s x : α} (h : x ∈ orbL f k s) : ∃ i, i < k ∧ orb f i s = x := by
  obtain ⟨i, hi, e⟩ := List.mem_map.mp h
  exact ⟨i, List.mem_range.mp hi, e⟩
theorem gsum_le {B : Int} (P : α → Prop) (hf : ∀ s, P s → P (f s)) (hg : ∀ s, P s → -B ≤ g s ∧ g s ≤ B) {s : α} (hs : P s) : ∀ n : Nat, P (orb f n s) ∧ -((n : Int) * B) ≤ gsum f g n s ∧ gsum f g n s ≤ (n : Int) * B
  | 0 => ⟨hs, by simp [gsum]⟩
  | n + 1 => by
    obtain ⟨h1, h2, h3⟩ := gsum_le P hf hg hs n
    have := hg _ h1
    refine ⟨hf _ h1, ?_⟩
    rw [gsum, Int.natCast_add, Int.add_mul]
    simp
    omega
end
theorem nodup_le {α : Type} [DecidableEq α] : ∀ {xs ys : List α}, xs.Nodup → (∀ x ∈ xs, x ∈ ys) → xs.length ≤ ys.length
  | [], _, _, _ => by simp
  | x :: xs, ys, h, hs => by
    rw [List.nodup_cons] at h
    have h1 : x ∈ ys := hs x (by simp)
    have ih := nodup_le (xs := xs) (ys := ys.erase x) h.2 fun y hy => (List.mem_erase_of_ne (fun e => h.1 (by rw [← e]; exact hy))).mpr (hs y (by simp [hy]))
    rw [List.length_erase_of_mem h1] at ih
    have : 0 < ys.length := List.length_pos_of_mem h1
    simp only [List.length_cons]; omega
/-! ### dicts -/
@[simp] theorem eDct_0 {α : Type} (m : Sl) (k : List (List Int) → List D → R α) (q : DT) (ks : List (List Int)) (ds : List D) : eDct 0 (some (.dct q ks ds) :: m) k = k ks ds := nr rfl
@[simp] theorem eDct_s {α : Type} (i : Nat) (x : Option D) (m : Sl) (k : List (List Int) → List D → R α) : eDct (i + 1) (x :: m) k = eDct i m k := nr rfl
@[simp] theorem dctAt_0 (m : Sl) (k : DT → List (List Int) → List D → RS) (q : DT) (ks : List (List Int)) (ds : List D) : dctAt 0 (some (.dct q ks ds) :: m) k = k q ks ds := nr rfl
@[simp] theorem dctAt_s (i : Nat) (x : Option D) (m : Sl) (k : DT → List (List Int) → List D → RS) : dctAt (i + 1) (x :: m) k = dctAt i m k := nr rfl
@[simp] theorem keyR_S (s : List Int) : keyR (encS s) = .ok s := by simp [keyR, encS, keyOf, intsOf_map]
@[simp] theorem eInD_eq (c : Bool) (i : Nat) (f : SemE) (m : Sl) : eInD c i f m = (f m).bind fun y => eDct i m fun ks ds => hasR c ks y := nr rfl
@[simp] theorem eGetD_eq (i : Nat) (f : SemE) (m : Sl) : eGetD i f m = eDct i m fun ks ds => (f m).bind fun y => atR ks ds y := nr rfl
@[simp] theorem hasR_S (c : Bool) (ks : List (List Int)) (s : List Int) : hasR c ks (encS s) = .ok (.bl (dHas ks s == c)) := by simp [hasR]
theorem dHas_iff (ks : List (List Int)) (s : List Int) : dHas ks s = decide (s ∈ ks) := by
  unfold dHas
  induction ks with
  | nil => simp
  | cons k ks ih => rw [List.any_cons, ih]; simp [eq_comm]
theorem dAt_get : ∀ {ks : List (List Int)} {ds : List D} {i : Nat} {s : List Int} {d : D}, ks.Nodup → ks[i]? = some s → ds[i]? = some d → dAt ks ds s = some d
  | k :: ks, e :: ds, 0, s, d, _, h, h' => by simp at h h'; subst h h'; simp [dAt]
  | k :: ks, e :: ds, i + 1, s, d, hn, h, h' => by
    rw [List.nodup_cons] at hn
    simp only [List.getElem?_cons_succ] at h h'
    have hm := List.mem_of_getElem? h
    have hk : ¬ k = s := fun z => hn.1 (by rw [z]; exact hm)
    simp only [dAt, if_neg hk]
    exact dAt_get hn.2 h h'
  | [], _, _, _, _, _, h, _ => by simp at h
  | _ :: _, [], _, _, _, _, _, h => by simp at h
theorem dPutV_new {ks : List (List Int)} {ds : List D} {s : List Int} {d : D} (h : s ∉ ks) : dPutV ks ds s d = ds ++ [d] := by unfold dPutV; rw [dHas_iff]; simp [h]
theorem dPutK_new {ks : List (List Int)} {s : List Int} (h : s ∉ ks) : dPutK ks s = ks ++ [s] := by unfold dPutK; rw [dHas_iff]; simp [h]
theorem wp_noRet {r : RS} {Q : Po} (h : wp r ⟨Q.nx, fun _ => False, fun _ => False, fun _ => False, Q.ex⟩) : wp (noRet r) Q := by
  cases r <;> first | exact h | exact h.elim
def numL (k : Nat) : List D := (List.range k).map fun i : Nat => D.int (i : Int)
theorem numL_succ (k : Nat) : numL (k + 1) = numL k ++ [.int (k : Int)] := by unfold numL; rw [List.range_succ]; simp
theorem numL_get {k i : Nat} (h : i < k) : (numL k)[i]? = some (.int (i : Int)) := by simp [numL, h]
theorem dPairs_map {L : List (List Int)} : ∀ (n : Nat) (ds : List D), (∀ i, i < L.length → ds[i]? = some (.int ((n + i : Nat) : Int))) → ds.length = L.length → dPairs L ds = (L.zipIdx n).map fun p => .tup [encS p.1, .int (p.2 : Int)] := by
  induction L with
  | nil => intro n ds _ h; cases ds <;> simp_all [dPairs]
  | cons k L ih =>
    intro n ds h hl
    cases ds with
    | nil => simp at hl
    | cons d ds =>
      have h0 := h 0 (by simp)
      simp at h0
      subst h0
      rw [dPairs, List.zipIdx_cons, List.map_cons, ih (n + 1) ds (fun i hi => by have := h (i + 1) (by simpa using hi); simp only [List.getElem?_cons_succ] at this; rw [this]; congr 2; omega) (by simpa using hl)]
      rfl
theorem log_lt {i : Int} (h : -(10 ^ 40) ≤ i ∧ i ≤ 10 ^ 40) : i.natAbs.log2 < 200 := by
  by_cases c : i.natAbs = 0
  · rw [c]; decide
  · rw [Nat.log2_lt c]
    have : i.natAbs ≤ 10 ^ 40 := by omega
    exact Nat.lt_of_le_of_lt this (by decide)
theorem mulD_40 {i j : Int} (h : -(10 ^ 40) ≤ i ∧ i ≤ 10 ^ 40) (h' : -(10 ^ 40) ≤ j ∧ j ≤ 10 ^ 40) : mulD (.int i) (.int j) = .ok (.int (i * j)) :=
  mulD_ok (.inr (.inr (by have := log_lt h; have := log_lt h'; omega)))
theorem log_lt60 {i : Int} (h : -(10 ^ 60) ≤ i ∧ i ≤ 10 ^ 60) : i.natAbs.log2 < 300 := by
  by_cases c : i.natAbs = 0
  · rw [c]; decide
  · rw [Nat.log2_lt c]
    have : i.natAbs ≤ 10 ^ 60 := by omega
    exact Nat.lt_of_le_of_lt this (by decide +kernel)
theorem mulD_60 {i j : Int} (h : -(10 ^ 60) ≤ i ∧ i ≤ 10 ^ 60) (h' : -(10 ^ 60) ≤ j ∧ j ≤ 10 ^ 60) : mulD (.int i) (.int j) = .ok (.int (i * j)) :=
  mulD_ok (.inr (.inr (by have := log_lt60 h; have := log_lt60 h'; omega)))
theorem log_lt160 {i : Int} (h : -(10 ^ 160) ≤ i ∧ i ≤ 10 ^ 160) : i.natAbs.log2 < 600 := by
  by_cases c : i.natAbs = 0
  · rw [c]; decide
  · rw [Nat.log2_lt c]
    have : i.natAbs ≤ 10 ^ 160 := by omega
    exact Nat.lt_of_le_of_lt this (by decide +kernel)
theorem mulD_160 {i j : Int} (h : -(10 ^ 160) ≤ i ∧ i ≤ 10 ^ 160) (h' : -(10 ^ 160) ≤ j ∧ j ≤ 10 ^ 160) : mulD (.int i) (.int j) = .ok (.int (i * j)) :=
  mulD_ok (.inr (.inr (by have := log_lt160 h; have := log_lt160 h'; omega)))
/-! ### what a push shows at most -/
theorem pushT_le {l : List Part} (h : ∀ q ∈ l, PartOk q) {w : Int} (hw : w = 1 ∨ w = -1) : ∀ (n : Nat) {st : List Int}, StandOk l st → (pushT l st w (n : Int)).2 ≤ n
  | 0, st, hs => by rw [Int.natCast_zero, pushT_zero h hs]; simp
  | n + 1, st, hs => by
    have e := pushT_add (w := w) (a := (n : Int)) (b := 1) h hs hw (by omega) (by omega)
    have ih := pushT_le h hw n hs
    have h1 := (pushT_ok (w := w) (n := (n : Int)) h hs hw (by omega)).1
    have h2 := lawT_sgn (l := l) (st := (pushT l st w n).1) (w := w) (by omega)
    rw [lawT_eq h h1 hw] at h2
    have h3 : (pushT l (pushT l st w n).1 w 1).2 ≤ 1 := by
      have h4 := (pushT_ok (w := w) (n := 1) h h1 hw (by omega)).2
      rcases hw with rfl | rfl <;> omega
    rw [show (((n + 1 : Nat) : Int)) = (n : Int) + 1 by omega, e]
    show (pushT l st w n).2 + (pushT l (pushT l st w n).1 w 1).2 ≤ _
    omega
theorem pushI_le {l : List Part} (h : ∀ q ∈ l, PartOk q) {w n : Int} (hw : w = 1 ∨ w = -1) (hn : 0 ≤ n) {st : List Int} (hs : StandOk l st) (i : Nat) : -n ≤ (pushI l st i w n).2 ∧ (pushI l st i w n).2 ≤ n := by
  have h' : ∀ q ∈ l.drop i, PartOk q := fun q hq => h q (List.mem_of_mem_drop hq)
  obtain ⟨k, rfl⟩ := Int.eq_ofNat_of_zero_le hn
  have h1 := pushT_le h' hw k (hs.drop i)
  have h2 := (pushT_ok (w := w) (n := (k : Int)) h' (hs.drop i) hw (by omega)).2
  unfold pushI
  rcases hw with rfl | rfl <;> simp <;> omega
theorem walkN_le {l : List Part} (h : ∀ q ∈ l, PartOk q) {B : Int} : ∀ {row : List Deed} {st : List Int}, StandOk l st → (∀ d ∈ row, DeedOk l.length d ∧ d.n ≤ B) → -((row.length : Int) * B) ≤ (walkN l st row).2 ∧ (walkN l st row).2 ≤ (row.length : Int) * B
  | [], _, _, _ => by simp [walkN]
  | d :: row, st, hs, hr => by
    obtain ⟨⟨d1, d2, d3, d4⟩, d5⟩ := hr d (by simp)
    have h1 := pushI_le h d3 d4 hs d.i.toNat
    have h2 := walkN_le h (row := row) (pushI_ok (i := d.i.toNat) h hs d3 d4) fun x hx => hr x (by simp [hx])
    rw [walkN, List.length_cons, Int.natCast_add, Int.add_mul]
    simp
    omega
/-- the row done n times -/
def often (l : List Part) (row : List Deed) (n : Nat) (st : List Int) : List Int × Int := (orb (fun s => (walkN l s row).1) n st, gsum (fun s => (walkN l s row).1) (fun s => (walkN l s row).2) n st)
end CK

/-! PtU3: left_often -/
namespace CK
open PySem PySem.Spec PyProof.Rows L2 CT
def sumL (F : List Int → List Int) (G : List Int → Int) (st : List Int) (k : Nat) : List D := (List.range k).map fun i : Nat => D.int (gsum F G i st)
theorem sumL_succ (F : List Int → List Int) (G : List Int → Int) (st : List Int) (k : Nat) : sumL F G st (k + 1) = sumL F G st k ++ [.int (gsum F G k st)] := by unfold sumL; rw [List.range_succ]; simp
theorem sumL_len (F : List Int → List Int) (G : List Int → Int) (st : List Int) (k : Nat) : (sumL F G st k).length = k := by simp [sumL]
theorem sumL_noT (F : List Int → List Int) (G : List Int → Int) (st : List Int) (k : Nat) : hasTL (sumL F G st k) = false := by
  unfold sumL
  induction List.range k with
  | nil => rfl
  | cons i r ih => rw [List.map_cons, hasTL, ih]; rfl
theorem sumL_at (F : List Int → List Int) (G : List Int → Int) (st : List Int) {k i : Nat} (t : Bool) (h : i < k) : ixD (.lst t (sumL F G st k)) (.int (i : Int)) = .ok (.int (gsum F G i st)) := ixD_lst (by simp [sumL, h])
theorem numL_len (k : Nat) : (numL k).length = k := by simp [numL]
theorem r_left_oftenG {l : List Part} {st : List Int} {row : List Deed} {N : Nat} (h : Trn l) (hs : StandOk l st) (hr : RowOk l.length row) (hp : prodN l ≤ 2000 ∨ N ≤ 2000)
    (hg : ∀ s, StandOk l s → -(10 ^ 50) ≤ (walkN l s row).2 ∧ (walkN l s row).2 ≤ 10 ^ 50) (hn : (N : Int) ≤ 10 ^ 150) :
    s_left_often [.lst false (l.map encP), encS st, .lst false (row.map encDd), .int (N : Int)] = .ok (encR (often l row N st)) := by
  obtain ⟨F, hF⟩ : ∃ F : List Int → List Int, F = fun s => (walkN l s row).1 := ⟨_, rfl⟩
  obtain ⟨G, hG⟩ : ∃ G : List Int → Int, G = fun s => (walkN l s row).2 := ⟨_, rfl⟩
  have hok : ∀ s, StandOk l s → StandOk l (F s) := fun s z => by rw [hF]; exact walkN_ok h.ok.1 z hr.1
  have hgl := fun k : Nat => gsum_le F G (B := 10 ^ 50) (StandOk l) hok (fun s z => by rw [hG]; exact hg s z) hs k
  have hw : ∀ s, StandOk l s → s_walked [.lst false (l.map encP), encS s, .lst false (row.map encDd)] = .ok (.tup [encS (F s), .int (G s)]) := fun s z => by rw [hF, hG]; exact r_walked h.ok z.length hr
  have hS : ((allS l).length : Int) = prodN l := allS_len h.ok.1
  have hbd : ∀ k, k ≤ N → (orbL F k st).Nodup → k ≤ 2000 := fun k hkN hk => by
    have := nodup_le (ys := allS l) hk fun x hx => by
      obtain ⟨i, _, rfl⟩ := mem_orbL F hx
      exact allS_mem h.ok.1 (hgl i).1
    rw [orbL_len] at this
    omega
  have fin : often l row N st = (orb F N st, gsum F G N st) := by rw [hF, hG]; rfl
  rw [fin]
  have hN0 : ¬ (N : Int) < 0 := by omega
  unfold s_left_often
  refine def_ok1 rfl ?_
  simp [r_check_stdS h hs, r_check_rw h.ok hr, r_is_whole, isWholeB, hN0, sNewD]
  obtain ⟨I, hI⟩ : ∃ I : Nat → Sl → Prop, I = fun fuel m => ∃ (k : Nat) (a7 : Option D), fuel + k = 2001 ∧ k ≤ N ∧ (orbL F k st).Nodup ∧ m = [some (.lst false (l.map encP)), some (encS (orb F k st)), some (.lst false (row.map encDd)), some (.int (N : Int)), some (.dct ⟨none, false⟩ (orbL F k st) (numL k)), some (.lst true (sumL F G st k)), some (.int (gsum F G k st)), a7, none, none, none, none, none, none, none] := ⟨_, rfl⟩
  refine wp_while I 2001 ?_ (fun n m hm => ?_)
  · rw [hI]; exact ⟨0, none, by omega, by omega, by simp [orbL], rfl⟩
  · rw [hI] at hm
    obtain ⟨k, a7, hk, hkN, hnd, rfl⟩ := hm
    have hk2 := hbd k hkN hnd
    obtain ⟨g1, g2, g3⟩ := hgl k
    by_cases c1 : orb F k st ∈ orbL F k st
    · -- it has come
      refine ⟨false, by simp [dHas_iff, c1], fun z => (by cases z), fun _ => ?_⟩
      obtain ⟨i, hi, e⟩ := mem_orbL F c1
      have hi2 := hgl i
      obtain ⟨c, hc⟩ : ∃ c, k = i + c := ⟨k - i, by omega⟩
      obtain ⟨r, hr2⟩ : ∃ r, N = k + r := ⟨N - k, by omega⟩
      have hc0 : 0 < c := by omega
      have hmc : r % c < c := Nat.mod_lt _ hc0
      obtain ⟨rm, hrm⟩ : ∃ rm, rm = r % c := ⟨_, rfl⟩
      obtain ⟨q, hq⟩ : ∃ q, q = r / c := ⟨_, rfl⟩
      obtain ⟨A, hA⟩ : ∃ A, A = i + rm := ⟨_, rfl⟩
      have hAk : A < k := by omega
      have hat : atR (orbL F k st) (numL k) (encS (orb F k st)) = .ok (.int (i : Int)) := by
        simp [atR, dAt_get hnd (by rw [orbL_get F hi, e]) (numL_get hi)]
      have ek : (k : Int) - (i : Int) = (c : Int) := by omega
      have er : (N : Int) - (k : Int) = (r : Int) := by omega
      have hmod : modD (.int (r : Int)) (.int (c : Int)) = .ok (.int (rm : Int)) := by rw [modD_ok (by omega), hrm]; simp
      have hdiv : divD (.int (r : Int)) (.int (c : Int)) = .ok (.int (q : Int)) := by rw [divD_s (by omega) (by omega), hq]; simp
      have eA : (i : Int) + (rm : Int) = (A : Int) := by omega
      have i1 := sumL_at F G st (k := k) (i := i) true hi
      have i2 := sumL_at F G st (k := k) (i := A) true hAk
      have gA := hgl A
      have hrc : q ≤ r := by rw [hq]; exact Nat.div_le_self r c
      have hmul : mulD (.int (q : Int)) (.int (gsum F G k st - gsum F G i st)) = .ok (.int ((q : Int) * (gsum F G k st - gsum F G i st))) := by
        refine mulD_160 ⟨by omega, by omega⟩ ⟨?_, ?_⟩
        · have : (k : Int) ≤ 2000 := by omega
          have : (i : Int) ≤ 2000 := by omega
          omega
        · have : (k : Int) ≤ 2000 := by omega
          have : (i : Int) ≤ 2000 := by omega
          omega
      have per := orb_per F G (i := i) (c := c) (s := st) (by rw [← hc, e]) (c + r)
      rw [← hc, Nat.add_mod_left, Nat.add_div_left r hc0, show i + (c + r) = N by omega, ← hrm, ← hA, ← hq] at per
      simp [dHas_iff, c1, hat, sumL_len, ek, er, i1, hmod, eA, sItemsD]
      refine wp_noRet ?_
      rw [dPairs_map 0 (numL k) (fun j hj => by rw [orbL_len] at hj; rw [numL_get hj]; simp) (by rw [numL_len, orbL_len])]
      obtain ⟨J, hJ⟩ : ∃ J : Nat → Sl → Prop, J = fun j m => ∃ (a13 a14 : Option D), m = [some (.lst false (l.map encP)), some (encS (if A < j then orb F A st else orb F k st)), some (.lst false (row.map encDd)), some (.int (N : Int)), none, some (.lst true (sumL F G st k)), some (.int (gsum F G k st)), a7, some (.int (i : Int)), some (.int (c : Int)), some (.int (r : Int)), some (.int (gsum F G k st - gsum F G i st)), some (.int (A : Int)), a13, a14] := ⟨_, rfl⟩
      refine wp_map J ?_ (fun j p hp2 m hm => ?_) (fun m hm => ?_)
      · rw [hJ]; exact ⟨none, none, by simp⟩
      · rw [hJ] at hm
        obtain ⟨a13, a14, rfl⟩ := hm
        rw [List.getElem?_zipIdx] at hp2
        have hj : j < k := by
          by_cases z : j < k
          · exact z
          · rw [List.getElem?_eq_none (by rw [orbL_len]; omega)] at hp2; simp at hp2
        rw [orbL_get F hj] at hp2
        simp at hp2
        subst hp2
        by_cases z : j = A
        · subst z
          simp
          rw [hJ]
          exact ⟨some (encS (orb F j st)), some (.int (j : Int)), by simp⟩
        · have z' : ¬ (j : Int) = (A : Int) := by omega
          simp [z']
          rw [hJ]
          refine ⟨some (encS (orb F j st)), some (.int (j : Int)), ?_⟩
          have : (A < j + 1) = (A < j) := by apply propext; omega
          simp [this]
      · rw [hJ] at hm
        obtain ⟨a13, a14, rfl⟩ := hm
        have hl : A < ((orbL F k st).zipIdx 0).length := by simp [orbL_len, hAk]
        simp [hl, hdiv, hmul, i1, i2]
        rw [if_pos (by rw [orbL_len]; exact hAk)]
        obtain ⟨W, hW⟩ : ∃ W, W = (q : Int) * (gsum F G k st - gsum F G i st) := ⟨_, rfl⟩
        have e5 : gsum F G N st = gsum F G k st + W + gsum F G A st - gsum F G i st := by
          rw [per.2, show (((q + 1 : Nat) : Int)) = (q : Int) + 1 by omega, Int.add_mul, Int.one_mul, ← hW]; omega
        rw [← hW, ← e5, ← per.1]
        rfl
    · by_cases c2 : k < N
      · refine ⟨true, by simp [dHas_iff, c1, sumL_len, c2], fun _ => ?_, fun z => by cases z⟩
        simp [dPutK_new c1, dPutV_new c1, hw _ g1, sPutD, sumL_len, orbL_len, show k < sizeLine by rw [sizeBig]; omega]
        rw [hI]
        refine ⟨n - 1, by omega, k + 1, some (.int (G (orb F k st))), by omega, by omega, ?_, ?_⟩
        · rw [orbL_succ, List.nodup_append]
          refine ⟨hnd, by simp, fun x hx y hy => ?_⟩
          rw [List.mem_singleton.mp hy]
          exact fun z => c1 (by rw [← z]; exact hx)
        · rw [orbL_succ, numL_succ, sumL_succ]; rfl
      · refine ⟨false, by simp [dHas_iff, c1, sumL_len, c2], fun z => (by cases z), fun _ => ?_⟩
        have : k = N := by omega
        subst this
        simp [dHas_iff, c1, encR]
        rfl
theorem r_left_often {l : List Part} {st : List Int} {row : List Deed} {N : Nat} (h : Trn l) (hs : StandOk l st) (hr : RowOk l.length row) (hp : prodN l ≤ 2000)
    (hg : ∀ s, StandOk l s → -(10 ^ 30) ≤ (walkN l s row).2 ∧ (walkN l s row).2 ≤ 10 ^ 30) (hn : (N : Int) ≤ 10 ^ 40) :
    s_left_often [.lst false (l.map encP), encS st, .lst false (row.map encDd), .int (N : Int)] = .ok (encR (often l row N st)) :=
  r_left_oftenG h hs hr (.inl hp) (fun s z => by have := hg s z; omega) (by omega)
end CK

/-! PtU4: the law's own ways to the same -/
namespace CK
open PySem PySem.Spec PyProof.Rows L2 CT
theorem sh_stands (t : Bool) (L : List (List Int)) : Sh 64 (.lst t (L.map encS)) := (sh_lst (n := 2) (shl_map (fun s => sh_ints s 0 |>.mono (by omega)) L)).mono (by omega)
theorem inD_S (t : Bool) (L : List (List Int)) (s : List Int) : inD (encS s) (.lst t (L.map encS)) = .ok (.bl (decide (s ∈ L))) := by
  simp only [inD]
  have h3 := sh_shaped (sh_stands t L) (by omega)
  rw [show py (.lst t (L.map encS)) = .list (pyL (L.map encS)) from rfl] at h3
  rw [if_pos (by rw [sh_shaped (sh_encS s) (by omega), h3]; rfl)]
  congr 2
  unfold memD
  rw [List.any_map]
  induction L with
  | nil => simp
  | cons a L ih =>
    rw [List.any_cons, ih (sh_shaped (sh_stands t L) (by omega))]
    simp [Function.comp, eqv_S, eq_comm]
theorem indexR_S (L : List (List Int)) (s : List Int) (i : Nat) (hn : L.Nodup) (h : L[i]? = some s) : indexR (L.map encS) (encS s) = .ok (.int (i : Int)) := by
  unfold indexR
  have h3 := sh_shaped (sh_stands false L) (by omega)
  rw [show py (.lst false (L.map encS)) = .list (pyL (L.map encS)) from rfl] at h3
  rw [if_pos (by rw [sh_shaped (sh_encS s) (by omega), h3]; rfl)]
  obtain ⟨hl, he⟩ := List.getElem?_eq_some_iff.mp h
  have : (L.map encS).findIdx? (fun z => eqvD z (encS s)) = some i := by
    rw [List.findIdx?_eq_some_iff_getElem]
    refine ⟨by simpa using hl, by simp [eqv_S, he], fun j hj => ?_⟩
    simp only [List.getElem_map, eqv_S, decide_eq_true_eq]
    intro z
    exact List.pairwise_iff_getElem.mp hn j i (by omega) hl hj (by rw [z, he])
  rw [this]
theorem gone_S {l : List Part} {st : List Int} {row : List Deed} (h : TrainOk l) (hs : StandOk l st) (hr : RowOk l.length row) :
    s_law_gone [.lst false (l.map encP), encS st, .lst false (row.map encDd)] = .ok (.tup [encS (walkN l st row).1, .int (walkN l st row).2]) := r_law_gone h hs hr
theorem r_law_plain {l : List Part} {st : List Int} {row : List Deed} {N : Nat} (h : Trn l) (hs : StandOk l st) (hr : RowOk l.length row) (hn : N ≤ 1000) :
    s_law_plain [.lst false (l.map encP), encS st, .lst false (row.map encDd), .int (N : Int)] = .ok (encR (often l row N st)) := by
  obtain ⟨F, hF⟩ : ∃ F : List Int → List Int, F = fun s => (walkN l s row).1 := ⟨_, rfl⟩
  obtain ⟨G, hG⟩ : ∃ G : List Int → Int, G = fun s => (walkN l s row).2 := ⟨_, rfl⟩
  have hok : ∀ s, StandOk l s → StandOk l (F s) := fun s z => by rw [hF]; exact walkN_ok h.ok.1 z hr.1
  have hw : ∀ s, StandOk l s → s_law_gone [.lst false (l.map encP), encS s, .lst false (row.map encDd)] = .ok (.tup [encS (F s), .int (G s)]) := fun s z => by rw [hF, hG]; exact gone_S h.ok z hr
  have ho : ∀ k, StandOk l (orb F k st) := fun k => by induction k with
    | zero => exact hs
    | succ k ih => exact hok _ ih
  have fin : often l row N st = (orb F N st, gsum F G N st) := by rw [hF, hG]; rfl
  rw [fin]
  unfold s_law_plain
  refine def_ok1 rfl ?_
  simp (disch := omega)
  obtain ⟨I, hI⟩ : ∃ I : Nat → Sl → Prop, I = fun k m => ∃ (a5 a6 : Option D), m = [some (.lst false (l.map encP)), some (encS (orb F k st)), some (.lst false (row.map encDd)), some (.int (N : Int)), some (.int (gsum F G k st)), a5, a6] := ⟨_, rfl⟩
  refine wp_rng I ?_ (fun k hk m hm => ?_) (fun m hm => ?_)
  · rw [hI]; exact ⟨none, none, rfl⟩
  · rw [hI] at hm
    obtain ⟨a5, a6, rfl⟩ := hm
    simp [hw _ (ho k)]
    rw [hI]
    exact ⟨_, _, rfl⟩
  · rw [hI] at hm
    obtain ⟨a5, a6, rfl⟩ := hm
    simp
    rfl
theorem orbL_at (F : List Int → List Int) (st : List Int) {k i : Nat} (t : Bool) (h : i < k) : ixD (.lst t ((orbL F k st).map encS)) (.int (i : Int)) = .ok (encS (orb F i st)) := ixD_lst (by rw [List.getElem?_map, orbL_get F h]; rfl)
theorem r_law_round {l : List Part} {st : List Int} {row : List Deed} {N : Nat} (h : Trn l) (hs : StandOk l st) (hr : RowOk l.length row) (hp : prodN l ≤ 2000)
    (hg : ∀ s, StandOk l s → -(10 ^ 30) ≤ (walkN l s row).2 ∧ (walkN l s row).2 ≤ 10 ^ 30) (hn : (N : Int) ≤ 10 ^ 40) :
    s_law_round [.lst false (l.map encP), encS st, .lst false (row.map encDd), .int (N : Int)] = .ok (encR (often l row N st)) := by
  obtain ⟨F, hF⟩ : ∃ F : List Int → List Int, F = fun s => (walkN l s row).1 := ⟨_, rfl⟩
  obtain ⟨G, hG⟩ : ∃ G : List Int → Int, G = fun s => (walkN l s row).2 := ⟨_, rfl⟩
  have hok : ∀ s, StandOk l s → StandOk l (F s) := fun s z => by rw [hF]; exact walkN_ok h.ok.1 z hr.1
  have hgl := fun k : Nat => gsum_le F G (B := 10 ^ 30) (StandOk l) hok (fun s z => by rw [hG]; exact hg s z) hs k
  have hw : ∀ s, StandOk l s → s_law_gone [.lst false (l.map encP), encS s, .lst false (row.map encDd)] = .ok (.tup [encS (F s), .int (G s)]) := fun s z => by rw [hF, hG]; exact gone_S h.ok z hr
  have hS : ((allS l).length : Int) = prodN l := allS_len h.ok.1
  have hbd : ∀ k, (orbL F k st).Nodup → k ≤ 2000 := fun k hk => by
    have := nodup_le (ys := allS l) hk fun x hx => by
      obtain ⟨i, _, rfl⟩ := mem_orbL F hx
      exact allS_mem h.ok.1 (hgl i).1
    rw [orbL_len] at this
    omega
  have fin : often l row N st = (orb F N st, gsum F G N st) := by rw [hF, hG]; rfl
  rw [fin]
  unfold s_law_round
  refine def_ok1 rfl ?_
  simp
  obtain ⟨I, hI⟩ : ∃ I : Nat → Sl → Prop, I = fun fuel m => ∃ (k : Nat) (a1 a6 : Option D), fuel + k = 2001 ∧ (orbL F (k + 1) st).Nodup ∧ m = [some (.lst false (l.map encP)), a1, some (.lst false (row.map encDd)), some (.int (N : Int)), some (.lst true ((orbL F (k + 1) st).map encS)), some (.lst true (sumL F G st (k + 1))), a6, none, none, none, none] := ⟨_, rfl⟩
  refine wp_while I 2001 ?_ (fun n m hm => ?_)
  · rw [hI]; exact ⟨0, some (encS st), none, by omega, by simp [orbL], by simp [orbL, sumL, orb, gsum]⟩
  · rw [hI] at hm
    obtain ⟨k, a1, a6, hk, hnd, rfl⟩ := hm
    have hk2 := hbd (k + 1) hnd
    obtain ⟨g1, g2, g3⟩ := hgl k
    have gk := hgl (k + 1)
    have l1 : lenD [.lst true ((orbL F (k + 1) st).map encS)] = .ok (.int ((k : Int) + 1)) := by simp [orbL_len]
    have l2 : lenD [.lst true (sumL F G st (k + 1))] = .ok (.int ((k : Int) + 1)) := by simp [sumL_len]
    have x1 := orbL_at F st (k := k + 1) (i := k) true (by omega)
    have x2 := sumL_at F G st (k := k + 1) (i := k) true (by omega)
    have ek : (k : Int) + 1 - 1 = (k : Int) := by omega
    have hin := inD_S true (orbL F (k + 1) st) (F (orb F k st))
    obtain ⟨C, hC⟩ : ∃ C, C = (orbL F (k + 1) st).map encS := ⟨_, rfl⟩
    obtain ⟨U, hU⟩ : ∃ U, U = sumL F G st (k + 1) := ⟨_, rfl⟩
    have hCT : hasTL C = false := by rw [hC]; exact hasTL_encS _
    have hUT : hasTL U = false := by rw [hU]; exact sumL_noT _ _ _ _
    refine ⟨true, by simp, fun _ => ?_, fun z => by cases z⟩
    by_cases c1 : F (orb F k st) ∈ orbL F (k + 1) st
    · obtain ⟨i, hi, e⟩ := mem_orbL F c1
      have hi2 := hgl i
      obtain ⟨c, hc⟩ : ∃ c, k + 1 = i + c := ⟨k + 1 - i, by omega⟩
      have hix := indexR_S (orbL F (k + 1) st) (F (orb F k st)) i hnd (by rw [orbL_get F hi, e])
      have i1 := sumL_at F G st (k := k + 1) (i := i) true hi
      rw [decide_eq_true c1] at hin
      rw [← hC] at l1 x1 hin hix ⊢
      rw [← hU] at l2 x2 i1 ⊢
      have e9 : gsum F G k st + G (orb F k st) = gsum F G (k + 1) st := rfl
      have ec : (k : Int) + 1 - (i : Int) = (c : Int) := by omega
      by_cases c2 : (N : Int) < (k : Int) + 1
      · have y1 := orbL_at F st (k := k + 1) (i := N) true (by omega)
        have y2 := sumL_at F G st (k := k + 1) (i := N) true (by omega)
        rw [← hC] at y1
        rw [← hU] at y2
        simp [-lenD_lst, l1, l2, x1, x2, ek, hw _ g1, hin, hix, i1, indexE, ec, c2, y1, y2, e9]
        rfl
      · obtain ⟨r, hr2⟩ : ∃ r, N = i + r := ⟨N - i, by omega⟩
        have hc0 : 0 < c := by omega
        have hmc : r % c < c := Nat.mod_lt _ hc0
        obtain ⟨rm, hrm⟩ : ∃ rm, rm = r % c := ⟨_, rfl⟩
        obtain ⟨q, hq⟩ : ∃ q, q = r / c := ⟨_, rfl⟩
        obtain ⟨A, hA⟩ : ∃ A, A = i + rm := ⟨_, rfl⟩
        have y1 := orbL_at F st (k := k + 1) (i := A) true (by omega)
        have y2 := sumL_at F G st (k := k + 1) (i := A) true (by omega)
        rw [← hC] at y1
        rw [← hU] at y2
        have er : (N : Int) - (i : Int) = (r : Int) := by omega
        have hmod : modD (.int (r : Int)) (.int (c : Int)) = .ok (.int (rm : Int)) := by rw [modD_ok (by omega), hrm]; simp
        have hdiv : divD (.int (r : Int)) (.int (c : Int)) = .ok (.int (q : Int)) := by rw [divD_s (by omega) (by omega), hq]; simp
        have eA : (i : Int) + (rm : Int) = (A : Int) := by omega
        have hrc : q ≤ r := by rw [hq]; exact Nat.div_le_self r c
        have hmul : mulD (.int (q : Int)) (.int (gsum F G (k + 1) st - gsum F G i st)) = .ok (.int ((q : Int) * (gsum F G (k + 1) st - gsum F G i st))) := by
          refine mulD_40 ⟨by omega, by omega⟩ ⟨?_, ?_⟩
          · have : (i : Int) ≤ 2000 := by omega
            omega
          · have : (i : Int) ≤ 2000 := by omega
            omega
        have per := orb_per F G (i := i) (c := c) (s := st) (by rw [← hc, e]; rfl) r
        rw [← hc, ← hr2, ← hrm, ← hA, ← hq] at per
        simp [-lenD_lst, l1, l2, x1, x2, ek, hw _ g1, hin, hix, i1, indexE, ec, c2, e9, er, hmod, eA, y1, y2, hdiv, hmul]
        rw [← per.1, ← per.2]
        rfl
    · rw [decide_eq_false c1] at hin
      rw [← hC] at l1 x1 hin ⊢
      rw [← hU] at l2 x2 ⊢
      have cl : C.length < sizeLine := by rw [hC, sizeBig]; simp [orbL_len]; omega
      have ul : U.length < sizeLine := by rw [hU, sizeBig]; simp [sumL_len]; omega
      simp [-lenD_lst, l1, l2, x1, x2, ek, hw _ g1, hin, cl, ul]
      rw [hI]
      refine ⟨n - 1, by omega, k + 1, some (encS (F (orb F k st))), some (.int (G (orb F k st))), by omega, ?_, ?_⟩
      · rw [orbL_succ, List.nodup_append]
        refine ⟨hnd, by simp, fun x hx y hy => ?_⟩
        rw [List.mem_singleton.mp hy]
        exact fun z => c1 (by rw [show orb F (k + 1) st = F (orb F k st) from rfl] at z; rw [← z]; exact hx)
      · rw [orbL_succ F (k + 1), sumL_succ F G st (k + 1), hC, hU, List.map_append]; rfl
end CK

/-! PtU5: one push done often -/
namespace CK
open PySem PySem.Spec PyProof.Rows L2 CT
theorem often_add (l : List Part) (row : List Deed) (a b : Nat) (st : List Int) : often l row (a + b) st = ((often l row b (often l row a st).1).1, (often l row a st).2 + (often l row b (often l row a st).1).2) := by
  simp only [often, orb_add, gsum_add]
theorem often_ok {l : List Part} (h : ∀ q ∈ l, PartOk q) {row : List Deed} (hr : ∀ d ∈ row, DeedOk l.length d) {st : List Int} (hs : StandOk l st) : ∀ k, StandOk l (often l row k st).1
  | 0 => hs
  | k + 1 => walkN_ok h (often_ok h hr hs k) hr
theorem often_one {l : List Part} (h : ∀ q ∈ l, PartOk q) {w : Int} (hw : w = 1 ∨ w = -1) {st : List Int} (hs : StandOk l st) : ∀ N : Nat, often l [⟨0, w, 1⟩] N st = pushI l st 0 w N
  | 0 => by rw [Int.natCast_zero, pushI_zero h hs]; rfl
  | N + 1 => by
    have ih := often_one h hw hs N
    have e : often l [⟨0, w, 1⟩] (N + 1) st = ((walkN l (often l [⟨0, w, 1⟩] N st).1 [⟨0, w, 1⟩]).1, (often l [⟨0, w, 1⟩] N st).2 + (walkN l (often l [⟨0, w, 1⟩] N st).1 [⟨0, w, 1⟩]).2) := rfl
    rw [e, ih, walkN_one, show (((N + 1 : Nat) : Int)) = (N : Int) + 1 by omega, pushI_add h hs (by omega) hw (by omega) (by omega)]
    rfl
theorem encP_w (z : Int) : [D.tup [.str "wheel", .int z, .tup [.int 0, .int 7]]] = [Part.wheel z [0, 7]].map encP := rfl
theorem encP_s (z : Int) : [D.tup [.str "spring", .int z]] = [Part.spring z].map encP := rfl
theorem r_law_long (c : Int) : s_law_long [.int c] = .ok (.bl true) := by
  have h20 := mixN_lo c 20
  have h21 := mixN_lo c 21
  have h22 := mixN_lo c 22
  have k21 := mixN_hi c 21
  have k22 := mixN_hi c 22
  have p15 : powD (.int 10) (.int 15) = .ok (.int 1000000000000000) := by rw [powD_lit (by decide +kernel)]; rfl
  obtain ⟨z, hz⟩ : ∃ z, z = 1100 + mixN c 20 % 900 := ⟨_, rfl⟩
  have hz1 : 1100 ≤ z ∧ z < 2000 := by omega
  obtain ⟨N, hN⟩ := Int.eq_ofNat_of_zero_le (show 0 ≤ mixN c 21 * 1000000000000000 + mixN c 22 by omega)
  have hN2 : (N : Int) ≤ 10 ^ 40 := by omega
  have core : ∀ (l : List Part) (w : Int), Trn l → StandOk l [z / 2] → prodN l ≤ 2000 → (w = 1 ∨ w = -1) →
      s_left_often [.lst false (l.map encP), .tup [.int (z / 2)], .lst false [.tup [.int 0, .int w, .int 1]], .int (N : Int)] = .ok (encR (pushI l [z / 2] 0 w N)) ∧
      s_law_gone [.lst false (l.map encP), .tup [.int (z / 2)], .lst false [.tup [.int 0, .int w, .int (N : Int)]]] = .ok (encR (pushI l [z / 2] 0 w N)) := fun l w h hs hp hw => by
    have hl : 0 < l.length := List.length_pos_iff.mpr h.ne
    have d1 : ∀ d ∈ [(⟨0, w, 1⟩ : Deed)], DeedOk l.length d := by
      intro d hd; rw [List.mem_singleton.mp hd]; exact ⟨by simp, by show (0 : Int) < _; omega, hw, by simp⟩
    have d2 : RowOk l.length [(⟨0, w, (N : Int)⟩ : Deed)] := ⟨by intro d hd; rw [List.mem_singleton.mp hd]; exact ⟨by simp, by show (0 : Int) < _; omega, hw, by simp⟩, by simp⟩
    have f := r_left_often (row := [⟨0, w, 1⟩]) (N := N) h hs ⟨d1, by simp⟩ hp (fun s z => by
      have := walkN_le h.ok.1 (B := 1) (row := [⟨0, w, 1⟩]) z fun d hd => ⟨d1 d hd, by rw [List.mem_singleton.mp hd]; simp⟩
      simp at this; omega) hN2
    have g := r_law_gone h.ok hs d2
    rw [often_one h.ok.1 hw hs] at f
    rw [walkN_one] at g
    exact ⟨f, g⟩
  have hb : (2000 : Int) ≤ 2 ^ 2000 := by decide +kernel
  have lw : Trn [Part.wheel z [0, 7]] := by
    refine ⟨⟨fun q hq => ?_, by simp⟩, fun z' ms hm => ?_, by simp⟩
    · rw [List.mem_singleton.mp hq]
      refine ⟨by omega, Int.lt_of_lt_of_le hz1.2 hb, by simp, fun m hm => ?_, by simp⟩
      simp at hm; omega
    · simp at hm; obtain ⟨rfl, rfl⟩ := hm; simp
  have ls : Trn [Part.spring z] := by
    refine ⟨⟨fun q hq => ?_, by simp⟩, fun z' ms hm => ?_, by simp⟩
    · rw [List.mem_singleton.mp hq]; exact ⟨by omega, Int.lt_of_lt_of_le hz1.2 hb⟩
    · simp at hm
  have sw : StandOk [Part.wheel z [0, 7]] [z / 2] := ⟨by omega, by show z / 2 < z; omega, trivial⟩
  have ss : StandOk [Part.spring z] [z / 2] := ⟨by omega, by show z / 2 < z; omega, trivial⟩
  have pw : prodN [Part.wheel z [0, 7]] ≤ 2000 := by simp [prodN, nplaces]; omega
  have ps : prodN [Part.spring z] ≤ 2000 := by simp [prodN, nplaces]; omega
  have c1 := core _ 1 lw sw pw (.inl rfl)
  have c2 := core _ (-1) lw sw pw (.inr rfl)
  have c3 := core _ 1 ls ss ps (.inl rfl)
  have c4 := core _ (-1) ls ss ps (.inr rfl)
  rw [← encP_w] at c1 c2
  rw [← encP_s] at c3 c4
  have is := fun (l : List Part) (w : Int) => r_is (pushI l [z / 2] 0 w N) (by rw [pushI_len]; simp)
  have i1 := is [Part.wheel z [0, 7]] 1
  have i2 := is [Part.wheel z [0, 7]] (-1)
  have i3 := is [Part.spring z] 1
  have i4 := is [Part.spring z] (-1)
  generalize pushI [Part.wheel z [0, 7]] [z / 2] 0 1 N = W1 at *
  generalize pushI [Part.wheel z [0, 7]] [z / 2] 0 (-1) N = W2 at *
  generalize pushI [Part.spring z] [z / 2] 0 1 N = W3 at *
  generalize pushI [Part.spring z] [z / 2] 0 (-1) N = W4 at *
  unfold s_law_long
  refine def_ok1 rfl ?_
  simp (maxSteps := 8000000) (disch := omega) [r_mix, modD_ok, divD_s, mulD_r, p15, ← hz, hN, c1.1, c1.2, c2.1, c2.2, c3.1, c3.2, c4.1, c4.2, i1, i2, i3, i4, itemsN, items]
end CK

/-! PtZ1: when a stand comes again -/
namespace CK
open PySem PySem.Spec PyProof.Rows L2 CT
theorem least_nat {P : Nat → Prop} (h : ∃ n, P n) : ∃ n, P n ∧ ∀ m, m < n → ¬ P m := by
  obtain ⟨n, hn⟩ := h
  induction n using Nat.strongRecOn with
  | ind n ih =>
    by_cases c : ∃ m, m < n ∧ P m
    · obtain ⟨m, h1, h2⟩ := c
      exact ih m h1 h2
    · exact ⟨n, hn, fun m hm hp => c ⟨m, hm, hp⟩⟩
section
variable {α : Type} (f : α → α)
theorem orb_one (n : Nat) (s : α) : orb f n (f s) = orb f (n + 1) s := by
  rw [Nat.add_comm, orb_add]; rfl
theorem orbL_nd {k : Nat} {s : α} : (orbL f k s).Nodup ↔ ∀ i j, i < j → j < k → orb f i s ≠ orb f j s := by
  unfold orbL
  rw [List.nodup_iff_pairwise_ne, List.pairwise_map, List.pairwise_iff_getElem]
  simp only [List.length_range, List.getElem_range]
  constructor
  · intro h i j hij hj; exact h i j (by omega) hj hij
  · intro h i j hi hj hij; exact h i j hij hj
theorem orbL_nd_mono {k n : Nat} {s : α} (h : (orbL f n s).Nodup) (hk : k ≤ n) : (orbL f k s).Nodup := by
  rw [orbL_nd] at h ⊢
  exact fun i j h1 h2 => h i j h1 (by omega)
/-- ahead i, then round by c -/
structure Rho (s : α) (i c : Nat) : Prop where
  nd : (orbL f (i + c) s).Nodup
  eq : orb f (i + c) s = orb f i s
  c1 : 1 ≤ c
theorem Rho.uniq {s : α} {i c i' c' : Nat} (h : Rho f s i c) (h' : Rho f s i' c') : i = i' ∧ c = c' := by
  have key : ∀ {i c i' c' : Nat}, Rho f s i c → Rho f s i' c' → ¬ i + c < i' + c' := fun {i c i' c'} h h' l => by
    have := (orbL_nd f).mp h'.nd i (i + c) (by have := h.c1; omega) l
    exact this h.eq.symm
  have e : i + c = i' + c' := by have := key h h'; have := key h' h; omega
  have hi : i = i' := by
    have h1 := h.eq
    rw [e, h'.eq] at h1
    have h2 := (orbL_nd f).mp h.nd
    have := h.c1
    have := h'.c1
    by_cases c1 : i < i'
    · exact absurd h1.symm (h2 i i' c1 (by omega))
    by_cases c2 : i' < i
    · exact absurd h1 (h2 i' i c2 (by omega))
    omega
  exact ⟨hi, by omega⟩
theorem Rho.step {s : α} {i c : Nat} (h : Rho f (f s) i c) (no : ∀ j, orb f j (f s) ≠ s) : Rho f s (i + 1) c := by
  refine ⟨?_, ?_, h.c1⟩
  · rw [orbL_nd]
    intro a b hab hb
    match a, b with
    | _, 0 => omega
    | 0, b + 1 =>
      rw [← orb_one]
      exact fun z => no b z.symm
    | a + 1, b + 1 =>
      rw [← orb_one, ← orb_one]
      exact (orbL_nd f).mp h.nd a b (by omega) (by omega)
  · rw [show i + 1 + c = i + c + 1 by omega, ← orb_one, ← orb_one]
    exact h.eq
theorem Rho.cycle {s : α} {i k : Nat} (hn : (orbL f k s).Nodup) (hi : i < k) (he : orb f k s = orb f i s) {j : Nat} (h1 : i ≤ j) (h2 : j < k) : Rho f (orb f j s) 0 (k - i) := by
  have per := fun n => (orb_per f (fun _ => 0) (i := i) (c := k - i) (s := s) (by rw [show i + (k - i) = k by omega]; exact he) n).1
  have at1 : ∀ t, orb f t (orb f j s) = orb f (i + (j - i + t) % (k - i)) s := fun t => by
    rw [← orb_add, show j + t = i + (j - i + t) by omega, per]
  have hc : 0 < k - i := by omega
  refine ⟨?_, ?_, by omega⟩
  · rw [orbL_nd]
    intro a b hab hb
    rw [at1, at1]
    have b1 := Nat.mod_lt (j - i + a) hc
    have b2 := Nat.mod_lt (j - i + b) hc
    have ne : (j - i + a) % (k - i) ≠ (j - i + b) % (k - i) := fun z => by
      have e1 := Nat.div_add_mod (j - i + a) (k - i)
      have e2 := Nat.div_add_mod (j - i + b) (k - i)
      rw [z] at e1
      have e3 : (k - i) * ((j - i + b) / (k - i)) = (k - i) * ((j - i + a) / (k - i)) + (b - a) := by omega
      by_cases q : (j - i + b) / (k - i) ≤ (j - i + a) / (k - i)
      · have := Nat.mul_le_mul_left (k - i) q; omega
      · have := Nat.mul_le_mul_left (k - i) (show (j - i + a) / (k - i) + 1 ≤ (j - i + b) / (k - i) by omega)
        rw [Nat.mul_add] at this
        omega
    rcases Nat.lt_or_gt_of_ne ne with l | l
    · exact (orbL_nd f).mp hn _ _ (by omega) (by omega)
    · exact ((orbL_nd f).mp hn _ _ (by omega) (by omega)).symm
  · rw [Nat.zero_add, at1, at1, Nat.add_zero, Nat.add_mod_right]
/-- from where, round by how many -/
theorem rho_ex [DecidableEq α] {S : List α} (hS : ∀ s ∈ S, f s ∈ S) {s : α} (hs : s ∈ S) : ∃ p : Nat × Nat, Rho f s p.1 p.2 := by
  have mem : ∀ n, orb f n s ∈ S := fun n => by
    induction n with
    | zero => exact hs
    | succ n ih => exact hS _ ih
  have ex : ∃ k, orb f k s ∈ orbL f k s := by
    by_cases c : ∃ k, orb f k s ∈ orbL f k s
    · exact c
    · have nd : ∀ k, (orbL f k s).Nodup := fun k => by
        induction k with
        | zero => simp [orbL]
        | succ k ih =>
          rw [orbL_succ, List.nodup_append]
          refine ⟨ih, by simp, fun x hx y hy z => ?_⟩
          rw [List.mem_singleton.mp hy] at z
          exact c ⟨k, by rw [← z]; exact hx⟩
      have := nodup_le (ys := S) (nd (S.length + 1)) fun x hx => by
        obtain ⟨i, _, rfl⟩ := mem_orbL f hx
        exact mem i
      rw [orbL_len] at this
      omega
  obtain ⟨k, hk, hl⟩ := least_nat ex
  obtain ⟨i, hi, e⟩ := mem_orbL f hk
  refine ⟨(i, k - i), ?_, ?_, ?_⟩
  · rw [show (i, k - i).1 + (i, k - i).2 = k by simp; omega, orbL_nd]
    intro a b hab hb z
    refine hl b hb ?_
    rw [← z]
    exact List.mem_map.mpr ⟨a, List.mem_range.mpr hab, rfl⟩
  · show orb f (i + (k - i)) s = orb f i s
    rw [show i + (k - i) = k by omega, e]
  · show 1 ≤ k - i; omega
open Classical in
noncomputable def rho (s : α) : Nat × Nat := if h : ∃ p : Nat × Nat, Rho f s p.1 p.2 then h.choose else (0, 1)
theorem rho_of {s : α} {i c : Nat} (h : Rho f s i c) : rho f s = (i, c) := by
  have hx : ∃ p : Nat × Nat, Rho f s p.1 p.2 := ⟨(i, c), h⟩
  unfold rho
  rw [dif_pos hx]
  obtain ⟨h1, h2⟩ := hx.choose_spec.uniq f h
  exact Prod.ext h1 h2
theorem rho_ok [DecidableEq α] {S : List α} (hS : ∀ s ∈ S, f s ∈ S) {s : α} (hs : s ∈ S) : Rho f s (rho f s).1 (rho f s).2 := by
  obtain ⟨p, hp⟩ := rho_ex f hS hs
  rw [rho_of f hp]
  exact hp
/-- so long a walk until the first stand that comes again, or is known -/
theorem walk_ex [DecidableEq α] {S K : List α} (hS : ∀ s ∈ S, f s ∈ S) {s : α} (hs : s ∈ S) :
    ∃ k, (orb f k s ∈ K ∨ orb f k s ∈ orbL f k s) ∧ (∀ j, j < k → orb f j s ∉ K) ∧ (orbL f k s).Nodup ∧ k ≤ S.length := by
  have mem : ∀ n, orb f n s ∈ S := fun n => by
    induction n with
    | zero => exact hs
    | succ n ih => exact hS _ ih
  obtain ⟨p, hp⟩ := rho_ex f hS hs
  have ex : ∃ k, orb f k s ∈ K ∨ orb f k s ∈ orbL f k s := ⟨p.1 + p.2, .inr (by
    rw [hp.eq]
    have := hp.c1
    exact List.mem_map.mpr ⟨p.1, List.mem_range.mpr (by omega), rfl⟩)⟩
  obtain ⟨k, hk, hl⟩ := least_nat ex
  have nd : (orbL f k s).Nodup := by
    rw [orbL_nd]
    intro a b hab hb z
    refine hl b hb (.inr ?_)
    rw [← z]
    exact List.mem_map.mpr ⟨a, List.mem_range.mpr hab, rfl⟩
  refine ⟨k, hk, fun j hj z => hl j hj (.inl z), nd, ?_⟩
  have := nodup_le (ys := S) nd fun x hx => by
    obtain ⟨i, _, rfl⟩ := mem_orbL f hx
    exact mem i
  rw [orbL_len] at this
  exact this
end
end CK

/-! PtZ2: tail_and_round -/
namespace CK
open PySem PySem.Spec PyProof.Rows L2 CT
def encRho (p : Nat × Nat) : D := .tup [.int (p.1 : Int), .int (p.2 : Int)]
noncomputable def encK (F : List Int → List Int) (K : List (List Int)) : List D := K.map fun s => encRho (rho F s)
structure KOk (F : List Int → List Int) (S K : List (List Int)) : Prop where
  nd : K.Nodup
  sub : ∀ s ∈ K, s ∈ S
  cl : ∀ s ∈ K, F s ∈ K
theorem bSeq_nx {g : SemS} {h : SemB} {m m' : Sl} (e : g m = .nx m') : bSeq g h m = h m' := by unfold bSeq; rw [e]
theorem wp_nxE {r : RS} {m : Sl} (h : wp r ⟨fun m' => m' = m, fun _ => False, fun _ => False, fun _ => False, fun _ => False⟩) : r = .nx m := by
  cases r <;> first | (exact h.elim) | skip
  exact congrArg _ h
theorem wp_nxX {r : RS} {P : Sl → Prop} (h : wp r ⟨P, fun _ => False, fun _ => False, fun _ => False, fun _ => False⟩) : ∃ m, r = .nx m ∧ P m := by
  cases r <;> first | (exact h.elim) | skip
  exact ⟨_, rfl, h⟩
@[simp] theorem eLenD_0 (o : Option Nat) (ks : List (List Int)) (ds : List D) (m : Sl) : eLenD 0 (some (.dct ⟨o, false⟩ ks ds) :: m) = .ok (.int ks.length) := nr rfl
@[simp] theorem eLenD_s (i : Nat) (x : Option D) (m : Sl) : eLenD (i + 1) (x :: m) = eLenD i m := nr rfl
theorem hasT_encRho (p : Nat × Nat) : hasT (encRho p) = false := by simp [encRho]
theorem encK_app (F : List Int → List Int) (K L : List (List Int)) : encK F (K ++ L) = encK F K ++ encK F L := by simp [encK]
theorem at_encK {F : List Int → List Int} {K : List (List Int)} (hn : K.Nodup) {s : List Int} (hs : s ∈ K) : atR K (encK F K) (encS s) = .ok (encRho (rho F s)) := by
  obtain ⟨i, h1, h2⟩ := List.mem_iff_getElem.mp hs
  have e1 : K[i]? = some s := by rw [List.getElem?_eq_getElem h1, h2]
  have e2 : (encK F K)[i]? = some (encRho (rho F s)) := by unfold encK; rw [List.getElem?_map, e1]; rfl
  simp [atR, dAt_get hn e1 e2]
theorem at_mapF {F : List Int → List Int} {S : List (List Int)} (hn : S.Nodup) {s : List Int} (hs : s ∈ S) : atR S (S.map fun x => encS (F x)) (encS s) = .ok (encS (F s)) := by
  obtain ⟨i, h1, h2⟩ := List.mem_iff_getElem.mp hs
  have e1 : S[i]? = some s := by rw [List.getElem?_eq_getElem h1, h2]
  have e2 : (S.map fun x => encS (F x))[i]? = some (encS (F s)) := by rw [List.getElem?_map, e1]; rfl
  simp [atR, dAt_get hn e1 e2]
theorem put_encK {F : List Int → List Int} {K : List (List Int)} {s : List Int} {t c : Nat} (h : s ∉ K) (e : rho F s = (t, c)) : dPutV K (encK F K) s (.tup [.int (t : Int), .int (c : Int)]) = encK F (K ++ [s]) := by
  rw [dPutV_new h, encK_app]
  show _ = encK F K ++ [encRho (rho F s)]
  rw [e]; rfl
/-- the cycle's stands -/
theorem tr_cycle {F : List Int → List Int} {A B C E T G : Option D} {x8 : Option D} {cc : Addr} {K0 : List (List Int)} {many : Nat} (L : List (List Int)) (hnd : (K0 ++ L).Nodup) (hr : ∀ s ∈ L, rho F s = (0, many)) (hl : K0.length + L.length ≤ 1000000) :
    ∃ y8, forGo (putR 8) (sPutD 1 (eVar 8) (eA mkTup (aCons (eC (.int 0)) (aCons (eVar 7) aNil)))) (L.map encS) [A, some (.dct ⟨some cc, false⟩ K0 (encK F K0)), B, C, E, T, G, some (.int (many : Int)), x8] =
      .nx [A, some (.dct ⟨some cc, false⟩ (K0 ++ L) (encK F (K0 ++ L))), B, C, E, T, G, some (.int (many : Int)), y8] := by
  have main : wp (forGo (putR 8) (sPutD 1 (eVar 8) (eA mkTup (aCons (eC (.int 0)) (aCons (eVar 7) aNil)))) (L.map encS) [A, some (.dct ⟨some cc, false⟩ K0 (encK F K0)), B, C, E, T, G, some (.int (many : Int)), x8])
      ⟨fun m => ∃ y8, m = [A, some (.dct ⟨some cc, false⟩ (K0 ++ L) (encK F (K0 ++ L))), B, C, E, T, G, some (.int (many : Int)), y8], fun _ => False, fun _ => False, fun _ => False, fun _ => False⟩ := by
    obtain ⟨I, hI⟩ : ∃ I : Nat → Sl → Prop, I = fun t m => ∃ y8, m = [A, some (.dct ⟨some cc, false⟩ (K0 ++ L.take t) (encK F (K0 ++ L.take t))), B, C, E, T, G, some (.int (many : Int)), y8] := ⟨_, rfl⟩
    refine wp_map I ?_ (fun t s hs m hm => ?_) (fun m hm => ?_)
    · rw [hI]; exact ⟨x8, by simp⟩
    · rw [hI] at hm
      obtain ⟨y8, rfl⟩ := hm
      obtain ⟨h1, h2⟩ := List.getElem?_eq_some_iff.mp hs
      have hne : s ∉ K0 ++ L.take t := by
        have : (K0 ++ L.take (t + 1)).Nodup := hnd.sublist (List.Sublist.append (List.Sublist.refl _) (List.take_sublist _ _))
        rw [List.take_add_one, hs, ← List.append_assoc, List.nodup_append] at this
        exact fun z => this.2.2 s z s (by simp) rfl
      have e := put_encK (F := F) (t := 0) hne (hr s (List.mem_of_getElem? hs))
      have hlt : (K0 ++ L.take t).length < sizeLine := by rw [sizeBig]; simp; omega
      obtain ⟨KK, hKK⟩ : ∃ KK, KK = K0 ++ L.take t := ⟨_, rfl⟩
      rw [← hKK] at hne e hlt ⊢
      have e' : dPutV KK (encK F KK) s (.tup [.int 0, .int (many : Int)]) = encK F (KK ++ [s]) := e
      simp [sPutD, dPutK_new hne, e', hlt]
      rw [hI]
      refine ⟨some (encS s), ?_⟩
      rw [List.take_add_one, hs, hKK]
      simp
    · rw [hI] at hm
      obtain ⟨y8, rfl⟩ := hm
      exact ⟨y8, by rw [List.take_length]⟩
  obtain ⟨m, h1, y8, h2⟩ := wp_nxX main
  exact ⟨y8, by rw [h1, h2]⟩
/-- back along the row -/
theorem tr_back {F : List Int → List Int} {A B C E T : Option D} {x8 : Option D} {cc : Addr} {K0 : List (List Int)} {tail many : Nat} (L : List (List Int)) (hnd : (K0 ++ L).Nodup) (hr : ∀ t s, L[t]? = some s → rho F s = (tail + t + 1, many)) (hl : K0.length + L.length ≤ 1000000) :
    ∃ y8, forGo (putR 8) (sSeq (sAug 6 augD (eC (.int 1))) (sPutD 1 (eVar 8) (eA mkTup (aCons (eVar 6) (aCons (eVar 7) aNil))))) (L.map encS) [A, some (.dct ⟨some cc, false⟩ K0 (encK F K0)), B, C, E, T, some (.int (tail : Int)), some (.int (many : Int)), x8] =
      .nx [A, some (.dct ⟨some cc, false⟩ (K0 ++ L) (encK F (K0 ++ L))), B, C, E, T, some (.int ((tail + L.length : Nat) : Int)), some (.int (many : Int)), y8] := by
  have main : wp (forGo (putR 8) (sSeq (sAug 6 augD (eC (.int 1))) (sPutD 1 (eVar 8) (eA mkTup (aCons (eVar 6) (aCons (eVar 7) aNil))))) (L.map encS) [A, some (.dct ⟨some cc, false⟩ K0 (encK F K0)), B, C, E, T, some (.int (tail : Int)), some (.int (many : Int)), x8])
      ⟨fun m => ∃ y8, m = [A, some (.dct ⟨some cc, false⟩ (K0 ++ L) (encK F (K0 ++ L))), B, C, E, T, some (.int ((tail + L.length : Nat) : Int)), some (.int (many : Int)), y8], fun _ => False, fun _ => False, fun _ => False, fun _ => False⟩ := by
    obtain ⟨I, hI⟩ : ∃ I : Nat → Sl → Prop, I = fun t m => ∃ y8, m = [A, some (.dct ⟨some cc, false⟩ (K0 ++ L.take t) (encK F (K0 ++ L.take t))), B, C, E, T, some (.int ((tail + t : Nat) : Int)), some (.int (many : Int)), y8] := ⟨_, rfl⟩
    refine wp_map I ?_ (fun t s hs m hm => ?_) (fun m hm => ?_)
    · rw [hI]; exact ⟨x8, by simp⟩
    · rw [hI] at hm
      obtain ⟨y8, rfl⟩ := hm
      obtain ⟨h1, h2⟩ := List.getElem?_eq_some_iff.mp hs
      have hne : s ∉ K0 ++ L.take t := by
        have : (K0 ++ L.take (t + 1)).Nodup := hnd.sublist (List.Sublist.append (List.Sublist.refl _) (List.take_sublist _ _))
        rw [List.take_add_one, hs, ← List.append_assoc, List.nodup_append] at this
        exact fun z => this.2.2 s z s (by simp) rfl
      have e := put_encK (F := F) (t := tail + t + 1) hne (hr t s hs)
      have hlt : (K0 ++ L.take t).length < sizeLine := by rw [sizeBig]; simp; omega
      obtain ⟨KK, hKK⟩ : ∃ KK, KK = K0 ++ L.take t := ⟨_, rfl⟩
      rw [← hKK] at hne e hlt ⊢
      obtain ⟨TT, hTT⟩ : ∃ TT : Int, TT = ((tail + t : Nat) : Int) := ⟨_, rfl⟩
      have e2 : ((tail + t + 1 : Nat) : Int) = TT + 1 := by rw [hTT]; omega
      rw [e2] at e
      rw [← hTT]
      simp [sPutD, dPutK_new hne, e, hlt]
      rw [hI]
      refine ⟨some (encS s), ?_⟩
      rw [List.take_add_one, hs, hKK, show tail + (t + 1) = tail + t + 1 by omega, e2]
      simp
    · rw [hI] at hm
      obtain ⟨y8, rfl⟩ := hm
      exact ⟨y8, by rw [List.take_length]⟩
  obtain ⟨m, h1, y8, h2⟩ := wp_nxX main
  exact ⟨y8, by rw [h1, h2]⟩
end CK

/-! PtZ3: tail_and_round whole -/
namespace CK
open PySem PySem.Spec PyProof.Rows L2 CT
theorem orbL_drop {α : Type} (f : α → α) (k i : Nat) (s : α) : (orbL f k s).drop i = (List.range (k - i)).map fun t => orb f (i + t) s := by
  apply List.ext_getElem?
  intro t
  rw [List.getElem?_drop, List.getElem?_map]
  by_cases h : i + t < k
  · rw [orbL_get f h, List.getElem?_range (by omega)]; rfl
  · rw [List.getElem?_eq_none (by rw [orbL_len]; omega), List.getElem?_eq_none (by simp; omega)]; rfl
theorem orbL_take {α : Type} (f : α → α) {k i : Nat} (h : i ≤ k) (s : α) : (orbL f k s).take i = orbL f i s := by
  apply List.ext_getElem?
  intro t
  by_cases c : t < i
  · rw [List.getElem?_take_of_lt c, orbL_get f (by omega), orbL_get f c]
  · rw [List.getElem?_eq_none (by rw [List.length_take, orbL_len]; omega), List.getElem?_eq_none (by rw [orbL_len]; omega)]
theorem orbL_rev_get {α : Type} (f : α → α) {n t : Nat} {s x : α} (h : (orbL f n s).reverse[t]? = some x) : t < n ∧ x = orb f (n - 1 - t) s := by
  obtain ⟨h1, _⟩ := List.getElem?_eq_some_iff.mp h
  rw [List.length_reverse, orbL_len] at h1
  rw [List.getElem?_reverse (by rw [orbL_len]; exact h1), orbL_len, orbL_get f (by omega)] at h
  exact ⟨h1, (Option.some.inj h).symm⟩
theorem orbL_mem {α : Type} (f : α → α) {k i : Nat} {s : α} (h : i < k) : orb f i s ∈ orbL f k s := List.mem_map.mpr ⟨i, List.mem_range.mpr h, rfl⟩
theorem bRet_eq {f : SemE} {m : Sl} {d : D} (e : f m = .ok d) (h : hasT d = false) : bRet f m = .rt d m := by
  unfold bRet; rw [e]; simp [h]
theorem wp_sWhileE {t : SemT} {body : SemS} {m T : Sl} (h : wp (sWhile t body m) ⟨fun m' => m' = T, fun _ => False, fun _ => False, fun _ => False, fun _ => False⟩) : sWhile t body m = .nx T := wp_nxE h
theorem nodup_rev {α : Type} {l : List α} (h : l.Nodup) : l.reverse.Nodup := by
  rw [List.nodup_iff_pairwise_ne, List.pairwise_reverse]
  exact (List.nodup_iff_pairwise_ne.mp h).imp fun h => h.symm
theorem defB_rt {n k : Nat} {g : SemB} {ds : List D} {d : D} {m : Sl} {r : D × Option D × Option D} (h : ds.length = n) (e : g (ds.map some ++ List.replicate (k - n) none) = .rt d m) (hr : (d, (m[0]?).join, (m[1]?).join) = r) : defB n k g ds = .ok r := by
  unfold defB
  rw [if_pos h, e]
  exact congrArg _ hr
/-- the walk -/
theorem tr_walk {F : List Int → List Int} {S K : List (List Int)} {V1 : List D} {s : List Int} {a c : Addr} {k : Nat} (hn : S.Nodup) (hmem : ∀ j, orb F j s ∈ S) (hk1 : ∀ j, j < k → orb F j s ∉ K) (hk2 : (orbL F k s).Nodup) (hk3 : orb F k s ∈ K ∨ orb F k s ∈ orbL F k s) (hkl : k ≤ 100000) :
    sWhile (CT.tAnd (tOf (eInD false 3 (eVar 5))) (tOf (eInD false 1 (eVar 5)))) (sSeq (sPutD 3 (eVar 5) (eLenD 3)) (sSeq (sApp 4 (eVar 5)) (sSet 5 (eGetD 0 (eVar 5)))))
      [some (.dct ⟨some a, true⟩ S (S.map fun x => encS (F x))), some (.dct ⟨some c, false⟩ K (encK F K)), some (encS s), some (.dct ⟨none, false⟩ [] []), some (.lst true []), some (encS s), none, none, none] =
    .nx [some (.dct ⟨some a, true⟩ S (S.map fun x => encS (F x))), some (.dct ⟨some c, false⟩ K (encK F K)), some (encS s), some (.dct ⟨none, false⟩ (orbL F k s) (numL k)), some (.lst true ((orbL F k s).map encS)), some (encS (orb F k s)), none, none, none] := by
  refine wp_nxE ?_
  obtain ⟨I, hI⟩ : ∃ I : Nat → Sl → Prop, I = fun n m => ∃ j, n + j = k ∧ m = [some (.dct ⟨some a, true⟩ S (S.map fun x => encS (F x))), some (.dct ⟨some c, false⟩ K (encK F K)), some (encS s), some (.dct ⟨none, false⟩ (orbL F j s) (numL j)), some (.lst true ((orbL F j s).map encS)), some (encS (orb F j s)), none, none, none] := ⟨_, rfl⟩
  refine wp_while I k ?_ (fun n m hm => ?_)
  · rw [hI]; exact ⟨0, by omega, rfl⟩
  · rw [hI] at hm
    obtain ⟨j, hj, rfl⟩ := hm
    by_cases cj : j = k
    · subst cj
      refine ⟨false, ?_, fun z => (by cases z), fun _ => rfl⟩
      by_cases c1 : orb F j s ∈ orbL F j s
      · simp [dHas_iff, c1]
      · have c2 : orb F j s ∈ K := hk3.resolve_right c1
        simp [dHas_iff, c1, c2]
    · have hjk : j < k := by omega
      have c1 : orb F j s ∉ orbL F j s := fun z => by
        obtain ⟨i, hi, e⟩ := mem_orbL F z
        exact (orbL_nd F).mp hk2 i j hi hjk e
      have c2 := hk1 j hjk
      refine ⟨true, by simp [dHas_iff, c1, c2], fun _ => ?_, fun z => by cases z⟩
      have e1 := at_mapF (F := F) hn (hmem j)
      have e3 := hasTL_encS (orbL F j s)
      have e4 : (orbL F j s).length = j := orbL_len F j s
      have l1 : j < sizeLine := by rw [sizeBig]; omega
      simp [dPutK_new c1, dPutV_new c1, sPutD, e1, e4, l1]
      rw [hI]
      refine ⟨n - 1, by omega, j + 1, by omega, ?_⟩
      rw [orbL_succ, numL_succ]
      simp [orb]
theorem r_tail {F : List Int → List Int} {S : List (List Int)} (hn : S.Nodup) (hl : S.length ≤ 100000) (hS : ∀ s ∈ S, F s ∈ S) {K : List (List Int)} (hK : KOk F S K) {s : List Int} (hs : s ∈ S) :
    ∃ K', KOk F S K' ∧ s ∈ K' ∧ BOk s_tail_and_round true false (S, S.map fun x => encS (F x)) (K, encK F K) [encS s] (encRho (rho F s), (S, S.map fun x => encS (F x)), (K', encK F K')) := by
  have hmem : ∀ j, orb F j s ∈ S := fun n => by
    induction n with
    | zero => exact hs
    | succ n ih => exact hS _ ih
  have hKl : K.length ≤ 100000 := Nat.le_trans (nodup_le hK.nd hK.sub) hl
  obtain ⟨k, hk3, hk1, hk2, hkl⟩ := walk_ex F (K := K) hS hs
  have Kcl : ∀ x ∈ K, ∀ j, orb F j x ∈ K := fun x hx j => by
    induction j with
    | zero => exact hx
    | succ j ih => exact hK.cl _ ih
  have rok : ∀ j, Rho F (orb F j s) (rho F (orb F j s)).1 (rho F (orb F j s)).2 := fun j => rho_ok F hS (hmem j)
  by_cases ck : orb F k s ∈ K
  · -- a known one
    obtain ⟨tail, htl⟩ : ∃ x, x = (rho F (orb F k s)).1 := ⟨_, rfl⟩
    obtain ⟨many, hmn⟩ : ∃ x, x = (rho F (orb F k s)).2 := ⟨_, rfl⟩
    have hr : ∀ t, t < k → rho F (orb F (k - 1 - t) s) = (tail + t + 1, many) := fun t => by
      induction t with
      | zero =>
        intro ht
        have e : F (orb F (k - 1) s) = orb F k s := by
          rw [show k = k - 1 + 1 by omega]; rfl
        have := rok k
        rw [← htl, ← hmn] at this
        rw [← e] at this
        exact rho_of F (this.step F fun j z => by
          rw [e] at z
          have := Kcl _ ck j
          rw [z] at this
          exact hk1 (k - 1) (by omega) this)
      | succ t ih =>
        intro ht
        have ih := ih (by omega)
        have e : F (orb F (k - 1 - (t + 1)) s) = orb F (k - 1 - t) s := by
          rw [show k - 1 - t = k - 1 - (t + 1) + 1 by omega]; rfl
        have h1 := rok (k - 1 - t)
        rw [ih] at h1
        rw [← e] at h1
        refine rho_of F (h1.step F fun j z => ?_)
        rw [e, ← orb_add] at z
        by_cases cz : k - 1 - t + j < k
        · exact (orbL_nd F).mp hk2 (k - 1 - (t + 1)) (k - 1 - t + j) (by omega) cz z.symm
        · have := Kcl _ ck (k - 1 - t + j - k)
          rw [← orb_add, show k + (k - 1 - t + j - k) = k - 1 - t + j by omega, z] at this
          exact hk1 _ (by omega) this
    obtain ⟨L, hL⟩ : ∃ L, L = (orbL F k s).reverse := ⟨_, rfl⟩
    have hLl : L.length = k := by rw [hL, List.length_reverse, orbL_len]
    have hndL : (K ++ L).Nodup := by
      rw [List.nodup_append]
      refine ⟨hK.nd, by rw [hL]; exact nodup_rev hk2, fun x hx y hy z => ?_⟩
      rw [hL, List.mem_reverse] at hy
      obtain ⟨i, hi, rfl⟩ := mem_orbL F hy
      exact hk1 i hi (by rw [← z]; exact hx)
    have hgL : ∀ t x, L[t]? = some x → rho F x = (tail + t + 1, many) := fun t x hx => by
      rw [hL] at hx
      obtain ⟨h1, rfl⟩ := orbL_rev_get F hx
      exact hr t h1
    have memL : ∀ x, x ∈ L ↔ ∃ i, i < k ∧ orb F i s = x := fun x => by
      rw [hL, List.mem_reverse]
      exact ⟨fun z => mem_orbL F z, fun ⟨i, h1, h2⟩ => by rw [← h2]; exact orbL_mem F h1⟩
    have hKok : KOk F S (K ++ L) := by
      refine ⟨hndL, fun x hx => ?_, fun x hx => ?_⟩
      · rcases List.mem_append.mp hx with z | z
        · exact hK.sub x z
        · obtain ⟨i, _, rfl⟩ := (memL x).mp z; exact hmem i
      · rcases List.mem_append.mp hx with z | z
        · exact List.mem_append_left _ (hK.cl x z)
        · obtain ⟨i, hi, rfl⟩ := (memL x).mp z
          by_cases c : i + 1 = k
          · exact List.mem_append_left _ (by rw [show F (orb F i s) = orb F k s from by rw [← c]; rfl]; exact ck)
          · exact List.mem_append_right _ ((memL _).mpr ⟨i + 1, by omega, rfl⟩)
    have hsin : s ∈ K ++ L := by
      by_cases c : k = 0
      · subst c; exact List.mem_append_left _ ck
      · exact List.mem_append_right _ ((memL _).mpr ⟨0, by omega, rfl⟩)
    refine ⟨K ++ L, hKok, hsin, hasT_encRho _, fun a c hac => ?_⟩
    have W := tr_walk (F := F) (S := S) (K := K) (V1 := []) (s := s) (a := a) (c := c) hn hmem hk1 hk2 hk3 (by omega)
    have e2 := at_encK (F := F) hK.nd ck
    have er : encRho (rho F (orb F k s)) = .tup [.int (tail : Int), .int (many : Int)] := by rw [htl, hmn]; rfl
    rw [er] at e2
    have tE := hasTL_encS (orbL F k s)
    have eL : ((orbL F k s).map encS).reverse = L.map encS := by rw [hL, List.map_reverse]
    obtain ⟨y8, eB⟩ := tr_back (F := F) (A := some (.dct ⟨some a, true⟩ S (S.map fun x => encS (F x)))) (B := some (encS s)) (C := some (.dct ⟨none, false⟩ (orbL F k s) (numL k))) (E := some (.lst false ((orbL F k s).map encS))) (T := some (encS (orb F k s))) (x8 := none) (cc := c) (K0 := K) (tail := tail) (many := many) L hndL hgL (by omega)
    unfold s_tail_and_round atD
    refine defB_rt (d := encRho (rho F s)) (m := [some (.dct ⟨some a, true⟩ S (S.map fun x => encS (F x))), some (.dct ⟨some c, false⟩ (K ++ L) (encK F (K ++ L))), some (encS s), some (.dct ⟨none, false⟩ (orbL F k s) (numL k)), some (.lst false ((orbL F k s).map encS)), some (encS (orb F k s)), some (.int ((tail + L.length : Nat) : Int)), some (.int (many : Int)), y8]) rfl ?_ rfl
    simp only [List.map_cons, List.map_nil]
    rw [bSeq_nx (m' := [some (.dct ⟨some a, true⟩ S (S.map fun x => encS (F x))), some (.dct ⟨some c, false⟩ K (encK F K)), some (encS s), some (.dct ⟨none, false⟩ [] []), none, none, none, none, none]) (by rfl)]
    rw [bSeq_nx (m' := [some (.dct ⟨some a, true⟩ S (S.map fun x => encS (F x))), some (.dct ⟨some c, false⟩ K (encK F K)), some (encS s), some (.dct ⟨none, false⟩ [] []), some (.lst true []), none, none, none, none]) (by simp)]
    rw [bSeq_nx (m' := [some (.dct ⟨some a, true⟩ S (S.map fun x => encS (F x))), some (.dct ⟨some c, false⟩ K (encK F K)), some (encS s), some (.dct ⟨none, false⟩ [] []), some (.lst true []), some (encS s), none, none, none]) (by simp)]
    rw [bSeq_nx W]
    rw [bSeq_nx (m' := [some (.dct ⟨some a, true⟩ S (S.map fun x => encS (F x))), some (.dct ⟨some c, false⟩ K (encK F K)), some (encS s), some (.dct ⟨none, false⟩ (orbL F k s) (numL k)), some (.lst true ((orbL F k s).map encS)), some (encS (orb F k s)), some (.int (tail : Int)), some (.int (many : Int)), none]) (by
      simp [dHas_iff, ck, e2])]
    rw [bSeq_nx (m' := [some (.dct ⟨some a, true⟩ S (S.map fun x => encS (F x))), some (.dct ⟨some c, false⟩ (K ++ L) (encK F (K ++ L))), some (encS s), some (.dct ⟨none, false⟩ (orbL F k s) (numL k)), some (.lst false ((orbL F k s).map encS)), some (encS (orb F k s)), some (.int ((tail + L.length : Nat) : Int)), some (.int (many : Int)), y8]) (by
      rw [← eB]
      simp [sFreeze, revI, tE, ← eL])]
    rw [bRet_eq (d := encRho (rho F s)) (by simp [at_encK (F := F) hndL hsin]) (hasT_encRho _)]
  · -- a new circle
    obtain ⟨i, hi, he⟩ := mem_orbL F (hk3.resolve_left ck)
    obtain ⟨many, hmn⟩ : ∃ x, x = k - i := ⟨_, rfl⟩
    have hcyc : ∀ j, i ≤ j → j < k → rho F (orb F j s) = (0, many) := fun j h1 h2 => by
      rw [hmn]; exact rho_of F (Rho.cycle F hk2 hi he.symm h1 h2)
    have hr : ∀ t, t < i → rho F (orb F (i - 1 - t) s) = (0 + t + 1, many) := fun t => by
      have per := fun n => (orb_per F (fun _ => 0) (i := i) (c := k - i) (s := s) (by rw [show i + (k - i) = k by omega]; exact he.symm) n).1
      have notb : ∀ b j, b < i → b < j → orb F j s ≠ orb F b s := fun b j hb hj z => by
        by_cases c : j < k
        · exact (orbL_nd F).mp hk2 b j hj c z.symm
        · have h1 := per (j - i)
          rw [show i + (j - i) = j by omega] at h1
          have h2 := Nat.mod_lt (j - i) (show 0 < k - i by omega)
          rw [h1] at z
          exact (orbL_nd F).mp hk2 b (i + (j - i) % (k - i)) (by omega) (by omega) z.symm
      induction t with
      | zero =>
        intro ht
        have e : F (orb F (i - 1) s) = orb F i s := by
          rw [show i = i - 1 + 1 by omega]; rfl
        have h1 := rok i
        rw [hcyc i (by omega) hi] at h1
        rw [← e] at h1
        refine rho_of F (h1.step F fun j z => ?_)
        rw [e, ← orb_add] at z
        exact notb (i - 1) (i + j) (by omega) (by omega) z
      | succ t ih =>
        intro ht
        have ih := ih (by omega)
        have e : F (orb F (i - 1 - (t + 1)) s) = orb F (i - 1 - t) s := by
          rw [show i - 1 - t = i - 1 - (t + 1) + 1 by omega]; rfl
        have h1 := rok (i - 1 - t)
        rw [ih] at h1
        rw [← e] at h1
        refine rho_of F (h1.step F fun j z => ?_)
        rw [e, ← orb_add] at z
        exact notb (i - 1 - (t + 1)) (i - 1 - t + j) (by omega) (by omega) z
    obtain ⟨C, hC⟩ : ∃ C, C = (orbL F k s).drop i := ⟨_, rfl⟩
    obtain ⟨L, hL⟩ : ∃ L, L = (orbL F i s).reverse := ⟨_, rfl⟩
    have hLl : L.length = i := by rw [hL, List.length_reverse, orbL_len]
    have hCl : C.length = k - i := by rw [hC, List.length_drop, orbL_len]
    have memC : ∀ x, x ∈ C ↔ ∃ j, i ≤ j ∧ j < k ∧ orb F j s = x := fun x => by
      rw [hC, orbL_drop, List.mem_map]
      exact ⟨fun ⟨t, h1, h2⟩ => ⟨i + t, by omega, by have := List.mem_range.mp h1; omega, h2⟩, fun ⟨j, h1, h2, h3⟩ => ⟨j - i, List.mem_range.mpr (by omega), by rw [show i + (j - i) = j by omega]; exact h3⟩⟩
    have memL : ∀ x, x ∈ L ↔ ∃ j, j < i ∧ orb F j s = x := fun x => by
      rw [hL, List.mem_reverse]
      exact ⟨fun z => mem_orbL F z, fun ⟨i, h1, h2⟩ => by rw [← h2]; exact orbL_mem F h1⟩
    have hndC : (K ++ C).Nodup := by
      rw [List.nodup_append]
      refine ⟨hK.nd, by rw [hC]; exact hk2.sublist (List.drop_sublist _ _), fun x hx y hy z => ?_⟩
      obtain ⟨j, h1, h2, rfl⟩ := (memC y).mp hy
      exact hk1 j h2 (by rw [← z]; exact hx)
    have hndL : (K ++ C ++ L).Nodup := by
      rw [List.nodup_append]
      refine ⟨hndC, by rw [hL]; exact nodup_rev (orbL_nd_mono F hk2 (by omega)), fun x hx y hy z => ?_⟩
      obtain ⟨j, h1, rfl⟩ := (memL y).mp hy
      rcases List.mem_append.mp hx with w | w
      · exact hk1 j (by omega) (by rw [← z]; exact w)
      · obtain ⟨j', h2, h3, e⟩ := (memC x).mp w
        rw [← e] at z
        exact (orbL_nd F).mp hk2 j j' (by omega) h3 z.symm
    have hgC : ∀ x ∈ C, rho F x = (0, many) := fun x hx => by
      obtain ⟨j, h1, h2, rfl⟩ := (memC x).mp hx
      exact hcyc j h1 h2
    have hgL : ∀ t x, L[t]? = some x → rho F x = (0 + t + 1, many) := fun t x hx => by
      rw [hL] at hx
      obtain ⟨h1, rfl⟩ := orbL_rev_get F hx
      exact hr t h1
    have hKok : KOk F S (K ++ C ++ L) := by
      refine ⟨hndL, fun x hx => ?_, fun x hx => ?_⟩
      · rcases List.mem_append.mp hx with z | z
        · rcases List.mem_append.mp z with z | z
          · exact hK.sub x z
          · obtain ⟨j, _, _, rfl⟩ := (memC x).mp z; exact hmem j
        · obtain ⟨j, _, rfl⟩ := (memL x).mp z; exact hmem j
      · rcases List.mem_append.mp hx with z | z
        · refine List.mem_append_left _ ?_
          rcases List.mem_append.mp z with z | z
          · exact List.mem_append_left _ (hK.cl x z)
          · obtain ⟨j, h1, h2, rfl⟩ := (memC x).mp z
            refine List.mem_append_right _ ((memC _).mpr ?_)
            by_cases c : j + 1 = k
            · exact ⟨i, by omega, hi, by rw [he, ← c]; rfl⟩
            · exact ⟨j + 1, by omega, by omega, rfl⟩
        · obtain ⟨j, h1, rfl⟩ := (memL x).mp z
          by_cases c : j + 1 = i
          · exact List.mem_append_left _ (List.mem_append_right _ ((memC _).mpr ⟨i, by omega, hi, by rw [← c]; rfl⟩))
          · exact List.mem_append_right _ ((memL _).mpr ⟨j + 1, by omega, rfl⟩)
    have hsin : s ∈ K ++ C ++ L := by
      by_cases c : i = 0
      · subst c; exact List.mem_append_left _ (List.mem_append_right _ ((memC _).mpr ⟨0, by omega, hi, rfl⟩))
      · exact List.mem_append_right _ ((memL _).mpr ⟨0, by omega, rfl⟩)
    refine ⟨K ++ C ++ L, hKok, hsin, hasT_encRho _, fun a c hac => ?_⟩
    have W := tr_walk (F := F) (S := S) (K := K) (V1 := []) (s := s) (a := a) (c := c) hn hmem hk1 hk2 hk3 (by omega)
    have e2 : atR (orbL F k s) (numL k) (encS (orb F k s)) = .ok (.int (i : Int)) := by
      simp [atR, dAt_get hk2 (by rw [orbL_get F hi, he]) (numL_get hi)]
    have tE := hasTL_encS (orbL F k s)
    have ek : (k : Int) - (i : Int) = (many : Int) := by omega
    have eC1 : cutA ((orbL F k s).map encS) (some (i : Int)) none = C.map encS := by rw [cut_tail, hC, List.map_drop]
    have eC2 : cutA ((orbL F k s).map encS) none (some (i : Int)) = (orbL F i s).map encS := by rw [cut_head, ← List.map_take, orbL_take F (by omega)]
    have eL : ((orbL F i s).map encS).reverse = L.map encS := by rw [hL, List.map_reverse]
    have tC := hasTL_encS C
    have tI := hasTL_encS (orbL F i s)
    have lk : (orbL F k s).length = k := orbL_len F k s
    obtain ⟨y8, eA⟩ := tr_cycle (F := F) (A := some (.dct ⟨some a, true⟩ S (S.map fun x => encS (F x)))) (B := some (encS s)) (C := some (.dct ⟨none, false⟩ (orbL F k s) (numL k))) (E := some (.lst false ((orbL F k s).map encS))) (T := some (encS (orb F k s))) (G := some (.int 0)) (x8 := none) (cc := c) (K0 := K) (many := many) C hndC hgC (by omega)
    obtain ⟨z8, eB⟩ := tr_back (F := F) (A := some (.dct ⟨some a, true⟩ S (S.map fun x => encS (F x)))) (B := some (encS s)) (C := some (.dct ⟨none, false⟩ (orbL F k s) (numL k))) (E := some (.lst false ((orbL F i s).map encS))) (T := some (encS (orb F k s))) (x8 := y8) (cc := c) (K0 := K ++ C) (tail := 0) (many := many) L hndL hgL (by rw [List.length_append]; omega)
    unfold s_tail_and_round atD
    refine defB_rt (d := encRho (rho F s)) (m := [some (.dct ⟨some a, true⟩ S (S.map fun x => encS (F x))), some (.dct ⟨some c, false⟩ (K ++ C ++ L) (encK F (K ++ C ++ L))), some (encS s), some (.dct ⟨none, false⟩ (orbL F k s) (numL k)), some (.lst false ((orbL F i s).map encS)), some (encS (orb F k s)), some (.int ((0 + L.length : Nat) : Int)), some (.int (many : Int)), z8]) rfl ?_ rfl
    simp only [List.map_cons, List.map_nil]
    rw [bSeq_nx (m' := [some (.dct ⟨some a, true⟩ S (S.map fun x => encS (F x))), some (.dct ⟨some c, false⟩ K (encK F K)), some (encS s), some (.dct ⟨none, false⟩ [] []), none, none, none, none, none]) (by rfl)]
    rw [bSeq_nx (m' := [some (.dct ⟨some a, true⟩ S (S.map fun x => encS (F x))), some (.dct ⟨some c, false⟩ K (encK F K)), some (encS s), some (.dct ⟨none, false⟩ [] []), some (.lst true []), none, none, none, none]) (by simp)]
    rw [bSeq_nx (m' := [some (.dct ⟨some a, true⟩ S (S.map fun x => encS (F x))), some (.dct ⟨some c, false⟩ K (encK F K)), some (encS s), some (.dct ⟨none, false⟩ [] []), some (.lst true []), some (encS s), none, none, none]) (by simp)]
    rw [bSeq_nx W]
    rw [bSeq_nx (m' := [some (.dct ⟨some a, true⟩ S (S.map fun x => encS (F x))), some (.dct ⟨some c, false⟩ (K ++ C) (encK F (K ++ C))), some (encS s), some (.dct ⟨none, false⟩ (orbL F k s) (numL k)), some (.lst true ((orbL F i s).map encS)), some (encS (orb F k s)), some (.int 0), some (.int (many : Int)), y8]) (by
      simp [dHas_iff, ck, e2, lk, ek, sFreeze, itemsN, items, tE, eC1, tC]
      rw [eA]
      simp [e2, cutO, eC2, tI])]
    rw [bSeq_nx (m' := [some (.dct ⟨some a, true⟩ S (S.map fun x => encS (F x))), some (.dct ⟨some c, false⟩ (K ++ C ++ L) (encK F (K ++ C ++ L))), some (encS s), some (.dct ⟨none, false⟩ (orbL F k s) (numL k)), some (.lst false ((orbL F i s).map encS)), some (encS (orb F k s)), some (.int ((0 + L.length : Nat) : Int)), some (.int (many : Int)), z8]) (by
      rw [← eB]
      simp [sFreeze, revI, tI, ← eL])]
    rw [bRet_eq (d := encRho (rho F s)) (by simp [at_encK (F := F) hndL hsin, -List.append_assoc]) (hasT_encRho _)]
end CK

/-! PtZ4: row_round -/
namespace CK
open PySem PySem.Spec PyProof.Rows L2 CT
theorem more1_nd (q : Part) (st : List Int) : (more1 q st).Nodup := by
  unfold more1
  rw [List.nodup_iff_pairwise_ne, List.pairwise_map]
  refine (List.nodup_iff_pairwise_ne.mp List.nodup_range).imp fun {a b} h z => h ?_
  have := List.append_cancel_left z
  simp at this
  omega
theorem moreS_nd {q : Part} : ∀ {told : List (List Int)}, told.Nodup → (moreS q told).Nodup
  | [], _ => by simp [moreS]
  | st :: told, h => by
    rw [List.nodup_cons] at h
    have e : moreS q (st :: told) = more1 q st ++ moreS q told := by simp [moreS]
    rw [e, List.nodup_append]
    refine ⟨more1_nd q st, moreS_nd h.2, fun x hx y hy z => ?_⟩
    subst z
    simp only [moreS, more1, List.mem_flatMap, List.mem_map, List.mem_range] at hx hy
    obtain ⟨i, _, rfl⟩ := hx
    obtain ⟨t, ht, j, _, e2⟩ := hy
    have := (List.append_inj' e2 rfl).1
    exact h.1 (by rw [← this]; exact ht)
theorem allF_nd : ∀ {l : List Part} {told : List (List Int)}, told.Nodup → (allF told l).Nodup
  | [], _, h => h
  | q :: l, _, h => allF_nd (l := l) (moreS_nd h)
theorem allS_nd (l : List Part) : (allS l).Nodup := allF_nd (by simp)
theorem r_common (a b : Nat) : s_common [.int (a : Int), .int (b : Int)] = .ok (.int (Nat.gcd a b : Nat)) := by
  unfold s_common
  refine def_ok1 rfl ?_
  simp
  obtain ⟨I, hI⟩ : ∃ I : Nat → Sl → Prop, I = fun n m => ∃ x y : Nat, n = y ∧ Nat.gcd x y = Nat.gcd a b ∧ m = [some (.int (x : Int)), some (.int (y : Int))] := ⟨_, rfl⟩
  refine wp_while I b ?_ (fun n m hm => ?_)
  · rw [hI]; exact ⟨a, b, rfl, rfl, rfl⟩
  · rw [hI] at hm
    obtain ⟨x, y, rfl, hg, rfl⟩ := hm
    by_cases c : n = 0
    · subst c
      refine ⟨false, by simp, fun z => (by cases z), fun _ => ?_⟩
      rw [Nat.gcd_zero_right] at hg
      simp [hg]
    · refine ⟨true, by simp [c], fun _ => ?_, fun z => (by cases z)⟩
      have e : modD (.int (x : Int)) (.int (n : Int)) = .ok (.int ((x % n : Nat) : Int)) := by rw [modD_ok (by omega)]; simp
      simp [e]
      rw [hI]
      refine ⟨x % n, Nat.mod_lt _ (by omega), n, x % n, rfl, ?_, by simp⟩
      rw [← hg, Nat.gcd_comm x n, Nat.gcd_rec n x, Nat.gcd_comm]
theorem r_law_divisor (a b : Nat) : s_law_divisor [.int (a : Int), .int (b : Int)] = .ok (.int (Nat.gcd a b : Nat)) := r_common a b
/-- all stands' rounds together -/
def aggS (acc p : Nat × Nat) : Nat × Nat := (max acc.1 p.1, acc.2 * p.2 / Nat.gcd acc.2 p.2)
noncomputable def agg (F : List Int → List Int) (S : List (List Int)) : Nat × Nat := S.foldl (fun acc s => aggS acc (rho F s)) (0, 1)
theorem agg_take {F : List Int → List Int} {S : List (List Int)} {k : Nat} {s : List Int} (h : S[k]? = some s) : agg F (S.take (k + 1)) = aggS (agg F (S.take k)) (rho F s) := by
  unfold agg
  rw [List.take_add_one, h, List.foldl_append]
  rfl
theorem agg_pos {F : List Int → List Int} {S : List (List Int)} (h : ∀ s ∈ S, 1 ≤ (rho F s).2) : 1 ≤ (agg F S).2 := by
  unfold agg
  have : ∀ (L : List (List Int)) (acc : Nat × Nat), (∀ s ∈ L, 1 ≤ (rho F s).2) → 1 ≤ acc.2 → 1 ≤ (L.foldl (fun acc s => aggS acc (rho F s)) acc).2 := by
    intro L
    induction L with
    | nil => intro acc _ h; exact h
    | cons s L ih =>
      intro acc hL ha
      refine ih _ (fun x hx => hL x (by simp [hx])) ?_
      have h1 := hL s (by simp)
      show 1 ≤ acc.2 * (rho F s).2 / Nat.gcd acc.2 (rho F s).2
      rw [Nat.mul_div_assoc _ (Nat.gcd_dvd_right _ _)]
      have h2 : 1 ≤ (rho F s).2 / Nat.gcd acc.2 (rho F s).2 := by
        rw [Nat.le_div_iff_mul_le (Nat.gcd_pos_of_pos_right _ h1)]
        rw [Nat.one_mul]
        exact Nat.le_of_dvd h1 (Nat.gcd_dvd_right _ _)
      exact Nat.mul_le_mul ha h2
  exact this S (0, 1) h (by decide)
@[simp] theorem unlS_none : unlS none = true := nr rfl
@[simp] theorem unlS_int (i : Int) : unlS (some (.int i)) = true := nr rfl
@[simp] theorem unlS_lst (t : Bool) (xs : List D) : unlS (some (.lst t xs)) = true := nr rfl
@[simp] theorem unlS_tup (xs : List D) : unlS (some (.tup xs)) = true := nr rfl
@[simp] theorem unlS_dct (q : DT) (ks : List (List Int)) (ds : List D) : unlS (some (.dct q ks ds)) = !q.l := nr rfl
theorem wp_backK {i : Nat} {r : RS} {Q : Po} (h : wp r ⟨fun m => (m.set i none).all unlS = true ∧ Q.nx (m.set i none), fun _ => False, fun _ => False, fun _ => False, fun _ => False⟩) : wp (backK i r) Q := by
  cases r <;> first | (exact h.elim) | skip
  obtain ⟨h1, h2⟩ := h
  simp only [backK, h1, if_true]
  exact h2
theorem max_int (a b : Nat) : maxD [.int (a : Int), .int (b : Int)] = .ok (.int ((max a b : Nat) : Int)) := by
  rw [maxD_int]
  congr 2
  rw [Nat.max_def]
  split <;> split <;> omega
theorem lcm_step {a b : Nat} (hb : 1 ≤ b) (hb2 : b ≤ 100000) : mulD (.int (a : Int)) (.int (b : Int)) = .ok (.int ((a * b : Nat) : Int)) ∧ divD (.int ((a * b : Nat) : Int)) (.int ((Nat.gcd a b : Nat) : Int)) = .ok (.int ((a * b / Nat.gcd a b : Nat) : Int)) := by
  have h1 : 0 < Nat.gcd a b := Nat.gcd_pos_of_pos_right _ (by omega)
  have h2 : Nat.gcd a b ≤ b := Nat.le_of_dvd (by omega) (Nat.gcd_dvd_right _ _)
  refine ⟨by rw [mulD_r ⟨by omega, by omega⟩]; simp, ?_⟩
  rw [divD_s (by omega) (by omega)]
  simp
theorem rho_le {F : List Int → List Int} {S : List (List Int)} (hS : ∀ s ∈ S, F s ∈ S) {s : List Int} (hs : s ∈ S) : 1 ≤ (rho F s).2 ∧ (rho F s).1 + (rho F s).2 ≤ S.length := by
  have h := rho_ok F hS hs
  have hmem : ∀ j, orb F j s ∈ S := fun n => by
    induction n with
    | zero => exact hs
    | succ n ih => exact hS _ ih
  refine ⟨h.c1, ?_⟩
  have := nodup_le h.nd (ys := S) fun x hx => by
    obtain ⟨i, _, rfl⟩ := mem_orbL F hx
    exact hmem i
  rwa [orbL_len] at this
theorem r_row_round {l : List Part} {row : List Deed} (h : Trn l) (hr : RowOk l.length row) (hp : prodN l ≤ 100000) :
    s_row_round [.lst false (l.map encP), .lst false (row.map encDd)] = .ok (encRho (agg (fun s => (walkN l s row).1) (allS l))) := by
  obtain ⟨F, hF⟩ : ∃ F : List Int → List Int, F = fun s => (walkN l s row).1 := ⟨_, rfl⟩
  rw [← hF]
  obtain ⟨S, hS⟩ : ∃ S, S = allS l := ⟨_, rfl⟩
  have hn : S.Nodup := by rw [hS]; exact allS_nd l
  have hcl : ∀ s ∈ S, F s ∈ S := fun s z => by
    rw [hS] at z ⊢
    rw [hF]
    exact allS_mem h.ok.1 (walkN_ok h.ok.1 (allS_ok z) hr.1)
  have hlen : S.length ≤ 100000 := by
    have := allS_len h.ok.1
    rw [← hS] at this
    omega
  have hw : ∀ s ∈ S, s_walked [.lst false (l.map encP), encS s, .lst false (row.map encDd)] = .ok (.tup [encS (F s), .int (walkN l s row).2]) := fun s z => by
    rw [hF]
    exact r_walked h.ok (allS_ok (by rw [← hS]; exact z)).length hr
  have hst := r_stands_of h hp
  rw [← hS] at hst ⊢
  have tS := hasTL_encS S
  unfold s_row_round
  refine def_ok1 rfl ?_
  simp [hst, r_check_trn h, r_check_rw h.ok hr, sNewD, itemsN, items, tS]
  obtain ⟨I, hI⟩ : ∃ I : Nat → Sl → Prop, I = fun k m => ∃ a3 : Option D, m = [some (.lst false (l.map encP)), some (.lst false (row.map encDd)), some (.dct ⟨none, false⟩ (S.take k) ((S.take k).map fun x => encS (F x))), a3, none, none, none, none, none] ∧ unlS a3 = true := ⟨_, rfl⟩
  refine wp_map I ?_ (fun k s hk m hm => ?_) (fun m hm => ?_)
  · rw [hI]; exact ⟨none, rfl, rfl⟩
  · rw [hI] at hm
    obtain ⟨a3, rfl, _⟩ := hm
    have hs := List.mem_of_getElem? hk
    have hne : s ∉ S.take k := by
      have : (S.take (k + 1)).Nodup := hn.sublist (List.take_sublist _ _)
      rw [List.take_add_one, hk, List.nodup_append] at this
      exact fun z => this.2.2 s z s (by simp) rfl
    have hlt : (S.take k).length < sizeLine := by rw [sizeBig]; simp; omega
    obtain ⟨SS, hSS⟩ : ∃ SS, SS = S.take k := ⟨_, rfl⟩
    rw [← hSS] at hne hlt ⊢
    simp [hw s hs, sPutD, dPutK_new hne, dPutV_new hne, hlt]
    rw [hI]
    refine ⟨some (encS s), ?_, rfl⟩
    rw [List.take_add_one, hk, hSS]
    simp
  · rw [hI] at hm
    obtain ⟨a3, rfl, h3⟩ := hm
    rw [List.take_length]
    simp [sKeysD, sNewD]
    refine wp_backK ?_
    obtain ⟨J, hJ⟩ : ∃ J : Nat → Sl → Prop, J = fun k m => ∃ (K : List (List Int)) (a3 a7 a8 : Option D), m = [some (.lst false (l.map encP)), some (.lst false (row.map encDd)), some (.dct ⟨none, true⟩ S (S.map fun x => encS (F x))), a3, some (.int ((agg F (S.take k)).1 : Int)), some (.int ((agg F (S.take k)).2 : Int)), some (.dct ⟨none, false⟩ K (encK F K)), a7, a8] ∧ KOk F S K ∧ unlS a3 = true ∧ unlS a7 = true ∧ unlS a8 = true := ⟨_, rfl⟩
    refine wp_map (enc := encS) J ?_ (fun k s hk m hm => ?_) (fun m hm => ?_)
    · rw [hJ]; exact ⟨[], a3, none, none, rfl, ⟨by simp, by simp, by simp⟩, h3, rfl, rfl⟩
    · rw [hJ] at hm
      obtain ⟨K, a3, a7, a8, rfl, hK, _, _, _⟩ := hm
      have hs := List.mem_of_getElem? hk
      obtain ⟨K', k1, k2, k3⟩ := r_tail hn hlen hcl hK hs
      have eB := callB_of k3
      obtain ⟨c1, c2⟩ := rho_le hcl hs
      have e9 := agg_take (F := F) hk
      obtain ⟨ah, hah⟩ : ∃ x, x = (agg F (S.take k)).1 := ⟨_, rfl⟩
      obtain ⟨ro, hro⟩ : ∃ x, x = (agg F (S.take k)).2 := ⟨_, rfl⟩
      obtain ⟨tl, htl⟩ : ∃ x, x = (rho F s).1 := ⟨_, rfl⟩
      obtain ⟨mn, hmn⟩ : ∃ x, x = (rho F s).2 := ⟨_, rfl⟩
      have e8 : aggS (agg F (S.take k)) (rho F s) = (max ah tl, ro * mn / Nat.gcd ro mn) := by rw [hah, hro, htl, hmn]; rfl
      have e7 : encRho (rho F s) = .tup [.int (tl : Int), .int (mn : Int)] := by rw [htl, hmn]; rfl
      rw [← hmn] at c1 c2
      rw [← htl] at c2
      obtain ⟨l1, l2⟩ := lcm_step (a := ro) c1 (by omega)
      have l3 := r_common ro mn
      have l4 := max_int ah tl
      rw [e7] at eB
      rw [← hah, ← hro]
      obtain ⟨V, hV⟩ : ∃ V, V = S.map fun x => encS (F x) := ⟨_, rfl⟩
      rw [← hV] at eB ⊢
      generalize ro * mn = rm at l1 l2 e8
      generalize Nat.gcd ro mn = gg at l2 l3 e8
      simp [-maxD_int, sAsgB, eB, l1, l2, l3, l4]
      rw [hJ]
      refine ⟨K', some (encS s), some (.int (tl : Int)), some (.int (mn : Int)), ?_, k1, rfl, rfl, rfl⟩
      rw [e9, e8, ← hV]
      simp
    · rw [hJ] at hm
      obtain ⟨K, a3, a7, a8, rfl, hK, u3, u7, u8⟩ := hm
      rw [List.take_length]
      refine ⟨by simp [u3, u7, u8], ?_⟩
      simp [encRho]
end CK

/-! PtZ7: rounds of all stands together -/
namespace CK
open PySem PySem.Spec PyProof.Rows L2 CT
section
variable {α : Type} (f : α → α)
/-- where on its way -/
def red (i c n : Nat) : Nat := if n < i then n else i + (n - i) % c
theorem red_eq {s : α} {i c : Nat} (h : Rho f s i c) (n : Nat) : orb f (red i c n) s = orb f n s ∧ red i c n < i + c := by
  unfold red
  have hc := h.c1
  split
  · exact ⟨rfl, by omega⟩
  · have := (orb_per f (fun _ => 0) (s := s) h.eq (n - i)).1
    rw [show i + (n - i) = n by omega] at this
    have hm := Nat.mod_lt (n - i) (show 0 < c by omega)
    exact ⟨this.symm, by omega⟩
theorem per_iff {s : α} {i c : Nat} (h : Rho f s i c) {a r : Nat} (hr : 1 ≤ r) : orb f a s = orb f (a + r) s ↔ i ≤ a ∧ c ∣ r := by
  obtain ⟨e1, l1⟩ := red_eq f h a
  obtain ⟨e2, l2⟩ := red_eq f h (a + r)
  have hc := h.c1
  have inj : orb f a s = orb f (a + r) s ↔ red i c a = red i c (a + r) := by
    constructor
    · intro z
      rw [← e1, ← e2] at z
      by_cases c1 : red i c a < red i c (a + r)
      · exact absurd z ((orbL_nd f).mp h.nd _ _ c1 l2)
      by_cases c2 : red i c (a + r) < red i c a
      · exact absurd z.symm ((orbL_nd f).mp h.nd _ _ c2 l1)
      omega
    · intro z; rw [← e1, ← e2, z]
  rw [inj]
  unfold red
  constructor
  · intro z
    by_cases c1 : a < i
    · rw [if_pos c1] at z
      split at z
      · omega
      · have := Nat.mod_lt (a + r - i) (show 0 < c by omega); omega
    · rw [if_neg c1, if_neg (by omega)] at z
      have z' : (a - i) % c = (a - i + r) % c := by
        have : a + r - i = a - i + r := by omega
        rw [this] at z; omega
      have h1 := Nat.sub_mod_eq_zero_of_mod_eq z'.symm
      rw [show a - i + r - (a - i) = r by omega] at h1
      exact ⟨by omega, Nat.dvd_of_mod_eq_zero h1⟩
  · rintro ⟨h1, q, rfl⟩
    rw [if_neg (by omega), if_neg (by omega), show a + c * q - i = a - i + c * q by omega, Nat.add_mul_mod_self_left]
end
structure AggOk (F : List Int → List Int) (L : List (List Int)) (acc r : Nat × Nat) : Prop where
  t0 : acc.1 ≤ r.1
  t : ∀ s ∈ L, (rho F s).1 ≤ r.1
  tm : r.1 = acc.1 ∨ ∃ s ∈ L, (rho F s).1 = r.1
  c0 : acc.2 ∣ r.2
  c : ∀ s ∈ L, (rho F s).2 ∣ r.2
  cm : ∀ n, acc.2 ∣ n → (∀ s ∈ L, (rho F s).2 ∣ n) → r.2 ∣ n
  b : ∀ B, (∀ s ∈ L, (rho F s).2 ≤ B) → r.2 ≤ acc.2 * B ^ L.length
theorem agg_ok (F : List Int → List Int) : ∀ (L : List (List Int)) (acc : Nat × Nat), AggOk F L acc (L.foldl (fun acc s => aggS acc (rho F s)) acc)
  | [], acc => ⟨Nat.le_refl _, by simp, .inl rfl, Nat.dvd_refl _, by simp, fun n h _ => h, fun B _ => by simp⟩
  | s :: L, acc => by
    have ih := agg_ok F L (aggS acc (rho F s))
    have e2 : (aggS acc (rho F s)).2 = Nat.lcm acc.2 (rho F s).2 := rfl
    have e1 : (aggS acc (rho F s)).1 = max acc.1 (rho F s).1 := rfl
    rw [List.foldl_cons]
    generalize L.foldl (fun acc s => aggS acc (rho F s)) (aggS acc (rho F s)) = r at ih
    obtain ⟨h1, h2, h3, h4, h5, h6, h7⟩ := ih
    rw [e1] at h1 h3
    rw [e2] at h4 h6 h7
    refine ⟨by omega, fun x hx => ?_, ?_, Nat.dvd_trans (Nat.dvd_lcm_left _ _) h4, fun x hx => ?_, fun n hn hx => ?_, fun B hB => ?_⟩
    · rcases List.mem_cons.mp hx with rfl | hx
      · omega
      · exact h2 x hx
    · rcases h3 with h3 | ⟨x, hx, h3⟩
      · by_cases c : acc.1 ≤ (rho F s).1
        · exact .inr ⟨s, by simp, by rw [h3, Nat.max_eq_right c]⟩
        · exact .inl (by rw [h3, Nat.max_eq_left (by omega)])
      · exact .inr ⟨x, by simp [hx], h3⟩
    · rcases List.mem_cons.mp hx with rfl | hx
      · exact Nat.dvd_trans (Nat.dvd_lcm_right _ _) h4
      · exact h5 x hx
    · exact h6 n (Nat.lcm_dvd hn (hx s (by simp))) fun x hx' => hx x (by simp [hx'])
    · have := h7 B fun x hx => hB x (by simp [hx])
      have l1 : Nat.lcm acc.2 (rho F s).2 ≤ acc.2 * (rho F s).2 := Nat.div_le_self _ _
      have l2 : acc.2 * (rho F s).2 ≤ acc.2 * B := Nat.mul_le_mul_left _ (hB s (by simp))
      have l3 := Nat.mul_le_mul_right (B ^ L.length) (Nat.le_trans l1 l2)
      rw [List.length_cons, Nat.pow_succ, Nat.mul_comm (B ^ L.length) B, ← Nat.mul_assoc]
      exact Nat.le_trans this l3
theorem agg_okS (F : List Int → List Int) (S : List (List Int)) : AggOk F S (0, 1) (agg F S) := agg_ok F S (0, 1)
/-- done a and a + r times: the same from all stands -/
def sameA (F : List Int → List Int) (S : List (List Int)) (a b : Nat) : Prop := ∀ s ∈ S, orb F a s = orb F b s
section
variable {F : List Int → List Int} {S : List (List Int)} (hS : ∀ s ∈ S, F s ∈ S)
include hS
theorem agg_same {k q : Nat} (hq : 1 ≤ q) : sameA F S ((agg F S).1 + k) ((agg F S).1 + k + (agg F S).2 * q) := fun s hs => by
  have o := agg_okS F S
  have hp := agg_pos (F := F) (S := S) fun s hs => (rho_le hS hs).1
  have h1 := Nat.mul_le_mul hp hq
  refine (per_iff F (rho_ok F hS hs) (r := (agg F S).2 * q) (by omega)).mpr ⟨?_, Nat.dvd_trans (o.c s hs) (Nat.dvd_mul_right _ _)⟩
  have := o.t s hs
  omega
theorem agg_not_ahead (h : 1 ≤ (agg F S).1) : ¬ sameA F S ((agg F S).1 - 1) ((agg F S).1 - 1 + (agg F S).2) := fun z => by
  have o := agg_okS F S
  have hp := agg_pos (F := F) (S := S) fun s hs => (rho_le hS hs).1
  rcases o.tm with e | ⟨s, hs, e⟩
  · have e' : (agg F S).1 = 0 := e
    omega
  · have := ((per_iff F (rho_ok F hS hs) hp).mp (z s hs)).1
    omega
theorem agg_not_less {p : Nat} (hp : 1 < p) (hd : p ∣ (agg F S).2) : ¬ sameA F S (agg F S).1 ((agg F S).1 + (agg F S).2 / p) := fun z => by
  have o := agg_okS F S
  have hpos := agg_pos (F := F) (S := S) fun s hs => (rho_le hS hs).1
  obtain ⟨q, hq⟩ := hd
  have e : (agg F S).2 / p = q := by rw [hq]; exact Nat.mul_div_cancel_left _ (by omega)
  have hq1 : 1 ≤ q := by
    cases q with
    | zero => rw [Nat.mul_zero] at hq; omega
    | succ q => omega
  rw [e] at z
  have h1 := o.cm q (Nat.one_dvd _) fun s hs => ((per_iff F (rho_ok F hS hs) hq1).mp (z s hs)).2
  have h2 := Nat.le_of_dvd (by omega) h1
  have h3 : 2 * q ≤ p * q := Nat.mul_le_mul_right q hp
  omega
end
end CK

namespace CK
open PySem PySem.Spec PyProof.Rows L2 CT

theorem cut_head' {α : Type} (xs : List α) (i : Int) (h : 0 ≤ i) : cutA xs none (some i) = xs.take i.toNat := by
  obtain ⟨n, rfl⟩ := Int.eq_ofNat_of_zero_le h
  exact cut_head xs n
theorem cut_tail' {α : Type} (xs : List α) (i : Int) (h : 0 ≤ i) : cutA xs (some i) none = xs.drop i.toNat := by
  obtain ⟨n, rfl⟩ := Int.eq_ofNat_of_zero_le h
  exact cut_tail xs n
theorem cut_butlast {α : Type} (xs : List α) : cutA xs none (some (-1)) = xs.take (xs.length - 1) := by
  unfold cutA
  simp [HT.sIx]
  congr 1; omega
theorem RowOk.sub {n : Nat} {a b : List Deed} (h : RowOk n a) (hs : ∀ d ∈ b, d ∈ a) (hl : b.length ≤ 1000000) : RowOk n b := ⟨fun d hd => h.1 d (hs d hd), hl⟩
theorem r_law_other {l : List Part} {r1 : List Deed} (h : Trn l) (hr : RowOk l.length r1) (hl : r1.length ≤ 5) (c : Int) :
    ∃ d r2, s_law_other [.lst false (l.map encP), .lst false (r1.map encDd), .int c] = .ok d ∧ still d = .lst false (r2.map encDd) ∧ RowOk l.length r2 ∧ r2.length ≤ 10 := by
  have main : wpR (s_law_other [.lst false (l.map encP), .lst false (r1.map encDd), .int c]) (fun d => ∃ r2, still d = .lst false (r2.map encDd) ∧ RowOk l.length r2 ∧ r2.length ≤ 10) := by
    obtain ⟨r0, e0, k0, k1, _⟩ := r_law_row l c 15 30 h (by omega) (by omega) (by omega) (by omega)
    have hlo := mixN_lo c 14
    have hlp : 0 < (l.length : Int) := by have := h.ne; have := List.length_pos_iff.mpr this; omega
    have en := eq_nilL (good_row (row := r1) (by omega))
    unfold s_law_other
    refine def_run rfl ?_
    generalize hN : mixN c 14 = N at hlo
    by_cases w0 : N % 8 = 0
    · simp (disch := omega) [r_mix, hN, modD_ok, w0, e0]
      exact ⟨r0, by simp, k0, by omega⟩
    · cases hn : r1 with
      | nil =>
        subst hn
        simp at en
        simp (disch := omega) [r_mix, hN, modD_ok, w0, en, e0]
        exact ⟨r0, by simp, k0, by omega⟩
      | cons dd rr =>
        rw [← hn]
        have hpos : 0 < r1.length := by rw [hn]; simp
        have en' : eqD (.lst false (r1.map encDd)) (.lst false []) = .ok (.bl false) := by rw [en, hn]; rfl
        clear en hn dd rr
        obtain ⟨k, hk⟩ := Int.eq_ofNat_of_zero_le (Int.emod_nonneg (N / 8) (show (r1.length : Int) ≠ 0 by omega))
        have hkl : k < r1.length := by have := Int.emod_lt_of_pos (N / 8) (show 0 < (r1.length : Int) by omega); omega
        obtain ⟨d, hd⟩ : ∃ d, r1[k]? = some d := ⟨_, List.getElem?_eq_getElem hkl⟩
        have hdo := hr.1 d (List.mem_of_getElem? hd)
        obtain ⟨o1, o2, o3, o4⟩ := hdo
        have hix : ixD (.lst false (r1.map encDd)) (.int (k : Int)) = .ok (encDd d) := ixD_lst (by simp [hd])
        have cu1 : cutA (r1.map encDd) none (some (k : Int)) = (r1.take k).map encDd := by rw [cut_head, List.map_take]
        have cu2 : cutA (r1.map encDd) (some (k : Int)) none = (r1.drop k).map encDd := by rw [cut_tail, List.map_drop]
        have cu3 : cutA (r1.map encDd) (some ((k : Int) + 1)) none = (r1.drop (k + 1)).map encDd := by rw [show (k : Int) + 1 = ((k + 1 : Nat) : Int) by omega, cut_tail, List.map_drop]
        have fin3 : ∀ (a b e : List Deed), a.length + b.length + e.length ≤ 10 → ∀ x, addD (.lst false (a.map encDd)) (.lst false (b.map encDd)) = .ok x → wpR (addD x (.lst false (e.map encDd))) (fun d => d = .lst false ((a ++ b ++ e).map encDd)) := fun a b e hle x hx => by
          rw [addD_lst (by simp; omega)] at hx
          cases hx
          rw [addD_lst (by simp; omega)]
          simp
        have add3 : ∀ (a b e : List Deed), a.length + b.length + e.length ≤ 10 → addD (.lst false (a.map encDd)) (.lst false (b.map encDd)) = .ok (.lst false ((a ++ b).map encDd)) ∧ addD (.lst false ((a ++ b).map encDd)) (.lst false (e.map encDd)) = .ok (.lst false ((a ++ b ++ e).map encDd)) := fun a b e hle =>
          ⟨by rw [addD_lst (by simp; omega)]; simp, by rw [addD_lst (by simp; omega)]; simp⟩
        have rok : ∀ (a b e : List Deed), (∀ x ∈ a, x ∈ r1) → (∀ x ∈ b, DeedOk l.length x) → (∀ x ∈ e, x ∈ r1) → a.length + b.length + e.length ≤ 10 → RowOk l.length (a ++ b ++ e) ∧ (a ++ b ++ e).length ≤ 10 := fun a b e h1 h2 h3 h4 =>
          ⟨⟨fun x hx => by
            simp only [List.mem_append] at hx
            rcases hx with (q | q) | q
            · exact hr.1 x (h1 x q)
            · exact h2 x q
            · exact hr.1 x (h3 x q), by simp; omega⟩, by simp; omega⟩
        simp only [encDd] at hix
        by_cases w1 : N % 8 = 1
        · obtain ⟨j, hj⟩ := Int.eq_ofNat_of_zero_le (Int.emod_nonneg (N / 64) (show (r1.length : Int) ≠ 0 by omega))
          have hjl : j < r1.length := by have := Int.emod_lt_of_pos (N / 64) (show 0 < (r1.length : Int) by omega); omega
          obtain ⟨d2, hd2⟩ : ∃ d, r1[j]? = some d := ⟨_, List.getElem?_eq_getElem hjl⟩
          have hix2 : ixD (.lst false (r1.map encDd)) (.int (j : Int)) = .ok (encDd d2) := ixD_lst (by simp [hd2])
          simp only [encDd] at hix2
          have mv : ∀ x ∈ (r1.set k d2).set j d, x ∈ r1 := fun x hx => by
            rcases List.mem_or_eq_of_mem_set hx with q | q
            · rcases List.mem_or_eq_of_mem_set q with q | q
              · exact q
              · rw [q]; exact List.mem_of_getElem? hd2
            · rw [q]; exact List.mem_of_getElem? hd
          have s1 := set_map encDd r1 k d2
          have s2 := set_map encDd (r1.set k d2) j d
          simp only [encDd] at s1 s2
          simp (disch := first | omega | (simp; omega) | fail) [r_mix, hN, modD_ok, divD_s, w1, en', hk, hix, hj, hix2, subR_eq, setN_nat]
          simp [sRetV]
          refine ⟨(r1.set k d2).set j d, ?_, hr.sub mv (by simp; omega), by simp; omega⟩
          rw [s1, s2]
          exact stillL_encDd _
        · by_cases w2 : N % 8 = 2
          · obtain ⟨j, hj⟩ := Int.eq_ofNat_of_zero_le (Int.emod_nonneg (N / 64) (show (l.length : Int) ≠ 0 by omega))
            have hjl : j < l.length := by have := Int.emod_lt_of_pos (N / 64) (show 0 < (l.length : Int) by omega); omega
            obtain ⟨q1, q2⟩ := add3 (r1.take k) [⟨j, 1, 1⟩, ⟨j, -1, 1⟩] (r1.drop k) (by simp; omega)
            simp only [encDd, List.map_cons, List.map_nil] at q1
            simp (disch := omega) [-List.map_append, -List.map_take, -List.map_drop, r_mix, hN, modD_ok, divD_s, w2, en', hk, hix, hj, cu1, cu2, q1, q2]
            exact ⟨_, rfl, by simpa using rok (r1.take k) [⟨j, 1, 1⟩, ⟨j, -1, 1⟩] (r1.drop k) (fun x hx => List.mem_of_mem_take hx) (by intro x hx; simp only [List.mem_cons, List.not_mem_nil, or_false] at hx; rcases hx with rfl | rfl <;> exact ⟨Int.natCast_nonneg j, Int.ofNat_lt.mpr hjl, by simp, by simp⟩) (fun x hx => List.mem_of_mem_drop hx) (by simp; omega)⟩
          · by_cases w3 : N % 8 = 3
            · obtain ⟨q1, q2⟩ := add3 (r1.take k) [⟨d.i, d.w, d.n / 3⟩, ⟨d.i, d.w, d.n - d.n / 3⟩] (r1.drop (k + 1)) (by simp; omega)
              simp only [encDd, List.map_cons, List.map_nil] at q1
              simp (disch := omega) [-List.map_append, -List.map_take, -List.map_drop, r_mix, hN, modD_ok, divD_s, w3, en', hk, hix, cu1, cu3, q1, q2]
              exact ⟨_, rfl, by simpa using rok (r1.take k) [⟨d.i, d.w, d.n / 3⟩, ⟨d.i, d.w, d.n - d.n / 3⟩] (r1.drop (k + 1)) (fun x hx => List.mem_of_mem_take hx) (by intro x hx; simp only [List.mem_cons, List.not_mem_nil, or_false] at hx; rcases hx with rfl | rfl; exact ⟨o1, o2, o3, (show 0 ≤ d.n / 3 by omega)⟩; exact ⟨o1, o2, o3, (show 0 ≤ d.n - d.n / 3 by omega)⟩) (fun x hx => List.mem_of_mem_drop hx) (by simp; omega)⟩
            · by_cases w4 : N % 8 = 4
              · obtain ⟨i, hi⟩ := Int.eq_ofNat_of_zero_le o1
                obtain ⟨q, hq⟩ : ∃ q, l[i]? = some q := ⟨_, List.getElem?_eq_getElem (show i < l.length by omega)⟩
                have hqo := h.ok.1 q (List.mem_of_getElem? hq)
                have hqn := nplaces_pos hqo
                have hixq : ixD (.lst false (l.map encP)) (.int d.i) = .ok (encP q) := by rw [hi]; exact ixD_lst (by simp [hq])
                have hg : 1 ≤ 1 + N / 64 % 3 ∧ 1 + N / 64 % 3 ≤ 3 := by omega
                generalize hG : 1 + N / 64 % 3 = g at hg
                have hgq : 0 ≤ nplaces q * g := Int.mul_nonneg (by omega) (by omega)
                obtain ⟨q1, q2⟩ := add3 (r1.take k) [⟨d.i, d.w, d.n + nplaces q * g⟩] (r1.drop (k + 1)) (by simp; omega)
                simp only [encDd, List.map_cons, List.map_nil] at q1
                simp (disch := omega) [-List.map_append, -List.map_take, -List.map_drop, r_mix, hN, modD_ok, divD_s, w4, en', hk, hix, hixq, r_places, hG, mulD_r, cu1, cu3, q1, q2]
                exact ⟨_, rfl, by simpa using rok (r1.take k) [⟨d.i, d.w, d.n + nplaces q * g⟩] (r1.drop (k + 1)) (fun x hx => List.mem_of_mem_take hx) (by intro x hx; simp only [List.mem_cons, List.not_mem_nil, or_false] at hx; rcases hx with rfl; exact ⟨o1, o2, o3, (show 0 ≤ d.n + nplaces q * g by omega)⟩) (fun x hx => List.mem_of_mem_drop hx) (by simp; omega)⟩
              · by_cases w5 : N % 8 = 5
                · have cu : cutA (r1.map encDd) none (some (-1)) = (r1.take (r1.length - 1)).map encDd := by rw [cut_butlast, List.map_take]; simp
                  simp (disch := omega) [-List.map_take, r_mix, hN, modD_ok, divD_s, w5, en', hk, hix, cu]
                  exact ⟨_, rfl, hr.sub (fun x hx => List.mem_of_mem_take hx) (by simp; omega), by simp; omega⟩
                · by_cases w6 : N % 8 = 6
                  · obtain ⟨q1, q2⟩ := add3 (r1.take k) [⟨d.i, d.w, 0⟩] (r1.drop k) (by simp; omega)
                    simp only [encDd, List.map_cons, List.map_nil] at q1
                    simp (disch := omega) [-List.map_append, -List.map_take, -List.map_drop, r_mix, hN, modD_ok, divD_s, w6, en', hk, hix, cu1, cu2, q1, q2]
                    exact ⟨_, rfl, by simpa using rok (r1.take k) [⟨d.i, d.w, 0⟩] (r1.drop k) (fun x hx => List.mem_of_mem_take hx) (by intro x hx; simp only [List.mem_cons, List.not_mem_nil, or_false] at hx; rcases hx with rfl; exact ⟨o1, o2, o3, by simp⟩) (fun x hx => List.mem_of_mem_drop hx) (by simp; omega)⟩
                  · simp (disch := omega) [r_mix, hN, modD_ok, divD_s, w0, w1, w2, w3, w4, w5, w6, en', hk, hix]
                    exact ⟨r1, rfl, hr, by omega⟩
  obtain ⟨d, e, r2, h⟩ := wpR_ex main
  exact ⟨d, r2, e, h⟩

theorem apartR_cases (l : List Part) (r1 r2 : List Deed) : ∀ S, apartR l r1 r2 S = .tup [.str "alike"] ∨ ∃ st ∈ S, apartR l r1 r2 S = .tup [.str "apart", encS st]
  | [] => .inl rfl
  | st :: S => by
    rw [apartR]; split
    · rcases apartR_cases l r1 r2 S with h | ⟨t, ht, h⟩
      · exact .inl h
      · exact .inr ⟨t, by simp [ht], h⟩
    · exact .inr ⟨st, by simp, rfl⟩
def encRR (p : List Deed × List Deed) : D := .tup [.lst false (p.1.map encDd), .lst false (p.2.map encDd)]
theorem sh_row (r : List Deed) : Sh 3 (.lst false (r.map encDd)) := sh_lst (shl_map sh_encDd r)
theorem sh_three (l : List Part) (r1 r2 : List Deed) : Sh 64 (.lst false [.lst false (l.map encP), .lst false (r1.map encDd), .lst false (r2.map encDd)]) := by
  refine Sh.mono (n := 5) (sh_lst ?_) (by omega)
  intro x hx
  simp only [List.mem_cons, List.not_mem_nil, or_false] at hx
  rcases hx with rfl | rfl | rfl
  · exact sh_lst (shl_map sh_encP l)
  · exact (sh_row r1).mono (by omega)
  · exact (sh_row r2).mono (by omega)
end CK

/-! PtZ8: a round is right (k13) -/
namespace CK
open PySem PySem.Spec PyProof.Rows L2 CT
theorem left_idx {l : List Part} {row : List Deed} {N : Nat} {s : List Int} : ixD (encR (often l row N s)) (.int 0) = .ok (encS (orb (fun s => (walkN l s row).1) N s)) := ixD_tup rfl
open Classical in
theorem r_law_same {l : List Part} {row : List Deed} (h : Trn l) (hr : RowOk l.length row) (hp : prodN l ≤ 2000)
    (hg : ∀ s, StandOk l s → -(10 ^ 50) ≤ (walkN l s row).2 ∧ (walkN l s row).2 ≤ 10 ^ 50) {a b : Nat} (ha : (a : Int) ≤ 10 ^ 150) (hb : (b : Int) ≤ 10 ^ 150) :
    s_law_same [.lst false (l.map encP), .lst false (row.map encDd), .int (a : Int), .int (b : Int)] = .ok (.bl (decide (sameA (fun s => (walkN l s row).1) (allS l) a b))) := by
  obtain ⟨F, hF⟩ : ∃ F : List Int → List Int, F = fun s => (walkN l s row).1 := ⟨_, rfl⟩
  have hst := r_stands_of h (show prodN l ≤ 100000 by omega)
  have tS := hasTL_encS (allS l)
  have hL : ∀ s ∈ allS l, ∀ N : Nat, (N : Int) ≤ 10 ^ 150 → s_left_often [.lst false (l.map encP), encS s, .lst false (row.map encDd), .int (N : Int)] = .ok (encR (often l row N s)) := fun s hs N hN => r_left_oftenG h (allS_ok hs) hr (.inl hp) hg hN
  have hix : ∀ N s, ixD (encR (often l row N s)) (.int 0) = .ok (encS (orb F N s)) := fun N s => by rw [hF]; exact left_idx
  rw [← hF]
  have tR : ∀ x : List Int × Int, hasT (encR x) = false := fun x => by simp [encR]
  have sR : ∀ x : List Int × Int, still (encR x) = encR x := fun x => still_of _ (tR x)
  unfold s_law_same
  refine def_ok1 rfl ?_
  simp [hst, itemsN, items, tS]
  obtain ⟨I, hI⟩ : ∃ I : Nat → Sl → Prop, I = fun k m => ∃ a4 : Option D, m = [some (.lst false (l.map encP)), some (.lst false (row.map encDd)), some (.int (a : Int)), some (.int (b : Int)), a4] ∧ sameA F ((allS l).take k) a b := ⟨_, rfl⟩
  refine wp_map I ?_ (fun k s hk m hm => ?_) (fun m hm => ?_)
  · rw [hI]; exact ⟨none, rfl, by intro s hs; simp at hs⟩
  · rw [hI] at hm
    obtain ⟨a4, rfl, hu⟩ := hm
    have hs := List.mem_of_getElem? hk
    have e1 := hL s hs a ha
    have e2 := hL s hs b hb
    by_cases c : orb F a s = orb F b s
    · simp [e1, e2, tR, sR, hix, neD_S, c]
      rw [hI]
      refine ⟨_, rfl, fun x hx => ?_⟩
      rw [List.take_add_one, hk] at hx
      rcases List.mem_append.mp hx with z | z
      · exact hu x z
      · simp at z; rw [z]; exact c
    · have no : ¬ sameA F (allS l) a b := fun z => c (z s hs)
      simp [e1, e2, tR, sR, hix, neD_S, c, no]
  · rw [hI] at hm
    obtain ⟨a4, rfl, hu⟩ := hm
    rw [List.take_length] at hu
    simp [hu]
theorem r_law_primes (n : Nat) (hn : 1 ≤ n) (hb : (n : Int) ≤ 10 ^ 110) : ∃ ps : List Nat, s_law_primes [.int (n : Int)] = .ok (.lst false (ps.map fun p : Nat => D.int (p : Int))) ∧ ∀ p ∈ ps, 1 < p ∧ p ∣ n := by
  have main : wpR (s_law_primes [.int (n : Int)]) (fun d => ∃ ps : List Nat, d = .lst false (ps.map fun p : Nat => D.int (p : Int)) ∧ ∀ p ∈ ps, 1 < p ∧ p ∣ n) := by
    unfold s_law_primes
    refine def_run rfl ?_
    simp
    obtain ⟨I, hI⟩ : ∃ I : Nat → Sl → Prop, I = fun fuel m => ∃ (told : List Nat) (x p : Nat), fuel + p = n + 2 ∧ m = [some (.int (x : Int)), some (.lst true (told.map fun p : Nat => D.int (p : Int))), some (.int (p : Int))] ∧ 1 ≤ x ∧ x ∣ n ∧ 2 ≤ p ∧ (∀ q ∈ told, 1 < q ∧ q ∣ n) ∧ 2 ^ told.length * x ≤ n := ⟨_, rfl⟩
    refine wp_while I n ?_ (fun fuel m hm => ?_)
    · rw [hI]; exact ⟨[], n, 2, by omega, rfl, hn, Nat.dvd_refl _, by omega, by simp, by simp⟩
    · rw [hI] at hm
      obtain ⟨told, x, p, hf, rfl, hx1, hxn, hp2, ht, hlen⟩ := hm
      have hxle := Nat.le_of_dvd (by omega) hxn
      have hp160 : (p : Int) ≤ 10 ^ 160 := by omega
      have em : mulD (.int (p : Int)) (.int (p : Int)) = .ok (.int ((p * p : Nat) : Int)) := by rw [mulD_160 ⟨by omega, hp160⟩ ⟨by omega, hp160⟩]; simp
      have hlog : told.length < 1000 := by
        by_cases c : told.length < 1000
        · exact c
        · have h1 : 2 ^ 1000 ≤ 2 ^ told.length := Nat.pow_le_pow_right (by omega) (by omega)
          have h2 : 2 ^ told.length * 1 ≤ 2 ^ told.length * x := Nat.mul_le_mul_left _ hx1
          have h3 : (10 ^ 110 : Nat) < 2 ^ 1000 := by decide +kernel
          omega
      by_cases cw : p * p ≤ x
      · refine ⟨true, by simp [em]; exact_mod_cast cw, fun _ => ?_, fun z => (by cases z)⟩
        have hpn : p ≤ n := Nat.le_trans (Nat.le_mul_of_pos_left p (by omega)) (Nat.le_trans cw hxle)
        have emod : ∀ y : Nat, modD (.int (y : Int)) (.int (p : Int)) = .ok (.int ((y % p : Nat) : Int)) := fun y => by rw [modD_ok (by omega)]; simp
        have ediv : ∀ y : Nat, divD (.int (y : Int)) (.int (p : Int)) = .ok (.int ((y / p : Nat) : Int)) := fun y => by
          rw [divD_ok (by omega) (.inr ⟨by omega, by have := log_lt160 (i := (p : Int)) ⟨by omega, hp160⟩; omega⟩)]; simp
        -- the inner walk
        have inner : ∀ (T : List Nat) (Q : Po), (∀ y : Nat, 1 ≤ y → y ∣ x → (y = x ∨ y * 2 ≤ x) → y % p ≠ 0 → Q.nx [some (.int (y : Int)), some (.lst true (T.map fun p : Nat => D.int (p : Int))), some (.int (p : Int))]) →
            wp (sWhile (tOf (e2 eqD (e2 modD (eVar 0) (eVar 2)) (eC (.int 0)))) (sSet 0 (e2 divD (eVar 0) (eVar 2))) [some (.int (x : Int)), some (.lst true (T.map fun p : Nat => D.int (p : Int))), some (.int (p : Int))]) Q := fun T Q hQ => by
          obtain ⟨J, hJ⟩ : ∃ J : Nat → Sl → Prop, J = fun fuel m => ∃ y : Nat, fuel = y ∧ m = [some (.int (y : Int)), some (.lst true (T.map fun p : Nat => D.int (p : Int))), some (.int (p : Int))] ∧ 1 ≤ y ∧ y ∣ x ∧ (y = x ∨ y * 2 ≤ x) := ⟨_, rfl⟩
          refine wp_while J x ?_ (fun fuel m hm => ?_)
          · rw [hJ]; exact ⟨x, rfl, rfl, hx1, Nat.dvd_refl _, .inl rfl⟩
          · rw [hJ] at hm
            obtain ⟨y, rfl, rfl, hy1, hyx, hy2⟩ := hm
            by_cases cy : fuel % p = 0
            · refine ⟨true, by simp [emod, cy], fun _ => ?_, fun z => (by cases z)⟩
              simp [ediv]
              rw [hJ]
              have hd := Nat.dvd_of_mod_eq_zero cy
              obtain ⟨q, rfl⟩ := hd
              have eq : p * q / p = q := Nat.mul_div_cancel_left _ (by omega)
              have hq1 : 1 ≤ q := by
                cases q with
                | zero => rw [Nat.mul_zero] at hy1; omega
                | succ q => omega
              have h3 : 2 * q ≤ p * q := Nat.mul_le_mul_right q hp2
              refine ⟨q, by omega, q, rfl, ?_, hq1, Nat.dvd_trans (Nat.dvd_mul_left _ _) hyx, .inr (by omega)⟩
              have eqi : (p : Int) * (q : Int) / (p : Int) = (q : Int) := Int.mul_ediv_cancel_left _ (by omega)
              simp [eqi]
            · refine ⟨false, by simp [emod]; exact_mod_cast cy, fun z => (by cases z), fun _ => hQ fuel hy1 hyx hy2 cy⟩
        have more : ∀ (T : List Nat) (y : Nat), 1 ≤ y → y ∣ x → (∀ q ∈ T, 1 < q ∧ q ∣ n) → 2 ^ T.length * y ≤ n →
            ∃ k, k < fuel ∧ I k [some (.int (y : Int)), some (.lst true (T.map fun p : Nat => D.int (p : Int))), some (.int ((p : Int) + 1))] := fun T y h1 h2 h3 h4 => by
          rw [hI]
          exact ⟨fuel - 1, by omega, T, y, p + 1, by omega, by simp, h1, Nat.dvd_trans h2 hxn, by omega, h3, h4⟩
        by_cases cx : x % p = 0
        · have lT : (told.map fun p : Nat => D.int (p : Int)).length < sizeLine := by rw [sizeBig]; simp; omega
          have tT : hasTL (told.map fun p : Nat => D.int (p : Int)) = false := hasTL_map (fun _ => rfl) told
          have em2 := emod x
          rw [cx] at em2
          have em3 : modD (.int (x : Int)) (.int (p : Int)) = .ok (.int 0) := em2
          have eT : (told.map fun p : Nat => D.int (p : Int)) ++ [.int (p : Int)] = (told ++ [p]).map fun p : Nat => D.int (p : Int) := by simp
          simp [em3, show told.length < sizeLine by rw [sizeBig]; omega, -List.map_append]
          rw [eT]
          refine inner (told ++ [p]) _ fun y h1 h2 h3 h4 => ?_
          have h5 : y * 2 ≤ x := by
            rcases h3 with rfl | h3
            · exact absurd cx h4
            · exact h3
          simp
          have := more (told ++ [p]) y h1 h2 (fun q hq => by
            rcases List.mem_append.mp hq with z | z
            · exact ht q z
            · rw [List.mem_singleton.mp z]
              exact ⟨by omega, Nat.dvd_trans (Nat.dvd_of_mod_eq_zero cx) hxn⟩) (by
            rw [List.length_append, List.length_singleton, Nat.pow_succ, Nat.mul_assoc]
            refine Nat.le_trans (Nat.mul_le_mul_left _ ?_) hlen
            omega)
          simpa using this
        · have em2 : eqD (.int ((x % p : Nat) : Int)) (.int 0) = .ok (.bl false) := by
            rw [eqD_int, decide_eq_false (by omega)]
          simp [-eqD_int, emod x, em2, -Int.natCast_emod]
          refine inner told _ fun y h1 h2 h3 h4 => ?_
          simp
          have hle : y ≤ x := Nat.le_of_dvd (by omega) h2
          exact more told y h1 h2 ht (Nat.le_trans (Nat.mul_le_mul_left _ hle) hlen)
      · refine ⟨false, by simp [em]; exact_mod_cast Nat.lt_of_not_le cw, fun z => (by cases z), fun _ => ?_⟩
        have tT : hasTL (told.map fun p : Nat => D.int (p : Int)) = false := hasTL_map (fun _ => rfl) told
        have sT : stillL (told.map fun p : Nat => D.int (p : Int)) = told.map fun p : Nat => D.int (p : Int) := stillL_of _ tT
        by_cases c1 : 1 < x
        · have c1' : (1 : Int) < (x : Int) := by omega
          have er : repD (.lst false [.int (x : Int)]) (.int 1) = .ok (.lst false [.int (x : Int)]) := by simp [repD, sizeBig]
          have ea : addD (.lst true (told.map fun p : Nat => D.int (p : Int))) (.lst false [.int (x : Int)]) = .ok (.lst false ((told ++ [x]).map fun p : Nat => D.int (p : Int))) := by rw [addD_lst (by simp; omega)]; simp
          have t2 : stillL ((told ++ [x]).map fun p : Nat => D.int (p : Int)) = (told ++ [x]).map fun p : Nat => D.int (p : Int) := stillL_map (fun _ => rfl) _
          simp [c1', er, ea, t2, -List.map_append]
          refine ⟨told ++ [x], rfl, fun p hp => ?_⟩
          rcases List.mem_append.mp hp with z | z
          · exact ht p z
          · rw [List.mem_singleton.mp z]; exact ⟨c1, hxn⟩
        · have c1' : ¬ (1 : Int) < (x : Int) := by omega
          have er : repD (.lst false [.int (x : Int)]) (.int 0) = .ok (.lst false []) := by simp [repD]
          have ea : addD (.lst true (told.map fun p : Nat => D.int (p : Int))) (.lst false []) = .ok (.lst false (told.map fun p : Nat => D.int (p : Int))) := by rw [addD_lst (by simp; omega)]; simp
          simp [c1', er, ea, sT]
          exact ⟨told, rfl, ht⟩
  obtain ⟨d, e, ps, rfl, h⟩ := wpR_ex main
  exact ⟨ps, e, h⟩
end CK

/-! PtZ9: rounds and pairs of rows are right (k13) -/
namespace CK
open PySem PySem.Spec PyProof.Rows L2 CT
theorem walkN_app (l : List Part) : ∀ (a b : List Deed) (st : List Int), walkN l st (a ++ b) = ((walkN l (walkN l st a).1 b).1, (walkN l st a).2 + (walkN l (walkN l st a).1 b).2)
  | [], b, st => by simp [walkN]
  | d :: a, b, st => by
    rw [List.cons_append, walkN, walkN_app l a b]
    simp only [walkN, Int.add_assoc]
theorem apartR_symm (l : List Part) (r1 r2 : List Deed) : ∀ S, apartR l r2 r1 S = apartR l r1 r2 S
  | [] => rfl
  | st :: S => by
    rw [apartR, apartR, apartR_symm l r1 r2 S]
    by_cases c : walkN l st r1 = walkN l st r2
    · rw [if_pos c.symm, if_pos c]
    · rw [if_neg (fun z => c z.symm), if_neg c]
theorem apartR_alike {l : List Part} {r1 r2 : List Deed} : ∀ {S : List (List Int)}, (∀ s ∈ S, walkN l s r1 = walkN l s r2) → apartR l r1 r2 S = .tup [.str "alike"]
  | [], _ => rfl
  | st :: S, h => by rw [apartR, if_pos (h st (by simp)), apartR_alike fun s hs => h s (by simp [hs])]
theorem apartR_apart {l : List Part} {r1 r2 : List Deed} : ∀ {S : List (List Int)}, ¬ (∀ s ∈ S, walkN l s r1 = walkN l s r2) → ∃ j st, S[j]? = some st ∧ walkN l st r1 ≠ walkN l st r2 ∧ (∀ s ∈ S.take j, walkN l s r1 = walkN l s r2) ∧ apartR l r1 r2 S = .tup [.str "apart", encS st]
  | [], h => absurd (by simp) h
  | st :: S, h => by
    by_cases c : walkN l st r1 = walkN l st r2
    · obtain ⟨j, t, h1, h2, h3, h4⟩ := apartR_apart (S := S) fun z => h fun s hs => by
        rcases List.mem_cons.mp hs with rfl | hs
        · exact c
        · exact z s hs
      refine ⟨j + 1, t, by simpa using h1, h2, fun s hs => ?_, by rw [apartR, if_pos c, h4]⟩
      rw [List.take_succ_cons] at hs
      rcases List.mem_cons.mp hs with rfl | hs
      · exact c
      · exact h3 s hs
    · exact ⟨0, st, rfl, c, by simp, by rw [apartR, if_neg c]⟩
theorem sh_alike : Sh 64 (.tup [.str "alike"]) := by
  have := apartR_sh [] [] [] []
  exact this
theorem eq_apart (st : List Int) : eqD (.tup [.str "apart", encS st]) (.tup [.str "alike"]) = .ok (.bl false) := by
  rw [eqD_ok _ sh_alike]
  · simp [eqvD, py, pyL, PyData.eqv, PyData.eqvAll]
  · refine (sh_tup (n := 2) ?_).mono (by omega)
    intro x hx
    simp only [List.mem_cons, List.not_mem_nil, or_false] at hx
    rcases hx with rfl | rfl
    · exact sh_str (by decide +kernel)
    · exact (sh_ints st 0).mono (by omega)
theorem r_law_pair_right {l : List Part} {r1 r2 r3 : List Deed} (h : Trn l) (hp : prodN l ≤ 100000) (h1 : RowOk l.length r1) (h2 : RowOk l.length r2) (h3 : RowOk l.length r3) (hl : r1.length ≤ 1000 ∧ r2.length ≤ 1000 ∧ r3.length ≤ 1000) :
    s_law_pair_right [.lst false (l.map encP), .lst false (r1.map encDd), .lst false (r2.map encDd), .lst false (r3.map encDd)] = .ok (.bl true) := by
  obtain ⟨l1, l2, l3⟩ := hl
  have a1 : addD (.lst false (r3.map encDd)) (.lst false (r1.map encDd)) = .ok (.lst false ((r3 ++ r1).map encDd)) := by rw [addD_lst (by simp; omega)]; simp
  have a2 : addD (.lst false (r3.map encDd)) (.lst false (r2.map encDd)) = .ok (.lst false ((r3 ++ r2).map encDd)) := by rw [addD_lst (by simp; omega)]; simp
  have a3 : addD (.lst false (r1.map encDd)) (.lst false (r3.map encDd)) = .ok (.lst false ((r1 ++ r3).map encDd)) := by rw [addD_lst (by simp; omega)]; simp
  have a4 : addD (.lst false (r2.map encDd)) (.lst false (r3.map encDd)) = .ok (.lst false ((r2 ++ r3).map encDd)) := by rw [addD_lst (by simp; omega)]; simp
  have e1 := r_rows_alike h hp h1 h2
  have e2 := r_rows_alike h hp (h3.app h1 (by omega)) (h3.app h2 (by omega))
  have e3 := r_rows_alike h hp (h1.app h3 (by omega)) (h2.app h3 (by omega))
  have e4 := r_rows_alike h hp h2 h1
  rw [apartR_symm] at e4
  have hst := r_stands_of h hp
  have tS := hasTL_encS (allS l)
  have hn := allS_nd l
  unfold s_law_pair_right
  refine def_ok1 rfl ?_
  by_cases c : ∀ s ∈ allS l, walkN l s r1 = walkN l s r2
  · rw [apartR_alike c] at e1
    rw [apartR_alike (fun s hs => by
      rw [walkN_app, walkN_app, c _ (allS_mem h.ok.1 (walkN_ok h.ok.1 (allS_ok hs) h3.1))])] at e2
    rw [apartR_alike (fun s hs => by rw [walkN_app, walkN_app, c s hs])] at e3
    have q1 := eqD_self sh_alike
    have q2 := neD_self sh_alike
    have y1 : hasTL ((r3 ++ r1).map encDd) = false ∧ stillL ((r3 ++ r1).map encDd) = (r3 ++ r1).map encDd := ⟨hasTL_encDd _, stillL_encDd _⟩
    have y2 : hasTL ((r3 ++ r2).map encDd) = false ∧ stillL ((r3 ++ r2).map encDd) = (r3 ++ r2).map encDd := ⟨hasTL_encDd _, stillL_encDd _⟩
    have y3 : hasTL ((r1 ++ r3).map encDd) = false ∧ stillL ((r1 ++ r3).map encDd) = (r1 ++ r3).map encDd := ⟨hasTL_encDd _, stillL_encDd _⟩
    have y4 : hasTL ((r2 ++ r3).map encDd) = false ∧ stillL ((r2 ++ r3).map encDd) = (r2 ++ r3).map encDd := ⟨hasTL_encDd _, stillL_encDd _⟩
    generalize (r3 ++ r1).map encDd = R1 at a1 e2 y1
    generalize (r3 ++ r2).map encDd = R2 at a2 e2 y2
    generalize (r1 ++ r3).map encDd = R3 at a3 e3 y3
    generalize (r2 ++ r3).map encDd = R4 at a4 e3 y4
    simp (maxSteps := 3000000) [e1, hst, q1, q2, a1, a2, a3, a4, y1.1, y1.2, y2.1, y2.2, y3.1, y3.2, y4.1, y4.2, e2, e3]
  · obtain ⟨j, st, k1, k2, k3, k4⟩ := apartR_apart c
    rw [k4] at e1 e4
    have hs := List.mem_of_getElem? k1
    have q1 := eq_apart st
    have q2 : eqD (.tup [.str "apart", encS st]) (.tup [.str "apart", encS st]) = .ok (.bl true) := by
      have := apartR_sh l r1 r2 (allS l)
      rw [k4] at this
      exact eqD_self this
    have e5 := indexR_S (allS l) st j hn k1
    have e6 : cutA ((allS l).map encS) none (some (j : Int)) = ((allS l).take j).map encS := by rw [cut_head, List.map_take]
    have tS2 := hasTL_encS ((allS l).take j)
    have e7 : List.take j ((allS l).map encS) = ((allS l).take j).map encS := by rw [List.map_take]
    have tS3 : hasTL (List.take j ((allS l).map encS)) = false := by rw [e7]; exact tS2
    have hleft : ∀ s ∈ allS l, s_left [.lst false (l.map encP), encS s, .lst false (r1.map encDd)] = .ok (encR (walkN l s r1)) ∧ s_left [.lst false (l.map encP), encS s, .lst false (r2.map encDd)] = .ok (encR (walkN l s r2)) := fun s z => ⟨r_left h (allS_ok z) h1, r_left h (allS_ok z) h2⟩
    have tR : ∀ x : List Int × Int, hasT (encR x) = false := fun x => by simp [encR]
    have sR : ∀ x : List Int × Int, still (encR x) = encR x := fun x => still_of _ (tR x)
    simp (maxSteps := 3000000) [e1, hst, q1, indexE, e5, e6, itemsN, items, tS3]
    rw [e7]
    obtain ⟨I, hI⟩ : ∃ I : Sl → Prop, I = fun m => ∃ a6 : Option D, m = [some (.lst false (l.map encP)), some (.lst false (r1.map encDd)), some (.lst false (r2.map encDd)), some (.lst false (r3.map encDd)), some (.tup [.str "apart", encS st]), some (.lst false ((allS l).map encS)), a6] := ⟨_, rfl⟩
    refine wp_each (enc := encS) I ?_ (fun s hs' m hm => ?_) (fun m hm => ?_)
    · rw [hI]; exact ⟨none, rfl⟩
    · rw [hI] at hm
      obtain ⟨a6, rfl⟩ := hm
      obtain ⟨u1, u2⟩ := hleft s (List.mem_of_mem_take hs')
      simp [u1, u2, tR, sR, neD_R, k3 s hs']
      rw [hI]; exact ⟨_, rfl⟩
    · rw [hI] at hm
      obtain ⟨a6, rfl⟩ := hm
      obtain ⟨u1, u2⟩ := hleft st hs
      simp [u1, u2, tR, sR, neD_R, k2, e4, q2]
theorem pow60 : (60 : Nat) ^ 60 ≤ 10 ^ 107 := by decide +kernel
open Classical in
theorem r_law_round_right {l : List Part} {row : List Deed} (h : Trn l) (hr : RowOk l.length row) (hp : prodN l ≤ 60)
    (hg : ∀ s, StandOk l s → -(10 ^ 50) ≤ (walkN l s row).2 ∧ (walkN l s row).2 ≤ 10 ^ 50) {q : Nat} (hq : 1 ≤ q) (hq2 : (q : Int) ≤ 10 ^ 30) :
    s_law_round_right [.lst false (l.map encP), .lst false (row.map encDd), .int (q : Int)] = .ok (.bl true) := by
  obtain ⟨F, hF⟩ : ∃ F : List Int → List Int, F = fun s => (walkN l s row).1 := ⟨_, rfl⟩
  obtain ⟨S, hS⟩ : ∃ S, S = allS l := ⟨_, rfl⟩
  have hcl : ∀ s ∈ S, F s ∈ S := fun s z => by
    rw [hS] at z ⊢
    rw [hF]
    exact allS_mem h.ok.1 (walkN_ok h.ok.1 (allS_ok z) hr.1)
  have hlen : S.length ≤ 60 := by
    have := allS_len h.ok.1
    rw [← hS] at this
    omega
  have o := agg_okS F S
  have hpos := agg_pos (F := F) (S := S) fun s hs => (rho_le hcl hs).1
  have hA : (agg F S).1 ≤ 60 := by
    rcases o.tm with e | ⟨s, hs, e⟩
    · have e' : (agg F S).1 = 0 := e
      omega
    · have := (rho_le hcl hs).2
      omega
  have hR : (agg F S).2 ≤ 10 ^ 107 := by
    have h1 := o.b 60 fun s hs => by have := (rho_le hcl hs).2; omega
    have h2 : (60 : Nat) ^ S.length ≤ 60 ^ 60 := Nat.pow_le_pow_right (by omega) hlen
    have := pow60
    omega
  have same := fun (a b : Nat) (ha : (a : Int) ≤ 10 ^ 150) (hb : (b : Int) ≤ 10 ^ 150) => r_law_same h hr (by omega) hg ha hb
  rw [← hF, ← hS] at same
  have s1 := agg_same hcl (k := 0) (q := 1) (by omega)
  have s2 := agg_same hcl (k := 3) hq
  have s3 := agg_not_ahead hcl
  have s4 := fun (p : Nat) (h1 : 1 < p) (h2 : p ∣ (agg F S).2) => agg_not_less hcl h1 h2
  have e1 := r_row_round h hr (by omega)
  rw [← hF, ← hS] at e1
  obtain ⟨A, hA'⟩ : ∃ x, x = (agg F S).1 := ⟨_, rfl⟩
  obtain ⟨R, hR'⟩ : ∃ x, x = (agg F S).2 := ⟨_, rfl⟩
  have e2 : encRho (agg F S) = .tup [.int (A : Int), .int (R : Int)] := by rw [hA', hR']; rfl
  rw [e2] at e1
  rw [← hA'] at hA s1 s2 s3 s4
  rw [← hR'] at hR hpos s1 s2 s3 s4
  obtain ⟨RQ, hRQ⟩ : ∃ x, x = R * q := ⟨_, rfl⟩
  have hRQ2 : RQ ≤ 10 ^ 140 := by
    have h1 : R * q ≤ 10 ^ 107 * 10 ^ 30 := Nat.mul_le_mul hR (by omega)
    have h2 : (10 : Nat) ^ 107 * 10 ^ 30 ≤ 10 ^ 140 := by decide +kernel
    omega
  rw [← hRQ] at s2
  rw [Nat.mul_one, Nat.add_zero] at s1
  have m1 := same A (A + R) (by omega) (by omega)
  rw [decide_eq_true s1, show ((A + R : Nat) : Int) = (A : Int) + (R : Int) by omega] at m1
  have m2 := same (A + 3) (A + 3 + RQ) (by omega) (by omega)
  rw [decide_eq_true s2, show ((A + 3 + RQ : Nat) : Int) = (A : Int) + 3 + (RQ : Int) by omega, show ((A + 3 : Nat) : Int) = (A : Int) + 3 by omega] at m2
  have m3 : 1 ≤ A → s_law_same [.lst false (l.map encP), .lst false (row.map encDd), .int ((A : Int) - 1), .int ((A : Int) - 1 + (R : Int))] = .ok (.bl false) := fun z => by
    have := same (A - 1) (A - 1 + R) (by omega) (by omega)
    rw [decide_eq_false (s3 z), show ((A - 1 + R : Nat) : Int) = (A : Int) - 1 + (R : Int) by omega, show ((A - 1 : Nat) : Int) = (A : Int) - 1 by omega] at this
    exact this
  have m4 : ∀ p : Nat, 1 < p → p ∣ R → s_law_same [.lst false (l.map encP), .lst false (row.map encDd), .int (A : Int), .int ((A : Int) + ((R / p : Nat) : Int))] = .ok (.bl false) := fun p h1 h2 => by
    have hle := Nat.div_le_self R p
    have := same A (A + R / p) (by omega) (by omega)
    rw [decide_eq_false (s4 p h1 h2), show ((A + R / p : Nat) : Int) = (A : Int) + ((R / p : Nat) : Int) from Int.natCast_add _ _] at this
    exact this
  have mm : mulD (.int (R : Int)) (.int (q : Int)) = .ok (.int (RQ : Int)) := by
    rw [mulD_160 ⟨by omega, by omega⟩ ⟨by omega, by omega⟩, hRQ]; simp
  obtain ⟨ps, p1, p2⟩ := r_law_primes R hpos (by omega)
  have dd : ∀ p ∈ ps, divD (.int (R : Int)) (.int (p : Int)) = .ok (.int ((R / p : Nat) : Int)) := fun p z => by
    obtain ⟨h1, h2⟩ := p2 p z
    have hle := Nat.le_of_dvd hpos h2
    rw [divD_ok (by omega) (.inr ⟨by omega, by have := log_lt160 (i := (p : Int)) ⟨by omega, by omega⟩; omega⟩)]; simp
  have tP : hasTL (ps.map fun p : Nat => D.int (p : Int)) = false := hasTL_map (fun _ => rfl) ps
  have sP : stillL (ps.map fun p : Nat => D.int (p : Int)) = ps.map fun p : Nat => D.int (p : Int) := stillL_of _ tP
  have cA : ¬ (A : Int) < 0 := by omega
  have cR : ¬ (R : Int) < 1 := by omega
  unfold s_law_round_right
  refine def_ok1 rfl ?_
  have main : ∀ (b : Bool), (CT.tAnd (tOf (CT.e2 gtD (eVar 3) (eC (.int 0)))) (tOf (eA (callF s_law_same) (aCons (eVar 0) (aCons (eVar 1) (aCons (CT.e2 subD (eVar 3) (eC (.int 1))) (aCons (CT.e2 addD (CT.e2 subD (eVar 3) (eC (.int 1))) (eVar 4)) aNil))))))) [some (.lst false (l.map encP)), some (.lst false (row.map encDd)), some (.int (q : Int)), some (.int (A : Int)), some (.int (R : Int)), none] = CT.R.ok false := fun _ => by
    by_cases c : 1 ≤ A
    · have c' : (0 : Int) < (A : Int) := by omega
      simp [c', m3 c]
    · have c' : ¬ (0 : Int) < (A : Int) := by omega
      have c2 : ¬ 0 < A := by omega
      simp [c2]
  simp (maxSteps := 3000000) [-tAnd_eq, e1, cA, cR, m1, m2, mm, main true, p1, itemsN, items, tP, sP]
  obtain ⟨I, hI⟩ : ∃ I : Sl → Prop, I = fun m => ∃ a5 : Option D, m = [some (.lst false (l.map encP)), some (.lst false (row.map encDd)), some (.int (q : Int)), some (.int (A : Int)), some (.int (R : Int)), a5] := ⟨_, rfl⟩
  refine wp_each (enc := fun p : Nat => D.int (p : Int)) I ?_ (fun p hp' m hm => ?_) (fun m hm => ?_)
  · rw [hI]; exact ⟨none, rfl⟩
  · rw [hI] at hm
    obtain ⟨a5, rfl⟩ := hm
    obtain ⟨h1, h2⟩ := p2 p hp'
    have d1 := dd p hp'
    have d2 := m4 p h1 h2
    generalize ((R / p : Nat) : Int) = rp at d1 d2
    simp [d1, d2]
    rw [hI]; exact ⟨_, rfl⟩
  · rw [hI] at hm
    obtain ⟨a5, rfl⟩ := hm
    simp
end CK

namespace CK
open PySem PySem.Spec PyProof.Rows L2 CT
def encRR2 (p : List Deed × List Deed) : D := .tup [.lst false (p.1.map encDd), .lst false (p.2.map encDd)]
theorem law_true (ns : List Int) (h : ns.length ≤ 63) : s_law_12 [.fr (ns.map .int)] = .ok (.bl true) := by
  unfold s_law_12
  refine def_ok1 rfl ?_
  simp (disch := first | omega | (simp; done) | fail) [r_cut ns h, e_cells ns h]
  obtain ⟨I, hI⟩ : ∃ I : Sl → Prop, I = fun m => ∃ (a0 a1 a2 a3 a4 a5 a6 a7 a8 : Option D), m = [a0, a1, a2, a3, a4, a5, a6, a7, a8] := ⟨_, rfl⟩
  refine wp_each I ?_ (fun c hc m hm => ?_) (fun m hm => ?_)
  · rw [hI]; simp
  · rw [hI] at hm; obtain ⟨a0, a1, a2, a3, a4, a5, a6, a7, a8, rfl⟩ := hm
    obtain ⟨l, e1, hl, hpr, hl1, hl2⟩ := r_train_2 c 0 60 (by omega) (by omega) (by omega) (by omega)
    have ht := trn_of hl hl1
    obtain ⟨r1, f1, h1, h1l, h1n⟩ := r_law_row l c 8 30 ht (by omega) (by omega) (by omega) (by omega)
    obtain ⟨r2, f2, h2, h2l, h2n⟩ := r_law_row l c 14 3 ht (by omega) (by omega) (by omega) (by omega)
    obtain ⟨r3, f3, h3, h3l, h3n⟩ := r_law_row l c 20 9 ht (by omega) (by omega) (by omega) (by omega)
    have p12 : powD (.int 10) (.int 12) = .ok (.int 1000000000000) := by rw [powD_lit (by decide +kernel)]; rfl
    have h26 := mixN_lo c 26
    have k26 := mixN_hi c 26
    obtain ⟨q, hq⟩ := Int.eq_ofNat_of_zero_le (show 0 ≤ mixN c 26 * 1000000000000 + 1 by omega)
    have gm : mulD (.int (mixN c 26)) (.int 1000000000000) = .ok (.int (mixN c 26 * 1000000000000)) := mulD_l (by omega)
    have hg : ∀ s, StandOk l s → -(10 ^ 50) ≤ (walkN l s r1).2 ∧ (walkN l s r1).2 ≤ 10 ^ 50 := fun s z => by
      have := walkN_le hl.1 (B := 30) (row := r1) z fun d hd => ⟨h1.1 d hd, h1n d hd⟩
      have : (r1.length : Int) ≤ 5 := by omega
      omega
    have g1 := r_law_round_right ht h1 hpr hg (q := q) (by omega) (by omega)
    have d0 : RowOk l.length [(⟨0, 1, 0⟩ : Deed)] := ⟨by intro d hd; rw [List.mem_singleton.mp hd]; exact ⟨by simp, by show (0 : Int) < _; omega, .inl rfl, by simp⟩, by simp⟩
    have b1 : addD (.lst false (r2.map encDd)) (.lst false [.tup [.int 0, .int 1, .int 0]]) = .ok (.lst false ((r2 ++ [(⟨0, 1, 0⟩ : Deed)]).map encDd)) := by rw [addD_lst (by simp; omega)]; simp [encDd]
    have b2 : addD (.lst false (r1.map encDd)) (.lst false (r2.map encDd)) = .ok (.lst false ((r1 ++ r2).map encDd)) := by rw [addD_lst (by simp; omega)]; simp
    have b3 : addD (.lst false (r2.map encDd)) (.lst false (r1.map encDd)) = .ok (.lst false ((r2 ++ r1).map encDd)) := by rw [addD_lst (by simp; omega)]; simp
    have all : ∀ p ∈ [(r2, r2 ++ [(⟨0, 1, 0⟩ : Deed)]), (r1, r2), (r1 ++ r2, r2 ++ r1)], RowOk l.length p.1 ∧ RowOk l.length p.2 ∧ p.1.length ≤ 1000 ∧ p.2.length ≤ 1000 := fun p hp => by
      simp only [List.mem_cons, List.not_mem_nil, or_false] at hp
      rcases hp with rfl | rfl | rfl
      · exact ⟨h2, h2.app d0 (by simp; omega), by show r2.length ≤ _; omega, by simp; omega⟩
      · exact ⟨h1, h2, by show r1.length ≤ _; omega, by show r2.length ≤ _; omega⟩
      · exact ⟨h1.app h2 (by omega), h2.app h1 (by omega), by simp; omega, by simp; omega⟩
    have tA : ∀ L : List (List Deed × List Deed), hasTL (L.map encRR2) = false := fun L => hasTL_map (fun p => by simp [encRR2]) L
    have eA : [D.tup [.lst false (r2.map encDd), .lst false ((r2 ++ [(⟨0, 1, 0⟩ : Deed)]).map encDd)], .tup [.lst false (r1.map encDd), .lst false (r2.map encDd)], .tup [.lst false ((r1 ++ r2).map encDd), .lst false ((r2 ++ r1).map encDd)]] = [(r2, r2 ++ [(⟨0, 1, 0⟩ : Deed)]), (r1, r2), (r1 ++ r2, r2 ++ r1)].map encRR2 := rfl
    have y1 : hasTL ((r2 ++ [(⟨0, 1, 0⟩ : Deed)]).map encDd) = false := hasTL_encDd _
    have y2 : hasTL ((r1 ++ r2).map encDd) = false := hasTL_encDd _
    have y3 : hasTL ((r2 ++ r1).map encDd) = false := hasTL_encDd _
    generalize [(r2, r2 ++ [(⟨0, 1, 0⟩ : Deed)]), (r1, r2), (r1 ++ r2, r2 ++ r1)] = AL at all eA
    generalize (r2 ++ [(⟨0, 1, 0⟩ : Deed)]).map encDd = R1 at b1 eA y1
    generalize (r1 ++ r2).map encDd = R2 at b2 eA y2
    generalize (r2 ++ r1).map encDd = R3 at b3 eA y3
    simp (maxSteps := 5000000) (disch := first | omega | (simp; done) | fail) [e1, f1, f2, f3, r_mix, p12, gm, hq, g1, b1, b2, b3, y1, y2, y3, itemsN, items, -wp_for_cons, -wp_for_nil]
    rw [eA]
    obtain ⟨J, hJ⟩ : ∃ J : Sl → Prop, J = fun m => ∃ (a0 a1 a3 a4 a6 a7 a8 : Option D), m = [a0, a1, some (.lst false (l.map encP)), a3, a4, some (.lst false (r3.map encDd)), a6, a7, a8] := ⟨_, rfl⟩
    refine wp_each J ?_ (fun p hp m hm => ?_) (fun m hm => ?_)
    · rw [hJ]; exact ⟨_, _, _, _, _, _, _, rfl⟩
    · rw [hJ] at hm
      obtain ⟨a0, a1, a3, a4, a6, a7, a8, rfl⟩ := hm
      obtain ⟨q1, q2, q3, q4⟩ := all p hp
      obtain ⟨x, y⟩ := p
      have g2 := r_law_pair_right ht (show prodN l ≤ 100000 by omega) q1 q2 h3 ⟨q3, q4, by omega⟩
      simp [encRR2, g2]
      rw [hJ]; exact ⟨_, _, _, _, _, _, _, rfl⟩
    · rw [hJ] at hm
      obtain ⟨a0, a1, a3, a4, a6, a7, a8, rfl⟩ := hm
      rw [hI]; simp
  · rw [hI] at hm; obtain ⟨a0, a1, a2, a3, a4, a5, a6, a7, a8, rfl⟩ := hm
    simp
end CK

namespace CK
open PySem PySem.Spec PyProof.Rows L2 CT
def topS (i : Nat) : Stmt := PySem.Challenge.pw_clicktrain_k13_whole_rows_come_round.main.body.getD i (.Pass ⟨0, 0, 0, 0⟩)
structure Txt (K : PySem.W.Frag) (mg : Str → Option Value) (xa : Nat → Addr) : Prop where
  f_law_mix : ∃ fa fd, Fun K "_law_mix" "_law_mix" (topS 32) fa fd ∧ mg "_law_mix" = some (.ref fa) ∧ Binds K fd ["_law_cell", "_law_k"] []
  f_law_places : ∃ fa fd, Fun K "_law_places" "_law_places" (topS 34) fa fd ∧ mg "_law_places" = some (.ref fa) ∧ Binds K fd ["_law_part_here"] []
  f_law_part : ∃ fa fd, Fun K "_law_part" "_law_part" (topS 35) fa fd ∧ mg "_law_part" = some (.ref fa) ∧ Binds K fd ["_law_pick", "_law_most"] []
  f_law_train : ∃ fa fd, Fun K "_law_train" "_law_train" (topS 36) fa fd ∧ mg "_law_train" = some (.ref fa) ∧ Binds K fd ["_law_cell", "_law_place", "_law_most"] []
  f_law_row : ∃ fa fd, Fun K "_law_row" "_law_row" (topS 38) fa fd ∧ mg "_law_row" = some (.ref fa) ∧ Binds K fd ["_law_train_here", "_law_cell", "_law_place", "_law_most"] []
  f_is_whole : ∃ fa fd, Fun K "is_whole" "is_whole" (topS 7) fa fd ∧ mg "is_whole" = some (.ref fa) ∧ Binds K fd ["thing"] []
  f_is_marks : ∃ fa fd, Fun K "is_marks" "is_marks" (topS 8) fa fd ∧ mg "is_marks" = some (.ref fa) ∧ Binds K fd ["teeth", "thing"] []
  f_is_part : ∃ fa fd, Fun K "is_part" "is_part" (topS 9) fa fd ∧ mg "is_part" = some (.ref fa) ∧ Binds K fd ["thing"] []
  f_check_train : ∃ fa fd, Fun K "check_train" "check_train" (topS 10) fa fd ∧ mg "check_train" = some (.ref fa) ∧ Binds K fd ["train"] []
  f_places : ∃ fa fd, Fun K "places" "places" (topS 11) fa fd ∧ mg "places" = some (.ref fa) ∧ Binds K fd ["part"] []
  f_stands_of : ∃ fa fd, Fun K "stands_of" "stands_of" (topS 18) fa fd ∧ mg "stands_of" = some (.ref fa) ∧ Binds K fd ["train"] []
  f_is_deed : ∃ fa fd, Fun K "is_deed" "is_deed" (topS 20) fa fd ∧ mg "is_deed" = some (.ref fa) ∧ Binds K fd ["train", "thing"] []
  f_check_row : ∃ fa fd, Fun K "check_row" "check_row" (topS 21) fa fd ∧ mg "check_row" = some (.ref fa) ∧ Binds K fd ["train", "row"] []
  f_marks_met : ∃ fa fd, Fun K "marks_met" "marks_met" (topS 14) fa fd ∧ mg "marks_met" = some (.ref fa) ∧ Binds K fd ["part", "place", "many"] []
  f_marks_left : ∃ fa fd, Fun K "marks_left" "marks_left" (topS 15) fa fd ∧ mg "marks_left" = some (.ref fa) ∧ Binds K fd ["part", "place", "many"] []
  f_part_pushed : ∃ fa fd, Fun K "part_pushed" "part_pushed" (topS 16) fa fd ∧ mg "part_pushed" = some (.ref fa) ∧ Binds K fd ["part", "place", "way", "many"] []
  f_pushed_often : ∃ fa fd, Fun K "pushed_often" "pushed_often" (topS 17) fa fd ∧ mg "pushed_often" = some (.ref fa) ∧ Binds K fd ["train", "stand", "i", "way", "many"] []
  f_walked : ∃ fa fd, Fun K "walked" "walked" (topS 22) fa fd ∧ mg "walked" = some (.ref fa) ∧ Binds K fd ["train", "stand", "row"] []
  f_common : ∃ fa fd, Fun K "common" "common" (topS 27) fa fd ∧ mg "common" = some (.ref fa) ∧ Binds K fd ["one", "other"] []
  f_tail_and_round : ∃ fa fd, Fun K "tail_and_round" "tail_and_round" (topS 28) fa fd ∧ mg "tail_and_round" = some (.ref fa) ∧ Binds K fd ["after", "known", "start"] []
  f_row_round : ∃ fa fd, Fun K "row_round" "row_round" (topS 29) fa fd ∧ mg "row_round" = some (.ref fa) ∧ Binds K fd ["train", "row"] []
  f_is_stand : ∃ fa fd, Fun K "is_stand" "is_stand" (topS 12) fa fd ∧ mg "is_stand" = some (.ref fa) ∧ Binds K fd ["train", "thing"] []
  f_check_stand : ∃ fa fd, Fun K "check_stand" "check_stand" (topS 13) fa fd ∧ mg "check_stand" = some (.ref fa) ∧ Binds K fd ["train", "stand"] []
  f_left_often : ∃ fa fd, Fun K "left_often" "left_often" (topS 24) fa fd ∧ mg "left_often" = some (.ref fa) ∧ Binds K fd ["train", "stand", "row", "times"] []
  f_law_same : ∃ fa fd, Fun K "_law_same" "_law_same" (topS 39) fa fd ∧ mg "_law_same" = some (.ref fa) ∧ Binds K fd ["_law_train_here", "_law_row_here", "_law_one", "_law_other"] []
  f_law_primes : ∃ fa fd, Fun K "_law_primes" "_law_primes" (topS 40) fa fd ∧ mg "_law_primes" = some (.ref fa) ∧ Binds K fd ["_law_number"] []
  f_law_round_right : ∃ fa fd, Fun K "_law_round_right" "_law_round_right" (topS 41) fa fd ∧ mg "_law_round_right" = some (.ref fa) ∧ Binds K fd ["_law_train_here", "_law_row_here", "_law_many"] []
  f_left : ∃ fa fd, Fun K "left" "left" (topS 23) fa fd ∧ mg "left" = some (.ref fa) ∧ Binds K fd ["train", "stand", "row"] []
  f_rows_alike : ∃ fa fd, Fun K "rows_alike" "rows_alike" (topS 26) fa fd ∧ mg "rows_alike" = some (.ref fa) ∧ Binds K fd ["train", "one", "other"] []
  f_law_pair_right : ∃ fa fd, Fun K "_law_pair_right" "_law_pair_right" (topS 42) fa fd ∧ mg "_law_pair_right" = some (.ref fa) ∧ Binds K fd ["_law_train_here", "_law_one", "_law_other", "_law_third"] []
  f_law_cut : ∃ fa fd, Fun K "_law_cut" "_law_cut" (topS 43) fa fd ∧ mg "_law_cut" = some (.ref fa) ∧ Binds K fd ["_law_script"] []
  b_all : mg "all" = none
  b_bool : mg "bool" = none
  b_int : mg "int" = none
  b_isinstance : mg "isinstance" = none
  b_len : mg "len" = none
  b_list : mg "list" = none
  b_max : mg "max" = none
  b_min : mg "min" = none
  b_range : mg "range" = none
  b_reversed : mg "reversed" = none
  b_str : mg "str" = none
  b_tuple : mg "tuple" = none
  b_zip : mg "zip" = none
  x_NoCount : ExcOk K mg "NoCount"
  x_NoRow : ExcOk K mg "NoRow"
  x_NoStand : ExcOk K mg "NoStand"
  x_NoTrain : ExcOk K mg "NoTrain"
section
variable {P : Program} {w : World} {K : PySem.W.Frag} {mg : Str → Option Value} {base : Heap} {xa : Nat → Addr}
theorem sc_law_mix : FnScope ["_law_cell", "_law_k", "_law_turn", "_law_number"] ["_law_cell", "_law_k"] (defScope (topS 32)) := ⟨rfl, rfl, rfl, by decide +kernel, rfl, by decide +kernel, by decide +kernel⟩
set_option linter.unusedVariables false in
theorem fn_law_mix (T : Txt K mg xa) {fa : Addr} {fd : FuncData} (F : Fun K "_law_mix" "_law_mix" (topS 32) fa fd) : FnG P w K mg base 1 fa fd ["_law_cell", "_law_k"] (spF K (exOf mg) 2 s_law_mix) := by
  have nd : (["_law_cell", "_law_k", "_law_turn", "_law_number"] : List Str).Nodup := sc_law_mix.nd
  refine def_fn (k := 0) (N := ["_law_cell", "_law_k", "_law_turn", "_law_number"]) (ps := ["_law_cell", "_law_k"]) F sc_law_mix fun cdv A outer s H E F0 hr hgd => ?_
  have hu64 : (A.deeper (envOfC "_law_mix" (defScope (topS 32)) s.heap.objs.size fa cdv)).units + 64 < cLine := hr.units
  have hu65 : (A.deeper (envOfC "_law_mix" (defScope (topS 32)) s.heap.objs.size fa cdv)).units + 65 < cLine := by have := hr.un; omega
  have pz := L2.passes_of (X := cxOf (L2.CX P w) P w K mg base ["_law_cell", "_law_k", "_law_turn", "_law_number"] "_law_mix" (defScope (topS 32)) fa cdv A outer s H E) rfl
  have tk : Takes (cxOf (L2.CX P w) P w K mg base ["_law_cell", "_law_k", "_law_turn", "_law_number"] "_law_mix" (defScope (topS 32)) fa cdv A outer s H E) (fun c d _ H' => E c d H') := takes_of rfl rfl rfl rfl
  exact (sss_cons (ss_if (st_cmp o_ge (se_var (pv 0)) (se_bin o_pow se_int se_int) (nomark _)) (sss_cons (ss_for (vs := [2]) pz rfl (si_rng1 rfl T.b_range (sa_cons (se_var (pv 1)) sa_nil)) (pg_name (i := 2) nd rfl (by first | exact Or.inl rfl | exact Or.inr rfl)) (ng_name (i := 2) (by simp)) (sss_one (ss_set (i := 0) nd rfl (by first | exact Or.inl rfl | exact Or.inr rfl) (se_bin o_div (se_var (pv 0)) (se_bin o_pow se_int se_int)))))
      (sss_one (ss_ret (se_bin o_mod (se_var (pv 0)) (se_bin o_pow se_int se_int))))) sss_nil)
      (sss_cons (ss_set (i := 3) nd rfl (by first | exact Or.inl rfl | exact Or.inr rfl) (se_bin o_mod (se_bin o_mul (se_bin o_add (se_bin o_add (se_bin o_mod (se_var (pv 0)) se_int) (se_bin o_mul (se_bin o_mul (se_var (pv 1)) (se_var (pv 1))) se_int)) (se_var (pv 1))) se_int) se_int))
      (sss_cons (ss_set (i := 3) nd rfl (by first | exact Or.inl rfl | exact Or.inr rfl) (se_bin o_mod (se_bin o_mul (se_var (pv 3)) (se_var (pv 3))) se_int))
      (sss_one (ss_ret (se_bin o_div (se_bin o_mod (se_bin o_mul (se_var (pv 3)) (se_bin o_add (se_var (pv 3)) se_int)) se_int) se_int))))))
theorem ok_law_mix (T : Txt K mg xa) : Callee P w K mg base (exOf mg) "_law_mix" 2 s_law_mix 1 := by
  obtain ⟨fa, fd, F, hm, hb⟩ := T.f_law_mix
  exact ⟨fa, fd, _, fn_law_mix T F, hm, F.kp, hb⟩
theorem sc_law_places : FnScope ["_law_part_here"] ["_law_part_here"] (defScope (topS 34)) := ⟨rfl, rfl, rfl, by decide +kernel, rfl, by decide +kernel, by decide +kernel⟩
set_option linter.unusedVariables false in
theorem fn_law_places (T : Txt K mg xa) {fa : Addr} {fd : FuncData} (F : Fun K "_law_places" "_law_places" (topS 34) fa fd) : FnG P w K mg base 1 fa fd ["_law_part_here"] (spF K (exOf mg) 1 s_law_places) := by
  have nd : (["_law_part_here"] : List Str).Nodup := sc_law_places.nd
  refine def_fn (k := 0) (N := ["_law_part_here"]) (ps := ["_law_part_here"]) F sc_law_places fun cdv A outer s H E F0 hr hgd => ?_
  have hu64 : (A.deeper (envOfC "_law_places" (defScope (topS 34)) s.heap.objs.size fa cdv)).units + 64 < cLine := hr.units
  have hu65 : (A.deeper (envOfC "_law_places" (defScope (topS 34)) s.heap.objs.size fa cdv)).units + 65 < cLine := by have := hr.un; omega
  have pz := L2.passes_of (X := cxOf (L2.CX P w) P w K mg base ["_law_part_here"] "_law_places" (defScope (topS 34)) fa cdv A outer s H E) rfl
  have tk : Takes (cxOf (L2.CX P w) P w K mg base ["_law_part_here"] "_law_places" (defScope (topS 34)) fa cdv A outer s H E) (fun c d _ H' => E c d H') := takes_of rfl rfl rfl rfl
  exact (sss_cons (ss_if (st_w (sw_or (st_cmp (o_eq hu64) (se_ix (se_var (pv 0)) se_int) se_str (nomark _)) (sw_or1 (st_cmp (o_eq hu64) (se_ix (se_var (pv 0)) se_int) se_str (nomark _))))) (sss_one (ss_ret (se_ix (se_var (pv 0)) se_int))) sss_nil)
      (sss_one (ss_ret (se_bin o_add se_int (se_callTy c_int rfl T.b_int PyProof.Rows.boot_int (sa_cons (se_cmp (o_eq hu64) (se_ix (se_var (pv 0)) se_int) se_str (nomark _)) sa_nil))))))
theorem ok_law_places (T : Txt K mg xa) : Callee P w K mg base (exOf mg) "_law_places" 1 s_law_places 1 := by
  obtain ⟨fa, fd, F, hm, hb⟩ := T.f_law_places
  exact ⟨fa, fd, _, fn_law_places T F, hm, F.kp, hb⟩
theorem sc_law_part : FnScope ["_law_pick", "_law_most", "_law_way", "_law_size", "_law_marks", "_law_mark"] ["_law_pick", "_law_most"] (defScope (topS 35)) := ⟨rfl, rfl, rfl, by decide +kernel, rfl, by decide +kernel, by decide +kernel⟩
set_option linter.unusedVariables false in
theorem fn_law_part (T : Txt K mg xa) {fa : Addr} {fd : FuncData} (F : Fun K "_law_part" "_law_part" (topS 35) fa fd) : FnG P w K mg base 1 fa fd ["_law_pick", "_law_most"] (spF K (exOf mg) 2 s_law_part_2) := by
  have nd : (["_law_pick", "_law_most", "_law_way", "_law_size", "_law_marks", "_law_mark"] : List Str).Nodup := sc_law_part.nd
  refine def_fn (k := 0) (N := ["_law_pick", "_law_most", "_law_way", "_law_size", "_law_marks", "_law_mark"]) (ps := ["_law_pick", "_law_most"]) F sc_law_part fun cdv A outer s H E F0 hr hgd => ?_
  have hu64 : (A.deeper (envOfC "_law_part" (defScope (topS 35)) s.heap.objs.size fa cdv)).units + 64 < cLine := hr.units
  have hu65 : (A.deeper (envOfC "_law_part" (defScope (topS 35)) s.heap.objs.size fa cdv)).units + 65 < cLine := by have := hr.un; omega
  have pz := L2.passes_of (X := cxOf (L2.CX P w) P w K mg base ["_law_pick", "_law_most", "_law_way", "_law_size", "_law_marks", "_law_mark"] "_law_part" (defScope (topS 35)) fa cdv A outer s H E) rfl
  have tk : Takes (cxOf (L2.CX P w) P w K mg base ["_law_pick", "_law_most", "_law_way", "_law_size", "_law_marks", "_law_mark"] "_law_part" (defScope (topS 35)) fa cdv A outer s H E) (fun c d _ H' => E c d H') := takes_of rfl rfl rfl rfl
  exact (sss_cons (ss_set (i := 2) nd rfl (by first | exact Or.inl rfl | exact Or.inr rfl) (se_bin o_mod (se_var (pv 0)) se_int))
      (sss_cons (ss_set (i := 3) nd rfl (by first | exact Or.inl rfl | exact Or.inr rfl) (se_bin o_add se_int (se_bin o_mod (se_bin o_div (se_var (pv 0)) se_int) (se_callB (c_max rfl) rfl T.b_max PyProof.Rows.boot_max (sa_cons se_int (sa_cons (se_callB (c_min rfl) rfl T.b_min PyProof.Rows.boot_min (sa_cons (se_var (pv 1)) (sa_cons se_int sa_nil))) sa_nil))))))
      (sss_cons (ss_if (st_cmp o_lt (se_var (pv 2)) se_int (nomark _)) (sss_cons (ss_setLc (i := 4) rfl nd rfl rfl (sw_true rfl rfl rfl (by decide +kernel)) (si_rng1 rfl T.b_range (sa_cons (se_var (pv 3)) sa_nil)) (blkOk_by (own := [("_law_mark", 5)]) (N := ["_law_pick", "_law_most", "_law_way", "_law_size", "_law_marks", "_law_mark"]) (sc := defScope (topS 35)) (by decide +kernel)) (ng_name (i := 5) (by simp)) (fun _ _ _ _ _ => (pg_name (i := 5) nd rfl (Or.inl rfl))) (fun _ _ _ _ _ => (sts_one (st_cmp (o_eq hu64) (se_bin o_mod (se_bin o_div (se_bin o_div (se_var (pv 0)) se_int) (se_bin o_shl se_int (se_var (pv 5)))) se_int) se_int (nomark _)))) (fun _ _ _ _ _ => (se_var (pv 5))))
      (sss_cons (ss_if (st_cmp (o_eq hu64) (se_bin o_mod (se_bin o_div (se_var (pv 0)) se_int) se_int) se_int (nomark _)) (sss_one (ss_set (i := 4) nd rfl (by first | exact Or.inl rfl | exact Or.inr rfl) (se_own (so_lst (sa_cons (se_bin o_mod (se_bin o_div (se_var (pv 0)) se_int) (se_var (pv 3))) sa_nil))))) sss_nil)
      (sss_one (ss_ret (se_tup (sa_cons se_str (sa_cons (se_var (pv 3)) (sa_cons (se_callTy c_tuple rfl T.b_tuple PyProof.Rows.boot_tuple (sa_cons (se_var (pv 4)) sa_nil)) sa_nil)))))))) sss_nil)
      (sss_cons (ss_if (st_cmp (o_eq hu64) (se_var (pv 2)) se_int (nomark _)) (sss_one (ss_ret (se_tup (sa_cons se_str sa_nil)))) sss_nil)
      (sss_cons (ss_if (st_w (sw_and (st_cmp (o_eq hu64) (se_var (pv 2)) se_int (nomark _)) (sw_and1 (st_cmp o_gt (se_var (pv 1)) se_int (nomark _))))) (sss_one (ss_ret (se_tup (sa_cons se_str sa_nil)))) sss_nil)
      (sss_one (ss_ret (se_tup (sa_cons se_str (sa_cons (se_var (pv 3)) sa_nil))))))))))
theorem ok_law_part (T : Txt K mg xa) : Callee P w K mg base (exOf mg) "_law_part" 2 s_law_part_2 1 := by
  obtain ⟨fa, fd, F, hm, hb⟩ := T.f_law_part
  exact ⟨fa, fd, _, fn_law_part T F, hm, F.kp, hb⟩
theorem sc_law_train : FnScope ["_law_cell", "_law_place", "_law_most", "_law_told", "_law_room", "_law_k"] ["_law_cell", "_law_place", "_law_most"] (defScope (topS 36)) := ⟨rfl, rfl, rfl, by decide +kernel, rfl, by decide +kernel, by decide +kernel⟩
set_option linter.unusedVariables false in
theorem fn_law_train (T : Txt K mg xa) {fa : Addr} {fd : FuncData} (F : Fun K "_law_train" "_law_train" (topS 36) fa fd) : FnG P w K mg base 2 fa fd ["_law_cell", "_law_place", "_law_most"] (spF K (exOf mg) 3 s_law_train_2) := by
  have nd : (["_law_cell", "_law_place", "_law_most", "_law_told", "_law_room", "_law_k"] : List Str).Nodup := sc_law_train.nd
  refine def_fn (k := 1) (N := ["_law_cell", "_law_place", "_law_most", "_law_told", "_law_room", "_law_k"]) (ps := ["_law_cell", "_law_place", "_law_most"]) F sc_law_train fun cdv A outer s H E F0 hr hgd => ?_
  have hu64 : (A.deeper (envOfC "_law_train" (defScope (topS 36)) s.heap.objs.size fa cdv)).units + 64 < cLine := hr.units
  have hu65 : (A.deeper (envOfC "_law_train" (defScope (topS 36)) s.heap.objs.size fa cdv)).units + 65 < cLine := by have := hr.un; omega
  have pz := L2.passes_of (X := cxOf (L2.CX P w) P w K mg base ["_law_cell", "_law_place", "_law_most", "_law_told", "_law_room", "_law_k"] "_law_train" (defScope (topS 36)) fa cdv A outer s H E) rfl
  have tk : Takes (cxOf (L2.CX P w) P w K mg base ["_law_cell", "_law_place", "_law_most", "_law_told", "_law_room", "_law_k"] "_law_train" (defScope (topS 36)) fa cdv A outer s H E) (fun c d _ H' => E c d H') := takes_of rfl rfl rfl rfl
  exact (sss_cons (ss_setO (i := 3) nd rfl (by first | exact Or.inl rfl | exact Or.inr rfl) (so_lst sa_nil))
      (sss_cons (ss_set (i := 4) nd rfl (by first | exact Or.inl rfl | exact Or.inr rfl) (se_var (pv 2)))
      (sss_cons (ss_for (vs := [5]) pz rfl (si_rng1 rfl T.b_range (sa_cons (se_bin o_add se_int (se_bin o_mod (se_call (ok_law_mix T) tk (hr.mono (by decide)) hgd rfl (sa_cons (se_var (pv 0)) (sa_cons (se_var (pv 1)) sa_nil)) rfl (aCons_len (aCons_len aNil_len))) se_int)) sa_nil)) (pg_name (i := 5) nd rfl (by first | exact Or.inl rfl | exact Or.inr rfl)) (ng_name (i := 5) (by simp)) (sss_cons (ss_app (pv 3) (se_call (ok_law_part T) tk (hr.mono (by decide)) hgd rfl (sa_cons (se_call (ok_law_mix T) tk (hr.mono (by decide)) hgd rfl (sa_cons (se_var (pv 0)) (sa_cons (se_bin o_add (se_bin o_add (se_var (pv 1)) se_int) (se_var (pv 5))) sa_nil)) rfl (aCons_len (aCons_len aNil_len))) (sa_cons (se_var (pv 4)) sa_nil)) rfl (aCons_len (aCons_len aNil_len))))
      (sss_one (ss_set (i := 4) nd rfl (by first | exact Or.inl rfl | exact Or.inr rfl) (se_bin o_div (se_var (pv 4)) (se_call (ok_law_places T) tk (hr.mono (by decide)) hgd rfl (sa_cons (se_ix (se_var (pv 3)) (se_var (pv 5))) sa_nil) rfl (aCons_len aNil_len)))))))
      (sss_one (ss_retV (pv 3))))))
theorem ok_law_train (T : Txt K mg xa) : Callee P w K mg base (exOf mg) "_law_train" 3 s_law_train_2 2 := by
  obtain ⟨fa, fd, F, hm, hb⟩ := T.f_law_train
  exact ⟨fa, fd, _, fn_law_train T F, hm, F.kp, hb⟩
theorem sc_law_row : FnScope ["_law_train_here", "_law_cell", "_law_place", "_law_most", "_law_told", "_law_k", "_law_pick"] ["_law_train_here", "_law_cell", "_law_place", "_law_most"] (defScope (topS 38)) := ⟨rfl, rfl, rfl, by decide +kernel, rfl, by decide +kernel, by decide +kernel⟩
set_option linter.unusedVariables false in
theorem fn_law_row (T : Txt K mg xa) {fa : Addr} {fd : FuncData} (F : Fun K "_law_row" "_law_row" (topS 38) fa fd) : FnG P w K mg base 2 fa fd ["_law_train_here", "_law_cell", "_law_place", "_law_most"] (spF K (exOf mg) 4 s_law_row) := by
  have nd : (["_law_train_here", "_law_cell", "_law_place", "_law_most", "_law_told", "_law_k", "_law_pick"] : List Str).Nodup := sc_law_row.nd
  refine def_fn (k := 1) (N := ["_law_train_here", "_law_cell", "_law_place", "_law_most", "_law_told", "_law_k", "_law_pick"]) (ps := ["_law_train_here", "_law_cell", "_law_place", "_law_most"]) F sc_law_row fun cdv A outer s H E F0 hr hgd => ?_
  have hu64 : (A.deeper (envOfC "_law_row" (defScope (topS 38)) s.heap.objs.size fa cdv)).units + 64 < cLine := hr.units
  have hu65 : (A.deeper (envOfC "_law_row" (defScope (topS 38)) s.heap.objs.size fa cdv)).units + 65 < cLine := by have := hr.un; omega
  have pz := L2.passes_of (X := cxOf (L2.CX P w) P w K mg base ["_law_train_here", "_law_cell", "_law_place", "_law_most", "_law_told", "_law_k", "_law_pick"] "_law_row" (defScope (topS 38)) fa cdv A outer s H E) rfl
  have tk : Takes (cxOf (L2.CX P w) P w K mg base ["_law_train_here", "_law_cell", "_law_place", "_law_most", "_law_told", "_law_k", "_law_pick"] "_law_row" (defScope (topS 38)) fa cdv A outer s H E) (fun c d _ H' => E c d H') := takes_of rfl rfl rfl rfl
  exact (sss_cons (ss_setO (i := 4) nd rfl (by first | exact Or.inl rfl | exact Or.inr rfl) (so_lst sa_nil))
      (sss_cons (ss_for (vs := [5]) pz rfl (si_rng1 rfl T.b_range (sa_cons (se_bin o_mod (se_call (ok_law_mix T) tk (hr.mono (by decide)) hgd rfl (sa_cons (se_var (pv 1)) (sa_cons (se_var (pv 2)) sa_nil)) rfl (aCons_len (aCons_len aNil_len))) se_int) sa_nil)) (pg_name (i := 5) nd rfl (by first | exact Or.inl rfl | exact Or.inr rfl)) (ng_name (i := 5) (by simp)) (sss_cons (ss_set (i := 6) nd rfl (by first | exact Or.inl rfl | exact Or.inr rfl) (se_call (ok_law_mix T) tk (hr.mono (by decide)) hgd rfl (sa_cons (se_var (pv 1)) (sa_cons (se_bin o_add (se_bin o_add (se_var (pv 2)) se_int) (se_var (pv 5))) sa_nil)) rfl (aCons_len (aCons_len aNil_len))))
      (sss_one (ss_app (pv 4) (se_tup (sa_cons (se_bin o_mod (se_var (pv 6)) (se_callB c_len rfl T.b_len PySem.boot_len (sa_cons (se_var (pv 0)) sa_nil))) (sa_cons (se_bin o_sub se_int (se_bin o_mul se_int (se_bin o_mod (se_bin o_div (se_var (pv 6)) se_int) se_int))) (sa_cons (se_bin o_mod (se_bin o_div (se_var (pv 6)) se_int) (se_bin o_add (se_var (pv 3)) se_int)) sa_nil))))))))
      (sss_one (ss_retV (pv 4)))))
theorem ok_law_row (T : Txt K mg xa) : Callee P w K mg base (exOf mg) "_law_row" 4 s_law_row 2 := by
  obtain ⟨fa, fd, F, hm, hb⟩ := T.f_law_row
  exact ⟨fa, fd, _, fn_law_row T F, hm, F.kp, hb⟩
theorem sc_is_whole : FnScope ["thing"] ["thing"] (defScope (topS 7)) := ⟨rfl, rfl, rfl, by decide +kernel, rfl, by decide +kernel, by decide +kernel⟩
set_option linter.unusedVariables false in
theorem fn_is_whole (T : Txt K mg xa) {fa : Addr} {fd : FuncData} (F : Fun K "is_whole" "is_whole" (topS 7) fa fd) : FnG P w K mg base 1 fa fd ["thing"] (spF K (exOf mg) 1 s_is_whole) := by
  have nd : (["thing"] : List Str).Nodup := sc_is_whole.nd
  refine def_fn (k := 0) (N := ["thing"]) (ps := ["thing"]) F sc_is_whole fun cdv A outer s H E F0 hr hgd => ?_
  have hu64 : (A.deeper (envOfC "is_whole" (defScope (topS 7)) s.heap.objs.size fa cdv)).units + 64 < cLine := hr.units
  have hu65 : (A.deeper (envOfC "is_whole" (defScope (topS 7)) s.heap.objs.size fa cdv)).units + 65 < cLine := by have := hr.un; omega
  have pz := L2.passes_of (X := cxOf (L2.CX P w) P w K mg base ["thing"] "is_whole" (defScope (topS 7)) fa cdv A outer s H E) rfl
  have tk : Takes (cxOf (L2.CX P w) P w K mg base ["thing"] "is_whole" (defScope (topS 7)) fa cdv A outer s H E) (fun c d _ H' => E c d H') := takes_of rfl rfl rfl rfl
  exact (sss_one (ss_ret (se_and (se_isi (T := "int") rfl T.b_isinstance rfl T.b_int PyProof.Rows.boot_int (se_var (pv 0))) (se_one (se_not (se_isi (T := "bool") rfl T.b_isinstance rfl T.b_bool (by decide +kernel) (se_var (pv 0))))))))
theorem ok_is_whole (T : Txt K mg xa) : Callee P w K mg base (exOf mg) "is_whole" 1 s_is_whole 1 := by
  obtain ⟨fa, fd, F, hm, hb⟩ := T.f_is_whole
  exact ⟨fa, fd, _, fn_is_whole T F, hm, F.kp, hb⟩
theorem sc_is_marks : FnScope ["teeth", "thing", "mark", "one", "other"] ["teeth", "thing"] (defScope (topS 8)) := ⟨rfl, rfl, rfl, by decide +kernel, rfl, by decide +kernel, by decide +kernel⟩
set_option linter.unusedVariables false in
theorem fn_is_marks (T : Txt K mg xa) {fa : Addr} {fd : FuncData} (F : Fun K "is_marks" "is_marks" (topS 8) fa fd) : FnG P w K mg base 2 fa fd ["teeth", "thing"] (spF K (exOf mg) 2 s_is_marks) := by
  have nd : (["teeth", "thing", "mark", "one", "other"] : List Str).Nodup := sc_is_marks.nd
  refine def_fn (k := 1) (N := ["teeth", "thing", "mark", "one", "other"]) (ps := ["teeth", "thing"]) F sc_is_marks fun cdv A outer s H E F0 hr hgd => ?_
  have hu64 : (A.deeper (envOfC "is_marks" (defScope (topS 8)) s.heap.objs.size fa cdv)).units + 64 < cLine := hr.units
  have hu65 : (A.deeper (envOfC "is_marks" (defScope (topS 8)) s.heap.objs.size fa cdv)).units + 65 < cLine := by have := hr.un; omega
  have pz := L2.passes_of (X := cxOf (L2.CX P w) P w K mg base ["teeth", "thing", "mark", "one", "other"] "is_marks" (defScope (topS 8)) fa cdv A outer s H E) rfl
  have tk : Takes (cxOf (L2.CX P w) P w K mg base ["teeth", "thing", "mark", "one", "other"] "is_marks" (defScope (topS 8)) fa cdv A outer s H E) (fun c d _ H' => E c d H') := takes_of rfl rfl rfl rfl
  exact (sss_cons (ss_if (st_w (sw_or (st_not (st_of (se_isi (T := "tuple") rfl T.b_isinstance rfl T.b_tuple PyProof.Rows.boot_tuple (se_var (pv 1))))) (sw_or1 (st_not (st_of (se_callB (c_all rfl) rfl T.b_all PyProof.Rows.boot_all (sa_cons (se_own (so_lc rfl nd (si_seq (se_var (pv 1))) (blkOk_by (own := [("mark", 2)]) (N := ["teeth", "thing", "mark", "one", "other"]) (sc := defScope (topS 8)) (by decide +kernel)) (ng_name (i := 2) (by simp)) (fun _ _ _ _ _ => (pg_name (i := 2) nd rfl (Or.inl rfl))) (fun _ _ _ _ _ => sts_nil) (fun _ _ _ _ _ => (se_and (se_call (ok_is_whole T) takes0 (hr.mono (by decide)) hgd rfl (sa_cons (se_var (pv 2)) sa_nil) rfl (aCons_len aNil_len)) (se_one (se_chain o_le o_lt se_int (se_var (pv 2)) (se_var (pv 0)))))))) sa_nil))))))) (sss_one (ss_ret se_bl)) sss_nil)
      (sss_one (ss_ret (se_callB (c_all rfl) rfl T.b_all PyProof.Rows.boot_all (sa_cons (se_own (so_lc rfl nd (si_zip rfl T.b_zip (sa_cons (se_var (pv 1)) (sa_cons (se_cut (se_var (pv 1)) (sp_so se_int) sp_no) sa_nil))) (blkOk_by (own := [("one", 3), ("other", 4)]) (N := ["teeth", "thing", "mark", "one", "other"]) (sc := defScope (topS 8)) (by decide +kernel)) (ng_tup (ngs_cons (ng_name (i := 3) (by simp)) (ngs_cons (ng_name (i := 4) (by simp)) ngs_nil))) (fun _ _ _ _ _ => (pg_tup rfl (pgs_cons (pg_name (i := 3) nd rfl (Or.inl rfl)) (pgs_cons (pg_name (i := 4) nd rfl (Or.inl rfl)) pgs_nil)))) (fun _ _ _ _ _ => sts_nil) (fun _ _ _ _ _ => (se_cmp o_lt (se_var (pv 3)) (se_var (pv 4)) (nomark _))))) sa_nil)))))
theorem ok_is_marks (T : Txt K mg xa) : Callee P w K mg base (exOf mg) "is_marks" 2 s_is_marks 2 := by
  obtain ⟨fa, fd, F, hm, hb⟩ := T.f_is_marks
  exact ⟨fa, fd, _, fn_is_marks T F, hm, F.kp, hb⟩
theorem sc_is_part : FnScope ["thing"] ["thing"] (defScope (topS 9)) := ⟨rfl, rfl, rfl, by decide +kernel, rfl, by decide +kernel, by decide +kernel⟩
set_option linter.unusedVariables false in
theorem fn_is_part (T : Txt K mg xa) {fa : Addr} {fd : FuncData} (F : Fun K "is_part" "is_part" (topS 9) fa fd) : FnG P w K mg base 3 fa fd ["thing"] (spF K (exOf mg) 1 s_is_part) := by
  have nd : (["thing"] : List Str).Nodup := sc_is_part.nd
  refine def_fn (k := 2) (N := ["thing"]) (ps := ["thing"]) F sc_is_part fun cdv A outer s H E F0 hr hgd => ?_
  have hu64 : (A.deeper (envOfC "is_part" (defScope (topS 9)) s.heap.objs.size fa cdv)).units + 64 < cLine := hr.units
  have hu65 : (A.deeper (envOfC "is_part" (defScope (topS 9)) s.heap.objs.size fa cdv)).units + 65 < cLine := by have := hr.un; omega
  have pz := L2.passes_of (X := cxOf (L2.CX P w) P w K mg base ["thing"] "is_part" (defScope (topS 9)) fa cdv A outer s H E) rfl
  have tk : Takes (cxOf (L2.CX P w) P w K mg base ["thing"] "is_part" (defScope (topS 9)) fa cdv A outer s H E) (fun c d _ H' => E c d H') := takes_of rfl rfl rfl rfl
  exact (sss_cons (ss_if (st_w (sw_or (st_not (st_of (se_isi (T := "tuple") rfl T.b_isinstance rfl T.b_tuple PyProof.Rows.boot_tuple (se_var (pv 0))))) (sw_or (st_cmp (o_eq hu64) (se_var (pv 0)) (se_tup sa_nil) (nomark _)) (sw_or1 (st_not (st_of (se_isi (T := "str") rfl T.b_isinstance rfl T.b_str PyProof.Rows.boot_str (se_ix (se_var (pv 0)) se_int)))))))) (sss_one (ss_ret se_bl)) sss_nil)
      (sss_cons (ss_if (st_cmp (o_in hu65) (se_ix (se_var (pv 0)) se_int) (se_own (so_lst (sa_cons se_str (sa_cons se_str sa_nil)))) (by rfl)) (sss_one (ss_ret (se_cmp (o_eq hu64) (se_callB c_len rfl T.b_len PySem.boot_len (sa_cons (se_var (pv 0)) sa_nil)) se_int (nomark _)))) sss_nil)
      (sss_cons (ss_if (st_cmp (o_eq hu64) (se_ix (se_var (pv 0)) se_int) se_str (nomark _)) (sss_one (ss_ret (se_and (se_cmp (o_eq hu64) (se_callB c_len rfl T.b_len PySem.boot_len (sa_cons (se_var (pv 0)) sa_nil)) se_int (nomark _)) (se_and (se_call (ok_is_whole T) tk (hr.mono (by decide)) hgd rfl (sa_cons (se_ix (se_var (pv 0)) se_int) sa_nil) rfl (aCons_len aNil_len)) (se_one (se_cmp o_ge (se_ix (se_var (pv 0)) se_int) se_int (nomark _))))))) sss_nil)
      (sss_cons (ss_if (st_w (sw_or (st_cmp (o_ne hu64) (se_ix (se_var (pv 0)) se_int) se_str (nomark _)) (sw_or1 (st_cmp (o_ne hu64) (se_callB c_len rfl T.b_len PySem.boot_len (sa_cons (se_var (pv 0)) sa_nil)) se_int (nomark _))))) (sss_one (ss_ret se_bl)) sss_nil)
      (sss_one (ss_ret (se_and (se_call (ok_is_whole T) tk (hr.mono (by decide)) hgd rfl (sa_cons (se_ix (se_var (pv 0)) se_int) sa_nil) rfl (aCons_len aNil_len)) (se_and (se_cmp o_ge (se_ix (se_var (pv 0)) se_int) se_int (nomark _)) (se_one (se_call (ok_is_marks T) tk (hr.mono (by decide)) hgd rfl (sa_cons (se_ix (se_var (pv 0)) se_int) (sa_cons (se_ix (se_var (pv 0)) se_int) sa_nil)) rfl (aCons_len (aCons_len aNil_len))))))))))))
theorem ok_is_part (T : Txt K mg xa) : Callee P w K mg base (exOf mg) "is_part" 1 s_is_part 3 := by
  obtain ⟨fa, fd, F, hm, hb⟩ := T.f_is_part
  exact ⟨fa, fd, _, fn_is_part T F, hm, F.kp, hb⟩
theorem sc_check_train : FnScope ["train", "part"] ["train"] (defScope (topS 10)) := ⟨rfl, rfl, rfl, by decide +kernel, rfl, by decide +kernel, by decide +kernel⟩
set_option linter.unusedVariables false in
theorem fn_check_train (T : Txt K mg xa) {fa : Addr} {fd : FuncData} (F : Fun K "check_train" "check_train" (topS 10) fa fd) : FnG P w K mg base 4 fa fd ["train"] (spF K (exOf mg) 1 s_check_train) := by
  have nd : (["train", "part"] : List Str).Nodup := sc_check_train.nd
  refine def_fn (k := 3) (N := ["train", "part"]) (ps := ["train"]) F sc_check_train fun cdv A outer s H E F0 hr hgd => ?_
  have hu64 : (A.deeper (envOfC "check_train" (defScope (topS 10)) s.heap.objs.size fa cdv)).units + 64 < cLine := hr.units
  have hu65 : (A.deeper (envOfC "check_train" (defScope (topS 10)) s.heap.objs.size fa cdv)).units + 65 < cLine := by have := hr.un; omega
  have pz := L2.passes_of (X := cxOf (L2.CX P w) P w K mg base ["train", "part"] "check_train" (defScope (topS 10)) fa cdv A outer s H E) rfl
  have tk : Takes (cxOf (L2.CX P w) P w K mg base ["train", "part"] "check_train" (defScope (topS 10)) fa cdv A outer s H E) (fun c d _ H' => E c d H') := takes_of rfl rfl rfl rfl
  exact (sss_one (ss_if (st_w (sw_or (st_not (st_of (se_isi (T := "list") rfl T.b_isinstance rfl T.b_list PyProof.Rows.boot_list (se_var (pv 0))))) (sw_or (st_cmp (o_eq hu64) (se_var (pv 0)) (se_own (so_lst sa_nil)) (nomark _)) (sw_or1 (st_not (st_of (se_callB (c_all rfl) rfl T.b_all PyProof.Rows.boot_all (sa_cons (se_own (so_lc rfl nd (si_seq (se_var (pv 0))) (blkOk_by (own := [("part", 1)]) (N := ["train", "part"]) (sc := defScope (topS 10)) (by decide +kernel)) (ng_name (i := 1) (by simp)) (fun _ _ _ _ _ => (pg_name (i := 1) nd rfl (Or.inl rfl))) (fun _ _ _ _ _ => sts_nil) (fun _ _ _ _ _ => (se_call (ok_is_part T) takes0 (hr.mono (by decide)) hgd rfl (sa_cons (se_var (pv 1)) sa_nil) rfl (aCons_len aNil_len))))) sa_nil)))))))) (sss_one (ss_raise rfl tk T.x_NoTrain rfl)) sss_nil))
theorem ok_check_train (T : Txt K mg xa) : Callee P w K mg base (exOf mg) "check_train" 1 s_check_train 4 := by
  obtain ⟨fa, fd, F, hm, hb⟩ := T.f_check_train
  exact ⟨fa, fd, _, fn_check_train T F, hm, F.kp, hb⟩
theorem sc_places : FnScope ["part"] ["part"] (defScope (topS 11)) := ⟨rfl, rfl, rfl, by decide +kernel, rfl, by decide +kernel, by decide +kernel⟩
set_option linter.unusedVariables false in
theorem fn_places (T : Txt K mg xa) {fa : Addr} {fd : FuncData} (F : Fun K "places" "places" (topS 11) fa fd) : FnG P w K mg base 1 fa fd ["part"] (spF K (exOf mg) 1 s_places) := by
  have nd : (["part"] : List Str).Nodup := sc_places.nd
  refine def_fn (k := 0) (N := ["part"]) (ps := ["part"]) F sc_places fun cdv A outer s H E F0 hr hgd => ?_
  have hu64 : (A.deeper (envOfC "places" (defScope (topS 11)) s.heap.objs.size fa cdv)).units + 64 < cLine := hr.units
  have hu65 : (A.deeper (envOfC "places" (defScope (topS 11)) s.heap.objs.size fa cdv)).units + 65 < cLine := by have := hr.un; omega
  have pz := L2.passes_of (X := cxOf (L2.CX P w) P w K mg base ["part"] "places" (defScope (topS 11)) fa cdv A outer s H E) rfl
  have tk : Takes (cxOf (L2.CX P w) P w K mg base ["part"] "places" (defScope (topS 11)) fa cdv A outer s H E) (fun c d _ H' => E c d H') := takes_of rfl rfl rfl rfl
  exact (sss_cons (ss_if (st_cmp (o_in hu65) (se_ix (se_var (pv 0)) se_int) (se_own (so_lst (sa_cons se_str (sa_cons se_str sa_nil)))) (by rfl)) (sss_one (ss_ret (se_ix (se_var (pv 0)) se_int))) sss_nil)
      (sss_one (ss_ret (se_bin o_add se_int (se_callTy c_int rfl T.b_int PyProof.Rows.boot_int (sa_cons (se_cmp (o_eq hu64) (se_ix (se_var (pv 0)) se_int) se_str (nomark _)) sa_nil))))))
theorem ok_places (T : Txt K mg xa) : Callee P w K mg base (exOf mg) "places" 1 s_places 1 := by
  obtain ⟨fa, fd, F, hm, hb⟩ := T.f_places
  exact ⟨fa, fd, _, fn_places T F, hm, F.kp, hb⟩
theorem sc_stands_of : FnScope ["train", "told", "part", "more", "stand", "place"] ["train"] (defScope (topS 18)) := ⟨rfl, rfl, rfl, by decide +kernel, rfl, by decide +kernel, by decide +kernel⟩
set_option linter.unusedVariables false in
theorem fn_stands_of (T : Txt K mg xa) {fa : Addr} {fd : FuncData} (F : Fun K "stands_of" "stands_of" (topS 18) fa fd) : FnG P w K mg base 5 fa fd ["train"] (spF K (exOf mg) 1 s_stands_of) := by
  have nd : (["train", "told", "part", "more", "stand", "place"] : List Str).Nodup := sc_stands_of.nd
  refine def_fn (k := 4) (N := ["train", "told", "part", "more", "stand", "place"]) (ps := ["train"]) F sc_stands_of fun cdv A outer s H E F0 hr hgd => ?_
  have hu64 : (A.deeper (envOfC "stands_of" (defScope (topS 18)) s.heap.objs.size fa cdv)).units + 64 < cLine := hr.units
  have hu65 : (A.deeper (envOfC "stands_of" (defScope (topS 18)) s.heap.objs.size fa cdv)).units + 65 < cLine := by have := hr.un; omega
  have pz := L2.passes_of (X := cxOf (L2.CX P w) P w K mg base ["train", "told", "part", "more", "stand", "place"] "stands_of" (defScope (topS 18)) fa cdv A outer s H E) rfl
  have tk : Takes (cxOf (L2.CX P w) P w K mg base ["train", "told", "part", "more", "stand", "place"] "stands_of" (defScope (topS 18)) fa cdv A outer s H E) (fun c d _ H' => E c d H') := takes_of rfl rfl rfl rfl
  exact (sss_cons (ss_exp (se_call (ok_check_train T) tk (hr.mono (by decide)) hgd rfl (sa_cons (se_var (pv 0)) sa_nil) rfl (aCons_len aNil_len)))
      (sss_cons (ss_setO (i := 1) nd rfl (by first | exact Or.inl rfl | exact Or.inr rfl) (so_lst (sa_cons (se_tup sa_nil) sa_nil)))
      (sss_cons (ss_for (vs := [2]) pz rfl (si_seq (se_var (pv 0))) (pg_name (i := 2) nd rfl (by first | exact Or.inl rfl | exact Or.inr rfl)) (ng_name (i := 2) (by simp)) (sss_cons (ss_setO (i := 3) nd rfl (by first | exact Or.inl rfl | exact Or.inr rfl) (so_lst sa_nil))
      (sss_cons (ss_freeze (i := 1) (ss_for (vs := [4]) pz rfl (si_seq (se_var (pv 1))) (pg_name (i := 4) nd rfl (by first | exact Or.inl rfl | exact Or.inr rfl)) (ng_name (i := 4) (by simp)) (sss_one (ss_ext (pv 3) (se_own (so_lc rfl nd (si_rng1 rfl T.b_range (sa_cons (se_call (ok_places T) tk (hr.mono (by decide)) hgd rfl (sa_cons (se_var (pv 2)) sa_nil) rfl (aCons_len aNil_len)) sa_nil)) (blkOk_by (own := [("place", 5)]) (N := ["train", "told", "part", "more", "stand", "place"]) (sc := defScope (topS 18)) (by decide +kernel)) (ng_name (i := 5) (by simp)) (fun _ _ _ _ _ => (pg_name (i := 5) nd rfl (Or.inl rfl))) (fun _ _ _ _ _ => sts_nil) (fun _ _ _ _ _ => (se_bin o_add (se_var (pv 4)) (se_tup (sa_cons (se_var (pv 5)) sa_nil))))))))))
      (sss_one (ss_move (i := 1) (j := 3) nd rfl (by first | exact Or.inl rfl | exact Or.inr rfl) (pv 3))))))
      (sss_one (ss_retV (pv 1))))))
theorem ok_stands_of (T : Txt K mg xa) : Callee P w K mg base (exOf mg) "stands_of" 1 s_stands_of 5 := by
  obtain ⟨fa, fd, F, hm, hb⟩ := T.f_stands_of
  exact ⟨fa, fd, _, fn_stands_of T F, hm, F.kp, hb⟩
theorem sc_is_deed : FnScope ["train", "thing", "i", "way", "times", "number"] ["train", "thing"] (defScope (topS 20)) := ⟨rfl, rfl, rfl, by decide +kernel, rfl, by decide +kernel, by decide +kernel⟩
set_option linter.unusedVariables false in
theorem fn_is_deed (T : Txt K mg xa) {fa : Addr} {fd : FuncData} (F : Fun K "is_deed" "is_deed" (topS 20) fa fd) : FnG P w K mg base 2 fa fd ["train", "thing"] (spF K (exOf mg) 2 s_is_deed) := by
  have nd : (["train", "thing", "i", "way", "times", "number"] : List Str).Nodup := sc_is_deed.nd
  refine def_fn (k := 1) (N := ["train", "thing", "i", "way", "times", "number"]) (ps := ["train", "thing"]) F sc_is_deed fun cdv A outer s H E F0 hr hgd => ?_
  have hu64 : (A.deeper (envOfC "is_deed" (defScope (topS 20)) s.heap.objs.size fa cdv)).units + 64 < cLine := hr.units
  have hu65 : (A.deeper (envOfC "is_deed" (defScope (topS 20)) s.heap.objs.size fa cdv)).units + 65 < cLine := by have := hr.un; omega
  have pz := L2.passes_of (X := cxOf (L2.CX P w) P w K mg base ["train", "thing", "i", "way", "times", "number"] "is_deed" (defScope (topS 20)) fa cdv A outer s H E) rfl
  have tk : Takes (cxOf (L2.CX P w) P w K mg base ["train", "thing", "i", "way", "times", "number"] "is_deed" (defScope (topS 20)) fa cdv A outer s H E) (fun c d _ H' => E c d H') := takes_of rfl rfl rfl rfl
  exact (sss_cons (ss_if (st_w (sw_or (st_not (st_of (se_isi (T := "tuple") rfl T.b_isinstance rfl T.b_tuple PyProof.Rows.boot_tuple (se_var (pv 1))))) (sw_or (st_cmp (o_ne hu64) (se_callB c_len rfl T.b_len PySem.boot_len (sa_cons (se_var (pv 1)) sa_nil)) se_int (nomark _)) (sw_or1 (st_not (st_of (se_callB (c_all rfl) rfl T.b_all PyProof.Rows.boot_all (sa_cons (se_own (so_lc rfl nd (si_seq (se_var (pv 1))) (blkOk_by (own := [("number", 5)]) (N := ["train", "thing", "i", "way", "times", "number"]) (sc := defScope (topS 20)) (by decide +kernel)) (ng_name (i := 5) (by simp)) (fun _ _ _ _ _ => (pg_name (i := 5) nd rfl (Or.inl rfl))) (fun _ _ _ _ _ => sts_nil) (fun _ _ _ _ _ => (se_call (ok_is_whole T) takes0 (hr.mono (by decide)) hgd rfl (sa_cons (se_var (pv 5)) sa_nil) rfl (aCons_len aNil_len))))) sa_nil)))))))) (sss_one (ss_ret se_bl)) sss_nil)
      (sss_cons (ss_asg (se_var (pv 1)) (pg_tup rfl (pgs_cons (pg_name (i := 2) nd rfl (by first | exact Or.inl rfl | exact Or.inr rfl)) (pgs_cons (pg_name (i := 3) nd rfl (by first | exact Or.inl rfl | exact Or.inr rfl)) (pgs_cons (pg_name (i := 4) nd rfl (by first | exact Or.inl rfl | exact Or.inr rfl)) pgs_nil)))) (tg_tup (tgs_cons tg_name (tgs_cons tg_name (tgs_cons tg_name tgs_nil)))))
      (sss_one (ss_ret (se_and (se_chain o_le o_lt se_int (se_var (pv 2)) (se_callB c_len rfl T.b_len PySem.boot_len (sa_cons (se_var (pv 0)) sa_nil))) (se_and (se_cmp (o_in hu65) (se_var (pv 3)) (se_own (so_lst (sa_cons se_int (sa_cons (se_bin o_sub se_int se_int) sa_nil)))) (by rfl)) (se_one (se_cmp o_ge (se_var (pv 4)) se_int (nomark _)))))))))
theorem ok_is_deed (T : Txt K mg xa) : Callee P w K mg base (exOf mg) "is_deed" 2 s_is_deed 2 := by
  obtain ⟨fa, fd, F, hm, hb⟩ := T.f_is_deed
  exact ⟨fa, fd, _, fn_is_deed T F, hm, F.kp, hb⟩
theorem sc_check_row : FnScope ["train", "row", "deed"] ["train", "row"] (defScope (topS 21)) := ⟨rfl, rfl, rfl, by decide +kernel, rfl, by decide +kernel, by decide +kernel⟩
set_option linter.unusedVariables false in
theorem fn_check_row (T : Txt K mg xa) {fa : Addr} {fd : FuncData} (F : Fun K "check_row" "check_row" (topS 21) fa fd) : FnG P w K mg base 3 fa fd ["train", "row"] (spF K (exOf mg) 2 s_check_row) := by
  have nd : (["train", "row", "deed"] : List Str).Nodup := sc_check_row.nd
  refine def_fn (k := 2) (N := ["train", "row", "deed"]) (ps := ["train", "row"]) F sc_check_row fun cdv A outer s H E F0 hr hgd => ?_
  have hu64 : (A.deeper (envOfC "check_row" (defScope (topS 21)) s.heap.objs.size fa cdv)).units + 64 < cLine := hr.units
  have hu65 : (A.deeper (envOfC "check_row" (defScope (topS 21)) s.heap.objs.size fa cdv)).units + 65 < cLine := by have := hr.un; omega
  have pz := L2.passes_of (X := cxOf (L2.CX P w) P w K mg base ["train", "row", "deed"] "check_row" (defScope (topS 21)) fa cdv A outer s H E) rfl
  have tk : Takes (cxOf (L2.CX P w) P w K mg base ["train", "row", "deed"] "check_row" (defScope (topS 21)) fa cdv A outer s H E) (fun c d _ H' => E c d H') := takes_of rfl rfl rfl rfl
  exact (sss_one (ss_if (st_w (sw_or (st_not (st_of (se_isi (T := "list") rfl T.b_isinstance rfl T.b_list PyProof.Rows.boot_list (se_var (pv 1))))) (sw_or1 (st_not (st_of (se_callB (c_all rfl) rfl T.b_all PyProof.Rows.boot_all (sa_cons (se_own (so_lc rfl nd (si_seq (se_var (pv 1))) (blkOk_by (own := [("deed", 2)]) (N := ["train", "row", "deed"]) (sc := defScope (topS 21)) (by decide +kernel)) (ng_name (i := 2) (by simp)) (fun _ _ _ _ _ => (pg_name (i := 2) nd rfl (Or.inl rfl))) (fun _ _ _ _ _ => sts_nil) (fun _ _ _ _ _ => (se_call (ok_is_deed T) takes0 (hr.mono (by decide)) hgd rfl (sa_cons (se_var (pv 0)) (sa_cons (se_var (pv 2)) sa_nil)) rfl (aCons_len (aCons_len aNil_len)))))) sa_nil))))))) (sss_one (ss_raise rfl tk T.x_NoRow rfl)) sss_nil))
theorem ok_check_row (T : Txt K mg xa) : Callee P w K mg base (exOf mg) "check_row" 2 s_check_row 3 := by
  obtain ⟨fa, fd, F, hm, hb⟩ := T.f_check_row
  exact ⟨fa, fd, _, fn_check_row T F, hm, F.kp, hb⟩
theorem sc_marks_met : FnScope ["part", "place", "many", "teeth", "told", "rest", "mark"] ["part", "place", "many"] (defScope (topS 14)) := ⟨rfl, rfl, rfl, by decide +kernel, rfl, by decide +kernel, by decide +kernel⟩
set_option linter.unusedVariables false in
theorem fn_marks_met (T : Txt K mg xa) {fa : Addr} {fd : FuncData} (F : Fun K "marks_met" "marks_met" (topS 14) fa fd) : FnG P w K mg base 1 fa fd ["part", "place", "many"] (spF K (exOf mg) 3 s_marks_met) := by
  have nd : (["part", "place", "many", "teeth", "told", "rest", "mark"] : List Str).Nodup := sc_marks_met.nd
  refine def_fn (k := 0) (N := ["part", "place", "many", "teeth", "told", "rest", "mark"]) (ps := ["part", "place", "many"]) F sc_marks_met fun cdv A outer s H E F0 hr hgd => ?_
  have hu64 : (A.deeper (envOfC "marks_met" (defScope (topS 14)) s.heap.objs.size fa cdv)).units + 64 < cLine := hr.units
  have hu65 : (A.deeper (envOfC "marks_met" (defScope (topS 14)) s.heap.objs.size fa cdv)).units + 65 < cLine := by have := hr.un; omega
  have pz := L2.passes_of (X := cxOf (L2.CX P w) P w K mg base ["part", "place", "many", "teeth", "told", "rest", "mark"] "marks_met" (defScope (topS 14)) fa cdv A outer s H E) rfl
  have tk : Takes (cxOf (L2.CX P w) P w K mg base ["part", "place", "many", "teeth", "told", "rest", "mark"] "marks_met" (defScope (topS 14)) fa cdv A outer s H E) (fun c d _ H' => E c d H') := takes_of rfl rfl rfl rfl
  exact (sss_cons (ss_set (i := 3) nd rfl (by first | exact Or.inl rfl | exact Or.inr rfl) (se_ix (se_var (pv 0)) se_int))
      (sss_cons (ss_set (i := 4) nd rfl (by first | exact Or.inl rfl | exact Or.inr rfl) (se_bin o_mul (se_bin o_div (se_var (pv 2)) (se_var (pv 3))) (se_callB c_len rfl T.b_len PySem.boot_len (sa_cons (se_ix (se_var (pv 0)) se_int) sa_nil))))
      (sss_cons (ss_set (i := 5) nd rfl (by first | exact Or.inl rfl | exact Or.inr rfl) (se_bin o_mod (se_var (pv 2)) (se_var (pv 3))))
      (sss_one (ss_ret (se_bin o_add (se_var (pv 4)) (se_callB c_len rfl T.b_len PySem.boot_len (sa_cons (se_own (so_lc rfl nd (si_seq (se_ix (se_var (pv 0)) se_int)) (blkOk_by (own := [("mark", 6)]) (N := ["part", "place", "many", "teeth", "told", "rest", "mark"]) (sc := defScope (topS 14)) (by decide +kernel)) (ng_name (i := 6) (by simp)) (fun _ _ _ _ _ => (pg_name (i := 6) nd rfl (Or.inl rfl))) (fun _ _ _ _ _ => (sts_one (st_chain o_lt o_le se_int (se_bin o_add (se_bin o_mod (se_bin o_sub (se_bin o_sub (se_var (pv 6)) (se_var (pv 1))) se_int) (se_var (pv 3))) se_int) (se_var (pv 5))))) (fun _ _ _ _ _ => (se_var (pv 6))))) sa_nil))))))))
theorem ok_marks_met (T : Txt K mg xa) : Callee P w K mg base (exOf mg) "marks_met" 3 s_marks_met 1 := by
  obtain ⟨fa, fd, F, hm, hb⟩ := T.f_marks_met
  exact ⟨fa, fd, _, fn_marks_met T F, hm, F.kp, hb⟩
theorem sc_marks_left : FnScope ["part", "place", "many", "teeth", "told", "rest", "mark"] ["part", "place", "many"] (defScope (topS 15)) := ⟨rfl, rfl, rfl, by decide +kernel, rfl, by decide +kernel, by decide +kernel⟩
set_option linter.unusedVariables false in
theorem fn_marks_left (T : Txt K mg xa) {fa : Addr} {fd : FuncData} (F : Fun K "marks_left" "marks_left" (topS 15) fa fd) : FnG P w K mg base 1 fa fd ["part", "place", "many"] (spF K (exOf mg) 3 s_marks_left) := by
  have nd : (["part", "place", "many", "teeth", "told", "rest", "mark"] : List Str).Nodup := sc_marks_left.nd
  refine def_fn (k := 0) (N := ["part", "place", "many", "teeth", "told", "rest", "mark"]) (ps := ["part", "place", "many"]) F sc_marks_left fun cdv A outer s H E F0 hr hgd => ?_
  have hu64 : (A.deeper (envOfC "marks_left" (defScope (topS 15)) s.heap.objs.size fa cdv)).units + 64 < cLine := hr.units
  have hu65 : (A.deeper (envOfC "marks_left" (defScope (topS 15)) s.heap.objs.size fa cdv)).units + 65 < cLine := by have := hr.un; omega
  have pz := L2.passes_of (X := cxOf (L2.CX P w) P w K mg base ["part", "place", "many", "teeth", "told", "rest", "mark"] "marks_left" (defScope (topS 15)) fa cdv A outer s H E) rfl
  have tk : Takes (cxOf (L2.CX P w) P w K mg base ["part", "place", "many", "teeth", "told", "rest", "mark"] "marks_left" (defScope (topS 15)) fa cdv A outer s H E) (fun c d _ H' => E c d H') := takes_of rfl rfl rfl rfl
  exact (sss_cons (ss_set (i := 3) nd rfl (by first | exact Or.inl rfl | exact Or.inr rfl) (se_ix (se_var (pv 0)) se_int))
      (sss_cons (ss_set (i := 4) nd rfl (by first | exact Or.inl rfl | exact Or.inr rfl) (se_bin o_mul (se_bin o_div (se_var (pv 2)) (se_var (pv 3))) (se_callB c_len rfl T.b_len PySem.boot_len (sa_cons (se_ix (se_var (pv 0)) se_int) sa_nil))))
      (sss_cons (ss_set (i := 5) nd rfl (by first | exact Or.inl rfl | exact Or.inr rfl) (se_bin o_mod (se_var (pv 2)) (se_var (pv 3))))
      (sss_one (ss_ret (se_bin o_add (se_var (pv 4)) (se_callB c_len rfl T.b_len PySem.boot_len (sa_cons (se_own (so_lc rfl nd (si_seq (se_ix (se_var (pv 0)) se_int)) (blkOk_by (own := [("mark", 6)]) (N := ["part", "place", "many", "teeth", "told", "rest", "mark"]) (sc := defScope (topS 15)) (by decide +kernel)) (ng_name (i := 6) (by simp)) (fun _ _ _ _ _ => (pg_name (i := 6) nd rfl (Or.inl rfl))) (fun _ _ _ _ _ => (sts_one (st_cmp o_lt (se_bin o_mod (se_bin o_sub (se_var (pv 1)) (se_var (pv 6))) (se_var (pv 3))) (se_var (pv 5)) (nomark _)))) (fun _ _ _ _ _ => (se_var (pv 6))))) sa_nil))))))))
theorem ok_marks_left (T : Txt K mg xa) : Callee P w K mg base (exOf mg) "marks_left" 3 s_marks_left 1 := by
  obtain ⟨fa, fd, F, hm, hb⟩ := T.f_marks_left
  exact ⟨fa, fd, _, fn_marks_left T F, hm, F.kp, hb⟩
theorem sc_part_pushed : FnScope ["part", "place", "way", "many", "given"] ["part", "place", "way", "many"] (defScope (topS 16)) := ⟨rfl, rfl, rfl, by decide +kernel, rfl, by decide +kernel, by decide +kernel⟩
set_option linter.unusedVariables false in
theorem fn_part_pushed (T : Txt K mg xa) {fa : Addr} {fd : FuncData} (F : Fun K "part_pushed" "part_pushed" (topS 16) fa fd) : FnG P w K mg base 2 fa fd ["part", "place", "way", "many"] (spF K (exOf mg) 4 s_part_pushed) := by
  have nd : (["part", "place", "way", "many", "given"] : List Str).Nodup := sc_part_pushed.nd
  refine def_fn (k := 1) (N := ["part", "place", "way", "many", "given"]) (ps := ["part", "place", "way", "many"]) F sc_part_pushed fun cdv A outer s H E F0 hr hgd => ?_
  have hu64 : (A.deeper (envOfC "part_pushed" (defScope (topS 16)) s.heap.objs.size fa cdv)).units + 64 < cLine := hr.units
  have hu65 : (A.deeper (envOfC "part_pushed" (defScope (topS 16)) s.heap.objs.size fa cdv)).units + 65 < cLine := by have := hr.un; omega
  have pz := L2.passes_of (X := cxOf (L2.CX P w) P w K mg base ["part", "place", "way", "many", "given"] "part_pushed" (defScope (topS 16)) fa cdv A outer s H E) rfl
  have tk : Takes (cxOf (L2.CX P w) P w K mg base ["part", "place", "way", "many", "given"] "part_pushed" (defScope (topS 16)) fa cdv A outer s H E) (fun c d _ H' => E c d H') := takes_of rfl rfl rfl rfl
  exact (sss_cons (ss_if (st_cmp (o_eq hu64) (se_ix (se_var (pv 0)) se_int) se_str (nomark _)) (sss_cons (ss_set (i := 4) nd rfl (by first | exact Or.inl rfl | exact Or.inr rfl) (se_call (ok_marks_left T) tk (hr.mono (by decide)) hgd rfl (sa_cons (se_var (pv 0)) (sa_cons (se_var (pv 1)) (sa_cons (se_var (pv 3)) sa_nil))) rfl (aCons_len (aCons_len (aCons_len aNil_len)))))
      (sss_cons (ss_if (st_cmp (o_eq hu64) (se_var (pv 2)) se_int (nomark _)) (sss_one (ss_set (i := 4) nd rfl (by first | exact Or.inl rfl | exact Or.inr rfl) (se_call (ok_marks_met T) tk (hr.mono (by decide)) hgd rfl (sa_cons (se_var (pv 0)) (sa_cons (se_var (pv 1)) (sa_cons (se_var (pv 3)) sa_nil))) rfl (aCons_len (aCons_len (aCons_len aNil_len)))))) sss_nil)
      (sss_one (ss_ret (se_tup (sa_cons (se_bin o_mod (se_bin o_add (se_var (pv 1)) (se_bin o_mul (se_var (pv 2)) (se_var (pv 3)))) (se_ix (se_var (pv 0)) se_int)) (sa_cons (se_var (pv 4)) sa_nil))))))) sss_nil)
      (sss_cons (ss_if (st_cmp (o_eq hu64) (se_ix (se_var (pv 0)) se_int) se_str (nomark _)) (sss_one (ss_ret (se_tup (sa_cons se_int (sa_cons (se_bin o_mul (se_var (pv 3)) (se_callTy c_int rfl T.b_int PyProof.Rows.boot_int (sa_cons (se_cmp (o_eq hu64) (se_var (pv 2)) se_int (nomark _)) sa_nil))) sa_nil))))) sss_nil)
      (sss_cons (ss_if (st_cmp (o_eq hu64) (se_ix (se_var (pv 0)) se_int) se_str (nomark _)) (sss_cons (ss_if (st_cmp (o_eq hu64) (se_var (pv 3)) se_int (nomark _)) (sss_one (ss_ret (se_tup (sa_cons (se_var (pv 1)) (sa_cons se_int sa_nil))))) sss_nil)
      (sss_one (ss_ret (se_tup (sa_cons (se_callTy c_int rfl T.b_int PyProof.Rows.boot_int (sa_cons (se_cmp (o_eq hu64) (se_var (pv 2)) se_int (nomark _)) sa_nil)) (sa_cons (se_callTy c_int rfl T.b_int PyProof.Rows.boot_int (sa_cons (se_and (se_cmp (o_eq hu64) (se_var (pv 2)) se_int (nomark _)) (se_one (se_cmp (o_eq hu64) (se_var (pv 1)) se_int (nomark _)))) sa_nil)) sa_nil)))))) sss_nil)
      (sss_cons (ss_if (st_cmp (o_eq hu64) (se_var (pv 2)) se_int (nomark _)) (sss_one (ss_ret (se_tup (sa_cons (se_bin o_mod (se_bin o_add (se_var (pv 1)) (se_var (pv 3))) (se_ix (se_var (pv 0)) se_int)) (sa_cons (se_bin o_div (se_bin o_add (se_var (pv 1)) (se_var (pv 3))) (se_ix (se_var (pv 0)) se_int)) sa_nil))))) sss_nil)
      (sss_one (ss_ret (se_tup (sa_cons (se_callB (c_max rfl) rfl T.b_max PyProof.Rows.boot_max (sa_cons se_int (sa_cons (se_bin o_sub (se_var (pv 1)) (se_var (pv 3))) sa_nil))) (sa_cons se_int sa_nil)))))))))
theorem ok_part_pushed (T : Txt K mg xa) : Callee P w K mg base (exOf mg) "part_pushed" 4 s_part_pushed 2 := by
  obtain ⟨fa, fd, F, hm, hb⟩ := T.f_part_pushed
  exact ⟨fa, fd, _, fn_part_pushed T F, hm, F.kp, hb⟩
theorem sc_pushed_often : FnScope ["train", "stand", "i", "way", "many", "told", "at"] ["train", "stand", "i", "way", "many"] (defScope (topS 17)) := ⟨rfl, rfl, rfl, by decide +kernel, rfl, by decide +kernel, by decide +kernel⟩
set_option linter.unusedVariables false in
theorem fn_pushed_often (T : Txt K mg xa) {fa : Addr} {fd : FuncData} (F : Fun K "pushed_often" "pushed_often" (topS 17) fa fd) : FnG P w K mg base 3 fa fd ["train", "stand", "i", "way", "many"] (spF K (exOf mg) 5 s_pushed_often) := by
  have nd : (["train", "stand", "i", "way", "many", "told", "at"] : List Str).Nodup := sc_pushed_often.nd
  refine def_fn (k := 2) (N := ["train", "stand", "i", "way", "many", "told", "at"]) (ps := ["train", "stand", "i", "way", "many"]) F sc_pushed_often fun cdv A outer s H E F0 hr hgd => ?_
  have hu64 : (A.deeper (envOfC "pushed_often" (defScope (topS 17)) s.heap.objs.size fa cdv)).units + 64 < cLine := hr.units
  have hu65 : (A.deeper (envOfC "pushed_often" (defScope (topS 17)) s.heap.objs.size fa cdv)).units + 65 < cLine := by have := hr.un; omega
  have pz := L2.passes_of (X := cxOf (L2.CX P w) P w K mg base ["train", "stand", "i", "way", "many", "told", "at"] "pushed_often" (defScope (topS 17)) fa cdv A outer s H E) rfl
  have tk : Takes (cxOf (L2.CX P w) P w K mg base ["train", "stand", "i", "way", "many", "told", "at"] "pushed_often" (defScope (topS 17)) fa cdv A outer s H E) (fun c d _ H' => E c d H') := takes_of rfl rfl rfl rfl
  exact (sss_cons (ss_setO (i := 5) nd rfl (by first | exact Or.inl rfl | exact Or.inr rfl) (so_list rfl T.b_list (sa_cons (se_var (pv 1)) sa_nil)))
      (sss_cons (ss_for (vs := [6]) pz rfl (si_rng2 rfl T.b_range (sa_cons (se_var (pv 2)) (sa_cons (se_callB c_len rfl T.b_len PySem.boot_len (sa_cons (se_var (pv 0)) sa_nil)) sa_nil))) (pg_name (i := 6) nd rfl (by first | exact Or.inl rfl | exact Or.inr rfl)) (ng_name (i := 6) (by simp)) (sss_one (ss_asg (se_call (ok_part_pushed T) tk (hr.mono (by decide)) hgd rfl (sa_cons (se_ix (se_var (pv 0)) (se_var (pv 6))) (sa_cons (se_ix (se_var (pv 5)) (se_var (pv 6))) (sa_cons (se_var (pv 3)) (sa_cons (se_var (pv 4)) sa_nil)))) rfl (aCons_len (aCons_len (aCons_len (aCons_len aNil_len))))) (pg_tup rfl (pgs_cons (pg_sub (pv 5) (se_var (pv 6)) set_list) (pgs_cons (pg_name (i := 4) nd rfl (by first | exact Or.inl rfl | exact Or.inr rfl)) pgs_nil))) (tg_tup (tgs_cons (tg_sub (W := WF)) (tgs_cons tg_name tgs_nil))))))
      (sss_one (ss_ret (se_tup (sa_cons (se_callTy c_tuple rfl T.b_tuple PyProof.Rows.boot_tuple (sa_cons (se_var (pv 5)) sa_nil)) (sa_cons (se_bin o_mul (se_var (pv 3)) (se_var (pv 4))) sa_nil)))))))
theorem ok_pushed_often (T : Txt K mg xa) : Callee P w K mg base (exOf mg) "pushed_often" 5 s_pushed_often 3 := by
  obtain ⟨fa, fd, F, hm, hb⟩ := T.f_pushed_often
  exact ⟨fa, fd, _, fn_pushed_often T F, hm, F.kp, hb⟩
theorem sc_walked : FnScope ["train", "stand", "row", "shown", "i", "way", "times", "more"] ["train", "stand", "row"] (defScope (topS 22)) := ⟨rfl, rfl, rfl, by decide +kernel, rfl, by decide +kernel, by decide +kernel⟩
set_option linter.unusedVariables false in
theorem fn_walked (T : Txt K mg xa) {fa : Addr} {fd : FuncData} (F : Fun K "walked" "walked" (topS 22) fa fd) : FnG P w K mg base 4 fa fd ["train", "stand", "row"] (spF K (exOf mg) 3 s_walked) := by
  have nd : (["train", "stand", "row", "shown", "i", "way", "times", "more"] : List Str).Nodup := sc_walked.nd
  refine def_fn (k := 3) (N := ["train", "stand", "row", "shown", "i", "way", "times", "more"]) (ps := ["train", "stand", "row"]) F sc_walked fun cdv A outer s H E F0 hr hgd => ?_
  have hu64 : (A.deeper (envOfC "walked" (defScope (topS 22)) s.heap.objs.size fa cdv)).units + 64 < cLine := hr.units
  have hu65 : (A.deeper (envOfC "walked" (defScope (topS 22)) s.heap.objs.size fa cdv)).units + 65 < cLine := by have := hr.un; omega
  have pz := L2.passes_of (X := cxOf (L2.CX P w) P w K mg base ["train", "stand", "row", "shown", "i", "way", "times", "more"] "walked" (defScope (topS 22)) fa cdv A outer s H E) rfl
  have tk : Takes (cxOf (L2.CX P w) P w K mg base ["train", "stand", "row", "shown", "i", "way", "times", "more"] "walked" (defScope (topS 22)) fa cdv A outer s H E) (fun c d _ H' => E c d H') := takes_of rfl rfl rfl rfl
  exact (sss_cons (ss_set (i := 3) nd rfl (by first | exact Or.inl rfl | exact Or.inr rfl) se_int)
      (sss_cons (ss_for (vs := [4, 5, 6]) pz rfl (si_seq (se_var (pv 2))) (pg_tup rfl (pgs_cons (pg_name (i := 4) nd rfl (by first | exact Or.inl rfl | exact Or.inr rfl)) (pgs_cons (pg_name (i := 5) nd rfl (by first | exact Or.inl rfl | exact Or.inr rfl)) (pgs_cons (pg_name (i := 6) nd rfl (by first | exact Or.inl rfl | exact Or.inr rfl)) pgs_nil)))) (ng_tup (ngs_cons (ng_name (i := 4) (by simp)) (ngs_cons (ng_name (i := 5) (by simp)) (ngs_cons (ng_name (i := 6) (by simp)) ngs_nil)))) (sss_cons (ss_asg (se_call (ok_pushed_often T) tk (hr.mono (by decide)) hgd rfl (sa_cons (se_var (pv 0)) (sa_cons (se_var (pv 1)) (sa_cons (se_var (pv 4)) (sa_cons (se_var (pv 5)) (sa_cons (se_var (pv 6)) sa_nil))))) rfl (aCons_len (aCons_len (aCons_len (aCons_len (aCons_len aNil_len)))))) (pg_tup rfl (pgs_cons (pg_name (i := 1) nd rfl (by first | exact Or.inl rfl | exact Or.inr rfl)) (pgs_cons (pg_name (i := 7) nd rfl (by first | exact Or.inl rfl | exact Or.inr rfl)) pgs_nil))) (tg_tup (tgs_cons tg_name (tgs_cons tg_name tgs_nil))))
      (sss_one (ss_aug (i := 3) nd rfl (by first | exact Or.inl rfl | exact Or.inr rfl) (se_var (pv 7))))))
      (sss_one (ss_ret (se_tup (sa_cons (se_var (pv 1)) (sa_cons (se_var (pv 3)) sa_nil)))))))
theorem ok_walked (T : Txt K mg xa) : Callee P w K mg base (exOf mg) "walked" 3 s_walked 4 := by
  obtain ⟨fa, fd, F, hm, hb⟩ := T.f_walked
  exact ⟨fa, fd, _, fn_walked T F, hm, F.kp, hb⟩
theorem sc_common : FnScope ["one", "other"] ["one", "other"] (defScope (topS 27)) := ⟨rfl, rfl, rfl, by decide +kernel, rfl, by decide +kernel, by decide +kernel⟩
set_option linter.unusedVariables false in
theorem fn_common (T : Txt K mg xa) {fa : Addr} {fd : FuncData} (F : Fun K "common" "common" (topS 27) fa fd) : FnG P w K mg base 1 fa fd ["one", "other"] (spF K (exOf mg) 2 s_common) := by
  have nd : (["one", "other"] : List Str).Nodup := sc_common.nd
  refine def_fn (k := 0) (N := ["one", "other"]) (ps := ["one", "other"]) F sc_common fun cdv A outer s H E F0 hr hgd => ?_
  have hu64 : (A.deeper (envOfC "common" (defScope (topS 27)) s.heap.objs.size fa cdv)).units + 64 < cLine := hr.units
  have hu65 : (A.deeper (envOfC "common" (defScope (topS 27)) s.heap.objs.size fa cdv)).units + 65 < cLine := by have := hr.un; omega
  have pz := L2.passes_of (X := cxOf (L2.CX P w) P w K mg base ["one", "other"] "common" (defScope (topS 27)) fa cdv A outer s H E) rfl
  have tk : Takes (cxOf (L2.CX P w) P w K mg base ["one", "other"] "common" (defScope (topS 27)) fa cdv A outer s H E) (fun c d _ H' => E c d H') := takes_of rfl rfl rfl rfl
  exact (sss_cons (ss_while pz (st_cmp (o_ne hu64) (se_var (pv 1)) se_int (nomark _)) (sss_one (ss_par (i := 0) (j := 1) rfl nd rfl rfl (by decide) rfl rfl (se_var (pv 1)) (se_bin o_mod (se_var (pv 0)) (se_var (pv 1))) (by rfl))))
      (sss_one (ss_ret (se_var (pv 0)))))
theorem ok_common (T : Txt K mg xa) : Callee P w K mg base (exOf mg) "common" 2 s_common 1 := by
  obtain ⟨fa, fd, F, hm, hb⟩ := T.f_common
  exact ⟨fa, fd, _, fn_common T F, hm, F.kp, hb⟩
theorem sc_tail_and_round : FnScope ["after", "known", "start", "met", "row", "at", "tail", "many", "one"] ["after", "known", "start"] (defScope (topS 28)) := ⟨rfl, rfl, rfl, by decide +kernel, rfl, by decide +kernel, by decide +kernel⟩
set_option linter.unusedVariables false in
theorem fn_tail_and_round (T : Txt K mg xa) {fa : Addr} {fd : FuncData} (F : Fun K "tail_and_round" "tail_and_round" (topS 28) fa fd) : FnG P w K mg base 1 fa fd ["after", "known", "start"] (spB K 1 s_tail_and_round) := by
  have nd : (["after", "known", "start", "met", "row", "at", "tail", "many", "one"] : List Str).Nodup := sc_tail_and_round.nd
  refine def_fnB (k := 0) (N := ["after", "known", "start", "met", "row", "at", "tail", "many", "one"]) (ps := ["after", "known", "start"]) (n := 1) (ex := exOf mg) F sc_tail_and_round rfl fun cdv A outer s H E F0 H0 hr hgd => ?_
  have hu64 : (A.deeper (envOfC "tail_and_round" (defScope (topS 28)) s.heap.objs.size fa cdv)).units + 64 < cLine := hr.units
  have hu65 : (A.deeper (envOfC "tail_and_round" (defScope (topS 28)) s.heap.objs.size fa cdv)).units + 65 < cLine := by have := hr.un; omega
  have pz := L2.passes_of (X := (cxOf (L2.CX P w) P w K mg base ["after", "known", "start", "met", "row", "at", "tail", "many", "one"] "tail_and_round" (defScope (topS 28)) fa cdv A outer s H E)) rfl
  have tk : Takes (cxOf (L2.CX P w) P w K mg base ["after", "known", "start", "met", "row", "at", "tail", "many", "one"] "tail_and_round" (defScope (topS 28)) fa cdv A outer s H E) (fun c d _ H' => E c d H') := takes_of rfl rfl rfl rfl
  exact (sb_cons (W := fun c d _ H' => E c d H') (ss_newD (i := 3) nd rfl (by first | exact Or.inl rfl | exact Or.inr rfl))
      (sb_cons (W := fun c d _ H' => E c d H') (ss_setO (i := 4) nd rfl (by first | exact Or.inl rfl | exact Or.inr rfl) (so_lst sa_nil))
      (sb_cons (W := fun c d _ H' => E c d H') (ss_set (i := 5) nd rfl (by first | exact Or.inl rfl | exact Or.inr rfl) (se_var (pv 2)))
      (sb_cons (W := fun c d _ H' => E c d H') (ss_while pz (st_w (sw_and (st_notInD hu65 (pv 3) (se_var (pv 5))) (sw_and1 (st_notInD hu65 (pv 1) (se_var (pv 5)))))) (sss_cons (ss_putD hu65 (pv 3) (se_var (pv 5)) (se_lenD rfl T.b_len (pv 3)))
      (sss_cons (ss_app (pv 4) (se_var (pv 5)))
      (sss_one (ss_set (i := 5) nd rfl (by first | exact Or.inl rfl | exact Or.inr rfl) (se_getD hu65 (pv 0) (se_var (pv 5))))))))
      (sb_cons (W := fun c d _ H' => E c d H') (ss_if (st_inD hu65 (pv 1) (se_var (pv 5))) (sss_one (ss_asg (se_getD hu65 (pv 1) (se_var (pv 5))) (pg_tup rfl (pgs_cons (pg_name (i := 6) nd rfl (by first | exact Or.inl rfl | exact Or.inr rfl)) (pgs_cons (pg_name (i := 7) nd rfl (by first | exact Or.inl rfl | exact Or.inr rfl)) pgs_nil))) (tg_tup (tgs_cons tg_name (tgs_cons tg_name tgs_nil))))) (sss_cons (ss_set (i := 6) nd rfl (by first | exact Or.inl rfl | exact Or.inr rfl) se_int)
      (sss_cons (ss_set (i := 7) nd rfl (by first | exact Or.inl rfl | exact Or.inr rfl) (se_bin o_sub (se_lenD rfl T.b_len (pv 3)) (se_getD hu65 (pv 3) (se_var (pv 5)))))
      (sss_cons (ss_freeze (i := 4) (ss_for (vs := [8]) pz rfl (si_seq (se_cut (se_var (pv 4)) (sp_so (se_getD hu65 (pv 3) (se_var (pv 5)))) sp_no)) (pg_name (i := 8) nd rfl (by first | exact Or.inl rfl | exact Or.inr rfl)) (ng_name (i := 8) (by simp)) (sss_one (ss_putD hu65 (pv 1) (se_var (pv 8)) (se_tup (sa_cons se_int (sa_cons (se_var (pv 7)) sa_nil)))))))
      (sss_one (ss_setO (i := 4) nd rfl (by first | exact Or.inl rfl | exact Or.inr rfl) (so_cut (se_var (pv 4)) sp_no (sp_so (se_getD hu65 (pv 3) (se_var (pv 5)))))))))))
      (sb_cons (W := fun c d _ H' => E c d H') (ss_freeze (i := 4) (ss_for (vs := [8]) pz rfl (si_rev rfl T.b_reversed (se_var (pv 4))) (pg_name (i := 8) nd rfl (by first | exact Or.inl rfl | exact Or.inr rfl)) (ng_name (i := 8) (by simp)) (sss_cons (ss_aug (i := 6) nd rfl (by first | exact Or.inl rfl | exact Or.inr rfl) se_int)
      (sss_one (ss_putD hu65 (pv 1) (se_var (pv 8)) (se_tup (sa_cons (se_var (pv 6)) (sa_cons (se_var (pv 7)) sa_nil))))))))
      (sb_ret (W := fun c d _ H' => E c d H') (se_getD hu65 (pv 1) (se_var (pv 2))))))))))
theorem ok_tail_and_round (T : Txt K mg xa) : CalleeB P w K mg base "tail_and_round" 1 s_tail_and_round 1 := by
  obtain ⟨fa, fd, F, hm, hb⟩ := T.f_tail_and_round
  exact ⟨fa, fd, _, fn_tail_and_round T F, hm, F.kp, hb⟩
theorem sc_row_round : FnScope ["train", "row", "after", "stand", "ahead", "told", "known", "tail", "many"] ["train", "row"] (defScope (topS 29)) := ⟨rfl, rfl, rfl, by decide +kernel, rfl, by decide +kernel, by decide +kernel⟩
set_option linter.unusedVariables false in
theorem fn_row_round (T : Txt K mg xa) {fa : Addr} {fd : FuncData} (F : Fun K "row_round" "row_round" (topS 29) fa fd) : FnG P w K mg base 6 fa fd ["train", "row"] (spF K (exOf mg) 2 s_row_round) := by
  have nd : (["train", "row", "after", "stand", "ahead", "told", "known", "tail", "many"] : List Str).Nodup := sc_row_round.nd
  refine def_fn (k := 5) (N := ["train", "row", "after", "stand", "ahead", "told", "known", "tail", "many"]) (ps := ["train", "row"]) F sc_row_round fun cdv A outer s H E F0 hr hgd => ?_
  have hu64 : (A.deeper (envOfC "row_round" (defScope (topS 29)) s.heap.objs.size fa cdv)).units + 64 < cLine := hr.units
  have hu65 : (A.deeper (envOfC "row_round" (defScope (topS 29)) s.heap.objs.size fa cdv)).units + 65 < cLine := by have := hr.un; omega
  have pz := L2.passes_of (X := cxOf (L2.CX P w) P w K mg base ["train", "row", "after", "stand", "ahead", "told", "known", "tail", "many"] "row_round" (defScope (topS 29)) fa cdv A outer s H E) rfl
  have tk : Takes (cxOf (L2.CX P w) P w K mg base ["train", "row", "after", "stand", "ahead", "told", "known", "tail", "many"] "row_round" (defScope (topS 29)) fa cdv A outer s H E) (fun c d _ H' => E c d H') := takes_of rfl rfl rfl rfl
  exact (sss_cons (ss_exp (se_call (ok_check_train T) tk (hr.mono (by decide)) hgd rfl (sa_cons (se_var (pv 0)) sa_nil) rfl (aCons_len aNil_len)))
      (sss_cons (ss_exp (se_call (ok_check_row T) tk (hr.mono (by decide)) hgd rfl (sa_cons (se_var (pv 0)) (sa_cons (se_var (pv 1)) sa_nil)) rfl (aCons_len (aCons_len aNil_len))))
      (sss_cons (ss_newD (i := 2) nd rfl (by first | exact Or.inl rfl | exact Or.inr rfl))
      (sss_cons (ss_for (vs := [3]) pz rfl (si_seq (se_call (ok_stands_of T) tk (hr.mono (by decide)) hgd rfl (sa_cons (se_var (pv 0)) sa_nil) rfl (aCons_len aNil_len))) (pg_name (i := 3) nd rfl (by first | exact Or.inl rfl | exact Or.inr rfl)) (ng_name (i := 3) (by simp)) (sss_one (ss_putD hu65 (pv 2) (se_var (pv 3)) (se_ix (se_call (ok_walked T) tk (hr.mono (by decide)) hgd rfl (sa_cons (se_var (pv 0)) (sa_cons (se_var (pv 3)) (sa_cons (se_var (pv 1)) sa_nil))) rfl (aCons_len (aCons_len (aCons_len aNil_len)))) se_int))))
      (sss_cons (ss_set (i := 4) nd rfl (by first | exact Or.inl rfl | exact Or.inr rfl) se_int)
      (sss_cons (ss_set (i := 5) nd rfl (by first | exact Or.inl rfl | exact Or.inr rfl) se_int)
      (sss_cons (ss_newD (i := 6) nd rfl (by first | exact Or.inl rfl | exact Or.inr rfl))
      (sss_cons (ss_keysD (i := 2) (vs := [3]) pz rfl (pv 2) (pg_name (i := 3) nd rfl (by first | exact Or.inl rfl | exact Or.inr rfl)) (ng_name (i := 3) (by simp)) (sss_cons (ss_asgB (i := 2) (j := 6) (ok_tail_and_round T) tk (hr.mono (by decide)) hgd rfl (pv 2) (pv 6) (sa_cons (se_var (pv 3)) sa_nil) (aCons_len aNil_len) (pg_tup rfl (pgs_cons (pg_name (i := 7) nd rfl (by first | exact Or.inl rfl | exact Or.inr rfl)) (pgs_cons (pg_name (i := 8) nd rfl (by first | exact Or.inl rfl | exact Or.inr rfl)) pgs_nil))) (tg_tup (tgs_cons tg_name (tgs_cons tg_name tgs_nil))))
      (sss_cons (ss_set (i := 4) nd rfl (by first | exact Or.inl rfl | exact Or.inr rfl) (se_callB (c_max rfl) rfl T.b_max PyProof.Rows.boot_max (sa_cons (se_var (pv 4)) (sa_cons (se_var (pv 7)) sa_nil))))
      (sss_one (ss_set (i := 5) nd rfl (by first | exact Or.inl rfl | exact Or.inr rfl) (se_bin o_div (se_bin o_mul (se_var (pv 5)) (se_var (pv 8))) (se_call (ok_common T) tk (hr.mono (by decide)) hgd rfl (sa_cons (se_var (pv 5)) (sa_cons (se_var (pv 8)) sa_nil)) rfl (aCons_len (aCons_len aNil_len)))))))))
      (sss_one (ss_ret (se_tup (sa_cons (se_var (pv 4)) (sa_cons (se_var (pv 5)) sa_nil)))))))))))))
theorem ok_row_round (T : Txt K mg xa) : Callee P w K mg base (exOf mg) "row_round" 2 s_row_round 6 := by
  obtain ⟨fa, fd, F, hm, hb⟩ := T.f_row_round
  exact ⟨fa, fd, _, fn_row_round T F, hm, F.kp, hb⟩
theorem sc_is_stand : FnScope ["train", "thing", "part", "place"] ["train", "thing"] (defScope (topS 12)) := ⟨rfl, rfl, rfl, by decide +kernel, rfl, by decide +kernel, by decide +kernel⟩
set_option linter.unusedVariables false in
theorem fn_is_stand (T : Txt K mg xa) {fa : Addr} {fd : FuncData} (F : Fun K "is_stand" "is_stand" (topS 12) fa fd) : FnG P w K mg base 2 fa fd ["train", "thing"] (spF K (exOf mg) 2 s_is_stand) := by
  have nd : (["train", "thing", "part", "place"] : List Str).Nodup := sc_is_stand.nd
  refine def_fn (k := 1) (N := ["train", "thing", "part", "place"]) (ps := ["train", "thing"]) F sc_is_stand fun cdv A outer s H E F0 hr hgd => ?_
  have hu64 : (A.deeper (envOfC "is_stand" (defScope (topS 12)) s.heap.objs.size fa cdv)).units + 64 < cLine := hr.units
  have hu65 : (A.deeper (envOfC "is_stand" (defScope (topS 12)) s.heap.objs.size fa cdv)).units + 65 < cLine := by have := hr.un; omega
  have pz := L2.passes_of (X := cxOf (L2.CX P w) P w K mg base ["train", "thing", "part", "place"] "is_stand" (defScope (topS 12)) fa cdv A outer s H E) rfl
  have tk : Takes (cxOf (L2.CX P w) P w K mg base ["train", "thing", "part", "place"] "is_stand" (defScope (topS 12)) fa cdv A outer s H E) (fun c d _ H' => E c d H') := takes_of rfl rfl rfl rfl
  exact (sss_cons (ss_if (st_w (sw_or (st_not (st_of (se_isi (T := "tuple") rfl T.b_isinstance rfl T.b_tuple PyProof.Rows.boot_tuple (se_var (pv 1))))) (sw_or1 (st_cmp (o_ne hu64) (se_callB c_len rfl T.b_len PySem.boot_len (sa_cons (se_var (pv 1)) sa_nil)) (se_callB c_len rfl T.b_len PySem.boot_len (sa_cons (se_var (pv 0)) sa_nil)) (nomark _))))) (sss_one (ss_ret se_bl)) sss_nil)
      (sss_one (ss_ret (se_callB (c_all rfl) rfl T.b_all PyProof.Rows.boot_all (sa_cons (se_own (so_lc rfl nd (si_zip rfl T.b_zip (sa_cons (se_var (pv 0)) (sa_cons (se_var (pv 1)) sa_nil))) (blkOk_by (own := [("part", 2), ("place", 3)]) (N := ["train", "thing", "part", "place"]) (sc := defScope (topS 12)) (by decide +kernel)) (ng_tup (ngs_cons (ng_name (i := 2) (by simp)) (ngs_cons (ng_name (i := 3) (by simp)) ngs_nil))) (fun _ _ _ _ _ => (pg_tup rfl (pgs_cons (pg_name (i := 2) nd rfl (Or.inl rfl)) (pgs_cons (pg_name (i := 3) nd rfl (Or.inl rfl)) pgs_nil)))) (fun _ _ _ _ _ => sts_nil) (fun _ _ _ _ _ => (se_and (se_call (ok_is_whole T) takes0 (hr.mono (by decide)) hgd rfl (sa_cons (se_var (pv 3)) sa_nil) rfl (aCons_len aNil_len)) (se_one (se_chain o_le o_lt se_int (se_var (pv 3)) (se_call (ok_places T) takes0 (hr.mono (by decide)) hgd rfl (sa_cons (se_var (pv 2)) sa_nil) rfl (aCons_len aNil_len)))))))) sa_nil)))))
theorem ok_is_stand (T : Txt K mg xa) : Callee P w K mg base (exOf mg) "is_stand" 2 s_is_stand 2 := by
  obtain ⟨fa, fd, F, hm, hb⟩ := T.f_is_stand
  exact ⟨fa, fd, _, fn_is_stand T F, hm, F.kp, hb⟩
theorem sc_check_stand : FnScope ["train", "stand"] ["train", "stand"] (defScope (topS 13)) := ⟨rfl, rfl, rfl, by decide +kernel, rfl, by decide +kernel, by decide +kernel⟩
set_option linter.unusedVariables false in
theorem fn_check_stand (T : Txt K mg xa) {fa : Addr} {fd : FuncData} (F : Fun K "check_stand" "check_stand" (topS 13) fa fd) : FnG P w K mg base 5 fa fd ["train", "stand"] (spF K (exOf mg) 2 s_check_stand) := by
  have nd : (["train", "stand"] : List Str).Nodup := sc_check_stand.nd
  refine def_fn (k := 4) (N := ["train", "stand"]) (ps := ["train", "stand"]) F sc_check_stand fun cdv A outer s H E F0 hr hgd => ?_
  have hu64 : (A.deeper (envOfC "check_stand" (defScope (topS 13)) s.heap.objs.size fa cdv)).units + 64 < cLine := hr.units
  have hu65 : (A.deeper (envOfC "check_stand" (defScope (topS 13)) s.heap.objs.size fa cdv)).units + 65 < cLine := by have := hr.un; omega
  have pz := L2.passes_of (X := cxOf (L2.CX P w) P w K mg base ["train", "stand"] "check_stand" (defScope (topS 13)) fa cdv A outer s H E) rfl
  have tk : Takes (cxOf (L2.CX P w) P w K mg base ["train", "stand"] "check_stand" (defScope (topS 13)) fa cdv A outer s H E) (fun c d _ H' => E c d H') := takes_of rfl rfl rfl rfl
  exact (sss_cons (ss_exp (se_call (ok_check_train T) tk (hr.mono (by decide)) hgd rfl (sa_cons (se_var (pv 0)) sa_nil) rfl (aCons_len aNil_len)))
      (sss_one (ss_if (st_not (st_of (se_call (ok_is_stand T) tk (hr.mono (by decide)) hgd rfl (sa_cons (se_var (pv 0)) (sa_cons (se_var (pv 1)) sa_nil)) rfl (aCons_len (aCons_len aNil_len))))) (sss_one (ss_raise rfl tk T.x_NoStand rfl)) sss_nil)))
theorem ok_check_stand (T : Txt K mg xa) : Callee P w K mg base (exOf mg) "check_stand" 2 s_check_stand 5 := by
  obtain ⟨fa, fd, F, hm, hb⟩ := T.f_check_stand
  exact ⟨fa, fd, _, fn_check_stand T F, hm, F.kp, hb⟩
theorem sc_left_often : FnScope ["train", "stand", "row", "times", "met", "sums", "shown", "more", "ahead", "circle", "rest", "whole", "at", "one", "place"] ["train", "stand", "row", "times"] (defScope (topS 24)) := ⟨rfl, rfl, rfl, by decide +kernel, rfl, by decide +kernel, by decide +kernel⟩
set_option linter.unusedVariables false in
theorem fn_left_often (T : Txt K mg xa) {fa : Addr} {fd : FuncData} (F : Fun K "left_often" "left_often" (topS 24) fa fd) : FnG P w K mg base 6 fa fd ["train", "stand", "row", "times"] (spF K (exOf mg) 4 s_left_often) := by
  have nd : (["train", "stand", "row", "times", "met", "sums", "shown", "more", "ahead", "circle", "rest", "whole", "at", "one", "place"] : List Str).Nodup := sc_left_often.nd
  refine def_fn (k := 5) (N := ["train", "stand", "row", "times", "met", "sums", "shown", "more", "ahead", "circle", "rest", "whole", "at", "one", "place"]) (ps := ["train", "stand", "row", "times"]) F sc_left_often fun cdv A outer s H E F0 hr hgd => ?_
  have hu64 : (A.deeper (envOfC "left_often" (defScope (topS 24)) s.heap.objs.size fa cdv)).units + 64 < cLine := hr.units
  have hu65 : (A.deeper (envOfC "left_often" (defScope (topS 24)) s.heap.objs.size fa cdv)).units + 65 < cLine := by have := hr.un; omega
  have pz := L2.passes_of (X := cxOf (L2.CX P w) P w K mg base ["train", "stand", "row", "times", "met", "sums", "shown", "more", "ahead", "circle", "rest", "whole", "at", "one", "place"] "left_often" (defScope (topS 24)) fa cdv A outer s H E) rfl
  have tk : Takes (cxOf (L2.CX P w) P w K mg base ["train", "stand", "row", "times", "met", "sums", "shown", "more", "ahead", "circle", "rest", "whole", "at", "one", "place"] "left_often" (defScope (topS 24)) fa cdv A outer s H E) (fun c d _ H' => E c d H') := takes_of rfl rfl rfl rfl
  exact (sss_cons (ss_exp (se_call (ok_check_stand T) tk (hr.mono (by decide)) hgd rfl (sa_cons (se_var (pv 0)) (sa_cons (se_var (pv 1)) sa_nil)) rfl (aCons_len (aCons_len aNil_len))))
      (sss_cons (ss_exp (se_call (ok_check_row T) tk (hr.mono (by decide)) hgd rfl (sa_cons (se_var (pv 0)) (sa_cons (se_var (pv 2)) sa_nil)) rfl (aCons_len (aCons_len aNil_len))))
      (sss_cons (ss_if (st_w (sw_or (st_not (st_of (se_call (ok_is_whole T) tk (hr.mono (by decide)) hgd rfl (sa_cons (se_var (pv 3)) sa_nil) rfl (aCons_len aNil_len)))) (sw_or1 (st_cmp o_lt (se_var (pv 3)) se_int (nomark _))))) (sss_one (ss_raise rfl tk T.x_NoCount rfl)) sss_nil)
      (sss_cons (ss_newD (i := 4) nd rfl (by first | exact Or.inl rfl | exact Or.inr rfl))
      (sss_cons (ss_setO (i := 5) nd rfl (by first | exact Or.inl rfl | exact Or.inr rfl) (so_lst sa_nil))
      (sss_cons (ss_set (i := 6) nd rfl (by first | exact Or.inl rfl | exact Or.inr rfl) se_int)
      (sss_cons (ss_while pz (st_w (sw_and (st_notInD hu65 (pv 4) (se_var (pv 1))) (sw_and1 (st_cmp o_lt (se_callB c_len rfl T.b_len PySem.boot_len (sa_cons (se_var (pv 5)) sa_nil)) (se_var (pv 3)) (nomark _))))) (sss_cons (ss_putD hu65 (pv 4) (se_var (pv 1)) (se_callB c_len rfl T.b_len PySem.boot_len (sa_cons (se_var (pv 5)) sa_nil)))
      (sss_cons (ss_app (pv 5) (se_var (pv 6)))
      (sss_cons (ss_asg (se_call (ok_walked T) tk (hr.mono (by decide)) hgd rfl (sa_cons (se_var (pv 0)) (sa_cons (se_var (pv 1)) (sa_cons (se_var (pv 2)) sa_nil))) rfl (aCons_len (aCons_len (aCons_len aNil_len)))) (pg_tup rfl (pgs_cons (pg_name (i := 1) nd rfl (by first | exact Or.inl rfl | exact Or.inr rfl)) (pgs_cons (pg_name (i := 7) nd rfl (by first | exact Or.inl rfl | exact Or.inr rfl)) pgs_nil))) (tg_tup (tgs_cons tg_name (tgs_cons tg_name tgs_nil))))
      (sss_one (ss_aug (i := 6) nd rfl (by first | exact Or.inl rfl | exact Or.inr rfl) (se_var (pv 7))))))))
      (sss_cons (ss_if (st_notInD hu65 (pv 4) (se_var (pv 1))) (sss_one (ss_ret (se_tup (sa_cons (se_var (pv 1)) (sa_cons (se_var (pv 6)) sa_nil))))) sss_nil)
      (sss_cons (ss_set (i := 8) nd rfl (by first | exact Or.inl rfl | exact Or.inr rfl) (se_getD hu65 (pv 4) (se_var (pv 1))))
      (sss_cons (ss_set (i := 9) nd rfl (by first | exact Or.inl rfl | exact Or.inr rfl) (se_bin o_sub (se_callB c_len rfl T.b_len PySem.boot_len (sa_cons (se_var (pv 5)) sa_nil)) (se_var (pv 8))))
      (sss_cons (ss_set (i := 10) nd rfl (by first | exact Or.inl rfl | exact Or.inr rfl) (se_bin o_sub (se_var (pv 3)) (se_callB c_len rfl T.b_len PySem.boot_len (sa_cons (se_var (pv 5)) sa_nil))))
      (sss_cons (ss_set (i := 11) nd rfl (by first | exact Or.inl rfl | exact Or.inr rfl) (se_bin o_sub (se_var (pv 6)) (se_ix (se_var (pv 5)) (se_var (pv 8)))))
      (sss_cons (ss_set (i := 12) nd rfl (by first | exact Or.inl rfl | exact Or.inr rfl) (se_bin o_add (se_var (pv 8)) (se_bin o_mod (se_var (pv 10)) (se_var (pv 9)))))
      (sss_cons (ss_itemsD (vs := [13, 14]) pz rfl (pv 4) (pg_tup rfl (pgs_cons (pg_name (i := 13) nd rfl (by first | exact Or.inl rfl | exact Or.inr rfl)) (pgs_cons (pg_name (i := 14) nd rfl (by first | exact Or.inl rfl | exact Or.inr rfl)) pgs_nil))) (ng_tup (ngs_cons (ng_name (i := 13) (by simp)) (ngs_cons (ng_name (i := 14) (by simp)) ngs_nil))) (sss_one (ss_if (st_cmp (o_eq hu64) (se_var (pv 14)) (se_var (pv 12)) (nomark _)) (sss_one (ss_set (i := 1) nd rfl (by first | exact Or.inl rfl | exact Or.inr rfl) (se_var (pv 13)))) sss_nil)))
      (sss_one (ss_ret (se_tup (sa_cons (se_var (pv 1)) (sa_cons (se_bin o_sub (se_bin o_add (se_bin o_add (se_var (pv 6)) (se_bin o_mul (se_bin o_div (se_var (pv 10)) (se_var (pv 9))) (se_var (pv 11)))) (se_ix (se_var (pv 5)) (se_var (pv 12)))) (se_ix (se_var (pv 5)) (se_var (pv 8)))) sa_nil)))))))))))))))))))
theorem ok_left_often (T : Txt K mg xa) : Callee P w K mg base (exOf mg) "left_often" 4 s_left_often 6 := by
  obtain ⟨fa, fd, F, hm, hb⟩ := T.f_left_often
  exact ⟨fa, fd, _, fn_left_often T F, hm, F.kp, hb⟩
theorem sc_law_same : FnScope ["_law_train_here", "_law_row_here", "_law_one", "_law_other", "_law_stand_here"] ["_law_train_here", "_law_row_here", "_law_one", "_law_other"] (defScope (topS 39)) := ⟨rfl, rfl, rfl, by decide +kernel, rfl, by decide +kernel, by decide +kernel⟩
set_option linter.unusedVariables false in
theorem fn_law_same (T : Txt K mg xa) {fa : Addr} {fd : FuncData} (F : Fun K "_law_same" "_law_same" (topS 39) fa fd) : FnG P w K mg base 7 fa fd ["_law_train_here", "_law_row_here", "_law_one", "_law_other"] (spF K (exOf mg) 4 s_law_same) := by
  have nd : (["_law_train_here", "_law_row_here", "_law_one", "_law_other", "_law_stand_here"] : List Str).Nodup := sc_law_same.nd
  refine def_fn (k := 6) (N := ["_law_train_here", "_law_row_here", "_law_one", "_law_other", "_law_stand_here"]) (ps := ["_law_train_here", "_law_row_here", "_law_one", "_law_other"]) F sc_law_same fun cdv A outer s H E F0 hr hgd => ?_
  have hu64 : (A.deeper (envOfC "_law_same" (defScope (topS 39)) s.heap.objs.size fa cdv)).units + 64 < cLine := hr.units
  have hu65 : (A.deeper (envOfC "_law_same" (defScope (topS 39)) s.heap.objs.size fa cdv)).units + 65 < cLine := by have := hr.un; omega
  have pz := L2.passes_of (X := cxOf (L2.CX P w) P w K mg base ["_law_train_here", "_law_row_here", "_law_one", "_law_other", "_law_stand_here"] "_law_same" (defScope (topS 39)) fa cdv A outer s H E) rfl
  have tk : Takes (cxOf (L2.CX P w) P w K mg base ["_law_train_here", "_law_row_here", "_law_one", "_law_other", "_law_stand_here"] "_law_same" (defScope (topS 39)) fa cdv A outer s H E) (fun c d _ H' => E c d H') := takes_of rfl rfl rfl rfl
  exact (sss_cons (ss_for (vs := [4]) pz rfl (si_seq (se_call (ok_stands_of T) tk (hr.mono (by decide)) hgd rfl (sa_cons (se_var (pv 0)) sa_nil) rfl (aCons_len aNil_len))) (pg_name (i := 4) nd rfl (by first | exact Or.inl rfl | exact Or.inr rfl)) (ng_name (i := 4) (by simp)) (sss_one (ss_if (st_cmp (o_ne hu64) (se_ix (se_call (ok_left_often T) tk (hr.mono (by decide)) hgd rfl (sa_cons (se_var (pv 0)) (sa_cons (se_var (pv 4)) (sa_cons (se_var (pv 1)) (sa_cons (se_var (pv 2)) sa_nil)))) rfl (aCons_len (aCons_len (aCons_len (aCons_len aNil_len))))) se_int) (se_ix (se_call (ok_left_often T) tk (hr.mono (by decide)) hgd rfl (sa_cons (se_var (pv 0)) (sa_cons (se_var (pv 4)) (sa_cons (se_var (pv 1)) (sa_cons (se_var (pv 3)) sa_nil)))) rfl (aCons_len (aCons_len (aCons_len (aCons_len aNil_len))))) se_int) (nomark _)) (sss_one (ss_ret se_bl)) sss_nil)))
      (sss_one (ss_ret se_bl)))
theorem ok_law_same (T : Txt K mg xa) : Callee P w K mg base (exOf mg) "_law_same" 4 s_law_same 7 := by
  obtain ⟨fa, fd, F, hm, hb⟩ := T.f_law_same
  exact ⟨fa, fd, _, fn_law_same T F, hm, F.kp, hb⟩
theorem sc_law_primes : FnScope ["_law_number", "_law_told", "_law_p"] ["_law_number"] (defScope (topS 40)) := ⟨rfl, rfl, rfl, by decide +kernel, rfl, by decide +kernel, by decide +kernel⟩
set_option linter.unusedVariables false in
theorem fn_law_primes (T : Txt K mg xa) {fa : Addr} {fd : FuncData} (F : Fun K "_law_primes" "_law_primes" (topS 40) fa fd) : FnG P w K mg base 1 fa fd ["_law_number"] (spF K (exOf mg) 1 s_law_primes) := by
  have nd : (["_law_number", "_law_told", "_law_p"] : List Str).Nodup := sc_law_primes.nd
  refine def_fn (k := 0) (N := ["_law_number", "_law_told", "_law_p"]) (ps := ["_law_number"]) F sc_law_primes fun cdv A outer s H E F0 hr hgd => ?_
  have hu64 : (A.deeper (envOfC "_law_primes" (defScope (topS 40)) s.heap.objs.size fa cdv)).units + 64 < cLine := hr.units
  have hu65 : (A.deeper (envOfC "_law_primes" (defScope (topS 40)) s.heap.objs.size fa cdv)).units + 65 < cLine := by have := hr.un; omega
  have pz := L2.passes_of (X := cxOf (L2.CX P w) P w K mg base ["_law_number", "_law_told", "_law_p"] "_law_primes" (defScope (topS 40)) fa cdv A outer s H E) rfl
  have tk : Takes (cxOf (L2.CX P w) P w K mg base ["_law_number", "_law_told", "_law_p"] "_law_primes" (defScope (topS 40)) fa cdv A outer s H E) (fun c d _ H' => E c d H') := takes_of rfl rfl rfl rfl
  exact (sss_cons (ss_setO (i := 1) nd rfl (by first | exact Or.inl rfl | exact Or.inr rfl) (so_lst sa_nil))
      (sss_cons (ss_set (i := 2) nd rfl (by first | exact Or.inl rfl | exact Or.inr rfl) se_int)
      (sss_cons (ss_while pz (st_cmp o_le (se_bin o_mul (se_var (pv 2)) (se_var (pv 2))) (se_var (pv 0)) (nomark _)) (sss_cons (ss_if (st_cmp (o_eq hu64) (se_bin o_mod (se_var (pv 0)) (se_var (pv 2))) se_int (nomark _)) (sss_one (ss_app (pv 1) (se_var (pv 2)))) sss_nil)
      (sss_cons (ss_while pz (st_cmp (o_eq hu64) (se_bin o_mod (se_var (pv 0)) (se_var (pv 2))) se_int (nomark _)) (sss_one (ss_set (i := 0) nd rfl (by first | exact Or.inl rfl | exact Or.inr rfl) (se_bin o_div (se_var (pv 0)) (se_var (pv 2))))))
      (sss_one (ss_set (i := 2) nd rfl (by first | exact Or.inl rfl | exact Or.inr rfl) (se_bin o_add (se_var (pv 2)) se_int))))))
      (sss_one (ss_ret (se_bin o_add (se_var (pv 1)) (se_bin o_rep (se_own (so_lst (sa_cons (se_var (pv 0)) sa_nil))) (se_callTy c_int rfl T.b_int PyProof.Rows.boot_int (sa_cons (se_cmp o_gt (se_var (pv 0)) se_int (nomark _)) sa_nil)))))))))
theorem ok_law_primes (T : Txt K mg xa) : Callee P w K mg base (exOf mg) "_law_primes" 1 s_law_primes 1 := by
  obtain ⟨fa, fd, F, hm, hb⟩ := T.f_law_primes
  exact ⟨fa, fd, _, fn_law_primes T F, hm, F.kp, hb⟩
theorem sc_law_round_right : FnScope ["_law_train_here", "_law_row_here", "_law_many", "_law_ahead", "_law_around", "_law_p"] ["_law_train_here", "_law_row_here", "_law_many"] (defScope (topS 41)) := ⟨rfl, rfl, rfl, by decide +kernel, rfl, by decide +kernel, by decide +kernel⟩
set_option linter.unusedVariables false in
theorem fn_law_round_right (T : Txt K mg xa) {fa : Addr} {fd : FuncData} (F : Fun K "_law_round_right" "_law_round_right" (topS 41) fa fd) : FnG P w K mg base 8 fa fd ["_law_train_here", "_law_row_here", "_law_many"] (spF K (exOf mg) 3 s_law_round_right) := by
  have nd : (["_law_train_here", "_law_row_here", "_law_many", "_law_ahead", "_law_around", "_law_p"] : List Str).Nodup := sc_law_round_right.nd
  refine def_fn (k := 7) (N := ["_law_train_here", "_law_row_here", "_law_many", "_law_ahead", "_law_around", "_law_p"]) (ps := ["_law_train_here", "_law_row_here", "_law_many"]) F sc_law_round_right fun cdv A outer s H E F0 hr hgd => ?_
  have hu64 : (A.deeper (envOfC "_law_round_right" (defScope (topS 41)) s.heap.objs.size fa cdv)).units + 64 < cLine := hr.units
  have hu65 : (A.deeper (envOfC "_law_round_right" (defScope (topS 41)) s.heap.objs.size fa cdv)).units + 65 < cLine := by have := hr.un; omega
  have pz := L2.passes_of (X := cxOf (L2.CX P w) P w K mg base ["_law_train_here", "_law_row_here", "_law_many", "_law_ahead", "_law_around", "_law_p"] "_law_round_right" (defScope (topS 41)) fa cdv A outer s H E) rfl
  have tk : Takes (cxOf (L2.CX P w) P w K mg base ["_law_train_here", "_law_row_here", "_law_many", "_law_ahead", "_law_around", "_law_p"] "_law_round_right" (defScope (topS 41)) fa cdv A outer s H E) (fun c d _ H' => E c d H') := takes_of rfl rfl rfl rfl
  exact (sss_cons (ss_asg (se_call (ok_row_round T) tk (hr.mono (by decide)) hgd rfl (sa_cons (se_var (pv 0)) (sa_cons (se_var (pv 1)) sa_nil)) rfl (aCons_len (aCons_len aNil_len))) (pg_tup rfl (pgs_cons (pg_name (i := 3) nd rfl (by first | exact Or.inl rfl | exact Or.inr rfl)) (pgs_cons (pg_name (i := 4) nd rfl (by first | exact Or.inl rfl | exact Or.inr rfl)) pgs_nil))) (tg_tup (tgs_cons tg_name (tgs_cons tg_name tgs_nil))))
      (sss_cons (ss_if (st_w (sw_or (st_cmp o_lt (se_var (pv 3)) se_int (nomark _)) (sw_or (st_cmp o_lt (se_var (pv 4)) se_int (nomark _)) (sw_or1 (st_not (st_of (se_call (ok_law_same T) tk (hr.mono (by decide)) hgd rfl (sa_cons (se_var (pv 0)) (sa_cons (se_var (pv 1)) (sa_cons (se_var (pv 3)) (sa_cons (se_bin o_add (se_var (pv 3)) (se_var (pv 4))) sa_nil)))) rfl (aCons_len (aCons_len (aCons_len (aCons_len aNil_len))))))))))) (sss_one (ss_ret se_bl)) sss_nil)
      (sss_cons (ss_if (st_not (st_of (se_call (ok_law_same T) tk (hr.mono (by decide)) hgd rfl (sa_cons (se_var (pv 0)) (sa_cons (se_var (pv 1)) (sa_cons (se_bin o_add (se_var (pv 3)) se_int) (sa_cons (se_bin o_add (se_bin o_add (se_var (pv 3)) se_int) (se_bin o_mul (se_var (pv 4)) (se_var (pv 2)))) sa_nil)))) rfl (aCons_len (aCons_len (aCons_len (aCons_len aNil_len))))))) (sss_one (ss_ret se_bl)) sss_nil)
      (sss_cons (ss_if (st_w (sw_and (st_cmp o_gt (se_var (pv 3)) se_int (nomark _)) (sw_and1 (st_of (se_call (ok_law_same T) tk (hr.mono (by decide)) hgd rfl (sa_cons (se_var (pv 0)) (sa_cons (se_var (pv 1)) (sa_cons (se_bin o_sub (se_var (pv 3)) se_int) (sa_cons (se_bin o_add (se_bin o_sub (se_var (pv 3)) se_int) (se_var (pv 4))) sa_nil)))) rfl (aCons_len (aCons_len (aCons_len (aCons_len aNil_len))))))))) (sss_one (ss_ret se_bl)) sss_nil)
      (sss_cons (ss_for (vs := [5]) pz rfl (si_seq (se_call (ok_law_primes T) tk (hr.mono (by decide)) hgd rfl (sa_cons (se_var (pv 4)) sa_nil) rfl (aCons_len aNil_len))) (pg_name (i := 5) nd rfl (by first | exact Or.inl rfl | exact Or.inr rfl)) (ng_name (i := 5) (by simp)) (sss_one (ss_if (st_of (se_call (ok_law_same T) tk (hr.mono (by decide)) hgd rfl (sa_cons (se_var (pv 0)) (sa_cons (se_var (pv 1)) (sa_cons (se_var (pv 3)) (sa_cons (se_bin o_add (se_var (pv 3)) (se_bin o_div (se_var (pv 4)) (se_var (pv 5)))) sa_nil)))) rfl (aCons_len (aCons_len (aCons_len (aCons_len aNil_len)))))) (sss_one (ss_ret se_bl)) sss_nil)))
      (sss_one (ss_ret se_bl)))))))
theorem ok_law_round_right (T : Txt K mg xa) : Callee P w K mg base (exOf mg) "_law_round_right" 3 s_law_round_right 8 := by
  obtain ⟨fa, fd, F, hm, hb⟩ := T.f_law_round_right
  exact ⟨fa, fd, _, fn_law_round_right T F, hm, F.kp, hb⟩
theorem sc_left : FnScope ["train", "stand", "row"] ["train", "stand", "row"] (defScope (topS 23)) := ⟨rfl, rfl, rfl, by decide +kernel, rfl, by decide +kernel, by decide +kernel⟩
set_option linter.unusedVariables false in
theorem fn_left (T : Txt K mg xa) {fa : Addr} {fd : FuncData} (F : Fun K "left" "left" (topS 23) fa fd) : FnG P w K mg base 6 fa fd ["train", "stand", "row"] (spF K (exOf mg) 3 s_left) := by
  have nd : (["train", "stand", "row"] : List Str).Nodup := sc_left.nd
  refine def_fn (k := 5) (N := ["train", "stand", "row"]) (ps := ["train", "stand", "row"]) F sc_left fun cdv A outer s H E F0 hr hgd => ?_
  have hu64 : (A.deeper (envOfC "left" (defScope (topS 23)) s.heap.objs.size fa cdv)).units + 64 < cLine := hr.units
  have hu65 : (A.deeper (envOfC "left" (defScope (topS 23)) s.heap.objs.size fa cdv)).units + 65 < cLine := by have := hr.un; omega
  have pz := L2.passes_of (X := cxOf (L2.CX P w) P w K mg base ["train", "stand", "row"] "left" (defScope (topS 23)) fa cdv A outer s H E) rfl
  have tk : Takes (cxOf (L2.CX P w) P w K mg base ["train", "stand", "row"] "left" (defScope (topS 23)) fa cdv A outer s H E) (fun c d _ H' => E c d H') := takes_of rfl rfl rfl rfl
  exact (sss_cons (ss_exp (se_call (ok_check_stand T) tk (hr.mono (by decide)) hgd rfl (sa_cons (se_var (pv 0)) (sa_cons (se_var (pv 1)) sa_nil)) rfl (aCons_len (aCons_len aNil_len))))
      (sss_cons (ss_exp (se_call (ok_check_row T) tk (hr.mono (by decide)) hgd rfl (sa_cons (se_var (pv 0)) (sa_cons (se_var (pv 2)) sa_nil)) rfl (aCons_len (aCons_len aNil_len))))
      (sss_one (ss_ret (se_call (ok_walked T) tk (hr.mono (by decide)) hgd rfl (sa_cons (se_var (pv 0)) (sa_cons (se_var (pv 1)) (sa_cons (se_var (pv 2)) sa_nil))) rfl (aCons_len (aCons_len (aCons_len aNil_len))))))))
theorem ok_left (T : Txt K mg xa) : Callee P w K mg base (exOf mg) "left" 3 s_left 6 := by
  obtain ⟨fa, fd, F, hm, hb⟩ := T.f_left
  exact ⟨fa, fd, _, fn_left T F, hm, F.kp, hb⟩
theorem sc_rows_alike : FnScope ["train", "one", "other", "stand"] ["train", "one", "other"] (defScope (topS 26)) := ⟨rfl, rfl, rfl, by decide +kernel, rfl, by decide +kernel, by decide +kernel⟩
set_option linter.unusedVariables false in
theorem fn_rows_alike (T : Txt K mg xa) {fa : Addr} {fd : FuncData} (F : Fun K "rows_alike" "rows_alike" (topS 26) fa fd) : FnG P w K mg base 6 fa fd ["train", "one", "other"] (spF K (exOf mg) 3 s_rows_alike) := by
  have nd : (["train", "one", "other", "stand"] : List Str).Nodup := sc_rows_alike.nd
  refine def_fn (k := 5) (N := ["train", "one", "other", "stand"]) (ps := ["train", "one", "other"]) F sc_rows_alike fun cdv A outer s H E F0 hr hgd => ?_
  have hu64 : (A.deeper (envOfC "rows_alike" (defScope (topS 26)) s.heap.objs.size fa cdv)).units + 64 < cLine := hr.units
  have hu65 : (A.deeper (envOfC "rows_alike" (defScope (topS 26)) s.heap.objs.size fa cdv)).units + 65 < cLine := by have := hr.un; omega
  have pz := L2.passes_of (X := cxOf (L2.CX P w) P w K mg base ["train", "one", "other", "stand"] "rows_alike" (defScope (topS 26)) fa cdv A outer s H E) rfl
  have tk : Takes (cxOf (L2.CX P w) P w K mg base ["train", "one", "other", "stand"] "rows_alike" (defScope (topS 26)) fa cdv A outer s H E) (fun c d _ H' => E c d H') := takes_of rfl rfl rfl rfl
  exact (sss_cons (ss_exp (se_call (ok_check_train T) tk (hr.mono (by decide)) hgd rfl (sa_cons (se_var (pv 0)) sa_nil) rfl (aCons_len aNil_len)))
      (sss_cons (ss_exp (se_call (ok_check_row T) tk (hr.mono (by decide)) hgd rfl (sa_cons (se_var (pv 0)) (sa_cons (se_var (pv 1)) sa_nil)) rfl (aCons_len (aCons_len aNil_len))))
      (sss_cons (ss_exp (se_call (ok_check_row T) tk (hr.mono (by decide)) hgd rfl (sa_cons (se_var (pv 0)) (sa_cons (se_var (pv 2)) sa_nil)) rfl (aCons_len (aCons_len aNil_len))))
      (sss_cons (ss_for (vs := [3]) pz rfl (si_seq (se_call (ok_stands_of T) tk (hr.mono (by decide)) hgd rfl (sa_cons (se_var (pv 0)) sa_nil) rfl (aCons_len aNil_len))) (pg_name (i := 3) nd rfl (by first | exact Or.inl rfl | exact Or.inr rfl)) (ng_name (i := 3) (by simp)) (sss_one (ss_if (st_cmp (o_ne hu64) (se_call (ok_walked T) tk (hr.mono (by decide)) hgd rfl (sa_cons (se_var (pv 0)) (sa_cons (se_var (pv 3)) (sa_cons (se_var (pv 1)) sa_nil))) rfl (aCons_len (aCons_len (aCons_len aNil_len)))) (se_call (ok_walked T) tk (hr.mono (by decide)) hgd rfl (sa_cons (se_var (pv 0)) (sa_cons (se_var (pv 3)) (sa_cons (se_var (pv 2)) sa_nil))) rfl (aCons_len (aCons_len (aCons_len aNil_len)))) (nomark _)) (sss_one (ss_ret (se_tup (sa_cons se_str (sa_cons (se_var (pv 3)) sa_nil))))) sss_nil)))
      (sss_one (ss_ret (se_tup (sa_cons se_str sa_nil))))))))
theorem ok_rows_alike (T : Txt K mg xa) : Callee P w K mg base (exOf mg) "rows_alike" 3 s_rows_alike 6 := by
  obtain ⟨fa, fd, F, hm, hb⟩ := T.f_rows_alike
  exact ⟨fa, fd, _, fn_rows_alike T F, hm, F.kp, hb⟩
theorem sc_law_pair_right : FnScope ["_law_train_here", "_law_one", "_law_other", "_law_third", "_law_told", "_law_stands", "_law_stand_here"] ["_law_train_here", "_law_one", "_law_other", "_law_third"] (defScope (topS 42)) := ⟨rfl, rfl, rfl, by decide +kernel, rfl, by decide +kernel, by decide +kernel⟩
set_option linter.unusedVariables false in
theorem fn_law_pair_right (T : Txt K mg xa) {fa : Addr} {fd : FuncData} (F : Fun K "_law_pair_right" "_law_pair_right" (topS 42) fa fd) : FnG P w K mg base 7 fa fd ["_law_train_here", "_law_one", "_law_other", "_law_third"] (spF K (exOf mg) 4 s_law_pair_right) := by
  have nd : (["_law_train_here", "_law_one", "_law_other", "_law_third", "_law_told", "_law_stands", "_law_stand_here"] : List Str).Nodup := sc_law_pair_right.nd
  refine def_fn (k := 6) (N := ["_law_train_here", "_law_one", "_law_other", "_law_third", "_law_told", "_law_stands", "_law_stand_here"]) (ps := ["_law_train_here", "_law_one", "_law_other", "_law_third"]) F sc_law_pair_right fun cdv A outer s H E F0 hr hgd => ?_
  have hu64 : (A.deeper (envOfC "_law_pair_right" (defScope (topS 42)) s.heap.objs.size fa cdv)).units + 64 < cLine := hr.units
  have hu65 : (A.deeper (envOfC "_law_pair_right" (defScope (topS 42)) s.heap.objs.size fa cdv)).units + 65 < cLine := by have := hr.un; omega
  have pz := L2.passes_of (X := cxOf (L2.CX P w) P w K mg base ["_law_train_here", "_law_one", "_law_other", "_law_third", "_law_told", "_law_stands", "_law_stand_here"] "_law_pair_right" (defScope (topS 42)) fa cdv A outer s H E) rfl
  have tk : Takes (cxOf (L2.CX P w) P w K mg base ["_law_train_here", "_law_one", "_law_other", "_law_third", "_law_told", "_law_stands", "_law_stand_here"] "_law_pair_right" (defScope (topS 42)) fa cdv A outer s H E) (fun c d _ H' => E c d H') := takes_of rfl rfl rfl rfl
  exact (sss_cons (ss_set (i := 4) nd rfl (by first | exact Or.inl rfl | exact Or.inr rfl) (se_call (ok_rows_alike T) tk (hr.mono (by decide)) hgd rfl (sa_cons (se_var (pv 0)) (sa_cons (se_var (pv 1)) (sa_cons (se_var (pv 2)) sa_nil))) rfl (aCons_len (aCons_len (aCons_len aNil_len)))))
      (sss_cons (ss_set (i := 5) nd rfl (by first | exact Or.inl rfl | exact Or.inr rfl) (se_call (ok_stands_of T) tk (hr.mono (by decide)) hgd rfl (sa_cons (se_var (pv 0)) sa_nil) rfl (aCons_len aNil_len)))
      (sss_cons (ss_if (st_cmp (o_eq hu64) (se_var (pv 4)) (se_tup (sa_cons se_str sa_nil)) (nomark _)) (sss_cons (ss_if (st_cmp (o_ne hu64) (se_call (ok_rows_alike T) tk (hr.mono (by decide)) hgd rfl (sa_cons (se_var (pv 0)) (sa_cons (se_bin o_add (se_var (pv 3)) (se_var (pv 1))) (sa_cons (se_bin o_add (se_var (pv 3)) (se_var (pv 2))) sa_nil))) rfl (aCons_len (aCons_len (aCons_len aNil_len)))) (se_var (pv 4)) (nomark _)) (sss_one (ss_ret se_bl)) sss_nil)
      (sss_one (ss_ret (se_cmp (o_eq hu64) (se_call (ok_rows_alike T) tk (hr.mono (by decide)) hgd rfl (sa_cons (se_var (pv 0)) (sa_cons (se_bin o_add (se_var (pv 1)) (se_var (pv 3))) (sa_cons (se_bin o_add (se_var (pv 2)) (se_var (pv 3))) sa_nil))) rfl (aCons_len (aCons_len (aCons_len aNil_len)))) (se_var (pv 4)) (nomark _))))) sss_nil)
      (sss_cons (ss_for (vs := [6]) pz rfl (si_seq (se_cut (se_var (pv 5)) sp_no (sp_so (se_index hu65 (se_var (pv 5)) (se_ix (se_var (pv 4)) se_int))))) (pg_name (i := 6) nd rfl (by first | exact Or.inl rfl | exact Or.inr rfl)) (ng_name (i := 6) (by simp)) (sss_one (ss_if (st_cmp (o_ne hu64) (se_call (ok_left T) tk (hr.mono (by decide)) hgd rfl (sa_cons (se_var (pv 0)) (sa_cons (se_var (pv 6)) (sa_cons (se_var (pv 1)) sa_nil))) rfl (aCons_len (aCons_len (aCons_len aNil_len)))) (se_call (ok_left T) tk (hr.mono (by decide)) hgd rfl (sa_cons (se_var (pv 0)) (sa_cons (se_var (pv 6)) (sa_cons (se_var (pv 2)) sa_nil))) rfl (aCons_len (aCons_len (aCons_len aNil_len)))) (nomark _)) (sss_one (ss_ret se_bl)) sss_nil)))
      (sss_one (ss_ret (se_and (se_cmp (o_ne hu64) (se_call (ok_left T) tk (hr.mono (by decide)) hgd rfl (sa_cons (se_var (pv 0)) (sa_cons (se_ix (se_var (pv 4)) se_int) (sa_cons (se_var (pv 1)) sa_nil))) rfl (aCons_len (aCons_len (aCons_len aNil_len)))) (se_call (ok_left T) tk (hr.mono (by decide)) hgd rfl (sa_cons (se_var (pv 0)) (sa_cons (se_ix (se_var (pv 4)) se_int) (sa_cons (se_var (pv 2)) sa_nil))) rfl (aCons_len (aCons_len (aCons_len aNil_len)))) (nomark _)) (se_one (se_cmp (o_eq hu64) (se_call (ok_rows_alike T) tk (hr.mono (by decide)) hgd rfl (sa_cons (se_var (pv 0)) (sa_cons (se_var (pv 2)) (sa_cons (se_var (pv 1)) sa_nil))) rfl (aCons_len (aCons_len (aCons_len aNil_len)))) (se_var (pv 4)) (nomark _))))))))))
theorem ok_law_pair_right (T : Txt K mg xa) : Callee P w K mg base (exOf mg) "_law_pair_right" 4 s_law_pair_right 7 := by
  obtain ⟨fa, fd, F, hm, hb⟩ := T.f_law_pair_right
  exact ⟨fa, fd, _, fn_law_pair_right T F, hm, F.kp, hb⟩
theorem sc_law_cut : FnScope ["_law_script", "_law_most", "_law_cell"] ["_law_script"] (defScope (topS 43)) := ⟨rfl, rfl, rfl, by decide +kernel, rfl, by decide +kernel, by decide +kernel⟩
set_option linter.unusedVariables false in
theorem fn_law_cut (T : Txt K mg xa) {fa : Addr} {fd : FuncData} (F : Fun K "_law_cut" "_law_cut" (topS 43) fa fd) : FnG P w K mg base 1 fa fd ["_law_script"] (spF K (exOf mg) 1 s_law_cut) := by
  have nd : (["_law_script", "_law_most", "_law_cell"] : List Str).Nodup := sc_law_cut.nd
  refine def_fn (k := 0) (N := ["_law_script", "_law_most", "_law_cell"]) (ps := ["_law_script"]) F sc_law_cut fun cdv A outer s H E F0 hr hgd => ?_
  have hu64 : (A.deeper (envOfC "_law_cut" (defScope (topS 43)) s.heap.objs.size fa cdv)).units + 64 < cLine := hr.units
  have hu65 : (A.deeper (envOfC "_law_cut" (defScope (topS 43)) s.heap.objs.size fa cdv)).units + 65 < cLine := by have := hr.un; omega
  have pz := L2.passes_of (X := cxOf (L2.CX P w) P w K mg base ["_law_script", "_law_most", "_law_cell"] "_law_cut" (defScope (topS 43)) fa cdv A outer s H E) rfl
  have tk : Takes (cxOf (L2.CX P w) P w K mg base ["_law_script", "_law_most", "_law_cell"] "_law_cut" (defScope (topS 43)) fa cdv A outer s H E) (fun c d _ H' => E c d H') := takes_of rfl rfl rfl rfl
  exact (sss_cons (ss_set (i := 1) nd rfl (by first | exact Or.inl rfl | exact Or.inr rfl) (se_bin o_pow (se_bin o_pow se_int se_int) se_int))
      (sss_one (ss_ret (se_own (so_lc rfl nd (si_seq (se_var (pv 0))) (blkOk_by (own := [("_law_cell", 2)]) (N := ["_law_script", "_law_most", "_law_cell"]) (sc := defScope (topS 43)) (by decide +kernel)) (ng_name (i := 2) (by simp)) (fun _ _ _ _ _ => (pg_name (i := 2) nd rfl (Or.inl rfl))) (fun _ _ _ _ _ => sts_nil) (fun _ _ _ _ _ => (se_ix (se_own (so_lst (sa_cons (se_var (pv 2)) (sa_cons (se_bin o_add (se_var (pv 1)) (se_bin o_mod (se_var (pv 2)) (se_var (pv 1)))) sa_nil)))) (se_callTy c_int rfl T.b_int PyProof.Rows.boot_int (sa_cons (se_cmp o_ge (se_var (pv 2)) (se_var (pv 1)) (nomark _)) sa_nil)))))))))
theorem ok_law_cut (T : Txt K mg xa) : Callee P w K mg base (exOf mg) "_law_cut" 1 s_law_cut 1 := by
  obtain ⟨fa, fd, F, hm, hb⟩ := T.f_law_cut
  exact ⟨fa, fd, _, fn_law_cut T F, hm, F.kp, hb⟩
theorem sc_law : FnScope ["_law_script", "_law_cell", "_law_train_here", "_law_one", "_law_other", "_law_third", "_law_some", "_law_left_one", "_law_right_one"] ["_law_script"] (defScope (topS 44)) := ⟨rfl, rfl, rfl, by decide +kernel, rfl, by decide +kernel, by decide +kernel⟩
set_option linter.unusedVariables false in
theorem fn_law (T : Txt K mg xa) {fa : Addr} {fd : FuncData} (F : Fun K "law" "law" (topS 44) fa fd) : FnG P w K mg base 9 fa fd ["_law_script"] (spF K (exOf mg) 1 s_law_12) := by
  have nd : (["_law_script", "_law_cell", "_law_train_here", "_law_one", "_law_other", "_law_third", "_law_some", "_law_left_one", "_law_right_one"] : List Str).Nodup := sc_law.nd
  refine def_fn (k := 8) (N := ["_law_script", "_law_cell", "_law_train_here", "_law_one", "_law_other", "_law_third", "_law_some", "_law_left_one", "_law_right_one"]) (ps := ["_law_script"]) F sc_law fun cdv A outer s H E F0 hr hgd => ?_
  have hu64 : (A.deeper (envOfC "law" (defScope (topS 44)) s.heap.objs.size fa cdv)).units + 64 < cLine := hr.units
  have hu65 : (A.deeper (envOfC "law" (defScope (topS 44)) s.heap.objs.size fa cdv)).units + 65 < cLine := by have := hr.un; omega
  have pz := L2.passes_of (X := cxOf (L2.CX P w) P w K mg base ["_law_script", "_law_cell", "_law_train_here", "_law_one", "_law_other", "_law_third", "_law_some", "_law_left_one", "_law_right_one"] "law" (defScope (topS 44)) fa cdv A outer s H E) rfl
  have tk : Takes (cxOf (L2.CX P w) P w K mg base ["_law_script", "_law_cell", "_law_train_here", "_law_one", "_law_other", "_law_third", "_law_some", "_law_left_one", "_law_right_one"] "law" (defScope (topS 44)) fa cdv A outer s H E) (fun c d _ H' => E c d H') := takes_of rfl rfl rfl rfl
  exact (sss_cons (ss_set (i := 0) nd rfl (by first | exact Or.inl rfl | exact Or.inr rfl) (se_call (ok_law_cut T) tk (hr.mono (by decide)) hgd rfl (sa_cons (se_var (pv 0)) sa_nil) rfl (aCons_len aNil_len)))
      (sss_cons (ss_for (vs := [1]) pz rfl (si_seq (se_bin o_add (se_cut (se_var (pv 0)) sp_no (sp_so se_int)) (se_own (so_lst (sa_cons se_int sa_nil))))) (pg_name (i := 1) nd rfl (by first | exact Or.inl rfl | exact Or.inr rfl)) (ng_name (i := 1) (by simp)) (sss_cons (ss_set (i := 2) nd rfl (by first | exact Or.inl rfl | exact Or.inr rfl) (se_call (ok_law_train T) tk (hr.mono (by decide)) hgd rfl (sa_cons (se_var (pv 1)) (sa_cons se_int (sa_cons se_int sa_nil))) rfl (aCons_len (aCons_len (aCons_len aNil_len)))))
      (sss_cons (ss_set (i := 3) nd rfl (by first | exact Or.inl rfl | exact Or.inr rfl) (se_call (ok_law_row T) tk (hr.mono (by decide)) hgd rfl (sa_cons (se_var (pv 2)) (sa_cons (se_var (pv 1)) (sa_cons se_int (sa_cons se_int sa_nil)))) rfl (aCons_len (aCons_len (aCons_len (aCons_len aNil_len))))))
      (sss_cons (ss_set (i := 4) nd rfl (by first | exact Or.inl rfl | exact Or.inr rfl) (se_call (ok_law_row T) tk (hr.mono (by decide)) hgd rfl (sa_cons (se_var (pv 2)) (sa_cons (se_var (pv 1)) (sa_cons se_int (sa_cons se_int sa_nil)))) rfl (aCons_len (aCons_len (aCons_len (aCons_len aNil_len))))))
      (sss_cons (ss_set (i := 5) nd rfl (by first | exact Or.inl rfl | exact Or.inr rfl) (se_call (ok_law_row T) tk (hr.mono (by decide)) hgd rfl (sa_cons (se_var (pv 2)) (sa_cons (se_var (pv 1)) (sa_cons se_int (sa_cons se_int sa_nil)))) rfl (aCons_len (aCons_len (aCons_len (aCons_len aNil_len))))))
      (sss_cons (ss_if (st_not (st_of (se_call (ok_law_round_right T) tk (hr.mono (by decide)) hgd rfl (sa_cons (se_var (pv 2)) (sa_cons (se_var (pv 3)) (sa_cons (se_bin o_add (se_bin o_mul (se_call (ok_law_mix T) tk (hr.mono (by decide)) hgd rfl (sa_cons (se_var (pv 1)) (sa_cons se_int sa_nil)) rfl (aCons_len (aCons_len aNil_len))) (se_bin o_pow se_int se_int)) se_int) sa_nil))) rfl (aCons_len (aCons_len (aCons_len aNil_len)))))) (sss_one (ss_ret se_bl)) sss_nil)
      (sss_cons (ss_set (i := 6) nd rfl (by first | exact Or.inl rfl | exact Or.inr rfl) (se_own (so_lst (sa_cons (se_tup (sa_cons (se_var (pv 4)) (sa_cons (se_bin o_add (se_var (pv 4)) (se_own (so_lst (sa_cons (se_tup (sa_cons se_int (sa_cons se_int (sa_cons se_int sa_nil)))) sa_nil)))) sa_nil))) (sa_cons (se_tup (sa_cons (se_var (pv 3)) (sa_cons (se_var (pv 4)) sa_nil))) (sa_cons (se_tup (sa_cons (se_bin o_add (se_var (pv 3)) (se_var (pv 4))) (sa_cons (se_bin o_add (se_var (pv 4)) (se_var (pv 3))) sa_nil))) sa_nil))))))
      (sss_one (ss_for (vs := [7, 8]) pz rfl (si_seq (se_var (pv 6))) (pg_tup rfl (pgs_cons (pg_name (i := 7) nd rfl (by first | exact Or.inl rfl | exact Or.inr rfl)) (pgs_cons (pg_name (i := 8) nd rfl (by first | exact Or.inl rfl | exact Or.inr rfl)) pgs_nil))) (ng_tup (ngs_cons (ng_name (i := 7) (by simp)) (ngs_cons (ng_name (i := 8) (by simp)) ngs_nil))) (sss_one (ss_if (st_not (st_of (se_call (ok_law_pair_right T) tk (hr.mono (by decide)) hgd rfl (sa_cons (se_var (pv 2)) (sa_cons (se_var (pv 7)) (sa_cons (se_var (pv 8)) (sa_cons (se_var (pv 5)) sa_nil)))) rfl (aCons_len (aCons_len (aCons_len (aCons_len aNil_len))))))) (sss_one (ss_ret se_bl)) sss_nil)))))))))))
      (sss_one (ss_ret se_bl))))
end
theorem all_mk {l : PySem.W.OpenLaw} {w : World} {K : PySem.W.Frag} {h : Heap} {mg : Str → Option Value} {fa : Addr} (X : K.In h) (G : h.Ns mainGlobals mg) (hfa : mg "law" = some (.ref fa))
    {f0 : Addr} {od0 an0 : Option Addr} {sl0 : Array (Option Value)} {oc0 kV0 dc0 pm0 cd0 ct0 : Value}
    (a0 : PySem.W.nsIn K mainGlobals "_law_mix" = some (some (.ref f0))) (l0 : K.lookup f0 = some ⟨oc0, od0, .func (PySem.W.fnOf "_law_mix" "_law_mix" (defArgs (topS 32)) (defBody (topS 32)) (defScope (topS 32)) .none kV0 dc0 pm0 an0 cd0 ct0), sl0⟩) (c0 : PySem.W.codeIn K cd0 "_law_mix" = true) (k0 : PySem.W.keepIn K (.ref f0) = true)
    {f1 : Addr} {od1 an1 : Option Addr} {sl1 : Array (Option Value)} {oc1 kV1 dc1 pm1 cd1 ct1 : Value}
    (a1 : PySem.W.nsIn K mainGlobals "_law_places" = some (some (.ref f1))) (l1 : K.lookup f1 = some ⟨oc1, od1, .func (PySem.W.fnOf "_law_places" "_law_places" (defArgs (topS 34)) (defBody (topS 34)) (defScope (topS 34)) .none kV1 dc1 pm1 an1 cd1 ct1), sl1⟩) (c1 : PySem.W.codeIn K cd1 "_law_places" = true) (k1 : PySem.W.keepIn K (.ref f1) = true)
    {f2 : Addr} {od2 an2 : Option Addr} {sl2 : Array (Option Value)} {oc2 kV2 dc2 pm2 cd2 ct2 : Value}
    (a2 : PySem.W.nsIn K mainGlobals "_law_part" = some (some (.ref f2))) (l2 : K.lookup f2 = some ⟨oc2, od2, .func (PySem.W.fnOf "_law_part" "_law_part" (defArgs (topS 35)) (defBody (topS 35)) (defScope (topS 35)) .none kV2 dc2 pm2 an2 cd2 ct2), sl2⟩) (c2 : PySem.W.codeIn K cd2 "_law_part" = true) (k2 : PySem.W.keepIn K (.ref f2) = true)
    {f3 : Addr} {od3 an3 : Option Addr} {sl3 : Array (Option Value)} {oc3 kV3 dc3 pm3 cd3 ct3 : Value}
    (a3 : PySem.W.nsIn K mainGlobals "_law_train" = some (some (.ref f3))) (l3 : K.lookup f3 = some ⟨oc3, od3, .func (PySem.W.fnOf "_law_train" "_law_train" (defArgs (topS 36)) (defBody (topS 36)) (defScope (topS 36)) .none kV3 dc3 pm3 an3 cd3 ct3), sl3⟩) (c3 : PySem.W.codeIn K cd3 "_law_train" = true) (k3 : PySem.W.keepIn K (.ref f3) = true)
    {f4 : Addr} {od4 an4 : Option Addr} {sl4 : Array (Option Value)} {oc4 kV4 dc4 pm4 cd4 ct4 : Value}
    (a4 : PySem.W.nsIn K mainGlobals "_law_row" = some (some (.ref f4))) (l4 : K.lookup f4 = some ⟨oc4, od4, .func (PySem.W.fnOf "_law_row" "_law_row" (defArgs (topS 38)) (defBody (topS 38)) (defScope (topS 38)) .none kV4 dc4 pm4 an4 cd4 ct4), sl4⟩) (c4 : PySem.W.codeIn K cd4 "_law_row" = true) (k4 : PySem.W.keepIn K (.ref f4) = true)
    {f5 : Addr} {od5 an5 : Option Addr} {sl5 : Array (Option Value)} {oc5 kV5 dc5 pm5 cd5 ct5 : Value}
    (a5 : PySem.W.nsIn K mainGlobals "is_whole" = some (some (.ref f5))) (l5 : K.lookup f5 = some ⟨oc5, od5, .func (PySem.W.fnOf "is_whole" "is_whole" (defArgs (topS 7)) (defBody (topS 7)) (defScope (topS 7)) .none kV5 dc5 pm5 an5 cd5 ct5), sl5⟩) (c5 : PySem.W.codeIn K cd5 "is_whole" = true) (k5 : PySem.W.keepIn K (.ref f5) = true)
    {f6 : Addr} {od6 an6 : Option Addr} {sl6 : Array (Option Value)} {oc6 kV6 dc6 pm6 cd6 ct6 : Value}
    (a6 : PySem.W.nsIn K mainGlobals "is_marks" = some (some (.ref f6))) (l6 : K.lookup f6 = some ⟨oc6, od6, .func (PySem.W.fnOf "is_marks" "is_marks" (defArgs (topS 8)) (defBody (topS 8)) (defScope (topS 8)) .none kV6 dc6 pm6 an6 cd6 ct6), sl6⟩) (c6 : PySem.W.codeIn K cd6 "is_marks" = true) (k6 : PySem.W.keepIn K (.ref f6) = true)
    {f7 : Addr} {od7 an7 : Option Addr} {sl7 : Array (Option Value)} {oc7 kV7 dc7 pm7 cd7 ct7 : Value}
    (a7 : PySem.W.nsIn K mainGlobals "is_part" = some (some (.ref f7))) (l7 : K.lookup f7 = some ⟨oc7, od7, .func (PySem.W.fnOf "is_part" "is_part" (defArgs (topS 9)) (defBody (topS 9)) (defScope (topS 9)) .none kV7 dc7 pm7 an7 cd7 ct7), sl7⟩) (c7 : PySem.W.codeIn K cd7 "is_part" = true) (k7 : PySem.W.keepIn K (.ref f7) = true)
    {f8 : Addr} {od8 an8 : Option Addr} {sl8 : Array (Option Value)} {oc8 kV8 dc8 pm8 cd8 ct8 : Value}
    (a8 : PySem.W.nsIn K mainGlobals "check_train" = some (some (.ref f8))) (l8 : K.lookup f8 = some ⟨oc8, od8, .func (PySem.W.fnOf "check_train" "check_train" (defArgs (topS 10)) (defBody (topS 10)) (defScope (topS 10)) .none kV8 dc8 pm8 an8 cd8 ct8), sl8⟩) (c8 : PySem.W.codeIn K cd8 "check_train" = true) (k8 : PySem.W.keepIn K (.ref f8) = true)
    {f9 : Addr} {od9 an9 : Option Addr} {sl9 : Array (Option Value)} {oc9 kV9 dc9 pm9 cd9 ct9 : Value}
    (a9 : PySem.W.nsIn K mainGlobals "places" = some (some (.ref f9))) (l9 : K.lookup f9 = some ⟨oc9, od9, .func (PySem.W.fnOf "places" "places" (defArgs (topS 11)) (defBody (topS 11)) (defScope (topS 11)) .none kV9 dc9 pm9 an9 cd9 ct9), sl9⟩) (c9 : PySem.W.codeIn K cd9 "places" = true) (k9 : PySem.W.keepIn K (.ref f9) = true)
    {f10 : Addr} {od10 an10 : Option Addr} {sl10 : Array (Option Value)} {oc10 kV10 dc10 pm10 cd10 ct10 : Value}
    (a10 : PySem.W.nsIn K mainGlobals "stands_of" = some (some (.ref f10))) (l10 : K.lookup f10 = some ⟨oc10, od10, .func (PySem.W.fnOf "stands_of" "stands_of" (defArgs (topS 18)) (defBody (topS 18)) (defScope (topS 18)) .none kV10 dc10 pm10 an10 cd10 ct10), sl10⟩) (c10 : PySem.W.codeIn K cd10 "stands_of" = true) (k10 : PySem.W.keepIn K (.ref f10) = true)
    {f11 : Addr} {od11 an11 : Option Addr} {sl11 : Array (Option Value)} {oc11 kV11 dc11 pm11 cd11 ct11 : Value}
    (a11 : PySem.W.nsIn K mainGlobals "is_deed" = some (some (.ref f11))) (l11 : K.lookup f11 = some ⟨oc11, od11, .func (PySem.W.fnOf "is_deed" "is_deed" (defArgs (topS 20)) (defBody (topS 20)) (defScope (topS 20)) .none kV11 dc11 pm11 an11 cd11 ct11), sl11⟩) (c11 : PySem.W.codeIn K cd11 "is_deed" = true) (k11 : PySem.W.keepIn K (.ref f11) = true)
    {f12 : Addr} {od12 an12 : Option Addr} {sl12 : Array (Option Value)} {oc12 kV12 dc12 pm12 cd12 ct12 : Value}
    (a12 : PySem.W.nsIn K mainGlobals "check_row" = some (some (.ref f12))) (l12 : K.lookup f12 = some ⟨oc12, od12, .func (PySem.W.fnOf "check_row" "check_row" (defArgs (topS 21)) (defBody (topS 21)) (defScope (topS 21)) .none kV12 dc12 pm12 an12 cd12 ct12), sl12⟩) (c12 : PySem.W.codeIn K cd12 "check_row" = true) (k12 : PySem.W.keepIn K (.ref f12) = true)
    {f13 : Addr} {od13 an13 : Option Addr} {sl13 : Array (Option Value)} {oc13 kV13 dc13 pm13 cd13 ct13 : Value}
    (a13 : PySem.W.nsIn K mainGlobals "marks_met" = some (some (.ref f13))) (l13 : K.lookup f13 = some ⟨oc13, od13, .func (PySem.W.fnOf "marks_met" "marks_met" (defArgs (topS 14)) (defBody (topS 14)) (defScope (topS 14)) .none kV13 dc13 pm13 an13 cd13 ct13), sl13⟩) (c13 : PySem.W.codeIn K cd13 "marks_met" = true) (k13 : PySem.W.keepIn K (.ref f13) = true)
    {f14 : Addr} {od14 an14 : Option Addr} {sl14 : Array (Option Value)} {oc14 kV14 dc14 pm14 cd14 ct14 : Value}
    (a14 : PySem.W.nsIn K mainGlobals "marks_left" = some (some (.ref f14))) (l14 : K.lookup f14 = some ⟨oc14, od14, .func (PySem.W.fnOf "marks_left" "marks_left" (defArgs (topS 15)) (defBody (topS 15)) (defScope (topS 15)) .none kV14 dc14 pm14 an14 cd14 ct14), sl14⟩) (c14 : PySem.W.codeIn K cd14 "marks_left" = true) (k14 : PySem.W.keepIn K (.ref f14) = true)
    {f15 : Addr} {od15 an15 : Option Addr} {sl15 : Array (Option Value)} {oc15 kV15 dc15 pm15 cd15 ct15 : Value}
    (a15 : PySem.W.nsIn K mainGlobals "part_pushed" = some (some (.ref f15))) (l15 : K.lookup f15 = some ⟨oc15, od15, .func (PySem.W.fnOf "part_pushed" "part_pushed" (defArgs (topS 16)) (defBody (topS 16)) (defScope (topS 16)) .none kV15 dc15 pm15 an15 cd15 ct15), sl15⟩) (c15 : PySem.W.codeIn K cd15 "part_pushed" = true) (k15 : PySem.W.keepIn K (.ref f15) = true)
    {f16 : Addr} {od16 an16 : Option Addr} {sl16 : Array (Option Value)} {oc16 kV16 dc16 pm16 cd16 ct16 : Value}
    (a16 : PySem.W.nsIn K mainGlobals "pushed_often" = some (some (.ref f16))) (l16 : K.lookup f16 = some ⟨oc16, od16, .func (PySem.W.fnOf "pushed_often" "pushed_often" (defArgs (topS 17)) (defBody (topS 17)) (defScope (topS 17)) .none kV16 dc16 pm16 an16 cd16 ct16), sl16⟩) (c16 : PySem.W.codeIn K cd16 "pushed_often" = true) (k16 : PySem.W.keepIn K (.ref f16) = true)
    {f17 : Addr} {od17 an17 : Option Addr} {sl17 : Array (Option Value)} {oc17 kV17 dc17 pm17 cd17 ct17 : Value}
    (a17 : PySem.W.nsIn K mainGlobals "walked" = some (some (.ref f17))) (l17 : K.lookup f17 = some ⟨oc17, od17, .func (PySem.W.fnOf "walked" "walked" (defArgs (topS 22)) (defBody (topS 22)) (defScope (topS 22)) .none kV17 dc17 pm17 an17 cd17 ct17), sl17⟩) (c17 : PySem.W.codeIn K cd17 "walked" = true) (k17 : PySem.W.keepIn K (.ref f17) = true)
    {f18 : Addr} {od18 an18 : Option Addr} {sl18 : Array (Option Value)} {oc18 kV18 dc18 pm18 cd18 ct18 : Value}
    (a18 : PySem.W.nsIn K mainGlobals "common" = some (some (.ref f18))) (l18 : K.lookup f18 = some ⟨oc18, od18, .func (PySem.W.fnOf "common" "common" (defArgs (topS 27)) (defBody (topS 27)) (defScope (topS 27)) .none kV18 dc18 pm18 an18 cd18 ct18), sl18⟩) (c18 : PySem.W.codeIn K cd18 "common" = true) (k18 : PySem.W.keepIn K (.ref f18) = true)
    {f19 : Addr} {od19 an19 : Option Addr} {sl19 : Array (Option Value)} {oc19 kV19 dc19 pm19 cd19 ct19 : Value}
    (a19 : PySem.W.nsIn K mainGlobals "tail_and_round" = some (some (.ref f19))) (l19 : K.lookup f19 = some ⟨oc19, od19, .func (PySem.W.fnOf "tail_and_round" "tail_and_round" (defArgs (topS 28)) (defBody (topS 28)) (defScope (topS 28)) .none kV19 dc19 pm19 an19 cd19 ct19), sl19⟩) (c19 : PySem.W.codeIn K cd19 "tail_and_round" = true) (k19 : PySem.W.keepIn K (.ref f19) = true)
    {f20 : Addr} {od20 an20 : Option Addr} {sl20 : Array (Option Value)} {oc20 kV20 dc20 pm20 cd20 ct20 : Value}
    (a20 : PySem.W.nsIn K mainGlobals "row_round" = some (some (.ref f20))) (l20 : K.lookup f20 = some ⟨oc20, od20, .func (PySem.W.fnOf "row_round" "row_round" (defArgs (topS 29)) (defBody (topS 29)) (defScope (topS 29)) .none kV20 dc20 pm20 an20 cd20 ct20), sl20⟩) (c20 : PySem.W.codeIn K cd20 "row_round" = true) (k20 : PySem.W.keepIn K (.ref f20) = true)
    {f21 : Addr} {od21 an21 : Option Addr} {sl21 : Array (Option Value)} {oc21 kV21 dc21 pm21 cd21 ct21 : Value}
    (a21 : PySem.W.nsIn K mainGlobals "is_stand" = some (some (.ref f21))) (l21 : K.lookup f21 = some ⟨oc21, od21, .func (PySem.W.fnOf "is_stand" "is_stand" (defArgs (topS 12)) (defBody (topS 12)) (defScope (topS 12)) .none kV21 dc21 pm21 an21 cd21 ct21), sl21⟩) (c21 : PySem.W.codeIn K cd21 "is_stand" = true) (k21 : PySem.W.keepIn K (.ref f21) = true)
    {f22 : Addr} {od22 an22 : Option Addr} {sl22 : Array (Option Value)} {oc22 kV22 dc22 pm22 cd22 ct22 : Value}
    (a22 : PySem.W.nsIn K mainGlobals "check_stand" = some (some (.ref f22))) (l22 : K.lookup f22 = some ⟨oc22, od22, .func (PySem.W.fnOf "check_stand" "check_stand" (defArgs (topS 13)) (defBody (topS 13)) (defScope (topS 13)) .none kV22 dc22 pm22 an22 cd22 ct22), sl22⟩) (c22 : PySem.W.codeIn K cd22 "check_stand" = true) (k22 : PySem.W.keepIn K (.ref f22) = true)
    {f23 : Addr} {od23 an23 : Option Addr} {sl23 : Array (Option Value)} {oc23 kV23 dc23 pm23 cd23 ct23 : Value}
    (a23 : PySem.W.nsIn K mainGlobals "left_often" = some (some (.ref f23))) (l23 : K.lookup f23 = some ⟨oc23, od23, .func (PySem.W.fnOf "left_often" "left_often" (defArgs (topS 24)) (defBody (topS 24)) (defScope (topS 24)) .none kV23 dc23 pm23 an23 cd23 ct23), sl23⟩) (c23 : PySem.W.codeIn K cd23 "left_often" = true) (k23 : PySem.W.keepIn K (.ref f23) = true)
    {f24 : Addr} {od24 an24 : Option Addr} {sl24 : Array (Option Value)} {oc24 kV24 dc24 pm24 cd24 ct24 : Value}
    (a24 : PySem.W.nsIn K mainGlobals "_law_same" = some (some (.ref f24))) (l24 : K.lookup f24 = some ⟨oc24, od24, .func (PySem.W.fnOf "_law_same" "_law_same" (defArgs (topS 39)) (defBody (topS 39)) (defScope (topS 39)) .none kV24 dc24 pm24 an24 cd24 ct24), sl24⟩) (c24 : PySem.W.codeIn K cd24 "_law_same" = true) (k24 : PySem.W.keepIn K (.ref f24) = true)
    {f25 : Addr} {od25 an25 : Option Addr} {sl25 : Array (Option Value)} {oc25 kV25 dc25 pm25 cd25 ct25 : Value}
    (a25 : PySem.W.nsIn K mainGlobals "_law_primes" = some (some (.ref f25))) (l25 : K.lookup f25 = some ⟨oc25, od25, .func (PySem.W.fnOf "_law_primes" "_law_primes" (defArgs (topS 40)) (defBody (topS 40)) (defScope (topS 40)) .none kV25 dc25 pm25 an25 cd25 ct25), sl25⟩) (c25 : PySem.W.codeIn K cd25 "_law_primes" = true) (k25 : PySem.W.keepIn K (.ref f25) = true)
    {f26 : Addr} {od26 an26 : Option Addr} {sl26 : Array (Option Value)} {oc26 kV26 dc26 pm26 cd26 ct26 : Value}
    (a26 : PySem.W.nsIn K mainGlobals "_law_round_right" = some (some (.ref f26))) (l26 : K.lookup f26 = some ⟨oc26, od26, .func (PySem.W.fnOf "_law_round_right" "_law_round_right" (defArgs (topS 41)) (defBody (topS 41)) (defScope (topS 41)) .none kV26 dc26 pm26 an26 cd26 ct26), sl26⟩) (c26 : PySem.W.codeIn K cd26 "_law_round_right" = true) (k26 : PySem.W.keepIn K (.ref f26) = true)
    {f27 : Addr} {od27 an27 : Option Addr} {sl27 : Array (Option Value)} {oc27 kV27 dc27 pm27 cd27 ct27 : Value}
    (a27 : PySem.W.nsIn K mainGlobals "left" = some (some (.ref f27))) (l27 : K.lookup f27 = some ⟨oc27, od27, .func (PySem.W.fnOf "left" "left" (defArgs (topS 23)) (defBody (topS 23)) (defScope (topS 23)) .none kV27 dc27 pm27 an27 cd27 ct27), sl27⟩) (c27 : PySem.W.codeIn K cd27 "left" = true) (k27 : PySem.W.keepIn K (.ref f27) = true)
    {f28 : Addr} {od28 an28 : Option Addr} {sl28 : Array (Option Value)} {oc28 kV28 dc28 pm28 cd28 ct28 : Value}
    (a28 : PySem.W.nsIn K mainGlobals "rows_alike" = some (some (.ref f28))) (l28 : K.lookup f28 = some ⟨oc28, od28, .func (PySem.W.fnOf "rows_alike" "rows_alike" (defArgs (topS 26)) (defBody (topS 26)) (defScope (topS 26)) .none kV28 dc28 pm28 an28 cd28 ct28), sl28⟩) (c28 : PySem.W.codeIn K cd28 "rows_alike" = true) (k28 : PySem.W.keepIn K (.ref f28) = true)
    {f29 : Addr} {od29 an29 : Option Addr} {sl29 : Array (Option Value)} {oc29 kV29 dc29 pm29 cd29 ct29 : Value}
    (a29 : PySem.W.nsIn K mainGlobals "_law_pair_right" = some (some (.ref f29))) (l29 : K.lookup f29 = some ⟨oc29, od29, .func (PySem.W.fnOf "_law_pair_right" "_law_pair_right" (defArgs (topS 42)) (defBody (topS 42)) (defScope (topS 42)) .none kV29 dc29 pm29 an29 cd29 ct29), sl29⟩) (c29 : PySem.W.codeIn K cd29 "_law_pair_right" = true) (k29 : PySem.W.keepIn K (.ref f29) = true)
    {f30 : Addr} {od30 an30 : Option Addr} {sl30 : Array (Option Value)} {oc30 kV30 dc30 pm30 cd30 ct30 : Value}
    (a30 : PySem.W.nsIn K mainGlobals "_law_cut" = some (some (.ref f30))) (l30 : K.lookup f30 = some ⟨oc30, od30, .func (PySem.W.fnOf "_law_cut" "_law_cut" (defArgs (topS 43)) (defBody (topS 43)) (defScope (topS 43)) .none kV30 dc30 pm30 an30 cd30 ct30), sl30⟩) (c30 : PySem.W.codeIn K cd30 "_law_cut" = true) (k30 : PySem.W.keepIn K (.ref f30) = true)
    {f31 : Addr} {od31 an31 : Option Addr} {sl31 : Array (Option Value)} {oc31 kV31 dc31 pm31 cd31 ct31 : Value}
    (a31 : PySem.W.nsIn K mainGlobals "law" = some (some (.ref f31))) (l31 : K.lookup f31 = some ⟨oc31, od31, .func (PySem.W.fnOf "law" "law" (defArgs (topS 44)) (defBody (topS 44)) (defScope (topS 44)) .none kV31 dc31 pm31 an31 cd31 ct31), sl31⟩) (c31 : PySem.W.codeIn K cd31 "law" = true) (k31 : PySem.W.keepIn K (.ref f31) = true)
    (z_all : PySem.W.nsIn K mainGlobals "all" = some none)
    (z_bool : PySem.W.nsIn K mainGlobals "bool" = some none)
    (z_int : PySem.W.nsIn K mainGlobals "int" = some none)
    (z_isinstance : PySem.W.nsIn K mainGlobals "isinstance" = some none)
    (z_len : PySem.W.nsIn K mainGlobals "len" = some none)
    (z_list : PySem.W.nsIn K mainGlobals "list" = some none)
    (z_max : PySem.W.nsIn K mainGlobals "max" = some none)
    (z_min : PySem.W.nsIn K mainGlobals "min" = some none)
    (z_range : PySem.W.nsIn K mainGlobals "range" = some none)
    (z_reversed : PySem.W.nsIn K mainGlobals "reversed" = some none)
    (z_str : PySem.W.nsIn K mainGlobals "str" = some none)
    (z_tuple : PySem.W.nsIn K mainGlobals "tuple" = some none)
    (z_zip : PySem.W.nsIn K mainGlobals "zip" = some none)
    {e_NoCount : Addr} (ea_NoCount : PySem.W.nsIn K mainGlobals "NoCount" = some (some (.ref e_NoCount))) (eb_NoCount : PySem.W.excIn K e_NoCount [.type "ValueError", .type "Exception", .type "BaseException", .type "object"] "ValueError.__new__" = true) (ek_NoCount : PySem.W.keepIn K (.ref e_NoCount) = true) (es_NoCount : PySem.W.subIn K (.ref e_NoCount) (.type "BaseException") = some true) (et_NoCount : PySem.W.typeIn K (.ref e_NoCount) = some (.type "type"))
    {e_NoRow : Addr} (ea_NoRow : PySem.W.nsIn K mainGlobals "NoRow" = some (some (.ref e_NoRow))) (eb_NoRow : PySem.W.excIn K e_NoRow [.type "ValueError", .type "Exception", .type "BaseException", .type "object"] "ValueError.__new__" = true) (ek_NoRow : PySem.W.keepIn K (.ref e_NoRow) = true) (es_NoRow : PySem.W.subIn K (.ref e_NoRow) (.type "BaseException") = some true) (et_NoRow : PySem.W.typeIn K (.ref e_NoRow) = some (.type "type"))
    {e_NoStand : Addr} (ea_NoStand : PySem.W.nsIn K mainGlobals "NoStand" = some (some (.ref e_NoStand))) (eb_NoStand : PySem.W.excIn K e_NoStand [.type "ValueError", .type "Exception", .type "BaseException", .type "object"] "ValueError.__new__" = true) (ek_NoStand : PySem.W.keepIn K (.ref e_NoStand) = true) (es_NoStand : PySem.W.subIn K (.ref e_NoStand) (.type "BaseException") = some true) (et_NoStand : PySem.W.typeIn K (.ref e_NoStand) = some (.type "type"))
    {e_NoTrain : Addr} (ea_NoTrain : PySem.W.nsIn K mainGlobals "NoTrain" = some (some (.ref e_NoTrain))) (eb_NoTrain : PySem.W.excIn K e_NoTrain [.type "ValueError", .type "Exception", .type "BaseException", .type "object"] "ValueError.__new__" = true) (ek_NoTrain : PySem.W.keepIn K (.ref e_NoTrain) = true) (es_NoTrain : PySem.W.subIn K (.ref e_NoTrain) (.type "BaseException") = some true) (et_NoTrain : PySem.W.typeIn K (.ref e_NoTrain) = some (.type "type"))
    : ∃ fd : FuncData, (∀ (s : Shared) (v : Value), BindsTo s fd ⟨[v], []⟩ [("_law_script", v)]) ∧ ∀ base : Heap, K.In base → base.Ns mainGlobals mg → FnG l.prog w K mg base 9 fa fd ["_law_script"] (spLaw K) := by
  have e := hfa.symm.trans (PySem.W.mg_of X G a31)
  cases e
  have T : Txt K mg (fun n => [].getD n 0) := ⟨⟨_, _, fun_mk (st := topS 32) l0 c0 k0, PySem.W.mg_of X G a0, (fun_mk (st := topS 32) l0 c0 k0).binds (ps := ["_law_cell", "_law_k"]) fun _ _ _ _ _ _ us hl => match us, hl with | [_, _], _ => rfl⟩,
    ⟨_, _, fun_mk (st := topS 34) l1 c1 k1, PySem.W.mg_of X G a1, (fun_mk (st := topS 34) l1 c1 k1).binds (ps := ["_law_part_here"]) fun _ _ _ _ _ _ us hl => match us, hl with | [_], _ => rfl⟩,
    ⟨_, _, fun_mk (st := topS 35) l2 c2 k2, PySem.W.mg_of X G a2, (fun_mk (st := topS 35) l2 c2 k2).binds (ps := ["_law_pick", "_law_most"]) fun _ _ _ _ _ _ us hl => match us, hl with | [_, _], _ => rfl⟩,
    ⟨_, _, fun_mk (st := topS 36) l3 c3 k3, PySem.W.mg_of X G a3, (fun_mk (st := topS 36) l3 c3 k3).binds (ps := ["_law_cell", "_law_place", "_law_most"]) fun _ _ _ _ _ _ us hl => match us, hl with | [_, _, _], _ => rfl⟩,
    ⟨_, _, fun_mk (st := topS 38) l4 c4 k4, PySem.W.mg_of X G a4, (fun_mk (st := topS 38) l4 c4 k4).binds (ps := ["_law_train_here", "_law_cell", "_law_place", "_law_most"]) fun _ _ _ _ _ _ us hl => match us, hl with | [_, _, _, _], _ => rfl⟩,
    ⟨_, _, fun_mk (st := topS 7) l5 c5 k5, PySem.W.mg_of X G a5, (fun_mk (st := topS 7) l5 c5 k5).binds (ps := ["thing"]) fun _ _ _ _ _ _ us hl => match us, hl with | [_], _ => rfl⟩,
    ⟨_, _, fun_mk (st := topS 8) l6 c6 k6, PySem.W.mg_of X G a6, (fun_mk (st := topS 8) l6 c6 k6).binds (ps := ["teeth", "thing"]) fun _ _ _ _ _ _ us hl => match us, hl with | [_, _], _ => rfl⟩,
    ⟨_, _, fun_mk (st := topS 9) l7 c7 k7, PySem.W.mg_of X G a7, (fun_mk (st := topS 9) l7 c7 k7).binds (ps := ["thing"]) fun _ _ _ _ _ _ us hl => match us, hl with | [_], _ => rfl⟩,
    ⟨_, _, fun_mk (st := topS 10) l8 c8 k8, PySem.W.mg_of X G a8, (fun_mk (st := topS 10) l8 c8 k8).binds (ps := ["train"]) fun _ _ _ _ _ _ us hl => match us, hl with | [_], _ => rfl⟩,
    ⟨_, _, fun_mk (st := topS 11) l9 c9 k9, PySem.W.mg_of X G a9, (fun_mk (st := topS 11) l9 c9 k9).binds (ps := ["part"]) fun _ _ _ _ _ _ us hl => match us, hl with | [_], _ => rfl⟩,
    ⟨_, _, fun_mk (st := topS 18) l10 c10 k10, PySem.W.mg_of X G a10, (fun_mk (st := topS 18) l10 c10 k10).binds (ps := ["train"]) fun _ _ _ _ _ _ us hl => match us, hl with | [_], _ => rfl⟩,
    ⟨_, _, fun_mk (st := topS 20) l11 c11 k11, PySem.W.mg_of X G a11, (fun_mk (st := topS 20) l11 c11 k11).binds (ps := ["train", "thing"]) fun _ _ _ _ _ _ us hl => match us, hl with | [_, _], _ => rfl⟩,
    ⟨_, _, fun_mk (st := topS 21) l12 c12 k12, PySem.W.mg_of X G a12, (fun_mk (st := topS 21) l12 c12 k12).binds (ps := ["train", "row"]) fun _ _ _ _ _ _ us hl => match us, hl with | [_, _], _ => rfl⟩,
    ⟨_, _, fun_mk (st := topS 14) l13 c13 k13, PySem.W.mg_of X G a13, (fun_mk (st := topS 14) l13 c13 k13).binds (ps := ["part", "place", "many"]) fun _ _ _ _ _ _ us hl => match us, hl with | [_, _, _], _ => rfl⟩,
    ⟨_, _, fun_mk (st := topS 15) l14 c14 k14, PySem.W.mg_of X G a14, (fun_mk (st := topS 15) l14 c14 k14).binds (ps := ["part", "place", "many"]) fun _ _ _ _ _ _ us hl => match us, hl with | [_, _, _], _ => rfl⟩,
    ⟨_, _, fun_mk (st := topS 16) l15 c15 k15, PySem.W.mg_of X G a15, (fun_mk (st := topS 16) l15 c15 k15).binds (ps := ["part", "place", "way", "many"]) fun _ _ _ _ _ _ us hl => match us, hl with | [_, _, _, _], _ => rfl⟩,
    ⟨_, _, fun_mk (st := topS 17) l16 c16 k16, PySem.W.mg_of X G a16, (fun_mk (st := topS 17) l16 c16 k16).binds (ps := ["train", "stand", "i", "way", "many"]) fun _ _ _ _ _ _ us hl => match us, hl with | [_, _, _, _, _], _ => rfl⟩,
    ⟨_, _, fun_mk (st := topS 22) l17 c17 k17, PySem.W.mg_of X G a17, (fun_mk (st := topS 22) l17 c17 k17).binds (ps := ["train", "stand", "row"]) fun _ _ _ _ _ _ us hl => match us, hl with | [_, _, _], _ => rfl⟩,
    ⟨_, _, fun_mk (st := topS 27) l18 c18 k18, PySem.W.mg_of X G a18, (fun_mk (st := topS 27) l18 c18 k18).binds (ps := ["one", "other"]) fun _ _ _ _ _ _ us hl => match us, hl with | [_, _], _ => rfl⟩,
    ⟨_, _, fun_mk (st := topS 28) l19 c19 k19, PySem.W.mg_of X G a19, (fun_mk (st := topS 28) l19 c19 k19).binds (ps := ["after", "known", "start"]) fun _ _ _ _ _ _ us hl => match us, hl with | [_, _, _], _ => rfl⟩,
    ⟨_, _, fun_mk (st := topS 29) l20 c20 k20, PySem.W.mg_of X G a20, (fun_mk (st := topS 29) l20 c20 k20).binds (ps := ["train", "row"]) fun _ _ _ _ _ _ us hl => match us, hl with | [_, _], _ => rfl⟩,
    ⟨_, _, fun_mk (st := topS 12) l21 c21 k21, PySem.W.mg_of X G a21, (fun_mk (st := topS 12) l21 c21 k21).binds (ps := ["train", "thing"]) fun _ _ _ _ _ _ us hl => match us, hl with | [_, _], _ => rfl⟩,
    ⟨_, _, fun_mk (st := topS 13) l22 c22 k22, PySem.W.mg_of X G a22, (fun_mk (st := topS 13) l22 c22 k22).binds (ps := ["train", "stand"]) fun _ _ _ _ _ _ us hl => match us, hl with | [_, _], _ => rfl⟩,
    ⟨_, _, fun_mk (st := topS 24) l23 c23 k23, PySem.W.mg_of X G a23, (fun_mk (st := topS 24) l23 c23 k23).binds (ps := ["train", "stand", "row", "times"]) fun _ _ _ _ _ _ us hl => match us, hl with | [_, _, _, _], _ => rfl⟩,
    ⟨_, _, fun_mk (st := topS 39) l24 c24 k24, PySem.W.mg_of X G a24, (fun_mk (st := topS 39) l24 c24 k24).binds (ps := ["_law_train_here", "_law_row_here", "_law_one", "_law_other"]) fun _ _ _ _ _ _ us hl => match us, hl with | [_, _, _, _], _ => rfl⟩,
    ⟨_, _, fun_mk (st := topS 40) l25 c25 k25, PySem.W.mg_of X G a25, (fun_mk (st := topS 40) l25 c25 k25).binds (ps := ["_law_number"]) fun _ _ _ _ _ _ us hl => match us, hl with | [_], _ => rfl⟩,
    ⟨_, _, fun_mk (st := topS 41) l26 c26 k26, PySem.W.mg_of X G a26, (fun_mk (st := topS 41) l26 c26 k26).binds (ps := ["_law_train_here", "_law_row_here", "_law_many"]) fun _ _ _ _ _ _ us hl => match us, hl with | [_, _, _], _ => rfl⟩,
    ⟨_, _, fun_mk (st := topS 23) l27 c27 k27, PySem.W.mg_of X G a27, (fun_mk (st := topS 23) l27 c27 k27).binds (ps := ["train", "stand", "row"]) fun _ _ _ _ _ _ us hl => match us, hl with | [_, _, _], _ => rfl⟩,
    ⟨_, _, fun_mk (st := topS 26) l28 c28 k28, PySem.W.mg_of X G a28, (fun_mk (st := topS 26) l28 c28 k28).binds (ps := ["train", "one", "other"]) fun _ _ _ _ _ _ us hl => match us, hl with | [_, _, _], _ => rfl⟩,
    ⟨_, _, fun_mk (st := topS 42) l29 c29 k29, PySem.W.mg_of X G a29, (fun_mk (st := topS 42) l29 c29 k29).binds (ps := ["_law_train_here", "_law_one", "_law_other", "_law_third"]) fun _ _ _ _ _ _ us hl => match us, hl with | [_, _, _, _], _ => rfl⟩,
    ⟨_, _, fun_mk (st := topS 43) l30 c30 k30, PySem.W.mg_of X G a30, (fun_mk (st := topS 43) l30 c30 k30).binds (ps := ["_law_script"]) fun _ _ _ _ _ _ us hl => match us, hl with | [_], _ => rfl⟩,
    PySem.W.mg_none_of X G z_all,
    PySem.W.mg_none_of X G z_bool,
    PySem.W.mg_none_of X G z_int,
    PySem.W.mg_none_of X G z_isinstance,
    PySem.W.mg_none_of X G z_len,
    PySem.W.mg_none_of X G z_list,
    PySem.W.mg_none_of X G z_max,
    PySem.W.mg_none_of X G z_min,
    PySem.W.mg_none_of X G z_range,
    PySem.W.mg_none_of X G z_reversed,
    PySem.W.mg_none_of X G z_str,
    PySem.W.mg_none_of X G z_tuple,
    PySem.W.mg_none_of X G z_zip,
    ⟨_, PySem.W.mg_of X G ea_NoCount, eb_NoCount, ek_NoCount, es_NoCount, et_NoCount⟩,
    ⟨_, PySem.W.mg_of X G ea_NoRow, eb_NoRow, ek_NoRow, es_NoRow, et_NoRow⟩,
    ⟨_, PySem.W.mg_of X G ea_NoStand, eb_NoStand, ek_NoStand, es_NoStand, et_NoStand⟩,
    ⟨_, PySem.W.mg_of X G ea_NoTrain, eb_NoTrain, ek_NoTrain, es_NoTrain, et_NoTrain⟩⟩
  exact ⟨PySem.W.fnOf "law" "law" (defArgs (topS 44)) (defBody (topS 44)) (defScope (topS 44)) .none kV31 dc31 pm31 an31 cd31 ct31, fun s v => .of_eq rfl, fun base _ _ => (fn_law T (fun_mk (st := topS 44) l31 c31 k31)).imp (law_sp law_true)⟩
end CK
open PySem PySem.W PyProof.Rows
set_option maxRecDepth 100000 in
set_option maxHeartbeats 0 in
theorem PySem.Challenge.cw_clicktrain_k13_whole_rows_come_round_holds : PySem.Challenge.rw_clicktrain_k13_whole_rows_come_round.Holds := by
  w_on; o_law; k_head; (case hw => w_witness2)
  k_fill
  refine CT.walk_ofG (l := PySem.Challenge.rw_clicktrain_k13_whole_rows_come_round) (n := 63) (k := 9) (x := "_law_script") (sp := fun w => CT.spLaw _) rfl (by decide) rfl ⟨rfl, by decide, by decide⟩ (fun w h Y => PySem.W.kIn_of Y) ?F (fun _ _ a ns hl _ hS => ⟨a, ns, rfl, hS, hl, fun _ => rfl⟩) (fun _ _ _ _ _ h => CT.cx_no h)
  case F =>
    intro w mg fa h KX G hmg
    refine' CK.all_mk KX G hmg ?a0 ?l0 ?c0 ?k0 ?a1 ?l1 ?c1 ?k1 ?a2 ?l2 ?c2 ?k2 ?a3 ?l3 ?c3 ?k3 ?a4 ?l4 ?c4 ?k4 ?a5 ?l5 ?c5 ?k5 ?a6 ?l6 ?c6 ?k6 ?a7 ?l7 ?c7 ?k7 ?a8 ?l8 ?c8 ?k8 ?a9 ?l9 ?c9 ?k9 ?a10 ?l10 ?c10 ?k10 ?a11 ?l11 ?c11 ?k11 ?a12 ?l12 ?c12 ?k12 ?a13 ?l13 ?c13 ?k13 ?a14 ?l14 ?c14 ?k14 ?a15 ?l15 ?c15 ?k15 ?a16 ?l16 ?c16 ?k16 ?a17 ?l17 ?c17 ?k17 ?a18 ?l18 ?c18 ?k18 ?a19 ?l19 ?c19 ?k19 ?a20 ?l20 ?c20 ?k20 ?a21 ?l21 ?c21 ?k21 ?a22 ?l22 ?c22 ?k22 ?a23 ?l23 ?c23 ?k23 ?a24 ?l24 ?c24 ?k24 ?a25 ?l25 ?c25 ?k25 ?a26 ?l26 ?c26 ?k26 ?a27 ?l27 ?c27 ?k27 ?a28 ?l28 ?c28 ?k28 ?a29 ?l29 ?c29 ?k29 ?a30 ?l30 ?c30 ?k30 ?a31 ?l31 ?c31 ?k31 ?z_all ?z_bool ?z_int ?z_isinstance ?z_len ?z_list ?z_max ?z_min ?z_range ?z_reversed ?z_str ?z_tuple ?z_zip ?ea_NoCount ?eb_NoCount ?ek_NoCount ?es_NoCount ?et_NoCount ?ea_NoRow ?eb_NoRow ?ek_NoRow ?es_NoRow ?et_NoRow ?ea_NoStand ?eb_NoStand ?ek_NoStand ?es_NoStand ?et_NoStand ?ea_NoTrain ?eb_NoTrain ?ek_NoTrain ?es_NoTrain ?et_NoTrain
    (case a0 => k_is); (case l0 => k_is); (case c0 => k_is); (case k0 => k_is); (case a1 => k_is); (case l1 => k_is); (case c1 => k_is); (case k1 => k_is); (case a2 => k_is); (case l2 => k_is); (case c2 => k_is); (case k2 => k_is); (case a3 => k_is); (case l3 => k_is); (case c3 => k_is); (case k3 => k_is); (case a4 => k_is); (case l4 => k_is); (case c4 => k_is); (case k4 => k_is); (case a5 => k_is); (case l5 => k_is); (case c5 => k_is); (case k5 => k_is); (case a6 => k_is); (case l6 => k_is); (case c6 => k_is); (case k6 => k_is); (case a7 => k_is); (case l7 => k_is); (case c7 => k_is); (case k7 => k_is); (case a8 => k_is); (case l8 => k_is); (case c8 => k_is); (case k8 => k_is); (case a9 => k_is); (case l9 => k_is); (case c9 => k_is); (case k9 => k_is); (case a10 => k_is); (case l10 => k_is); (case c10 => k_is); (case k10 => k_is); (case a11 => k_is); (case l11 => k_is); (case c11 => k_is); (case k11 => k_is); (case a12 => k_is); (case l12 => k_is); (case c12 => k_is); (case k12 => k_is); (case a13 => k_is); (case l13 => k_is); (case c13 => k_is); (case k13 => k_is); (case a14 => k_is); (case l14 => k_is); (case c14 => k_is); (case k14 => k_is); (case a15 => k_is); (case l15 => k_is); (case c15 => k_is); (case k15 => k_is); (case a16 => k_is); (case l16 => k_is); (case c16 => k_is); (case k16 => k_is); (case a17 => k_is); (case l17 => k_is); (case c17 => k_is); (case k17 => k_is); (case a18 => k_is); (case l18 => k_is); (case c18 => k_is); (case k18 => k_is); (case a19 => k_is); (case l19 => k_is); (case c19 => k_is); (case k19 => k_is); (case a20 => k_is); (case l20 => k_is); (case c20 => k_is); (case k20 => k_is); (case a21 => k_is); (case l21 => k_is); (case c21 => k_is); (case k21 => k_is); (case a22 => k_is); (case l22 => k_is); (case c22 => k_is); (case k22 => k_is); (case a23 => k_is); (case l23 => k_is); (case c23 => k_is); (case k23 => k_is); (case a24 => k_is); (case l24 => k_is); (case c24 => k_is); (case k24 => k_is); (case a25 => k_is); (case l25 => k_is); (case c25 => k_is); (case k25 => k_is); (case a26 => k_is); (case l26 => k_is); (case c26 => k_is); (case k26 => k_is); (case a27 => k_is); (case l27 => k_is); (case c27 => k_is); (case k27 => k_is); (case a28 => k_is); (case l28 => k_is); (case c28 => k_is); (case k28 => k_is); (case a29 => k_is); (case l29 => k_is); (case c29 => k_is); (case k29 => k_is); (case a30 => k_is); (case l30 => k_is); (case c30 => k_is); (case k30 => k_is); (case a31 => k_is); (case l31 => k_is); (case c31 => k_is); (case k31 => k_is); (case z_all => k_is); (case z_bool => k_is); (case z_int => k_is); (case z_isinstance => k_is); (case z_len => k_is); (case z_list => k_is); (case z_max => k_is); (case z_min => k_is); (case z_range => k_is); (case z_reversed => k_is); (case z_str => k_is); (case z_tuple => k_is); (case z_zip => k_is); (case ea_NoCount => k_is); (case eb_NoCount => k_exc); (case ek_NoCount => k_is); (case es_NoCount => k_is); (case et_NoCount => k_is); (case ea_NoRow => k_is); (case eb_NoRow => k_exc); (case ek_NoRow => k_is); (case es_NoRow => k_is); (case et_NoRow => k_is); (case ea_NoStand => k_is); (case eb_NoStand => k_exc); (case ek_NoStand => k_is); (case es_NoStand => k_is); (case et_NoStand => k_is); (case ea_NoTrain => k_is); (case eb_NoTrain => k_exc); (case ek_NoTrain => k_is); (case es_NoTrain => k_is); (case et_NoTrain => k_is)
